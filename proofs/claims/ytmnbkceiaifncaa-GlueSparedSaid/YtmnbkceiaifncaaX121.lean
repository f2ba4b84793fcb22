/- With just so many minutes less, or so much less in the pot, as a plan spares, it is still good; with one more less it is not: for every valid day, and at least one panel, all of which can surely be laid, and any plan by numbers. No condition. -/
import Derived.Test.YtmnbkceiaifncaaB5
set_option linter.unusedVariables false
set_option linter.unusedSimpArgs false
set_option linter.unusedSectionVars false
set_option linter.unusedVariables false
namespace Go.Gl
theorem wB1 : batR dW pW true [1, 2] = (30, 7, 0) := by decide +kernel
theorem wB2 : batR dW pW true [0, 2] = (0, 0, 22) := by decide +kernel
theorem wB3 : batR dW pW false [0, 1, 2, 3] = (0, 0, 10) := by decide +kernel
theorem wB4 : batR dW pW false [2, 1] = (0, 0, 2) := by decide +kernel
theorem wE1 : rowE dW pW true = 0 := by decide +kernel
theorem wE2 : rowE dW pW false = 0 := by decide +kernel
theorem wR1 : rwL dW pW true = [0, 0, 1, 1, 2] := by decide +kernel
theorem wR2 : rwL dW pW false = [0, 0, 0, 1, 1] := by decide +kernel
theorem wC1 : plR dW pW true [0, 1, 1, 1, 2] true = (0, 22) := by decide +kernel
theorem wC2 : plR dW pW true [0, 0, 2, 2, 2] true = (0, 16) := by decide +kernel
theorem wC3 : plR dW pW true [0, 0, 1] true = (0, 15) := by decide +kernel
theorem wM1 : mkR dW pW true [0, 2, 4] = (3, 0) := by decide +kernel
theorem wM2 : mkR dW pW true [0, 1, 2] = (0, 14) := by decide +kernel
theorem wM3 : mkR dW pW true (mkkL dW pW true) = (3, 0) := by decide +kernel
theorem wP1 : pnL dW pW true = [0, 1, 1, 0, 0] := by decide +kernel
theorem wP2 : plR dW pW true [0, 1, 1, 0, 0] false = (2, 0) := by decide +kernel
theorem wP3 : plR dW pW true [0, 2, 1, 0, 0] false = (0, 16) := by decide +kernel
theorem wD1 : bdR dW pW true = (2, 0) := by decide +kernel
theorem wO0 : bothE dW pW = 0 := by decide +kernel
theorem wA1 : apG (bn dW pW true) pW.length [] [] = [0, 2] := by decide +kernel
theorem wA2 : apR dW pW true [2, 4] = 0 := by decide +kernel
theorem wA3 : apR dW pW true [1, 2] = 16 := by decide +kernel
theorem wS1 : spR dW pW true [0, 0, 1, 1, 2] = (4, 4, 0) := by decide +kernel
end Go.Gl
namespace Go.Proofs.Ytmnbkceiaifncaa
open Go.Lw Go.Gl Go.RowKit
set_option maxRecDepth 20000 in
theorem works_f (V : View) : Fnc Try.prog 18 [] V fun r _ => r = .bool true := by
  refine fn_of Try.func18 rfl Try.ntmps18 (Nat.le_of_ble_eq_true rfl) ?_
  intro w0 hw0
  refine At.nrm ?_
  refine At.ktext (.q 0 .done) ?_
  refine AtT.kassign ?_
  refine AtT.done ?_
  refine At.nrm ?_
  refine At.ktext (.n false 0 (.n false 1 (.n false 2 (.n true 3 (.q 4 .done))))) ?_
  refine AtT.kcallP rfl rfl ok54 (warm_f _) ?_
  rintro _ rfl
  refine AtT.kcall rfl rfl ok55 (five_f _) ?_
  rintro _ V1 hV1 ⟨a2, c2, rfl, hs⟩
  refine AtT.kalloc z25 ?_
  intro b1
  refine AtT.kstoreA tk25 ?_
  refine AtT.kassign ?_
  refine AtT.done ?_
  refine At.nrm ?_
  refine At.draw (.q 0 (.q 1 (.n false 2 (.n false 3 (.n false 4 (.q 5 (.q 6 (.q 7 (.q 8 (.q 9 (.q 10 (.q 11 .done)))))))))))) ffm (by kernel_rfl) ?_
  first | refine AtT.kloadOA tk25 ?_ | refine AtT.kloadA tk25 ?_ | refine AtT.kloadOP tk25 ?_
  refine AtT.kmove ?_
  refine AtT.kbsliceG (bs27_2_0_1 _ _) ?_
  intro q53 V53 hV53 hq53
  refine AtT.kcallP rfl rfl ok56 (of56_f _ _) ?_
  rintro _ rfl
  refine AtT.kcallP rfl rfl ok19 (checkBatch_f dW pW true [1, 2] _ _ _ (hs.le hV53) (Sl.lit hq53 rfl (by simp))) ?_
  rintro _ rfl; rw [wB1]
  refine AtT.kmove ?_
  refine AtT.kextract ?_
  refine AtT.kextract ?_
  refine AtT.kextract ?_
  refine AtT.kassign ?_
  refine AtT.kassign ?_
  refine AtT.kassign ?_
  refine AtT.done ?_
  refine At.nrm ?_
  replace hs := hs.le hV53
  refine At.draw (.q 0 (.q 1 (.n false 2 (.n false 3 (.n false 4 (.q 5 (.q 6 (.q 7 (.q 8 (.q 9 (.q 10 (.q 11 .done)))))))))))) ffm (by kernel_rfl) ?_
  first | refine AtT.kloadOA tk25 ?_ | refine AtT.kloadA tk25 ?_ | refine AtT.kloadOP tk25 ?_
  refine AtT.kmove ?_
  refine AtT.kbsliceG (bs27_2_0_1 _ _) ?_
  intro q62 V62 hV62 hq62
  refine AtT.kcallP rfl rfl ok56 (of56_f _ _) ?_
  rintro _ rfl
  refine AtT.kcallP rfl rfl ok19 (checkBatch_f dW pW true [0, 2] _ _ _ (hs.le hV62) (Sl.lit hq62 rfl (by simp))) ?_
  rintro _ rfl; rw [wB2]
  refine AtT.kmove ?_
  refine AtT.kextract ?_
  refine AtT.kextract ?_
  refine AtT.kextract ?_
  refine AtT.kassign ?_
  refine AtT.kassign ?_
  refine AtT.kassign ?_
  refine AtT.done ?_
  refine At.nrm ?_
  replace hs := hs.le hV62
  refine At.draw (.q 0 (.q 1 (.n false 2 (.n false 3 (.n false 4 (.q 5 (.q 6 (.q 7 (.q 8 (.q 9 (.q 10 (.q 11 .done)))))))))))) ffm (by kernel_rfl) ?_
  first | refine AtT.kloadOA tk25 ?_ | refine AtT.kloadA tk25 ?_ | refine AtT.kloadOP tk25 ?_
  refine AtT.kmove ?_
  refine AtT.kbsliceG (bs27_4_0_1_2_3 _ _ _ _) ?_
  intro q71 V71 hV71 hq71
  refine AtT.kcallP rfl rfl ok56 (of56_f _ _) ?_
  rintro _ rfl
  refine AtT.kcallP rfl rfl ok19 (checkBatch_f dW pW false [0, 1, 2, 3] _ _ _ (hs.le hV71) (Sl.lit hq71 rfl (by simp))) ?_
  rintro _ rfl; rw [wB3]
  refine AtT.kmove ?_
  refine AtT.kextract ?_
  refine AtT.kextract ?_
  refine AtT.kextract ?_
  refine AtT.kassign ?_
  refine AtT.kassign ?_
  refine AtT.kassign ?_
  refine AtT.done ?_
  refine At.nrm ?_
  replace hs := hs.le hV71
  refine At.draw (.q 0 (.q 1 (.n false 2 (.n false 3 (.n false 4 (.q 5 (.q 6 (.q 7 (.q 8 (.q 9 (.q 10 (.q 11 .done)))))))))))) ffm (by kernel_rfl) ?_
  first | refine AtT.kloadOA tk25 ?_ | refine AtT.kloadA tk25 ?_ | refine AtT.kloadOP tk25 ?_
  refine AtT.kmove ?_
  refine AtT.kbsliceG (bs27_2_0_1 _ _) ?_
  intro q80 V80 hV80 hq80
  refine AtT.kcallP rfl rfl ok56 (of56_f _ _) ?_
  rintro _ rfl
  refine AtT.kcallP rfl rfl ok19 (checkBatch_f dW pW false [2, 1] _ _ _ (hs.le hV80) (Sl.lit hq80 rfl (by simp))) ?_
  rintro _ rfl; rw [wB4]
  refine AtT.kmove ?_
  refine AtT.kextract ?_
  refine AtT.kextract ?_
  refine AtT.kextract ?_
  refine AtT.kassign ?_
  refine AtT.kassign ?_
  refine AtT.kassign ?_
  refine AtT.done ?_
  refine At.nrm ?_
  replace hs := hs.le hV80
  refine At.ktext (.q 0 (.q 1 (.n false 2 (.q 3 (.q 4 (.q 5 (.q 6 (.q 7 .done)))))))) ?_
  first | refine AtT.kloadOA tk25 ?_ | refine AtT.kloadA tk25 ?_ | refine AtT.kloadOP tk25 ?_
  refine AtT.kmove ?_
  refine AtT.kcall rfl rfl ok27 (row_f dW pW true _ _ hs) ?_
  rintro _ V89 hV89 ⟨u89, rfl, hu89⟩; rw [wE1]
  refine AtT.kmove ?_
  refine AtT.kextract ?_
  refine AtT.kextract ?_
  refine AtT.kassign ?_
  refine AtT.kassign ?_
  refine AtT.done ?_
  refine At.nrm ?_
  rw [wR1] at hu89
  replace hs := hs.le hV89
  refine At.ktext (.q 0 (.q 1 (.n false 2 (.q 3 (.q 4 (.q 5 (.q 6 (.q 7 .done)))))))) ?_
  first | refine AtT.kloadOA tk25 ?_ | refine AtT.kloadA tk25 ?_ | refine AtT.kloadOP tk25 ?_
  refine AtT.kmove ?_
  refine AtT.kcall rfl rfl ok27 (row_f dW pW false _ _ hs) ?_
  rintro _ V95 hV95 ⟨u95, rfl, hu95⟩; rw [wE2]
  refine AtT.kmove ?_
  refine AtT.kextract ?_
  refine AtT.kextract ?_
  refine AtT.kassign ?_
  refine AtT.kassign ?_
  refine AtT.done ?_
  refine At.nrm ?_
  rw [wR2] at hu95
  replace hs := hs.le hV95
  replace hu89 := hu89.le hV95
  refine At.draw (.q 0 (.q 1 (.n false 2 (.n false 3 (.n false 4 (.q 5 (.q 6 (.q 7 (.q 8 (.q 9 .done)))))))))) ffm (by kernel_rfl) ?_
  first | refine AtT.kloadOA tk25 ?_ | refine AtT.kloadA tk25 ?_ | refine AtT.kloadOP tk25 ?_
  refine AtT.kmove ?_
  refine AtT.kbsliceG (bs27_5_0_1_2_3_4 _ _ _ _ _) ?_
  intro q101 V101 hV101 hq101
  refine AtT.kcallP rfl rfl ok56 (of56_f _ _) ?_
  rintro _ rfl
  refine AtT.kcallP rfl rfl ok25 (checkRow_f dW pW true [0, 1, 1, 1, 2] _ _ _ (hs.le hV101) (Sl.lit hq101 rfl (by simp))) ?_
  rintro _ rfl; rw [wC1]
  refine AtT.kmove ?_
  refine AtT.kextract ?_
  refine AtT.kextract ?_
  refine AtT.kassign ?_
  refine AtT.kassign ?_
  refine AtT.done ?_
  refine At.nrm ?_
  replace hs := hs.le hV101
  replace hu89 := hu89.le hV101
  replace hu95 := hu95.le hV101
  refine At.draw (.q 0 (.q 1 (.n false 2 (.n false 3 (.n false 4 (.q 5 (.q 6 (.q 7 (.q 8 (.q 9 .done)))))))))) ffm (by kernel_rfl) ?_
  first | refine AtT.kloadOA tk25 ?_ | refine AtT.kloadA tk25 ?_ | refine AtT.kloadOP tk25 ?_
  refine AtT.kmove ?_
  refine AtT.kbsliceG (bs27_5_0_1_2_3_4 _ _ _ _ _) ?_
  intro q109 V109 hV109 hq109
  refine AtT.kcallP rfl rfl ok56 (of56_f _ _) ?_
  rintro _ rfl
  refine AtT.kcallP rfl rfl ok25 (checkRow_f dW pW true [0, 0, 2, 2, 2] _ _ _ (hs.le hV109) (Sl.lit hq109 rfl (by simp))) ?_
  rintro _ rfl; rw [wC2]
  refine AtT.kmove ?_
  refine AtT.kextract ?_
  refine AtT.kextract ?_
  refine AtT.kassign ?_
  refine AtT.kassign ?_
  refine AtT.done ?_
  refine At.nrm ?_
  replace hs := hs.le hV109
  replace hu89 := hu89.le hV109
  replace hu95 := hu95.le hV109
  refine At.draw (.q 0 (.q 1 (.n false 2 (.n false 3 (.n false 4 (.q 5 (.q 6 (.q 7 (.q 8 (.q 9 .done)))))))))) ffm (by kernel_rfl) ?_
  first | refine AtT.kloadOA tk25 ?_ | refine AtT.kloadA tk25 ?_ | refine AtT.kloadOP tk25 ?_
  refine AtT.kmove ?_
  refine AtT.kbsliceG (bs27_3_0_1_2 _ _ _) ?_
  intro q117 V117 hV117 hq117
  refine AtT.kcallP rfl rfl ok56 (of56_f _ _) ?_
  rintro _ rfl
  refine AtT.kcallP rfl rfl ok25 (checkRow_f dW pW true [0, 0, 1] _ _ _ (hs.le hV117) (Sl.lit hq117 rfl (by simp))) ?_
  rintro _ rfl; rw [wC3]
  refine AtT.kmove ?_
  refine AtT.kextract ?_
  refine AtT.kextract ?_
  refine AtT.kassign ?_
  refine AtT.kassign ?_
  refine AtT.done ?_
  refine At.nrm ?_
  replace hs := hs.le hV117
  replace hu89 := hu89.le hV117
  replace hu95 := hu95.le hV117
  refine At.draw (.q 0 (.q 1 (.n false 2 (.n false 3 (.n false 4 (.q 5 (.q 6 (.q 7 (.q 8 (.q 9 .done)))))))))) ffm (by kernel_rfl) ?_
  first | refine AtT.kloadOA tk25 ?_ | refine AtT.kloadA tk25 ?_ | refine AtT.kloadOP tk25 ?_
  refine AtT.kmove ?_
  refine AtT.kbsliceG (bs27_3_0_1_2 _ _ _) ?_
  intro q125 V125 hV125 hq125
  refine AtT.kcallP rfl rfl ok56 (of56_f _ _) ?_
  rintro _ rfl
  refine AtT.kcallP rfl rfl ok29 (checkMarks_f dW pW true [0, 2, 4] _ _ _ (hs.le hV125) (Sl.lit hq125 rfl (by simp))) ?_
  rintro _ rfl; rw [wM1]
  refine AtT.kmove ?_
  refine AtT.kextract ?_
  refine AtT.kextract ?_
  refine AtT.kassign ?_
  refine AtT.kassign ?_
  refine AtT.done ?_
  refine At.nrm ?_
  replace hs := hs.le hV125
  replace hu89 := hu89.le hV125
  replace hu95 := hu95.le hV125
  refine At.draw (.q 0 (.q 1 (.n false 2 (.n false 3 (.n false 4 (.q 5 (.q 6 (.q 7 (.q 8 (.q 9 .done)))))))))) ffm (by kernel_rfl) ?_
  first | refine AtT.kloadOA tk25 ?_ | refine AtT.kloadA tk25 ?_ | refine AtT.kloadOP tk25 ?_
  refine AtT.kmove ?_
  refine AtT.kbsliceG (bs27_3_0_1_2 _ _ _) ?_
  intro q133 V133 hV133 hq133
  refine AtT.kcallP rfl rfl ok56 (of56_f _ _) ?_
  rintro _ rfl
  refine AtT.kcallP rfl rfl ok29 (checkMarks_f dW pW true [0, 1, 2] _ _ _ (hs.le hV133) (Sl.lit hq133 rfl (by simp))) ?_
  rintro _ rfl; rw [wM2]
  refine AtT.kmove ?_
  refine AtT.kextract ?_
  refine AtT.kextract ?_
  refine AtT.kassign ?_
  refine AtT.kassign ?_
  refine AtT.done ?_
  refine At.nrm ?_
  replace hs := hs.le hV133
  replace hu89 := hu89.le hV133
  replace hu95 := hu95.le hV133
  refine At.ktext (.q 0 (.q 1 (.n false 2 (.q 3 (.q 4 (.q 5 (.q 6 (.q 7 .done)))))))) ?_
  first | refine AtT.kloadOA tk25 ?_ | refine AtT.kloadA tk25 ?_ | refine AtT.kloadOP tk25 ?_
  refine AtT.kmove ?_
  refine AtT.kcall rfl rfl ok31 (marksF_f dW pW true _ _ hs) ?_
  rintro _ V141 hV141 ⟨u141, rfl, hu141⟩; rw [wE1]
  refine AtT.kmove ?_
  refine AtT.kextract ?_
  refine AtT.kextract ?_
  refine AtT.kassign ?_
  refine AtT.kassign ?_
  refine AtT.done ?_
  refine At.nrm ?_
  replace hs := hs.le hV141
  replace hu89 := hu89.le hV141
  replace hu95 := hu95.le hV141
  refine At.ktext (.q 0 (.q 1 (.n false 2 (.q 3 (.q 4 (.q 5 (.q 6 (.q 7 .done)))))))) ?_
  first | refine AtT.kloadOA tk25 ?_ | refine AtT.kloadA tk25 ?_ | refine AtT.kloadOP tk25 ?_
  refine AtT.kmove ?_
  refine AtT.kcall rfl rfl ok36 (plan_f dW pW true _ _ hs) ?_
  rintro _ V147 hV147 ⟨u147, rfl, hu147⟩; rw [wE1]
  refine AtT.kmove ?_
  refine AtT.kextract ?_
  refine AtT.kextract ?_
  refine AtT.kassign ?_
  refine AtT.kassign ?_
  refine AtT.done ?_
  refine At.nrm ?_
  rw [wP1] at hu147
  replace hs := hs.le hV147
  replace hu89 := hu89.le hV147
  replace hu95 := hu95.le hV147
  replace hu141 := hu141.le hV147
  refine At.draw (.q 0 (.q 1 (.n false 2 (.n false 3 (.n false 4 (.q 5 (.q 6 (.q 7 (.q 8 (.q 9 .done)))))))))) ffm (by kernel_rfl) ?_
  first | refine AtT.kloadOA tk25 ?_ | refine AtT.kloadA tk25 ?_ | refine AtT.kloadOP tk25 ?_
  refine AtT.kmove ?_
  refine AtT.kbsliceG (bs27_5_0_1_2_3_4 _ _ _ _ _) ?_
  intro q153 V153 hV153 hq153
  refine AtT.kcallP rfl rfl ok56 (of56_f _ _) ?_
  rintro _ rfl
  refine AtT.kcallP rfl rfl ok34 (checkPlan_f dW pW true [0, 1, 1, 0, 0] _ _ _ (hs.le hV153) (Sl.lit hq153 rfl (by simp))) ?_
  rintro _ rfl; rw [wP2]
  refine AtT.kmove ?_
  refine AtT.kextract ?_
  refine AtT.kextract ?_
  refine AtT.kassign ?_
  refine AtT.kassign ?_
  refine AtT.done ?_
  refine At.nrm ?_
  replace hs := hs.le hV153
  replace hu89 := hu89.le hV153
  replace hu95 := hu95.le hV153
  replace hu141 := hu141.le hV153
  replace hu147 := hu147.le hV153
  refine At.draw (.q 0 (.q 1 (.n false 2 (.n false 3 (.n false 4 (.q 5 (.q 6 (.q 7 (.q 8 (.q 9 .done)))))))))) ffm (by kernel_rfl) ?_
  first | refine AtT.kloadOA tk25 ?_ | refine AtT.kloadA tk25 ?_ | refine AtT.kloadOP tk25 ?_
  refine AtT.kmove ?_
  refine AtT.kbsliceG (bs27_5_0_1_2_3_4 _ _ _ _ _) ?_
  intro q161 V161 hV161 hq161
  refine AtT.kcallP rfl rfl ok56 (of56_f _ _) ?_
  rintro _ rfl
  refine AtT.kcallP rfl rfl ok34 (checkPlan_f dW pW true [0, 2, 1, 0, 0] _ _ _ (hs.le hV161) (Sl.lit hq161 rfl (by simp))) ?_
  rintro _ rfl; rw [wP3]
  refine AtT.kmove ?_
  refine AtT.kextract ?_
  refine AtT.kextract ?_
  refine AtT.kassign ?_
  refine AtT.kassign ?_
  refine AtT.done ?_
  refine At.nrm ?_
  replace hs := hs.le hV161
  replace hu89 := hu89.le hV161
  replace hu95 := hu95.le hV161
  replace hu141 := hu141.le hV161
  replace hu147 := hu147.le hV161
  refine At.ktext (.q 0 (.q 1 (.n false 2 (.q 3 (.q 4 (.q 5 (.q 6 (.q 7 .done)))))))) ?_
  first | refine AtT.kloadOA tk25 ?_ | refine AtT.kloadA tk25 ?_ | refine AtT.kloadOP tk25 ?_
  refine AtT.kmove ?_
  refine AtT.kcallP rfl rfl ok38 (bound_f dW pW true _ _ hs) ?_
  rintro _ rfl; rw [wD1]
  refine AtT.kmove ?_
  refine AtT.kextract ?_
  refine AtT.kextract ?_
  refine AtT.kassign ?_
  refine AtT.kassign ?_
  refine AtT.done ?_
  refine At.nrm ?_
  refine At.ktext (.q 0 (.q 1 (.n false 2 (.q 3 (.q 4 (.q 5 (.q 6 (.q 7 .done)))))))) ?_
  first | refine AtT.kloadOA tk25 ?_ | refine AtT.kloadA tk25 ?_ | refine AtT.kloadOP tk25 ?_
  refine AtT.kmove ?_
  refine AtT.kcall rfl rfl ok42 (apartF_f dW pW true _ _ hs) ?_
  rintro _ V175 hV175 ⟨u175, rfl, hu175⟩; rw [wO0]
  refine AtT.kmove ?_
  refine AtT.kextract ?_
  refine AtT.kextract ?_
  refine AtT.kassign ?_
  refine AtT.kassign ?_
  refine AtT.done ?_
  refine At.nrm ?_
  replace hs := hs.le hV175
  replace hu89 := hu89.le hV175
  replace hu95 := hu95.le hV175
  replace hu141 := hu141.le hV175
  replace hu147 := hu147.le hV175
  rw [if_pos wO0, wA1] at hu175
  clear hV1 hV53 hV62 hV71 hV80 hV89 hV95 hV101 hV109 hV117 hV125 hV133 hV141 hV147 hV153 hV161
  refine At.cutG (ι := Unit) (fun _ => [(1, .pointer (some ⟨b1, 0, none⟩)), (2, .slice a2 pW.length c2), (3, iv 30), (4, iv 7), (5, iv 0), (8, iv 22), (11, iv 10), (14, iv 2), (15, u89), (16, iv 0), (17, u95), (18, iv 0), (20, iv 22), (22, iv 16), (24, iv 15), (25, iv 3), (26, iv 0), (28, iv 14), (29, u141), (30, iv 0), (31, u147), (32, iv 0), (33, iv 2), (34, iv 0), (36, iv 16), (37, iv 2), (38, iv 0), (39, u175), (40, iv 0), (41, iv 0), (42, iv 16)]) (fun _ => [.blk b1 (LC (dye dW) 25)]) (fun _ V' => Le V175 V') ?_ ?_
  · clear hV175
    refine At.draw (.q 0 (.q 1 (.q 5 (.q 6 (.two 2 (.two 3 (.two 4 (.n false 7 (.n false 8 (.n false 9 (.q 10 (.q 11 .done))))) 7 (.n false 4 (.n false 8 (.n false 9 (.q 10 (.q 11 .done)))))) 7 (.n false 3 (.n false 4 (.n false 8 (.n false 9 (.q 10 (.q 11 .done))))))) 7 (.n false 2 (.n false 3 (.n false 4 (.n false 8 (.n false 9 (.q 10 (.q 11 .done)))))))))))) ffm (by kernel_rfl) ?_
    first | refine AtT.kloadOA tk25 ?_ | refine AtT.kloadA tk25 ?_ | refine AtT.kloadOP tk25 ?_
    refine AtT.kmove ?_
    first | refine AtT.kloadOA tk25 ?_ | refine AtT.kloadA tk25 ?_ | refine AtT.kloadOP tk25 ?_
    refine AtT.kmove ?_
    refine AtT.two ?_ ?_
    focus
      refine AtT.kbsliceG (bs27_2_0_1 _ _) ?_
      intro q180 V180 hV180 hq180
      refine AtT.two ?_ ?_
      focus
        refine AtT.kcallP rfl rfl ok56 (of56_f _ _) ?_
        rintro _ rfl
        refine AtT.two ?_ ?_
        focus
          refine AtT.kcallP rfl rfl ok44 (checkApart_f dW pW true [2, 4] _ _ _ (hs.le (by first | exact Le.refl _ | assumption | exact Le.trans (by assumption) (by assumption))) (Sl.le (Sl.lit hq180 rfl (by simp)) (by first | exact Le.refl _ | assumption | exact Le.trans (by assumption) (by assumption)))) ?_
          rintro _ rfl; rw [wA2]
          refine AtT.kbsliceG (bs27_2_0_1 _ _) ?_
          intro q185 V185 hV185 hq185
          refine AtT.kcallP rfl rfl ok56 (of56_f _ _) ?_
          rintro _ rfl
          refine AtT.kcallP rfl rfl ok44 (checkApart_f dW pW true [1, 2] _ _ _ (hs.le (by first | exact Le.refl _ | assumption | exact Le.trans (by assumption) (by assumption))) (Sl.le (Sl.lit hq185 rfl (by simp)) (by first | exact Le.refl _ | assumption | exact Le.trans (by assumption) (by assumption)))) ?_
          rintro _ rfl; rw [wA3]
          refine AtT.kassign ?_
          refine AtT.kassign ?_
          refine AtT.done ?_
        rotate_right
        focus
          refine AtT.kbsliceG (bs27_2_0_1 _ _) ?_
          intro q185 V185 hV185 hq185
          refine AtT.kcallP rfl rfl ok44 (checkApart_f dW pW true [2, 4] _ _ _ (hs.le (by first | exact Le.refl _ | assumption | exact Le.trans (by assumption) (by assumption))) (Sl.le (Sl.lit hq180 rfl (by simp)) (by first | exact Le.refl _ | assumption | exact Le.trans (by assumption) (by assumption)))) ?_
          rintro _ rfl; rw [wA2]
          refine AtT.kcallP rfl rfl ok56 (of56_f _ _) ?_
          rintro _ rfl
          refine AtT.kcallP rfl rfl ok44 (checkApart_f dW pW true [1, 2] _ _ _ (hs.le (by first | exact Le.refl _ | assumption | exact Le.trans (by assumption) (by assumption))) (Sl.le (Sl.lit hq185 rfl (by simp)) (by first | exact Le.refl _ | assumption | exact Le.trans (by assumption) (by assumption)))) ?_
          rintro _ rfl; rw [wA3]
          refine AtT.kassign ?_
          refine AtT.kassign ?_
          refine AtT.done ?_
      rotate_right
      focus
        refine AtT.kbsliceG (bs27_2_0_1 _ _) ?_
        intro q185 V185 hV185 hq185
        refine AtT.kcallP rfl rfl ok56 (of56_f _ _) ?_
        rintro _ rfl
        refine AtT.kcallP rfl rfl ok44 (checkApart_f dW pW true [2, 4] _ _ _ (hs.le (by first | exact Le.refl _ | assumption | exact Le.trans (by assumption) (by assumption))) (Sl.le (Sl.lit hq180 rfl (by simp)) (by first | exact Le.refl _ | assumption | exact Le.trans (by assumption) (by assumption)))) ?_
        rintro _ rfl; rw [wA2]
        refine AtT.kcallP rfl rfl ok56 (of56_f _ _) ?_
        rintro _ rfl
        refine AtT.kcallP rfl rfl ok44 (checkApart_f dW pW true [1, 2] _ _ _ (hs.le (by first | exact Le.refl _ | assumption | exact Le.trans (by assumption) (by assumption))) (Sl.le (Sl.lit hq185 rfl (by simp)) (by first | exact Le.refl _ | assumption | exact Le.trans (by assumption) (by assumption)))) ?_
        rintro _ rfl; rw [wA3]
        refine AtT.kassign ?_
        refine AtT.kassign ?_
        refine AtT.done ?_
    rotate_right
    focus
      refine AtT.kbsliceG (bs27_2_0_1 _ _) ?_
      intro q185 V185 hV185 hq185
      refine AtT.kbsliceG (bs27_2_0_1 _ _) ?_
      intro q180 V180 hV180 hq180
      refine AtT.kcallP rfl rfl ok56 (of56_f _ _) ?_
      rintro _ rfl
      refine AtT.kcallP rfl rfl ok44 (checkApart_f dW pW true [2, 4] _ _ _ (hs.le (by first | exact Le.refl _ | assumption | exact Le.trans (by assumption) (by assumption))) (Sl.le (Sl.lit hq180 rfl (by simp)) (by first | exact Le.refl _ | assumption | exact Le.trans (by assumption) (by assumption)))) ?_
      rintro _ rfl; rw [wA2]
      refine AtT.kcallP rfl rfl ok56 (of56_f _ _) ?_
      rintro _ rfl
      refine AtT.kcallP rfl rfl ok44 (checkApart_f dW pW true [1, 2] _ _ _ (hs.le (by first | exact Le.refl _ | assumption | exact Le.trans (by assumption) (by assumption))) (Sl.le (Sl.lit hq185 rfl (by simp)) (by first | exact Le.refl _ | assumption | exact Le.trans (by assumption) (by assumption)))) ?_
      rintro _ rfl; rw [wA3]
      refine AtT.kassign ?_
      refine AtT.kassign ?_
      refine AtT.done ?_
    all_goals (refine At.nrm ?_)
    all_goals (exact At.meetG () (by first | exact Le.refl _ | assumption | exact Le.trans (by assumption) (by assumption)) ⟨rfl, rfl, rfl, rfl, rfl, rfl, rfl, rfl, rfl, rfl, rfl, rfl, rfl, rfl, rfl, rfl, rfl, rfl, rfl, rfl, rfl, rfl, rfl, rfl, rfl, rfl, rfl, rfl, rfl, rfl, rfl, trivial⟩ Pt.auto)
  rintro _ V19 ks' O' hV19 hk hO hl
  subst hk hO
  replace hs := hs.le hV19
  replace hu89 := hu89.le hV19
  replace hu95 := hu95.le hV19
  replace hu141 := hu141.le hV19
  replace hu147 := hu147.le hV19
  replace hu175 := hu175.le hV19
  clear hV19 hV175
  refine At.nrm ?_
  refine At.draw (.q 0 (.q 1 (.n false 2 (.n false 3 (.n false 4 (.q 5 (.q 6 (.q 7 (.q 8 (.q 9 (.q 10 (.q 11 .done)))))))))))) ffm (by kernel_rfl) ?_
  first | refine AtT.kloadOA tk25 ?_ | refine AtT.kloadA tk25 ?_ | refine AtT.kloadOP tk25 ?_
  refine AtT.kmove ?_
  refine AtT.kbsliceG (bs27_5_0_1_2_3_4 _ _ _ _ _) ?_
  intro q191 V191 hV191 hq191
  refine AtT.kcallP rfl rfl ok56 (of56_f _ _) ?_
  rintro _ rfl
  refine AtT.kcallP rfl rfl ok40 (spares_f dW pW true [0, 0, 1, 1, 2] _ _ _ (hs.le hV191) (Sl.lit hq191 rfl (by simp))) ?_
  rintro _ rfl; rw [wS1]
  refine AtT.kmove ?_
  refine AtT.kextract ?_
  refine AtT.kextract ?_
  refine AtT.kextract ?_
  refine AtT.kassign ?_
  refine AtT.kassign ?_
  refine AtT.kassign ?_
  refine AtT.done ?_
  refine At.nrm ?_
  replace hs := hs.le hV191
  replace hu89 := hu89.le hV191
  replace hu95 := hu95.le hV191
  replace hu141 := hu141.le hV191
  replace hu147 := hu147.le hV191
  replace hu175 := hu175.le hV191
  clear hV191
  refine At.ktext (.q 0 (.q 1 (.q 2 (.q 3 (.q 4 (.q 5 (.q 6 (.q 7 (.q 8 (.q 9 (.q 10 (.q 11 (.q 12 (.q 13 (.q 14 (.q 15 (.q 16 (.q 17 (.q 18 (.q 19 (.q 20 (.q 21 (.q 22 (.q 23 (.q 24 (.q 25 (.q 26 (.q 27 (.q 28 (.q 29 (.q 30 (.q 31 (.q 32 (.q 33 (.q 34 (.q 35 (.q 36 (.q 37 (.q 38 (.q 39 (.q 40 (.q 41 (.q 42 (.q 43 (.q 44 (.q 45 (.q 46 (.q 47 (.q 48 (.q 49 (.q 50 (.q 51 (.q 52 (.q 53 (.q 54 (.q 55 (.q 56 (.q 57 (.q 58 (.q 59 (.q 60 (.q 61 (.q 62 (.q 63 (.q 64 (.q 65 (.q 66 (.q 67 (.q 68 (.q 69 (.q 70 (.q 71 (.q 72 (.q 73 (.q 74 (.q 75 (.q 76 (.q 77 .done)))))))))))))))))))))))))))))))))))))))))))))))))))))))))))))))))))))))))))))) ?_
  refine AtT.kmove ?_
  refine AtT.kneI ?_
  refine AtT.kmove ?_
  all_goals (first | refine AtT.kL 199 ?_ | refine AtT.pcase (d := 199) rfl (fun hg199 => ?_) (fun hg199 => ?_) | refine AtT.bcase (d := 199) rfl (fun hg199 => ?_) (fun hg199 => ?_))
  all_goals (first | refine AtT.kpass ?_ | refine AtT.kpassU ?_ | ((refine AtT.kmove ?_)))
  all_goals (first | refine AtT.kpass ?_ | refine AtT.kpassU ?_ | ((refine AtT.kneI ?_)))
  all_goals (refine AtT.kpick ?_)
  all_goals (refine AtT.kmove ?_)
  all_goals (first | refine AtT.kL 203 ?_ | refine AtT.pcase (d := 203) rfl (fun hg203 => ?_) (fun hg203 => ?_) | refine AtT.bcase (d := 203) rfl (fun hg203 => ?_) (fun hg203 => ?_))
  all_goals (first | refine AtT.kpass ?_ | refine AtT.kpassU ?_ | ((refine AtT.kmove ?_)))
  all_goals (first | refine AtT.kpass ?_ | refine AtT.kpassU ?_ | ((refine AtT.kneI ?_)))
  all_goals (refine AtT.kpick ?_)
  all_goals (refine AtT.kmove ?_)
  all_goals (first | refine AtT.kL 207 ?_ | refine AtT.pcase (d := 207) rfl (fun hg207 => ?_) (fun hg207 => ?_) | refine AtT.bcase (d := 207) rfl (fun hg207 => ?_) (fun hg207 => ?_))
  all_goals (first | refine AtT.kpass ?_ | refine AtT.kpassU ?_ | ((refine AtT.kmove ?_)))
  all_goals (first | refine AtT.kpass ?_ | refine AtT.kpassU ?_ | ((refine AtT.kneI ?_)))
  all_goals (refine AtT.kpick ?_)
  all_goals (refine AtT.kmove ?_)
  all_goals (first | refine AtT.kL 211 ?_ | refine AtT.pcase (d := 211) rfl (fun hg211 => ?_) (fun hg211 => ?_) | refine AtT.bcase (d := 211) rfl (fun hg211 => ?_) (fun hg211 => ?_))
  all_goals (first | refine AtT.kpass ?_ | refine AtT.kpassU ?_ | ((refine AtT.kmove ?_)))
  all_goals (first | refine AtT.kpass ?_ | refine AtT.kpassU ?_ | ((refine AtT.kneI ?_)))
  all_goals (refine AtT.kpick ?_)
  all_goals (refine AtT.kmove ?_)
  all_goals (first | refine AtT.kL 215 ?_ | refine AtT.pcase (d := 215) rfl (fun hg215 => ?_) (fun hg215 => ?_) | refine AtT.bcase (d := 215) rfl (fun hg215 => ?_) (fun hg215 => ?_))
  all_goals (first | refine AtT.kpass ?_ | refine AtT.kpassU ?_ | ((refine AtT.kmove ?_)))
  all_goals (first | refine AtT.kpass ?_ | refine AtT.kpassU ?_ | ((refine AtT.kneI ?_)))
  all_goals (refine AtT.kpick ?_)
  all_goals (refine AtT.kmove ?_)
  all_goals (first | refine AtT.kL 219 ?_ | refine AtT.pcase (d := 219) rfl (fun hg219 => ?_) (fun hg219 => ?_) | refine AtT.bcase (d := 219) rfl (fun hg219 => ?_) (fun hg219 => ?_))
  all_goals (first | refine AtT.kpass ?_ | refine AtT.kpassU ?_ | ((refine AtT.kmove ?_)))
  all_goals (first | refine AtT.kpass ?_ | refine AtT.kpassU ?_ | ((refine AtT.kneI ?_)))
  all_goals (refine AtT.kpick ?_)
  all_goals (refine AtT.kmove ?_)
  all_goals (first | refine AtT.kL 223 ?_ | refine AtT.pcase (d := 223) rfl (fun hg223 => ?_) (fun hg223 => ?_) | refine AtT.bcase (d := 223) rfl (fun hg223 => ?_) (fun hg223 => ?_))
  all_goals (first | refine AtT.kpass ?_ | refine AtT.kpassU ?_ | ((refine AtT.kmove ?_)))
  all_goals (first | refine AtT.kpass ?_ | refine AtT.kpassU ?_ | ((refine AtT.kneI ?_)))
  all_goals (refine AtT.kpick ?_)
  all_goals (refine AtT.kmove ?_)
  all_goals (first | refine AtT.kL 227 ?_ | refine AtT.pcase (d := 227) rfl (fun hg227 => ?_) (fun hg227 => ?_) | refine AtT.bcase (d := 227) rfl (fun hg227 => ?_) (fun hg227 => ?_))
  all_goals (first | refine AtT.kpass ?_ | refine AtT.kpassU ?_ | ((refine AtT.kmove ?_)))
  all_goals (first | refine AtT.kpass ?_ | refine AtT.kpassU ?_ | ((refine AtT.kneI ?_)))
  all_goals (refine AtT.kpick ?_)
  all_goals (refine AtT.kmove ?_)
  all_goals (first | refine AtT.kL 231 ?_ | refine AtT.pcase (d := 231) rfl (fun hg231 => ?_) (fun hg231 => ?_) | refine AtT.bcase (d := 231) rfl (fun hg231 => ?_) (fun hg231 => ?_))
  all_goals (first | refine AtT.kpass ?_ | refine AtT.kpassU ?_ | ((refine AtT.kmove ?_)))
  all_goals (first | refine AtT.kpass ?_ | refine AtT.kpassU ?_ | ((refine AtT.kneI ?_)))
  all_goals (refine AtT.kpick ?_)
  all_goals (refine AtT.kmove ?_)
  all_goals (first | refine AtT.kL 235 ?_ | refine AtT.pcase (d := 235) rfl (fun hg235 => ?_) (fun hg235 => ?_) | refine AtT.bcase (d := 235) rfl (fun hg235 => ?_) (fun hg235 => ?_))
  all_goals (first | refine AtT.kpass ?_ | refine AtT.kpassU ?_ | ((refine AtT.kmove ?_)))
  all_goals (first | refine AtT.kpass ?_ | refine AtT.kpassU ?_ | ((refine AtT.kneI ?_)))
  all_goals (refine AtT.kpick ?_)
  all_goals (refine AtT.kmove ?_)
  all_goals (first | refine AtT.kL 239 ?_ | refine AtT.pcase (d := 239) rfl (fun hg239 => ?_) (fun hg239 => ?_) | refine AtT.bcase (d := 239) rfl (fun hg239 => ?_) (fun hg239 => ?_))
  all_goals (first | refine AtT.kpass ?_ | refine AtT.kpassU ?_ | ((refine AtT.kmove ?_)))
  all_goals (first | refine AtT.kpass ?_ | refine AtT.kpassU ?_ | ((refine AtT.kneI ?_)))
  all_goals (refine AtT.kpick ?_)
  all_goals (refine AtT.kmove ?_)
  all_goals (first | refine AtT.kL 243 ?_ | refine AtT.pcase (d := 243) rfl (fun hg243 => ?_) (fun hg243 => ?_) | refine AtT.bcase (d := 243) rfl (fun hg243 => ?_) (fun hg243 => ?_))
  all_goals (first | refine AtT.kpass ?_ | refine AtT.kpassU ?_ | ((refine AtT.kmove ?_)))
  all_goals (first | refine AtT.kpass ?_ | refine AtT.kpassU ?_ | ((refine AtT.kneI ?_)))
  all_goals (refine AtT.kpick ?_)
  all_goals (refine AtT.kmove ?_)
  all_goals (first | refine AtT.kL 247 ?_ | refine AtT.pcase (d := 247) rfl (fun hg247 => ?_) (fun hg247 => ?_) | refine AtT.bcase (d := 247) rfl (fun hg247 => ?_) (fun hg247 => ?_))
  all_goals (first | refine AtT.kpass ?_ | refine AtT.kpassU ?_ | ((refine AtT.kmove ?_)))
  all_goals (first | refine AtT.kpass ?_ | refine AtT.kpassU ?_ | ((refine AtT.kneI ?_)))
  all_goals (refine AtT.kpick ?_)
  all_goals (refine AtT.kmove ?_)
  all_goals (first | refine AtT.kL 251 ?_ | refine AtT.pcase (d := 251) rfl (fun hg251 => ?_) (fun hg251 => ?_) | refine AtT.bcase (d := 251) rfl (fun hg251 => ?_) (fun hg251 => ?_))
  all_goals (first | refine AtT.kpass ?_ | refine AtT.kpassU ?_ | ((refine AtT.kmove ?_)))
  all_goals (first | refine AtT.kpass ?_ | refine AtT.kpassU ?_ | ((refine AtT.kneI ?_)))
  all_goals (refine AtT.kpick ?_)
  all_goals (refine AtT.kmove ?_)
  all_goals (first | refine AtT.kL 255 ?_ | refine AtT.pcase (d := 255) rfl (fun hg255 => ?_) (fun hg255 => ?_) | refine AtT.bcase (d := 255) rfl (fun hg255 => ?_) (fun hg255 => ?_))
  all_goals (first | refine AtT.kpass ?_ | refine AtT.kpassU ?_ | ((refine AtT.kmove ?_)))
  all_goals (first | refine AtT.kpass ?_ | refine AtT.kpassU ?_ | ((refine AtT.kneI ?_)))
  all_goals (refine AtT.kpick ?_)
  all_goals (refine AtT.kmove ?_)
  all_goals (first | refine AtT.kL 259 ?_ | refine AtT.pcase (d := 259) rfl (fun hg259 => ?_) (fun hg259 => ?_) | refine AtT.bcase (d := 259) rfl (fun hg259 => ?_) (fun hg259 => ?_))
  all_goals (first | refine AtT.kpass ?_ | refine AtT.kpassU ?_ | ((refine AtT.kmove ?_)))
  all_goals (first | refine AtT.kpass ?_ | refine AtT.kpassU ?_ | ((refine AtT.kneI ?_)))
  all_goals (refine AtT.kpick ?_)
  all_goals (refine AtT.kmove ?_)
  all_goals (first | refine AtT.kL 263 ?_ | refine AtT.pcase (d := 263) rfl (fun hg263 => ?_) (fun hg263 => ?_) | refine AtT.bcase (d := 263) rfl (fun hg263 => ?_) (fun hg263 => ?_))
  all_goals (first | refine AtT.kpass ?_ | refine AtT.kpassU ?_ | ((refine AtT.kmove ?_)))
  all_goals (first | refine AtT.kpass ?_ | refine AtT.kpassU ?_ | ((refine AtT.kneI ?_)))
  all_goals (refine AtT.kpick ?_)
  all_goals (refine AtT.kmove ?_)
  all_goals (first | refine AtT.kL 267 ?_ | refine AtT.pcase (d := 267) rfl (fun hg267 => ?_) (fun hg267 => ?_) | refine AtT.bcase (d := 267) rfl (fun hg267 => ?_) (fun hg267 => ?_))
  all_goals (first | refine AtT.kpass ?_ | refine AtT.kpassU ?_ | ((refine AtT.kmove ?_)))
  all_goals (first | refine AtT.kpass ?_ | refine AtT.kpassU ?_ | ((refine AtT.kneI ?_)))
  all_goals (refine AtT.kpick ?_)
  all_goals (refine AtT.kmove ?_)
  all_goals (first | refine AtT.kL 271 ?_ | refine AtT.pcase (d := 271) rfl (fun hg271 => ?_) (fun hg271 => ?_) | refine AtT.bcase (d := 271) rfl (fun hg271 => ?_) (fun hg271 => ?_))
  all_goals (first | refine AtT.kpass ?_ | refine AtT.kpassU ?_ | ((refine AtT.kmove ?_)))
  all_goals (first | refine AtT.kpass ?_ | refine AtT.kpassU ?_ | ((refine AtT.kneI ?_)))
  all_goals (refine AtT.kpick ?_)
  all_goals refine AtT.done ?_
  all_goals (refine At.nrm ?_)
  refine At.condF rfl rfl ?_
  refine At.nrm ?_
  refine At.ktext (.q 0 (.q 1 (.q 2 (.q 3 (.q 4 (.q 5 (.q 6 (.q 7 (.n false 8 (.n false 9 (.n false 10 (.q 11 (.q 12 (.q 13 (.q 14 (.n false 15 (.n false 16 (.n false 17 (.q 18 (.q 19 (.q 20 (.q 21 (.q 22 (.q 23 (.q 24 (.q 25 (.n false 26 (.n false 27 (.n false 28 (.q 29 (.q 30 (.q 31 (.q 32 (.q 33 (.q 34 (.q 35 (.q 36 (.q 37 (.q 38 (.q 39 (.q 40 (.n false 41 (.n false 42 (.n false 43 (.q 44 (.q 45 (.q 46 (.q 47 (.q 48 (.q 49 (.q 50 (.q 51 (.q 52 (.q 53 .done)))))))))))))))))))))))))))))))))))))))))))))))))))))) ?_
  refine AtT.kmove ?_
  refine AtT.kneI ?_
  refine AtT.kmove ?_
  all_goals (first | refine AtT.kL 277 ?_ | refine AtT.pcase (d := 277) rfl (fun hg277 => ?_) (fun hg277 => ?_) | refine AtT.bcase (d := 277) rfl (fun hg277 => ?_) (fun hg277 => ?_))
  all_goals (first | refine AtT.kpass ?_ | refine AtT.kpassU ?_ | ((refine AtT.kmove ?_)))
  all_goals (first | refine AtT.kpass ?_ | refine AtT.kpassU ?_ | ((refine AtT.kneI ?_)))
  all_goals (refine AtT.kpick ?_)
  all_goals (refine AtT.kmove ?_)
  all_goals (first | refine AtT.kL 281 ?_ | refine AtT.pcase (d := 281) rfl (fun hg281 => ?_) (fun hg281 => ?_) | refine AtT.bcase (d := 281) rfl (fun hg281 => ?_) (fun hg281 => ?_))
  all_goals (first | refine AtT.kpass ?_ | refine AtT.kpassU ?_ | ((refine AtT.kmove ?_)))
  all_goals (first | refine AtT.kpassN ?_ | refine AtT.kpassNU ?_ | ((refine AtT.kbsliceG (bs27_5_0_1_2_3_4 _ _ _ _ _) ?_) ; (intro q283 V283 hV283 hq283)))
  all_goals (first | refine AtT.kpassN ?_ | refine AtT.kpassNU ?_ | ((refine AtT.kcallP rfl rfl ok56 (of56_f _ _) ?_) ; (rintro _ rfl)))
  all_goals (first | refine AtT.kpassN ?_ | refine AtT.kpassNU ?_ | ((refine AtT.kcallP rfl rfl ok32 (ints_f _ [0, 0, 1, 1, 2] _ _ _ (hu89.le hV283) (Sl.lit hq283 rfl (by simp))) ?_) ; (rintro _ rfl)))
  all_goals (first | refine AtT.kpass ?_ | refine AtT.kpassU ?_ | ((refine AtT.knot ?_)))
  all_goals (refine AtT.kpick ?_)
  all_goals (refine AtT.kmove ?_)
  all_goals (first | refine AtT.kL 288 ?_ | refine AtT.pcase (d := 288) rfl (fun hg288 => ?_) (fun hg288 => ?_) | refine AtT.bcase (d := 288) rfl (fun hg288 => ?_) (fun hg288 => ?_))
  all_goals (first | refine AtT.kpass ?_ | refine AtT.kpassU ?_ | ((refine AtT.kmove ?_)))
  all_goals (first | refine AtT.kpassN ?_ | refine AtT.kpassNU ?_ | ((refine AtT.kbsliceG (bs27_5_0_1_2_3_4 _ _ _ _ _) ?_) ; (intro q290 V290 hV290 hq290)))
  all_goals (first | refine AtT.kpassN ?_ | refine AtT.kpassNU ?_ | ((refine AtT.kcallP rfl rfl ok56 (of56_f _ _) ?_) ; (rintro _ rfl)))
  all_goals (first | refine AtT.kpassN ?_ | refine AtT.kpassNU ?_ | ((refine AtT.kcallP rfl rfl ok32 (ints_f _ [0, 0, 0, 1, 1] _ _ _ (hu95.le (hV283.trans hV290)) (Sl.lit hq290 rfl (by simp))) ?_) ; (rintro _ rfl)))
  all_goals (first | refine AtT.kpass ?_ | refine AtT.kpassU ?_ | ((refine AtT.knot ?_)))
  all_goals (refine AtT.kpick ?_)
  all_goals (refine AtT.kmove ?_)
  all_goals (first | refine AtT.kL 295 ?_ | refine AtT.pcase (d := 295) rfl (fun hg295 => ?_) (fun hg295 => ?_) | refine AtT.bcase (d := 295) rfl (fun hg295 => ?_) (fun hg295 => ?_))
  all_goals (first | refine AtT.kpass ?_ | refine AtT.kpassU ?_ | ((refine AtT.kmove ?_)))
  all_goals (first | refine AtT.kpass ?_ | refine AtT.kpassU ?_ | ((refine AtT.kneI ?_)))
  all_goals (refine AtT.kpick ?_)
  all_goals (refine AtT.kmove ?_)
  all_goals (first | refine AtT.kL 299 ?_ | refine AtT.pcase (d := 299) rfl (fun hg299 => ?_) (fun hg299 => ?_) | refine AtT.bcase (d := 299) rfl (fun hg299 => ?_) (fun hg299 => ?_))
  all_goals (first | refine AtT.kpass ?_ | refine AtT.kpassU ?_ | ((refine AtT.kmove ?_)))
  all_goals (first | refine AtT.kpassN ?_ | refine AtT.kpassNU ?_ | ((refine AtT.kbsliceG (bs27_5_0_1_2_3_4 _ _ _ _ _) ?_) ; (intro q301 V301 hV301 hq301)))
  all_goals (first | refine AtT.kpassN ?_ | refine AtT.kpassNU ?_ | ((refine AtT.kcallP rfl rfl ok56 (of56_f _ _) ?_) ; (rintro _ rfl)))
  all_goals (first | refine AtT.kpassN ?_ | refine AtT.kpassNU ?_ | ((refine AtT.kcallP rfl rfl ok32 (ints_f _ [0, 1, 1, 0, 0] _ _ _ (hu147.le ((hV283.trans hV290).trans hV301)) (Sl.lit hq301 rfl (by simp))) ?_) ; (rintro _ rfl)))
  all_goals (first | refine AtT.kpass ?_ | refine AtT.kpassU ?_ | ((refine AtT.knot ?_)))
  all_goals (refine AtT.kpick ?_)
  all_goals (refine AtT.kmove ?_)
  all_goals (first | refine AtT.kL 306 ?_ | refine AtT.pcase (d := 306) rfl (fun hg306 => ?_) (fun hg306 => ?_) | refine AtT.bcase (d := 306) rfl (fun hg306 => ?_) (fun hg306 => ?_))
  all_goals (first | refine AtT.kpass ?_ | refine AtT.kpassU ?_ | ((refine AtT.kmove ?_)))
  all_goals (first | refine AtT.kpass ?_ | refine AtT.kpassU ?_ | ((refine AtT.kneI ?_)))
  all_goals (refine AtT.kpick ?_)
  all_goals (refine AtT.kmove ?_)
  all_goals (first | refine AtT.kL 310 ?_ | refine AtT.pcase (d := 310) rfl (fun hg310 => ?_) (fun hg310 => ?_) | refine AtT.bcase (d := 310) rfl (fun hg310 => ?_) (fun hg310 => ?_))
  all_goals (first | refine AtT.kpass ?_ | refine AtT.kpassU ?_ | ((refine AtT.kmove ?_)))
  all_goals (first | refine AtT.kpass ?_ | refine AtT.kpassU ?_ | ((refine AtT.kneI ?_)))
  all_goals (refine AtT.kpick ?_)
  all_goals (refine AtT.kmove ?_)
  all_goals (first | refine AtT.kL 314 ?_ | refine AtT.pcase (d := 314) rfl (fun hg314 => ?_) (fun hg314 => ?_) | refine AtT.bcase (d := 314) rfl (fun hg314 => ?_) (fun hg314 => ?_))
  all_goals (first | refine AtT.kpass ?_ | refine AtT.kpassU ?_ | ((refine AtT.kmove ?_)))
  all_goals (first | refine AtT.kpassN ?_ | refine AtT.kpassNU ?_ | ((refine AtT.kbsliceG (bs27_2_0_1 _ _) ?_) ; (intro q316 V316 hV316 hq316)))
  all_goals (first | refine AtT.kpassN ?_ | refine AtT.kpassNU ?_ | ((refine AtT.kcallP rfl rfl ok56 (of56_f _ _) ?_) ; (rintro _ rfl)))
  all_goals (first | refine AtT.kpassN ?_ | refine AtT.kpassNU ?_ | ((refine AtT.kcallP rfl rfl ok32 (ints_f _ [0, 2] _ _ _ (hu175.le (((hV283.trans hV290).trans hV301).trans hV316)) (Sl.lit hq316 rfl (by simp))) ?_) ; (rintro _ rfl)))
  all_goals (first | refine AtT.kpass ?_ | refine AtT.kpassU ?_ | ((refine AtT.knot ?_)))
  all_goals (refine AtT.kpick ?_)
  all_goals (refine AtT.kmove ?_)
  all_goals (first | refine AtT.kL 321 ?_ | refine AtT.pcase (d := 321) rfl (fun hg321 => ?_) (fun hg321 => ?_) | refine AtT.bcase (d := 321) rfl (fun hg321 => ?_) (fun hg321 => ?_))
  all_goals (first | refine AtT.kpass ?_ | refine AtT.kpassU ?_ | ((refine AtT.kmove ?_)))
  all_goals (first | refine AtT.kpass ?_ | refine AtT.kpassU ?_ | ((refine AtT.kneI ?_)))
  all_goals (refine AtT.kpick ?_)
  all_goals (refine AtT.kmove ?_)
  all_goals (first | refine AtT.kL 325 ?_ | refine AtT.pcase (d := 325) rfl (fun hg325 => ?_) (fun hg325 => ?_) | refine AtT.bcase (d := 325) rfl (fun hg325 => ?_) (fun hg325 => ?_))
  all_goals (first | refine AtT.kpass ?_ | refine AtT.kpassU ?_ | ((refine AtT.kmove ?_)))
  all_goals (first | refine AtT.kpass ?_ | refine AtT.kpassU ?_ | ((refine AtT.kneI ?_)))
  all_goals (refine AtT.kpick ?_)
  all_goals refine AtT.done ?_
  all_goals (refine At.nrm ?_)
  refine At.condF rfl rfl ?_
  refine At.nrm ?_
  replace hs := hs.le (((hV283.trans hV290).trans hV301).trans hV316)
  replace hu89 := hu89.le (((hV283.trans hV290).trans hV301).trans hV316)
  replace hu95 := hu95.le (((hV283.trans hV290).trans hV301).trans hV316)
  replace hu141 := hu141.le (((hV283.trans hV290).trans hV301).trans hV316)
  replace hu147 := hu147.le (((hV283.trans hV290).trans hV301).trans hV316)
  replace hu175 := hu175.le (((hV283.trans hV290).trans hV301).trans hV316)
  refine At.ktext (.q 0 (.q 1 (.q 2 (.n false 3 (.q 4 (.q 5 (.q 6 (.q 7 (.q 8 .done))))))))) ?_
  first | refine AtT.kloadOA tk25 ?_ | refine AtT.kloadA tk25 ?_ | refine AtT.kloadOP tk25 ?_
  refine AtT.kmove ?_
  refine AtT.kmove ?_
  refine AtT.kcallP rfl rfl ok30 (rcheckMarks_f dW pW true _ _ _ _ hs hu141) ?_
  rintro _ rfl; rw [wM3]
  refine AtT.kmove ?_
  refine AtT.kextract ?_
  refine AtT.kextract ?_
  refine AtT.kassign ?_
  refine AtT.kassign ?_
  refine AtT.done ?_
  refine At.nrm ?_
  refine At.ktext (.q 0 (.q 1 (.q 2 (.q 3 (.q 4 (.q 5 (.q 6 .done))))))) ?_
  refine AtT.kmove ?_
  refine AtT.keqI ?_
  refine AtT.kmove ?_
  all_goals (first | refine AtT.kL 338 ?_ | refine AtT.pcase (d := 338) rfl (fun hg338 => ?_) (fun hg338 => ?_) | refine AtT.bcase (d := 338) rfl (fun hg338 => ?_) (fun hg338 => ?_))
  all_goals (first | refine AtT.kpass ?_ | refine AtT.kpassU ?_ | ((refine AtT.kmove ?_)))
  all_goals (first | refine AtT.kpass ?_ | refine AtT.kpassU ?_ | ((refine AtT.keqI ?_)))
  all_goals (refine AtT.kpick ?_)
  all_goals (refine AtT.kassign ?_)
  all_goals refine AtT.done ?_
  all_goals (refine At.nrm ?_)
  exact At.ret1 rfl (.tmp rfl) rfl
end Go.Proofs.Ytmnbkceiaifncaa
set_option linter.unusedVariables false
namespace Go.Proofs.Ytmnbkceiaifncaa
open Go.Lw Go.Gl Go.RowKit

theorem glueDays_f (d : Dy) (ps : List Pn) (sure : Bool) (l : List Int) (V : View) (v vl : Value) (hs : Sl V pne 3 v ps) (hl : SlI V vl l) : Fnc Try.prog 3 [dyv d, v, .bool sure, vl] V fun r _ => r = .bool true := by
  refine fn_of Try.func3 rfl Try.ntmps3 (Nat.le_of_ble_eq_true rfl) ?_
  intro w0 hw0
  refine At.nrm ?_
  refine At.ktext (.n false 0 (.q 1 .done)) ?_
  refine AtT.kbox ?_
  intro b4
  refine AtT.kassign ?_
  refine AtT.done ?_
  refine At.nrm ?_
  by_cases g1 : 16 < (ps.length : Int)
  · refine At.ktext (.q 0 (.n false 1 (.q 2 (.q 3 (.n false 4 (.q 5 .done)))))) ?_
    refine AtT.kmove ?_
    refine AtT.kcallP rfl rfl ok16 (great_f ps _ _ hs) ?_
    rintro _ rfl
    refine AtT.setT (d := 16) rfl (g1) ?_
    refine AtT.kmove ?_
    all_goals (first | refine AtT.kL 17 ?_ | refine AtT.pcase (d := 17) rfl (fun hg17 => ?_) (fun hg17 => ?_) | refine AtT.bcase (d := 17) rfl (fun hg17 => ?_) (fun hg17 => ?_))
    all_goals (first | refine AtT.kpass ?_ | refine AtT.kpassU ?_ | ((refine AtT.kmove ?_)))
    all_goals (first | refine AtT.kpassN ?_ | refine AtT.kpassNU ?_ | ((fail)))
    all_goals (refine AtT.kpick ?_)
    all_goals refine AtT.done ?_
    all_goals (refine At.nrm ?_)
    refine At.condT rfl rfl ?_
    refine At.nrm ?_
    refine At.ktext (.n false 0 (.q 1 .done)) ?_
    refine AtT.kcallP rfl rfl ok18 (works_f _) ?_
    rintro _ rfl
    refine AtT.kassign ?_
    refine AtT.done ?_
    refine At.nrm ?_
    exact At.ret1 rfl (.tmp rfl) rfl
  by_cases g2 : 20 < (l.length : Int)
  · refine At.ktext (.q 0 (.n false 1 (.q 2 (.q 3 (.n false 4 (.q 5 .done)))))) ?_
    refine AtT.kmove ?_
    refine AtT.kcallP rfl rfl ok16 (great_f ps _ _ hs) ?_
    rintro _ rfl
    refine AtT.setF (d := 16) rfl (g1) ?_
    refine AtT.kmove ?_
    all_goals (first | refine AtT.kL 17 ?_ | refine AtT.pcase (d := 17) rfl (fun hg17 => ?_) (fun hg17 => ?_) | refine AtT.bcase (d := 17) rfl (fun hg17 => ?_) (fun hg17 => ?_))
    all_goals (first | refine AtT.kpass ?_ | refine AtT.kpassU ?_ | ((refine AtT.kmove ?_)))
    all_goals (first | refine AtT.kpassN ?_ | refine AtT.kpassNU ?_ | ((refine AtT.kcallP rfl rfl ok17 (long_f l _ _ hl) ?_) ; (rintro _ rfl)))
    all_goals (refine AtT.setT (d := 19) rfl (g2) ?_)
    all_goals (refine AtT.kpick ?_)
    all_goals refine AtT.done ?_
    all_goals (refine At.nrm ?_)
    refine At.condT rfl rfl ?_
    refine At.nrm ?_
    refine At.ktext (.n false 0 (.q 1 .done)) ?_
    refine AtT.kcallP rfl rfl ok18 (works_f _) ?_
    rintro _ rfl
    refine AtT.kassign ?_
    refine AtT.done ?_
    refine At.nrm ?_
    exact At.ret1 rfl (.tmp rfl) rfl
  refine At.ktext (.q 0 (.n false 1 (.q 2 (.q 3 (.n false 4 (.q 5 .done)))))) ?_
  refine AtT.kmove ?_
  refine AtT.kcallP rfl rfl ok16 (great_f ps _ _ hs) ?_
  rintro _ rfl
  refine AtT.setF (d := 16) rfl (g1) ?_
  refine AtT.kmove ?_
  all_goals (first | refine AtT.kL 17 ?_ | refine AtT.pcase (d := 17) rfl (fun hg17 => ?_) (fun hg17 => ?_) | refine AtT.bcase (d := 17) rfl (fun hg17 => ?_) (fun hg17 => ?_))
  all_goals (first | refine AtT.kpass ?_ | refine AtT.kpassU ?_ | ((refine AtT.kmove ?_)))
  all_goals (first | refine AtT.kpassN ?_ | refine AtT.kpassNU ?_ | ((refine AtT.kcallP rfl rfl ok17 (long_f l _ _ hl) ?_) ; (rintro _ rfl)))
  all_goals (refine AtT.setF (d := 19) rfl (g2) ?_)
  all_goals (refine AtT.kpick ?_)
  all_goals refine AtT.done ?_
  all_goals (refine At.nrm ?_)
  refine At.condF rfl rfl ?_
  refine At.nrm ?_
  refine At.ktext (.q 0 (.q 1 (.q 2 (.q 3 (.n false 4 (.q 5 (.q 6 (.q 7 (.q 8 (.q 9 (.q 10 (.q 11 .done)))))))))))) ?_
  first | refine AtT.kloadOA tk25 ?_ | refine AtT.kloadA tk25 ?_ | refine AtT.kloadOP tk25 ?_
  refine AtT.kmove ?_
  refine AtT.kmove ?_
  refine AtT.kmove ?_
  refine AtT.kcallP rfl rfl ok19 (checkBatch_f d ps sure l _ _ _ hs hl) ?_
  rintro _ rfl
  refine AtT.kmove ?_
  refine AtT.kextract ?_
  refine AtT.kextract ?_
  refine AtT.kextract ?_
  refine AtT.kassign ?_
  refine AtT.kassign ?_
  refine AtT.kassign ?_
  refine AtT.done ?_
  refine At.nrm ?_
  refine At.ktext (.q 0 (.q 1 (.q 2 (.q 3 (.n false 4 (.q 5 (.q 6 (.q 7 (.q 8 (.q 9 (.q 10 (.q 11 .done)))))))))))) ?_
  first | refine AtT.kloadOA tk25 ?_ | refine AtT.kloadA tk25 ?_ | refine AtT.kloadOP tk25 ?_
  refine AtT.kmove ?_
  refine AtT.kmove ?_
  refine AtT.kmove ?_
  refine AtT.kcallP rfl rfl ok20 (rcheckBatch_f d ps sure l _ _ _ hs hl) ?_
  rintro _ rfl
  refine AtT.kmove ?_
  refine AtT.kextract ?_
  refine AtT.kextract ?_
  refine AtT.kextract ?_
  refine AtT.kassign ?_
  refine AtT.kassign ?_
  refine AtT.kassign ?_
  refine AtT.done ?_
  refine At.nrm ?_
  apply At.draw0 (.q 0 (.q 2 (.n false 1 (.n false 3 (.q 4 (.q 5 (.q 6 (.q 8 (.n false 7 (.n false 9 (.q 10 (.q 11 (.q 12 (.q 13 (.q 14 (.q 15 (.q 16 (.q 17 (.q 18 (.q 19 (.q 20 (.q 21 (.q 22 (.q 23 (.q 24 (.q 25 (.q 26 (.q 27 (.n false 28 (.q 29 (.q 30 .done))))))))))))))))))))))))))))))) ffm (by kernel_rfl)
  · first | refine AtT.kloadOA tk25 ?_ | refine AtT.kloadA tk25 ?_ | refine AtT.kloadOP tk25 ?_
    first | refine AtT.kloadOA tk25 ?_ | refine AtT.kloadA tk25 ?_ | refine AtT.kloadOP tk25 ?_
    refine AtT.kcallP rfl rfl ok21 (day_f d _) ?_
    rintro _ rfl
    refine AtT.kcallP rfl rfl ok22 (rday_f d _) ?_
    rintro _ rfl
    refine AtT.keqI ?_
    refine AtT.setT (d := 44) rfl (rfl) ?_
    refine AtT.kmove ?_
    all_goals (first | refine AtT.kL 45 ?_ | refine AtT.pcase (d := 45) rfl (fun hg45 => ?_) (fun hg45 => ?_) | refine AtT.bcase (d := 45) rfl (fun hg45 => ?_) (fun hg45 => ?_))
    all_goals (first | refine AtT.kpass ?_ | refine AtT.kpassU ?_ | ((refine AtT.kmove ?_)))
    all_goals (first | refine AtT.kpass ?_ | refine AtT.kpassU ?_ | ((refine AtT.kmove ?_)))
    all_goals (first | refine AtT.kpassN ?_ | refine AtT.kpassNU ?_ | ((refine AtT.kcallP rfl rfl ok23 (pan_f ps _ _ hs) ?_) ; (rintro _ rfl)))
    all_goals (first | refine AtT.kpassN ?_ | refine AtT.kpassNU ?_ | ((refine AtT.kcallP rfl rfl ok24 (rpan_f ps _ _ hs) ?_) ; (rintro _ rfl)))
    all_goals (first | refine AtT.kpass ?_ | refine AtT.kpassU ?_ | ((refine AtT.keqI ?_)))
    all_goals (refine AtT.setT (d := 50) rfl (rfl) ?_)
    all_goals (refine AtT.kpick ?_)
    all_goals (refine AtT.kmove ?_)
    all_goals (first | refine AtT.kL 52 ?_ | refine AtT.pcase (d := 52) rfl (fun hg52 => ?_) (fun hg52 => ?_) | refine AtT.bcase (d := 52) rfl (fun hg52 => ?_) (fun hg52 => ?_))
    all_goals (first | refine AtT.kpass ?_ | refine AtT.kpassU ?_ | ((refine AtT.kmove ?_)))
    all_goals (first | refine AtT.kpass ?_ | refine AtT.kpassU ?_ | ((refine AtT.kmove ?_)))
    all_goals (first | refine AtT.kpass ?_ | refine AtT.kpassU ?_ | ((refine AtT.keqI ?_)))
    all_goals (refine AtT.setT (d := 55) rfl (rfl) ?_)
    all_goals (refine AtT.kpick ?_)
    all_goals (refine AtT.kmove ?_)
    all_goals (first | refine AtT.kL 57 ?_ | refine AtT.pcase (d := 57) rfl (fun hg57 => ?_) (fun hg57 => ?_) | refine AtT.bcase (d := 57) rfl (fun hg57 => ?_) (fun hg57 => ?_))
    all_goals (first | refine AtT.kpass ?_ | refine AtT.kpassU ?_ | ((refine AtT.kmove ?_)))
    all_goals (first | refine AtT.kpass ?_ | refine AtT.kpassU ?_ | ((refine AtT.kmove ?_)))
    all_goals (first | refine AtT.kpass ?_ | refine AtT.kpassU ?_ | ((refine AtT.keqI ?_)))
    all_goals (refine AtT.setT (d := 60) rfl (rfl) ?_)
    all_goals (refine AtT.kpick ?_)
    all_goals (refine AtT.kmove ?_)
    all_goals (first | refine AtT.kL 62 ?_ | refine AtT.pcase (d := 62) rfl (fun hg62 => ?_) (fun hg62 => ?_) | refine AtT.bcase (d := 62) rfl (fun hg62 => ?_) (fun hg62 => ?_))
    all_goals (first | refine AtT.kpass ?_ | refine AtT.kpassU ?_ | ((refine AtT.kmove ?_)))
    all_goals (first | refine AtT.kpass ?_ | refine AtT.kpassU ?_ | ((refine AtT.kmove ?_)))
    all_goals (first | refine AtT.kpass ?_ | refine AtT.kpassU ?_ | ((refine AtT.keqI ?_)))
    all_goals (refine AtT.setT (d := 65) rfl (rfl) ?_)
    all_goals (refine AtT.kpick ?_)
    all_goals (refine AtT.kmove ?_)
    all_goals (first | refine AtT.kL 67 ?_ | refine AtT.pcase (d := 67) rfl (fun hg67 => ?_) (fun hg67 => ?_) | refine AtT.bcase (d := 67) rfl (fun hg67 => ?_) (fun hg67 => ?_))
    all_goals (first | refine AtT.kpassN ?_ | refine AtT.kpassNU ?_ | ((refine AtT.kcallP rfl rfl ok18 (works_f _) ?_) ; (rintro _ rfl)))
    all_goals (refine AtT.kpick ?_)
    all_goals (refine AtT.kassign ?_)
    exact AtT.done (fun a w hk hm => ⟨hk, hm⟩)
  refine At.nrm ?_
  exact At.ret1 rfl (.tmp rfl) rfl

theorem glueRows_f (d : Dy) (ps : List Pn) (sure : Bool) (l ms : List Int) (V : View) (v vl vm : Value) (hs : Sl V pne 3 v ps) (hl : SlI V vl l) (hm : SlI V vm ms) : Fnc Try.prog 4 [dyv d, v, .bool sure, vl, vm] V fun r _ => r = .bool true := by
  refine fn_of Try.func4 rfl Try.ntmps4 (Nat.le_of_ble_eq_true rfl) ?_
  intro w0 hw0
  refine At.nrm ?_
  refine At.ktext (.n false 0 (.q 1 .done)) ?_
  refine AtT.kbox ?_
  intro b5
  refine AtT.kassign ?_
  refine AtT.done ?_
  refine At.nrm ?_
  by_cases g1 : 16 < (ps.length : Int)
  · refine At.ktext (.q 0 (.n false 1 (.q 2 (.q 3 (.n false 4 (.q 5 (.q 6 (.q 7 (.n false 8 (.q 9 .done)))))))))) ?_
    refine AtT.kmove ?_
    refine AtT.kcallP rfl rfl ok16 (great_f ps _ _ hs) ?_
    rintro _ rfl
    refine AtT.setT (d := 27) rfl (g1) ?_
    refine AtT.kmove ?_
    all_goals (first | refine AtT.kL 28 ?_ | refine AtT.pcase (d := 28) rfl (fun hg28 => ?_) (fun hg28 => ?_) | refine AtT.bcase (d := 28) rfl (fun hg28 => ?_) (fun hg28 => ?_))
    all_goals (first | refine AtT.kpass ?_ | refine AtT.kpassU ?_ | ((refine AtT.kmove ?_)))
    all_goals (first | refine AtT.kpassN ?_ | refine AtT.kpassNU ?_ | ((fail)))
    all_goals (refine AtT.kpick ?_)
    all_goals (refine AtT.kmove ?_)
    all_goals (first | refine AtT.kL 32 ?_ | refine AtT.pcase (d := 32) rfl (fun hg32 => ?_) (fun hg32 => ?_) | refine AtT.bcase (d := 32) rfl (fun hg32 => ?_) (fun hg32 => ?_))
    all_goals (first | refine AtT.kpass ?_ | refine AtT.kpassU ?_ | ((refine AtT.kmove ?_)))
    all_goals (first | refine AtT.kpassN ?_ | refine AtT.kpassNU ?_ | ((fail)))
    all_goals (refine AtT.kpick ?_)
    all_goals refine AtT.done ?_
    all_goals (refine At.nrm ?_)
    refine At.condT rfl rfl ?_
    refine At.nrm ?_
    refine At.ktext (.n false 0 (.q 1 .done)) ?_
    refine AtT.kcallP rfl rfl ok18 (works_f _) ?_
    rintro _ rfl
    refine AtT.kassign ?_
    refine AtT.done ?_
    refine At.nrm ?_
    exact At.ret1 rfl (.tmp rfl) rfl
  by_cases g2 : 20 < (l.length : Int)
  · refine At.ktext (.q 0 (.n false 1 (.q 2 (.q 3 (.n false 4 (.q 5 (.q 6 (.q 7 (.n false 8 (.q 9 .done)))))))))) ?_
    refine AtT.kmove ?_
    refine AtT.kcallP rfl rfl ok16 (great_f ps _ _ hs) ?_
    rintro _ rfl
    refine AtT.setF (d := 27) rfl (g1) ?_
    refine AtT.kmove ?_
    all_goals (first | refine AtT.kL 28 ?_ | refine AtT.pcase (d := 28) rfl (fun hg28 => ?_) (fun hg28 => ?_) | refine AtT.bcase (d := 28) rfl (fun hg28 => ?_) (fun hg28 => ?_))
    all_goals (first | refine AtT.kpass ?_ | refine AtT.kpassU ?_ | ((refine AtT.kmove ?_)))
    all_goals (first | refine AtT.kpassN ?_ | refine AtT.kpassNU ?_ | ((refine AtT.kcallP rfl rfl ok17 (long_f l _ _ hl) ?_) ; (rintro _ rfl)))
    all_goals (refine AtT.setT (d := 30) rfl (g2) ?_)
    all_goals (refine AtT.kpick ?_)
    all_goals (refine AtT.kmove ?_)
    all_goals (first | refine AtT.kL 32 ?_ | refine AtT.pcase (d := 32) rfl (fun hg32 => ?_) (fun hg32 => ?_) | refine AtT.bcase (d := 32) rfl (fun hg32 => ?_) (fun hg32 => ?_))
    all_goals (first | refine AtT.kpass ?_ | refine AtT.kpassU ?_ | ((refine AtT.kmove ?_)))
    all_goals (first | refine AtT.kpassN ?_ | refine AtT.kpassNU ?_ | ((fail)))
    all_goals (refine AtT.kpick ?_)
    all_goals refine AtT.done ?_
    all_goals (refine At.nrm ?_)
    refine At.condT rfl rfl ?_
    refine At.nrm ?_
    refine At.ktext (.n false 0 (.q 1 .done)) ?_
    refine AtT.kcallP rfl rfl ok18 (works_f _) ?_
    rintro _ rfl
    refine AtT.kassign ?_
    refine AtT.done ?_
    refine At.nrm ?_
    exact At.ret1 rfl (.tmp rfl) rfl
  by_cases g3 : 20 < (ms.length : Int)
  · refine At.ktext (.q 0 (.n false 1 (.q 2 (.q 3 (.n false 4 (.q 5 (.q 6 (.q 7 (.n false 8 (.q 9 .done)))))))))) ?_
    refine AtT.kmove ?_
    refine AtT.kcallP rfl rfl ok16 (great_f ps _ _ hs) ?_
    rintro _ rfl
    refine AtT.setF (d := 27) rfl (g1) ?_
    refine AtT.kmove ?_
    all_goals (first | refine AtT.kL 28 ?_ | refine AtT.pcase (d := 28) rfl (fun hg28 => ?_) (fun hg28 => ?_) | refine AtT.bcase (d := 28) rfl (fun hg28 => ?_) (fun hg28 => ?_))
    all_goals (first | refine AtT.kpass ?_ | refine AtT.kpassU ?_ | ((refine AtT.kmove ?_)))
    all_goals (first | refine AtT.kpassN ?_ | refine AtT.kpassNU ?_ | ((refine AtT.kcallP rfl rfl ok17 (long_f l _ _ hl) ?_) ; (rintro _ rfl)))
    all_goals (refine AtT.setF (d := 30) rfl (g2) ?_)
    all_goals (refine AtT.kpick ?_)
    all_goals (refine AtT.kmove ?_)
    all_goals (first | refine AtT.kL 32 ?_ | refine AtT.pcase (d := 32) rfl (fun hg32 => ?_) (fun hg32 => ?_) | refine AtT.bcase (d := 32) rfl (fun hg32 => ?_) (fun hg32 => ?_))
    all_goals (first | refine AtT.kpass ?_ | refine AtT.kpassU ?_ | ((refine AtT.kmove ?_)))
    all_goals (first | refine AtT.kpassN ?_ | refine AtT.kpassNU ?_ | ((refine AtT.kcallP rfl rfl ok17 (long_f ms _ _ hm) ?_) ; (rintro _ rfl)))
    all_goals (refine AtT.setT (d := 34) rfl (g3) ?_)
    all_goals (refine AtT.kpick ?_)
    all_goals refine AtT.done ?_
    all_goals (refine At.nrm ?_)
    refine At.condT rfl rfl ?_
    refine At.nrm ?_
    refine At.ktext (.n false 0 (.q 1 .done)) ?_
    refine AtT.kcallP rfl rfl ok18 (works_f _) ?_
    rintro _ rfl
    refine AtT.kassign ?_
    refine AtT.done ?_
    refine At.nrm ?_
    exact At.ret1 rfl (.tmp rfl) rfl
  refine At.ktext (.q 0 (.n false 1 (.q 2 (.q 3 (.n false 4 (.q 5 (.q 6 (.q 7 (.n false 8 (.q 9 .done)))))))))) ?_
  refine AtT.kmove ?_
  refine AtT.kcallP rfl rfl ok16 (great_f ps _ _ hs) ?_
  rintro _ rfl
  refine AtT.setF (d := 27) rfl (g1) ?_
  refine AtT.kmove ?_
  all_goals (first | refine AtT.kL 28 ?_ | refine AtT.pcase (d := 28) rfl (fun hg28 => ?_) (fun hg28 => ?_) | refine AtT.bcase (d := 28) rfl (fun hg28 => ?_) (fun hg28 => ?_))
  all_goals (first | refine AtT.kpass ?_ | refine AtT.kpassU ?_ | ((refine AtT.kmove ?_)))
  all_goals (first | refine AtT.kpassN ?_ | refine AtT.kpassNU ?_ | ((refine AtT.kcallP rfl rfl ok17 (long_f l _ _ hl) ?_) ; (rintro _ rfl)))
  all_goals (refine AtT.setF (d := 30) rfl (g2) ?_)
  all_goals (refine AtT.kpick ?_)
  all_goals (refine AtT.kmove ?_)
  all_goals (first | refine AtT.kL 32 ?_ | refine AtT.pcase (d := 32) rfl (fun hg32 => ?_) (fun hg32 => ?_) | refine AtT.bcase (d := 32) rfl (fun hg32 => ?_) (fun hg32 => ?_))
  all_goals (first | refine AtT.kpass ?_ | refine AtT.kpassU ?_ | ((refine AtT.kmove ?_)))
  all_goals (first | refine AtT.kpassN ?_ | refine AtT.kpassNU ?_ | ((refine AtT.kcallP rfl rfl ok17 (long_f ms _ _ hm) ?_) ; (rintro _ rfl)))
  all_goals (refine AtT.setF (d := 34) rfl (g3) ?_)
  all_goals (refine AtT.kpick ?_)
  all_goals refine AtT.done ?_
  all_goals (refine At.nrm ?_)
  refine At.condF rfl rfl ?_
  have hmk : (mkkL d ps sure).length ≤ 16 := by
    unfold mkkL
    split
    · have := mkL_len (bn d ps sure) ps.length; omega
    · simp
  refine At.nrm ?_
  refine At.ktext (.q 0 (.q 1 (.q 2 (.q 3 (.n false 4 (.q 5 (.q 6 (.q 7 (.q 8 (.q 9 .done)))))))))) ?_
  first | refine AtT.kloadOA tk25 ?_ | refine AtT.kloadA tk25 ?_ | refine AtT.kloadOP tk25 ?_
  refine AtT.kmove ?_
  refine AtT.kmove ?_
  refine AtT.kmove ?_
  refine AtT.kcallP rfl rfl ok25 (checkRow_f d ps sure l _ _ _ hs hl) ?_
  rintro _ rfl
  refine AtT.kmove ?_
  refine AtT.kextract ?_
  refine AtT.kextract ?_
  refine AtT.kassign ?_
  refine AtT.kassign ?_
  refine AtT.done ?_
  refine At.nrm ?_
  refine At.ktext (.q 0 (.q 1 (.q 2 (.q 3 (.n false 4 (.q 5 (.q 6 (.q 7 (.q 8 (.q 9 .done)))))))))) ?_
  first | refine AtT.kloadOA tk25 ?_ | refine AtT.kloadA tk25 ?_ | refine AtT.kloadOP tk25 ?_
  refine AtT.kmove ?_
  refine AtT.kmove ?_
  refine AtT.kmove ?_
  refine AtT.kcallP rfl rfl ok26 (rcheckRow_f d ps sure l _ _ _ hs hl) ?_
  rintro _ rfl
  refine AtT.kmove ?_
  refine AtT.kextract ?_
  refine AtT.kextract ?_
  refine AtT.kassign ?_
  refine AtT.kassign ?_
  refine AtT.done ?_
  refine At.nrm ?_
  refine At.ktext (.q 0 (.q 1 (.q 2 (.n false 3 (.q 4 (.q 5 (.q 6 (.q 7 (.q 8 .done))))))))) ?_
  first | refine AtT.kloadOA tk25 ?_ | refine AtT.kloadA tk25 ?_ | refine AtT.kloadOP tk25 ?_
  refine AtT.kmove ?_
  refine AtT.kmove ?_
  refine AtT.kcall rfl rfl ok27 (row_f d ps sure _ _ hs) ?_
  rintro _ V5 hV5 ⟨x, rfl, hx⟩
  refine AtT.kmove ?_
  refine AtT.kextract ?_
  refine AtT.kextract ?_
  refine AtT.kassign ?_
  refine AtT.kassign ?_
  refine AtT.done ?_
  refine At.nrm ?_
  refine At.ktext (.q 0 (.q 1 (.q 2 (.n false 3 (.q 4 (.q 5 (.q 6 (.q 7 (.q 8 .done))))))))) ?_
  first | refine AtT.kloadOA tk25 ?_ | refine AtT.kloadA tk25 ?_ | refine AtT.kloadOP tk25 ?_
  refine AtT.kmove ?_
  refine AtT.kmove ?_
  refine AtT.kcall rfl rfl ok28 (rrow_f d ps sure _ _ (hs.le hV5)) ?_
  rintro _ V6 hV6 ⟨y, rfl, hy⟩
  refine AtT.kmove ?_
  refine AtT.kextract ?_
  refine AtT.kextract ?_
  refine AtT.kassign ?_
  refine AtT.kassign ?_
  refine AtT.done ?_
  refine At.nrm ?_
  have hV := hV5.trans hV6
  refine At.ktext (.q 0 (.q 1 (.q 2 (.q 3 (.n false 4 (.q 5 (.q 6 (.q 7 (.q 8 (.q 9 .done)))))))))) ?_
  first | refine AtT.kloadOA tk25 ?_ | refine AtT.kloadA tk25 ?_ | refine AtT.kloadOP tk25 ?_
  refine AtT.kmove ?_
  refine AtT.kmove ?_
  refine AtT.kmove ?_
  refine AtT.kcallP rfl rfl ok29 (checkMarks_f d ps sure ms _ _ _ (hs.le hV) (hm.le hV)) ?_
  rintro _ rfl
  refine AtT.kmove ?_
  refine AtT.kextract ?_
  refine AtT.kextract ?_
  refine AtT.kassign ?_
  refine AtT.kassign ?_
  refine AtT.done ?_
  refine At.nrm ?_
  refine At.ktext (.q 0 (.q 1 (.q 2 (.q 3 (.n false 4 (.q 5 (.q 6 (.q 7 (.q 8 (.q 9 .done)))))))))) ?_
  first | refine AtT.kloadOA tk25 ?_ | refine AtT.kloadA tk25 ?_ | refine AtT.kloadOP tk25 ?_
  refine AtT.kmove ?_
  refine AtT.kmove ?_
  refine AtT.kmove ?_
  refine AtT.kcallP rfl rfl ok30 (rcheckMarks_f d ps sure ms _ _ _ (hs.le hV) (hm.le hV)) ?_
  rintro _ rfl
  refine AtT.kmove ?_
  refine AtT.kextract ?_
  refine AtT.kextract ?_
  refine AtT.kassign ?_
  refine AtT.kassign ?_
  refine AtT.done ?_
  refine At.nrm ?_
  refine At.ktext (.q 0 (.q 1 (.q 2 (.n false 3 (.q 4 (.q 5 (.q 6 (.q 7 (.q 8 .done))))))))) ?_
  first | refine AtT.kloadOA tk25 ?_ | refine AtT.kloadA tk25 ?_ | refine AtT.kloadOP tk25 ?_
  refine AtT.kmove ?_
  refine AtT.kmove ?_
  refine AtT.kcall rfl rfl ok31 (marksF_f d ps sure _ _ (hs.le hV)) ?_
  rintro _ V9 hV9 ⟨z, rfl, hz⟩
  refine AtT.kmove ?_
  refine AtT.kextract ?_
  refine AtT.kextract ?_
  refine AtT.kassign ?_
  refine AtT.kassign ?_
  refine AtT.done ?_
  refine At.nrm ?_
  have hx9 := (hx.le hV6).le hV9
  have hy9 := hy.le hV9
  have hs9 := (hs.le hV).le hV9
  refine At.ktext (.q 0 (.q 1 (.q 2 (.q 3 (.q 4 (.q 5 (.q 6 (.q 7 (.q 8 (.q 9 (.q 10 (.n false 11 (.q 12 (.q 13 (.q 14 (.q 15 (.q 16 (.q 17 (.q 18 (.q 19 (.q 20 (.q 21 (.q 22 (.q 23 (.q 24 (.q 25 (.q 26 (.q 27 (.q 28 (.q 29 (.q 30 (.q 31 (.q 32 (.q 33 (.q 34 (.q 35 (.n false 36 (.q 37 .done)))))))))))))))))))))))))))))))))))))) ?_
  refine AtT.kmove ?_
  refine AtT.kmove ?_
  refine AtT.kneI ?_
  refine AtT.setF (d := 92) rfl ((by simp)) ?_
  refine AtT.kmove ?_
  all_goals (first | refine AtT.kL 93 ?_ | refine AtT.pcase (d := 93) rfl (fun hg93 => ?_) (fun hg93 => ?_) | refine AtT.bcase (d := 93) rfl (fun hg93 => ?_) (fun hg93 => ?_))
  all_goals (first | refine AtT.kpass ?_ | refine AtT.kpassU ?_ | ((refine AtT.kmove ?_)))
  all_goals (first | refine AtT.kpass ?_ | refine AtT.kpassU ?_ | ((refine AtT.kmove ?_)))
  all_goals (first | refine AtT.kpass ?_ | refine AtT.kpassU ?_ | ((refine AtT.kneI ?_)))
  all_goals (refine AtT.setF (d := 96) rfl ((by simp)) ?_)
  all_goals (refine AtT.kpick ?_)
  all_goals (refine AtT.kmove ?_)
  all_goals (first | refine AtT.kL 98 ?_ | refine AtT.pcase (d := 98) rfl (fun hg98 => ?_) (fun hg98 => ?_) | refine AtT.bcase (d := 98) rfl (fun hg98 => ?_) (fun hg98 => ?_))
  all_goals (first | refine AtT.kpass ?_ | refine AtT.kpassU ?_ | ((refine AtT.kmove ?_)))
  all_goals (first | refine AtT.kpass ?_ | refine AtT.kpassU ?_ | ((refine AtT.kmove ?_)))
  all_goals (first | refine AtT.kpassN ?_ | refine AtT.kpassNU ?_ | ((refine AtT.kcallP rfl rfl ok32 (ints_f _ _ _ _ _ hx9 hy9) ?_) ; (rintro _ rfl)))
  all_goals (refine AtT.setT (d := 101) rfl (rfl) ?_)
  all_goals (first | refine AtT.kpass ?_ | refine AtT.kpassU ?_ | ((refine AtT.knot ?_)))
  all_goals (refine AtT.kpick ?_)
  all_goals (refine AtT.kmove ?_)
  all_goals (first | refine AtT.kL 104 ?_ | refine AtT.pcase (d := 104) rfl (fun hg104 => ?_) (fun hg104 => ?_) | refine AtT.bcase (d := 104) rfl (fun hg104 => ?_) (fun hg104 => ?_))
  all_goals (first | refine AtT.kpass ?_ | refine AtT.kpassU ?_ | ((refine AtT.kmove ?_)))
  all_goals (first | refine AtT.kpass ?_ | refine AtT.kpassU ?_ | ((refine AtT.kmove ?_)))
  all_goals (first | refine AtT.kpass ?_ | refine AtT.kpassU ?_ | ((refine AtT.kneI ?_)))
  all_goals (refine AtT.setF (d := 107) rfl ((by simp)) ?_)
  all_goals (refine AtT.kpick ?_)
  all_goals (refine AtT.kmove ?_)
  all_goals (first | refine AtT.kL 109 ?_ | refine AtT.pcase (d := 109) rfl (fun hg109 => ?_) (fun hg109 => ?_) | refine AtT.bcase (d := 109) rfl (fun hg109 => ?_) (fun hg109 => ?_))
  all_goals (first | refine AtT.kpass ?_ | refine AtT.kpassU ?_ | ((refine AtT.kmove ?_)))
  all_goals (first | refine AtT.kpass ?_ | refine AtT.kpassU ?_ | ((refine AtT.kmove ?_)))
  all_goals (first | refine AtT.kpass ?_ | refine AtT.kpassU ?_ | ((refine AtT.kneI ?_)))
  all_goals (refine AtT.setF (d := 112) rfl ((by simp)) ?_)
  all_goals (refine AtT.kpick ?_)
  all_goals (refine AtT.kmove ?_)
  all_goals (first | refine AtT.kL 114 ?_ | refine AtT.pcase (d := 114) rfl (fun hg114 => ?_) (fun hg114 => ?_) | refine AtT.bcase (d := 114) rfl (fun hg114 => ?_) (fun hg114 => ?_))
  all_goals (first | refine AtT.kpass ?_ | refine AtT.kpassU ?_ | ((refine AtT.kmove ?_)))
  all_goals (first | refine AtT.kpass ?_ | refine AtT.kpassU ?_ | ((refine AtT.kmove ?_)))
  all_goals (first | refine AtT.kpass ?_ | refine AtT.kpassU ?_ | ((refine AtT.kneI ?_)))
  all_goals (refine AtT.setF (d := 117) rfl ((by simp)) ?_)
  all_goals (refine AtT.kpick ?_)
  all_goals (refine AtT.kmove ?_)
  all_goals (first | refine AtT.kL 119 ?_ | refine AtT.pcase (d := 119) rfl (fun hg119 => ?_) (fun hg119 => ?_) | refine AtT.bcase (d := 119) rfl (fun hg119 => ?_) (fun hg119 => ?_))
  all_goals (first | refine AtT.kpass ?_ | refine AtT.kpassU ?_ | ((refine AtT.kmove ?_)))
  all_goals (first | refine AtT.kpass ?_ | refine AtT.kpassU ?_ | ((refine AtT.kmove ?_)))
  all_goals (first | refine AtT.kpass ?_ | refine AtT.kpassU ?_ | ((refine AtT.kneI ?_)))
  all_goals (refine AtT.setF (d := 122) rfl ((by simp)) ?_)
  all_goals (refine AtT.kpick ?_)
  all_goals (refine AtT.kmove ?_)
  all_goals (first | refine AtT.kL 124 ?_ | refine AtT.pcase (d := 124) rfl (fun hg124 => ?_) (fun hg124 => ?_) | refine AtT.bcase (d := 124) rfl (fun hg124 => ?_) (fun hg124 => ?_))
  all_goals (first | refine AtT.kpass ?_ | refine AtT.kpassU ?_ | ((refine AtT.kmove ?_)))
  all_goals (first | refine AtT.kpassN ?_ | refine AtT.kpassNU ?_ | ((refine AtT.kcallP rfl rfl ok17 (long_f _ _ _ hz) ?_) ; (rintro _ rfl)))
  all_goals (refine AtT.setF (d := 126) rfl ((by omega)) ?_)
  all_goals (refine AtT.kpick ?_)
  all_goals refine AtT.done ?_
  all_goals (refine At.nrm ?_)
  refine At.condF rfl rfl ?_
  refine At.nrm ?_
  obtain ⟨az, cz, rfl, _⟩ := id hz
  by_cases he : rowE d ps sure = 0
  rotate_left
  · have hmn : mkkL d ps sure = [] := by unfold mkkL; rw [if_neg he]
    refine At.ktext (.q 0 (.q 1 .done)) ?_
    refine AtT.kmove ?_
    refine AtT.kneI ?_
    refine AtT.done ?_
    refine At.nrm ?_
    refine At.condT rfl (decide_eq_true he) ?_
    refine At.nrm ?_
    refine At.ktext (.q 0 (.q 1 (.q 2 (.q 3 (.n false 4 (.q 5 (.q 6 .done))))))) ?_
    refine AtT.kmove ?_
    first | refine AtT.klenS Try.underlying27 ?_ | refine AtT.klenR Try.underlying27 ?_
    refine AtT.keqI ?_
    refine AtT.setT (d := 132) rfl ((by rw [hmn]; rfl)) ?_
    refine AtT.kmove ?_
    all_goals (first | refine AtT.kL 133 ?_ | refine AtT.pcase (d := 133) rfl (fun hg133 => ?_) (fun hg133 => ?_) | refine AtT.bcase (d := 133) rfl (fun hg133 => ?_) (fun hg133 => ?_))
    all_goals (first | refine AtT.kpassN ?_ | refine AtT.kpassNU ?_ | ((refine AtT.kcallP rfl rfl ok18 (works_f _) ?_) ; (rintro _ rfl)))
    all_goals (refine AtT.kpick ?_)
    all_goals (refine AtT.kassign ?_)
    all_goals refine AtT.done ?_
    all_goals (refine At.nrm ?_)
    exact At.ret1 rfl (.tmp rfl) rfl
  obtain ⟨hb0, hf⟩ := rowE_ok he
  have hbl := bn_len d ps sure
  have hmr : mkR d ps sure (mkkL d ps sure) = (((mkkL d ps sure).length : Int), 0) := by
    refine mkR_ok hb0 ?_ ?_
    · unfold mkkL; rw [if_pos he, ← hbl]; exact mk_lst _
    · unfold mkkL; rw [if_pos he, ← hbl]; exact mk_mks _
  have hlen : ((mkkL d ps sure).length : Int) = batN (rwL d ps sure) := by
    unfold mkkL rwL; rw [if_pos he, if_pos he, ← hbl]; exact mk_len hf
  have hrb : ∀ x ∈ rwL d ps sure, -1000000 ≤ x ∧ x < 1000000 := fun x hx => by
    unfold rwL at hx; rw [if_pos he] at hx
    have h1 := (plan_bat (row_plan hf)).2 x hx
    rw [row_len, hbl] at h1
    omega
  refine At.ktext (.q 0 (.q 1 .done)) ?_
  refine AtT.kmove ?_
  refine AtT.kneI ?_
  refine AtT.done ?_
  refine At.nrm ?_
  refine At.condF rfl (decide_eq_false (by simp [he])) ?_
  refine At.nrm ?_
  refine At.ktext (.q 0 (.q 1 (.q 2 (.q 3 (.n false 4 (.q 5 (.q 6 (.q 7 (.q 8 (.q 9 .done)))))))))) ?_
  first | refine AtT.kloadOA tk25 ?_ | refine AtT.kloadA tk25 ?_ | refine AtT.kloadOP tk25 ?_
  refine AtT.kmove ?_
  refine AtT.kmove ?_
  refine AtT.kmove ?_
  refine AtT.kcallP rfl rfl ok30 (rcheckMarks_f d ps sure _ _ _ _ hs9 hz) ?_
  rintro _ rfl; rw [hmr]
  refine AtT.kmove ?_
  refine AtT.kextract ?_
  refine AtT.kextract ?_
  refine AtT.kassign ?_
  refine AtT.kassign ?_
  refine AtT.done ?_
  refine At.nrm ?_
  refine At.ktext (.q 0 (.q 1 (.q 2 (.q 3 (.q 4 (.n false 5 (.q 6 (.q 7 (.q 8 (.n false 9 (.q 10 (.q 11 .done)))))))))))) ?_
  refine AtT.kmove ?_
  refine AtT.keqI ?_
  refine AtT.kmove ?_
  all_goals (first | refine AtT.kL 146 ?_ | refine AtT.pcase (d := 146) rfl (fun hg146 => ?_) (fun hg146 => ?_) | refine AtT.bcase (d := 146) rfl (fun hg146 => ?_) (fun hg146 => ?_))
  all_goals (first | refine AtT.kpass ?_ | refine AtT.kpassU ?_ | ((refine AtT.kmove ?_)))
  all_goals (first | refine AtT.kpass ?_ | refine AtT.kpassU ?_ | ((refine AtT.kmove ?_)))
  all_goals (first | refine AtT.kpassN ?_ | refine AtT.kpassNU ?_ | ((refine AtT.kcallP rfl rfl ok33 (bat_f _ hrb _ _ hy9) ?_) ; (rintro _ rfl)))
  all_goals (first | refine AtT.kpass ?_ | refine AtT.kpassU ?_ | ((refine AtT.keqI ?_)))
  all_goals (refine AtT.setT (d := 150) rfl (hlen) ?_)
  all_goals (refine AtT.kpick ?_)
  all_goals (refine AtT.kmove ?_)
  all_goals (first | refine AtT.kL 152 ?_ | refine AtT.pcase (d := 152) rfl (fun hg152 => ?_) (fun hg152 => ?_) | refine AtT.bcase (d := 152) rfl (fun hg152 => ?_) (fun hg152 => ?_))
  all_goals (first | refine AtT.kpassN ?_ | refine AtT.kpassNU ?_ | ((refine AtT.kcallP rfl rfl ok18 (works_f _) ?_) ; (rintro _ rfl)))
  all_goals (refine AtT.kpick ?_)
  all_goals (refine AtT.kassign ?_)
  all_goals refine AtT.done ?_
  all_goals (refine At.nrm ?_)
  exact At.ret1 rfl (.tmp rfl) rfl
theorem gluePlans_f (d : Dy) (ps : List Pn) (sure : Bool) (l : List Int) (V : View) (v vl : Value) (hs : Sl V pne 3 v ps) (hl : SlI V vl l) : Fnc Try.prog 5 [dyv d, v, .bool sure, vl] V fun r _ => r = .bool true := by
  refine fn_of Try.func5 rfl Try.ntmps5 (Nat.le_of_ble_eq_true rfl) ?_
  intro w0 hw0
  refine At.nrm ?_
  refine At.ktext (.n false 0 (.q 1 .done)) ?_
  refine AtT.kbox ?_
  intro b4
  refine AtT.kassign ?_
  refine AtT.done ?_
  refine At.nrm ?_
  by_cases g1 : 16 < (ps.length : Int)
  · refine At.ktext (.q 0 (.n false 1 (.q 2 (.q 3 (.n false 4 (.q 5 .done)))))) ?_
    refine AtT.kmove ?_
    refine AtT.kcallP rfl rfl ok16 (great_f ps _ _ hs) ?_
    rintro _ rfl
    refine AtT.setT (d := 28) rfl (g1) ?_
    refine AtT.kmove ?_
    all_goals (first | refine AtT.kL 29 ?_ | refine AtT.pcase (d := 29) rfl (fun hg29 => ?_) (fun hg29 => ?_) | refine AtT.bcase (d := 29) rfl (fun hg29 => ?_) (fun hg29 => ?_))
    all_goals (first | refine AtT.kpass ?_ | refine AtT.kpassU ?_ | ((refine AtT.kmove ?_)))
    all_goals (first | refine AtT.kpassN ?_ | refine AtT.kpassNU ?_ | ((fail)))
    all_goals (refine AtT.kpick ?_)
    all_goals refine AtT.done ?_
    all_goals (refine At.nrm ?_)
    refine At.condT rfl rfl ?_
    refine At.nrm ?_
    refine At.ktext (.n false 0 (.q 1 .done)) ?_
    refine AtT.kcallP rfl rfl ok18 (works_f _) ?_
    rintro _ rfl
    refine AtT.kassign ?_
    refine AtT.done ?_
    refine At.nrm ?_
    exact At.ret1 rfl (.tmp rfl) rfl
  by_cases g2 : 20 < (l.length : Int)
  · refine At.ktext (.q 0 (.n false 1 (.q 2 (.q 3 (.n false 4 (.q 5 .done)))))) ?_
    refine AtT.kmove ?_
    refine AtT.kcallP rfl rfl ok16 (great_f ps _ _ hs) ?_
    rintro _ rfl
    refine AtT.setF (d := 28) rfl (g1) ?_
    refine AtT.kmove ?_
    all_goals (first | refine AtT.kL 29 ?_ | refine AtT.pcase (d := 29) rfl (fun hg29 => ?_) (fun hg29 => ?_) | refine AtT.bcase (d := 29) rfl (fun hg29 => ?_) (fun hg29 => ?_))
    all_goals (first | refine AtT.kpass ?_ | refine AtT.kpassU ?_ | ((refine AtT.kmove ?_)))
    all_goals (first | refine AtT.kpassN ?_ | refine AtT.kpassNU ?_ | ((refine AtT.kcallP rfl rfl ok17 (long_f l _ _ hl) ?_) ; (rintro _ rfl)))
    all_goals (refine AtT.setT (d := 31) rfl (g2) ?_)
    all_goals (refine AtT.kpick ?_)
    all_goals refine AtT.done ?_
    all_goals (refine At.nrm ?_)
    refine At.condT rfl rfl ?_
    refine At.nrm ?_
    refine At.ktext (.n false 0 (.q 1 .done)) ?_
    refine AtT.kcallP rfl rfl ok18 (works_f _) ?_
    rintro _ rfl
    refine AtT.kassign ?_
    refine AtT.done ?_
    refine At.nrm ?_
    exact At.ret1 rfl (.tmp rfl) rfl
  refine At.ktext (.q 0 (.n false 1 (.q 2 (.q 3 (.n false 4 (.q 5 .done)))))) ?_
  refine AtT.kmove ?_
  refine AtT.kcallP rfl rfl ok16 (great_f ps _ _ hs) ?_
  rintro _ rfl
  refine AtT.setF (d := 28) rfl (g1) ?_
  refine AtT.kmove ?_
  all_goals (first | refine AtT.kL 29 ?_ | refine AtT.pcase (d := 29) rfl (fun hg29 => ?_) (fun hg29 => ?_) | refine AtT.bcase (d := 29) rfl (fun hg29 => ?_) (fun hg29 => ?_))
  all_goals (first | refine AtT.kpass ?_ | refine AtT.kpassU ?_ | ((refine AtT.kmove ?_)))
  all_goals (first | refine AtT.kpassN ?_ | refine AtT.kpassNU ?_ | ((refine AtT.kcallP rfl rfl ok17 (long_f l _ _ hl) ?_) ; (rintro _ rfl)))
  all_goals (refine AtT.setF (d := 31) rfl (g2) ?_)
  all_goals (refine AtT.kpick ?_)
  all_goals refine AtT.done ?_
  all_goals (refine At.nrm ?_)
  refine At.condF rfl rfl ?_
  refine At.nrm ?_
  refine At.ktext (.q 0 (.q 1 (.q 2 (.q 3 (.n false 4 (.q 5 (.q 6 (.q 7 (.q 8 (.q 9 .done)))))))))) ?_
  first | refine AtT.kloadOA tk25 ?_ | refine AtT.kloadA tk25 ?_ | refine AtT.kloadOP tk25 ?_
  refine AtT.kmove ?_
  refine AtT.kmove ?_
  refine AtT.kmove ?_
  refine AtT.kcallP rfl rfl ok34 (checkPlan_f d ps sure l _ _ _ hs hl) ?_
  rintro _ rfl
  refine AtT.kmove ?_
  refine AtT.kextract ?_
  refine AtT.kextract ?_
  refine AtT.kassign ?_
  refine AtT.kassign ?_
  refine AtT.done ?_
  refine At.nrm ?_
  refine At.ktext (.q 0 (.q 1 (.q 2 (.q 3 (.n false 4 (.q 5 (.q 6 (.q 7 (.q 8 (.q 9 .done)))))))))) ?_
  first | refine AtT.kloadOA tk25 ?_ | refine AtT.kloadA tk25 ?_ | refine AtT.kloadOP tk25 ?_
  refine AtT.kmove ?_
  refine AtT.kmove ?_
  refine AtT.kmove ?_
  refine AtT.kcallP rfl rfl ok35 (rcheckPlan_f d ps sure l _ _ _ hs hl) ?_
  rintro _ rfl
  refine AtT.kmove ?_
  refine AtT.kextract ?_
  refine AtT.kextract ?_
  refine AtT.kassign ?_
  refine AtT.kassign ?_
  refine AtT.done ?_
  refine At.nrm ?_
  refine At.ktext (.q 0 (.q 1 (.q 2 (.n false 3 (.q 4 (.q 5 (.q 6 (.q 7 (.q 8 .done))))))))) ?_
  first | refine AtT.kloadOA tk25 ?_ | refine AtT.kloadA tk25 ?_ | refine AtT.kloadOP tk25 ?_
  refine AtT.kmove ?_
  refine AtT.kmove ?_
  refine AtT.kcall rfl rfl ok36 (plan_f d ps sure _ _ hs) ?_
  rintro _ V5 hV5 ⟨x, rfl, hx⟩
  refine AtT.kmove ?_
  refine AtT.kextract ?_
  refine AtT.kextract ?_
  refine AtT.kassign ?_
  refine AtT.kassign ?_
  refine AtT.done ?_
  refine At.nrm ?_
  refine At.ktext (.q 0 (.q 1 (.q 2 (.n false 3 (.q 4 (.q 5 (.q 6 (.q 7 (.q 8 .done))))))))) ?_
  first | refine AtT.kloadOA tk25 ?_ | refine AtT.kloadA tk25 ?_ | refine AtT.kloadOP tk25 ?_
  refine AtT.kmove ?_
  refine AtT.kmove ?_
  refine AtT.kcall rfl rfl ok37 (rplan_f d ps sure _ _ (hs.le hV5)) ?_
  rintro _ V6 hV6 ⟨y, rfl, hy⟩
  refine AtT.kmove ?_
  refine AtT.kextract ?_
  refine AtT.kextract ?_
  refine AtT.kassign ?_
  refine AtT.kassign ?_
  refine AtT.done ?_
  refine At.nrm ?_
  have hV := hV5.trans hV6
  refine At.ktext (.q 0 (.q 1 (.q 2 (.n false 3 (.q 4 (.q 5 (.q 6 (.q 7 (.q 8 .done))))))))) ?_
  first | refine AtT.kloadOA tk25 ?_ | refine AtT.kloadA tk25 ?_ | refine AtT.kloadOP tk25 ?_
  refine AtT.kmove ?_
  refine AtT.kmove ?_
  refine AtT.kcallP rfl rfl ok38 (bound_f d ps sure _ _ (hs.le hV)) ?_
  rintro _ rfl
  refine AtT.kmove ?_
  refine AtT.kextract ?_
  refine AtT.kextract ?_
  refine AtT.kassign ?_
  refine AtT.kassign ?_
  refine AtT.done ?_
  refine At.nrm ?_
  refine At.ktext (.q 0 (.q 1 (.q 2 (.n false 3 (.q 4 (.q 5 (.q 6 (.q 7 (.q 8 .done))))))))) ?_
  first | refine AtT.kloadOA tk25 ?_ | refine AtT.kloadA tk25 ?_ | refine AtT.kloadOP tk25 ?_
  refine AtT.kmove ?_
  refine AtT.kmove ?_
  refine AtT.kcallP rfl rfl ok39 (rbound_f d ps sure _ _ (hs.le hV)) ?_
  rintro _ rfl
  refine AtT.kmove ?_
  refine AtT.kextract ?_
  refine AtT.kextract ?_
  refine AtT.kassign ?_
  refine AtT.kassign ?_
  refine AtT.done ?_
  refine At.nrm ?_
  refine At.ktext (.q 0 (.q 1 (.q 2 (.q 3 (.n false 4 (.q 5 (.q 6 (.q 7 (.q 8 (.q 9 (.q 10 (.q 11 .done)))))))))))) ?_
  first | refine AtT.kloadOA tk25 ?_ | refine AtT.kloadA tk25 ?_ | refine AtT.kloadOP tk25 ?_
  refine AtT.kmove ?_
  refine AtT.kmove ?_
  refine AtT.kmove ?_
  refine AtT.kcallP rfl rfl ok40 (spares_f d ps sure l _ _ _ (hs.le hV) (hl.le hV)) ?_
  rintro _ rfl
  refine AtT.kmove ?_
  refine AtT.kextract ?_
  refine AtT.kextract ?_
  refine AtT.kextract ?_
  refine AtT.kassign ?_
  refine AtT.kassign ?_
  refine AtT.kassign ?_
  refine AtT.done ?_
  refine At.nrm ?_
  refine At.ktext (.q 0 (.q 1 (.q 2 (.q 3 (.n false 4 (.q 5 (.q 6 (.q 7 (.q 8 (.q 9 (.q 10 (.q 11 .done)))))))))))) ?_
  first | refine AtT.kloadOA tk25 ?_ | refine AtT.kloadA tk25 ?_ | refine AtT.kloadOP tk25 ?_
  refine AtT.kmove ?_
  refine AtT.kmove ?_
  refine AtT.kmove ?_
  refine AtT.kcallP rfl rfl ok41 (rspares_f d ps sure l _ _ _ (hs.le hV) (hl.le hV)) ?_
  rintro _ rfl
  refine AtT.kmove ?_
  refine AtT.kextract ?_
  refine AtT.kextract ?_
  refine AtT.kextract ?_
  refine AtT.kassign ?_
  refine AtT.kassign ?_
  refine AtT.kassign ?_
  refine AtT.done ?_
  refine At.nrm ?_
  refine At.ktext (.q 0 (.q 1 (.q 2 (.q 3 (.q 4 (.q 5 (.q 6 (.q 7 (.q 8 (.q 9 (.q 10 (.n false 11 (.q 12 (.q 13 (.q 14 (.q 15 (.q 16 (.q 17 (.q 18 (.q 19 (.q 20 (.q 21 (.q 22 (.q 23 (.q 24 (.q 25 (.q 26 (.q 27 (.q 28 (.q 29 (.q 30 (.q 31 (.q 32 (.q 33 (.q 34 (.q 35 (.q 36 (.q 37 (.q 38 (.q 39 (.q 40 (.q 41 (.q 42 (.q 43 (.n false 44 (.q 45 (.q 46 .done))))))))))))))))))))))))))))))))))))))))))))))) ?_
  refine AtT.kmove ?_
  refine AtT.kmove ?_
  refine AtT.keqI ?_
  refine AtT.setT (d := 98) rfl (rfl) ?_
  refine AtT.kmove ?_
  all_goals (first | refine AtT.kL 99 ?_ | refine AtT.pcase (d := 99) rfl (fun hg99 => ?_) (fun hg99 => ?_) | refine AtT.bcase (d := 99) rfl (fun hg99 => ?_) (fun hg99 => ?_))
  all_goals (first | refine AtT.kpass ?_ | refine AtT.kpassU ?_ | ((refine AtT.kmove ?_)))
  all_goals (first | refine AtT.kpass ?_ | refine AtT.kpassU ?_ | ((refine AtT.kmove ?_)))
  all_goals (first | refine AtT.kpass ?_ | refine AtT.kpassU ?_ | ((refine AtT.keqI ?_)))
  all_goals (refine AtT.setT (d := 102) rfl (rfl) ?_)
  all_goals (refine AtT.kpick ?_)
  all_goals (refine AtT.kmove ?_)
  all_goals (first | refine AtT.kL 104 ?_ | refine AtT.pcase (d := 104) rfl (fun hg104 => ?_) (fun hg104 => ?_) | refine AtT.bcase (d := 104) rfl (fun hg104 => ?_) (fun hg104 => ?_))
  all_goals (first | refine AtT.kpass ?_ | refine AtT.kpassU ?_ | ((refine AtT.kmove ?_)))
  all_goals (first | refine AtT.kpass ?_ | refine AtT.kpassU ?_ | ((refine AtT.kmove ?_)))
  all_goals (first | refine AtT.kpassN ?_ | refine AtT.kpassNU ?_ | ((refine AtT.kcallP rfl rfl ok32 (ints_f _ _ _ _ _ (hx.le hV6) hy) ?_) ; (rintro _ rfl)))
  all_goals (refine AtT.setT (d := 107) rfl (rfl) ?_)
  all_goals (refine AtT.kpick ?_)
  all_goals (refine AtT.kmove ?_)
  all_goals (first | refine AtT.kL 109 ?_ | refine AtT.pcase (d := 109) rfl (fun hg109 => ?_) (fun hg109 => ?_) | refine AtT.bcase (d := 109) rfl (fun hg109 => ?_) (fun hg109 => ?_))
  all_goals (first | refine AtT.kpass ?_ | refine AtT.kpassU ?_ | ((refine AtT.kmove ?_)))
  all_goals (first | refine AtT.kpass ?_ | refine AtT.kpassU ?_ | ((refine AtT.kmove ?_)))
  all_goals (first | refine AtT.kpass ?_ | refine AtT.kpassU ?_ | ((refine AtT.keqI ?_)))
  all_goals (refine AtT.setT (d := 112) rfl (rfl) ?_)
  all_goals (refine AtT.kpick ?_)
  all_goals (refine AtT.kmove ?_)
  all_goals (first | refine AtT.kL 114 ?_ | refine AtT.pcase (d := 114) rfl (fun hg114 => ?_) (fun hg114 => ?_) | refine AtT.bcase (d := 114) rfl (fun hg114 => ?_) (fun hg114 => ?_))
  all_goals (first | refine AtT.kpass ?_ | refine AtT.kpassU ?_ | ((refine AtT.kmove ?_)))
  all_goals (first | refine AtT.kpass ?_ | refine AtT.kpassU ?_ | ((refine AtT.kmove ?_)))
  all_goals (first | refine AtT.kpass ?_ | refine AtT.kpassU ?_ | ((refine AtT.keqI ?_)))
  all_goals (refine AtT.setT (d := 117) rfl (rfl) ?_)
  all_goals (refine AtT.kpick ?_)
  all_goals (refine AtT.kmove ?_)
  all_goals (first | refine AtT.kL 119 ?_ | refine AtT.pcase (d := 119) rfl (fun hg119 => ?_) (fun hg119 => ?_) | refine AtT.bcase (d := 119) rfl (fun hg119 => ?_) (fun hg119 => ?_))
  all_goals (first | refine AtT.kpass ?_ | refine AtT.kpassU ?_ | ((refine AtT.kmove ?_)))
  all_goals (first | refine AtT.kpass ?_ | refine AtT.kpassU ?_ | ((refine AtT.kmove ?_)))
  all_goals (first | refine AtT.kpass ?_ | refine AtT.kpassU ?_ | ((refine AtT.keqI ?_)))
  all_goals (refine AtT.setT (d := 122) rfl (rfl) ?_)
  all_goals (refine AtT.kpick ?_)
  all_goals (refine AtT.kmove ?_)
  all_goals (first | refine AtT.kL 124 ?_ | refine AtT.pcase (d := 124) rfl (fun hg124 => ?_) (fun hg124 => ?_) | refine AtT.bcase (d := 124) rfl (fun hg124 => ?_) (fun hg124 => ?_))
  all_goals (first | refine AtT.kpass ?_ | refine AtT.kpassU ?_ | ((refine AtT.kmove ?_)))
  all_goals (first | refine AtT.kpass ?_ | refine AtT.kpassU ?_ | ((refine AtT.kmove ?_)))
  all_goals (first | refine AtT.kpass ?_ | refine AtT.kpassU ?_ | ((refine AtT.keqI ?_)))
  all_goals (refine AtT.setT (d := 127) rfl (rfl) ?_)
  all_goals (refine AtT.kpick ?_)
  all_goals (refine AtT.kmove ?_)
  all_goals (first | refine AtT.kL 129 ?_ | refine AtT.pcase (d := 129) rfl (fun hg129 => ?_) (fun hg129 => ?_) | refine AtT.bcase (d := 129) rfl (fun hg129 => ?_) (fun hg129 => ?_))
  all_goals (first | refine AtT.kpass ?_ | refine AtT.kpassU ?_ | ((refine AtT.kmove ?_)))
  all_goals (first | refine AtT.kpass ?_ | refine AtT.kpassU ?_ | ((refine AtT.kmove ?_)))
  all_goals (first | refine AtT.kpass ?_ | refine AtT.kpassU ?_ | ((refine AtT.keqI ?_)))
  all_goals (refine AtT.setT (d := 132) rfl (rfl) ?_)
  all_goals (refine AtT.kpick ?_)
  all_goals (refine AtT.kmove ?_)
  all_goals (first | refine AtT.kL 134 ?_ | refine AtT.pcase (d := 134) rfl (fun hg134 => ?_) (fun hg134 => ?_) | refine AtT.bcase (d := 134) rfl (fun hg134 => ?_) (fun hg134 => ?_))
  all_goals (first | refine AtT.kpass ?_ | refine AtT.kpassU ?_ | ((refine AtT.kmove ?_)))
  all_goals (first | refine AtT.kpass ?_ | refine AtT.kpassU ?_ | ((refine AtT.kmove ?_)))
  all_goals (first | refine AtT.kpass ?_ | refine AtT.kpassU ?_ | ((refine AtT.keqI ?_)))
  all_goals (refine AtT.setT (d := 137) rfl (rfl) ?_)
  all_goals (refine AtT.kpick ?_)
  all_goals (refine AtT.kmove ?_)
  all_goals (first | refine AtT.kL 139 ?_ | refine AtT.pcase (d := 139) rfl (fun hg139 => ?_) (fun hg139 => ?_) | refine AtT.bcase (d := 139) rfl (fun hg139 => ?_) (fun hg139 => ?_))
  all_goals (first | refine AtT.kpassN ?_ | refine AtT.kpassNU ?_ | ((refine AtT.kcallP rfl rfl ok18 (works_f _) ?_) ; (rintro _ rfl)))
  all_goals (refine AtT.kpick ?_)
  all_goals (refine AtT.kassign ?_)
  all_goals refine AtT.done ?_
  all_goals (refine At.nrm ?_)
  exact At.ret1 rfl (.tmp rfl) rfl
end Go.Proofs.Ytmnbkceiaifncaa
namespace Go.Gl
open Go.Lw
/-- Two panels do not share a batch. -/
def Ap2 (B : Bn) (a b : Int) : Prop := fitE B (sumL B [a, b]) ≠ 0
/-- A list of panels that are apart. -/
def Ap (B : Bn) (l : List Int) : Prop := l.Pairwise (fun a b => a < b ∧ Ap2 B a b) ∧ ∀ x ∈ l, 0 ≤ x ∧ x < (B.each.length : Int)
theorem getD_get {l : List Int} {i : Nat} (h : i < l.length) : l.getD i 0 = l[i] := by simp [List.getD, List.getElem?_eq_getElem h]
theorem apB_iff {B : Bn} {l : List Int} : apB B l = true ↔ l.Pairwise (Ap2 B) := by
  rw [List.pairwise_iff_getElem]
  constructor
  · intro h i j hi hj hij
    have := apRow_at (apB_at h hj) hij
    unfold apAt at this
    rw [decide_eq_true_eq, getD_get hi, getD_get hj] at this
    exact this
  · intro h
    refine apB_true fun j hj => apRow_true fun i hi => ?_
    unfold apAt
    rw [decide_eq_true_eq, getD_get (by omega), getD_get hj]
    exact h i j (by omega) hj hi
theorem lstB_iff {l : List Int} {n : Int} : lstB l n = true ↔ l.Pairwise (· < ·) ∧ ∀ x ∈ l, 0 ≤ x ∧ x < n := by
  constructor
  · intro h
    refine ⟨?_, lstB_in h⟩
    rw [List.pairwise_iff_getElem]
    intro i j hi hj hij
    have := lst_lt h i j hij hj
    rw [getD_get hi, getD_get hj] at this
    exact this
  · rintro ⟨h1, h2⟩
    rw [List.pairwise_iff_getElem] at h1
    refine lstB_true fun j hj => ?_
    have hx := h2 _ (getD_mem hj)
    unfold okAt
    refine decide_eq_true ⟨hx.1, ?_, hx.2⟩
    match j with
    | 0 => simp only [prevN]; exact hx.1
    | k + 1 =>
      have := h1 k (k + 1) (by omega) hj (by omega)
      simp only [prevN]
      rw [getD_get (by omega), getD_get hj]
      omega
theorem ap_iff {B : Bn} {l : List Int} : Ap B l ↔ lstB l (B.each.length : Int) = true ∧ apB B l = true := by
  rw [lstB_iff, apB_iff]
  unfold Ap
  rw [List.pairwise_and_iff]
  constructor
  · rintro ⟨⟨a, b⟩, c⟩; exact ⟨⟨a, c⟩, b⟩
  · rintro ⟨⟨a, c⟩, b⟩; exact ⟨⟨a, b⟩, c⟩

theorem befB_refl : ∀ a : List Int, befB a a = false
  | [] => rfl
  | x :: a => by simp [befB, befB_refl a]
theorem befB_app : ∀ (c a b : List Int), befB (c ++ a) (c ++ b) = befB a b
  | [], a, b => rfl
  | x :: c, a, b => by simp [befB, befB_app c a b]
theorem befB_trans : ∀ {a b c : List Int}, befB a b = true → befB b c = true → befB a c = true
  | [], [], _, h, _ => by simp [befB] at h
  | [], _ :: _, [], _, k => by simp [befB] at k
  | [], _ :: _, _ :: _, _, _ => rfl
  | _ :: _, [], _, h, _ => by simp [befB] at h
  | _ :: _, _ :: _, [], _, k => by simp [befB] at k
  | x :: a, y :: b, z :: c, h, k => by
    simp only [befB] at h k ⊢
    by_cases e1 : x = y
    · subst e1
      rw [if_pos rfl] at h
      by_cases e2 : x = z
      · subst e2
        rw [if_pos rfl] at k ⊢
        exact befB_trans h k
      · rw [if_neg e2] at k ⊢; exact k
    · rw [if_neg e1, decide_eq_true_eq] at h
      by_cases e2 : y = z
      · subst e2
        rw [if_neg e1]; exact decide_eq_true h
      · rw [if_neg e2, decide_eq_true_eq] at k
        rw [if_neg (by omega)]; exact decide_eq_true (by omega)
theorem befB_anti : ∀ {a b : List Int}, a.length = b.length → befB a b = false → befB b a = false → a = b
  | [], [], _, _, _ => rfl
  | [], _ :: _, h, _, _ => by simp at h
  | _ :: _, [], h, _, _ => by simp at h
  | x :: a, y :: b, h, h1, h2 => by
    simp only [befB] at h1 h2
    by_cases e : x = y
    · subst e
      rw [if_pos rfl] at h1 h2
      rw [befB_anti (by simpa using h) h1 h2]
    · rw [if_neg e, decide_eq_false_iff_not] at h1
      rw [if_neg (fun h => e h.symm), decide_eq_false_iff_not] at h2
      omega
/-- The first one of the longest lists of panels that are apart. -/
def FirstA (B : Bn) (r : List Int) : Prop := Ap B r ∧ ∀ l, Ap B l → l.length < r.length ∨ l.length = r.length ∧ befB l r = false
theorem first_uniq {B : Bn} {a b : List Int} (ha : FirstA B a) (hb : FirstA B b) : a = b := by
  have h1 := ha.2 b hb.1
  have h2 := hb.2 a ha.1
  rcases h1 with h1 | ⟨h1, k1⟩
  · rcases h2 with h2 | ⟨h2, k2⟩ <;> omega
  · rcases h2 with h2 | ⟨h2, k2⟩
    · omega
    · exact befB_anti h2 k2 k1

/-- What goes on from some panels that are apart. -/
def GoA (B : Bn) (t : Nat) (begun l : List Int) : Prop := ∃ m, l = begun ++ m ∧ Ap B l ∧ ∀ x ∈ m, (B.each.length : Int) - (t : Int) ≤ x
theorem goA_len {B : Bn} {t : Nat} {begun l : List Int} (h : GoA B t begun l) : begun.length ≤ l.length := by
  obtain ⟨m, rfl, _⟩ := h; rw [List.length_append]; omega
theorem goA_split {B : Bn} {t : Nat} {begun l : List Int} (h : GoA B (t + 1) begun l) : GoA B t begun l ∨ GoA B t (begun ++ [(B.each.length : Int) - ((t + 1 : Nat) : Int)]) l := by
  obtain ⟨m, rfl, h1, h2⟩ := h
  cases m with
  | nil => exact .inl ⟨[], rfl, h1, fun x hx => by cases hx⟩
  | cons y m =>
    have hp := (List.pairwise_append.1 h1.1).2.1
    rw [List.pairwise_cons] at hp
    have hy := h2 y List.mem_cons_self
    by_cases c : y = (B.each.length : Int) - ((t + 1 : Nat) : Int)
    · right
      refine ⟨m, by rw [← c]; simp, h1, fun x hx => ?_⟩
      have := (hp.1 x hx).1
      push_cast at c; omega
    · left
      refine ⟨y :: m, rfl, h1, fun x hx => ?_⟩
      push_cast at hy c
      rcases List.mem_cons.1 hx with rfl | hx
      · omega
      · have := (hp.1 x hx).1; omega
theorem goA_up {B : Bn} {t : Nat} {begun l : List Int} (h : GoA B t begun l) : GoA B (t + 1) begun l := by
  obtain ⟨m, rfl, h1, h2⟩ := h
  exact ⟨m, rfl, h1, fun x hx => by have := h2 x hx; push_cast; omega⟩
theorem goA_in {B : Bn} {t : Nat} {begun l : List Int} (h : GoA B t (begun ++ [(B.each.length : Int) - ((t + 1 : Nat) : Int)]) l) : GoA B (t + 1) begun l := by
  obtain ⟨m, rfl, h1, h2⟩ := h
  refine ⟨((B.each.length : Int) - ((t + 1 : Nat) : Int)) :: m, by simp, h1, fun x hx => ?_⟩
  rcases List.mem_cons.1 hx with rfl | hx
  · omega
  · have := h2 x hx; push_cast; omega
theorem apG_first {B : Bn} : ∀ (t : Nat) (begun out : List Int), t ≤ B.each.length → Ap B begun → (∀ x ∈ begun, x < (B.each.length : Int) - (t : Int)) →
    (apG B t begun out = out ∧ ∀ l, GoA B t begun l → l.length ≤ out.length) ∨
    (GoA B t begun (apG B t begun out) ∧ out.length < (apG B t begun out).length ∧ ∀ l, GoA B t begun l → l.length ≤ (apG B t begun out).length ∧ (l.length = (apG B t begun out).length → befB l (apG B t begun out) = false)) ∨
    (begun.length ≤ out.length → False)
  | 0, begun, out, ht, hb, hx => by
    by_cases c : begun.length ≤ out.length
    · refine .inl ⟨rfl, fun l hl => ?_⟩
      obtain ⟨m, rfl, h1, h2⟩ := hl
      cases m with
      | nil => simpa using c
      | cons y m =>
        have := h2 y List.mem_cons_self
        have := h1.2 y (by simp)
        push_cast at *; omega
    · exact .inr (.inr c)
  | t + 1, begun, out, ht, hb, hx => by
    by_cases c0 : begun.length ≤ out.length
    rotate_left
    · exact .inr (.inr c0)
    obtain ⟨i, hi⟩ : ∃ i, i = (B.each.length : Int) - ((t + 1 : Nat) : Int) := ⟨_, rfl⟩
    have hx' : ∀ x ∈ begun, x < (B.each.length : Int) - (t : Int) := fun x h => by have := hx x h; push_cast at this; omega
    have hsp : ∀ l, GoA B (t + 1) begun l → GoA B t begun l ∨ GoA B t (begun ++ [i]) l := fun l h => by rw [hi]; exact goA_split h
    simp only [apG, ← hi]
    by_cases c : shrB B begun i = true
    · rw [if_pos c]
      have hno : ∀ l, ¬ GoA B t (begun ++ [i]) l := fun l hl => by
        obtain ⟨m, rfl, h1, _⟩ := hl
        unfold shrB at c
        obtain ⟨k, hk, hf⟩ := List.any_eq_true.1 c
        rw [decide_eq_true_eq] at hf
        have h3 := (List.pairwise_append.1 (List.pairwise_append.1 h1.1).1).2.2 k hk i (by simp)
        exact h3.2 hf
      have hd : ∀ l, GoA B (t + 1) begun l → GoA B t begun l := fun l hl => (hsp l hl).resolve_right (hno l)
      rcases apG_first t begun out (by omega) hb hx' with ⟨h1, h2⟩ | ⟨h1, h2, h3⟩ | h
      · exact .inl ⟨h1, fun l hl => h2 l (hd l hl)⟩
      · exact .inr (.inl ⟨goA_up h1, h2, fun l hl => h3 l (hd l hl)⟩)
      · exact absurd c0 h
    · rw [if_neg c]
      have hbi : Ap B (begun ++ [i]) := by
        refine ⟨List.pairwise_append.2 ⟨hb.1, List.pairwise_singleton _ _, fun a ha b hb' => ?_⟩, fun x hx2 => ?_⟩
        · rw [List.mem_singleton] at hb'
          subst hb'
          refine ⟨by have := hx a ha; omega, fun hf => c ?_⟩
          unfold shrB
          exact List.any_eq_true.2 ⟨a, ha, decide_eq_true hf⟩
        · rcases List.mem_append.1 hx2 with h | h
          · exact hb.2 x h
          · rw [List.mem_singleton] at h; subst h; push_cast at hi; omega
      have hxi : ∀ x ∈ begun ++ [i], x < (B.each.length : Int) - (t : Int) := fun x h => by
        rcases List.mem_append.1 h with h | h
        · exact hx' x h
        · rw [List.mem_singleton] at h; subst h; push_cast at hi; omega
      obtain ⟨r1, hr1⟩ : ∃ r1, r1 = apG B t (begun ++ [i]) (begun ++ [i]) := ⟨_, rfl⟩
      rw [← hr1]
      -- the first of the longest that go on with this panel
      have hr : GoA B t (begun ++ [i]) r1 ∧ ∀ l, GoA B t (begun ++ [i]) l → l.length ≤ r1.length ∧ (l.length = r1.length → befB l r1 = false) := by
        rcases apG_first t (begun ++ [i]) (begun ++ [i]) (by omega) hbi hxi with ⟨h1, h2⟩ | ⟨h1, h2, h3⟩ | h
        · rw [← hr1] at h1
          rw [h1]
          refine ⟨⟨[], by simp, hbi, fun x hx => by cases hx⟩, fun l hl => ⟨h2 l hl, fun he => ?_⟩⟩
          obtain ⟨m, rfl, _⟩ := hl
          rw [List.length_append] at he
          obtain rfl : m = [] := List.eq_nil_of_length_eq_zero (by omega)
          rw [List.append_nil]; exact befB_refl _
        · rw [← hr1] at h1 h3; exact ⟨h1, h3⟩
        · exact absurd (Nat.le_refl _) h
      have hr1b := goA_len hr.1
      rw [List.length_append] at hr1b
      simp only [List.length_cons, List.length_nil] at hr1b
      -- what does not go on with it does not come before
      have hlate : ∀ l, GoA B t begun l → l.length = r1.length → befB l r1 = false := fun l hl he => by
        obtain ⟨m, rfl, _, h2⟩ := hl
        obtain ⟨m1, hm1, _, _⟩ := hr.1
        rw [hm1, List.append_assoc, befB_app]
        cases m with
        | nil => rw [List.append_nil] at he; omega
        | cons y m =>
          have := h2 y List.mem_cons_self
          show (if y = i then befB m m1 else decide (y < i)) = false
          push_cast at hi
          rw [if_neg (by omega)]
          exact decide_eq_false (by omega)
      by_cases d : out.length < r1.length
      · rw [if_pos d]
        rcases apG_first t begun r1 (by omega) hb hx' with ⟨h1, h2⟩ | ⟨h1, h2, h3⟩ | h
        · refine .inr (.inl ?_)
          rw [h1]
          refine ⟨by rw [hi] at hr; exact goA_in hr.1, d, fun l hl => ?_⟩
          rcases hsp l hl with hl | hl
          · exact ⟨h2 l hl, hlate l hl⟩
          · exact hr.2 l hl
        · refine .inr (.inl ⟨goA_up h1, by omega, fun l hl => ?_⟩)
          rcases hsp l hl with hl | hl
          · exact h3 l hl
          · have := (hr.2 l hl).1
            exact ⟨by omega, fun he => by omega⟩
        · exact absurd (by omega) h
      · rw [if_neg d]
        rcases apG_first t begun out (by omega) hb hx' with ⟨h1, h2⟩ | ⟨h1, h2, h3⟩ | h
        · refine .inl ⟨h1, fun l hl => ?_⟩
          rcases hsp l hl with hl | hl
          · exact h2 l hl
          · have := (hr.2 l hl).1; omega
        · refine .inr (.inl ⟨goA_up h1, h2, fun l hl => ?_⟩)
          rcases hsp l hl with hl | hl
          · exact h3 l hl
          · have := (hr.2 l hl).1
            exact ⟨by omega, fun he => by omega⟩
        · exact absurd c0 h
theorem apG_is {B : Bn} : FirstA B (apG B B.each.length [] []) := by
  have h0 : Ap B [] := ⟨List.Pairwise.nil, fun x hx => by cases hx⟩
  have hall : ∀ l, Ap B l → GoA B B.each.length [] l := fun l hl => ⟨l, rfl, hl, fun x hx => by have := hl.2 x hx; omega⟩
  rcases apG_first (B := B) B.each.length [] [] (Nat.le_refl _) h0 (fun x hx => by cases hx) with ⟨h1, h2⟩ | ⟨h1, h2, h3⟩ | h
  · rw [h1]
    refine ⟨h0, fun l hl => .inr ?_⟩
    have := h2 l (hall l hl)
    obtain rfl : l = [] := List.eq_nil_of_length_eq_zero (by simpa using this)
    exact ⟨rfl, rfl⟩
  · obtain ⟨m, hm, ha, _⟩ := h1
    refine ⟨ha, fun l hl => ?_⟩
    obtain ⟨a, b⟩ := h3 l (hall l hl)
    by_cases c : l.length = (apG B B.each.length [] []).length
    · exact .inr ⟨c, b c⟩
    · exact .inl (by omega)
  · exact absurd (Nat.le_refl 0) h

theorem bitL_mem {A : Nat} : ∀ {n : Nat} {x : Int}, x ∈ bitL A n ↔ ∃ i : Nat, i < n ∧ x = (i : Int) ∧ A.testBit i = true
  | 0, x => by simp [bitL]
  | n + 1, x => by
    have ih := bitL_mem (A := A) (n := n) (x := x)
    simp only [bitL]
    by_cases c : A.testBit n = true
    · rw [if_pos c, List.mem_append, ih, List.mem_singleton]
      constructor
      · rintro (⟨i, h1, h2, h3⟩ | h)
        · exact ⟨i, by omega, h2, h3⟩
        · exact ⟨n, by omega, h, c⟩
      · rintro ⟨i, h1, h2, h3⟩
        by_cases d : i = n
        · subst d; exact .inr h2
        · exact .inl ⟨i, by omega, h2, h3⟩
    · rw [if_neg c, ih]
      constructor
      · rintro ⟨i, h1, h2, h3⟩; exact ⟨i, by omega, h2, h3⟩
      · rintro ⟨i, h1, h2, h3⟩
        have : i ≠ n := fun h => c (by rw [← h]; exact h3)
        exact ⟨i, by omega, h2, h3⟩
theorem bitL_lt (A : Nat) : ∀ n, (bitL A n).Pairwise (· < ·)
  | 0 => List.Pairwise.nil
  | n + 1 => by
    have ih := bitL_lt A n
    simp only [bitL]
    split
    · refine List.pairwise_append.2 ⟨ih, List.pairwise_singleton _ _, fun a ha b hb => ?_⟩
      rw [List.mem_singleton] at hb
      obtain ⟨i, h1, h2, _⟩ := bitL_mem.1 ha
      omega
    · exact ih
theorem sorted_ext : ∀ {a b : List Int}, a.Pairwise (· < ·) → b.Pairwise (· < ·) → (∀ x, x ∈ a ↔ x ∈ b) → a = b
  | [], [], _, _, _ => rfl
  | [], y :: b, _, _, h => by have := (h y).2 List.mem_cons_self; cases this
  | x :: a, [], _, _, h => by have := (h x).1 List.mem_cons_self; cases this
  | x :: a, y :: b, ha, hb, h => by
    rw [List.pairwise_cons] at ha hb
    have e : x = y := by
      rcases List.mem_cons.1 ((h x).1 List.mem_cons_self) with h1 | h1
      · exact h1
      · rcases List.mem_cons.1 ((h y).2 List.mem_cons_self) with h2 | h2
        · exact h2.symm
        · have := hb.1 x h1; have := ha.1 y h2; omega
    subst e
    rw [sorted_ext ha.2 hb.2 fun z => ?_]
    have := h z
    rw [List.mem_cons, List.mem_cons] at this
    constructor
    · intro hz
      rcases this.1 (.inr hz) with h1 | h1
      · have := ha.1 z hz; omega
      · exact h1
    · intro hz
      rcases this.2 (.inr hz) with h1 | h1
      · have := hb.1 z hz; omega
      · exact h1
/-- Each list that rises is one of those that bits say. -/
theorem bitL_sur {l : List Int} {n : Nat} (h : l.Pairwise (· < ·)) (hx : ∀ x ∈ l, 0 ≤ x ∧ x < (n : Int)) : ∃ A, A < 2 ^ n ∧ bitL A n = l := by
  refine ⟨mkM (fun i => decide ((i : Int) ∈ l)) n, ?_, sorted_ext (bitL_lt _ _) h fun x => ?_⟩
  · refine Nat.lt_pow_two_of_testBit _ fun i hi => ?_
    rw [mkM_bit]; simp; omega
  · rw [bitL_mem]
    constructor
    · rintro ⟨i, h1, rfl, h2⟩
      rw [mkM_bit] at h2; simp at h2; exact h2.2
    · intro hm
      have := hx x hm
      refine ⟨x.toNat, by omega, by omega, ?_⟩
      rw [mkM_bit]
      have e : ((x.toNat : Nat) : Int) = x := by omega
      simp [e, hm]; omega
theorem apK_best {B : Bn} : ∀ k, Ap B (apK B k) ∧ ∀ j, j < k → Ap B (bitL j B.each.length) → (bitL j B.each.length).length < (apK B k).length ∨ (bitL j B.each.length).length = (apK B k).length ∧ befB (bitL j B.each.length) (apK B k) = false
  | 0 => ⟨⟨List.Pairwise.nil, fun x hx => by cases hx⟩, fun j hj => by omega⟩
  | k + 1 => by
    obtain ⟨h1, h2⟩ := apK_best (B := B) k
    have hap : Ap B (bitL k B.each.length) ↔ apB B (bitL k B.each.length) = true := by
      rw [ap_iff]
      constructor
      · exact fun h => h.2
      · intro h
        refine ⟨lstB_iff.2 ⟨bitL_lt _ _, fun x hx => ?_⟩, h⟩
        obtain ⟨i, a, b, _⟩ := bitL_mem.1 hx
        omega
    simp only [apK]
    by_cases c : apB B (bitL k B.each.length) = true ∧ ((apK B k).length < (bitL k B.each.length).length ∨ (bitL k B.each.length).length = (apK B k).length ∧ befB (bitL k B.each.length) (apK B k) = true)
    · rw [if_pos c]
      refine ⟨hap.2 c.1, fun j hj ha => ?_⟩
      by_cases d : j = k
      · subst d; exact .inr ⟨rfl, befB_refl _⟩
      · rcases h2 j (by omega) ha with g | ⟨g, g'⟩
        · rcases c.2 with e | ⟨e, _⟩ <;> exact .inl (by omega)
        · rcases c.2 with e | ⟨e, e'⟩
          · exact .inl (by omega)
          · refine .inr ⟨by omega, ?_⟩
            cases hb : befB (bitL j B.each.length) (bitL k B.each.length) with
            | false => rfl
            | true => rw [befB_trans hb e'] at g'; cases g'
    · rw [if_neg c]
      refine ⟨h1, fun j hj ha => ?_⟩
      by_cases d : j = k
      · subst d
        have c2 := fun h => c ⟨hap.1 ha, h⟩
        by_cases e : (bitL j B.each.length).length < (apK B j).length
        · exact .inl e
        · have e1 : ¬ (apK B j).length < (bitL j B.each.length).length := fun h => c2 (.inl h)
          refine .inr ⟨by omega, ?_⟩
          cases hb : befB (bitL j B.each.length) (apK B j) with
          | false => rfl
          | true => exact absurd (.inr ⟨by omega, hb⟩) c2
      · exact h2 j (by omega) ha
theorem apK_is {B : Bn} : FirstA B (apK B (2 ^ B.each.length)) := by
  obtain ⟨h1, h2⟩ := apK_best (B := B) (2 ^ B.each.length)
  refine ⟨h1, fun l hl => ?_⟩
  have hl' := (lstB_iff.1 (ap_iff.1 hl).1)
  obtain ⟨A, hA, rfl⟩ := bitL_sur hl'.1 hl'.2
  exact h2 A hA hl
theorem ap_same (B : Bn) : apG B B.each.length [] [] = apK B (2 ^ B.each.length) := first_uniq apG_is apK_is
end Go.Gl
set_option linter.unusedVariables false
namespace Go.Proofs.Ytmnbkceiaifncaa
open Go.Lw Go.Gl Go.RowKit

theorem glueAparts_f (d : Dy) (ps : List Pn) (sure : Bool) (l : List Int) (V : View) (v vl : Value) (hs : Sl V pne 3 v ps) (hl : SlI V vl l) : Fnc Try.prog 6 [dyv d, v, .bool sure, vl] V fun r _ => r = .bool true := by
  have hbl := bn_len d ps sure
  have hsame : (if bothE d ps = 0 then apG (bn d ps sure) ps.length [] [] else []) = (if bothE d ps = 0 then apK (bn d ps sure) (2 ^ ps.length) else []) := by
    rw [← hbl, ap_same]
  refine fn_of Try.func6 rfl Try.ntmps6 (Nat.le_of_ble_eq_true rfl) ?_
  intro w0 hw0
  refine At.nrm ?_
  refine At.ktext (.n false 0 (.q 1 .done)) ?_
  refine AtT.kbox ?_
  intro b4
  refine AtT.kassign ?_
  refine AtT.done ?_
  refine At.nrm ?_
  by_cases g1 : 16 < (ps.length : Int)
  · refine At.ktext (.q 0 (.n false 1 (.q 2 (.q 3 (.n false 4 (.q 5 .done)))))) ?_
    refine AtT.kmove ?_
    refine AtT.kcallP rfl rfl ok16 (great_f ps _ _ hs) ?_
    rintro _ rfl
    refine AtT.setT (d := 14) rfl (g1) ?_
    refine AtT.kmove ?_
    all_goals (first | refine AtT.kL 15 ?_ | refine AtT.pcase (d := 15) rfl (fun hg15 => ?_) (fun hg15 => ?_) | refine AtT.bcase (d := 15) rfl (fun hg15 => ?_) (fun hg15 => ?_))
    all_goals (first | refine AtT.kpass ?_ | refine AtT.kpassU ?_ | ((refine AtT.kmove ?_)))
    all_goals (first | refine AtT.kpassN ?_ | refine AtT.kpassNU ?_ | ((fail)))
    all_goals (refine AtT.kpick ?_)
    all_goals refine AtT.done ?_
    all_goals (refine At.nrm ?_)
    refine At.condT rfl rfl ?_
    refine At.nrm ?_
    refine At.ktext (.n false 0 (.q 1 .done)) ?_
    refine AtT.kcallP rfl rfl ok18 (works_f _) ?_
    rintro _ rfl
    refine AtT.kassign ?_
    refine AtT.done ?_
    refine At.nrm ?_
    exact At.ret1 rfl (.tmp rfl) rfl
  by_cases g2 : 20 < (l.length : Int)
  · refine At.ktext (.q 0 (.n false 1 (.q 2 (.q 3 (.n false 4 (.q 5 .done)))))) ?_
    refine AtT.kmove ?_
    refine AtT.kcallP rfl rfl ok16 (great_f ps _ _ hs) ?_
    rintro _ rfl
    refine AtT.setF (d := 14) rfl (g1) ?_
    refine AtT.kmove ?_
    all_goals (first | refine AtT.kL 15 ?_ | refine AtT.pcase (d := 15) rfl (fun hg15 => ?_) (fun hg15 => ?_) | refine AtT.bcase (d := 15) rfl (fun hg15 => ?_) (fun hg15 => ?_))
    all_goals (first | refine AtT.kpass ?_ | refine AtT.kpassU ?_ | ((refine AtT.kmove ?_)))
    all_goals (first | refine AtT.kpassN ?_ | refine AtT.kpassNU ?_ | ((refine AtT.kcallP rfl rfl ok17 (long_f l _ _ hl) ?_) ; (rintro _ rfl)))
    all_goals (refine AtT.setT (d := 17) rfl (g2) ?_)
    all_goals (refine AtT.kpick ?_)
    all_goals refine AtT.done ?_
    all_goals (refine At.nrm ?_)
    refine At.condT rfl rfl ?_
    refine At.nrm ?_
    refine At.ktext (.n false 0 (.q 1 .done)) ?_
    refine AtT.kcallP rfl rfl ok18 (works_f _) ?_
    rintro _ rfl
    refine AtT.kassign ?_
    refine AtT.done ?_
    refine At.nrm ?_
    exact At.ret1 rfl (.tmp rfl) rfl
  refine At.ktext (.q 0 (.n false 1 (.q 2 (.q 3 (.n false 4 (.q 5 .done)))))) ?_
  refine AtT.kmove ?_
  refine AtT.kcallP rfl rfl ok16 (great_f ps _ _ hs) ?_
  rintro _ rfl
  refine AtT.setF (d := 14) rfl (g1) ?_
  refine AtT.kmove ?_
  all_goals (first | refine AtT.kL 15 ?_ | refine AtT.pcase (d := 15) rfl (fun hg15 => ?_) (fun hg15 => ?_) | refine AtT.bcase (d := 15) rfl (fun hg15 => ?_) (fun hg15 => ?_))
  all_goals (first | refine AtT.kpass ?_ | refine AtT.kpassU ?_ | ((refine AtT.kmove ?_)))
  all_goals (first | refine AtT.kpassN ?_ | refine AtT.kpassNU ?_ | ((refine AtT.kcallP rfl rfl ok17 (long_f l _ _ hl) ?_) ; (rintro _ rfl)))
  all_goals (refine AtT.setF (d := 17) rfl (g2) ?_)
  all_goals (refine AtT.kpick ?_)
  all_goals refine AtT.done ?_
  all_goals (refine At.nrm ?_)
  refine At.condF rfl rfl ?_
  refine At.nrm ?_
  refine At.ktext (.q 0 (.q 1 (.q 2 (.n false 3 (.q 4 (.q 5 (.q 6 (.q 7 (.q 8 .done))))))))) ?_
  first | refine AtT.kloadOA tk25 ?_ | refine AtT.kloadA tk25 ?_ | refine AtT.kloadOP tk25 ?_
  refine AtT.kmove ?_
  refine AtT.kmove ?_
  refine AtT.kcall rfl rfl ok42 (apartF_f d ps sure _ _ hs) ?_
  rintro _ V3 hV3 ⟨x, rfl, hx⟩
  refine AtT.kmove ?_
  refine AtT.kextract ?_
  refine AtT.kextract ?_
  refine AtT.kassign ?_
  refine AtT.kassign ?_
  refine AtT.done ?_
  refine At.nrm ?_
  refine At.ktext (.q 0 (.q 1 (.q 2 (.n false 3 (.q 4 (.q 5 (.q 6 (.q 7 (.q 8 .done))))))))) ?_
  first | refine AtT.kloadOA tk25 ?_ | refine AtT.kloadA tk25 ?_ | refine AtT.kloadOP tk25 ?_
  refine AtT.kmove ?_
  refine AtT.kmove ?_
  refine AtT.kcall rfl rfl ok43 (rapart_f d ps sure _ _ (hs.le hV3)) ?_
  rintro _ V4 hV4 ⟨y, rfl, hy⟩
  refine AtT.kmove ?_
  refine AtT.kextract ?_
  refine AtT.kextract ?_
  refine AtT.kassign ?_
  refine AtT.kassign ?_
  refine AtT.done ?_
  refine At.nrm ?_
  rw [hsame] at hx
  have hV := hV3.trans hV4
  apply At.draw0 (.q 0 (.q 1 (.q 2 (.q 3 (.q 5 (.q 6 (.q 7 (.q 8 (.n false 4 (.n false 9 (.q 10 (.q 11 (.q 12 (.q 13 (.n false 14 (.q 15 (.q 16 (.q 17 (.q 18 (.q 19 (.q 20 (.q 21 (.n false 22 (.q 23 (.q 24 .done))))))))))))))))))))))))) ffm (by kernel_rfl)
  · first | refine AtT.kloadOA tk25 ?_ | refine AtT.kloadA tk25 ?_ | refine AtT.kloadOP tk25 ?_
    refine AtT.kmove ?_
    refine AtT.kmove ?_
    refine AtT.kmove ?_
    first | refine AtT.kloadOA tk25 ?_ | refine AtT.kloadA tk25 ?_ | refine AtT.kloadOP tk25 ?_
    refine AtT.kmove ?_
    refine AtT.kmove ?_
    refine AtT.kmove ?_
    refine AtT.kcallP rfl rfl ok44 (checkApart_f d ps sure l _ _ _ (hs.le hV) (hl.le hV)) ?_
    rintro _ rfl
    refine AtT.kcallP rfl rfl ok45 (rcheckApart_f d ps sure l _ _ _ (hs.le hV) (hl.le hV)) ?_
    rintro _ rfl
    refine AtT.keqI ?_
    refine AtT.setT (d := 44) rfl (rfl) ?_
    refine AtT.kmove ?_
    all_goals (first | refine AtT.kL 45 ?_ | refine AtT.pcase (d := 45) rfl (fun hg45 => ?_) (fun hg45 => ?_) | refine AtT.bcase (d := 45) rfl (fun hg45 => ?_) (fun hg45 => ?_))
    all_goals (first | refine AtT.kpass ?_ | refine AtT.kpassU ?_ | ((refine AtT.kmove ?_)))
    all_goals (first | refine AtT.kpass ?_ | refine AtT.kpassU ?_ | ((refine AtT.kmove ?_)))
    all_goals (first | refine AtT.kpassN ?_ | refine AtT.kpassNU ?_ | ((refine AtT.kcallP rfl rfl ok32 (ints_f _ _ _ _ _ (hx.le hV4) hy) ?_) ; (rintro _ rfl)))
    all_goals (refine AtT.setT (d := 48) rfl (rfl) ?_)
    all_goals (refine AtT.kpick ?_)
    all_goals (refine AtT.kmove ?_)
    all_goals (first | refine AtT.kL 50 ?_ | refine AtT.pcase (d := 50) rfl (fun hg50 => ?_) (fun hg50 => ?_) | refine AtT.bcase (d := 50) rfl (fun hg50 => ?_) (fun hg50 => ?_))
    all_goals (first | refine AtT.kpass ?_ | refine AtT.kpassU ?_ | ((refine AtT.kmove ?_)))
    all_goals (first | refine AtT.kpass ?_ | refine AtT.kpassU ?_ | ((refine AtT.kmove ?_)))
    all_goals (first | refine AtT.kpass ?_ | refine AtT.kpassU ?_ | ((refine AtT.keqI ?_)))
    all_goals (refine AtT.setT (d := 53) rfl (rfl) ?_)
    all_goals (refine AtT.kpick ?_)
    all_goals (refine AtT.kmove ?_)
    all_goals (first | refine AtT.kL 55 ?_ | refine AtT.pcase (d := 55) rfl (fun hg55 => ?_) (fun hg55 => ?_) | refine AtT.bcase (d := 55) rfl (fun hg55 => ?_) (fun hg55 => ?_))
    all_goals (first | refine AtT.kpassN ?_ | refine AtT.kpassNU ?_ | ((refine AtT.kcallP rfl rfl ok18 (works_f _) ?_) ; (rintro _ rfl)))
    all_goals (refine AtT.kpick ?_)
    all_goals (refine AtT.kassign ?_)
    exact AtT.done (fun a w hk hm => ⟨hk, hm⟩)
  refine At.nrm ?_
  exact At.ret1 rfl (.tmp rfl) rfl
/-- What a fine day answers: the best row, and marks. -/
theorem rows_f (d : Dy) (ps : List Pn) (sure : Bool) (he : rowE d ps sure = 0) (V : View) (v : Value) (hs : Sl V pne 3 v ps) : Fnc Try.prog 47 [dyv d, v, .bool sure] V fun r V' => ∃ u, r = .tuple #[iv (batN (rowL (bn d ps sure))), u, .bool true] ∧ SlI V' u (rowL (bn d ps sure)) := by
  obtain ⟨hb0, hf⟩ := rowE_ok he
  have hk := bothE_ok hb0
  have hB := bn_ok hk sure
  have hn10 := hk.n10
  have hbl := bn_len d ps sure
  have e1 : rwL d ps sure = rowL (bn d ps sure) := by unfold rwL; rw [if_pos he]
  have e2 : mkkL d ps sure = mkL (bn d ps sure) (bn d ps sure).each.length := by unfold mkkL; rw [if_pos he, hbl]
  have hmk : (mkL (bn d ps sure) (bn d ps sure).each.length).length ≤ 16 := by
    have := mkL_len (bn d ps sure) (bn d ps sure).each.length; omega
  have hrl : (rowL (bn d ps sure)).length ≤ 16 := by rw [row_len]; omega
  have hpl : plR d ps sure (rowL (bn d ps sure)) true = (batN (rowL (bn d ps sure)), 0) := plR_ok hb0 (by rw [row_len, hbl]) (row_plan hf) (bad_of (row_good hB hf))
  have hmr : mkR d ps sure (mkL (bn d ps sure) (bn d ps sure).each.length) = (((mkL (bn d ps sure) (bn d ps sure).each.length).length : Int), 0) := by
    have := mk_lst (bn d ps sure)
    rw [hbl] at this
    rw [← hbl] at this
    exact mkR_ok hb0 (by rw [← hbl]; exact mk_lst _) (mk_mks _)
  have hlen := mk_len hf
  have hrb : ∀ x ∈ rowL (bn d ps sure), -1000000 ≤ x ∧ x < 1000000 := fun x hx => by
    have h1 := (plan_bat (row_plan hf)).2 x hx
    rw [row_len, hbl] at h1
    omega
  refine fn_of Try.func47 rfl Try.ntmps47 (Nat.le_of_ble_eq_true rfl) ?_
  intro w0 hw0
  refine At.nrm ?_
  refine At.ktext (.n false 0 (.q 1 (.q 2 (.q 3 .done)))) ?_
  refine AtT.kbox ?_
  intro b3
  refine AtT.kassign ?_
  refine AtT.kassign ?_
  refine AtT.kassign ?_
  refine AtT.done ?_
  refine At.nrm ?_
  refine At.ktext (.q 0 (.q 1 (.q 2 (.n false 3 (.q 4 (.q 5 (.q 6 (.q 7 (.q 8 .done))))))))) ?_
  first | refine AtT.kloadOA tk25 ?_ | refine AtT.kloadA tk25 ?_ | refine AtT.kloadOP tk25 ?_
  refine AtT.kmove ?_
  refine AtT.kmove ?_
  refine AtT.kcall rfl rfl ok27 (row_f d ps sure _ _ hs) ?_
  rintro _ V1 hV1 ⟨x, rfl, hx⟩; rw [he]
  refine AtT.kmove ?_
  refine AtT.kextract ?_
  refine AtT.kextract ?_
  refine AtT.kassign ?_
  refine AtT.kassign ?_
  refine AtT.done ?_
  refine At.nrm ?_
  rw [e1] at hx
  refine At.ktext (.q 0 (.q 1 (.q 2 (.n false 3 (.q 4 (.q 5 (.q 6 (.q 7 (.q 8 .done))))))))) ?_
  first | refine AtT.kloadOA tk25 ?_ | refine AtT.kloadA tk25 ?_ | refine AtT.kloadOP tk25 ?_
  refine AtT.kmove ?_
  refine AtT.kmove ?_
  refine AtT.kcall rfl rfl ok31 (marksF_f d ps sure _ _ (hs.le hV1)) ?_
  rintro _ V2 hV2 ⟨z, rfl, hz⟩; rw [he]
  refine AtT.kmove ?_
  refine AtT.kextract ?_
  refine AtT.kextract ?_
  refine AtT.kassign ?_
  refine AtT.kassign ?_
  refine AtT.done ?_
  refine At.nrm ?_
  rw [e2] at hz
  have hx2 := hx.le hV2
  have hs2 := (hs.le hV1).le hV2
  refine At.ktext (.q 0 (.q 1 (.q 2 (.q 3 (.q 4 (.q 5 (.q 6 (.q 7 (.n false 8 (.q 9 (.q 10 (.q 11 (.n false 12 (.q 13 .done)))))))))))))) ?_
  refine AtT.kmove ?_
  refine AtT.kneI ?_
  refine AtT.kmove ?_
  all_goals (first | refine AtT.kL 34 ?_ | refine AtT.pcase (d := 34) rfl (fun hg34 => ?_) (fun hg34 => ?_) | refine AtT.bcase (d := 34) rfl (fun hg34 => ?_) (fun hg34 => ?_))
  all_goals (first | refine AtT.kpass ?_ | refine AtT.kpassU ?_ | ((refine AtT.kmove ?_)))
  all_goals (first | refine AtT.kpass ?_ | refine AtT.kpassU ?_ | ((refine AtT.kneI ?_)))
  all_goals (refine AtT.kpick ?_)
  all_goals (refine AtT.kmove ?_)
  all_goals (first | refine AtT.kL 38 ?_ | refine AtT.pcase (d := 38) rfl (fun hg38 => ?_) (fun hg38 => ?_) | refine AtT.bcase (d := 38) rfl (fun hg38 => ?_) (fun hg38 => ?_))
  all_goals (first | refine AtT.kpass ?_ | refine AtT.kpassU ?_ | ((refine AtT.kmove ?_)))
  all_goals (first | refine AtT.kpassN ?_ | refine AtT.kpassNU ?_ | ((refine AtT.kcallP rfl rfl ok17 (long_f _ _ _ hx2) ?_) ; (rintro _ rfl)))
  all_goals (refine AtT.setF (d := 40) rfl ((by omega)) ?_)
  all_goals (refine AtT.kpick ?_)
  all_goals (refine AtT.kmove ?_)
  all_goals (first | refine AtT.kL 42 ?_ | refine AtT.pcase (d := 42) rfl (fun hg42 => ?_) (fun hg42 => ?_) | refine AtT.bcase (d := 42) rfl (fun hg42 => ?_) (fun hg42 => ?_))
  all_goals (first | refine AtT.kpass ?_ | refine AtT.kpassU ?_ | ((refine AtT.kmove ?_)))
  all_goals (first | refine AtT.kpassN ?_ | refine AtT.kpassNU ?_ | ((refine AtT.kcallP rfl rfl ok17 (long_f _ _ _ hz) ?_) ; (rintro _ rfl)))
  all_goals (refine AtT.setF (d := 44) rfl ((by omega)) ?_)
  all_goals (refine AtT.kpick ?_)
  all_goals refine AtT.done ?_
  all_goals (refine At.nrm ?_)
  refine At.condF rfl rfl ?_
  refine At.nrm ?_
  refine At.ktext (.q 0 (.q 1 (.q 2 (.q 3 (.n false 4 (.q 5 (.q 6 (.q 7 (.q 8 (.q 9 .done)))))))))) ?_
  first | refine AtT.kloadOA tk25 ?_ | refine AtT.kloadA tk25 ?_ | refine AtT.kloadOP tk25 ?_
  refine AtT.kmove ?_
  refine AtT.kmove ?_
  refine AtT.kmove ?_
  refine AtT.kcallP rfl rfl ok25 (checkRow_f d ps sure _ _ _ _ hs2 hx2) ?_
  rintro _ rfl; rw [hpl]
  refine AtT.kmove ?_
  refine AtT.kextract ?_
  refine AtT.kextract ?_
  refine AtT.kassign ?_
  refine AtT.kassign ?_
  refine AtT.done ?_
  refine At.nrm ?_
  refine At.ktext (.q 0 (.q 1 (.q 2 (.q 3 (.n false 4 (.q 5 (.q 6 (.q 7 (.q 8 .done))))))))) ?_
  first | refine AtT.kloadOA tk25 ?_ | refine AtT.kloadA tk25 ?_ | refine AtT.kloadOP tk25 ?_
  refine AtT.kmove ?_
  refine AtT.kmove ?_
  refine AtT.kmove ?_
  refine AtT.kcallP rfl rfl ok26 (rcheckRow_f d ps sure _ _ _ _ hs2 hx2) ?_
  rintro _ rfl; rw [hpl]
  refine AtT.kmove ?_
  refine AtT.kextract ?_
  refine AtT.kextract ?_
  refine AtT.kassign ?_
  refine AtT.done ?_
  refine At.nrm ?_
  refine At.ktext (.q 0 (.q 1 (.q 2 (.q 3 (.n false 4 (.q 5 (.q 6 (.q 7 (.q 8 (.q 9 .done)))))))))) ?_
  first | refine AtT.kloadOA tk25 ?_ | refine AtT.kloadA tk25 ?_ | refine AtT.kloadOP tk25 ?_
  refine AtT.kmove ?_
  refine AtT.kmove ?_
  refine AtT.kmove ?_
  refine AtT.kcallP rfl rfl ok29 (checkMarks_f d ps sure _ _ _ _ hs2 hz) ?_
  rintro _ rfl; rw [hmr]
  refine AtT.kmove ?_
  refine AtT.kextract ?_
  refine AtT.kextract ?_
  refine AtT.kassign ?_
  refine AtT.kassign ?_
  refine AtT.done ?_
  refine At.nrm ?_
  refine At.ktext (.q 0 (.q 1 (.q 2 (.q 3 (.n false 4 (.q 5 (.q 6 (.q 7 (.q 8 (.q 9 .done)))))))))) ?_
  first | refine AtT.kloadOA tk25 ?_ | refine AtT.kloadA tk25 ?_ | refine AtT.kloadOP tk25 ?_
  refine AtT.kmove ?_
  refine AtT.kmove ?_
  refine AtT.kmove ?_
  refine AtT.kcallP rfl rfl ok30 (rcheckMarks_f d ps sure _ _ _ _ hs2 hz) ?_
  rintro _ rfl; rw [hmr]
  refine AtT.kmove ?_
  refine AtT.kextract ?_
  refine AtT.kextract ?_
  refine AtT.kassign ?_
  refine AtT.kassign ?_
  refine AtT.done ?_
  refine At.nrm ?_
  obtain ⟨az, cz, rfl, _⟩ := id hz
  refine At.ktext (.q 0 (.q 1 (.q 2 (.q 3 (.q 4 (.q 5 (.q 6 (.q 7 (.q 8 (.q 9 (.q 10 (.q 11 (.q 12 (.q 13 (.q 14 (.q 15 (.q 16 (.q 17 (.q 18 (.q 19 (.q 20 (.q 21 (.q 22 (.q 23 (.q 24 (.q 25 (.q 26 (.q 27 (.q 28 (.q 29 (.n false 30 (.q 31 (.q 32 (.q 33 (.q 34 (.q 35 .done)))))))))))))))))))))))))))))))))))) ?_
  refine AtT.kmove ?_
  refine AtT.kmove ?_
  refine AtT.kmove ?_
  refine AtT.keqI ?_
  refine AtT.kmove ?_
  all_goals (first | refine AtT.kL 82 ?_ | refine AtT.pcase (d := 82) rfl (fun hg82 => ?_) (fun hg82 => ?_) | refine AtT.bcase (d := 82) rfl (fun hg82 => ?_) (fun hg82 => ?_))
  all_goals (first | refine AtT.kpass ?_ | refine AtT.kpassU ?_ | ((refine AtT.kmove ?_)))
  all_goals (first | refine AtT.kpass ?_ | refine AtT.kpassU ?_ | ((refine AtT.keqI ?_)))
  all_goals (refine AtT.kpick ?_)
  all_goals (refine AtT.kmove ?_)
  all_goals (first | refine AtT.kL 86 ?_ | refine AtT.pcase (d := 86) rfl (fun hg86 => ?_) (fun hg86 => ?_) | refine AtT.bcase (d := 86) rfl (fun hg86 => ?_) (fun hg86 => ?_))
  all_goals (first | refine AtT.kpass ?_ | refine AtT.kpassU ?_ | ((refine AtT.kmove ?_)))
  all_goals (first | refine AtT.kpass ?_ | refine AtT.kpassU ?_ | ((refine AtT.keqI ?_)))
  all_goals (refine AtT.kpick ?_)
  all_goals (refine AtT.kmove ?_)
  all_goals (first | refine AtT.kL 90 ?_ | refine AtT.pcase (d := 90) rfl (fun hg90 => ?_) (fun hg90 => ?_) | refine AtT.bcase (d := 90) rfl (fun hg90 => ?_) (fun hg90 => ?_))
  all_goals (first | refine AtT.kpass ?_ | refine AtT.kpassU ?_ | ((refine AtT.kmove ?_)))
  all_goals (first | refine AtT.kpass ?_ | refine AtT.kpassU ?_ | ((refine AtT.keqI ?_)))
  all_goals (refine AtT.kpick ?_)
  all_goals (refine AtT.kmove ?_)
  all_goals (first | refine AtT.kL 94 ?_ | refine AtT.pcase (d := 94) rfl (fun hg94 => ?_) (fun hg94 => ?_) | refine AtT.bcase (d := 94) rfl (fun hg94 => ?_) (fun hg94 => ?_))
  all_goals (first | refine AtT.kpass ?_ | refine AtT.kpassU ?_ | ((refine AtT.kmove ?_)))
  all_goals (first | refine AtT.kpass ?_ | refine AtT.kpassU ?_ | ((refine AtT.kmove ?_)))
  all_goals (first | refine AtT.kpass ?_ | refine AtT.kpassU ?_ | ((refine AtT.keqI ?_)))
  all_goals (refine AtT.setT (d := 97) rfl (hlen.symm) ?_)
  all_goals (refine AtT.kpick ?_)
  all_goals (refine AtT.kmove ?_)
  all_goals (first | refine AtT.kL 99 ?_ | refine AtT.pcase (d := 99) rfl (fun hg99 => ?_) (fun hg99 => ?_) | refine AtT.bcase (d := 99) rfl (fun hg99 => ?_) (fun hg99 => ?_))
  all_goals (first | refine AtT.kpass ?_ | refine AtT.kpassU ?_ | ((refine AtT.kmove ?_)))
  all_goals (first | refine AtT.kpass ?_ | refine AtT.kpassU ?_ | ((refine AtT.kmove ?_)))
  all_goals (first | refine AtT.kpass ?_ | refine AtT.kpassU ?_ | ((first | refine AtT.klenS Try.underlying27 ?_ | refine AtT.klenR Try.underlying27 ?_)))
  all_goals (first | refine AtT.kpass ?_ | refine AtT.kpassU ?_ | ((refine AtT.keqI ?_)))
  all_goals (refine AtT.setT (d := 103) rfl (hlen.symm) ?_)
  all_goals (refine AtT.kpick ?_)
  all_goals (refine AtT.kmove ?_)
  all_goals (first | refine AtT.kL 105 ?_ | refine AtT.pcase (d := 105) rfl (fun hg105 => ?_) (fun hg105 => ?_) | refine AtT.bcase (d := 105) rfl (fun hg105 => ?_) (fun hg105 => ?_))
  all_goals (first | refine AtT.kpass ?_ | refine AtT.kpassU ?_ | ((refine AtT.kmove ?_)))
  all_goals (first | refine AtT.kpass ?_ | refine AtT.kpassU ?_ | ((refine AtT.kmove ?_)))
  all_goals (first | refine AtT.kpassN ?_ | refine AtT.kpassNU ?_ | ((refine AtT.kcallP rfl rfl ok33 (bat_f _ hrb _ _ hx2) ?_) ; (rintro _ rfl)))
  all_goals (first | refine AtT.kpass ?_ | refine AtT.kpassU ?_ | ((refine AtT.keqI ?_)))
  all_goals (refine AtT.setT (d := 109) rfl (rfl) ?_)
  all_goals (refine AtT.kpick ?_)
  all_goals (refine AtT.kassign ?_)
  all_goals (refine AtT.kassign ?_)
  all_goals (refine AtT.kassign ?_)
  all_goals refine AtT.done ?_
  all_goals (refine At.nrm ?_)
  exact At.ret3 rfl (.tmp rfl) (.tmp rfl) (.tmp rfl) ⟨x, rfl, hx2⟩
theorem plans_f (d : Dy) (ps : List Pn) (sure : Bool) (he : rowE d ps sure = 0) (V : View) (v : Value) (hs : Sl V pne 3 v ps) : Fnc Try.prog 50 [dyv d, v, .bool sure] V fun r V' => ∃ u, r = .tuple #[iv (batN (planL (bn d ps sure))), u, .bool true] ∧ SlI V' u (planL (bn d ps sure)) := by
  obtain ⟨hb0, hf⟩ := rowE_ok he
  have hk := bothE_ok hb0
  have hB := bn_ok hk sure
  have hn10 := hk.n10
  have hbl := bn_len d ps sure
  have hbe := plan_best hB hf
  have e1 : pnL d ps sure = planL (bn d ps sure) := by unfold pnL; rw [if_pos he]
  have hrl : (planL (bn d ps sure)).length ≤ 16 := by rw [hbe.len]; omega
  have hpl : plR d ps sure (planL (bn d ps sure)) false = (batN (planL (bn d ps sure)), 0) := plR_ok hb0 (by rw [hbe.len, hbl]) hbe.plan (bad_of hbe.good)
  refine fn_of Try.func50 rfl Try.ntmps50 (Nat.le_of_ble_eq_true rfl) ?_
  intro w0 hw0
  refine At.nrm ?_
  refine At.ktext (.n false 0 (.q 1 (.q 2 (.q 3 .done)))) ?_
  refine AtT.kbox ?_
  intro b3
  refine AtT.kassign ?_
  refine AtT.kassign ?_
  refine AtT.kassign ?_
  refine AtT.done ?_
  refine At.nrm ?_
  refine At.ktext (.q 0 (.q 1 (.q 2 (.n false 3 (.q 4 (.q 5 (.q 6 (.q 7 (.q 8 .done))))))))) ?_
  first | refine AtT.kloadOA tk25 ?_ | refine AtT.kloadA tk25 ?_ | refine AtT.kloadOP tk25 ?_
  refine AtT.kmove ?_
  refine AtT.kmove ?_
  refine AtT.kcall rfl rfl ok36 (plan_f d ps sure _ _ hs) ?_
  rintro _ V1 hV1 ⟨x, rfl, hx⟩; rw [he]
  refine AtT.kmove ?_
  refine AtT.kextract ?_
  refine AtT.kextract ?_
  refine AtT.kassign ?_
  refine AtT.kassign ?_
  refine AtT.done ?_
  refine At.nrm ?_
  rw [e1] at hx
  have hs2 := hs.le hV1
  refine At.ktext (.q 0 (.q 1 (.q 2 (.q 3 (.n false 4 (.q 5 .done)))))) ?_
  refine AtT.kmove ?_
  refine AtT.kneI ?_
  refine AtT.kmove ?_
  all_goals (first | refine AtT.kL 23 ?_ | refine AtT.pcase (d := 23) rfl (fun hg23 => ?_) (fun hg23 => ?_) | refine AtT.bcase (d := 23) rfl (fun hg23 => ?_) (fun hg23 => ?_))
  all_goals (first | refine AtT.kpass ?_ | refine AtT.kpassU ?_ | ((refine AtT.kmove ?_)))
  all_goals (first | refine AtT.kpassN ?_ | refine AtT.kpassNU ?_ | ((refine AtT.kcallP rfl rfl ok17 (long_f _ _ _ hx) ?_) ; (rintro _ rfl)))
  all_goals (refine AtT.setF (d := 25) rfl ((by omega)) ?_)
  all_goals (refine AtT.kpick ?_)
  all_goals refine AtT.done ?_
  all_goals (refine At.nrm ?_)
  refine At.condF rfl rfl ?_
  refine At.nrm ?_
  refine At.ktext (.q 0 (.q 1 (.q 2 (.q 3 (.n false 4 (.q 5 (.q 6 (.q 7 (.q 8 (.q 9 .done)))))))))) ?_
  first | refine AtT.kloadOA tk25 ?_ | refine AtT.kloadA tk25 ?_ | refine AtT.kloadOP tk25 ?_
  refine AtT.kmove ?_
  refine AtT.kmove ?_
  refine AtT.kmove ?_
  refine AtT.kcallP rfl rfl ok34 (checkPlan_f d ps sure _ _ _ _ hs2 hx) ?_
  rintro _ rfl; rw [hpl]
  refine AtT.kmove ?_
  refine AtT.kextract ?_
  refine AtT.kextract ?_
  refine AtT.kassign ?_
  refine AtT.kassign ?_
  refine AtT.done ?_
  refine At.nrm ?_
  refine At.ktext (.q 0 (.q 1 (.q 2 (.q 3 (.n false 4 (.q 5 (.q 6 (.q 7 (.q 8 (.q 9 .done)))))))))) ?_
  first | refine AtT.kloadOA tk25 ?_ | refine AtT.kloadA tk25 ?_ | refine AtT.kloadOP tk25 ?_
  refine AtT.kmove ?_
  refine AtT.kmove ?_
  refine AtT.kmove ?_
  refine AtT.kcallP rfl rfl ok35 (rcheckPlan_f d ps sure _ _ _ _ hs2 hx) ?_
  rintro _ rfl; rw [hpl]
  refine AtT.kmove ?_
  refine AtT.kextract ?_
  refine AtT.kextract ?_
  refine AtT.kassign ?_
  refine AtT.kassign ?_
  refine AtT.done ?_
  refine At.nrm ?_
  refine At.ktext (.q 0 (.q 1 (.q 2 (.q 3 (.q 4 (.q 5 (.q 6 (.q 7 (.q 8 (.q 9 (.q 10 (.q 11 (.q 12 (.q 13 (.q 14 (.q 15 .done)))))))))))))))) ?_
  refine AtT.kmove ?_
  refine AtT.kmove ?_
  refine AtT.kmove ?_
  refine AtT.keqI ?_
  refine AtT.kmove ?_
  all_goals (first | refine AtT.kL 47 ?_ | refine AtT.pcase (d := 47) rfl (fun hg47 => ?_) (fun hg47 => ?_) | refine AtT.bcase (d := 47) rfl (fun hg47 => ?_) (fun hg47 => ?_))
  all_goals (first | refine AtT.kpass ?_ | refine AtT.kpassU ?_ | ((refine AtT.kmove ?_)))
  all_goals (first | refine AtT.kpass ?_ | refine AtT.kpassU ?_ | ((refine AtT.keqI ?_)))
  all_goals (refine AtT.kpick ?_)
  all_goals (refine AtT.kmove ?_)
  all_goals (first | refine AtT.kL 51 ?_ | refine AtT.pcase (d := 51) rfl (fun hg51 => ?_) (fun hg51 => ?_) | refine AtT.bcase (d := 51) rfl (fun hg51 => ?_) (fun hg51 => ?_))
  all_goals (first | refine AtT.kpass ?_ | refine AtT.kpassU ?_ | ((refine AtT.kmove ?_)))
  all_goals (first | refine AtT.kpass ?_ | refine AtT.kpassU ?_ | ((refine AtT.kmove ?_)))
  all_goals (first | refine AtT.kpass ?_ | refine AtT.kpassU ?_ | ((refine AtT.keqI ?_)))
  all_goals (refine AtT.setT (d := 54) rfl (rfl) ?_)
  all_goals (refine AtT.kpick ?_)
  all_goals (refine AtT.kassign ?_)
  all_goals (refine AtT.kassign ?_)
  all_goals (refine AtT.kassign ?_)
  all_goals refine AtT.done ?_
  all_goals (refine At.nrm ?_)
  exact At.ret3 rfl (.tmp rfl) (.tmp rfl) (.tmp rfl) ⟨x, rfl, hx⟩
end Go.Proofs.Ytmnbkceiaifncaa
namespace Go.Gl
/-- A batch for the next panel: one that it can share, or a new one. -/
def PickOk (B : Bn) (row : Bool) (out : List Int) (b : Int) : Prop := b = batN out ∨ (0 ≤ b ∧ b < batN out ∧ (row = true → b = batN out - 1) ∧ fitE B (sumL B (ofL (out ++ [b]) b)) = 0)
theorem plan_snoc2 {l : List Int} {x : Int} {row : Bool} (h : planB l row = true) (h0 : 0 ≤ x) (h1 : x ≤ batN l) (h2 : row = true → batN l - 1 ≤ x) : planB (l ++ [x]) row = true := planB_true fun k hk => by
  rw [List.length_append] at hk
  simp only [List.length_cons, List.length_nil] at hk
  by_cases c : k < l.length
  · have := planB_at h c
    unfold plAt leastAt at this ⊢
    rw [decide_eq_true_eq] at this ⊢
    rw [getD_app c, List.take_append_of_le_length (by omega), getD_app (by omega)]
    exact this
  · obtain rfl : k = l.length := by omega
    unfold plAt leastAt
    refine decide_eq_true ?_
    rw [getD_last, List.take_left]
    refine ⟨?_, h1⟩
    split
    · rename_i hc
      rw [getD_app (by omega)]
      have := batN_gt (getD_mem (l := l) (i := l.length - 1) (by omega))
      have := h2 hc.1
      omega
    · exact h0
theorem given_step {B : Bn} (hB : BnOk B) (hf : FineB B) {row : Bool} {out : List Int} {b : Int} (hl : out.length < B.each.length) (hp : planB out row = true) (hg : Good B out) (hb : PickOk B row out b) : planB (out ++ [b]) row = true ∧ Good B (out ++ [b]) := by
  have h0 := batN_pos out
  have hfit : fitE B (sumL B (ofL (out ++ [b]) b)) = 0 := by
    rcases hb with rfl | ⟨_, _, _, h⟩
    · rw [sum_last, sm_none B (fun i hi => decide_eq_false fun e => by have := batN_gt (getD_mem hi); omega), and0]
      exact hf _ hl
    · exact h
  refine ⟨plan_snoc2 hp ?_ ?_ ?_, good_snoc hg hfit⟩
  · rcases hb with rfl | ⟨h, _⟩ <;> omega
  · rcases hb with rfl | ⟨_, h, _⟩ <;> omega
  · intro hr
    rcases hb with rfl | ⟨_, _, h, _⟩
    · omega
    · rw [h hr]; omega
end Go.Gl
set_option linter.unusedVariables false
namespace Go.Proofs.Ytmnbkceiaifncaa
open Go.Lw Go.Gl Go.RowKit

/-- The plan that is given. -/
theorem given_f (d : Dy) (ps : List Pn) (sure : Bool) (by' : List U8) (row : Bool) (he : rowE d ps sure = 0) (V : View) (v vb : Value) (hs : Sl V pne 3 v ps) (hy : Sl V e8 1 vb by') (hy1 : by'.length ≤ 1000) : Fnc Try.prog 48 [dyv d, v, .bool sure, vb, .bool row] V fun r V' =>
    ∃ l, SlI V' r l ∧ l.length = ps.length ∧ planB l row = true ∧ Go.Gl.Good (bn d ps sure) l := by
  obtain ⟨hb0, hf⟩ := rowE_ok he
  have hk := bothE_ok hb0
  have hB := bn_ok hk sure
  have hn10 := hk.n10
  have hbl := bn_len d ps sure
  obtain ⟨a, c, rfl, k1, k2, _⟩ := id hs
  obtain ⟨ab, cb, rfl, k3, k4, _⟩ := id hy
  clear k1 k2 k3 k4
  refine fn_of Try.func48 rfl Try.ntmps48 (Nat.le_of_ble_eq_true rfl) ?_
  intro w0 hw0
  refine At.nrm ?_
  refine At.ktext (.n false 0 (.q 1 .done)) ?_
  refine AtT.kbox ?_
  intro b5
  refine AtT.kassign ?_
  refine AtT.done ?_
  refine At.nrm ?_
  refine At.ktext (.q 0 .done) ?_
  refine AtT.kassign ?_
  refine AtT.done ?_
  refine At.nrm ?_
  refine At.ktext (.q 0 .done) ?_
  refine AtT.kassign ?_
  refine AtT.done ?_
  refine At.nrm ?_
  refine At.newRow 3 1 ?_
  refine At.lp (ι := List Int × Option Addr × Nat) (KS := fun g => [(1, .slice a ps.length c), (2, .bool sure), (3, .slice ab by'.length cb), (4, .bool row), (5, .pointer (some ⟨b5, 0, none⟩)), (11, .slice g.2.1 g.1.length g.2.2), (12, iv g.1.length)]) (OS := fun g => [.row (.slice g.2.1 g.1.length g.2.2) 3 1 g.1.length (flat ei g.1), .blk b5 (LC (dye d) 25)])
    (VS := fun g V' => Le V V' ∧ g.1.length ≤ ps.length ∧ planB g.1 row = true ∧ Go.Gl.Good (bn d ps sure) g.1) (μ := fun g => ps.length - g.1.length) ([], none, 0) ?_ ?_ ?_ ?_
  · exact ⟨rfl, rfl, rfl, rfl, rfl, rfl, rfl, trivial⟩
  · exact Pt.auto
  · exact ⟨Le.refl _, Nat.zero_le _, plan_nil row, good_nil hB⟩
  rintro ⟨out, ao, co⟩ V1 ks' O' ⟨hV1, hil, hpl, hgd⟩ hk2 hO hl2
  dsimp only at hil hpl hgd hk2 hO
  subst hk2 hO
  refine At.nrm ?_
  refine At.ktext (.q 0 (.q 1 (.q 2 (.q 3 .done)))) ?_
  refine AtT.kmove ?_
  refine AtT.kmove ?_
  first | refine AtT.klenS Try.underlying26 ?_ | refine AtT.klenR Try.underlying26 ?_
  refine AtT.klss ?_
  refine AtT.done ?_
  refine At.nrm ?_
  refine At.condP rfl (fun hp => ?_) (fun hp => ?_)
  rotate_left
  · refine At.nrm ?_
    refine At.giveSl Lw.ei_len rfl rfl Pick.auto (fun V4 hV4 hs4 => ?_)
    refine At.ktext (.q 0 (.q 1 .done)) ?_
    refine AtT.kmove ?_
    refine AtT.kassign ?_
    refine AtT.done ?_
    refine At.nrm ?_
    exact At.ret1 rfl (.tmp rfl) ⟨out, hs4, by omega, hpl, hgd⟩
  have hlt : out.length < ps.length := by omega
  obtain ⟨hbo, hbx⟩ := plan_bat (by cases row; exact hpl; exact row_isPlan hpl)
  have hn0 := batN_pos out
  refine At.lend Pick.auto ?_
  intro V2 hV2 hL
  have hso : SlI V2 (.slice ao out.length co) out := hL.sl Lw.ei_len
  have hs2 := (hs.le hV1).le hV2
  have hy2 := (hy.le hV1).le hV2
  refine At.nrm ?_
  refine At.ktext (.q 0 (.n false 1 (.q 2 (.q 3 .done)))) ?_
  refine AtT.kmove ?_
  refine AtT.kcallP rfl rfl ok33 (bat_f out (fun x hx => by have := hbx x hx; omega) _ _ hso) ?_
  rintro _ rfl
  refine AtT.kassign ?_
  refine AtT.kassign ?_
  refine AtT.done ?_
  refine At.nrm ?_
  refine At.ktext (.q 0 (.q 1 (.q 2 .done))) ?_
  refine AtT.kmove ?_
  first | refine AtT.klenS Try.underlying46 ?_ | refine AtT.klenR Try.underlying46 ?_
  refine AtT.kgtr ?_
  refine AtT.done ?_
  refine At.nrm ?_
  refine At.cutG (ι := Int) (fun f => [(1, .slice a ps.length c), (2, .bool sure), (3, .slice ab by'.length cb), (4, .bool row), (5, .pointer (some ⟨b5, 0, none⟩)), (11, .slice ao out.length co), (12, iv out.length), (13, iv (batN out)), (14, iv f)]) (fun _ => [.blk b5 (LC (dye d) 25)])
    (fun f V'' => Le V2 V'' ∧ 0 ≤ f ∧ f ≤ 255) ?_ ?_
  · refine At.condP rfl (fun hc => ?_) (fun hc => ?_)
    · have t0 := Int.tmod_nonneg (by'.length : Int) (show 0 ≤ (out.length : Int) by omega)
      have t1 := Int.tmod_lt_of_pos (out.length : Int) (b := (by'.length : Int)) (by omega)
      refine At.nrm ?_
      refine At.ktext (.q 0 (.q 1 (.q 2 (.q 3 (.q 4 (.q 5 (.q 6 (.q 7 (.q 8 .done))))))))) ?_
      refine AtT.kmove ?_
      refine AtT.kmove ?_
      refine AtT.kmove ?_
      first | refine AtT.klenS Try.underlying46 ?_ | refine AtT.klenR Try.underlying46 ?_
      refine AtT.krem ?_
      refine AtT.kidx Try.underlying46 tk5 ?_
      intro p35 e35 he35 hc35
      first | refine AtT.kloadO tk5 ?_ | refine AtT.kload tk5 ?_
      refine AtT.kconv un5 Try.underlying3 ?_
      have hu := e35.h
      rw [wrap_fit (Fit.of (by omega) (by omega))]
      refine AtT.kassign ?_
      refine AtT.done ?_
      refine At.nrm ?_
      exact At.meetG e35.n ⟨Le.refl _, e35.h.1, e35.h.2⟩ ⟨rfl, rfl, rfl, rfl, rfl, rfl, rfl, rfl, rfl, trivial⟩ Pt.auto
    · refine At.nrm ?_
      exact At.meetG 0 ⟨Le.refl _, Int.le_refl _, by decide⟩ ⟨rfl, rfl, rfl, rfl, rfl, rfl, rfl, rfl, rfl, trivial⟩ Pt.auto
  rintro f V3 ks' O' ⟨hV3, hf0, hf1⟩ hk2 hO hl3
  subst hk2 hO
  have hs3 := hs2.le hV3
  have hso3 := hso.le hV3
  refine At.nrm ?_
  refine At.ktext (.q 0 (.q 1 .done)) ?_
  refine AtT.kmove ?_
  refine AtT.kassign ?_
  refine AtT.done ?_
  refine At.nrm ?_
  refine At.ktext (.q 0 .done) ?_
  refine AtT.kassign ?_
  refine AtT.done ?_
  refine At.nrm ?_
  refine At.lp (ι := Nat × Int) (KS := fun g => [(1, .slice a ps.length c), (2, .bool sure), (3, .slice ab by'.length cb), (4, .bool row), (5, .pointer (some ⟨b5, 0, none⟩)), (11, .slice ao out.length co), (12, iv out.length), (13, iv (batN out)), (14, iv f), (15, iv g.2), (16, iv g.1)]) (OS := fun _ => [.blk b5 (LC (dye d) 25)])
    (VS := fun g V' => Le V3 V' ∧ g.1 ≤ (batN out).toNat ∧ PickOk (bn d ps sure) row out g.2) (μ := fun g => (batN out).toNat - g.1) (0, batN out) ?_ ?_ ?_ ?_
  · exact ⟨rfl, rfl, rfl, rfl, rfl, rfl, rfl, rfl, rfl, rfl, rfl, trivial⟩
  · exact Pt.auto
  · exact ⟨Le.refl _, Nat.zero_le _, .inl rfl⟩
  rintro ⟨k, b⟩ V4 ks' O' ⟨hV4, hkl, hpk⟩ hk2 hO hl4
  dsimp only at hkl hpk hk2 hO
  subst hk2 hO
  have hs4 := hs3.le hV4
  have hso4 := hso3.le hV4
  refine At.nrm ?_
  refine At.ktext (.q 0 (.q 1 (.q 2 .done))) ?_
  refine AtT.kmove ?_
  refine AtT.kmove ?_
  refine AtT.klss ?_
  refine AtT.done ?_
  refine At.nrm ?_
  refine At.condP rfl (fun hq => ?_) (fun hq => ?_)
  rotate_left
  · refine At.nrm ?_
    refine At.regain hL hV2 ((hV3.trans hV4)) hV1 ?_
    intro V5 hV5
    have hV05 := hV1.trans hV5
    obtain ⟨g1, g2⟩ := given_step hB hf (by omega) hpl hgd hpk
    refine At.ktext (.q 0 (.q 1 (.n false 2 (.n true 3 (.q 4 .done))))) ?_
    refine AtT.kmove ?_
    refine AtT.kmove ?_
    refine AtT.kbsliceG (bs27_1_0 _) ?_
    intro q85 V85 hV85 hq85
    have g85 : Le V V85 := by first | exact hV85 | exact Le.trans (by assumption) hV85
    first | refine AtT.kappend Try.underlying27 rw3 ?_
    intro a86 c86
    refine AtT.kassign ?_
    refine AtT.done ?_
    refine At.nrm ?_
    refine At.ktext (.q 0 (.q 1 (.q 2 .done))) ?_
    refine AtT.kmove ?_
    first | refine AtT.kadd ?_ | refine AtT.kaddW ?_
    refine AtT.kassign ?_
    refine AtT.done ?_
    refine At.nrm ?_
    refine At.round (out ++ [b], a86, c86) ?_ ?_ ?_ ?_
    · show ps.length - (out ++ [b]).length < ps.length - out.length
      rw [List.length_append]; simp only [List.length_cons, List.length_nil]; omega
    · refine ⟨hV05.trans (by assumption), ?_, g1, g2⟩
      dsimp only; rw [List.length_append]; simp only [List.length_cons, List.length_nil]; omega
    · dsimp only; rw [List.length_append]; exact ⟨rfl, rfl, rfl, rfl, rfl, rfl, ivs (by simp only [List.length_cons, List.length_nil]; omega), trivial⟩
    dsimp only
    rw [flat_snoc, List.length_append]
    · exact Pt.auto
  have q0 := Int.tmod_nonneg (batN out) hf0
  have q1 := Int.tmod_lt_of_pos f (b := batN out) (by omega)
  have q2 := Int.tmod_nonneg (batN out) (show 0 ≤ f.tmod (batN out) + (k : Int) by omega)
  have q3 := Int.tmod_lt_of_pos (f.tmod (batN out) + (k : Int)) (b := batN out) (by omega)
  refine At.nrm ?_
  refine At.ktext (.q 0 (.q 1 (.q 2 (.q 3 (.q 4 (.q 5 (.q 6 (.q 7 .done)))))))) ?_
  refine AtT.kmove ?_
  refine AtT.kmove ?_
  refine AtT.krem ?_
  refine AtT.kmove ?_
  first | refine AtT.kadd ?_ | refine AtT.kaddW ?_
  refine AtT.kmove ?_
  refine AtT.krem ?_
  refine AtT.kassign ?_
  refine AtT.done ?_
  refine At.nrm ?_
  refine At.ktext (.q 0 .done) ?_
  refine AtT.kmove ?_
  refine AtT.done ?_
  refine At.nrm ?_
  refine At.cutG (ι := Int) (fun o => [(1, .slice a ps.length c), (2, .bool sure), (3, .slice ab by'.length cb), (4, .bool row), (5, .pointer (some ⟨b5, 0, none⟩)), (11, .slice ao out.length co), (12, iv out.length), (13, iv (batN out)), (14, iv f), (15, iv b), (16, iv k), (17, iv o)]) (fun _ => [.blk b5 (LC (dye d) 25)])
    (fun o V'' => Le V4 V'' ∧ 0 ≤ o ∧ o < batN out ∧ (row = true → o = batN out - 1)) ?_ ?_
  · refine At.cond rfl (fun hc => ?_) (fun hc => ?_)
    · refine At.nrm ?_
      refine At.ktext (.q 0 (.q 1 (.q 2 .done))) ?_
      refine AtT.kmove ?_
      first | refine AtT.ksubt ?_ | refine AtT.ksubW ?_
      refine AtT.kassign ?_
      refine AtT.done ?_
      refine At.nrm ?_
      exact At.meetG (batN out - 1) ⟨Le.refl _, by omega, by omega, fun _ => rfl⟩ ⟨rfl, rfl, rfl, rfl, rfl, rfl, rfl, rfl, rfl, rfl, rfl, rfl, trivial⟩ Pt.auto
    · refine At.nrm ?_
      exact At.meetG ((f.tmod (batN out) + (k : Int)).tmod (batN out)) ⟨Le.refl _, q2, q3, fun h => by rw [h] at hc; cases hc⟩ ⟨rfl, rfl, rfl, rfl, rfl, rfl, rfl, rfl, rfl, rfl, rfl, rfl, trivial⟩ Pt.auto
  rintro o V5 ks' O' ⟨hV5, ho0, ho1, hor⟩ hk2 hO hl5
  subst hk2 hO
  have hs5 := hs4.le hV5
  have hso5 := hso4.le hV5
  have hnl : (out ++ [o]).length = out.length + 1 := by simp
  obtain ⟨hin, hln⟩ := of_in2 (sure := sure) (l := out ++ [o]) (b := o) hk (by omega)
  refine At.nrm ?_
  refine At.ktext (.n false 0 (.q 1 (.n true 2 (.q 3 (.n false 4 (.n true 5 (.q 6 .done))))))) ?_
  refine AtT.bsliceR0 rfl trivial rfl bs27_0 (by decide) (s := 1) (fun b54 => ?_)
  refine AtT.kmove ?_
  refine AtT.appendRS rfl trivial Try.underlying27 rw3 rfl (by decide) rfl rfl Pick.auto hso5 Lw.ei_len (fun _ => rfl) (by unfold maxLen; omega) (by omega) (by decide) (fun a56 c56 => ?_)
  rw [Nat.zero_add, List.nil_append]
  refine AtT.kmove ?_
  refine AtT.kbsliceG (bs27_1_0 _) ?_
  intro q58 V58 hV58 hq58
  have g58 : Le V V58 := by first | exact hV58 | exact Le.trans (by assumption) hV58
  first | refine AtT.kappend Try.underlying27 rw3 ?_
  intro a59 c59
  refine AtT.kassign ?_
  refine AtT.done ?_
  refine At.nrm ?_
  refine At.giveSl (l := out ++ [o]) Lw.ei_len (flat_snoc _ _ _).symm hnl.symm Pick.auto (fun V6 hV6 hs6 => ?_)
  have hVV6 : Le V5 V6 := by first | assumption | exact Le.trans (by assumption) (by assumption)
  by_cases c1 : b = batN out
  rotate_left
  · refine At.draw (.q 0 (.q 1 (.q 2 (.q 3 (.q 4 (.q 5 (.q 6 (.q 7 (.q 8 (.q 9 (.q 10 (.q 11 (.q 12 (.q 13 (.q 14 (.q 15 (.q 16 (.q 17 (.n false 18 (.n false 19 (.q 20 (.q 21 .done)))))))))))))))))))))) ffm (by kernel_rfl) ?_
    refine AtT.kmove ?_
    refine AtT.kmove ?_
    refine AtT.keqI ?_
    refine AtT.setF (d := 62) rfl (c1) ?_
    refine AtT.kmove ?_
    all_goals (first | refine AtT.kL 63 ?_ | refine AtT.pcase (d := 63) rfl (fun hg63 => ?_) (fun hg63 => ?_) | refine AtT.bcase (d := 63) rfl (fun hg63 => ?_) (fun hg63 => ?_))
    all_goals (first | refine AtT.kpass ?_ | refine AtT.kpassU ?_ | ((refine AtT.kmove ?_)))
    all_goals (first | refine AtT.kpass ?_ | refine AtT.kpassU ?_ | ((refine AtT.knot ?_)))
    all_goals (first | refine AtT.kpass ?_ | refine AtT.kpassU ?_ | ((refine AtT.kmove ?_)))
    all_goals (first | refine AtT.kL 66 ?_ | refine AtT.pcase (d := 66) rfl (fun hg66 => ?_) (fun hg66 => ?_) | refine AtT.bcase (d := 66) rfl (fun hg66 => ?_) (fun hg66 => ?_))
    all_goals (first | refine AtT.kpass ?_ | refine AtT.kpassU ?_ | ((refine AtT.kmove ?_)))
    all_goals (first | refine AtT.kpass ?_ | refine AtT.kpassU ?_ | ((refine AtT.krem ?_)))
    all_goals (first | refine AtT.kpass ?_ | refine AtT.kpassU ?_ | ((refine AtT.kgtr ?_)))
    all_goals (first | refine AtT.kpass ?_ | refine AtT.kpassU ?_ | ((refine AtT.kpick ?_)))
    all_goals (refine AtT.kpick ?_)
    all_goals (refine AtT.kmove ?_)
    all_goals (first | refine AtT.kL 72 ?_ | refine AtT.pcase (d := 72) rfl (fun hg72 => ?_) (fun hg72 => ?_) | refine AtT.bcase (d := 72) rfl (fun hg72 => ?_) (fun hg72 => ?_))
    all_goals (first | refine AtT.kpass ?_ | refine AtT.kpassU ?_ | ((first | refine AtT.kloadOA tk25 ?_ | refine AtT.kloadA tk25 ?_ | refine AtT.kloadOP tk25 ?_)))
    all_goals (first | refine AtT.kpass ?_ | refine AtT.kpassU ?_ | ((refine AtT.kmove ?_)))
    all_goals (first | refine AtT.kpass ?_ | refine AtT.kpassU ?_ | ((refine AtT.kmove ?_)))
    all_goals (first | refine AtT.kpass ?_ | refine AtT.kpassU ?_ | ((refine AtT.kmove ?_)))
    all_goals (first | refine AtT.kpass ?_ | refine AtT.kpassU ?_ | ((refine AtT.kmove ?_)))
    all_goals (first | refine AtT.kpassN ?_ | refine AtT.kpassNU ?_ | ((fail)))
    all_goals (first | refine AtT.kpassN ?_ | refine AtT.kpassNU ?_ | ((fail)))
    all_goals (first | refine AtT.kpass ?_ | refine AtT.kpassU ?_ | ((refine AtT.keqI ?_)))
    all_goals (refine AtT.kpick ?_)
    all_goals refine AtT.done ?_
    all_goals (refine At.nrm ?_)
    refine At.condF rfl rfl ?_
    refine At.nrm ?_
    refine At.ktext (.q 0 (.q 1 (.q 2 .done))) ?_
    refine AtT.kmove ?_
    first | refine AtT.kadd ?_ | refine AtT.kaddW ?_
    refine AtT.kassign ?_
    refine AtT.done ?_
    refine At.nrm ?_
    refine At.round (k + 1, b) ?_ ?_ ?_ ?_
    · show (batN out).toNat - (k + 1) < (batN out).toNat - k; omega
    · exact ⟨((hV4.trans hV5).trans hVV6), by dsimp only; omega, hpk⟩
    · exact ⟨rfl, rfl, rfl, rfl, rfl, rfl, rfl, rfl, rfl, rfl, ivs (by omega), trivial⟩
    · exact Pt.auto
  cases row
  · (
      by_cases c3 : fitE (bn d ps sure) (sumL (bn d ps sure) (ofL (out ++ [o]) o)) = 0
      · refine At.draw (.q 0 (.q 1 (.q 2 (.q 3 (.q 4 (.q 5 (.q 6 (.q 7 (.q 8 (.q 9 (.q 10 (.q 11 (.q 12 (.q 13 (.q 14 (.q 15 (.q 16 (.q 17 (.n false 18 (.n false 19 (.q 20 (.q 21 .done)))))))))))))))))))))) ffm (by kernel_rfl) ?_
        refine AtT.kmove ?_
        refine AtT.kmove ?_
        refine AtT.keqI ?_
        refine AtT.setT (d := 62) rfl (c1) ?_
        refine AtT.kmove ?_
        all_goals (first | refine AtT.kL 63 ?_ | refine AtT.pcase (d := 63) rfl (fun hg63 => ?_) (fun hg63 => ?_) | refine AtT.bcase (d := 63) rfl (fun hg63 => ?_) (fun hg63 => ?_))
        all_goals (first | refine AtT.kpass ?_ | refine AtT.kpassU ?_ | ((refine AtT.kmove ?_)))
        all_goals (first | refine AtT.kpass ?_ | refine AtT.kpassU ?_ | ((refine AtT.knot ?_)))
        all_goals (refine AtT.setB (d := 65) rfl ((show (!false) = true from rfl)) ?_)
        all_goals (first | refine AtT.kpass ?_ | refine AtT.kpassU ?_ | ((refine AtT.kmove ?_)))
        all_goals (first | refine AtT.kL 66 ?_ | refine AtT.pcase (d := 66) rfl (fun hg66 => ?_) (fun hg66 => ?_) | refine AtT.bcase (d := 66) rfl (fun hg66 => ?_) (fun hg66 => ?_))
        all_goals (first | refine AtT.kpass ?_ | refine AtT.kpassU ?_ | ((refine AtT.kmove ?_)))
        all_goals (first | refine AtT.kpass ?_ | refine AtT.kpassU ?_ | ((refine AtT.krem ?_)))
        all_goals (first | refine AtT.kpass ?_ | refine AtT.kpassU ?_ | ((refine AtT.kgtr ?_)))
        all_goals (first | refine AtT.kpass ?_ | refine AtT.kpassU ?_ | ((refine AtT.kpick ?_)))
        all_goals (refine AtT.kpick ?_)
        all_goals (refine AtT.kmove ?_)
        all_goals (first | refine AtT.kL 72 ?_ | refine AtT.pcase (d := 72) rfl (fun hg72 => ?_) (fun hg72 => ?_) | refine AtT.bcase (d := 72) rfl (fun hg72 => ?_) (fun hg72 => ?_))
        all_goals (first | refine AtT.kpass ?_ | refine AtT.kpassU ?_ | ((first | refine AtT.kloadOA tk25 ?_ | refine AtT.kloadA tk25 ?_ | refine AtT.kloadOP tk25 ?_)))
        all_goals (first | refine AtT.kpass ?_ | refine AtT.kpassU ?_ | ((refine AtT.kmove ?_)))
        all_goals (first | refine AtT.kpass ?_ | refine AtT.kpassU ?_ | ((refine AtT.kmove ?_)))
        all_goals (first | refine AtT.kpass ?_ | refine AtT.kpassU ?_ | ((refine AtT.kmove ?_)))
        all_goals (first | refine AtT.kpass ?_ | refine AtT.kpassU ?_ | ((refine AtT.kmove ?_)))
        all_goals (first | refine AtT.kpassN ?_ | refine AtT.kpassNU ?_ | ((refine AtT.kcall rfl rfl ok83 (of_f (out ++ [o]) o (by omega) _ _ (by rw [← hnl] at *; exact hs6)) ?_) ; (rintro v78 V78 hV78 hs78)))
        all_goals (first | refine AtT.kpassN ?_ | refine AtT.kpassNU ?_ | ((refine AtT.kcallP rfl rfl ok62 (batErr_f d ps hk sure _ hin hln _ _ _ ((hs5.le hVV6).le hV78) hs78) ?_) ; (rintro _ rfl)))
        all_goals (first | refine AtT.kpass ?_ | refine AtT.kpassU ?_ | ((refine AtT.keqI ?_)))
        all_goals (refine AtT.setT (d := 80) rfl (c3) ?_)
        all_goals (refine AtT.kpick ?_)
        all_goals refine AtT.done ?_
        all_goals (refine At.nrm ?_)
        refine At.condT rfl rfl ?_
        refine At.nrm ?_
        refine At.ktext (.q 0 (.q 1 .done)) ?_
        refine AtT.kmove ?_
        refine AtT.kassign ?_
        refine AtT.done ?_
        refine At.nrm ?_
        refine At.ktext (.q 0 (.q 1 (.q 2 .done))) ?_
        refine AtT.kmove ?_
        first | refine AtT.kadd ?_ | refine AtT.kaddW ?_
        refine AtT.kassign ?_
        refine AtT.done ?_
        refine At.nrm ?_
        refine At.round (k + 1, o) ?_ ?_ ?_ ?_
        · show (batN out).toNat - (k + 1) < (batN out).toNat - k; omega
        · exact ⟨((hV4.trans hV5).trans hVV6).trans hV78, by dsimp only; omega, .inr ⟨ho0, ho1, hor, c3⟩⟩
        · exact ⟨rfl, rfl, rfl, rfl, rfl, rfl, rfl, rfl, rfl, rfl, ivs (by omega), trivial⟩
        · exact Pt.auto
      · refine At.draw (.q 0 (.q 1 (.q 2 (.q 3 (.q 4 (.q 5 (.q 6 (.q 7 (.q 8 (.q 9 (.q 10 (.q 11 (.q 12 (.q 13 (.q 14 (.q 15 (.q 16 (.q 17 (.n false 18 (.n false 19 (.q 20 (.q 21 .done)))))))))))))))))))))) ffm (by kernel_rfl) ?_
        refine AtT.kmove ?_
        refine AtT.kmove ?_
        refine AtT.keqI ?_
        refine AtT.setT (d := 62) rfl (c1) ?_
        refine AtT.kmove ?_
        all_goals (first | refine AtT.kL 63 ?_ | refine AtT.pcase (d := 63) rfl (fun hg63 => ?_) (fun hg63 => ?_) | refine AtT.bcase (d := 63) rfl (fun hg63 => ?_) (fun hg63 => ?_))
        all_goals (first | refine AtT.kpass ?_ | refine AtT.kpassU ?_ | ((refine AtT.kmove ?_)))
        all_goals (first | refine AtT.kpass ?_ | refine AtT.kpassU ?_ | ((refine AtT.knot ?_)))
        all_goals (refine AtT.setB (d := 65) rfl ((show (!false) = true from rfl)) ?_)
        all_goals (first | refine AtT.kpass ?_ | refine AtT.kpassU ?_ | ((refine AtT.kmove ?_)))
        all_goals (first | refine AtT.kL 66 ?_ | refine AtT.pcase (d := 66) rfl (fun hg66 => ?_) (fun hg66 => ?_) | refine AtT.bcase (d := 66) rfl (fun hg66 => ?_) (fun hg66 => ?_))
        all_goals (first | refine AtT.kpass ?_ | refine AtT.kpassU ?_ | ((refine AtT.kmove ?_)))
        all_goals (first | refine AtT.kpass ?_ | refine AtT.kpassU ?_ | ((refine AtT.krem ?_)))
        all_goals (first | refine AtT.kpass ?_ | refine AtT.kpassU ?_ | ((refine AtT.kgtr ?_)))
        all_goals (first | refine AtT.kpass ?_ | refine AtT.kpassU ?_ | ((refine AtT.kpick ?_)))
        all_goals (refine AtT.kpick ?_)
        all_goals (refine AtT.kmove ?_)
        all_goals (first | refine AtT.kL 72 ?_ | refine AtT.pcase (d := 72) rfl (fun hg72 => ?_) (fun hg72 => ?_) | refine AtT.bcase (d := 72) rfl (fun hg72 => ?_) (fun hg72 => ?_))
        all_goals (first | refine AtT.kpass ?_ | refine AtT.kpassU ?_ | ((first | refine AtT.kloadOA tk25 ?_ | refine AtT.kloadA tk25 ?_ | refine AtT.kloadOP tk25 ?_)))
        all_goals (first | refine AtT.kpass ?_ | refine AtT.kpassU ?_ | ((refine AtT.kmove ?_)))
        all_goals (first | refine AtT.kpass ?_ | refine AtT.kpassU ?_ | ((refine AtT.kmove ?_)))
        all_goals (first | refine AtT.kpass ?_ | refine AtT.kpassU ?_ | ((refine AtT.kmove ?_)))
        all_goals (first | refine AtT.kpass ?_ | refine AtT.kpassU ?_ | ((refine AtT.kmove ?_)))
        all_goals (first | refine AtT.kpassN ?_ | refine AtT.kpassNU ?_ | ((refine AtT.kcall rfl rfl ok83 (of_f (out ++ [o]) o (by omega) _ _ (by rw [← hnl] at *; exact hs6)) ?_) ; (rintro v78 V78 hV78 hs78)))
        all_goals (first | refine AtT.kpassN ?_ | refine AtT.kpassNU ?_ | ((refine AtT.kcallP rfl rfl ok62 (batErr_f d ps hk sure _ hin hln _ _ _ ((hs5.le hVV6).le hV78) hs78) ?_) ; (rintro _ rfl)))
        all_goals (first | refine AtT.kpass ?_ | refine AtT.kpassU ?_ | ((refine AtT.keqI ?_)))
        all_goals (refine AtT.setF (d := 80) rfl (c3) ?_)
        all_goals (refine AtT.kpick ?_)
        all_goals refine AtT.done ?_
        all_goals (refine At.nrm ?_)
        refine At.condF rfl rfl ?_
        refine At.nrm ?_
        refine At.ktext (.q 0 (.q 1 (.q 2 .done))) ?_
        refine AtT.kmove ?_
        first | refine AtT.kadd ?_ | refine AtT.kaddW ?_
        refine AtT.kassign ?_
        refine AtT.done ?_
        refine At.nrm ?_
        refine At.round (k + 1, b) ?_ ?_ ?_ ?_
        · show (batN out).toNat - (k + 1) < (batN out).toNat - k; omega
        · exact ⟨((hV4.trans hV5).trans hVV6).trans hV78, by dsimp only; omega, hpk⟩
        · exact ⟨rfl, rfl, rfl, rfl, rfl, rfl, rfl, rfl, rfl, rfl, ivs (by omega), trivial⟩
        · exact Pt.auto
      )
  · by_cases c2 : 0 < f.tmod 5
    rotate_left
    · refine At.draw (.q 0 (.q 1 (.q 2 (.q 3 (.q 4 (.q 5 (.q 6 (.q 7 (.q 8 (.q 9 (.q 10 (.q 11 (.q 12 (.q 13 (.q 14 (.q 15 (.q 16 (.q 17 (.n false 18 (.n false 19 (.q 20 (.q 21 .done)))))))))))))))))))))) ffm (by kernel_rfl) ?_
      refine AtT.kmove ?_
      refine AtT.kmove ?_
      refine AtT.keqI ?_
      refine AtT.setT (d := 62) rfl (c1) ?_
      refine AtT.kmove ?_
      all_goals (first | refine AtT.kL 63 ?_ | refine AtT.pcase (d := 63) rfl (fun hg63 => ?_) (fun hg63 => ?_) | refine AtT.bcase (d := 63) rfl (fun hg63 => ?_) (fun hg63 => ?_))
      all_goals (first | refine AtT.kpass ?_ | refine AtT.kpassU ?_ | ((refine AtT.kmove ?_)))
      all_goals (first | refine AtT.kpass ?_ | refine AtT.kpassU ?_ | ((refine AtT.knot ?_)))
      all_goals (refine AtT.setB (d := 65) rfl ((show (!true) = false from rfl)) ?_)
      all_goals (first | refine AtT.kpass ?_ | refine AtT.kpassU ?_ | ((refine AtT.kmove ?_)))
      all_goals (first | refine AtT.kL 66 ?_ | refine AtT.pcase (d := 66) rfl (fun hg66 => ?_) (fun hg66 => ?_) | refine AtT.bcase (d := 66) rfl (fun hg66 => ?_) (fun hg66 => ?_))
      all_goals (first | refine AtT.kpass ?_ | refine AtT.kpassU ?_ | ((refine AtT.kmove ?_)))
      all_goals (first | refine AtT.kpass ?_ | refine AtT.kpassU ?_ | ((refine AtT.krem ?_)))
      all_goals (first | refine AtT.kpass ?_ | refine AtT.kpassU ?_ | ((refine AtT.kgtr ?_)))
      all_goals (refine AtT.setF (d := 69) rfl (c2) ?_)
      all_goals (first | refine AtT.kpass ?_ | refine AtT.kpassU ?_ | ((refine AtT.kpick ?_)))
      all_goals (refine AtT.kpick ?_)
      all_goals (refine AtT.kmove ?_)
      all_goals (first | refine AtT.kL 72 ?_ | refine AtT.pcase (d := 72) rfl (fun hg72 => ?_) (fun hg72 => ?_) | refine AtT.bcase (d := 72) rfl (fun hg72 => ?_) (fun hg72 => ?_))
      all_goals (first | refine AtT.kpass ?_ | refine AtT.kpassU ?_ | ((first | refine AtT.kloadOA tk25 ?_ | refine AtT.kloadA tk25 ?_ | refine AtT.kloadOP tk25 ?_)))
      all_goals (first | refine AtT.kpass ?_ | refine AtT.kpassU ?_ | ((refine AtT.kmove ?_)))
      all_goals (first | refine AtT.kpass ?_ | refine AtT.kpassU ?_ | ((refine AtT.kmove ?_)))
      all_goals (first | refine AtT.kpass ?_ | refine AtT.kpassU ?_ | ((refine AtT.kmove ?_)))
      all_goals (first | refine AtT.kpass ?_ | refine AtT.kpassU ?_ | ((refine AtT.kmove ?_)))
      all_goals (first | refine AtT.kpassN ?_ | refine AtT.kpassNU ?_ | ((fail)))
      all_goals (first | refine AtT.kpassN ?_ | refine AtT.kpassNU ?_ | ((fail)))
      all_goals (first | refine AtT.kpass ?_ | refine AtT.kpassU ?_ | ((refine AtT.keqI ?_)))
      all_goals (refine AtT.kpick ?_)
      all_goals refine AtT.done ?_
      all_goals (refine At.nrm ?_)
      refine At.condF rfl rfl ?_
      refine At.nrm ?_
      refine At.ktext (.q 0 (.q 1 (.q 2 .done))) ?_
      refine AtT.kmove ?_
      first | refine AtT.kadd ?_ | refine AtT.kaddW ?_
      refine AtT.kassign ?_
      refine AtT.done ?_
      refine At.nrm ?_
      refine At.round (k + 1, b) ?_ ?_ ?_ ?_
      · show (batN out).toNat - (k + 1) < (batN out).toNat - k; omega
      · exact ⟨((hV4.trans hV5).trans hVV6), by dsimp only; omega, hpk⟩
      · exact ⟨rfl, rfl, rfl, rfl, rfl, rfl, rfl, rfl, rfl, rfl, ivs (by omega), trivial⟩
      · exact Pt.auto
    · (
      by_cases c3 : fitE (bn d ps sure) (sumL (bn d ps sure) (ofL (out ++ [o]) o)) = 0
      · refine At.draw (.q 0 (.q 1 (.q 2 (.q 3 (.q 4 (.q 5 (.q 6 (.q 7 (.q 8 (.q 9 (.q 10 (.q 11 (.q 12 (.q 13 (.q 14 (.q 15 (.q 16 (.q 17 (.n false 18 (.n false 19 (.q 20 (.q 21 .done)))))))))))))))))))))) ffm (by kernel_rfl) ?_
        refine AtT.kmove ?_
        refine AtT.kmove ?_
        refine AtT.keqI ?_
        refine AtT.setT (d := 62) rfl (c1) ?_
        refine AtT.kmove ?_
        all_goals (first | refine AtT.kL 63 ?_ | refine AtT.pcase (d := 63) rfl (fun hg63 => ?_) (fun hg63 => ?_) | refine AtT.bcase (d := 63) rfl (fun hg63 => ?_) (fun hg63 => ?_))
        all_goals (first | refine AtT.kpass ?_ | refine AtT.kpassU ?_ | ((refine AtT.kmove ?_)))
        all_goals (first | refine AtT.kpass ?_ | refine AtT.kpassU ?_ | ((refine AtT.knot ?_)))
        all_goals (refine AtT.setB (d := 65) rfl ((show (!true) = false from rfl)) ?_)
        all_goals (first | refine AtT.kpass ?_ | refine AtT.kpassU ?_ | ((refine AtT.kmove ?_)))
        all_goals (first | refine AtT.kL 66 ?_ | refine AtT.pcase (d := 66) rfl (fun hg66 => ?_) (fun hg66 => ?_) | refine AtT.bcase (d := 66) rfl (fun hg66 => ?_) (fun hg66 => ?_))
        all_goals (first | refine AtT.kpass ?_ | refine AtT.kpassU ?_ | ((refine AtT.kmove ?_)))
        all_goals (first | refine AtT.kpass ?_ | refine AtT.kpassU ?_ | ((refine AtT.krem ?_)))
        all_goals (first | refine AtT.kpass ?_ | refine AtT.kpassU ?_ | ((refine AtT.kgtr ?_)))
        all_goals (refine AtT.setT (d := 69) rfl (c2) ?_)
        all_goals (first | refine AtT.kpass ?_ | refine AtT.kpassU ?_ | ((refine AtT.kpick ?_)))
        all_goals (refine AtT.kpick ?_)
        all_goals (refine AtT.kmove ?_)
        all_goals (first | refine AtT.kL 72 ?_ | refine AtT.pcase (d := 72) rfl (fun hg72 => ?_) (fun hg72 => ?_) | refine AtT.bcase (d := 72) rfl (fun hg72 => ?_) (fun hg72 => ?_))
        all_goals (first | refine AtT.kpass ?_ | refine AtT.kpassU ?_ | ((first | refine AtT.kloadOA tk25 ?_ | refine AtT.kloadA tk25 ?_ | refine AtT.kloadOP tk25 ?_)))
        all_goals (first | refine AtT.kpass ?_ | refine AtT.kpassU ?_ | ((refine AtT.kmove ?_)))
        all_goals (first | refine AtT.kpass ?_ | refine AtT.kpassU ?_ | ((refine AtT.kmove ?_)))
        all_goals (first | refine AtT.kpass ?_ | refine AtT.kpassU ?_ | ((refine AtT.kmove ?_)))
        all_goals (first | refine AtT.kpass ?_ | refine AtT.kpassU ?_ | ((refine AtT.kmove ?_)))
        all_goals (first | refine AtT.kpassN ?_ | refine AtT.kpassNU ?_ | ((refine AtT.kcall rfl rfl ok83 (of_f (out ++ [o]) o (by omega) _ _ (by rw [← hnl] at *; exact hs6)) ?_) ; (rintro v78 V78 hV78 hs78)))
        all_goals (first | refine AtT.kpassN ?_ | refine AtT.kpassNU ?_ | ((refine AtT.kcallP rfl rfl ok62 (batErr_f d ps hk sure _ hin hln _ _ _ ((hs5.le hVV6).le hV78) hs78) ?_) ; (rintro _ rfl)))
        all_goals (first | refine AtT.kpass ?_ | refine AtT.kpassU ?_ | ((refine AtT.keqI ?_)))
        all_goals (refine AtT.setT (d := 80) rfl (c3) ?_)
        all_goals (refine AtT.kpick ?_)
        all_goals refine AtT.done ?_
        all_goals (refine At.nrm ?_)
        refine At.condT rfl rfl ?_
        refine At.nrm ?_
        refine At.ktext (.q 0 (.q 1 .done)) ?_
        refine AtT.kmove ?_
        refine AtT.kassign ?_
        refine AtT.done ?_
        refine At.nrm ?_
        refine At.ktext (.q 0 (.q 1 (.q 2 .done))) ?_
        refine AtT.kmove ?_
        first | refine AtT.kadd ?_ | refine AtT.kaddW ?_
        refine AtT.kassign ?_
        refine AtT.done ?_
        refine At.nrm ?_
        refine At.round (k + 1, o) ?_ ?_ ?_ ?_
        · show (batN out).toNat - (k + 1) < (batN out).toNat - k; omega
        · exact ⟨((hV4.trans hV5).trans hVV6).trans hV78, by dsimp only; omega, .inr ⟨ho0, ho1, hor, c3⟩⟩
        · exact ⟨rfl, rfl, rfl, rfl, rfl, rfl, rfl, rfl, rfl, rfl, ivs (by omega), trivial⟩
        · exact Pt.auto
      · refine At.draw (.q 0 (.q 1 (.q 2 (.q 3 (.q 4 (.q 5 (.q 6 (.q 7 (.q 8 (.q 9 (.q 10 (.q 11 (.q 12 (.q 13 (.q 14 (.q 15 (.q 16 (.q 17 (.n false 18 (.n false 19 (.q 20 (.q 21 .done)))))))))))))))))))))) ffm (by kernel_rfl) ?_
        refine AtT.kmove ?_
        refine AtT.kmove ?_
        refine AtT.keqI ?_
        refine AtT.setT (d := 62) rfl (c1) ?_
        refine AtT.kmove ?_
        all_goals (first | refine AtT.kL 63 ?_ | refine AtT.pcase (d := 63) rfl (fun hg63 => ?_) (fun hg63 => ?_) | refine AtT.bcase (d := 63) rfl (fun hg63 => ?_) (fun hg63 => ?_))
        all_goals (first | refine AtT.kpass ?_ | refine AtT.kpassU ?_ | ((refine AtT.kmove ?_)))
        all_goals (first | refine AtT.kpass ?_ | refine AtT.kpassU ?_ | ((refine AtT.knot ?_)))
        all_goals (refine AtT.setB (d := 65) rfl ((show (!true) = false from rfl)) ?_)
        all_goals (first | refine AtT.kpass ?_ | refine AtT.kpassU ?_ | ((refine AtT.kmove ?_)))
        all_goals (first | refine AtT.kL 66 ?_ | refine AtT.pcase (d := 66) rfl (fun hg66 => ?_) (fun hg66 => ?_) | refine AtT.bcase (d := 66) rfl (fun hg66 => ?_) (fun hg66 => ?_))
        all_goals (first | refine AtT.kpass ?_ | refine AtT.kpassU ?_ | ((refine AtT.kmove ?_)))
        all_goals (first | refine AtT.kpass ?_ | refine AtT.kpassU ?_ | ((refine AtT.krem ?_)))
        all_goals (first | refine AtT.kpass ?_ | refine AtT.kpassU ?_ | ((refine AtT.kgtr ?_)))
        all_goals (refine AtT.setT (d := 69) rfl (c2) ?_)
        all_goals (first | refine AtT.kpass ?_ | refine AtT.kpassU ?_ | ((refine AtT.kpick ?_)))
        all_goals (refine AtT.kpick ?_)
        all_goals (refine AtT.kmove ?_)
        all_goals (first | refine AtT.kL 72 ?_ | refine AtT.pcase (d := 72) rfl (fun hg72 => ?_) (fun hg72 => ?_) | refine AtT.bcase (d := 72) rfl (fun hg72 => ?_) (fun hg72 => ?_))
        all_goals (first | refine AtT.kpass ?_ | refine AtT.kpassU ?_ | ((first | refine AtT.kloadOA tk25 ?_ | refine AtT.kloadA tk25 ?_ | refine AtT.kloadOP tk25 ?_)))
        all_goals (first | refine AtT.kpass ?_ | refine AtT.kpassU ?_ | ((refine AtT.kmove ?_)))
        all_goals (first | refine AtT.kpass ?_ | refine AtT.kpassU ?_ | ((refine AtT.kmove ?_)))
        all_goals (first | refine AtT.kpass ?_ | refine AtT.kpassU ?_ | ((refine AtT.kmove ?_)))
        all_goals (first | refine AtT.kpass ?_ | refine AtT.kpassU ?_ | ((refine AtT.kmove ?_)))
        all_goals (first | refine AtT.kpassN ?_ | refine AtT.kpassNU ?_ | ((refine AtT.kcall rfl rfl ok83 (of_f (out ++ [o]) o (by omega) _ _ (by rw [← hnl] at *; exact hs6)) ?_) ; (rintro v78 V78 hV78 hs78)))
        all_goals (first | refine AtT.kpassN ?_ | refine AtT.kpassNU ?_ | ((refine AtT.kcallP rfl rfl ok62 (batErr_f d ps hk sure _ hin hln _ _ _ ((hs5.le hVV6).le hV78) hs78) ?_) ; (rintro _ rfl)))
        all_goals (first | refine AtT.kpass ?_ | refine AtT.kpassU ?_ | ((refine AtT.keqI ?_)))
        all_goals (refine AtT.setF (d := 80) rfl (c3) ?_)
        all_goals (refine AtT.kpick ?_)
        all_goals refine AtT.done ?_
        all_goals (refine At.nrm ?_)
        refine At.condF rfl rfl ?_
        refine At.nrm ?_
        refine At.ktext (.q 0 (.q 1 (.q 2 .done))) ?_
        refine AtT.kmove ?_
        first | refine AtT.kadd ?_ | refine AtT.kaddW ?_
        refine AtT.kassign ?_
        refine AtT.done ?_
        refine At.nrm ?_
        refine At.round (k + 1, b) ?_ ?_ ?_ ?_
        · show (batN out).toNat - (k + 1) < (batN out).toNat - k; omega
        · exact ⟨((hV4.trans hV5).trans hVV6).trans hV78, by dsimp only; omega, hpk⟩
        · exact ⟨rfl, rfl, rfl, rfl, rfl, rfl, rfl, rfl, rfl, rfl, ivs (by omega), trivial⟩
        · exact Pt.auto
      )
end Go.Proofs.Ytmnbkceiaifncaa
namespace Go.Gl
theorem good_plR {d : Dy} {ps : List Pn} {sure row : Bool} {l : List Int} (h : bothE d ps = 0) (hl : l.length = ps.length) (hp : planB l row = true) (hg : Good (bn d ps sure) l) : plR d ps sure l row = (batN l, 0) := plR_ok h hl hp (bad_of hg)
/-- Numbers of a list that are all different, and below another one. -/
theorem pigeon : ∀ {n : Nat} {l : List Int}, l.Nodup → (∀ x ∈ l, 0 ≤ x ∧ x < (n : Int)) → l.length ≤ n
  | 0, l, _, h => by
    cases l with
    | nil => simp
    | cons x l => have := h x List.mem_cons_self; omega
  | n + 1, l, hd, h => by
    have h1 := pigeon (n := n) (l := l.erase (n : Int)) (hd.sublist List.erase_sublist) (fun x hx => by
      have := h x (List.mem_of_mem_erase hx)
      have : x ≠ (n : Int) := fun e => by subst e; exact (List.Nodup.not_mem_erase hd) hx
      omega)
    by_cases c : (n : Int) ∈ l
    · have := List.length_erase_of_mem c; omega
    · rw [List.erase_of_not_mem c] at h1; omega
theorem sum_two (B : Bn) (a b : Int) : sumL B [a, b] = (eachP B a).and (eachP B b) := by
  show (sm0.and (eachP B a)).and (eachP B b) = _
  rw [and0]
theorem sm_two {B : Bn} (hB : BnOk B) {p : Nat → Bool} {a b n : Nat} (hab : a < b) (hb : b < n) (ha' : p a = true) (hb' : p b = true) : ((eachP B (a : Int)).and (eachP B (b : Int))).t ≤ (sm B p n).t ∧ ((eachP B (a : Int)).and (eachP B (b : Int))).g ≤ (sm B p n).g := by
  have h1 : (eachP B (a : Int)).t ≤ (sm B p (a + 1)).t ∧ (eachP B (a : Int)).g ≤ (sm B p (a + 1)).g := by
    have := sm_sub hB (p := fun i => decide (a ≤ i)) (q := p) (m := a + 1) (n := a + 1) (Nat.le_refl _) (fun i hi hpi => by
      have : i = a := by rw [decide_eq_true_eq] at hpi; omega
      subst this; exact ha')
    rw [sm_last] at this; exact this
  have h2 := sm_sub hB (p := p) (q := p) (m := a + 1) (n := b) (by omega) (fun i _ h => h)
  have h3 := sm_sub hB (p := p) (q := p) (m := b + 1) (n := n) (by omega) (fun i _ h => h)
  have e : sm B p (b + 1) = (sm B p b).and (eachP B (b : Int)) := by simp only [sm]; rw [if_pos hb']
  rw [e] at h3
  simp only [Sm.and] at *
  omega
/-- No plan has fewer batches than there are panels that are apart. -/
theorem apart_le {B : Bn} (hB : BnOk B) {l m : List Int} (hl : l.length = B.each.length) (h0 : ∀ x ∈ l, 0 ≤ x) (hg : Good B l) (hm : Ap B m) : (m.length : Int) ≤ batN l := by
  have key : ∀ a b : Nat, a < b → b < B.each.length → Ap2 B (a : Int) (b : Int) → l.getD a 0 ≠ l.getD b 0 := fun a b hab hb h2 e => h2 (by
    rw [sum_two]
    exact fit_mono (sm_two hB (p := fun i => decide (l.getD i 0 = l.getD b 0)) hab (by omega) (decide_eq_true e) (decide_eq_true rfl)) (hg (l.getD b 0)))
  have h1 := pigeon (n := (batN l).toNat) (l := m.map fun x => l.getD x.toNat 0) ?_ ?_
  · rw [List.length_map] at h1
    have := batN_pos l
    omega
  · rw [List.nodup_iff_pairwise_ne, List.pairwise_map]
    refine hm.1.imp_of_mem fun {a b} ha hb h => ?_
    obtain ⟨a0, a1⟩ := hm.2 a ha
    obtain ⟨b0, b1⟩ := hm.2 b hb
    refine key a.toNat b.toNat (by omega) (by omega) ?_
    rw [show ((a.toNat : Nat) : Int) = a by omega, show ((b.toNat : Nat) : Int) = b by omega]
    exact h.2
  · intro x hx
    rw [List.mem_map] at hx
    obtain ⟨y, hy, rfl⟩ := hx
    obtain ⟨y0, y1⟩ := hm.2 y hy
    have hmem := getD_mem (l := l) (i := y.toNat) (by omega)
    have := batN_gt hmem
    have := h0 _ hmem
    omega
/-- No good row comes before the best one. -/
theorem row_first {B : Bn} (hB : BnOk B) (hf : FineB B) {l : List Int} (h : planB l true = true) (hl : l.length = B.each.length) (hg : Good B l) : earB l (rowL B) = false := ear_no fun i hi _ _ hlt => by
  have hm := plan_row h
  have h0 : 0 ≤ l.getD 0 0 := hm.2 _ (getD_mem (by omega))
  have := row_min hB hf hm.1 h0 hl hg i (by omega)
  rw [rowL, rowO_at B (by omega)] at hlt
  omega
theorem bit_lst (A n : Nat) : lstB (bitL A n) (n : Int) = true := lstB_iff.2 ⟨bitL_lt _ _, fun x hx => by
  obtain ⟨i, a, b, _⟩ := bitL_mem.1 hx
  omega⟩
end Go.Gl
namespace Go.Gl
/-- What fits a bench fits another one. -/
structure BLe (B C : Bn) : Prop where
  len : B.each.length = C.each.length
  w : B.w ≤ C.w
  p : B.p ≤ C.p
  each : ∀ i : Nat, (eachP C (i : Int)).t ≤ (eachP B (i : Int)).t ∧ (eachP C (i : Int)).g ≤ (eachP B (i : Int)).g
theorem ble_sm {B C : Bn} (h : BLe B C) (q : Nat → Bool) : ∀ n, (sm C q n).t ≤ (sm B q n).t ∧ (sm C q n).g ≤ (sm B q n).g
  | 0 => by simp [sm]
  | n + 1 => by
    have ih := ble_sm h q n
    have e := h.each n
    simp only [sm]
    split
    · simp only [Sm.and]; omega
    · exact ih
theorem ble_fit {B C : Bn} (h : BLe B C) {s s' : Sm} (hs : s'.t ≤ s.t ∧ s'.g ≤ s.g) (hf : fitE B s = 0) : fitE C s' = 0 := by
  rw [fit_iff] at *
  have := h.w; have := h.p
  omega
theorem ble_good {B C : Bn} (h : BLe B C) {l : List Int} (hg : Good B l) : Good C l := fun k => ble_fit h (ble_sm h _ _) (hg k)
theorem ble_fine {B C : Bn} (h : BLe B C) (hf : FineB B) : FineB C := fun i hi => ble_fit h (h.each i) (hf i (by rw [h.len]; exact hi))
theorem ble_plan {B C : Bn} (h : BLe B C) (hB : BnOk B) (hC : BnOk C) (hf : FineB B) : batN (planL C) ≤ batN (planL B) := by
  have hb := plan_best hB hf
  exact best_le hC (ble_fine h hf) (by rw [hb.len, h.len]) hb.plan (ble_good h hb.good)
theorem ble_row {B C : Bn} (h : BLe B C) (hB : BnOk B) (hC : BnOk C) (hf : FineB B) : batN (rowL C) ≤ batN (rowL B) :=
  row_least hC (ble_fine h hf) (row_plan hf) (by rw [row_len, h.len]) (ble_good h (row_good hB hf))
theorem eachP_bn (d : Dy) (ps : List Pn) (s : Bool) (i : Nat) : eachP (bn d ps s) (i : Int) = (ps[i]?.map (smOf s)).getD sm0 := by
  simp [eachP, bn, List.getD, List.getElem?_map]
theorem bn_ble {d d' : Dy} {ps ps' : List Pn} {s s' : Bool} (hw : worksOf d s ≤ worksOf d' s') (hp : d.pot ≤ d'.pot) (hl : ps.length = ps'.length)
    (he : ∀ (i : Nat) (p p' : Pn), ps[i]? = some p → ps'[i]? = some p' → timeOf p' s' ≤ timeOf p s ∧ p'.sp ≤ p.sp) : BLe (bn d ps s) (bn d' ps' s') := by
  refine ⟨by rw [bn_len, bn_len, hl], hw, hp, fun i => ?_⟩
  rw [eachP_bn, eachP_bn]
  cases c : ps[i]? with
  | none =>
    have : ps'[i]? = none := by rw [List.getElem?_eq_none_iff] at *; omega
    rw [this]; simp
  | some p =>
    have hi := (List.getElem?_eq_some_iff.1 c).1
    have c' : ps'[i]? = some (ps'[i]'(by omega)) := List.getElem?_eq_getElem (by omega)
    rw [c']
    have := he i p _ c c'
    simpa [smOf] using this
theorem ok_both {d : Dy} {ps : List Pn} (h : Ok d ps) : bothE d ps = 0 := by
  have h1 : dayE d = 0 := by
    unfold dayE dayB rngB potB
    have := h.l0; have := h.l1; have := h.l2; have := h.p0; have := h.p1
    rw [if_pos]
    simp only [Bool.and_eq_true, decide_eq_true_eq]; omega
  unfold bothE
  rw [if_neg (by simp [h1])]
  unfold panE
  rw [if_neg (by have := h.n10; omega), if_neg]
  rw [List.any_eq_true]
  rintro ⟨p, hp, hq⟩
  have := h.each p hp
  unfold strayB rngB potB at hq
  simp only [Bool.not_eq_true', Bool.and_eq_false_iff, decide_eq_false_iff_not] at hq
  omega
/-- A truth of some panels. -/
def KnP (ps out : List Pn) : Prop := out.length = ps.length ∧ ∀ (i : Nat) (p q : Pn), ps[i]? = some p → out[i]? = some q → q.lo = q.hi ∧ p.lo ≤ q.lo ∧ q.lo ≤ p.hi ∧ q.sp = p.sp
theorem kn_ok {d : Dy} {ps out : List Pn} {w : Int} (h : Ok d ps) (hw : d.lo ≤ w ∧ w ≤ d.hi) (hk : KnP ps out) : Ok ⟨w, w, d.pot⟩ out := by
  refine ⟨by have := h.l0; show 1 ≤ w; omega, Int.le_refl _, by have := h.l2; show w ≤ 240; omega, h.p0, h.p1, by rw [hk.1]; exact h.n10, fun q hq => ?_⟩
  obtain ⟨i, hi, rfl⟩ := List.getElem_of_mem hq
  have hi' : i < ps.length := by rw [← hk.1]; exact hi
  have a := hk.2 i _ _ (List.getElem?_eq_getElem hi') (List.getElem?_eq_getElem hi)
  have b := h.each _ (List.getElem_mem hi')
  omega
theorem kn_up {d : Dy} {ps out : List Pn} {w : Int} (s : Bool) (hw : d.lo ≤ w ∧ w ≤ d.hi) (hk : KnP ps out) : BLe (bn d ps true) (bn ⟨w, w, d.pot⟩ out s) := by
  refine bn_ble (by cases s <;> exact hw.1) (Int.le_refl _) hk.1.symm fun i p q hp hq => ?_
  have := hk.2 i p q hp hq
  cases s
  · show q.lo ≤ p.hi ∧ _; omega
  · show q.hi ≤ p.hi ∧ _; omega
theorem kn_down {d : Dy} {ps out : List Pn} {w : Int} (s : Bool) (hw : d.lo ≤ w ∧ w ≤ d.hi) (hk : KnP ps out) : BLe (bn ⟨w, w, d.pot⟩ out s) (bn d ps false) := by
  refine bn_ble (by cases s <;> exact hw.2) (Int.le_refl _) hk.1 fun i q p hq hp => ?_
  have := hk.2 i p q hp hq
  cases s
  · show p.lo ≤ q.lo ∧ _; omega
  · show p.lo ≤ q.hi ∧ _; omega

/-- What fits one bench fits the other one, and the other way round. -/
structure FEq (B C : Bn) : Prop where
  len : B.each.length = C.each.length
  fit : ∀ q n, fitE B (sm B q n) = 0 ↔ fitE C (sm C q n) = 0
theorem feq_good {B C : Bn} (h : FEq B C) {l : List Int} : Good B l ↔ Good C l := ⟨fun g k => (h.fit _ _).1 (g k), fun g k => (h.fit _ _).2 (g k)⟩
theorem feq_rowF {B C : Bn} (h : FEq B C) : ∀ k, rowF B k = rowF C k
  | 0 => rfl
  | k + 1 => by
    have ih := feq_rowF h k
    simp only [rowF]
    rw [sum_spanT, sum_spanT, ih]
    have := h.fit (fun i => decide ((rowF C k).1 ≤ i)) (k + 1)
    by_cases c : fitE B (sm B (fun i => decide ((rowF C k).1 ≤ i)) (k + 1)) = 0
    · rw [if_neg (by simpa using c), if_neg (by simpa using this.1 c)]
    · rw [if_pos c, if_pos fun e => c (this.2 e)]
theorem feq_row {B C : Bn} (h : FEq B C) : rowL B = rowL C := by
  unfold rowL rowO
  rw [h.len]
  exact List.map_congr_left fun i _ => by rw [feq_rowF h]
theorem feq_go {B C : Bn} (h : FEq B C) : ∀ (t : Nat) (begun : List Int) (most : Int), goL B t begun most = goL C t begun most
  | 0, _, _ => rfl
  | t + 1, begun, most => by
    rw [goL_succ, goL_succ]
    congr 1
    funext k
    unfold goF
    rw [feq_go h t, sum_ofL, sum_ofL]
    have := h.fit (fun i => decide ((begun ++ [(k : Int)]).getD i 0 = (k : Int))) (begun ++ [(k : Int)]).length
    by_cases c : fitE B (sm B (fun i => decide ((begun ++ [(k : Int)]).getD i 0 = (k : Int))) (begun ++ [(k : Int)]).length) = 0
    · rw [if_neg (by simpa using c), if_neg (by simpa using this.1 c)]
    · rw [if_pos c, if_pos fun e => c (this.2 e)]
theorem feq_plan {B C : Bn} (h : FEq B C) (hB : BnOk B) (hC : BnOk C) (hf : FineB B) (hg : FineB C) : planL B = planL C := by
  have b := plan_best hB hf
  have c := plan_best hC hg
  have h1 := best_le hC hg (by rw [b.len, h.len]) b.plan ((feq_good h).1 b.good)
  have h2 := best_le hB hf (by rw [c.len, h.len]) c.plan ((feq_good h).2 c.good)
  have e : batN (planL B) = batN (planL C) := by omega
  have g1 := b.go
  have g2 := c.go
  rw [feq_go h, h.len, e] at g1
  rw [g1] at g2
  exact Option.some.inj g2
/-- All times are as many times as great. -/
structure Scl (t : Int) (B C : Bn) : Prop where
  t1 : 1 ≤ t
  len : B.each.length = C.each.length
  w : C.w = t * B.w
  p : C.p = B.p
  each : ∀ i : Nat, (eachP C (i : Int)).t = t * (eachP B (i : Int)).t ∧ (eachP C (i : Int)).g = (eachP B (i : Int)).g
theorem scl_sm {t : Int} {B C : Bn} (h : Scl t B C) (q : Nat → Bool) : ∀ n, (sm C q n).t = t * (sm B q n).t ∧ (sm C q n).g = (sm B q n).g
  | 0 => by simp [sm, sm0]
  | n + 1 => by
    have ih := scl_sm h q n
    have e := h.each n
    simp only [sm]
    split
    · simp only [Sm.and]; rw [ih.1, ih.2, e.1, e.2, Int.mul_add]; exact ⟨rfl, rfl⟩
    · exact ih
theorem scl_feq {t : Int} {B C : Bn} (h : Scl t B C) : FEq B C := ⟨h.len, fun q n => by
  have e := scl_sm h q n
  rw [fit_iff, fit_iff, e.1, e.2, h.w, h.p]
  have t1 := h.t1
  constructor
  · rintro ⟨a, b⟩; exact ⟨Int.mul_le_mul_of_nonneg_left a (by omega), b⟩
  · rintro ⟨a, b⟩; exact ⟨Int.le_of_mul_le_mul_left a (by omega), b⟩⟩
theorem bn_scl {t : Int} {d : Dy} {ps ps' : List Pn} {s : Bool} (h1 : 1 ≤ t) (hl : ps.length = ps'.length)
    (he : ∀ (i : Nat) (p p' : Pn), ps[i]? = some p → ps'[i]? = some p' → p' = ⟨t * p.lo, t * p.hi, p.sp⟩) : Scl t (bn d ps s) (bn ⟨t * d.lo, t * d.hi, d.pot⟩ ps' s) := by
  refine ⟨h1, by rw [bn_len, bn_len, hl], by cases s <;> rfl, rfl, fun i => ?_⟩
  rw [eachP_bn, eachP_bn]
  cases c : ps[i]? with
  | none =>
    have : ps'[i]? = none := by rw [List.getElem?_eq_none_iff] at *; omega
    rw [this]; simp [sm0]
  | some p =>
    have hi := (List.getElem?_eq_some_iff.1 c).1
    have c' : ps'[i]? = some (ps'[i]'(by omega)) := List.getElem?_eq_getElem (by omega)
    rw [c', he i p _ c c']
    cases s <;> simp [smOf, timeOf]
end Go.Gl
set_option linter.unusedVariables false
namespace Go.Gl
theorem sumL_each {B C : Bn} (h : B.each = C.each) (l : List Int) : sumL B l = sumL C l := by
  unfold sumL eachP; rw [h]
theorem fstE_is {B : Bn} {l : List Int} {e : Int} (he : e ≠ 0) : ∀ {n : Nat}, (∀ k, k < n → fitE B (sumL B (ofL l (k : Int))) = 0 ∨ fitE B (sumL B (ofL l (k : Int))) = e) → (∃ k, k < n ∧ fitE B (sumL B (ofL l (k : Int))) = e) → fstE B l n = e
  | 0, _, ⟨k, hk, _⟩ => by omega
  | n + 1, h, ⟨k, hk, hke⟩ => by
    simp only [fstE]
    by_cases c : ∃ j, j < n ∧ fitE B (sumL B (ofL l (j : Int))) = e
    · have ih := fstE_is he (n := n) (fun j hj => h j (by omega)) c
      rw [if_pos (by rw [ih]; exact he), ih]
    · have hz : fstE B l n = 0 := fstE_zero fun j hj => (h j (by omega)).resolve_right fun hh => c ⟨j, hj, hh⟩
      rw [if_neg (by rw [hz]; simp)]
      have : k = n := by
        by_cases d : k < n
        · exact absurd ⟨k, d, hke⟩ c
        · omega
      subst this; exact hke
theorem mx_ge {B : Bn} {l : List Int} {k : Nat} : ∀ {m : Nat}, k < m → (sumL B (ofL l (k : Int))).t ≤ (mxS B l m).t ∧ (sumL B (ofL l (k : Int))).g ≤ (mxS B l m).g
  | 0, h => by omega
  | m + 1, h => by
    simp only [mxS]
    by_cases c : k = m
    · subst c; omega
    · have := mx_ge (B := B) (l := l) (k := k) (m := m) (by omega); omega
theorem mx_at {B : Bn} (hB : BnOk B) {l : List Int} : ∀ {m : Nat}, 0 < m → (∃ k, k < m ∧ (sumL B (ofL l (k : Int))).t = (mxS B l m).t) ∧ ∃ k, k < m ∧ (sumL B (ofL l (k : Int))).g = (mxS B l m).g
  | 0, h => by omega
  | m + 1, h => by
    have hb := sumL_bd hB (ofL l (m : Int))
    simp only [mxS]
    by_cases c : m = 0
    · subst c
      refine ⟨⟨0, by omega, ?_⟩, ⟨0, by omega, ?_⟩⟩ <;> simp only [mxS, sm0] <;> omega
    · obtain ⟨⟨k, hk, h1⟩, ⟨j, hj, h2⟩⟩ := mx_at hB (l := l) (m := m) (by omega)
      constructor
      · by_cases d : (mxS B l m).t ≤ (sumL B (ofL l (m : Int))).t
        · exact ⟨m, by omega, by omega⟩
        · exact ⟨k, by omega, by omega⟩
      · by_cases d : (mxS B l m).g ≤ (sumL B (ofL l (m : Int))).g
        · exact ⟨m, by omega, by omega⟩
        · exact ⟨j, by omega, by omega⟩
theorem mx_le {B : Bn} (hB : BnOk B) {l : List Int} (hg : Good B l) : ∀ m, (mxS B l m).t ≤ B.w ∧ (mxS B l m).g ≤ B.p
  | 0 => by have := hB.w0; have := hB.p0; simp only [mxS, sm0]; omega
  | m + 1 => by
    have ih := mx_le hB hg m
    have := hg (m : Int)
    rw [← sum_ofL, fit_iff] at this
    simp only [mxS]; omega
theorem eachP_pos {B : Bn} (hB : BnOk B) (h : 0 < B.each.length) : 1 ≤ (eachP B 0).t ∧ 1 ≤ (eachP B 0).g := by
  have e : eachP B 0 = B.each[0] := by unfold eachP; simp [List.getD, List.getElem?_eq_getElem h]
  have := hB.each _ (List.getElem_mem h)
  rw [e]; omega
theorem mx_pos {B : Bn} (hB : BnOk B) {l : List Int} (h : 0 < B.each.length) (hl : l.length = B.each.length) (h0 : ∀ x ∈ l, 0 ≤ x) : 0 < (batN l).toNat ∧ 1 ≤ (mxS B l (batN l).toNat).t ∧ 1 ≤ (mxS B l (batN l).toNat).g := by
  have hm := getD_mem (l := l) (i := 0) (by omega)
  have a := h0 _ hm
  have b := batN_gt hm
  obtain ⟨k, hk⟩ : ∃ k : Nat, l.getD 0 0 = (k : Int) := ⟨(l.getD 0 0).toNat, by omega⟩
  have c := mx_ge (B := B) (l := l) (k := k) (m := (batN l).toNat) (by omega)
  have d := eachP_pos hB h
  have e := sm_sub hB (p := fun i => decide (l.getD i 0 = (k : Int))) (q := fun i => decide (l.getD i 0 = (k : Int))) (m := 1) (n := l.length) (by omega) (fun i _ hi => hi)
  have f : sm B (fun i => decide (l.getD i 0 = (k : Int))) 1 = eachP B 0 := by
    simp only [sm]
    rw [if_pos (by rw [hk]; simp), and0]; rfl
  rw [f, ← sum_ofL] at e
  omega
/-- A day that is shorter, or a pot that holds less. -/
theorem day_ok {d : Dy} {ps : List Pn} (h : Ok d ps) {a b : Int} (ha : 1 ≤ a ∧ a ≤ d.lo) (hb : 1 ≤ b ∧ b ≤ d.pot) : Ok ⟨a, d.hi, b⟩ ps :=
  ⟨ha.1, by have := h.l1; show a ≤ d.hi; omega, h.l2, hb.1, by have := h.p1; show b ≤ 200; omega, h.n10, h.each⟩
theorem day_sum (d : Dy) (ps : List Pn) (a b c : Int) (l : List Int) : sumL (bn ⟨a, b, c⟩ ps true) l = sumL (bn d ps true) l := sumL_each rfl l
theorem spare_ok {d : Dy} {ps : List Pn} {l : List Int} {a b : Int} (h : Ok d ps) (hl : l.length = ps.length) (hp : planB l false = true) (ha : 1 ≤ a ∧ a ≤ d.lo) (hb : 1 ≤ b ∧ b ≤ d.pot)
    (h1 : (mxS (bn d ps true) l (batN l).toNat).t ≤ a) (h2 : (mxS (bn d ps true) l (batN l).toNat).g ≤ b) : plR ⟨a, d.hi, b⟩ ps true l false = (batN l, 0) := by
  refine plR_ok (ok_both (day_ok h ha hb)) hl hp (fstE_zero fun k hk => ?_)
  rw [day_sum d, fit_iff]
  have := mx_ge (B := bn d ps true) (l := l) hk
  show _ ≤ a ∧ _ ≤ b
  omega
theorem spare_glue {d : Dy} {ps : List Pn} {l : List Int} {a : Int} (h : Ok d ps) (hl : l.length = ps.length) (hp : planB l false = true) (hg : Good (bn d ps true) l) (hn : 0 < ps.length) (ha : 1 ≤ a) (e : a = (mxS (bn d ps true) l (batN l).toNat).t - 1) : plR ⟨a, d.hi, d.pot⟩ ps true l false = (0, 22) := by
  have hB := bn_ok h true
  have hbl := bn_len d ps true
  have q1 := mx_pos hB (by omega) (by omega) (plan_in hp)
  have q2 := mx_le hB hg (batN l).toNat
  have q3 := h.p0
  have q4 : (bn d ps true).w = d.lo := rfl
  have q5 : (bn d ps true).p = d.pot := rfl
  have hk := day_ok h (a := a) (b := d.pot) (by omega) (by omega)
  have hbad : badE (bn ⟨a, d.hi, d.pot⟩ ps true) l = 22 := by
    refine fstE_is (by decide) (fun k hk => ?_) ?_
    · rw [day_sum d]
      have := mx_ge (B := bn d ps true) (l := l) hk
      unfold fitE
      show (if a < _ then _ else if d.pot < _ then _ else _) = 0 ∨ (if a < _ then _ else if d.pot < _ then _ else _) = 22
      split
      · exact .inr rfl
      · rw [if_neg (by omega)]; exact .inl rfl
    · obtain ⟨⟨k, hk, h1⟩, _⟩ := mx_at hB (l := l) q1.1
      refine ⟨k, hk, ?_⟩
      rw [day_sum d]
      unfold fitE
      show (if a < _ then _ else _) = _
      rw [if_pos (by omega)]
  rw [plR_bad (ok_both hk) hl hp (by rw [hbad]; decide), hbad]
theorem spare_full {d : Dy} {ps : List Pn} {l : List Int} {b : Int} (h : Ok d ps) (hl : l.length = ps.length) (hp : planB l false = true) (hg : Good (bn d ps true) l) (hn : 0 < ps.length) (hb : 1 ≤ b) (e : b = (mxS (bn d ps true) l (batN l).toNat).g - 1) : plR ⟨d.lo, d.hi, b⟩ ps true l false = (0, 10) := by
  have hB := bn_ok h true
  have hbl := bn_len d ps true
  have q1 := mx_pos hB (by omega) (by omega) (plan_in hp)
  have q2 := mx_le hB hg (batN l).toNat
  have q3 := h.l0
  have q4 : (bn d ps true).w = d.lo := rfl
  have q5 : (bn d ps true).p = d.pot := rfl
  have hk := day_ok h (a := d.lo) (b := b) (by omega) (by omega)
  have hbad : badE (bn ⟨d.lo, d.hi, b⟩ ps true) l = 10 := by
    refine fstE_is (by decide) (fun k hk => ?_) ?_
    · rw [day_sum d]
      have := mx_ge (B := bn d ps true) (l := l) hk
      unfold fitE
      show (if d.lo < _ then _ else if b < _ then _ else _) = 0 ∨ (if d.lo < _ then _ else if b < _ then _ else _) = 10
      rw [if_neg (by omega)]
      split
      · exact .inr rfl
      · exact .inl rfl
    · obtain ⟨_, k, hk, h1⟩ := mx_at hB (l := l) q1.1
      refine ⟨k, hk, ?_⟩
      rw [day_sum d]
      have := mx_ge (B := bn d ps true) (l := l) hk
      unfold fitE
      show (if d.lo < _ then _ else if b < _ then _ else _) = _
      rw [if_neg (by omega), if_pos (by omega)]
  rw [plR_bad (ok_both hk) hl hp (by rw [hbad]; decide), hbad]
theorem spR_is {d : Dy} {ps : List Pn} {l : List Int} (h : plR d ps true l false = (batN l, 0)) : spR d ps true l = (d.lo - (mxS (bn d ps true) l (batN l).toNat).t, d.pot - (mxS (bn d ps true) l (batN l).toNat).g, 0) := by
  unfold spR; rw [h, if_neg (by simp)]; rfl
end Go.Gl
set_option linter.unusedVariables false
namespace Go.Proofs.Ytmnbkceiaifncaa
open Go.Lw Go.Gl Go.RowKit


/-- What a plan spares. -/
theorem glueSpared_f (d : Dy) (ps : List Pn) (by' : List U8) (V : View) (v vb : Value) (hs : Sl V pne 3 v ps) (hy : Sl V e8 1 vb by') : Fnc Try.prog 14 [dyv d, v, vb] V fun r _ => r = .bool true := by
  have hbl := bn_len d ps true
  obtain ⟨a, c, rfl, k1, k2, _⟩ := id hs
  obtain ⟨ab, cb, rfl, k3, k4, _⟩ := id hy
  clear k1 k2 k3 k4
  refine fn_of Try.func14 rfl Try.ntmps14 (Nat.le_of_ble_eq_true rfl) ?_
  intro w0 hw0
  refine At.nrm ?_
  refine At.ktext (.n false 0 (.q 1 .done)) ?_
  refine AtT.kbox ?_
  intro b3
  refine AtT.kassign ?_
  refine AtT.done ?_
  refine At.nrm ?_
  by_cases g0 : ps.length ≤ 16 ∧ rowE d ps true = 0
  rotate_left
  · refine At.ktext (.q 0 (.q 1 (.n false 2 (.q 3 (.q 4 (.q 5 (.q 6 (.q 7 (.q 8 (.q 9 (.q 10 (.q 11 (.q 12 (.q 13 .done)))))))))))))) ?_
    first | refine AtT.kloadOA tk25 ?_ | refine AtT.kloadA tk25 ?_ | refine AtT.kloadOP tk25 ?_
    refine AtT.kmove ?_
    refine AtT.kcallP rfl rfl ok46 (fine_f d ps true _ _ hs) ?_
    rintro _ rfl
    refine AtT.setF (d := 18) rfl (g0) ?_
    refine AtT.knot ?_
    refine AtT.setB (d := 19) rfl ((show (!false) = true from rfl)) ?_
    refine AtT.kmove ?_
    all_goals (first | refine AtT.kL 20 ?_ | refine AtT.pcase (d := 20) rfl (fun hg20 => ?_) (fun hg20 => ?_) | refine AtT.bcase (d := 20) rfl (fun hg20 => ?_) (fun hg20 => ?_))
    all_goals (first | refine AtT.kpass ?_ | refine AtT.kpassU ?_ | ((refine AtT.kmove ?_)))
    all_goals (first | refine AtT.kpass ?_ | refine AtT.kpassU ?_ | ((first | refine AtT.klenS Try.underlying26 ?_ | refine AtT.klenR Try.underlying26 ?_)))
    all_goals (first | refine AtT.kpass ?_ | refine AtT.kpassU ?_ | ((refine AtT.keqI ?_)))
    all_goals (refine AtT.kpick ?_)
    all_goals (refine AtT.kmove ?_)
    all_goals (first | refine AtT.kL 25 ?_ | refine AtT.pcase (d := 25) rfl (fun hg25 => ?_) (fun hg25 => ?_) | refine AtT.bcase (d := 25) rfl (fun hg25 => ?_) (fun hg25 => ?_))
    all_goals (first | refine AtT.kpass ?_ | refine AtT.kpassU ?_ | ((refine AtT.kmove ?_)))
    all_goals (first | refine AtT.kpass ?_ | refine AtT.kpassU ?_ | ((first | refine AtT.klenS Try.underlying46 ?_ | refine AtT.klenR Try.underlying46 ?_)))
    all_goals (first | refine AtT.kpass ?_ | refine AtT.kpassU ?_ | ((refine AtT.kgtr ?_)))
    all_goals (refine AtT.kpick ?_)
    all_goals refine AtT.done ?_
    all_goals (refine At.nrm ?_)
    refine At.condT rfl rfl ?_
    refine At.nrm ?_
    refine At.ktext (.n false 0 (.q 1 .done)) ?_
    refine AtT.kcallP rfl rfl ok18 (works_f _) ?_
    rintro _ rfl
    refine AtT.kassign ?_
    refine AtT.done ?_
    refine At.nrm ?_
    exact At.ret1 rfl (.tmp rfl) rfl
  by_cases g1 : (ps.length : Int) = 0
  · refine At.ktext (.q 0 (.q 1 (.n false 2 (.q 3 (.q 4 (.q 5 (.q 6 (.q 7 (.q 8 (.q 9 (.q 10 (.q 11 (.q 12 (.q 13 .done)))))))))))))) ?_
    first | refine AtT.kloadOA tk25 ?_ | refine AtT.kloadA tk25 ?_ | refine AtT.kloadOP tk25 ?_
    refine AtT.kmove ?_
    refine AtT.kcallP rfl rfl ok46 (fine_f d ps true _ _ hs) ?_
    rintro _ rfl
    refine AtT.setT (d := 18) rfl (g0) ?_
    refine AtT.knot ?_
    refine AtT.setB (d := 19) rfl ((show (!true) = false from rfl)) ?_
    refine AtT.kmove ?_
    all_goals (first | refine AtT.kL 20 ?_ | refine AtT.pcase (d := 20) rfl (fun hg20 => ?_) (fun hg20 => ?_) | refine AtT.bcase (d := 20) rfl (fun hg20 => ?_) (fun hg20 => ?_))
    all_goals (first | refine AtT.kpass ?_ | refine AtT.kpassU ?_ | ((refine AtT.kmove ?_)))
    all_goals (first | refine AtT.kpass ?_ | refine AtT.kpassU ?_ | ((first | refine AtT.klenS Try.underlying26 ?_ | refine AtT.klenR Try.underlying26 ?_)))
    all_goals (first | refine AtT.kpass ?_ | refine AtT.kpassU ?_ | ((refine AtT.keqI ?_)))
    all_goals (refine AtT.setT (d := 23) rfl (g1) ?_)
    all_goals (refine AtT.kpick ?_)
    all_goals (refine AtT.kmove ?_)
    all_goals (first | refine AtT.kL 25 ?_ | refine AtT.pcase (d := 25) rfl (fun hg25 => ?_) (fun hg25 => ?_) | refine AtT.bcase (d := 25) rfl (fun hg25 => ?_) (fun hg25 => ?_))
    all_goals (first | refine AtT.kpass ?_ | refine AtT.kpassU ?_ | ((refine AtT.kmove ?_)))
    all_goals (first | refine AtT.kpass ?_ | refine AtT.kpassU ?_ | ((first | refine AtT.klenS Try.underlying46 ?_ | refine AtT.klenR Try.underlying46 ?_)))
    all_goals (first | refine AtT.kpass ?_ | refine AtT.kpassU ?_ | ((refine AtT.kgtr ?_)))
    all_goals (refine AtT.kpick ?_)
    all_goals refine AtT.done ?_
    all_goals (refine At.nrm ?_)
    refine At.condT rfl rfl ?_
    refine At.nrm ?_
    refine At.ktext (.n false 0 (.q 1 .done)) ?_
    refine AtT.kcallP rfl rfl ok18 (works_f _) ?_
    rintro _ rfl
    refine AtT.kassign ?_
    refine AtT.done ?_
    refine At.nrm ?_
    exact At.ret1 rfl (.tmp rfl) rfl
  by_cases g2 : 20 < (by'.length : Int)
  · refine At.ktext (.q 0 (.q 1 (.n false 2 (.q 3 (.q 4 (.q 5 (.q 6 (.q 7 (.q 8 (.q 9 (.q 10 (.q 11 (.q 12 (.q 13 .done)))))))))))))) ?_
    first | refine AtT.kloadOA tk25 ?_ | refine AtT.kloadA tk25 ?_ | refine AtT.kloadOP tk25 ?_
    refine AtT.kmove ?_
    refine AtT.kcallP rfl rfl ok46 (fine_f d ps true _ _ hs) ?_
    rintro _ rfl
    refine AtT.setT (d := 18) rfl (g0) ?_
    refine AtT.knot ?_
    refine AtT.setB (d := 19) rfl ((show (!true) = false from rfl)) ?_
    refine AtT.kmove ?_
    all_goals (first | refine AtT.kL 20 ?_ | refine AtT.pcase (d := 20) rfl (fun hg20 => ?_) (fun hg20 => ?_) | refine AtT.bcase (d := 20) rfl (fun hg20 => ?_) (fun hg20 => ?_))
    all_goals (first | refine AtT.kpass ?_ | refine AtT.kpassU ?_ | ((refine AtT.kmove ?_)))
    all_goals (first | refine AtT.kpass ?_ | refine AtT.kpassU ?_ | ((first | refine AtT.klenS Try.underlying26 ?_ | refine AtT.klenR Try.underlying26 ?_)))
    all_goals (first | refine AtT.kpass ?_ | refine AtT.kpassU ?_ | ((refine AtT.keqI ?_)))
    all_goals (refine AtT.setF (d := 23) rfl (g1) ?_)
    all_goals (refine AtT.kpick ?_)
    all_goals (refine AtT.kmove ?_)
    all_goals (first | refine AtT.kL 25 ?_ | refine AtT.pcase (d := 25) rfl (fun hg25 => ?_) (fun hg25 => ?_) | refine AtT.bcase (d := 25) rfl (fun hg25 => ?_) (fun hg25 => ?_))
    all_goals (first | refine AtT.kpass ?_ | refine AtT.kpassU ?_ | ((refine AtT.kmove ?_)))
    all_goals (first | refine AtT.kpass ?_ | refine AtT.kpassU ?_ | ((first | refine AtT.klenS Try.underlying46 ?_ | refine AtT.klenR Try.underlying46 ?_)))
    all_goals (first | refine AtT.kpass ?_ | refine AtT.kpassU ?_ | ((refine AtT.kgtr ?_)))
    all_goals (refine AtT.setT (d := 28) rfl (g2) ?_)
    all_goals (refine AtT.kpick ?_)
    all_goals refine AtT.done ?_
    all_goals (refine At.nrm ?_)
    refine At.condT rfl rfl ?_
    refine At.nrm ?_
    refine At.ktext (.n false 0 (.q 1 .done)) ?_
    refine AtT.kcallP rfl rfl ok18 (works_f _) ?_
    rintro _ rfl
    refine AtT.kassign ?_
    refine AtT.done ?_
    refine At.nrm ?_
    exact At.ret1 rfl (.tmp rfl) rfl
  refine At.ktext (.q 0 (.q 1 (.n false 2 (.q 3 (.q 4 (.q 5 (.q 6 (.q 7 (.q 8 (.q 9 (.q 10 (.q 11 (.q 12 (.q 13 .done)))))))))))))) ?_
  first | refine AtT.kloadOA tk25 ?_ | refine AtT.kloadA tk25 ?_ | refine AtT.kloadOP tk25 ?_
  refine AtT.kmove ?_
  refine AtT.kcallP rfl rfl ok46 (fine_f d ps true _ _ hs) ?_
  rintro _ rfl
  refine AtT.setT (d := 18) rfl (g0) ?_
  refine AtT.knot ?_
  refine AtT.setB (d := 19) rfl ((show (!true) = false from rfl)) ?_
  refine AtT.kmove ?_
  all_goals (first | refine AtT.kL 20 ?_ | refine AtT.pcase (d := 20) rfl (fun hg20 => ?_) (fun hg20 => ?_) | refine AtT.bcase (d := 20) rfl (fun hg20 => ?_) (fun hg20 => ?_))
  all_goals (first | refine AtT.kpass ?_ | refine AtT.kpassU ?_ | ((refine AtT.kmove ?_)))
  all_goals (first | refine AtT.kpass ?_ | refine AtT.kpassU ?_ | ((first | refine AtT.klenS Try.underlying26 ?_ | refine AtT.klenR Try.underlying26 ?_)))
  all_goals (first | refine AtT.kpass ?_ | refine AtT.kpassU ?_ | ((refine AtT.keqI ?_)))
  all_goals (refine AtT.setF (d := 23) rfl (g1) ?_)
  all_goals (refine AtT.kpick ?_)
  all_goals (refine AtT.kmove ?_)
  all_goals (first | refine AtT.kL 25 ?_ | refine AtT.pcase (d := 25) rfl (fun hg25 => ?_) (fun hg25 => ?_) | refine AtT.bcase (d := 25) rfl (fun hg25 => ?_) (fun hg25 => ?_))
  all_goals (first | refine AtT.kpass ?_ | refine AtT.kpassU ?_ | ((refine AtT.kmove ?_)))
  all_goals (first | refine AtT.kpass ?_ | refine AtT.kpassU ?_ | ((first | refine AtT.klenS Try.underlying46 ?_ | refine AtT.klenR Try.underlying46 ?_)))
  all_goals (first | refine AtT.kpass ?_ | refine AtT.kpassU ?_ | ((refine AtT.kgtr ?_)))
  all_goals (refine AtT.setF (d := 28) rfl (g2) ?_)
  all_goals (refine AtT.kpick ?_)
  all_goals refine AtT.done ?_
  all_goals (refine At.nrm ?_)
  refine At.condF rfl rfl ?_
  obtain ⟨h16, he⟩ := g0
  obtain ⟨hb0, hf⟩ := rowE_ok he
  have hk := bothE_ok hb0
  have hB := bn_ok hk true
  have hn10 := hk.n10
  have l0 := hk.l0
  have l1 := hk.l1
  have l2 := hk.l2
  have l3 := hk.p0
  have l4 := hk.p1
  refine At.nrm ?_
  refine At.ktext (.q 0 (.q 1 (.q 2 (.n false 3 (.q 4 .done))))) ?_
  first | refine AtT.kloadOA tk25 ?_ | refine AtT.kloadA tk25 ?_ | refine AtT.kloadOP tk25 ?_
  refine AtT.kmove ?_
  refine AtT.kmove ?_
  refine AtT.kcall rfl rfl ok48 (given_f d ps true by' false he _ _ _ hs hy (by omega)) ?_
  rintro vg V1 hV1 ⟨lg, hlg, q2, q3, q4⟩
  refine AtT.kassign ?_
  refine AtT.done ?_
  refine At.nrm ?_
  have hs1 := hs.le hV1
  have hpl := good_plR hb0 q2 q3 q4
  have hsp := spR_is hpl
  obtain ⟨w1, w2, w3⟩ := mx_pos hB (by omega) (by omega) (plan_in q3)
  obtain ⟨w4, w5⟩ := mx_le hB q4 (batN lg).toNat
  have w6 : (bn d ps true).w = d.lo := rfl
  have w7 : (bn d ps true).p = d.pot := rfl
  have f1 := spare_ok (a := (mxS (bn d ps true) lg (batN lg).toNat).t) (b := d.pot) hk q2 q3 (by omega) (by omega) (Int.le_refl _) (by omega)
  have f2 := spare_ok (a := d.lo) (b := (mxS (bn d ps true) lg (batN lg).toNat).g) hk q2 q3 (by omega) (by omega) (by omega) (Int.le_refl _)
  have f3 := fun (h : 1 ≤ (mxS (bn d ps true) lg (batN lg).toNat).t - 1) => spare_glue hk q2 q3 q4 (by omega) h rfl
  have f4 := fun (h : 1 ≤ (mxS (bn d ps true) lg (batN lg).toNat).g - 1) => spare_full hk q2 q3 q4 (by omega) h rfl
  obtain ⟨T, hT⟩ : ∃ T, T = (mxS (bn d ps true) lg (batN lg).toNat).t := ⟨_, rfl⟩
  obtain ⟨G, hG⟩ : ∃ G, G = (mxS (bn d ps true) lg (batN lg).toNat).g := ⟨_, rfl⟩
  rw [← hT] at hsp w2 w4 f1 f3
  rw [← hG] at hsp w3 w5 f2 f4
  have c40 : Fnc Try.prog 40 [dyv d, .slice a ps.length c, .bool true, vg] V1 fun r _ => r = .tuple #[iv (d.lo - T), iv (d.pot - G), iv 0] := by
    have := spares_f d ps true lg _ _ _ hs1 hlg
    rw [hsp] at this
    exact this
  refine At.ktext (.q 0 (.q 1 (.q 2 (.n false 3 (.q 4 (.q 5 (.q 6 (.q 7 (.q 8 (.q 9 (.q 10 .done))))))))))) ?_
  first | refine AtT.kloadOA tk25 ?_ | refine AtT.kloadA tk25 ?_ | refine AtT.kloadOP tk25 ?_
  refine AtT.kmove ?_
  refine AtT.kmove ?_
  refine AtT.kcallP rfl rfl ok40 (c40) ?_
  rintro _ rfl
  refine AtT.kmove ?_
  refine AtT.kextract ?_
  refine AtT.kextract ?_
  refine AtT.kextract ?_
  refine AtT.kassign ?_
  refine AtT.kassign ?_
  refine AtT.kassign ?_
  refine AtT.done ?_
  refine At.nrm ?_
  refine At.ktext (.q 0 (.q 1 (.q 2 (.q 3 (.q 4 (.q 5 (.q 6 (.q 7 (.q 8 (.q 9 (.q 10 (.q 11 (.q 12 (.q 13 (.q 14 (.q 15 (.q 16 (.q 17 (.q 18 (.q 19 (.q 20 (.q 21 (.q 22 .done))))))))))))))))))))))) ?_
  refine AtT.kmove ?_
  refine AtT.kneI ?_
  refine AtT.setF (d := 44) rfl ((by (try dsimp only); omega)) ?_
  refine AtT.kmove ?_
  all_goals (first | refine AtT.kL 45 ?_ | refine AtT.pcase (d := 45) rfl (fun hg45 => ?_) (fun hg45 => ?_) | refine AtT.bcase (d := 45) rfl (fun hg45 => ?_) (fun hg45 => ?_))
  all_goals (first | refine AtT.kpass ?_ | refine AtT.kpassU ?_ | ((refine AtT.kmove ?_)))
  all_goals (first | refine AtT.kpass ?_ | refine AtT.kpassU ?_ | ((refine AtT.klss ?_)))
  all_goals (refine AtT.setF (d := 47) rfl ((by (try dsimp only); omega)) ?_)
  all_goals (refine AtT.kpick ?_)
  all_goals (refine AtT.kmove ?_)
  all_goals (first | refine AtT.kL 49 ?_ | refine AtT.pcase (d := 49) rfl (fun hg49 => ?_) (fun hg49 => ?_) | refine AtT.bcase (d := 49) rfl (fun hg49 => ?_) (fun hg49 => ?_))
  all_goals (first | refine AtT.kpass ?_ | refine AtT.kpassU ?_ | ((refine AtT.kmove ?_)))
  all_goals (first | refine AtT.kpass ?_ | refine AtT.kpassU ?_ | ((first | refine AtT.kfieldO fo25_0 ?_ | with_reducible refine AtT.kfield2 fo25_0 ?_ | refine AtT.kfield fo25_0 ?_)))
  all_goals (first | refine AtT.kpass ?_ | refine AtT.kpassU ?_ | ((first | refine AtT.kfieldO fo23_0 ?_ | with_reducible refine AtT.kfield2 fo23_0 ?_ | refine AtT.kfield fo23_0 ?_)))
  all_goals (first | refine AtT.kpass ?_ | refine AtT.kpassU ?_ | ((first | refine AtT.kloadO tk2 ?_ | refine AtT.kload tk2 ?_)))
  all_goals (first | refine AtT.kpass ?_ | refine AtT.kpassU ?_ | ((refine AtT.kgeq ?_)))
  all_goals (refine AtT.setF (d := 54) rfl ((by (try dsimp only); omega)) ?_)
  all_goals (refine AtT.kpick ?_)
  all_goals (refine AtT.kmove ?_)
  all_goals (first | refine AtT.kL 56 ?_ | refine AtT.pcase (d := 56) rfl (fun hg56 => ?_) (fun hg56 => ?_) | refine AtT.bcase (d := 56) rfl (fun hg56 => ?_) (fun hg56 => ?_))
  all_goals (first | refine AtT.kpass ?_ | refine AtT.kpassU ?_ | ((refine AtT.kmove ?_)))
  all_goals (first | refine AtT.kpass ?_ | refine AtT.kpassU ?_ | ((refine AtT.klss ?_)))
  all_goals (refine AtT.setF (d := 58) rfl ((by (try dsimp only); omega)) ?_)
  all_goals (refine AtT.kpick ?_)
  all_goals (refine AtT.kmove ?_)
  all_goals (first | refine AtT.kL 60 ?_ | refine AtT.pcase (d := 60) rfl (fun hg60 => ?_) (fun hg60 => ?_) | refine AtT.bcase (d := 60) rfl (fun hg60 => ?_) (fun hg60 => ?_))
  all_goals (first | refine AtT.kpass ?_ | refine AtT.kpassU ?_ | ((refine AtT.kmove ?_)))
  all_goals (first | refine AtT.kpass ?_ | refine AtT.kpassU ?_ | ((first | refine AtT.kfieldO fo25_1 ?_ | with_reducible refine AtT.kfield2 fo25_1 ?_ | refine AtT.kfield fo25_1 ?_)))
  all_goals (first | refine AtT.kpass ?_ | refine AtT.kpassU ?_ | ((first | refine AtT.kloadO tk2 ?_ | refine AtT.kload tk2 ?_)))
  all_goals (first | refine AtT.kpass ?_ | refine AtT.kpassU ?_ | ((refine AtT.kgeq ?_)))
  all_goals (refine AtT.setF (d := 64) rfl ((by (try dsimp only); omega)) ?_)
  all_goals (refine AtT.kpick ?_)
  all_goals refine AtT.done ?_
  all_goals (refine At.nrm ?_)
  refine At.condF rfl rfl ?_
  refine At.nrm ?_
  have eT : d.lo - (d.lo - T) = T := by omega
  have eG : d.pot - (d.pot - G) = G := by omega
  refine At.ktext (.q 0 (.q 1 (.q 2 (.q 3 (.q 4 (.q 5 .done)))))) ?_
  first | refine AtT.kfieldO fo25_0 ?_ | with_reducible refine AtT.kfield2 fo25_0 ?_ | refine AtT.kfield fo25_0 ?_
  first | refine AtT.kfieldO fo23_0 ?_ | with_reducible refine AtT.kfield2 fo23_0 ?_ | refine AtT.kfield fo23_0 ?_
  first | refine AtT.kloadO tk2 ?_ | refine AtT.kload tk2 ?_
  refine AtT.kmove ?_
  first | refine AtT.ksubt ?_ | refine AtT.ksubW ?_
  rw [eT]
  refine AtT.kassign ?_
  refine AtT.done ?_
  refine At.nrm ?_
  refine At.ktext (.q 0 (.q 1 (.q 2 (.q 3 (.q 4 (.q 5 (.n false 6 (.q 7 (.q 8 (.n false 9 (.q 10 (.q 11 (.q 12 (.q 13 (.q 14 .done))))))))))))))) ?_
  refine AtT.kmove ?_
  first | refine AtT.kfieldO fo25_0 ?_ | with_reducible refine AtT.kfield2 fo25_0 ?_ | refine AtT.kfield fo25_0 ?_
  first | refine AtT.kfieldO fo23_1 ?_ | with_reducible refine AtT.kfield2 fo23_1 ?_ | refine AtT.kfield fo23_1 ?_
  first | refine AtT.kloadO tk2 ?_ | refine AtT.kload tk2 ?_
  first | refine AtT.kfieldO fo25_1 ?_ | with_reducible refine AtT.kfield2 fo25_1 ?_ | refine AtT.kfield fo25_1 ?_
  first | refine AtT.kloadO tk2 ?_ | refine AtT.kload tk2 ?_
  refine AtT.kcallP rfl rfl ok53 (day53_f _ _ _ _) ?_
  rintro _ rfl
  refine AtT.kmove ?_
  refine AtT.kmove ?_
  refine AtT.kcallP rfl rfl ok34 (checkPlan_f ⟨T, d.hi, d.pot⟩ ps true lg _ _ _ hs1 hlg) ?_
  rintro _ rfl; rw [f1]
  refine AtT.kmove ?_
  refine AtT.kextract ?_
  refine AtT.kextract ?_
  refine AtT.kassign ?_
  refine AtT.kassign ?_
  refine AtT.done ?_
  refine At.nrm ?_
  refine At.ktext (.q 0 (.q 1 (.q 2 (.q 3 (.q 4 (.q 5 (.q 6 (.q 7 (.q 8 (.q 9 (.n false 10 (.q 11 (.q 12 (.n false 13 (.q 14 (.q 15 (.q 16 (.q 17 (.q 18 .done))))))))))))))))))) ?_
  first | refine AtT.kfieldO fo25_0 ?_ | with_reducible refine AtT.kfield2 fo25_0 ?_ | refine AtT.kfield fo25_0 ?_
  first | refine AtT.kfieldO fo23_0 ?_ | with_reducible refine AtT.kfield2 fo23_0 ?_ | refine AtT.kfield fo23_0 ?_
  first | refine AtT.kloadO tk2 ?_ | refine AtT.kload tk2 ?_
  first | refine AtT.kfieldO fo25_0 ?_ | with_reducible refine AtT.kfield2 fo25_0 ?_ | refine AtT.kfield fo25_0 ?_
  first | refine AtT.kfieldO fo23_1 ?_ | with_reducible refine AtT.kfield2 fo23_1 ?_ | refine AtT.kfield fo23_1 ?_
  first | refine AtT.kloadO tk2 ?_ | refine AtT.kload tk2 ?_
  first | refine AtT.kfieldO fo25_1 ?_ | with_reducible refine AtT.kfield2 fo25_1 ?_ | refine AtT.kfield fo25_1 ?_
  first | refine AtT.kloadO tk2 ?_ | refine AtT.kload tk2 ?_
  refine AtT.kmove ?_
  first | refine AtT.ksubt ?_ | refine AtT.ksubW ?_
  rw [eG]
  refine AtT.kcallP rfl rfl ok53 (day53_f _ _ _ _) ?_
  rintro _ rfl
  refine AtT.kmove ?_
  refine AtT.kmove ?_
  refine AtT.kcallP rfl rfl ok34 (checkPlan_f ⟨d.lo, d.hi, G⟩ ps true lg _ _ _ hs1 hlg) ?_
  rintro _ rfl; rw [f2]
  refine AtT.kmove ?_
  refine AtT.kextract ?_
  refine AtT.kextract ?_
  refine AtT.kassign ?_
  refine AtT.kassign ?_
  refine AtT.done ?_
  refine At.nrm ?_
  refine At.ktext (.q 0 (.q 1 (.q 2 (.q 3 (.q 4 (.q 5 .done)))))) ?_
  refine AtT.kmove ?_
  refine AtT.kneI ?_
  refine AtT.setF (d := 102) rfl ((by (try dsimp only); omega)) ?_
  refine AtT.kmove ?_
  all_goals (first | refine AtT.kL 103 ?_ | refine AtT.pcase (d := 103) rfl (fun hg103 => ?_) (fun hg103 => ?_) | refine AtT.bcase (d := 103) rfl (fun hg103 => ?_) (fun hg103 => ?_))
  all_goals (first | refine AtT.kpass ?_ | refine AtT.kpassU ?_ | ((refine AtT.kmove ?_)))
  all_goals (first | refine AtT.kpass ?_ | refine AtT.kpassU ?_ | ((refine AtT.kneI ?_)))
  all_goals (refine AtT.setF (d := 105) rfl ((by (try dsimp only); omega)) ?_)
  all_goals (refine AtT.kpick ?_)
  all_goals refine AtT.done ?_
  all_goals (refine At.nrm ?_)
  refine At.condF rfl rfl ?_
  refine At.nrm ?_
  refine At.ktext (.q 0 (.q 1 .done)) ?_
  refine AtT.kmove ?_
  refine AtT.kgtr ?_
  refine AtT.done ?_
  refine At.nrm ?_
  refine At.cutG (ι := Unit) (fun _ => [(1, .slice a ps.length c), (3, .pointer (some ⟨b3, 0, none⟩)), (7, vg), (9, iv (d.pot - G))])
    (fun _ => [.blk b3 (LC (dye d) 25)]) (fun _ V'' => Le V1 V'') ?_ ?_
  · refine At.condP rfl (fun hc => ?_) (fun hc => ?_)
    · have f3' := f3 (by omega)
      refine At.nrm ?_
      refine At.ktext (.q 0 (.q 1 (.q 2 (.q 3 (.q 4 (.q 5 (.q 6 (.n false 7 (.q 8 (.q 9 (.n false 10 (.q 11 (.q 12 (.q 13 (.q 14 .done))))))))))))))) ?_
      refine AtT.kmove ?_
      first | refine AtT.ksubt ?_ | refine AtT.ksubW ?_
      first | refine AtT.kfieldO fo25_0 ?_ | with_reducible refine AtT.kfield2 fo25_0 ?_ | refine AtT.kfield fo25_0 ?_
      first | refine AtT.kfieldO fo23_1 ?_ | with_reducible refine AtT.kfield2 fo23_1 ?_ | refine AtT.kfield fo23_1 ?_
      first | refine AtT.kloadO tk2 ?_ | refine AtT.kload tk2 ?_
      first | refine AtT.kfieldO fo25_1 ?_ | with_reducible refine AtT.kfield2 fo25_1 ?_ | refine AtT.kfield fo25_1 ?_
      first | refine AtT.kloadO tk2 ?_ | refine AtT.kload tk2 ?_
      refine AtT.kcallP rfl rfl ok53 (day53_f _ _ _ _) ?_
      rintro _ rfl
      refine AtT.kmove ?_
      refine AtT.kmove ?_
      refine AtT.kcallP rfl rfl ok34 (checkPlan_f ⟨T - 1, d.hi, d.pot⟩ ps true lg _ _ _ hs1 hlg) ?_
      rintro _ rfl; rw [f3']
      refine AtT.kmove ?_
      refine AtT.kextract ?_
      refine AtT.kextract ?_
      refine AtT.kassign ?_
      refine AtT.done ?_
      refine At.nrm ?_
      refine At.ktext (.q 0 (.q 1 .done)) ?_
      refine AtT.kmove ?_
      refine AtT.kneI ?_
      refine AtT.done ?_
      refine At.nrm ?_
      refine At.condF rfl (decide_eq_false (by simp)) ?_
      refine At.nrm ?_
      exact At.meetG () (Le.refl _) ⟨rfl, rfl, rfl, rfl, trivial⟩ Pt.auto
    · refine At.nrm ?_
      exact At.meetG () (Le.refl _) ⟨rfl, rfl, rfl, rfl, trivial⟩ Pt.auto
  rintro _ V2 ks' O' hV2 hk2 hO hl5
  subst hk2 hO
  have hs2 := hs1.le hV2
  have hlg2 := hlg.le hV2
  refine At.nrm ?_
  refine At.ktext (.q 0 (.q 1 (.q 2 (.q 3 (.q 4 .done))))) ?_
  first | refine AtT.kfieldO fo25_1 ?_ | with_reducible refine AtT.kfield2 fo25_1 ?_ | refine AtT.kfield fo25_1 ?_
  first | refine AtT.kloadO tk2 ?_ | refine AtT.kload tk2 ?_
  refine AtT.kmove ?_
  first | refine AtT.ksubt ?_ | refine AtT.ksubW ?_
  rw [eG]
  refine AtT.kgtr ?_
  refine AtT.done ?_
  refine At.nrm ?_
  refine At.cutG (ι := Unit) (fun _ => []) (fun _ => []) (fun _ V'' => True) ?_ ?_
  · refine At.condP rfl (fun hc => ?_) (fun hc => ?_)
    · have f4' := f4 (by omega)
      refine At.nrm ?_
      refine At.ktext (.q 0 (.q 1 (.q 2 (.q 3 (.q 4 (.q 5 (.q 6 (.q 7 (.q 8 (.q 9 (.q 10 (.n false 11 (.q 12 (.q 13 (.n false 14 (.q 15 (.q 16 (.q 17 (.q 18 .done))))))))))))))))))) ?_
      first | refine AtT.kfieldO fo25_0 ?_ | with_reducible refine AtT.kfield2 fo25_0 ?_ | refine AtT.kfield fo25_0 ?_
      first | refine AtT.kfieldO fo23_0 ?_ | with_reducible refine AtT.kfield2 fo23_0 ?_ | refine AtT.kfield fo23_0 ?_
      first | refine AtT.kloadO tk2 ?_ | refine AtT.kload tk2 ?_
      first | refine AtT.kfieldO fo25_0 ?_ | with_reducible refine AtT.kfield2 fo25_0 ?_ | refine AtT.kfield fo25_0 ?_
      first | refine AtT.kfieldO fo23_1 ?_ | with_reducible refine AtT.kfield2 fo23_1 ?_ | refine AtT.kfield fo23_1 ?_
      first | refine AtT.kloadO tk2 ?_ | refine AtT.kload tk2 ?_
      first | refine AtT.kfieldO fo25_1 ?_ | with_reducible refine AtT.kfield2 fo25_1 ?_ | refine AtT.kfield fo25_1 ?_
      first | refine AtT.kloadO tk2 ?_ | refine AtT.kload tk2 ?_
      refine AtT.kmove ?_
      first | refine AtT.ksubt ?_ | refine AtT.ksubW ?_
      rw [eG]
      first | refine AtT.ksubt ?_ | refine AtT.ksubW ?_
      refine AtT.kcallP rfl rfl ok53 (day53_f _ _ _ _) ?_
      rintro _ rfl
      refine AtT.kmove ?_
      refine AtT.kmove ?_
      refine AtT.kcallP rfl rfl ok34 (checkPlan_f ⟨d.lo, d.hi, G - 1⟩ ps true lg _ _ _ hs2 hlg2) ?_
      rintro _ rfl; rw [f4']
      refine AtT.kmove ?_
      refine AtT.kextract ?_
      refine AtT.kextract ?_
      refine AtT.kassign ?_
      refine AtT.done ?_
      refine At.nrm ?_
      refine At.ktext (.q 0 (.q 1 .done)) ?_
      refine AtT.kmove ?_
      refine AtT.kneI ?_
      refine AtT.done ?_
      refine At.nrm ?_
      refine At.condF rfl (decide_eq_false (by simp)) ?_
      refine At.nrm ?_
      exact At.meetG () True.intro trivial Pt.auto
    · refine At.nrm ?_
      exact At.meetG () True.intro trivial Pt.auto
  rintro _ V3 ks' O' hV3 hk2 hO hl6
  subst hk2 hO
  refine At.nrm ?_
  refine At.ktext (.n false 0 (.q 1 .done)) ?_
  refine AtT.kcallP rfl rfl ok18 (works_f _) ?_
  rintro _ rfl
  refine AtT.kassign ?_
  refine AtT.done ?_
  refine At.nrm ?_
  exact At.ret1 rfl (.tmp rfl) rfl
end Go.Proofs.Ytmnbkceiaifncaa
set_option linter.unusedVariables false
namespace Go.Proofs.Ytmnbkceiaifncaa.c12
open Go.Lw Go.Gl Go.RowKit Go.ChangeShapes Go.WideShapes Go.ChangeAt

set_option maxRecDepth 100000 in
theorem lifted (os : Os) (started : os.Started) (H : Type) (enc : TypeId × Value → H) :
    ReturnsInHanded {} Try.checked os 14 .any (Rows.glueSparedSpec.pre6 enc Try.prog Try.f14 Rows.glueSparedRow.domain false) (Rows.glueSparedSpec.post enc Try.prog Try.f14 false true false false) := by
  refine law_lift (tb := 4) (fun ds hd => by match ds, hd with | [d0, d1, d2], _ => rfl) rfl (by kernel_rfl) Try.underlying4 laidOut (by kernel_rfl) own started (by kernel_rfl) Try.func14
    (ChangeSpec.witness6 (enc := enc) (C := Try.checked) false ⟨#[], #[.agg #[.int .i64 0, .int .i64 0, .int .i64 0], .slice none 0 0, .slice none 0 0], []⟩ 8 (by kernel_rfl) (by kernel_rfl) (by kernel_rfl) (by kernel_rfl)) ?_
  intro W base args ds ps hval hA
  rw [Try.params14] at hA hval
  obtain ⟨v0, vs0, d0, ds0, p0, q0, hargs, rfl, rfl, h0, r0⟩ := trodAll_cons hA
  obtain ⟨v1, vs1, d1, ds1, p1, q1, rfl, rfl, rfl, h1, r1⟩ := trodAll_cons r0
  obtain ⟨v2, vs2, d2, ds2, p2, q2, rfl, rfl, rfl, h2, r2⟩ := trodAll_cons r1
  obtain ⟨rfl, rfl, rfl⟩ := trodAll_nil r2
  obtain rfl : args = #[v0, v1, v2] := by cases args; simp_all
  obtain ⟨x0, rfl⟩ := open_day (hval 0 25 v0 rfl rfl) h0
  obtain ⟨l1, a1, c1, rfl, s1⟩ := rd_panels (hval 1 26 v1 rfl rfl) h1
  obtain ⟨l2, a2, c2, rfl, s2⟩ := rd_u8s (hval 2 46 v2 rfl rfl) h2
  exact ⟨[dyv x0, .slice a1 l1.length c1, .slice a2 l2.length c2], rfl, glueSpared_f x0 l1 l2 _ _ _ s1 s2⟩

theorem over : Rows.glueSparedRow.holds Try.pinned (OpenSpec.ofChange Rows.glueSparedSpec) :=
  OpenClaim.holds_of_wide 14 Try.f14 rfl rfl rfl rfl rfl rfl rfl ⟨rfl, rfl, rfl, rfl, rfl⟩ rfl rfl rfl rfl rfl (by kernel_rfl) Try.func14 (by kernel_rfl)
    (of_decide_eq_true (by kernel_rfl)) (by unfold Func.isWrapper; first | (rw [if_pos (by decide +kernel)]; kernel_rfl) | (rw [if_neg (by decide +kernel)]; exact ⟨rfl, rfl⟩))
    (fun os started H enc _ => lifted os started H enc)

theorem proved : Rows.GlueSparedSaid := over
#print axioms proved
end Go.Proofs.Ytmnbkceiaifncaa.c12
