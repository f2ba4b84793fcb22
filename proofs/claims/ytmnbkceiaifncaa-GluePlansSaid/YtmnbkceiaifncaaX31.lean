/- How many batches a plan has, the best plan, how many batches sums ask for, and what a plan spares, are what the definitions say, or the error: for every day, all panels, surely or not, and every plan. No condition. -/
import Derived.Test.YtmnbkceiaifncaaB5
set_option linter.unusedVariables false
set_option linter.unusedSimpArgs false
set_option linter.unusedSectionVars false
set_option linter.unusedVariables false
namespace Go.Gl
theorem wB1 : batR dW pW true [1, 2] = (30, 7, 0) := by decide +kernel
theorem wB2 : batR dW pW true [0, 2] = (0, 0, 22) := by decide +kernel
theorem wB3 : batR dW pW false [0, 1, 2, 3] = (0, 0, 10) := by decide +kernel
theorem wB4 : batR dW pW false [2, 1] = (0, 0, 2) := by decide +kernel
theorem wE1 : rowE dW pW true = 0 := by decide +kernel
theorem wE2 : rowE dW pW false = 0 := by decide +kernel
theorem wR1 : rwL dW pW true = [0, 0, 1, 1, 2] := by decide +kernel
theorem wR2 : rwL dW pW false = [0, 0, 0, 1, 1] := by decide +kernel
theorem wC1 : plR dW pW true [0, 1, 1, 1, 2] true = (0, 22) := by decide +kernel
theorem wC2 : plR dW pW true [0, 0, 2, 2, 2] true = (0, 16) := by decide +kernel
theorem wC3 : plR dW pW true [0, 0, 1] true = (0, 15) := by decide +kernel
theorem wM1 : mkR dW pW true [0, 2, 4] = (3, 0) := by decide +kernel
theorem wM2 : mkR dW pW true [0, 1, 2] = (0, 14) := by decide +kernel
theorem wM3 : mkR dW pW true (mkkL dW pW true) = (3, 0) := by decide +kernel
theorem wP1 : pnL dW pW true = [0, 1, 1, 0, 0] := by decide +kernel
theorem wP2 : plR dW pW true [0, 1, 1, 0, 0] false = (2, 0) := by decide +kernel
theorem wP3 : plR dW pW true [0, 2, 1, 0, 0] false = (0, 16) := by decide +kernel
theorem wD1 : bdR dW pW true = (2, 0) := by decide +kernel
theorem wO0 : bothE dW pW = 0 := by decide +kernel
theorem wA1 : apG (bn dW pW true) pW.length [] [] = [0, 2] := by decide +kernel
theorem wA2 : apR dW pW true [2, 4] = 0 := by decide +kernel
theorem wA3 : apR dW pW true [1, 2] = 16 := by decide +kernel
theorem wS1 : spR dW pW true [0, 0, 1, 1, 2] = (4, 4, 0) := by decide +kernel
end Go.Gl
namespace Go.Proofs.Ytmnbkceiaifncaa
open Go.Lw Go.Gl Go.RowKit
set_option maxRecDepth 20000 in
theorem works_f (V : View) : Fnc Try.prog 18 [] V fun r _ => r = .bool true := by
  refine fn_of Try.func18 rfl Try.ntmps18 (Nat.le_of_ble_eq_true rfl) ?_
  intro w0 hw0
  refine At.nrm ?_
  refine At.ktext (.q 0 .done) ?_
  refine AtT.kassign ?_
  refine AtT.done ?_
  refine At.nrm ?_
  refine At.ktext (.n false 0 (.n false 1 (.n false 2 (.n true 3 (.q 4 .done))))) ?_
  refine AtT.kcallP rfl rfl ok54 (warm_f _) ?_
  rintro _ rfl
  refine AtT.kcall rfl rfl ok55 (five_f _) ?_
  rintro _ V1 hV1 ⟨a2, c2, rfl, hs⟩
  refine AtT.kalloc z25 ?_
  intro b1
  refine AtT.kstoreA tk25 ?_
  refine AtT.kassign ?_
  refine AtT.done ?_
  refine At.nrm ?_
  refine At.draw (.q 0 (.q 1 (.n false 2 (.n false 3 (.n false 4 (.q 5 (.q 6 (.q 7 (.q 8 (.q 9 (.q 10 (.q 11 .done)))))))))))) ffm (by kernel_rfl) ?_
  first | refine AtT.kloadOA tk25 ?_ | refine AtT.kloadA tk25 ?_ | refine AtT.kloadOP tk25 ?_
  refine AtT.kmove ?_
  refine AtT.kbsliceG (bs27_2_0_1 _ _) ?_
  intro q53 V53 hV53 hq53
  refine AtT.kcallP rfl rfl ok56 (of56_f _ _) ?_
  rintro _ rfl
  refine AtT.kcallP rfl rfl ok19 (checkBatch_f dW pW true [1, 2] _ _ _ (hs.le hV53) (Sl.lit hq53 rfl (by simp))) ?_
  rintro _ rfl; rw [wB1]
  refine AtT.kmove ?_
  refine AtT.kextract ?_
  refine AtT.kextract ?_
  refine AtT.kextract ?_
  refine AtT.kassign ?_
  refine AtT.kassign ?_
  refine AtT.kassign ?_
  refine AtT.done ?_
  refine At.nrm ?_
  replace hs := hs.le hV53
  refine At.draw (.q 0 (.q 1 (.n false 2 (.n false 3 (.n false 4 (.q 5 (.q 6 (.q 7 (.q 8 (.q 9 (.q 10 (.q 11 .done)))))))))))) ffm (by kernel_rfl) ?_
  first | refine AtT.kloadOA tk25 ?_ | refine AtT.kloadA tk25 ?_ | refine AtT.kloadOP tk25 ?_
  refine AtT.kmove ?_
  refine AtT.kbsliceG (bs27_2_0_1 _ _) ?_
  intro q62 V62 hV62 hq62
  refine AtT.kcallP rfl rfl ok56 (of56_f _ _) ?_
  rintro _ rfl
  refine AtT.kcallP rfl rfl ok19 (checkBatch_f dW pW true [0, 2] _ _ _ (hs.le hV62) (Sl.lit hq62 rfl (by simp))) ?_
  rintro _ rfl; rw [wB2]
  refine AtT.kmove ?_
  refine AtT.kextract ?_
  refine AtT.kextract ?_
  refine AtT.kextract ?_
  refine AtT.kassign ?_
  refine AtT.kassign ?_
  refine AtT.kassign ?_
  refine AtT.done ?_
  refine At.nrm ?_
  replace hs := hs.le hV62
  refine At.draw (.q 0 (.q 1 (.n false 2 (.n false 3 (.n false 4 (.q 5 (.q 6 (.q 7 (.q 8 (.q 9 (.q 10 (.q 11 .done)))))))))))) ffm (by kernel_rfl) ?_
  first | refine AtT.kloadOA tk25 ?_ | refine AtT.kloadA tk25 ?_ | refine AtT.kloadOP tk25 ?_
  refine AtT.kmove ?_
  refine AtT.kbsliceG (bs27_4_0_1_2_3 _ _ _ _) ?_
  intro q71 V71 hV71 hq71
  refine AtT.kcallP rfl rfl ok56 (of56_f _ _) ?_
  rintro _ rfl
  refine AtT.kcallP rfl rfl ok19 (checkBatch_f dW pW false [0, 1, 2, 3] _ _ _ (hs.le hV71) (Sl.lit hq71 rfl (by simp))) ?_
  rintro _ rfl; rw [wB3]
  refine AtT.kmove ?_
  refine AtT.kextract ?_
  refine AtT.kextract ?_
  refine AtT.kextract ?_
  refine AtT.kassign ?_
  refine AtT.kassign ?_
  refine AtT.kassign ?_
  refine AtT.done ?_
  refine At.nrm ?_
  replace hs := hs.le hV71
  refine At.draw (.q 0 (.q 1 (.n false 2 (.n false 3 (.n false 4 (.q 5 (.q 6 (.q 7 (.q 8 (.q 9 (.q 10 (.q 11 .done)))))))))))) ffm (by kernel_rfl) ?_
  first | refine AtT.kloadOA tk25 ?_ | refine AtT.kloadA tk25 ?_ | refine AtT.kloadOP tk25 ?_
  refine AtT.kmove ?_
  refine AtT.kbsliceG (bs27_2_0_1 _ _) ?_
  intro q80 V80 hV80 hq80
  refine AtT.kcallP rfl rfl ok56 (of56_f _ _) ?_
  rintro _ rfl
  refine AtT.kcallP rfl rfl ok19 (checkBatch_f dW pW false [2, 1] _ _ _ (hs.le hV80) (Sl.lit hq80 rfl (by simp))) ?_
  rintro _ rfl; rw [wB4]
  refine AtT.kmove ?_
  refine AtT.kextract ?_
  refine AtT.kextract ?_
  refine AtT.kextract ?_
  refine AtT.kassign ?_
  refine AtT.kassign ?_
  refine AtT.kassign ?_
  refine AtT.done ?_
  refine At.nrm ?_
  replace hs := hs.le hV80
  refine At.ktext (.q 0 (.q 1 (.n false 2 (.q 3 (.q 4 (.q 5 (.q 6 (.q 7 .done)))))))) ?_
  first | refine AtT.kloadOA tk25 ?_ | refine AtT.kloadA tk25 ?_ | refine AtT.kloadOP tk25 ?_
  refine AtT.kmove ?_
  refine AtT.kcall rfl rfl ok27 (row_f dW pW true _ _ hs) ?_
  rintro _ V89 hV89 ⟨u89, rfl, hu89⟩; rw [wE1]
  refine AtT.kmove ?_
  refine AtT.kextract ?_
  refine AtT.kextract ?_
  refine AtT.kassign ?_
  refine AtT.kassign ?_
  refine AtT.done ?_
  refine At.nrm ?_
  rw [wR1] at hu89
  replace hs := hs.le hV89
  refine At.ktext (.q 0 (.q 1 (.n false 2 (.q 3 (.q 4 (.q 5 (.q 6 (.q 7 .done)))))))) ?_
  first | refine AtT.kloadOA tk25 ?_ | refine AtT.kloadA tk25 ?_ | refine AtT.kloadOP tk25 ?_
  refine AtT.kmove ?_
  refine AtT.kcall rfl rfl ok27 (row_f dW pW false _ _ hs) ?_
  rintro _ V95 hV95 ⟨u95, rfl, hu95⟩; rw [wE2]
  refine AtT.kmove ?_
  refine AtT.kextract ?_
  refine AtT.kextract ?_
  refine AtT.kassign ?_
  refine AtT.kassign ?_
  refine AtT.done ?_
  refine At.nrm ?_
  rw [wR2] at hu95
  replace hs := hs.le hV95
  replace hu89 := hu89.le hV95
  refine At.draw (.q 0 (.q 1 (.n false 2 (.n false 3 (.n false 4 (.q 5 (.q 6 (.q 7 (.q 8 (.q 9 .done)))))))))) ffm (by kernel_rfl) ?_
  first | refine AtT.kloadOA tk25 ?_ | refine AtT.kloadA tk25 ?_ | refine AtT.kloadOP tk25 ?_
  refine AtT.kmove ?_
  refine AtT.kbsliceG (bs27_5_0_1_2_3_4 _ _ _ _ _) ?_
  intro q101 V101 hV101 hq101
  refine AtT.kcallP rfl rfl ok56 (of56_f _ _) ?_
  rintro _ rfl
  refine AtT.kcallP rfl rfl ok25 (checkRow_f dW pW true [0, 1, 1, 1, 2] _ _ _ (hs.le hV101) (Sl.lit hq101 rfl (by simp))) ?_
  rintro _ rfl; rw [wC1]
  refine AtT.kmove ?_
  refine AtT.kextract ?_
  refine AtT.kextract ?_
  refine AtT.kassign ?_
  refine AtT.kassign ?_
  refine AtT.done ?_
  refine At.nrm ?_
  replace hs := hs.le hV101
  replace hu89 := hu89.le hV101
  replace hu95 := hu95.le hV101
  refine At.draw (.q 0 (.q 1 (.n false 2 (.n false 3 (.n false 4 (.q 5 (.q 6 (.q 7 (.q 8 (.q 9 .done)))))))))) ffm (by kernel_rfl) ?_
  first | refine AtT.kloadOA tk25 ?_ | refine AtT.kloadA tk25 ?_ | refine AtT.kloadOP tk25 ?_
  refine AtT.kmove ?_
  refine AtT.kbsliceG (bs27_5_0_1_2_3_4 _ _ _ _ _) ?_
  intro q109 V109 hV109 hq109
  refine AtT.kcallP rfl rfl ok56 (of56_f _ _) ?_
  rintro _ rfl
  refine AtT.kcallP rfl rfl ok25 (checkRow_f dW pW true [0, 0, 2, 2, 2] _ _ _ (hs.le hV109) (Sl.lit hq109 rfl (by simp))) ?_
  rintro _ rfl; rw [wC2]
  refine AtT.kmove ?_
  refine AtT.kextract ?_
  refine AtT.kextract ?_
  refine AtT.kassign ?_
  refine AtT.kassign ?_
  refine AtT.done ?_
  refine At.nrm ?_
  replace hs := hs.le hV109
  replace hu89 := hu89.le hV109
  replace hu95 := hu95.le hV109
  refine At.draw (.q 0 (.q 1 (.n false 2 (.n false 3 (.n false 4 (.q 5 (.q 6 (.q 7 (.q 8 (.q 9 .done)))))))))) ffm (by kernel_rfl) ?_
  first | refine AtT.kloadOA tk25 ?_ | refine AtT.kloadA tk25 ?_ | refine AtT.kloadOP tk25 ?_
  refine AtT.kmove ?_
  refine AtT.kbsliceG (bs27_3_0_1_2 _ _ _) ?_
  intro q117 V117 hV117 hq117
  refine AtT.kcallP rfl rfl ok56 (of56_f _ _) ?_
  rintro _ rfl
  refine AtT.kcallP rfl rfl ok25 (checkRow_f dW pW true [0, 0, 1] _ _ _ (hs.le hV117) (Sl.lit hq117 rfl (by simp))) ?_
  rintro _ rfl; rw [wC3]
  refine AtT.kmove ?_
  refine AtT.kextract ?_
  refine AtT.kextract ?_
  refine AtT.kassign ?_
  refine AtT.kassign ?_
  refine AtT.done ?_
  refine At.nrm ?_
  replace hs := hs.le hV117
  replace hu89 := hu89.le hV117
  replace hu95 := hu95.le hV117
  refine At.draw (.q 0 (.q 1 (.n false 2 (.n false 3 (.n false 4 (.q 5 (.q 6 (.q 7 (.q 8 (.q 9 .done)))))))))) ffm (by kernel_rfl) ?_
  first | refine AtT.kloadOA tk25 ?_ | refine AtT.kloadA tk25 ?_ | refine AtT.kloadOP tk25 ?_
  refine AtT.kmove ?_
  refine AtT.kbsliceG (bs27_3_0_1_2 _ _ _) ?_
  intro q125 V125 hV125 hq125
  refine AtT.kcallP rfl rfl ok56 (of56_f _ _) ?_
  rintro _ rfl
  refine AtT.kcallP rfl rfl ok29 (checkMarks_f dW pW true [0, 2, 4] _ _ _ (hs.le hV125) (Sl.lit hq125 rfl (by simp))) ?_
  rintro _ rfl; rw [wM1]
  refine AtT.kmove ?_
  refine AtT.kextract ?_
  refine AtT.kextract ?_
  refine AtT.kassign ?_
  refine AtT.kassign ?_
  refine AtT.done ?_
  refine At.nrm ?_
  replace hs := hs.le hV125
  replace hu89 := hu89.le hV125
  replace hu95 := hu95.le hV125
  refine At.draw (.q 0 (.q 1 (.n false 2 (.n false 3 (.n false 4 (.q 5 (.q 6 (.q 7 (.q 8 (.q 9 .done)))))))))) ffm (by kernel_rfl) ?_
  first | refine AtT.kloadOA tk25 ?_ | refine AtT.kloadA tk25 ?_ | refine AtT.kloadOP tk25 ?_
  refine AtT.kmove ?_
  refine AtT.kbsliceG (bs27_3_0_1_2 _ _ _) ?_
  intro q133 V133 hV133 hq133
  refine AtT.kcallP rfl rfl ok56 (of56_f _ _) ?_
  rintro _ rfl
  refine AtT.kcallP rfl rfl ok29 (checkMarks_f dW pW true [0, 1, 2] _ _ _ (hs.le hV133) (Sl.lit hq133 rfl (by simp))) ?_
  rintro _ rfl; rw [wM2]
  refine AtT.kmove ?_
  refine AtT.kextract ?_
  refine AtT.kextract ?_
  refine AtT.kassign ?_
  refine AtT.kassign ?_
  refine AtT.done ?_
  refine At.nrm ?_
  replace hs := hs.le hV133
  replace hu89 := hu89.le hV133
  replace hu95 := hu95.le hV133
  refine At.ktext (.q 0 (.q 1 (.n false 2 (.q 3 (.q 4 (.q 5 (.q 6 (.q 7 .done)))))))) ?_
  first | refine AtT.kloadOA tk25 ?_ | refine AtT.kloadA tk25 ?_ | refine AtT.kloadOP tk25 ?_
  refine AtT.kmove ?_
  refine AtT.kcall rfl rfl ok31 (marksF_f dW pW true _ _ hs) ?_
  rintro _ V141 hV141 ⟨u141, rfl, hu141⟩; rw [wE1]
  refine AtT.kmove ?_
  refine AtT.kextract ?_
  refine AtT.kextract ?_
  refine AtT.kassign ?_
  refine AtT.kassign ?_
  refine AtT.done ?_
  refine At.nrm ?_
  replace hs := hs.le hV141
  replace hu89 := hu89.le hV141
  replace hu95 := hu95.le hV141
  refine At.ktext (.q 0 (.q 1 (.n false 2 (.q 3 (.q 4 (.q 5 (.q 6 (.q 7 .done)))))))) ?_
  first | refine AtT.kloadOA tk25 ?_ | refine AtT.kloadA tk25 ?_ | refine AtT.kloadOP tk25 ?_
  refine AtT.kmove ?_
  refine AtT.kcall rfl rfl ok36 (plan_f dW pW true _ _ hs) ?_
  rintro _ V147 hV147 ⟨u147, rfl, hu147⟩; rw [wE1]
  refine AtT.kmove ?_
  refine AtT.kextract ?_
  refine AtT.kextract ?_
  refine AtT.kassign ?_
  refine AtT.kassign ?_
  refine AtT.done ?_
  refine At.nrm ?_
  rw [wP1] at hu147
  replace hs := hs.le hV147
  replace hu89 := hu89.le hV147
  replace hu95 := hu95.le hV147
  replace hu141 := hu141.le hV147
  refine At.draw (.q 0 (.q 1 (.n false 2 (.n false 3 (.n false 4 (.q 5 (.q 6 (.q 7 (.q 8 (.q 9 .done)))))))))) ffm (by kernel_rfl) ?_
  first | refine AtT.kloadOA tk25 ?_ | refine AtT.kloadA tk25 ?_ | refine AtT.kloadOP tk25 ?_
  refine AtT.kmove ?_
  refine AtT.kbsliceG (bs27_5_0_1_2_3_4 _ _ _ _ _) ?_
  intro q153 V153 hV153 hq153
  refine AtT.kcallP rfl rfl ok56 (of56_f _ _) ?_
  rintro _ rfl
  refine AtT.kcallP rfl rfl ok34 (checkPlan_f dW pW true [0, 1, 1, 0, 0] _ _ _ (hs.le hV153) (Sl.lit hq153 rfl (by simp))) ?_
  rintro _ rfl; rw [wP2]
  refine AtT.kmove ?_
  refine AtT.kextract ?_
  refine AtT.kextract ?_
  refine AtT.kassign ?_
  refine AtT.kassign ?_
  refine AtT.done ?_
  refine At.nrm ?_
  replace hs := hs.le hV153
  replace hu89 := hu89.le hV153
  replace hu95 := hu95.le hV153
  replace hu141 := hu141.le hV153
  replace hu147 := hu147.le hV153
  refine At.draw (.q 0 (.q 1 (.n false 2 (.n false 3 (.n false 4 (.q 5 (.q 6 (.q 7 (.q 8 (.q 9 .done)))))))))) ffm (by kernel_rfl) ?_
  first | refine AtT.kloadOA tk25 ?_ | refine AtT.kloadA tk25 ?_ | refine AtT.kloadOP tk25 ?_
  refine AtT.kmove ?_
  refine AtT.kbsliceG (bs27_5_0_1_2_3_4 _ _ _ _ _) ?_
  intro q161 V161 hV161 hq161
  refine AtT.kcallP rfl rfl ok56 (of56_f _ _) ?_
  rintro _ rfl
  refine AtT.kcallP rfl rfl ok34 (checkPlan_f dW pW true [0, 2, 1, 0, 0] _ _ _ (hs.le hV161) (Sl.lit hq161 rfl (by simp))) ?_
  rintro _ rfl; rw [wP3]
  refine AtT.kmove ?_
  refine AtT.kextract ?_
  refine AtT.kextract ?_
  refine AtT.kassign ?_
  refine AtT.kassign ?_
  refine AtT.done ?_
  refine At.nrm ?_
  replace hs := hs.le hV161
  replace hu89 := hu89.le hV161
  replace hu95 := hu95.le hV161
  replace hu141 := hu141.le hV161
  replace hu147 := hu147.le hV161
  refine At.ktext (.q 0 (.q 1 (.n false 2 (.q 3 (.q 4 (.q 5 (.q 6 (.q 7 .done)))))))) ?_
  first | refine AtT.kloadOA tk25 ?_ | refine AtT.kloadA tk25 ?_ | refine AtT.kloadOP tk25 ?_
  refine AtT.kmove ?_
  refine AtT.kcallP rfl rfl ok38 (bound_f dW pW true _ _ hs) ?_
  rintro _ rfl; rw [wD1]
  refine AtT.kmove ?_
  refine AtT.kextract ?_
  refine AtT.kextract ?_
  refine AtT.kassign ?_
  refine AtT.kassign ?_
  refine AtT.done ?_
  refine At.nrm ?_
  refine At.ktext (.q 0 (.q 1 (.n false 2 (.q 3 (.q 4 (.q 5 (.q 6 (.q 7 .done)))))))) ?_
  first | refine AtT.kloadOA tk25 ?_ | refine AtT.kloadA tk25 ?_ | refine AtT.kloadOP tk25 ?_
  refine AtT.kmove ?_
  refine AtT.kcall rfl rfl ok42 (apartF_f dW pW true _ _ hs) ?_
  rintro _ V175 hV175 ⟨u175, rfl, hu175⟩; rw [wO0]
  refine AtT.kmove ?_
  refine AtT.kextract ?_
  refine AtT.kextract ?_
  refine AtT.kassign ?_
  refine AtT.kassign ?_
  refine AtT.done ?_
  refine At.nrm ?_
  replace hs := hs.le hV175
  replace hu89 := hu89.le hV175
  replace hu95 := hu95.le hV175
  replace hu141 := hu141.le hV175
  replace hu147 := hu147.le hV175
  rw [if_pos wO0, wA1] at hu175
  clear hV1 hV53 hV62 hV71 hV80 hV89 hV95 hV101 hV109 hV117 hV125 hV133 hV141 hV147 hV153 hV161
  refine At.cutG (ι := Unit) (fun _ => [(1, .pointer (some ⟨b1, 0, none⟩)), (2, .slice a2 pW.length c2), (3, iv 30), (4, iv 7), (5, iv 0), (8, iv 22), (11, iv 10), (14, iv 2), (15, u89), (16, iv 0), (17, u95), (18, iv 0), (20, iv 22), (22, iv 16), (24, iv 15), (25, iv 3), (26, iv 0), (28, iv 14), (29, u141), (30, iv 0), (31, u147), (32, iv 0), (33, iv 2), (34, iv 0), (36, iv 16), (37, iv 2), (38, iv 0), (39, u175), (40, iv 0), (41, iv 0), (42, iv 16)]) (fun _ => [.blk b1 (LC (dye dW) 25)]) (fun _ V' => Le V175 V') ?_ ?_
  · clear hV175
    refine At.draw (.q 0 (.q 1 (.q 5 (.q 6 (.two 2 (.two 3 (.two 4 (.n false 7 (.n false 8 (.n false 9 (.q 10 (.q 11 .done))))) 7 (.n false 4 (.n false 8 (.n false 9 (.q 10 (.q 11 .done)))))) 7 (.n false 3 (.n false 4 (.n false 8 (.n false 9 (.q 10 (.q 11 .done))))))) 7 (.n false 2 (.n false 3 (.n false 4 (.n false 8 (.n false 9 (.q 10 (.q 11 .done)))))))))))) ffm (by kernel_rfl) ?_
    first | refine AtT.kloadOA tk25 ?_ | refine AtT.kloadA tk25 ?_ | refine AtT.kloadOP tk25 ?_
    refine AtT.kmove ?_
    first | refine AtT.kloadOA tk25 ?_ | refine AtT.kloadA tk25 ?_ | refine AtT.kloadOP tk25 ?_
    refine AtT.kmove ?_
    refine AtT.two ?_ ?_
    focus
      refine AtT.kbsliceG (bs27_2_0_1 _ _) ?_
      intro q180 V180 hV180 hq180
      refine AtT.two ?_ ?_
      focus
        refine AtT.kcallP rfl rfl ok56 (of56_f _ _) ?_
        rintro _ rfl
        refine AtT.two ?_ ?_
        focus
          refine AtT.kcallP rfl rfl ok44 (checkApart_f dW pW true [2, 4] _ _ _ (hs.le (by first | exact Le.refl _ | assumption | exact Le.trans (by assumption) (by assumption))) (Sl.le (Sl.lit hq180 rfl (by simp)) (by first | exact Le.refl _ | assumption | exact Le.trans (by assumption) (by assumption)))) ?_
          rintro _ rfl; rw [wA2]
          refine AtT.kbsliceG (bs27_2_0_1 _ _) ?_
          intro q185 V185 hV185 hq185
          refine AtT.kcallP rfl rfl ok56 (of56_f _ _) ?_
          rintro _ rfl
          refine AtT.kcallP rfl rfl ok44 (checkApart_f dW pW true [1, 2] _ _ _ (hs.le (by first | exact Le.refl _ | assumption | exact Le.trans (by assumption) (by assumption))) (Sl.le (Sl.lit hq185 rfl (by simp)) (by first | exact Le.refl _ | assumption | exact Le.trans (by assumption) (by assumption)))) ?_
          rintro _ rfl; rw [wA3]
          refine AtT.kassign ?_
          refine AtT.kassign ?_
          refine AtT.done ?_
        rotate_right
        focus
          refine AtT.kbsliceG (bs27_2_0_1 _ _) ?_
          intro q185 V185 hV185 hq185
          refine AtT.kcallP rfl rfl ok44 (checkApart_f dW pW true [2, 4] _ _ _ (hs.le (by first | exact Le.refl _ | assumption | exact Le.trans (by assumption) (by assumption))) (Sl.le (Sl.lit hq180 rfl (by simp)) (by first | exact Le.refl _ | assumption | exact Le.trans (by assumption) (by assumption)))) ?_
          rintro _ rfl; rw [wA2]
          refine AtT.kcallP rfl rfl ok56 (of56_f _ _) ?_
          rintro _ rfl
          refine AtT.kcallP rfl rfl ok44 (checkApart_f dW pW true [1, 2] _ _ _ (hs.le (by first | exact Le.refl _ | assumption | exact Le.trans (by assumption) (by assumption))) (Sl.le (Sl.lit hq185 rfl (by simp)) (by first | exact Le.refl _ | assumption | exact Le.trans (by assumption) (by assumption)))) ?_
          rintro _ rfl; rw [wA3]
          refine AtT.kassign ?_
          refine AtT.kassign ?_
          refine AtT.done ?_
      rotate_right
      focus
        refine AtT.kbsliceG (bs27_2_0_1 _ _) ?_
        intro q185 V185 hV185 hq185
        refine AtT.kcallP rfl rfl ok56 (of56_f _ _) ?_
        rintro _ rfl
        refine AtT.kcallP rfl rfl ok44 (checkApart_f dW pW true [2, 4] _ _ _ (hs.le (by first | exact Le.refl _ | assumption | exact Le.trans (by assumption) (by assumption))) (Sl.le (Sl.lit hq180 rfl (by simp)) (by first | exact Le.refl _ | assumption | exact Le.trans (by assumption) (by assumption)))) ?_
        rintro _ rfl; rw [wA2]
        refine AtT.kcallP rfl rfl ok56 (of56_f _ _) ?_
        rintro _ rfl
        refine AtT.kcallP rfl rfl ok44 (checkApart_f dW pW true [1, 2] _ _ _ (hs.le (by first | exact Le.refl _ | assumption | exact Le.trans (by assumption) (by assumption))) (Sl.le (Sl.lit hq185 rfl (by simp)) (by first | exact Le.refl _ | assumption | exact Le.trans (by assumption) (by assumption)))) ?_
        rintro _ rfl; rw [wA3]
        refine AtT.kassign ?_
        refine AtT.kassign ?_
        refine AtT.done ?_
    rotate_right
    focus
      refine AtT.kbsliceG (bs27_2_0_1 _ _) ?_
      intro q185 V185 hV185 hq185
      refine AtT.kbsliceG (bs27_2_0_1 _ _) ?_
      intro q180 V180 hV180 hq180
      refine AtT.kcallP rfl rfl ok56 (of56_f _ _) ?_
      rintro _ rfl
      refine AtT.kcallP rfl rfl ok44 (checkApart_f dW pW true [2, 4] _ _ _ (hs.le (by first | exact Le.refl _ | assumption | exact Le.trans (by assumption) (by assumption))) (Sl.le (Sl.lit hq180 rfl (by simp)) (by first | exact Le.refl _ | assumption | exact Le.trans (by assumption) (by assumption)))) ?_
      rintro _ rfl; rw [wA2]
      refine AtT.kcallP rfl rfl ok56 (of56_f _ _) ?_
      rintro _ rfl
      refine AtT.kcallP rfl rfl ok44 (checkApart_f dW pW true [1, 2] _ _ _ (hs.le (by first | exact Le.refl _ | assumption | exact Le.trans (by assumption) (by assumption))) (Sl.le (Sl.lit hq185 rfl (by simp)) (by first | exact Le.refl _ | assumption | exact Le.trans (by assumption) (by assumption)))) ?_
      rintro _ rfl; rw [wA3]
      refine AtT.kassign ?_
      refine AtT.kassign ?_
      refine AtT.done ?_
    all_goals (refine At.nrm ?_)
    all_goals (exact At.meetG () (by first | exact Le.refl _ | assumption | exact Le.trans (by assumption) (by assumption)) ⟨rfl, rfl, rfl, rfl, rfl, rfl, rfl, rfl, rfl, rfl, rfl, rfl, rfl, rfl, rfl, rfl, rfl, rfl, rfl, rfl, rfl, rfl, rfl, rfl, rfl, rfl, rfl, rfl, rfl, rfl, rfl, trivial⟩ Pt.auto)
  rintro _ V19 ks' O' hV19 hk hO hl
  subst hk hO
  replace hs := hs.le hV19
  replace hu89 := hu89.le hV19
  replace hu95 := hu95.le hV19
  replace hu141 := hu141.le hV19
  replace hu147 := hu147.le hV19
  replace hu175 := hu175.le hV19
  clear hV19 hV175
  refine At.nrm ?_
  refine At.draw (.q 0 (.q 1 (.n false 2 (.n false 3 (.n false 4 (.q 5 (.q 6 (.q 7 (.q 8 (.q 9 (.q 10 (.q 11 .done)))))))))))) ffm (by kernel_rfl) ?_
  first | refine AtT.kloadOA tk25 ?_ | refine AtT.kloadA tk25 ?_ | refine AtT.kloadOP tk25 ?_
  refine AtT.kmove ?_
  refine AtT.kbsliceG (bs27_5_0_1_2_3_4 _ _ _ _ _) ?_
  intro q191 V191 hV191 hq191
  refine AtT.kcallP rfl rfl ok56 (of56_f _ _) ?_
  rintro _ rfl
  refine AtT.kcallP rfl rfl ok40 (spares_f dW pW true [0, 0, 1, 1, 2] _ _ _ (hs.le hV191) (Sl.lit hq191 rfl (by simp))) ?_
  rintro _ rfl; rw [wS1]
  refine AtT.kmove ?_
  refine AtT.kextract ?_
  refine AtT.kextract ?_
  refine AtT.kextract ?_
  refine AtT.kassign ?_
  refine AtT.kassign ?_
  refine AtT.kassign ?_
  refine AtT.done ?_
  refine At.nrm ?_
  replace hs := hs.le hV191
  replace hu89 := hu89.le hV191
  replace hu95 := hu95.le hV191
  replace hu141 := hu141.le hV191
  replace hu147 := hu147.le hV191
  replace hu175 := hu175.le hV191
  clear hV191
  refine At.ktext (.q 0 (.q 1 (.q 2 (.q 3 (.q 4 (.q 5 (.q 6 (.q 7 (.q 8 (.q 9 (.q 10 (.q 11 (.q 12 (.q 13 (.q 14 (.q 15 (.q 16 (.q 17 (.q 18 (.q 19 (.q 20 (.q 21 (.q 22 (.q 23 (.q 24 (.q 25 (.q 26 (.q 27 (.q 28 (.q 29 (.q 30 (.q 31 (.q 32 (.q 33 (.q 34 (.q 35 (.q 36 (.q 37 (.q 38 (.q 39 (.q 40 (.q 41 (.q 42 (.q 43 (.q 44 (.q 45 (.q 46 (.q 47 (.q 48 (.q 49 (.q 50 (.q 51 (.q 52 (.q 53 (.q 54 (.q 55 (.q 56 (.q 57 (.q 58 (.q 59 (.q 60 (.q 61 (.q 62 (.q 63 (.q 64 (.q 65 (.q 66 (.q 67 (.q 68 (.q 69 (.q 70 (.q 71 (.q 72 (.q 73 (.q 74 (.q 75 (.q 76 (.q 77 .done)))))))))))))))))))))))))))))))))))))))))))))))))))))))))))))))))))))))))))))) ?_
  refine AtT.kmove ?_
  refine AtT.kneI ?_
  refine AtT.kmove ?_
  all_goals (first | refine AtT.kL 199 ?_ | refine AtT.pcase (d := 199) rfl (fun hg199 => ?_) (fun hg199 => ?_) | refine AtT.bcase (d := 199) rfl (fun hg199 => ?_) (fun hg199 => ?_))
  all_goals (first | refine AtT.kpass ?_ | refine AtT.kpassU ?_ | ((refine AtT.kmove ?_)))
  all_goals (first | refine AtT.kpass ?_ | refine AtT.kpassU ?_ | ((refine AtT.kneI ?_)))
  all_goals (refine AtT.kpick ?_)
  all_goals (refine AtT.kmove ?_)
  all_goals (first | refine AtT.kL 203 ?_ | refine AtT.pcase (d := 203) rfl (fun hg203 => ?_) (fun hg203 => ?_) | refine AtT.bcase (d := 203) rfl (fun hg203 => ?_) (fun hg203 => ?_))
  all_goals (first | refine AtT.kpass ?_ | refine AtT.kpassU ?_ | ((refine AtT.kmove ?_)))
  all_goals (first | refine AtT.kpass ?_ | refine AtT.kpassU ?_ | ((refine AtT.kneI ?_)))
  all_goals (refine AtT.kpick ?_)
  all_goals (refine AtT.kmove ?_)
  all_goals (first | refine AtT.kL 207 ?_ | refine AtT.pcase (d := 207) rfl (fun hg207 => ?_) (fun hg207 => ?_) | refine AtT.bcase (d := 207) rfl (fun hg207 => ?_) (fun hg207 => ?_))
  all_goals (first | refine AtT.kpass ?_ | refine AtT.kpassU ?_ | ((refine AtT.kmove ?_)))
  all_goals (first | refine AtT.kpass ?_ | refine AtT.kpassU ?_ | ((refine AtT.kneI ?_)))
  all_goals (refine AtT.kpick ?_)
  all_goals (refine AtT.kmove ?_)
  all_goals (first | refine AtT.kL 211 ?_ | refine AtT.pcase (d := 211) rfl (fun hg211 => ?_) (fun hg211 => ?_) | refine AtT.bcase (d := 211) rfl (fun hg211 => ?_) (fun hg211 => ?_))
  all_goals (first | refine AtT.kpass ?_ | refine AtT.kpassU ?_ | ((refine AtT.kmove ?_)))
  all_goals (first | refine AtT.kpass ?_ | refine AtT.kpassU ?_ | ((refine AtT.kneI ?_)))
  all_goals (refine AtT.kpick ?_)
  all_goals (refine AtT.kmove ?_)
  all_goals (first | refine AtT.kL 215 ?_ | refine AtT.pcase (d := 215) rfl (fun hg215 => ?_) (fun hg215 => ?_) | refine AtT.bcase (d := 215) rfl (fun hg215 => ?_) (fun hg215 => ?_))
  all_goals (first | refine AtT.kpass ?_ | refine AtT.kpassU ?_ | ((refine AtT.kmove ?_)))
  all_goals (first | refine AtT.kpass ?_ | refine AtT.kpassU ?_ | ((refine AtT.kneI ?_)))
  all_goals (refine AtT.kpick ?_)
  all_goals (refine AtT.kmove ?_)
  all_goals (first | refine AtT.kL 219 ?_ | refine AtT.pcase (d := 219) rfl (fun hg219 => ?_) (fun hg219 => ?_) | refine AtT.bcase (d := 219) rfl (fun hg219 => ?_) (fun hg219 => ?_))
  all_goals (first | refine AtT.kpass ?_ | refine AtT.kpassU ?_ | ((refine AtT.kmove ?_)))
  all_goals (first | refine AtT.kpass ?_ | refine AtT.kpassU ?_ | ((refine AtT.kneI ?_)))
  all_goals (refine AtT.kpick ?_)
  all_goals (refine AtT.kmove ?_)
  all_goals (first | refine AtT.kL 223 ?_ | refine AtT.pcase (d := 223) rfl (fun hg223 => ?_) (fun hg223 => ?_) | refine AtT.bcase (d := 223) rfl (fun hg223 => ?_) (fun hg223 => ?_))
  all_goals (first | refine AtT.kpass ?_ | refine AtT.kpassU ?_ | ((refine AtT.kmove ?_)))
  all_goals (first | refine AtT.kpass ?_ | refine AtT.kpassU ?_ | ((refine AtT.kneI ?_)))
  all_goals (refine AtT.kpick ?_)
  all_goals (refine AtT.kmove ?_)
  all_goals (first | refine AtT.kL 227 ?_ | refine AtT.pcase (d := 227) rfl (fun hg227 => ?_) (fun hg227 => ?_) | refine AtT.bcase (d := 227) rfl (fun hg227 => ?_) (fun hg227 => ?_))
  all_goals (first | refine AtT.kpass ?_ | refine AtT.kpassU ?_ | ((refine AtT.kmove ?_)))
  all_goals (first | refine AtT.kpass ?_ | refine AtT.kpassU ?_ | ((refine AtT.kneI ?_)))
  all_goals (refine AtT.kpick ?_)
  all_goals (refine AtT.kmove ?_)
  all_goals (first | refine AtT.kL 231 ?_ | refine AtT.pcase (d := 231) rfl (fun hg231 => ?_) (fun hg231 => ?_) | refine AtT.bcase (d := 231) rfl (fun hg231 => ?_) (fun hg231 => ?_))
  all_goals (first | refine AtT.kpass ?_ | refine AtT.kpassU ?_ | ((refine AtT.kmove ?_)))
  all_goals (first | refine AtT.kpass ?_ | refine AtT.kpassU ?_ | ((refine AtT.kneI ?_)))
  all_goals (refine AtT.kpick ?_)
  all_goals (refine AtT.kmove ?_)
  all_goals (first | refine AtT.kL 235 ?_ | refine AtT.pcase (d := 235) rfl (fun hg235 => ?_) (fun hg235 => ?_) | refine AtT.bcase (d := 235) rfl (fun hg235 => ?_) (fun hg235 => ?_))
  all_goals (first | refine AtT.kpass ?_ | refine AtT.kpassU ?_ | ((refine AtT.kmove ?_)))
  all_goals (first | refine AtT.kpass ?_ | refine AtT.kpassU ?_ | ((refine AtT.kneI ?_)))
  all_goals (refine AtT.kpick ?_)
  all_goals (refine AtT.kmove ?_)
  all_goals (first | refine AtT.kL 239 ?_ | refine AtT.pcase (d := 239) rfl (fun hg239 => ?_) (fun hg239 => ?_) | refine AtT.bcase (d := 239) rfl (fun hg239 => ?_) (fun hg239 => ?_))
  all_goals (first | refine AtT.kpass ?_ | refine AtT.kpassU ?_ | ((refine AtT.kmove ?_)))
  all_goals (first | refine AtT.kpass ?_ | refine AtT.kpassU ?_ | ((refine AtT.kneI ?_)))
  all_goals (refine AtT.kpick ?_)
  all_goals (refine AtT.kmove ?_)
  all_goals (first | refine AtT.kL 243 ?_ | refine AtT.pcase (d := 243) rfl (fun hg243 => ?_) (fun hg243 => ?_) | refine AtT.bcase (d := 243) rfl (fun hg243 => ?_) (fun hg243 => ?_))
  all_goals (first | refine AtT.kpass ?_ | refine AtT.kpassU ?_ | ((refine AtT.kmove ?_)))
  all_goals (first | refine AtT.kpass ?_ | refine AtT.kpassU ?_ | ((refine AtT.kneI ?_)))
  all_goals (refine AtT.kpick ?_)
  all_goals (refine AtT.kmove ?_)
  all_goals (first | refine AtT.kL 247 ?_ | refine AtT.pcase (d := 247) rfl (fun hg247 => ?_) (fun hg247 => ?_) | refine AtT.bcase (d := 247) rfl (fun hg247 => ?_) (fun hg247 => ?_))
  all_goals (first | refine AtT.kpass ?_ | refine AtT.kpassU ?_ | ((refine AtT.kmove ?_)))
  all_goals (first | refine AtT.kpass ?_ | refine AtT.kpassU ?_ | ((refine AtT.kneI ?_)))
  all_goals (refine AtT.kpick ?_)
  all_goals (refine AtT.kmove ?_)
  all_goals (first | refine AtT.kL 251 ?_ | refine AtT.pcase (d := 251) rfl (fun hg251 => ?_) (fun hg251 => ?_) | refine AtT.bcase (d := 251) rfl (fun hg251 => ?_) (fun hg251 => ?_))
  all_goals (first | refine AtT.kpass ?_ | refine AtT.kpassU ?_ | ((refine AtT.kmove ?_)))
  all_goals (first | refine AtT.kpass ?_ | refine AtT.kpassU ?_ | ((refine AtT.kneI ?_)))
  all_goals (refine AtT.kpick ?_)
  all_goals (refine AtT.kmove ?_)
  all_goals (first | refine AtT.kL 255 ?_ | refine AtT.pcase (d := 255) rfl (fun hg255 => ?_) (fun hg255 => ?_) | refine AtT.bcase (d := 255) rfl (fun hg255 => ?_) (fun hg255 => ?_))
  all_goals (first | refine AtT.kpass ?_ | refine AtT.kpassU ?_ | ((refine AtT.kmove ?_)))
  all_goals (first | refine AtT.kpass ?_ | refine AtT.kpassU ?_ | ((refine AtT.kneI ?_)))
  all_goals (refine AtT.kpick ?_)
  all_goals (refine AtT.kmove ?_)
  all_goals (first | refine AtT.kL 259 ?_ | refine AtT.pcase (d := 259) rfl (fun hg259 => ?_) (fun hg259 => ?_) | refine AtT.bcase (d := 259) rfl (fun hg259 => ?_) (fun hg259 => ?_))
  all_goals (first | refine AtT.kpass ?_ | refine AtT.kpassU ?_ | ((refine AtT.kmove ?_)))
  all_goals (first | refine AtT.kpass ?_ | refine AtT.kpassU ?_ | ((refine AtT.kneI ?_)))
  all_goals (refine AtT.kpick ?_)
  all_goals (refine AtT.kmove ?_)
  all_goals (first | refine AtT.kL 263 ?_ | refine AtT.pcase (d := 263) rfl (fun hg263 => ?_) (fun hg263 => ?_) | refine AtT.bcase (d := 263) rfl (fun hg263 => ?_) (fun hg263 => ?_))
  all_goals (first | refine AtT.kpass ?_ | refine AtT.kpassU ?_ | ((refine AtT.kmove ?_)))
  all_goals (first | refine AtT.kpass ?_ | refine AtT.kpassU ?_ | ((refine AtT.kneI ?_)))
  all_goals (refine AtT.kpick ?_)
  all_goals (refine AtT.kmove ?_)
  all_goals (first | refine AtT.kL 267 ?_ | refine AtT.pcase (d := 267) rfl (fun hg267 => ?_) (fun hg267 => ?_) | refine AtT.bcase (d := 267) rfl (fun hg267 => ?_) (fun hg267 => ?_))
  all_goals (first | refine AtT.kpass ?_ | refine AtT.kpassU ?_ | ((refine AtT.kmove ?_)))
  all_goals (first | refine AtT.kpass ?_ | refine AtT.kpassU ?_ | ((refine AtT.kneI ?_)))
  all_goals (refine AtT.kpick ?_)
  all_goals (refine AtT.kmove ?_)
  all_goals (first | refine AtT.kL 271 ?_ | refine AtT.pcase (d := 271) rfl (fun hg271 => ?_) (fun hg271 => ?_) | refine AtT.bcase (d := 271) rfl (fun hg271 => ?_) (fun hg271 => ?_))
  all_goals (first | refine AtT.kpass ?_ | refine AtT.kpassU ?_ | ((refine AtT.kmove ?_)))
  all_goals (first | refine AtT.kpass ?_ | refine AtT.kpassU ?_ | ((refine AtT.kneI ?_)))
  all_goals (refine AtT.kpick ?_)
  all_goals refine AtT.done ?_
  all_goals (refine At.nrm ?_)
  refine At.condF rfl rfl ?_
  refine At.nrm ?_
  refine At.ktext (.q 0 (.q 1 (.q 2 (.q 3 (.q 4 (.q 5 (.q 6 (.q 7 (.n false 8 (.n false 9 (.n false 10 (.q 11 (.q 12 (.q 13 (.q 14 (.n false 15 (.n false 16 (.n false 17 (.q 18 (.q 19 (.q 20 (.q 21 (.q 22 (.q 23 (.q 24 (.q 25 (.n false 26 (.n false 27 (.n false 28 (.q 29 (.q 30 (.q 31 (.q 32 (.q 33 (.q 34 (.q 35 (.q 36 (.q 37 (.q 38 (.q 39 (.q 40 (.n false 41 (.n false 42 (.n false 43 (.q 44 (.q 45 (.q 46 (.q 47 (.q 48 (.q 49 (.q 50 (.q 51 (.q 52 (.q 53 .done)))))))))))))))))))))))))))))))))))))))))))))))))))))) ?_
  refine AtT.kmove ?_
  refine AtT.kneI ?_
  refine AtT.kmove ?_
  all_goals (first | refine AtT.kL 277 ?_ | refine AtT.pcase (d := 277) rfl (fun hg277 => ?_) (fun hg277 => ?_) | refine AtT.bcase (d := 277) rfl (fun hg277 => ?_) (fun hg277 => ?_))
  all_goals (first | refine AtT.kpass ?_ | refine AtT.kpassU ?_ | ((refine AtT.kmove ?_)))
  all_goals (first | refine AtT.kpass ?_ | refine AtT.kpassU ?_ | ((refine AtT.kneI ?_)))
  all_goals (refine AtT.kpick ?_)
  all_goals (refine AtT.kmove ?_)
  all_goals (first | refine AtT.kL 281 ?_ | refine AtT.pcase (d := 281) rfl (fun hg281 => ?_) (fun hg281 => ?_) | refine AtT.bcase (d := 281) rfl (fun hg281 => ?_) (fun hg281 => ?_))
  all_goals (first | refine AtT.kpass ?_ | refine AtT.kpassU ?_ | ((refine AtT.kmove ?_)))
  all_goals (first | refine AtT.kpassN ?_ | refine AtT.kpassNU ?_ | ((refine AtT.kbsliceG (bs27_5_0_1_2_3_4 _ _ _ _ _) ?_) ; (intro q283 V283 hV283 hq283)))
  all_goals (first | refine AtT.kpassN ?_ | refine AtT.kpassNU ?_ | ((refine AtT.kcallP rfl rfl ok56 (of56_f _ _) ?_) ; (rintro _ rfl)))
  all_goals (first | refine AtT.kpassN ?_ | refine AtT.kpassNU ?_ | ((refine AtT.kcallP rfl rfl ok32 (ints_f _ [0, 0, 1, 1, 2] _ _ _ (hu89.le hV283) (Sl.lit hq283 rfl (by simp))) ?_) ; (rintro _ rfl)))
  all_goals (first | refine AtT.kpass ?_ | refine AtT.kpassU ?_ | ((refine AtT.knot ?_)))
  all_goals (refine AtT.kpick ?_)
  all_goals (refine AtT.kmove ?_)
  all_goals (first | refine AtT.kL 288 ?_ | refine AtT.pcase (d := 288) rfl (fun hg288 => ?_) (fun hg288 => ?_) | refine AtT.bcase (d := 288) rfl (fun hg288 => ?_) (fun hg288 => ?_))
  all_goals (first | refine AtT.kpass ?_ | refine AtT.kpassU ?_ | ((refine AtT.kmove ?_)))
  all_goals (first | refine AtT.kpassN ?_ | refine AtT.kpassNU ?_ | ((refine AtT.kbsliceG (bs27_5_0_1_2_3_4 _ _ _ _ _) ?_) ; (intro q290 V290 hV290 hq290)))
  all_goals (first | refine AtT.kpassN ?_ | refine AtT.kpassNU ?_ | ((refine AtT.kcallP rfl rfl ok56 (of56_f _ _) ?_) ; (rintro _ rfl)))
  all_goals (first | refine AtT.kpassN ?_ | refine AtT.kpassNU ?_ | ((refine AtT.kcallP rfl rfl ok32 (ints_f _ [0, 0, 0, 1, 1] _ _ _ (hu95.le (hV283.trans hV290)) (Sl.lit hq290 rfl (by simp))) ?_) ; (rintro _ rfl)))
  all_goals (first | refine AtT.kpass ?_ | refine AtT.kpassU ?_ | ((refine AtT.knot ?_)))
  all_goals (refine AtT.kpick ?_)
  all_goals (refine AtT.kmove ?_)
  all_goals (first | refine AtT.kL 295 ?_ | refine AtT.pcase (d := 295) rfl (fun hg295 => ?_) (fun hg295 => ?_) | refine AtT.bcase (d := 295) rfl (fun hg295 => ?_) (fun hg295 => ?_))
  all_goals (first | refine AtT.kpass ?_ | refine AtT.kpassU ?_ | ((refine AtT.kmove ?_)))
  all_goals (first | refine AtT.kpass ?_ | refine AtT.kpassU ?_ | ((refine AtT.kneI ?_)))
  all_goals (refine AtT.kpick ?_)
  all_goals (refine AtT.kmove ?_)
  all_goals (first | refine AtT.kL 299 ?_ | refine AtT.pcase (d := 299) rfl (fun hg299 => ?_) (fun hg299 => ?_) | refine AtT.bcase (d := 299) rfl (fun hg299 => ?_) (fun hg299 => ?_))
  all_goals (first | refine AtT.kpass ?_ | refine AtT.kpassU ?_ | ((refine AtT.kmove ?_)))
  all_goals (first | refine AtT.kpassN ?_ | refine AtT.kpassNU ?_ | ((refine AtT.kbsliceG (bs27_5_0_1_2_3_4 _ _ _ _ _) ?_) ; (intro q301 V301 hV301 hq301)))
  all_goals (first | refine AtT.kpassN ?_ | refine AtT.kpassNU ?_ | ((refine AtT.kcallP rfl rfl ok56 (of56_f _ _) ?_) ; (rintro _ rfl)))
  all_goals (first | refine AtT.kpassN ?_ | refine AtT.kpassNU ?_ | ((refine AtT.kcallP rfl rfl ok32 (ints_f _ [0, 1, 1, 0, 0] _ _ _ (hu147.le ((hV283.trans hV290).trans hV301)) (Sl.lit hq301 rfl (by simp))) ?_) ; (rintro _ rfl)))
  all_goals (first | refine AtT.kpass ?_ | refine AtT.kpassU ?_ | ((refine AtT.knot ?_)))
  all_goals (refine AtT.kpick ?_)
  all_goals (refine AtT.kmove ?_)
  all_goals (first | refine AtT.kL 306 ?_ | refine AtT.pcase (d := 306) rfl (fun hg306 => ?_) (fun hg306 => ?_) | refine AtT.bcase (d := 306) rfl (fun hg306 => ?_) (fun hg306 => ?_))
  all_goals (first | refine AtT.kpass ?_ | refine AtT.kpassU ?_ | ((refine AtT.kmove ?_)))
  all_goals (first | refine AtT.kpass ?_ | refine AtT.kpassU ?_ | ((refine AtT.kneI ?_)))
  all_goals (refine AtT.kpick ?_)
  all_goals (refine AtT.kmove ?_)
  all_goals (first | refine AtT.kL 310 ?_ | refine AtT.pcase (d := 310) rfl (fun hg310 => ?_) (fun hg310 => ?_) | refine AtT.bcase (d := 310) rfl (fun hg310 => ?_) (fun hg310 => ?_))
  all_goals (first | refine AtT.kpass ?_ | refine AtT.kpassU ?_ | ((refine AtT.kmove ?_)))
  all_goals (first | refine AtT.kpass ?_ | refine AtT.kpassU ?_ | ((refine AtT.kneI ?_)))
  all_goals (refine AtT.kpick ?_)
  all_goals (refine AtT.kmove ?_)
  all_goals (first | refine AtT.kL 314 ?_ | refine AtT.pcase (d := 314) rfl (fun hg314 => ?_) (fun hg314 => ?_) | refine AtT.bcase (d := 314) rfl (fun hg314 => ?_) (fun hg314 => ?_))
  all_goals (first | refine AtT.kpass ?_ | refine AtT.kpassU ?_ | ((refine AtT.kmove ?_)))
  all_goals (first | refine AtT.kpassN ?_ | refine AtT.kpassNU ?_ | ((refine AtT.kbsliceG (bs27_2_0_1 _ _) ?_) ; (intro q316 V316 hV316 hq316)))
  all_goals (first | refine AtT.kpassN ?_ | refine AtT.kpassNU ?_ | ((refine AtT.kcallP rfl rfl ok56 (of56_f _ _) ?_) ; (rintro _ rfl)))
  all_goals (first | refine AtT.kpassN ?_ | refine AtT.kpassNU ?_ | ((refine AtT.kcallP rfl rfl ok32 (ints_f _ [0, 2] _ _ _ (hu175.le (((hV283.trans hV290).trans hV301).trans hV316)) (Sl.lit hq316 rfl (by simp))) ?_) ; (rintro _ rfl)))
  all_goals (first | refine AtT.kpass ?_ | refine AtT.kpassU ?_ | ((refine AtT.knot ?_)))
  all_goals (refine AtT.kpick ?_)
  all_goals (refine AtT.kmove ?_)
  all_goals (first | refine AtT.kL 321 ?_ | refine AtT.pcase (d := 321) rfl (fun hg321 => ?_) (fun hg321 => ?_) | refine AtT.bcase (d := 321) rfl (fun hg321 => ?_) (fun hg321 => ?_))
  all_goals (first | refine AtT.kpass ?_ | refine AtT.kpassU ?_ | ((refine AtT.kmove ?_)))
  all_goals (first | refine AtT.kpass ?_ | refine AtT.kpassU ?_ | ((refine AtT.kneI ?_)))
  all_goals (refine AtT.kpick ?_)
  all_goals (refine AtT.kmove ?_)
  all_goals (first | refine AtT.kL 325 ?_ | refine AtT.pcase (d := 325) rfl (fun hg325 => ?_) (fun hg325 => ?_) | refine AtT.bcase (d := 325) rfl (fun hg325 => ?_) (fun hg325 => ?_))
  all_goals (first | refine AtT.kpass ?_ | refine AtT.kpassU ?_ | ((refine AtT.kmove ?_)))
  all_goals (first | refine AtT.kpass ?_ | refine AtT.kpassU ?_ | ((refine AtT.kneI ?_)))
  all_goals (refine AtT.kpick ?_)
  all_goals refine AtT.done ?_
  all_goals (refine At.nrm ?_)
  refine At.condF rfl rfl ?_
  refine At.nrm ?_
  replace hs := hs.le (((hV283.trans hV290).trans hV301).trans hV316)
  replace hu89 := hu89.le (((hV283.trans hV290).trans hV301).trans hV316)
  replace hu95 := hu95.le (((hV283.trans hV290).trans hV301).trans hV316)
  replace hu141 := hu141.le (((hV283.trans hV290).trans hV301).trans hV316)
  replace hu147 := hu147.le (((hV283.trans hV290).trans hV301).trans hV316)
  replace hu175 := hu175.le (((hV283.trans hV290).trans hV301).trans hV316)
  refine At.ktext (.q 0 (.q 1 (.q 2 (.n false 3 (.q 4 (.q 5 (.q 6 (.q 7 (.q 8 .done))))))))) ?_
  first | refine AtT.kloadOA tk25 ?_ | refine AtT.kloadA tk25 ?_ | refine AtT.kloadOP tk25 ?_
  refine AtT.kmove ?_
  refine AtT.kmove ?_
  refine AtT.kcallP rfl rfl ok30 (rcheckMarks_f dW pW true _ _ _ _ hs hu141) ?_
  rintro _ rfl; rw [wM3]
  refine AtT.kmove ?_
  refine AtT.kextract ?_
  refine AtT.kextract ?_
  refine AtT.kassign ?_
  refine AtT.kassign ?_
  refine AtT.done ?_
  refine At.nrm ?_
  refine At.ktext (.q 0 (.q 1 (.q 2 (.q 3 (.q 4 (.q 5 (.q 6 .done))))))) ?_
  refine AtT.kmove ?_
  refine AtT.keqI ?_
  refine AtT.kmove ?_
  all_goals (first | refine AtT.kL 338 ?_ | refine AtT.pcase (d := 338) rfl (fun hg338 => ?_) (fun hg338 => ?_) | refine AtT.bcase (d := 338) rfl (fun hg338 => ?_) (fun hg338 => ?_))
  all_goals (first | refine AtT.kpass ?_ | refine AtT.kpassU ?_ | ((refine AtT.kmove ?_)))
  all_goals (first | refine AtT.kpass ?_ | refine AtT.kpassU ?_ | ((refine AtT.keqI ?_)))
  all_goals (refine AtT.kpick ?_)
  all_goals (refine AtT.kassign ?_)
  all_goals refine AtT.done ?_
  all_goals (refine At.nrm ?_)
  exact At.ret1 rfl (.tmp rfl) rfl
end Go.Proofs.Ytmnbkceiaifncaa
set_option linter.unusedVariables false
namespace Go.Proofs.Ytmnbkceiaifncaa
open Go.Lw Go.Gl Go.RowKit

theorem glueDays_f (d : Dy) (ps : List Pn) (sure : Bool) (l : List Int) (V : View) (v vl : Value) (hs : Sl V pne 3 v ps) (hl : SlI V vl l) : Fnc Try.prog 3 [dyv d, v, .bool sure, vl] V fun r _ => r = .bool true := by
  refine fn_of Try.func3 rfl Try.ntmps3 (Nat.le_of_ble_eq_true rfl) ?_
  intro w0 hw0
  refine At.nrm ?_
  refine At.ktext (.n false 0 (.q 1 .done)) ?_
  refine AtT.kbox ?_
  intro b4
  refine AtT.kassign ?_
  refine AtT.done ?_
  refine At.nrm ?_
  by_cases g1 : 16 < (ps.length : Int)
  · refine At.ktext (.q 0 (.n false 1 (.q 2 (.q 3 (.n false 4 (.q 5 .done)))))) ?_
    refine AtT.kmove ?_
    refine AtT.kcallP rfl rfl ok16 (great_f ps _ _ hs) ?_
    rintro _ rfl
    refine AtT.setT (d := 16) rfl (g1) ?_
    refine AtT.kmove ?_
    all_goals (first | refine AtT.kL 17 ?_ | refine AtT.pcase (d := 17) rfl (fun hg17 => ?_) (fun hg17 => ?_) | refine AtT.bcase (d := 17) rfl (fun hg17 => ?_) (fun hg17 => ?_))
    all_goals (first | refine AtT.kpass ?_ | refine AtT.kpassU ?_ | ((refine AtT.kmove ?_)))
    all_goals (first | refine AtT.kpassN ?_ | refine AtT.kpassNU ?_ | ((fail)))
    all_goals (refine AtT.kpick ?_)
    all_goals refine AtT.done ?_
    all_goals (refine At.nrm ?_)
    refine At.condT rfl rfl ?_
    refine At.nrm ?_
    refine At.ktext (.n false 0 (.q 1 .done)) ?_
    refine AtT.kcallP rfl rfl ok18 (works_f _) ?_
    rintro _ rfl
    refine AtT.kassign ?_
    refine AtT.done ?_
    refine At.nrm ?_
    exact At.ret1 rfl (.tmp rfl) rfl
  by_cases g2 : 20 < (l.length : Int)
  · refine At.ktext (.q 0 (.n false 1 (.q 2 (.q 3 (.n false 4 (.q 5 .done)))))) ?_
    refine AtT.kmove ?_
    refine AtT.kcallP rfl rfl ok16 (great_f ps _ _ hs) ?_
    rintro _ rfl
    refine AtT.setF (d := 16) rfl (g1) ?_
    refine AtT.kmove ?_
    all_goals (first | refine AtT.kL 17 ?_ | refine AtT.pcase (d := 17) rfl (fun hg17 => ?_) (fun hg17 => ?_) | refine AtT.bcase (d := 17) rfl (fun hg17 => ?_) (fun hg17 => ?_))
    all_goals (first | refine AtT.kpass ?_ | refine AtT.kpassU ?_ | ((refine AtT.kmove ?_)))
    all_goals (first | refine AtT.kpassN ?_ | refine AtT.kpassNU ?_ | ((refine AtT.kcallP rfl rfl ok17 (long_f l _ _ hl) ?_) ; (rintro _ rfl)))
    all_goals (refine AtT.setT (d := 19) rfl (g2) ?_)
    all_goals (refine AtT.kpick ?_)
    all_goals refine AtT.done ?_
    all_goals (refine At.nrm ?_)
    refine At.condT rfl rfl ?_
    refine At.nrm ?_
    refine At.ktext (.n false 0 (.q 1 .done)) ?_
    refine AtT.kcallP rfl rfl ok18 (works_f _) ?_
    rintro _ rfl
    refine AtT.kassign ?_
    refine AtT.done ?_
    refine At.nrm ?_
    exact At.ret1 rfl (.tmp rfl) rfl
  refine At.ktext (.q 0 (.n false 1 (.q 2 (.q 3 (.n false 4 (.q 5 .done)))))) ?_
  refine AtT.kmove ?_
  refine AtT.kcallP rfl rfl ok16 (great_f ps _ _ hs) ?_
  rintro _ rfl
  refine AtT.setF (d := 16) rfl (g1) ?_
  refine AtT.kmove ?_
  all_goals (first | refine AtT.kL 17 ?_ | refine AtT.pcase (d := 17) rfl (fun hg17 => ?_) (fun hg17 => ?_) | refine AtT.bcase (d := 17) rfl (fun hg17 => ?_) (fun hg17 => ?_))
  all_goals (first | refine AtT.kpass ?_ | refine AtT.kpassU ?_ | ((refine AtT.kmove ?_)))
  all_goals (first | refine AtT.kpassN ?_ | refine AtT.kpassNU ?_ | ((refine AtT.kcallP rfl rfl ok17 (long_f l _ _ hl) ?_) ; (rintro _ rfl)))
  all_goals (refine AtT.setF (d := 19) rfl (g2) ?_)
  all_goals (refine AtT.kpick ?_)
  all_goals refine AtT.done ?_
  all_goals (refine At.nrm ?_)
  refine At.condF rfl rfl ?_
  refine At.nrm ?_
  refine At.ktext (.q 0 (.q 1 (.q 2 (.q 3 (.n false 4 (.q 5 (.q 6 (.q 7 (.q 8 (.q 9 (.q 10 (.q 11 .done)))))))))))) ?_
  first | refine AtT.kloadOA tk25 ?_ | refine AtT.kloadA tk25 ?_ | refine AtT.kloadOP tk25 ?_
  refine AtT.kmove ?_
  refine AtT.kmove ?_
  refine AtT.kmove ?_
  refine AtT.kcallP rfl rfl ok19 (checkBatch_f d ps sure l _ _ _ hs hl) ?_
  rintro _ rfl
  refine AtT.kmove ?_
  refine AtT.kextract ?_
  refine AtT.kextract ?_
  refine AtT.kextract ?_
  refine AtT.kassign ?_
  refine AtT.kassign ?_
  refine AtT.kassign ?_
  refine AtT.done ?_
  refine At.nrm ?_
  refine At.ktext (.q 0 (.q 1 (.q 2 (.q 3 (.n false 4 (.q 5 (.q 6 (.q 7 (.q 8 (.q 9 (.q 10 (.q 11 .done)))))))))))) ?_
  first | refine AtT.kloadOA tk25 ?_ | refine AtT.kloadA tk25 ?_ | refine AtT.kloadOP tk25 ?_
  refine AtT.kmove ?_
  refine AtT.kmove ?_
  refine AtT.kmove ?_
  refine AtT.kcallP rfl rfl ok20 (rcheckBatch_f d ps sure l _ _ _ hs hl) ?_
  rintro _ rfl
  refine AtT.kmove ?_
  refine AtT.kextract ?_
  refine AtT.kextract ?_
  refine AtT.kextract ?_
  refine AtT.kassign ?_
  refine AtT.kassign ?_
  refine AtT.kassign ?_
  refine AtT.done ?_
  refine At.nrm ?_
  apply At.draw0 (.q 0 (.q 2 (.n false 1 (.n false 3 (.q 4 (.q 5 (.q 6 (.q 8 (.n false 7 (.n false 9 (.q 10 (.q 11 (.q 12 (.q 13 (.q 14 (.q 15 (.q 16 (.q 17 (.q 18 (.q 19 (.q 20 (.q 21 (.q 22 (.q 23 (.q 24 (.q 25 (.q 26 (.q 27 (.n false 28 (.q 29 (.q 30 .done))))))))))))))))))))))))))))))) ffm (by kernel_rfl)
  · first | refine AtT.kloadOA tk25 ?_ | refine AtT.kloadA tk25 ?_ | refine AtT.kloadOP tk25 ?_
    first | refine AtT.kloadOA tk25 ?_ | refine AtT.kloadA tk25 ?_ | refine AtT.kloadOP tk25 ?_
    refine AtT.kcallP rfl rfl ok21 (day_f d _) ?_
    rintro _ rfl
    refine AtT.kcallP rfl rfl ok22 (rday_f d _) ?_
    rintro _ rfl
    refine AtT.keqI ?_
    refine AtT.setT (d := 44) rfl (rfl) ?_
    refine AtT.kmove ?_
    all_goals (first | refine AtT.kL 45 ?_ | refine AtT.pcase (d := 45) rfl (fun hg45 => ?_) (fun hg45 => ?_) | refine AtT.bcase (d := 45) rfl (fun hg45 => ?_) (fun hg45 => ?_))
    all_goals (first | refine AtT.kpass ?_ | refine AtT.kpassU ?_ | ((refine AtT.kmove ?_)))
    all_goals (first | refine AtT.kpass ?_ | refine AtT.kpassU ?_ | ((refine AtT.kmove ?_)))
    all_goals (first | refine AtT.kpassN ?_ | refine AtT.kpassNU ?_ | ((refine AtT.kcallP rfl rfl ok23 (pan_f ps _ _ hs) ?_) ; (rintro _ rfl)))
    all_goals (first | refine AtT.kpassN ?_ | refine AtT.kpassNU ?_ | ((refine AtT.kcallP rfl rfl ok24 (rpan_f ps _ _ hs) ?_) ; (rintro _ rfl)))
    all_goals (first | refine AtT.kpass ?_ | refine AtT.kpassU ?_ | ((refine AtT.keqI ?_)))
    all_goals (refine AtT.setT (d := 50) rfl (rfl) ?_)
    all_goals (refine AtT.kpick ?_)
    all_goals (refine AtT.kmove ?_)
    all_goals (first | refine AtT.kL 52 ?_ | refine AtT.pcase (d := 52) rfl (fun hg52 => ?_) (fun hg52 => ?_) | refine AtT.bcase (d := 52) rfl (fun hg52 => ?_) (fun hg52 => ?_))
    all_goals (first | refine AtT.kpass ?_ | refine AtT.kpassU ?_ | ((refine AtT.kmove ?_)))
    all_goals (first | refine AtT.kpass ?_ | refine AtT.kpassU ?_ | ((refine AtT.kmove ?_)))
    all_goals (first | refine AtT.kpass ?_ | refine AtT.kpassU ?_ | ((refine AtT.keqI ?_)))
    all_goals (refine AtT.setT (d := 55) rfl (rfl) ?_)
    all_goals (refine AtT.kpick ?_)
    all_goals (refine AtT.kmove ?_)
    all_goals (first | refine AtT.kL 57 ?_ | refine AtT.pcase (d := 57) rfl (fun hg57 => ?_) (fun hg57 => ?_) | refine AtT.bcase (d := 57) rfl (fun hg57 => ?_) (fun hg57 => ?_))
    all_goals (first | refine AtT.kpass ?_ | refine AtT.kpassU ?_ | ((refine AtT.kmove ?_)))
    all_goals (first | refine AtT.kpass ?_ | refine AtT.kpassU ?_ | ((refine AtT.kmove ?_)))
    all_goals (first | refine AtT.kpass ?_ | refine AtT.kpassU ?_ | ((refine AtT.keqI ?_)))
    all_goals (refine AtT.setT (d := 60) rfl (rfl) ?_)
    all_goals (refine AtT.kpick ?_)
    all_goals (refine AtT.kmove ?_)
    all_goals (first | refine AtT.kL 62 ?_ | refine AtT.pcase (d := 62) rfl (fun hg62 => ?_) (fun hg62 => ?_) | refine AtT.bcase (d := 62) rfl (fun hg62 => ?_) (fun hg62 => ?_))
    all_goals (first | refine AtT.kpass ?_ | refine AtT.kpassU ?_ | ((refine AtT.kmove ?_)))
    all_goals (first | refine AtT.kpass ?_ | refine AtT.kpassU ?_ | ((refine AtT.kmove ?_)))
    all_goals (first | refine AtT.kpass ?_ | refine AtT.kpassU ?_ | ((refine AtT.keqI ?_)))
    all_goals (refine AtT.setT (d := 65) rfl (rfl) ?_)
    all_goals (refine AtT.kpick ?_)
    all_goals (refine AtT.kmove ?_)
    all_goals (first | refine AtT.kL 67 ?_ | refine AtT.pcase (d := 67) rfl (fun hg67 => ?_) (fun hg67 => ?_) | refine AtT.bcase (d := 67) rfl (fun hg67 => ?_) (fun hg67 => ?_))
    all_goals (first | refine AtT.kpassN ?_ | refine AtT.kpassNU ?_ | ((refine AtT.kcallP rfl rfl ok18 (works_f _) ?_) ; (rintro _ rfl)))
    all_goals (refine AtT.kpick ?_)
    all_goals (refine AtT.kassign ?_)
    exact AtT.done (fun a w hk hm => ⟨hk, hm⟩)
  refine At.nrm ?_
  exact At.ret1 rfl (.tmp rfl) rfl

theorem glueRows_f (d : Dy) (ps : List Pn) (sure : Bool) (l ms : List Int) (V : View) (v vl vm : Value) (hs : Sl V pne 3 v ps) (hl : SlI V vl l) (hm : SlI V vm ms) : Fnc Try.prog 4 [dyv d, v, .bool sure, vl, vm] V fun r _ => r = .bool true := by
  refine fn_of Try.func4 rfl Try.ntmps4 (Nat.le_of_ble_eq_true rfl) ?_
  intro w0 hw0
  refine At.nrm ?_
  refine At.ktext (.n false 0 (.q 1 .done)) ?_
  refine AtT.kbox ?_
  intro b5
  refine AtT.kassign ?_
  refine AtT.done ?_
  refine At.nrm ?_
  by_cases g1 : 16 < (ps.length : Int)
  · refine At.ktext (.q 0 (.n false 1 (.q 2 (.q 3 (.n false 4 (.q 5 (.q 6 (.q 7 (.n false 8 (.q 9 .done)))))))))) ?_
    refine AtT.kmove ?_
    refine AtT.kcallP rfl rfl ok16 (great_f ps _ _ hs) ?_
    rintro _ rfl
    refine AtT.setT (d := 27) rfl (g1) ?_
    refine AtT.kmove ?_
    all_goals (first | refine AtT.kL 28 ?_ | refine AtT.pcase (d := 28) rfl (fun hg28 => ?_) (fun hg28 => ?_) | refine AtT.bcase (d := 28) rfl (fun hg28 => ?_) (fun hg28 => ?_))
    all_goals (first | refine AtT.kpass ?_ | refine AtT.kpassU ?_ | ((refine AtT.kmove ?_)))
    all_goals (first | refine AtT.kpassN ?_ | refine AtT.kpassNU ?_ | ((fail)))
    all_goals (refine AtT.kpick ?_)
    all_goals (refine AtT.kmove ?_)
    all_goals (first | refine AtT.kL 32 ?_ | refine AtT.pcase (d := 32) rfl (fun hg32 => ?_) (fun hg32 => ?_) | refine AtT.bcase (d := 32) rfl (fun hg32 => ?_) (fun hg32 => ?_))
    all_goals (first | refine AtT.kpass ?_ | refine AtT.kpassU ?_ | ((refine AtT.kmove ?_)))
    all_goals (first | refine AtT.kpassN ?_ | refine AtT.kpassNU ?_ | ((fail)))
    all_goals (refine AtT.kpick ?_)
    all_goals refine AtT.done ?_
    all_goals (refine At.nrm ?_)
    refine At.condT rfl rfl ?_
    refine At.nrm ?_
    refine At.ktext (.n false 0 (.q 1 .done)) ?_
    refine AtT.kcallP rfl rfl ok18 (works_f _) ?_
    rintro _ rfl
    refine AtT.kassign ?_
    refine AtT.done ?_
    refine At.nrm ?_
    exact At.ret1 rfl (.tmp rfl) rfl
  by_cases g2 : 20 < (l.length : Int)
  · refine At.ktext (.q 0 (.n false 1 (.q 2 (.q 3 (.n false 4 (.q 5 (.q 6 (.q 7 (.n false 8 (.q 9 .done)))))))))) ?_
    refine AtT.kmove ?_
    refine AtT.kcallP rfl rfl ok16 (great_f ps _ _ hs) ?_
    rintro _ rfl
    refine AtT.setF (d := 27) rfl (g1) ?_
    refine AtT.kmove ?_
    all_goals (first | refine AtT.kL 28 ?_ | refine AtT.pcase (d := 28) rfl (fun hg28 => ?_) (fun hg28 => ?_) | refine AtT.bcase (d := 28) rfl (fun hg28 => ?_) (fun hg28 => ?_))
    all_goals (first | refine AtT.kpass ?_ | refine AtT.kpassU ?_ | ((refine AtT.kmove ?_)))
    all_goals (first | refine AtT.kpassN ?_ | refine AtT.kpassNU ?_ | ((refine AtT.kcallP rfl rfl ok17 (long_f l _ _ hl) ?_) ; (rintro _ rfl)))
    all_goals (refine AtT.setT (d := 30) rfl (g2) ?_)
    all_goals (refine AtT.kpick ?_)
    all_goals (refine AtT.kmove ?_)
    all_goals (first | refine AtT.kL 32 ?_ | refine AtT.pcase (d := 32) rfl (fun hg32 => ?_) (fun hg32 => ?_) | refine AtT.bcase (d := 32) rfl (fun hg32 => ?_) (fun hg32 => ?_))
    all_goals (first | refine AtT.kpass ?_ | refine AtT.kpassU ?_ | ((refine AtT.kmove ?_)))
    all_goals (first | refine AtT.kpassN ?_ | refine AtT.kpassNU ?_ | ((fail)))
    all_goals (refine AtT.kpick ?_)
    all_goals refine AtT.done ?_
    all_goals (refine At.nrm ?_)
    refine At.condT rfl rfl ?_
    refine At.nrm ?_
    refine At.ktext (.n false 0 (.q 1 .done)) ?_
    refine AtT.kcallP rfl rfl ok18 (works_f _) ?_
    rintro _ rfl
    refine AtT.kassign ?_
    refine AtT.done ?_
    refine At.nrm ?_
    exact At.ret1 rfl (.tmp rfl) rfl
  by_cases g3 : 20 < (ms.length : Int)
  · refine At.ktext (.q 0 (.n false 1 (.q 2 (.q 3 (.n false 4 (.q 5 (.q 6 (.q 7 (.n false 8 (.q 9 .done)))))))))) ?_
    refine AtT.kmove ?_
    refine AtT.kcallP rfl rfl ok16 (great_f ps _ _ hs) ?_
    rintro _ rfl
    refine AtT.setF (d := 27) rfl (g1) ?_
    refine AtT.kmove ?_
    all_goals (first | refine AtT.kL 28 ?_ | refine AtT.pcase (d := 28) rfl (fun hg28 => ?_) (fun hg28 => ?_) | refine AtT.bcase (d := 28) rfl (fun hg28 => ?_) (fun hg28 => ?_))
    all_goals (first | refine AtT.kpass ?_ | refine AtT.kpassU ?_ | ((refine AtT.kmove ?_)))
    all_goals (first | refine AtT.kpassN ?_ | refine AtT.kpassNU ?_ | ((refine AtT.kcallP rfl rfl ok17 (long_f l _ _ hl) ?_) ; (rintro _ rfl)))
    all_goals (refine AtT.setF (d := 30) rfl (g2) ?_)
    all_goals (refine AtT.kpick ?_)
    all_goals (refine AtT.kmove ?_)
    all_goals (first | refine AtT.kL 32 ?_ | refine AtT.pcase (d := 32) rfl (fun hg32 => ?_) (fun hg32 => ?_) | refine AtT.bcase (d := 32) rfl (fun hg32 => ?_) (fun hg32 => ?_))
    all_goals (first | refine AtT.kpass ?_ | refine AtT.kpassU ?_ | ((refine AtT.kmove ?_)))
    all_goals (first | refine AtT.kpassN ?_ | refine AtT.kpassNU ?_ | ((refine AtT.kcallP rfl rfl ok17 (long_f ms _ _ hm) ?_) ; (rintro _ rfl)))
    all_goals (refine AtT.setT (d := 34) rfl (g3) ?_)
    all_goals (refine AtT.kpick ?_)
    all_goals refine AtT.done ?_
    all_goals (refine At.nrm ?_)
    refine At.condT rfl rfl ?_
    refine At.nrm ?_
    refine At.ktext (.n false 0 (.q 1 .done)) ?_
    refine AtT.kcallP rfl rfl ok18 (works_f _) ?_
    rintro _ rfl
    refine AtT.kassign ?_
    refine AtT.done ?_
    refine At.nrm ?_
    exact At.ret1 rfl (.tmp rfl) rfl
  refine At.ktext (.q 0 (.n false 1 (.q 2 (.q 3 (.n false 4 (.q 5 (.q 6 (.q 7 (.n false 8 (.q 9 .done)))))))))) ?_
  refine AtT.kmove ?_
  refine AtT.kcallP rfl rfl ok16 (great_f ps _ _ hs) ?_
  rintro _ rfl
  refine AtT.setF (d := 27) rfl (g1) ?_
  refine AtT.kmove ?_
  all_goals (first | refine AtT.kL 28 ?_ | refine AtT.pcase (d := 28) rfl (fun hg28 => ?_) (fun hg28 => ?_) | refine AtT.bcase (d := 28) rfl (fun hg28 => ?_) (fun hg28 => ?_))
  all_goals (first | refine AtT.kpass ?_ | refine AtT.kpassU ?_ | ((refine AtT.kmove ?_)))
  all_goals (first | refine AtT.kpassN ?_ | refine AtT.kpassNU ?_ | ((refine AtT.kcallP rfl rfl ok17 (long_f l _ _ hl) ?_) ; (rintro _ rfl)))
  all_goals (refine AtT.setF (d := 30) rfl (g2) ?_)
  all_goals (refine AtT.kpick ?_)
  all_goals (refine AtT.kmove ?_)
  all_goals (first | refine AtT.kL 32 ?_ | refine AtT.pcase (d := 32) rfl (fun hg32 => ?_) (fun hg32 => ?_) | refine AtT.bcase (d := 32) rfl (fun hg32 => ?_) (fun hg32 => ?_))
  all_goals (first | refine AtT.kpass ?_ | refine AtT.kpassU ?_ | ((refine AtT.kmove ?_)))
  all_goals (first | refine AtT.kpassN ?_ | refine AtT.kpassNU ?_ | ((refine AtT.kcallP rfl rfl ok17 (long_f ms _ _ hm) ?_) ; (rintro _ rfl)))
  all_goals (refine AtT.setF (d := 34) rfl (g3) ?_)
  all_goals (refine AtT.kpick ?_)
  all_goals refine AtT.done ?_
  all_goals (refine At.nrm ?_)
  refine At.condF rfl rfl ?_
  have hmk : (mkkL d ps sure).length ≤ 16 := by
    unfold mkkL
    split
    · have := mkL_len (bn d ps sure) ps.length; omega
    · simp
  refine At.nrm ?_
  refine At.ktext (.q 0 (.q 1 (.q 2 (.q 3 (.n false 4 (.q 5 (.q 6 (.q 7 (.q 8 (.q 9 .done)))))))))) ?_
  first | refine AtT.kloadOA tk25 ?_ | refine AtT.kloadA tk25 ?_ | refine AtT.kloadOP tk25 ?_
  refine AtT.kmove ?_
  refine AtT.kmove ?_
  refine AtT.kmove ?_
  refine AtT.kcallP rfl rfl ok25 (checkRow_f d ps sure l _ _ _ hs hl) ?_
  rintro _ rfl
  refine AtT.kmove ?_
  refine AtT.kextract ?_
  refine AtT.kextract ?_
  refine AtT.kassign ?_
  refine AtT.kassign ?_
  refine AtT.done ?_
  refine At.nrm ?_
  refine At.ktext (.q 0 (.q 1 (.q 2 (.q 3 (.n false 4 (.q 5 (.q 6 (.q 7 (.q 8 (.q 9 .done)))))))))) ?_
  first | refine AtT.kloadOA tk25 ?_ | refine AtT.kloadA tk25 ?_ | refine AtT.kloadOP tk25 ?_
  refine AtT.kmove ?_
  refine AtT.kmove ?_
  refine AtT.kmove ?_
  refine AtT.kcallP rfl rfl ok26 (rcheckRow_f d ps sure l _ _ _ hs hl) ?_
  rintro _ rfl
  refine AtT.kmove ?_
  refine AtT.kextract ?_
  refine AtT.kextract ?_
  refine AtT.kassign ?_
  refine AtT.kassign ?_
  refine AtT.done ?_
  refine At.nrm ?_
  refine At.ktext (.q 0 (.q 1 (.q 2 (.n false 3 (.q 4 (.q 5 (.q 6 (.q 7 (.q 8 .done))))))))) ?_
  first | refine AtT.kloadOA tk25 ?_ | refine AtT.kloadA tk25 ?_ | refine AtT.kloadOP tk25 ?_
  refine AtT.kmove ?_
  refine AtT.kmove ?_
  refine AtT.kcall rfl rfl ok27 (row_f d ps sure _ _ hs) ?_
  rintro _ V5 hV5 ⟨x, rfl, hx⟩
  refine AtT.kmove ?_
  refine AtT.kextract ?_
  refine AtT.kextract ?_
  refine AtT.kassign ?_
  refine AtT.kassign ?_
  refine AtT.done ?_
  refine At.nrm ?_
  refine At.ktext (.q 0 (.q 1 (.q 2 (.n false 3 (.q 4 (.q 5 (.q 6 (.q 7 (.q 8 .done))))))))) ?_
  first | refine AtT.kloadOA tk25 ?_ | refine AtT.kloadA tk25 ?_ | refine AtT.kloadOP tk25 ?_
  refine AtT.kmove ?_
  refine AtT.kmove ?_
  refine AtT.kcall rfl rfl ok28 (rrow_f d ps sure _ _ (hs.le hV5)) ?_
  rintro _ V6 hV6 ⟨y, rfl, hy⟩
  refine AtT.kmove ?_
  refine AtT.kextract ?_
  refine AtT.kextract ?_
  refine AtT.kassign ?_
  refine AtT.kassign ?_
  refine AtT.done ?_
  refine At.nrm ?_
  have hV := hV5.trans hV6
  refine At.ktext (.q 0 (.q 1 (.q 2 (.q 3 (.n false 4 (.q 5 (.q 6 (.q 7 (.q 8 (.q 9 .done)))))))))) ?_
  first | refine AtT.kloadOA tk25 ?_ | refine AtT.kloadA tk25 ?_ | refine AtT.kloadOP tk25 ?_
  refine AtT.kmove ?_
  refine AtT.kmove ?_
  refine AtT.kmove ?_
  refine AtT.kcallP rfl rfl ok29 (checkMarks_f d ps sure ms _ _ _ (hs.le hV) (hm.le hV)) ?_
  rintro _ rfl
  refine AtT.kmove ?_
  refine AtT.kextract ?_
  refine AtT.kextract ?_
  refine AtT.kassign ?_
  refine AtT.kassign ?_
  refine AtT.done ?_
  refine At.nrm ?_
  refine At.ktext (.q 0 (.q 1 (.q 2 (.q 3 (.n false 4 (.q 5 (.q 6 (.q 7 (.q 8 (.q 9 .done)))))))))) ?_
  first | refine AtT.kloadOA tk25 ?_ | refine AtT.kloadA tk25 ?_ | refine AtT.kloadOP tk25 ?_
  refine AtT.kmove ?_
  refine AtT.kmove ?_
  refine AtT.kmove ?_
  refine AtT.kcallP rfl rfl ok30 (rcheckMarks_f d ps sure ms _ _ _ (hs.le hV) (hm.le hV)) ?_
  rintro _ rfl
  refine AtT.kmove ?_
  refine AtT.kextract ?_
  refine AtT.kextract ?_
  refine AtT.kassign ?_
  refine AtT.kassign ?_
  refine AtT.done ?_
  refine At.nrm ?_
  refine At.ktext (.q 0 (.q 1 (.q 2 (.n false 3 (.q 4 (.q 5 (.q 6 (.q 7 (.q 8 .done))))))))) ?_
  first | refine AtT.kloadOA tk25 ?_ | refine AtT.kloadA tk25 ?_ | refine AtT.kloadOP tk25 ?_
  refine AtT.kmove ?_
  refine AtT.kmove ?_
  refine AtT.kcall rfl rfl ok31 (marksF_f d ps sure _ _ (hs.le hV)) ?_
  rintro _ V9 hV9 ⟨z, rfl, hz⟩
  refine AtT.kmove ?_
  refine AtT.kextract ?_
  refine AtT.kextract ?_
  refine AtT.kassign ?_
  refine AtT.kassign ?_
  refine AtT.done ?_
  refine At.nrm ?_
  have hx9 := (hx.le hV6).le hV9
  have hy9 := hy.le hV9
  have hs9 := (hs.le hV).le hV9
  refine At.ktext (.q 0 (.q 1 (.q 2 (.q 3 (.q 4 (.q 5 (.q 6 (.q 7 (.q 8 (.q 9 (.q 10 (.n false 11 (.q 12 (.q 13 (.q 14 (.q 15 (.q 16 (.q 17 (.q 18 (.q 19 (.q 20 (.q 21 (.q 22 (.q 23 (.q 24 (.q 25 (.q 26 (.q 27 (.q 28 (.q 29 (.q 30 (.q 31 (.q 32 (.q 33 (.q 34 (.q 35 (.n false 36 (.q 37 .done)))))))))))))))))))))))))))))))))))))) ?_
  refine AtT.kmove ?_
  refine AtT.kmove ?_
  refine AtT.kneI ?_
  refine AtT.setF (d := 92) rfl ((by simp)) ?_
  refine AtT.kmove ?_
  all_goals (first | refine AtT.kL 93 ?_ | refine AtT.pcase (d := 93) rfl (fun hg93 => ?_) (fun hg93 => ?_) | refine AtT.bcase (d := 93) rfl (fun hg93 => ?_) (fun hg93 => ?_))
  all_goals (first | refine AtT.kpass ?_ | refine AtT.kpassU ?_ | ((refine AtT.kmove ?_)))
  all_goals (first | refine AtT.kpass ?_ | refine AtT.kpassU ?_ | ((refine AtT.kmove ?_)))
  all_goals (first | refine AtT.kpass ?_ | refine AtT.kpassU ?_ | ((refine AtT.kneI ?_)))
  all_goals (refine AtT.setF (d := 96) rfl ((by simp)) ?_)
  all_goals (refine AtT.kpick ?_)
  all_goals (refine AtT.kmove ?_)
  all_goals (first | refine AtT.kL 98 ?_ | refine AtT.pcase (d := 98) rfl (fun hg98 => ?_) (fun hg98 => ?_) | refine AtT.bcase (d := 98) rfl (fun hg98 => ?_) (fun hg98 => ?_))
  all_goals (first | refine AtT.kpass ?_ | refine AtT.kpassU ?_ | ((refine AtT.kmove ?_)))
  all_goals (first | refine AtT.kpass ?_ | refine AtT.kpassU ?_ | ((refine AtT.kmove ?_)))
  all_goals (first | refine AtT.kpassN ?_ | refine AtT.kpassNU ?_ | ((refine AtT.kcallP rfl rfl ok32 (ints_f _ _ _ _ _ hx9 hy9) ?_) ; (rintro _ rfl)))
  all_goals (refine AtT.setT (d := 101) rfl (rfl) ?_)
  all_goals (first | refine AtT.kpass ?_ | refine AtT.kpassU ?_ | ((refine AtT.knot ?_)))
  all_goals (refine AtT.kpick ?_)
  all_goals (refine AtT.kmove ?_)
  all_goals (first | refine AtT.kL 104 ?_ | refine AtT.pcase (d := 104) rfl (fun hg104 => ?_) (fun hg104 => ?_) | refine AtT.bcase (d := 104) rfl (fun hg104 => ?_) (fun hg104 => ?_))
  all_goals (first | refine AtT.kpass ?_ | refine AtT.kpassU ?_ | ((refine AtT.kmove ?_)))
  all_goals (first | refine AtT.kpass ?_ | refine AtT.kpassU ?_ | ((refine AtT.kmove ?_)))
  all_goals (first | refine AtT.kpass ?_ | refine AtT.kpassU ?_ | ((refine AtT.kneI ?_)))
  all_goals (refine AtT.setF (d := 107) rfl ((by simp)) ?_)
  all_goals (refine AtT.kpick ?_)
  all_goals (refine AtT.kmove ?_)
  all_goals (first | refine AtT.kL 109 ?_ | refine AtT.pcase (d := 109) rfl (fun hg109 => ?_) (fun hg109 => ?_) | refine AtT.bcase (d := 109) rfl (fun hg109 => ?_) (fun hg109 => ?_))
  all_goals (first | refine AtT.kpass ?_ | refine AtT.kpassU ?_ | ((refine AtT.kmove ?_)))
  all_goals (first | refine AtT.kpass ?_ | refine AtT.kpassU ?_ | ((refine AtT.kmove ?_)))
  all_goals (first | refine AtT.kpass ?_ | refine AtT.kpassU ?_ | ((refine AtT.kneI ?_)))
  all_goals (refine AtT.setF (d := 112) rfl ((by simp)) ?_)
  all_goals (refine AtT.kpick ?_)
  all_goals (refine AtT.kmove ?_)
  all_goals (first | refine AtT.kL 114 ?_ | refine AtT.pcase (d := 114) rfl (fun hg114 => ?_) (fun hg114 => ?_) | refine AtT.bcase (d := 114) rfl (fun hg114 => ?_) (fun hg114 => ?_))
  all_goals (first | refine AtT.kpass ?_ | refine AtT.kpassU ?_ | ((refine AtT.kmove ?_)))
  all_goals (first | refine AtT.kpass ?_ | refine AtT.kpassU ?_ | ((refine AtT.kmove ?_)))
  all_goals (first | refine AtT.kpass ?_ | refine AtT.kpassU ?_ | ((refine AtT.kneI ?_)))
  all_goals (refine AtT.setF (d := 117) rfl ((by simp)) ?_)
  all_goals (refine AtT.kpick ?_)
  all_goals (refine AtT.kmove ?_)
  all_goals (first | refine AtT.kL 119 ?_ | refine AtT.pcase (d := 119) rfl (fun hg119 => ?_) (fun hg119 => ?_) | refine AtT.bcase (d := 119) rfl (fun hg119 => ?_) (fun hg119 => ?_))
  all_goals (first | refine AtT.kpass ?_ | refine AtT.kpassU ?_ | ((refine AtT.kmove ?_)))
  all_goals (first | refine AtT.kpass ?_ | refine AtT.kpassU ?_ | ((refine AtT.kmove ?_)))
  all_goals (first | refine AtT.kpass ?_ | refine AtT.kpassU ?_ | ((refine AtT.kneI ?_)))
  all_goals (refine AtT.setF (d := 122) rfl ((by simp)) ?_)
  all_goals (refine AtT.kpick ?_)
  all_goals (refine AtT.kmove ?_)
  all_goals (first | refine AtT.kL 124 ?_ | refine AtT.pcase (d := 124) rfl (fun hg124 => ?_) (fun hg124 => ?_) | refine AtT.bcase (d := 124) rfl (fun hg124 => ?_) (fun hg124 => ?_))
  all_goals (first | refine AtT.kpass ?_ | refine AtT.kpassU ?_ | ((refine AtT.kmove ?_)))
  all_goals (first | refine AtT.kpassN ?_ | refine AtT.kpassNU ?_ | ((refine AtT.kcallP rfl rfl ok17 (long_f _ _ _ hz) ?_) ; (rintro _ rfl)))
  all_goals (refine AtT.setF (d := 126) rfl ((by omega)) ?_)
  all_goals (refine AtT.kpick ?_)
  all_goals refine AtT.done ?_
  all_goals (refine At.nrm ?_)
  refine At.condF rfl rfl ?_
  refine At.nrm ?_
  obtain ⟨az, cz, rfl, _⟩ := id hz
  by_cases he : rowE d ps sure = 0
  rotate_left
  · have hmn : mkkL d ps sure = [] := by unfold mkkL; rw [if_neg he]
    refine At.ktext (.q 0 (.q 1 .done)) ?_
    refine AtT.kmove ?_
    refine AtT.kneI ?_
    refine AtT.done ?_
    refine At.nrm ?_
    refine At.condT rfl (decide_eq_true he) ?_
    refine At.nrm ?_
    refine At.ktext (.q 0 (.q 1 (.q 2 (.q 3 (.n false 4 (.q 5 (.q 6 .done))))))) ?_
    refine AtT.kmove ?_
    first | refine AtT.klenS Try.underlying27 ?_ | refine AtT.klenR Try.underlying27 ?_
    refine AtT.keqI ?_
    refine AtT.setT (d := 132) rfl ((by rw [hmn]; rfl)) ?_
    refine AtT.kmove ?_
    all_goals (first | refine AtT.kL 133 ?_ | refine AtT.pcase (d := 133) rfl (fun hg133 => ?_) (fun hg133 => ?_) | refine AtT.bcase (d := 133) rfl (fun hg133 => ?_) (fun hg133 => ?_))
    all_goals (first | refine AtT.kpassN ?_ | refine AtT.kpassNU ?_ | ((refine AtT.kcallP rfl rfl ok18 (works_f _) ?_) ; (rintro _ rfl)))
    all_goals (refine AtT.kpick ?_)
    all_goals (refine AtT.kassign ?_)
    all_goals refine AtT.done ?_
    all_goals (refine At.nrm ?_)
    exact At.ret1 rfl (.tmp rfl) rfl
  obtain ⟨hb0, hf⟩ := rowE_ok he
  have hbl := bn_len d ps sure
  have hmr : mkR d ps sure (mkkL d ps sure) = (((mkkL d ps sure).length : Int), 0) := by
    refine mkR_ok hb0 ?_ ?_
    · unfold mkkL; rw [if_pos he, ← hbl]; exact mk_lst _
    · unfold mkkL; rw [if_pos he, ← hbl]; exact mk_mks _
  have hlen : ((mkkL d ps sure).length : Int) = batN (rwL d ps sure) := by
    unfold mkkL rwL; rw [if_pos he, if_pos he, ← hbl]; exact mk_len hf
  have hrb : ∀ x ∈ rwL d ps sure, -1000000 ≤ x ∧ x < 1000000 := fun x hx => by
    unfold rwL at hx; rw [if_pos he] at hx
    have h1 := (plan_bat (row_plan hf)).2 x hx
    rw [row_len, hbl] at h1
    omega
  refine At.ktext (.q 0 (.q 1 .done)) ?_
  refine AtT.kmove ?_
  refine AtT.kneI ?_
  refine AtT.done ?_
  refine At.nrm ?_
  refine At.condF rfl (decide_eq_false (by simp [he])) ?_
  refine At.nrm ?_
  refine At.ktext (.q 0 (.q 1 (.q 2 (.q 3 (.n false 4 (.q 5 (.q 6 (.q 7 (.q 8 (.q 9 .done)))))))))) ?_
  first | refine AtT.kloadOA tk25 ?_ | refine AtT.kloadA tk25 ?_ | refine AtT.kloadOP tk25 ?_
  refine AtT.kmove ?_
  refine AtT.kmove ?_
  refine AtT.kmove ?_
  refine AtT.kcallP rfl rfl ok30 (rcheckMarks_f d ps sure _ _ _ _ hs9 hz) ?_
  rintro _ rfl; rw [hmr]
  refine AtT.kmove ?_
  refine AtT.kextract ?_
  refine AtT.kextract ?_
  refine AtT.kassign ?_
  refine AtT.kassign ?_
  refine AtT.done ?_
  refine At.nrm ?_
  refine At.ktext (.q 0 (.q 1 (.q 2 (.q 3 (.q 4 (.n false 5 (.q 6 (.q 7 (.q 8 (.n false 9 (.q 10 (.q 11 .done)))))))))))) ?_
  refine AtT.kmove ?_
  refine AtT.keqI ?_
  refine AtT.kmove ?_
  all_goals (first | refine AtT.kL 146 ?_ | refine AtT.pcase (d := 146) rfl (fun hg146 => ?_) (fun hg146 => ?_) | refine AtT.bcase (d := 146) rfl (fun hg146 => ?_) (fun hg146 => ?_))
  all_goals (first | refine AtT.kpass ?_ | refine AtT.kpassU ?_ | ((refine AtT.kmove ?_)))
  all_goals (first | refine AtT.kpass ?_ | refine AtT.kpassU ?_ | ((refine AtT.kmove ?_)))
  all_goals (first | refine AtT.kpassN ?_ | refine AtT.kpassNU ?_ | ((refine AtT.kcallP rfl rfl ok33 (bat_f _ hrb _ _ hy9) ?_) ; (rintro _ rfl)))
  all_goals (first | refine AtT.kpass ?_ | refine AtT.kpassU ?_ | ((refine AtT.keqI ?_)))
  all_goals (refine AtT.setT (d := 150) rfl (hlen) ?_)
  all_goals (refine AtT.kpick ?_)
  all_goals (refine AtT.kmove ?_)
  all_goals (first | refine AtT.kL 152 ?_ | refine AtT.pcase (d := 152) rfl (fun hg152 => ?_) (fun hg152 => ?_) | refine AtT.bcase (d := 152) rfl (fun hg152 => ?_) (fun hg152 => ?_))
  all_goals (first | refine AtT.kpassN ?_ | refine AtT.kpassNU ?_ | ((refine AtT.kcallP rfl rfl ok18 (works_f _) ?_) ; (rintro _ rfl)))
  all_goals (refine AtT.kpick ?_)
  all_goals (refine AtT.kassign ?_)
  all_goals refine AtT.done ?_
  all_goals (refine At.nrm ?_)
  exact At.ret1 rfl (.tmp rfl) rfl
theorem gluePlans_f (d : Dy) (ps : List Pn) (sure : Bool) (l : List Int) (V : View) (v vl : Value) (hs : Sl V pne 3 v ps) (hl : SlI V vl l) : Fnc Try.prog 5 [dyv d, v, .bool sure, vl] V fun r _ => r = .bool true := by
  refine fn_of Try.func5 rfl Try.ntmps5 (Nat.le_of_ble_eq_true rfl) ?_
  intro w0 hw0
  refine At.nrm ?_
  refine At.ktext (.n false 0 (.q 1 .done)) ?_
  refine AtT.kbox ?_
  intro b4
  refine AtT.kassign ?_
  refine AtT.done ?_
  refine At.nrm ?_
  by_cases g1 : 16 < (ps.length : Int)
  · refine At.ktext (.q 0 (.n false 1 (.q 2 (.q 3 (.n false 4 (.q 5 .done)))))) ?_
    refine AtT.kmove ?_
    refine AtT.kcallP rfl rfl ok16 (great_f ps _ _ hs) ?_
    rintro _ rfl
    refine AtT.setT (d := 28) rfl (g1) ?_
    refine AtT.kmove ?_
    all_goals (first | refine AtT.kL 29 ?_ | refine AtT.pcase (d := 29) rfl (fun hg29 => ?_) (fun hg29 => ?_) | refine AtT.bcase (d := 29) rfl (fun hg29 => ?_) (fun hg29 => ?_))
    all_goals (first | refine AtT.kpass ?_ | refine AtT.kpassU ?_ | ((refine AtT.kmove ?_)))
    all_goals (first | refine AtT.kpassN ?_ | refine AtT.kpassNU ?_ | ((fail)))
    all_goals (refine AtT.kpick ?_)
    all_goals refine AtT.done ?_
    all_goals (refine At.nrm ?_)
    refine At.condT rfl rfl ?_
    refine At.nrm ?_
    refine At.ktext (.n false 0 (.q 1 .done)) ?_
    refine AtT.kcallP rfl rfl ok18 (works_f _) ?_
    rintro _ rfl
    refine AtT.kassign ?_
    refine AtT.done ?_
    refine At.nrm ?_
    exact At.ret1 rfl (.tmp rfl) rfl
  by_cases g2 : 20 < (l.length : Int)
  · refine At.ktext (.q 0 (.n false 1 (.q 2 (.q 3 (.n false 4 (.q 5 .done)))))) ?_
    refine AtT.kmove ?_
    refine AtT.kcallP rfl rfl ok16 (great_f ps _ _ hs) ?_
    rintro _ rfl
    refine AtT.setF (d := 28) rfl (g1) ?_
    refine AtT.kmove ?_
    all_goals (first | refine AtT.kL 29 ?_ | refine AtT.pcase (d := 29) rfl (fun hg29 => ?_) (fun hg29 => ?_) | refine AtT.bcase (d := 29) rfl (fun hg29 => ?_) (fun hg29 => ?_))
    all_goals (first | refine AtT.kpass ?_ | refine AtT.kpassU ?_ | ((refine AtT.kmove ?_)))
    all_goals (first | refine AtT.kpassN ?_ | refine AtT.kpassNU ?_ | ((refine AtT.kcallP rfl rfl ok17 (long_f l _ _ hl) ?_) ; (rintro _ rfl)))
    all_goals (refine AtT.setT (d := 31) rfl (g2) ?_)
    all_goals (refine AtT.kpick ?_)
    all_goals refine AtT.done ?_
    all_goals (refine At.nrm ?_)
    refine At.condT rfl rfl ?_
    refine At.nrm ?_
    refine At.ktext (.n false 0 (.q 1 .done)) ?_
    refine AtT.kcallP rfl rfl ok18 (works_f _) ?_
    rintro _ rfl
    refine AtT.kassign ?_
    refine AtT.done ?_
    refine At.nrm ?_
    exact At.ret1 rfl (.tmp rfl) rfl
  refine At.ktext (.q 0 (.n false 1 (.q 2 (.q 3 (.n false 4 (.q 5 .done)))))) ?_
  refine AtT.kmove ?_
  refine AtT.kcallP rfl rfl ok16 (great_f ps _ _ hs) ?_
  rintro _ rfl
  refine AtT.setF (d := 28) rfl (g1) ?_
  refine AtT.kmove ?_
  all_goals (first | refine AtT.kL 29 ?_ | refine AtT.pcase (d := 29) rfl (fun hg29 => ?_) (fun hg29 => ?_) | refine AtT.bcase (d := 29) rfl (fun hg29 => ?_) (fun hg29 => ?_))
  all_goals (first | refine AtT.kpass ?_ | refine AtT.kpassU ?_ | ((refine AtT.kmove ?_)))
  all_goals (first | refine AtT.kpassN ?_ | refine AtT.kpassNU ?_ | ((refine AtT.kcallP rfl rfl ok17 (long_f l _ _ hl) ?_) ; (rintro _ rfl)))
  all_goals (refine AtT.setF (d := 31) rfl (g2) ?_)
  all_goals (refine AtT.kpick ?_)
  all_goals refine AtT.done ?_
  all_goals (refine At.nrm ?_)
  refine At.condF rfl rfl ?_
  refine At.nrm ?_
  refine At.ktext (.q 0 (.q 1 (.q 2 (.q 3 (.n false 4 (.q 5 (.q 6 (.q 7 (.q 8 (.q 9 .done)))))))))) ?_
  first | refine AtT.kloadOA tk25 ?_ | refine AtT.kloadA tk25 ?_ | refine AtT.kloadOP tk25 ?_
  refine AtT.kmove ?_
  refine AtT.kmove ?_
  refine AtT.kmove ?_
  refine AtT.kcallP rfl rfl ok34 (checkPlan_f d ps sure l _ _ _ hs hl) ?_
  rintro _ rfl
  refine AtT.kmove ?_
  refine AtT.kextract ?_
  refine AtT.kextract ?_
  refine AtT.kassign ?_
  refine AtT.kassign ?_
  refine AtT.done ?_
  refine At.nrm ?_
  refine At.ktext (.q 0 (.q 1 (.q 2 (.q 3 (.n false 4 (.q 5 (.q 6 (.q 7 (.q 8 (.q 9 .done)))))))))) ?_
  first | refine AtT.kloadOA tk25 ?_ | refine AtT.kloadA tk25 ?_ | refine AtT.kloadOP tk25 ?_
  refine AtT.kmove ?_
  refine AtT.kmove ?_
  refine AtT.kmove ?_
  refine AtT.kcallP rfl rfl ok35 (rcheckPlan_f d ps sure l _ _ _ hs hl) ?_
  rintro _ rfl
  refine AtT.kmove ?_
  refine AtT.kextract ?_
  refine AtT.kextract ?_
  refine AtT.kassign ?_
  refine AtT.kassign ?_
  refine AtT.done ?_
  refine At.nrm ?_
  refine At.ktext (.q 0 (.q 1 (.q 2 (.n false 3 (.q 4 (.q 5 (.q 6 (.q 7 (.q 8 .done))))))))) ?_
  first | refine AtT.kloadOA tk25 ?_ | refine AtT.kloadA tk25 ?_ | refine AtT.kloadOP tk25 ?_
  refine AtT.kmove ?_
  refine AtT.kmove ?_
  refine AtT.kcall rfl rfl ok36 (plan_f d ps sure _ _ hs) ?_
  rintro _ V5 hV5 ⟨x, rfl, hx⟩
  refine AtT.kmove ?_
  refine AtT.kextract ?_
  refine AtT.kextract ?_
  refine AtT.kassign ?_
  refine AtT.kassign ?_
  refine AtT.done ?_
  refine At.nrm ?_
  refine At.ktext (.q 0 (.q 1 (.q 2 (.n false 3 (.q 4 (.q 5 (.q 6 (.q 7 (.q 8 .done))))))))) ?_
  first | refine AtT.kloadOA tk25 ?_ | refine AtT.kloadA tk25 ?_ | refine AtT.kloadOP tk25 ?_
  refine AtT.kmove ?_
  refine AtT.kmove ?_
  refine AtT.kcall rfl rfl ok37 (rplan_f d ps sure _ _ (hs.le hV5)) ?_
  rintro _ V6 hV6 ⟨y, rfl, hy⟩
  refine AtT.kmove ?_
  refine AtT.kextract ?_
  refine AtT.kextract ?_
  refine AtT.kassign ?_
  refine AtT.kassign ?_
  refine AtT.done ?_
  refine At.nrm ?_
  have hV := hV5.trans hV6
  refine At.ktext (.q 0 (.q 1 (.q 2 (.n false 3 (.q 4 (.q 5 (.q 6 (.q 7 (.q 8 .done))))))))) ?_
  first | refine AtT.kloadOA tk25 ?_ | refine AtT.kloadA tk25 ?_ | refine AtT.kloadOP tk25 ?_
  refine AtT.kmove ?_
  refine AtT.kmove ?_
  refine AtT.kcallP rfl rfl ok38 (bound_f d ps sure _ _ (hs.le hV)) ?_
  rintro _ rfl
  refine AtT.kmove ?_
  refine AtT.kextract ?_
  refine AtT.kextract ?_
  refine AtT.kassign ?_
  refine AtT.kassign ?_
  refine AtT.done ?_
  refine At.nrm ?_
  refine At.ktext (.q 0 (.q 1 (.q 2 (.n false 3 (.q 4 (.q 5 (.q 6 (.q 7 (.q 8 .done))))))))) ?_
  first | refine AtT.kloadOA tk25 ?_ | refine AtT.kloadA tk25 ?_ | refine AtT.kloadOP tk25 ?_
  refine AtT.kmove ?_
  refine AtT.kmove ?_
  refine AtT.kcallP rfl rfl ok39 (rbound_f d ps sure _ _ (hs.le hV)) ?_
  rintro _ rfl
  refine AtT.kmove ?_
  refine AtT.kextract ?_
  refine AtT.kextract ?_
  refine AtT.kassign ?_
  refine AtT.kassign ?_
  refine AtT.done ?_
  refine At.nrm ?_
  refine At.ktext (.q 0 (.q 1 (.q 2 (.q 3 (.n false 4 (.q 5 (.q 6 (.q 7 (.q 8 (.q 9 (.q 10 (.q 11 .done)))))))))))) ?_
  first | refine AtT.kloadOA tk25 ?_ | refine AtT.kloadA tk25 ?_ | refine AtT.kloadOP tk25 ?_
  refine AtT.kmove ?_
  refine AtT.kmove ?_
  refine AtT.kmove ?_
  refine AtT.kcallP rfl rfl ok40 (spares_f d ps sure l _ _ _ (hs.le hV) (hl.le hV)) ?_
  rintro _ rfl
  refine AtT.kmove ?_
  refine AtT.kextract ?_
  refine AtT.kextract ?_
  refine AtT.kextract ?_
  refine AtT.kassign ?_
  refine AtT.kassign ?_
  refine AtT.kassign ?_
  refine AtT.done ?_
  refine At.nrm ?_
  refine At.ktext (.q 0 (.q 1 (.q 2 (.q 3 (.n false 4 (.q 5 (.q 6 (.q 7 (.q 8 (.q 9 (.q 10 (.q 11 .done)))))))))))) ?_
  first | refine AtT.kloadOA tk25 ?_ | refine AtT.kloadA tk25 ?_ | refine AtT.kloadOP tk25 ?_
  refine AtT.kmove ?_
  refine AtT.kmove ?_
  refine AtT.kmove ?_
  refine AtT.kcallP rfl rfl ok41 (rspares_f d ps sure l _ _ _ (hs.le hV) (hl.le hV)) ?_
  rintro _ rfl
  refine AtT.kmove ?_
  refine AtT.kextract ?_
  refine AtT.kextract ?_
  refine AtT.kextract ?_
  refine AtT.kassign ?_
  refine AtT.kassign ?_
  refine AtT.kassign ?_
  refine AtT.done ?_
  refine At.nrm ?_
  refine At.ktext (.q 0 (.q 1 (.q 2 (.q 3 (.q 4 (.q 5 (.q 6 (.q 7 (.q 8 (.q 9 (.q 10 (.n false 11 (.q 12 (.q 13 (.q 14 (.q 15 (.q 16 (.q 17 (.q 18 (.q 19 (.q 20 (.q 21 (.q 22 (.q 23 (.q 24 (.q 25 (.q 26 (.q 27 (.q 28 (.q 29 (.q 30 (.q 31 (.q 32 (.q 33 (.q 34 (.q 35 (.q 36 (.q 37 (.q 38 (.q 39 (.q 40 (.q 41 (.q 42 (.q 43 (.n false 44 (.q 45 (.q 46 .done))))))))))))))))))))))))))))))))))))))))))))))) ?_
  refine AtT.kmove ?_
  refine AtT.kmove ?_
  refine AtT.keqI ?_
  refine AtT.setT (d := 98) rfl (rfl) ?_
  refine AtT.kmove ?_
  all_goals (first | refine AtT.kL 99 ?_ | refine AtT.pcase (d := 99) rfl (fun hg99 => ?_) (fun hg99 => ?_) | refine AtT.bcase (d := 99) rfl (fun hg99 => ?_) (fun hg99 => ?_))
  all_goals (first | refine AtT.kpass ?_ | refine AtT.kpassU ?_ | ((refine AtT.kmove ?_)))
  all_goals (first | refine AtT.kpass ?_ | refine AtT.kpassU ?_ | ((refine AtT.kmove ?_)))
  all_goals (first | refine AtT.kpass ?_ | refine AtT.kpassU ?_ | ((refine AtT.keqI ?_)))
  all_goals (refine AtT.setT (d := 102) rfl (rfl) ?_)
  all_goals (refine AtT.kpick ?_)
  all_goals (refine AtT.kmove ?_)
  all_goals (first | refine AtT.kL 104 ?_ | refine AtT.pcase (d := 104) rfl (fun hg104 => ?_) (fun hg104 => ?_) | refine AtT.bcase (d := 104) rfl (fun hg104 => ?_) (fun hg104 => ?_))
  all_goals (first | refine AtT.kpass ?_ | refine AtT.kpassU ?_ | ((refine AtT.kmove ?_)))
  all_goals (first | refine AtT.kpass ?_ | refine AtT.kpassU ?_ | ((refine AtT.kmove ?_)))
  all_goals (first | refine AtT.kpassN ?_ | refine AtT.kpassNU ?_ | ((refine AtT.kcallP rfl rfl ok32 (ints_f _ _ _ _ _ (hx.le hV6) hy) ?_) ; (rintro _ rfl)))
  all_goals (refine AtT.setT (d := 107) rfl (rfl) ?_)
  all_goals (refine AtT.kpick ?_)
  all_goals (refine AtT.kmove ?_)
  all_goals (first | refine AtT.kL 109 ?_ | refine AtT.pcase (d := 109) rfl (fun hg109 => ?_) (fun hg109 => ?_) | refine AtT.bcase (d := 109) rfl (fun hg109 => ?_) (fun hg109 => ?_))
  all_goals (first | refine AtT.kpass ?_ | refine AtT.kpassU ?_ | ((refine AtT.kmove ?_)))
  all_goals (first | refine AtT.kpass ?_ | refine AtT.kpassU ?_ | ((refine AtT.kmove ?_)))
  all_goals (first | refine AtT.kpass ?_ | refine AtT.kpassU ?_ | ((refine AtT.keqI ?_)))
  all_goals (refine AtT.setT (d := 112) rfl (rfl) ?_)
  all_goals (refine AtT.kpick ?_)
  all_goals (refine AtT.kmove ?_)
  all_goals (first | refine AtT.kL 114 ?_ | refine AtT.pcase (d := 114) rfl (fun hg114 => ?_) (fun hg114 => ?_) | refine AtT.bcase (d := 114) rfl (fun hg114 => ?_) (fun hg114 => ?_))
  all_goals (first | refine AtT.kpass ?_ | refine AtT.kpassU ?_ | ((refine AtT.kmove ?_)))
  all_goals (first | refine AtT.kpass ?_ | refine AtT.kpassU ?_ | ((refine AtT.kmove ?_)))
  all_goals (first | refine AtT.kpass ?_ | refine AtT.kpassU ?_ | ((refine AtT.keqI ?_)))
  all_goals (refine AtT.setT (d := 117) rfl (rfl) ?_)
  all_goals (refine AtT.kpick ?_)
  all_goals (refine AtT.kmove ?_)
  all_goals (first | refine AtT.kL 119 ?_ | refine AtT.pcase (d := 119) rfl (fun hg119 => ?_) (fun hg119 => ?_) | refine AtT.bcase (d := 119) rfl (fun hg119 => ?_) (fun hg119 => ?_))
  all_goals (first | refine AtT.kpass ?_ | refine AtT.kpassU ?_ | ((refine AtT.kmove ?_)))
  all_goals (first | refine AtT.kpass ?_ | refine AtT.kpassU ?_ | ((refine AtT.kmove ?_)))
  all_goals (first | refine AtT.kpass ?_ | refine AtT.kpassU ?_ | ((refine AtT.keqI ?_)))
  all_goals (refine AtT.setT (d := 122) rfl (rfl) ?_)
  all_goals (refine AtT.kpick ?_)
  all_goals (refine AtT.kmove ?_)
  all_goals (first | refine AtT.kL 124 ?_ | refine AtT.pcase (d := 124) rfl (fun hg124 => ?_) (fun hg124 => ?_) | refine AtT.bcase (d := 124) rfl (fun hg124 => ?_) (fun hg124 => ?_))
  all_goals (first | refine AtT.kpass ?_ | refine AtT.kpassU ?_ | ((refine AtT.kmove ?_)))
  all_goals (first | refine AtT.kpass ?_ | refine AtT.kpassU ?_ | ((refine AtT.kmove ?_)))
  all_goals (first | refine AtT.kpass ?_ | refine AtT.kpassU ?_ | ((refine AtT.keqI ?_)))
  all_goals (refine AtT.setT (d := 127) rfl (rfl) ?_)
  all_goals (refine AtT.kpick ?_)
  all_goals (refine AtT.kmove ?_)
  all_goals (first | refine AtT.kL 129 ?_ | refine AtT.pcase (d := 129) rfl (fun hg129 => ?_) (fun hg129 => ?_) | refine AtT.bcase (d := 129) rfl (fun hg129 => ?_) (fun hg129 => ?_))
  all_goals (first | refine AtT.kpass ?_ | refine AtT.kpassU ?_ | ((refine AtT.kmove ?_)))
  all_goals (first | refine AtT.kpass ?_ | refine AtT.kpassU ?_ | ((refine AtT.kmove ?_)))
  all_goals (first | refine AtT.kpass ?_ | refine AtT.kpassU ?_ | ((refine AtT.keqI ?_)))
  all_goals (refine AtT.setT (d := 132) rfl (rfl) ?_)
  all_goals (refine AtT.kpick ?_)
  all_goals (refine AtT.kmove ?_)
  all_goals (first | refine AtT.kL 134 ?_ | refine AtT.pcase (d := 134) rfl (fun hg134 => ?_) (fun hg134 => ?_) | refine AtT.bcase (d := 134) rfl (fun hg134 => ?_) (fun hg134 => ?_))
  all_goals (first | refine AtT.kpass ?_ | refine AtT.kpassU ?_ | ((refine AtT.kmove ?_)))
  all_goals (first | refine AtT.kpass ?_ | refine AtT.kpassU ?_ | ((refine AtT.kmove ?_)))
  all_goals (first | refine AtT.kpass ?_ | refine AtT.kpassU ?_ | ((refine AtT.keqI ?_)))
  all_goals (refine AtT.setT (d := 137) rfl (rfl) ?_)
  all_goals (refine AtT.kpick ?_)
  all_goals (refine AtT.kmove ?_)
  all_goals (first | refine AtT.kL 139 ?_ | refine AtT.pcase (d := 139) rfl (fun hg139 => ?_) (fun hg139 => ?_) | refine AtT.bcase (d := 139) rfl (fun hg139 => ?_) (fun hg139 => ?_))
  all_goals (first | refine AtT.kpassN ?_ | refine AtT.kpassNU ?_ | ((refine AtT.kcallP rfl rfl ok18 (works_f _) ?_) ; (rintro _ rfl)))
  all_goals (refine AtT.kpick ?_)
  all_goals (refine AtT.kassign ?_)
  all_goals refine AtT.done ?_
  all_goals (refine At.nrm ?_)
  exact At.ret1 rfl (.tmp rfl) rfl
end Go.Proofs.Ytmnbkceiaifncaa
set_option linter.unusedVariables false
namespace Go.Proofs.Ytmnbkceiaifncaa.c3
open Go.Lw Go.Gl Go.RowKit Go.ChangeShapes Go.WideShapes Go.ChangeAt

set_option maxRecDepth 100000 in
theorem lifted (os : Os) (started : os.Started) (H : Type) (enc : TypeId × Value → H) :
    ReturnsInHanded {} Try.checked os 5 .any (Rows.gluePlansSpec.pre6 enc Try.prog Try.f5 Rows.gluePlansRow.domain false) (Rows.gluePlansSpec.post enc Try.prog Try.f5 false true false false) := by
  refine law_lift (tb := 4) (fun ds hd => by match ds, hd with | [d0, d1, d2, d3], _ => rfl) rfl (by kernel_rfl) Try.underlying4 laidOut (by kernel_rfl) own started (by kernel_rfl) Try.func5
    (ChangeSpec.witness6 (enc := enc) (C := Try.checked) false ⟨#[], #[.agg #[.int .i64 0, .int .i64 0, .int .i64 0], .slice none 0 0, .bool false, .slice none 0 0], []⟩ 8 (by kernel_rfl) (by kernel_rfl) (by kernel_rfl) (by kernel_rfl)) ?_
  intro W base args ds ps hval hA
  rw [Try.params5] at hA hval
  obtain ⟨v0, vs0, d0, ds0, p0, q0, hargs, rfl, rfl, h0, r0⟩ := trodAll_cons hA
  obtain ⟨v1, vs1, d1, ds1, p1, q1, rfl, rfl, rfl, h1, r1⟩ := trodAll_cons r0
  obtain ⟨v2, vs2, d2, ds2, p2, q2, rfl, rfl, rfl, h2, r2⟩ := trodAll_cons r1
  obtain ⟨v3, vs3, d3, ds3, p3, q3, rfl, rfl, rfl, h3, r3⟩ := trodAll_cons r2
  obtain ⟨rfl, rfl, rfl⟩ := trodAll_nil r3
  obtain rfl : args = #[v0, v1, v2, v3] := by cases args; simp_all
  obtain ⟨x0, rfl⟩ := open_day (hval 0 25 v0 rfl rfl) h0
  obtain ⟨l1, a1, c1, rfl, s1⟩ := rd_panels (hval 1 26 v1 rfl rfl) h1
  obtain ⟨x2, rfl, _, _⟩ := open_bool Try.underlying4 (hval 2 4 v2 rfl rfl) h2
  obtain ⟨l3, a3, c3, rfl, s3⟩ := rd_ints (hval 3 27 v3 rfl rfl) h3
  exact ⟨[dyv x0, .slice a1 l1.length c1, .bool x2, .slice a3 l3.length c3], rfl, gluePlans_f x0 l1 x2 l3 _ _ _ s1 s3⟩

theorem over : Rows.gluePlansRow.holds Try.pinned (OpenSpec.ofChange Rows.gluePlansSpec) :=
  OpenClaim.holds_of_wide 5 Try.f5 rfl rfl rfl rfl rfl rfl rfl ⟨rfl, rfl, rfl, rfl, rfl⟩ rfl rfl rfl rfl rfl (by kernel_rfl) Try.func5 (by kernel_rfl)
    (of_decide_eq_true (by kernel_rfl)) (by unfold Func.isWrapper; first | (rw [if_pos (by decide +kernel)]; kernel_rfl) | (rw [if_neg (by decide +kernel)]; exact ⟨rfl, rfl⟩))
    (fun os started H enc _ => lifted os started H enc)

theorem proved : Rows.GluePlansSaid := over
#print axioms proved
end Go.Proofs.Ytmnbkceiaifncaa.c3
