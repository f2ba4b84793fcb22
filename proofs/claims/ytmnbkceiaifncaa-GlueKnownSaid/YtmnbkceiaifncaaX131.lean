/- The examples of the chapter: a closed statement. No condition. -/
import Derived.Test.YtmnbkceiaifncaaB5
set_option linter.unusedVariables false
set_option linter.unusedSimpArgs false
set_option linter.unusedSectionVars false
set_option linter.unusedVariables false
namespace Go.Gl
theorem wB1 : batR dW pW true [1, 2] = (30, 7, 0) := by decide +kernel
theorem wB2 : batR dW pW true [0, 2] = (0, 0, 22) := by decide +kernel
theorem wB3 : batR dW pW false [0, 1, 2, 3] = (0, 0, 10) := by decide +kernel
theorem wB4 : batR dW pW false [2, 1] = (0, 0, 2) := by decide +kernel
theorem wE1 : rowE dW pW true = 0 := by decide +kernel
theorem wE2 : rowE dW pW false = 0 := by decide +kernel
theorem wR1 : rwL dW pW true = [0, 0, 1, 1, 2] := by decide +kernel
theorem wR2 : rwL dW pW false = [0, 0, 0, 1, 1] := by decide +kernel
theorem wC1 : plR dW pW true [0, 1, 1, 1, 2] true = (0, 22) := by decide +kernel
theorem wC2 : plR dW pW true [0, 0, 2, 2, 2] true = (0, 16) := by decide +kernel
theorem wC3 : plR dW pW true [0, 0, 1] true = (0, 15) := by decide +kernel
theorem wM1 : mkR dW pW true [0, 2, 4] = (3, 0) := by decide +kernel
theorem wM2 : mkR dW pW true [0, 1, 2] = (0, 14) := by decide +kernel
theorem wM3 : mkR dW pW true (mkkL dW pW true) = (3, 0) := by decide +kernel
theorem wP1 : pnL dW pW true = [0, 1, 1, 0, 0] := by decide +kernel
theorem wP2 : plR dW pW true [0, 1, 1, 0, 0] false = (2, 0) := by decide +kernel
theorem wP3 : plR dW pW true [0, 2, 1, 0, 0] false = (0, 16) := by decide +kernel
theorem wD1 : bdR dW pW true = (2, 0) := by decide +kernel
theorem wO0 : bothE dW pW = 0 := by decide +kernel
theorem wA1 : apG (bn dW pW true) pW.length [] [] = [0, 2] := by decide +kernel
theorem wA2 : apR dW pW true [2, 4] = 0 := by decide +kernel
theorem wA3 : apR dW pW true [1, 2] = 16 := by decide +kernel
theorem wS1 : spR dW pW true [0, 0, 1, 1, 2] = (4, 4, 0) := by decide +kernel
end Go.Gl
namespace Go.Proofs.Ytmnbkceiaifncaa
open Go.Lw Go.Gl Go.RowKit
set_option maxRecDepth 20000 in
theorem works_f (V : View) : Fnc Try.prog 18 [] V fun r _ => r = .bool true := by
  refine fn_of Try.func18 rfl Try.ntmps18 (Nat.le_of_ble_eq_true rfl) ?_
  intro w0 hw0
  refine At.nrm ?_
  refine At.ktext (.q 0 .done) ?_
  refine AtT.kassign ?_
  refine AtT.done ?_
  refine At.nrm ?_
  refine At.ktext (.n false 0 (.n false 1 (.n false 2 (.n true 3 (.q 4 .done))))) ?_
  refine AtT.kcallP rfl rfl ok54 (warm_f _) ?_
  rintro _ rfl
  refine AtT.kcall rfl rfl ok55 (five_f _) ?_
  rintro _ V1 hV1 ⟨a2, c2, rfl, hs⟩
  refine AtT.kalloc z25 ?_
  intro b1
  refine AtT.kstoreA tk25 ?_
  refine AtT.kassign ?_
  refine AtT.done ?_
  refine At.nrm ?_
  refine At.draw (.q 0 (.q 1 (.n false 2 (.n false 3 (.n false 4 (.q 5 (.q 6 (.q 7 (.q 8 (.q 9 (.q 10 (.q 11 .done)))))))))))) ffm (by kernel_rfl) ?_
  first | refine AtT.kloadOA tk25 ?_ | refine AtT.kloadA tk25 ?_ | refine AtT.kloadOP tk25 ?_
  refine AtT.kmove ?_
  refine AtT.kbsliceG (bs27_2_0_1 _ _) ?_
  intro q53 V53 hV53 hq53
  refine AtT.kcallP rfl rfl ok56 (of56_f _ _) ?_
  rintro _ rfl
  refine AtT.kcallP rfl rfl ok19 (checkBatch_f dW pW true [1, 2] _ _ _ (hs.le hV53) (Sl.lit hq53 rfl (by simp))) ?_
  rintro _ rfl; rw [wB1]
  refine AtT.kmove ?_
  refine AtT.kextract ?_
  refine AtT.kextract ?_
  refine AtT.kextract ?_
  refine AtT.kassign ?_
  refine AtT.kassign ?_
  refine AtT.kassign ?_
  refine AtT.done ?_
  refine At.nrm ?_
  replace hs := hs.le hV53
  refine At.draw (.q 0 (.q 1 (.n false 2 (.n false 3 (.n false 4 (.q 5 (.q 6 (.q 7 (.q 8 (.q 9 (.q 10 (.q 11 .done)))))))))))) ffm (by kernel_rfl) ?_
  first | refine AtT.kloadOA tk25 ?_ | refine AtT.kloadA tk25 ?_ | refine AtT.kloadOP tk25 ?_
  refine AtT.kmove ?_
  refine AtT.kbsliceG (bs27_2_0_1 _ _) ?_
  intro q62 V62 hV62 hq62
  refine AtT.kcallP rfl rfl ok56 (of56_f _ _) ?_
  rintro _ rfl
  refine AtT.kcallP rfl rfl ok19 (checkBatch_f dW pW true [0, 2] _ _ _ (hs.le hV62) (Sl.lit hq62 rfl (by simp))) ?_
  rintro _ rfl; rw [wB2]
  refine AtT.kmove ?_
  refine AtT.kextract ?_
  refine AtT.kextract ?_
  refine AtT.kextract ?_
  refine AtT.kassign ?_
  refine AtT.kassign ?_
  refine AtT.kassign ?_
  refine AtT.done ?_
  refine At.nrm ?_
  replace hs := hs.le hV62
  refine At.draw (.q 0 (.q 1 (.n false 2 (.n false 3 (.n false 4 (.q 5 (.q 6 (.q 7 (.q 8 (.q 9 (.q 10 (.q 11 .done)))))))))))) ffm (by kernel_rfl) ?_
  first | refine AtT.kloadOA tk25 ?_ | refine AtT.kloadA tk25 ?_ | refine AtT.kloadOP tk25 ?_
  refine AtT.kmove ?_
  refine AtT.kbsliceG (bs27_4_0_1_2_3 _ _ _ _) ?_
  intro q71 V71 hV71 hq71
  refine AtT.kcallP rfl rfl ok56 (of56_f _ _) ?_
  rintro _ rfl
  refine AtT.kcallP rfl rfl ok19 (checkBatch_f dW pW false [0, 1, 2, 3] _ _ _ (hs.le hV71) (Sl.lit hq71 rfl (by simp))) ?_
  rintro _ rfl; rw [wB3]
  refine AtT.kmove ?_
  refine AtT.kextract ?_
  refine AtT.kextract ?_
  refine AtT.kextract ?_
  refine AtT.kassign ?_
  refine AtT.kassign ?_
  refine AtT.kassign ?_
  refine AtT.done ?_
  refine At.nrm ?_
  replace hs := hs.le hV71
  refine At.draw (.q 0 (.q 1 (.n false 2 (.n false 3 (.n false 4 (.q 5 (.q 6 (.q 7 (.q 8 (.q 9 (.q 10 (.q 11 .done)))))))))))) ffm (by kernel_rfl) ?_
  first | refine AtT.kloadOA tk25 ?_ | refine AtT.kloadA tk25 ?_ | refine AtT.kloadOP tk25 ?_
  refine AtT.kmove ?_
  refine AtT.kbsliceG (bs27_2_0_1 _ _) ?_
  intro q80 V80 hV80 hq80
  refine AtT.kcallP rfl rfl ok56 (of56_f _ _) ?_
  rintro _ rfl
  refine AtT.kcallP rfl rfl ok19 (checkBatch_f dW pW false [2, 1] _ _ _ (hs.le hV80) (Sl.lit hq80 rfl (by simp))) ?_
  rintro _ rfl; rw [wB4]
  refine AtT.kmove ?_
  refine AtT.kextract ?_
  refine AtT.kextract ?_
  refine AtT.kextract ?_
  refine AtT.kassign ?_
  refine AtT.kassign ?_
  refine AtT.kassign ?_
  refine AtT.done ?_
  refine At.nrm ?_
  replace hs := hs.le hV80
  refine At.ktext (.q 0 (.q 1 (.n false 2 (.q 3 (.q 4 (.q 5 (.q 6 (.q 7 .done)))))))) ?_
  first | refine AtT.kloadOA tk25 ?_ | refine AtT.kloadA tk25 ?_ | refine AtT.kloadOP tk25 ?_
  refine AtT.kmove ?_
  refine AtT.kcall rfl rfl ok27 (row_f dW pW true _ _ hs) ?_
  rintro _ V89 hV89 ⟨u89, rfl, hu89⟩; rw [wE1]
  refine AtT.kmove ?_
  refine AtT.kextract ?_
  refine AtT.kextract ?_
  refine AtT.kassign ?_
  refine AtT.kassign ?_
  refine AtT.done ?_
  refine At.nrm ?_
  rw [wR1] at hu89
  replace hs := hs.le hV89
  refine At.ktext (.q 0 (.q 1 (.n false 2 (.q 3 (.q 4 (.q 5 (.q 6 (.q 7 .done)))))))) ?_
  first | refine AtT.kloadOA tk25 ?_ | refine AtT.kloadA tk25 ?_ | refine AtT.kloadOP tk25 ?_
  refine AtT.kmove ?_
  refine AtT.kcall rfl rfl ok27 (row_f dW pW false _ _ hs) ?_
  rintro _ V95 hV95 ⟨u95, rfl, hu95⟩; rw [wE2]
  refine AtT.kmove ?_
  refine AtT.kextract ?_
  refine AtT.kextract ?_
  refine AtT.kassign ?_
  refine AtT.kassign ?_
  refine AtT.done ?_
  refine At.nrm ?_
  rw [wR2] at hu95
  replace hs := hs.le hV95
  replace hu89 := hu89.le hV95
  refine At.draw (.q 0 (.q 1 (.n false 2 (.n false 3 (.n false 4 (.q 5 (.q 6 (.q 7 (.q 8 (.q 9 .done)))))))))) ffm (by kernel_rfl) ?_
  first | refine AtT.kloadOA tk25 ?_ | refine AtT.kloadA tk25 ?_ | refine AtT.kloadOP tk25 ?_
  refine AtT.kmove ?_
  refine AtT.kbsliceG (bs27_5_0_1_2_3_4 _ _ _ _ _) ?_
  intro q101 V101 hV101 hq101
  refine AtT.kcallP rfl rfl ok56 (of56_f _ _) ?_
  rintro _ rfl
  refine AtT.kcallP rfl rfl ok25 (checkRow_f dW pW true [0, 1, 1, 1, 2] _ _ _ (hs.le hV101) (Sl.lit hq101 rfl (by simp))) ?_
  rintro _ rfl; rw [wC1]
  refine AtT.kmove ?_
  refine AtT.kextract ?_
  refine AtT.kextract ?_
  refine AtT.kassign ?_
  refine AtT.kassign ?_
  refine AtT.done ?_
  refine At.nrm ?_
  replace hs := hs.le hV101
  replace hu89 := hu89.le hV101
  replace hu95 := hu95.le hV101
  refine At.draw (.q 0 (.q 1 (.n false 2 (.n false 3 (.n false 4 (.q 5 (.q 6 (.q 7 (.q 8 (.q 9 .done)))))))))) ffm (by kernel_rfl) ?_
  first | refine AtT.kloadOA tk25 ?_ | refine AtT.kloadA tk25 ?_ | refine AtT.kloadOP tk25 ?_
  refine AtT.kmove ?_
  refine AtT.kbsliceG (bs27_5_0_1_2_3_4 _ _ _ _ _) ?_
  intro q109 V109 hV109 hq109
  refine AtT.kcallP rfl rfl ok56 (of56_f _ _) ?_
  rintro _ rfl
  refine AtT.kcallP rfl rfl ok25 (checkRow_f dW pW true [0, 0, 2, 2, 2] _ _ _ (hs.le hV109) (Sl.lit hq109 rfl (by simp))) ?_
  rintro _ rfl; rw [wC2]
  refine AtT.kmove ?_
  refine AtT.kextract ?_
  refine AtT.kextract ?_
  refine AtT.kassign ?_
  refine AtT.kassign ?_
  refine AtT.done ?_
  refine At.nrm ?_
  replace hs := hs.le hV109
  replace hu89 := hu89.le hV109
  replace hu95 := hu95.le hV109
  refine At.draw (.q 0 (.q 1 (.n false 2 (.n false 3 (.n false 4 (.q 5 (.q 6 (.q 7 (.q 8 (.q 9 .done)))))))))) ffm (by kernel_rfl) ?_
  first | refine AtT.kloadOA tk25 ?_ | refine AtT.kloadA tk25 ?_ | refine AtT.kloadOP tk25 ?_
  refine AtT.kmove ?_
  refine AtT.kbsliceG (bs27_3_0_1_2 _ _ _) ?_
  intro q117 V117 hV117 hq117
  refine AtT.kcallP rfl rfl ok56 (of56_f _ _) ?_
  rintro _ rfl
  refine AtT.kcallP rfl rfl ok25 (checkRow_f dW pW true [0, 0, 1] _ _ _ (hs.le hV117) (Sl.lit hq117 rfl (by simp))) ?_
  rintro _ rfl; rw [wC3]
  refine AtT.kmove ?_
  refine AtT.kextract ?_
  refine AtT.kextract ?_
  refine AtT.kassign ?_
  refine AtT.kassign ?_
  refine AtT.done ?_
  refine At.nrm ?_
  replace hs := hs.le hV117
  replace hu89 := hu89.le hV117
  replace hu95 := hu95.le hV117
  refine At.draw (.q 0 (.q 1 (.n false 2 (.n false 3 (.n false 4 (.q 5 (.q 6 (.q 7 (.q 8 (.q 9 .done)))))))))) ffm (by kernel_rfl) ?_
  first | refine AtT.kloadOA tk25 ?_ | refine AtT.kloadA tk25 ?_ | refine AtT.kloadOP tk25 ?_
  refine AtT.kmove ?_
  refine AtT.kbsliceG (bs27_3_0_1_2 _ _ _) ?_
  intro q125 V125 hV125 hq125
  refine AtT.kcallP rfl rfl ok56 (of56_f _ _) ?_
  rintro _ rfl
  refine AtT.kcallP rfl rfl ok29 (checkMarks_f dW pW true [0, 2, 4] _ _ _ (hs.le hV125) (Sl.lit hq125 rfl (by simp))) ?_
  rintro _ rfl; rw [wM1]
  refine AtT.kmove ?_
  refine AtT.kextract ?_
  refine AtT.kextract ?_
  refine AtT.kassign ?_
  refine AtT.kassign ?_
  refine AtT.done ?_
  refine At.nrm ?_
  replace hs := hs.le hV125
  replace hu89 := hu89.le hV125
  replace hu95 := hu95.le hV125
  refine At.draw (.q 0 (.q 1 (.n false 2 (.n false 3 (.n false 4 (.q 5 (.q 6 (.q 7 (.q 8 (.q 9 .done)))))))))) ffm (by kernel_rfl) ?_
  first | refine AtT.kloadOA tk25 ?_ | refine AtT.kloadA tk25 ?_ | refine AtT.kloadOP tk25 ?_
  refine AtT.kmove ?_
  refine AtT.kbsliceG (bs27_3_0_1_2 _ _ _) ?_
  intro q133 V133 hV133 hq133
  refine AtT.kcallP rfl rfl ok56 (of56_f _ _) ?_
  rintro _ rfl
  refine AtT.kcallP rfl rfl ok29 (checkMarks_f dW pW true [0, 1, 2] _ _ _ (hs.le hV133) (Sl.lit hq133 rfl (by simp))) ?_
  rintro _ rfl; rw [wM2]
  refine AtT.kmove ?_
  refine AtT.kextract ?_
  refine AtT.kextract ?_
  refine AtT.kassign ?_
  refine AtT.kassign ?_
  refine AtT.done ?_
  refine At.nrm ?_
  replace hs := hs.le hV133
  replace hu89 := hu89.le hV133
  replace hu95 := hu95.le hV133
  refine At.ktext (.q 0 (.q 1 (.n false 2 (.q 3 (.q 4 (.q 5 (.q 6 (.q 7 .done)))))))) ?_
  first | refine AtT.kloadOA tk25 ?_ | refine AtT.kloadA tk25 ?_ | refine AtT.kloadOP tk25 ?_
  refine AtT.kmove ?_
  refine AtT.kcall rfl rfl ok31 (marksF_f dW pW true _ _ hs) ?_
  rintro _ V141 hV141 ⟨u141, rfl, hu141⟩; rw [wE1]
  refine AtT.kmove ?_
  refine AtT.kextract ?_
  refine AtT.kextract ?_
  refine AtT.kassign ?_
  refine AtT.kassign ?_
  refine AtT.done ?_
  refine At.nrm ?_
  replace hs := hs.le hV141
  replace hu89 := hu89.le hV141
  replace hu95 := hu95.le hV141
  refine At.ktext (.q 0 (.q 1 (.n false 2 (.q 3 (.q 4 (.q 5 (.q 6 (.q 7 .done)))))))) ?_
  first | refine AtT.kloadOA tk25 ?_ | refine AtT.kloadA tk25 ?_ | refine AtT.kloadOP tk25 ?_
  refine AtT.kmove ?_
  refine AtT.kcall rfl rfl ok36 (plan_f dW pW true _ _ hs) ?_
  rintro _ V147 hV147 ⟨u147, rfl, hu147⟩; rw [wE1]
  refine AtT.kmove ?_
  refine AtT.kextract ?_
  refine AtT.kextract ?_
  refine AtT.kassign ?_
  refine AtT.kassign ?_
  refine AtT.done ?_
  refine At.nrm ?_
  rw [wP1] at hu147
  replace hs := hs.le hV147
  replace hu89 := hu89.le hV147
  replace hu95 := hu95.le hV147
  replace hu141 := hu141.le hV147
  refine At.draw (.q 0 (.q 1 (.n false 2 (.n false 3 (.n false 4 (.q 5 (.q 6 (.q 7 (.q 8 (.q 9 .done)))))))))) ffm (by kernel_rfl) ?_
  first | refine AtT.kloadOA tk25 ?_ | refine AtT.kloadA tk25 ?_ | refine AtT.kloadOP tk25 ?_
  refine AtT.kmove ?_
  refine AtT.kbsliceG (bs27_5_0_1_2_3_4 _ _ _ _ _) ?_
  intro q153 V153 hV153 hq153
  refine AtT.kcallP rfl rfl ok56 (of56_f _ _) ?_
  rintro _ rfl
  refine AtT.kcallP rfl rfl ok34 (checkPlan_f dW pW true [0, 1, 1, 0, 0] _ _ _ (hs.le hV153) (Sl.lit hq153 rfl (by simp))) ?_
  rintro _ rfl; rw [wP2]
  refine AtT.kmove ?_
  refine AtT.kextract ?_
  refine AtT.kextract ?_
  refine AtT.kassign ?_
  refine AtT.kassign ?_
  refine AtT.done ?_
  refine At.nrm ?_
  replace hs := hs.le hV153
  replace hu89 := hu89.le hV153
  replace hu95 := hu95.le hV153
  replace hu141 := hu141.le hV153
  replace hu147 := hu147.le hV153
  refine At.draw (.q 0 (.q 1 (.n false 2 (.n false 3 (.n false 4 (.q 5 (.q 6 (.q 7 (.q 8 (.q 9 .done)))))))))) ffm (by kernel_rfl) ?_
  first | refine AtT.kloadOA tk25 ?_ | refine AtT.kloadA tk25 ?_ | refine AtT.kloadOP tk25 ?_
  refine AtT.kmove ?_
  refine AtT.kbsliceG (bs27_5_0_1_2_3_4 _ _ _ _ _) ?_
  intro q161 V161 hV161 hq161
  refine AtT.kcallP rfl rfl ok56 (of56_f _ _) ?_
  rintro _ rfl
  refine AtT.kcallP rfl rfl ok34 (checkPlan_f dW pW true [0, 2, 1, 0, 0] _ _ _ (hs.le hV161) (Sl.lit hq161 rfl (by simp))) ?_
  rintro _ rfl; rw [wP3]
  refine AtT.kmove ?_
  refine AtT.kextract ?_
  refine AtT.kextract ?_
  refine AtT.kassign ?_
  refine AtT.kassign ?_
  refine AtT.done ?_
  refine At.nrm ?_
  replace hs := hs.le hV161
  replace hu89 := hu89.le hV161
  replace hu95 := hu95.le hV161
  replace hu141 := hu141.le hV161
  replace hu147 := hu147.le hV161
  refine At.ktext (.q 0 (.q 1 (.n false 2 (.q 3 (.q 4 (.q 5 (.q 6 (.q 7 .done)))))))) ?_
  first | refine AtT.kloadOA tk25 ?_ | refine AtT.kloadA tk25 ?_ | refine AtT.kloadOP tk25 ?_
  refine AtT.kmove ?_
  refine AtT.kcallP rfl rfl ok38 (bound_f dW pW true _ _ hs) ?_
  rintro _ rfl; rw [wD1]
  refine AtT.kmove ?_
  refine AtT.kextract ?_
  refine AtT.kextract ?_
  refine AtT.kassign ?_
  refine AtT.kassign ?_
  refine AtT.done ?_
  refine At.nrm ?_
  refine At.ktext (.q 0 (.q 1 (.n false 2 (.q 3 (.q 4 (.q 5 (.q 6 (.q 7 .done)))))))) ?_
  first | refine AtT.kloadOA tk25 ?_ | refine AtT.kloadA tk25 ?_ | refine AtT.kloadOP tk25 ?_
  refine AtT.kmove ?_
  refine AtT.kcall rfl rfl ok42 (apartF_f dW pW true _ _ hs) ?_
  rintro _ V175 hV175 ⟨u175, rfl, hu175⟩; rw [wO0]
  refine AtT.kmove ?_
  refine AtT.kextract ?_
  refine AtT.kextract ?_
  refine AtT.kassign ?_
  refine AtT.kassign ?_
  refine AtT.done ?_
  refine At.nrm ?_
  replace hs := hs.le hV175
  replace hu89 := hu89.le hV175
  replace hu95 := hu95.le hV175
  replace hu141 := hu141.le hV175
  replace hu147 := hu147.le hV175
  rw [if_pos wO0, wA1] at hu175
  clear hV1 hV53 hV62 hV71 hV80 hV89 hV95 hV101 hV109 hV117 hV125 hV133 hV141 hV147 hV153 hV161
  refine At.cutG (ι := Unit) (fun _ => [(1, .pointer (some ⟨b1, 0, none⟩)), (2, .slice a2 pW.length c2), (3, iv 30), (4, iv 7), (5, iv 0), (8, iv 22), (11, iv 10), (14, iv 2), (15, u89), (16, iv 0), (17, u95), (18, iv 0), (20, iv 22), (22, iv 16), (24, iv 15), (25, iv 3), (26, iv 0), (28, iv 14), (29, u141), (30, iv 0), (31, u147), (32, iv 0), (33, iv 2), (34, iv 0), (36, iv 16), (37, iv 2), (38, iv 0), (39, u175), (40, iv 0), (41, iv 0), (42, iv 16)]) (fun _ => [.blk b1 (LC (dye dW) 25)]) (fun _ V' => Le V175 V') ?_ ?_
  · clear hV175
    refine At.draw (.q 0 (.q 1 (.q 5 (.q 6 (.two 2 (.two 3 (.two 4 (.n false 7 (.n false 8 (.n false 9 (.q 10 (.q 11 .done))))) 7 (.n false 4 (.n false 8 (.n false 9 (.q 10 (.q 11 .done)))))) 7 (.n false 3 (.n false 4 (.n false 8 (.n false 9 (.q 10 (.q 11 .done))))))) 7 (.n false 2 (.n false 3 (.n false 4 (.n false 8 (.n false 9 (.q 10 (.q 11 .done)))))))))))) ffm (by kernel_rfl) ?_
    first | refine AtT.kloadOA tk25 ?_ | refine AtT.kloadA tk25 ?_ | refine AtT.kloadOP tk25 ?_
    refine AtT.kmove ?_
    first | refine AtT.kloadOA tk25 ?_ | refine AtT.kloadA tk25 ?_ | refine AtT.kloadOP tk25 ?_
    refine AtT.kmove ?_
    refine AtT.two ?_ ?_
    focus
      refine AtT.kbsliceG (bs27_2_0_1 _ _) ?_
      intro q180 V180 hV180 hq180
      refine AtT.two ?_ ?_
      focus
        refine AtT.kcallP rfl rfl ok56 (of56_f _ _) ?_
        rintro _ rfl
        refine AtT.two ?_ ?_
        focus
          refine AtT.kcallP rfl rfl ok44 (checkApart_f dW pW true [2, 4] _ _ _ (hs.le (by first | exact Le.refl _ | assumption | exact Le.trans (by assumption) (by assumption))) (Sl.le (Sl.lit hq180 rfl (by simp)) (by first | exact Le.refl _ | assumption | exact Le.trans (by assumption) (by assumption)))) ?_
          rintro _ rfl; rw [wA2]
          refine AtT.kbsliceG (bs27_2_0_1 _ _) ?_
          intro q185 V185 hV185 hq185
          refine AtT.kcallP rfl rfl ok56 (of56_f _ _) ?_
          rintro _ rfl
          refine AtT.kcallP rfl rfl ok44 (checkApart_f dW pW true [1, 2] _ _ _ (hs.le (by first | exact Le.refl _ | assumption | exact Le.trans (by assumption) (by assumption))) (Sl.le (Sl.lit hq185 rfl (by simp)) (by first | exact Le.refl _ | assumption | exact Le.trans (by assumption) (by assumption)))) ?_
          rintro _ rfl; rw [wA3]
          refine AtT.kassign ?_
          refine AtT.kassign ?_
          refine AtT.done ?_
        rotate_right
        focus
          refine AtT.kbsliceG (bs27_2_0_1 _ _) ?_
          intro q185 V185 hV185 hq185
          refine AtT.kcallP rfl rfl ok44 (checkApart_f dW pW true [2, 4] _ _ _ (hs.le (by first | exact Le.refl _ | assumption | exact Le.trans (by assumption) (by assumption))) (Sl.le (Sl.lit hq180 rfl (by simp)) (by first | exact Le.refl _ | assumption | exact Le.trans (by assumption) (by assumption)))) ?_
          rintro _ rfl; rw [wA2]
          refine AtT.kcallP rfl rfl ok56 (of56_f _ _) ?_
          rintro _ rfl
          refine AtT.kcallP rfl rfl ok44 (checkApart_f dW pW true [1, 2] _ _ _ (hs.le (by first | exact Le.refl _ | assumption | exact Le.trans (by assumption) (by assumption))) (Sl.le (Sl.lit hq185 rfl (by simp)) (by first | exact Le.refl _ | assumption | exact Le.trans (by assumption) (by assumption)))) ?_
          rintro _ rfl; rw [wA3]
          refine AtT.kassign ?_
          refine AtT.kassign ?_
          refine AtT.done ?_
      rotate_right
      focus
        refine AtT.kbsliceG (bs27_2_0_1 _ _) ?_
        intro q185 V185 hV185 hq185
        refine AtT.kcallP rfl rfl ok56 (of56_f _ _) ?_
        rintro _ rfl
        refine AtT.kcallP rfl rfl ok44 (checkApart_f dW pW true [2, 4] _ _ _ (hs.le (by first | exact Le.refl _ | assumption | exact Le.trans (by assumption) (by assumption))) (Sl.le (Sl.lit hq180 rfl (by simp)) (by first | exact Le.refl _ | assumption | exact Le.trans (by assumption) (by assumption)))) ?_
        rintro _ rfl; rw [wA2]
        refine AtT.kcallP rfl rfl ok56 (of56_f _ _) ?_
        rintro _ rfl
        refine AtT.kcallP rfl rfl ok44 (checkApart_f dW pW true [1, 2] _ _ _ (hs.le (by first | exact Le.refl _ | assumption | exact Le.trans (by assumption) (by assumption))) (Sl.le (Sl.lit hq185 rfl (by simp)) (by first | exact Le.refl _ | assumption | exact Le.trans (by assumption) (by assumption)))) ?_
        rintro _ rfl; rw [wA3]
        refine AtT.kassign ?_
        refine AtT.kassign ?_
        refine AtT.done ?_
    rotate_right
    focus
      refine AtT.kbsliceG (bs27_2_0_1 _ _) ?_
      intro q185 V185 hV185 hq185
      refine AtT.kbsliceG (bs27_2_0_1 _ _) ?_
      intro q180 V180 hV180 hq180
      refine AtT.kcallP rfl rfl ok56 (of56_f _ _) ?_
      rintro _ rfl
      refine AtT.kcallP rfl rfl ok44 (checkApart_f dW pW true [2, 4] _ _ _ (hs.le (by first | exact Le.refl _ | assumption | exact Le.trans (by assumption) (by assumption))) (Sl.le (Sl.lit hq180 rfl (by simp)) (by first | exact Le.refl _ | assumption | exact Le.trans (by assumption) (by assumption)))) ?_
      rintro _ rfl; rw [wA2]
      refine AtT.kcallP rfl rfl ok56 (of56_f _ _) ?_
      rintro _ rfl
      refine AtT.kcallP rfl rfl ok44 (checkApart_f dW pW true [1, 2] _ _ _ (hs.le (by first | exact Le.refl _ | assumption | exact Le.trans (by assumption) (by assumption))) (Sl.le (Sl.lit hq185 rfl (by simp)) (by first | exact Le.refl _ | assumption | exact Le.trans (by assumption) (by assumption)))) ?_
      rintro _ rfl; rw [wA3]
      refine AtT.kassign ?_
      refine AtT.kassign ?_
      refine AtT.done ?_
    all_goals (refine At.nrm ?_)
    all_goals (exact At.meetG () (by first | exact Le.refl _ | assumption | exact Le.trans (by assumption) (by assumption)) ⟨rfl, rfl, rfl, rfl, rfl, rfl, rfl, rfl, rfl, rfl, rfl, rfl, rfl, rfl, rfl, rfl, rfl, rfl, rfl, rfl, rfl, rfl, rfl, rfl, rfl, rfl, rfl, rfl, rfl, rfl, rfl, trivial⟩ Pt.auto)
  rintro _ V19 ks' O' hV19 hk hO hl
  subst hk hO
  replace hs := hs.le hV19
  replace hu89 := hu89.le hV19
  replace hu95 := hu95.le hV19
  replace hu141 := hu141.le hV19
  replace hu147 := hu147.le hV19
  replace hu175 := hu175.le hV19
  clear hV19 hV175
  refine At.nrm ?_
  refine At.draw (.q 0 (.q 1 (.n false 2 (.n false 3 (.n false 4 (.q 5 (.q 6 (.q 7 (.q 8 (.q 9 (.q 10 (.q 11 .done)))))))))))) ffm (by kernel_rfl) ?_
  first | refine AtT.kloadOA tk25 ?_ | refine AtT.kloadA tk25 ?_ | refine AtT.kloadOP tk25 ?_
  refine AtT.kmove ?_
  refine AtT.kbsliceG (bs27_5_0_1_2_3_4 _ _ _ _ _) ?_
  intro q191 V191 hV191 hq191
  refine AtT.kcallP rfl rfl ok56 (of56_f _ _) ?_
  rintro _ rfl
  refine AtT.kcallP rfl rfl ok40 (spares_f dW pW true [0, 0, 1, 1, 2] _ _ _ (hs.le hV191) (Sl.lit hq191 rfl (by simp))) ?_
  rintro _ rfl; rw [wS1]
  refine AtT.kmove ?_
  refine AtT.kextract ?_
  refine AtT.kextract ?_
  refine AtT.kextract ?_
  refine AtT.kassign ?_
  refine AtT.kassign ?_
  refine AtT.kassign ?_
  refine AtT.done ?_
  refine At.nrm ?_
  replace hs := hs.le hV191
  replace hu89 := hu89.le hV191
  replace hu95 := hu95.le hV191
  replace hu141 := hu141.le hV191
  replace hu147 := hu147.le hV191
  replace hu175 := hu175.le hV191
  clear hV191
  refine At.ktext (.q 0 (.q 1 (.q 2 (.q 3 (.q 4 (.q 5 (.q 6 (.q 7 (.q 8 (.q 9 (.q 10 (.q 11 (.q 12 (.q 13 (.q 14 (.q 15 (.q 16 (.q 17 (.q 18 (.q 19 (.q 20 (.q 21 (.q 22 (.q 23 (.q 24 (.q 25 (.q 26 (.q 27 (.q 28 (.q 29 (.q 30 (.q 31 (.q 32 (.q 33 (.q 34 (.q 35 (.q 36 (.q 37 (.q 38 (.q 39 (.q 40 (.q 41 (.q 42 (.q 43 (.q 44 (.q 45 (.q 46 (.q 47 (.q 48 (.q 49 (.q 50 (.q 51 (.q 52 (.q 53 (.q 54 (.q 55 (.q 56 (.q 57 (.q 58 (.q 59 (.q 60 (.q 61 (.q 62 (.q 63 (.q 64 (.q 65 (.q 66 (.q 67 (.q 68 (.q 69 (.q 70 (.q 71 (.q 72 (.q 73 (.q 74 (.q 75 (.q 76 (.q 77 .done)))))))))))))))))))))))))))))))))))))))))))))))))))))))))))))))))))))))))))))) ?_
  refine AtT.kmove ?_
  refine AtT.kneI ?_
  refine AtT.kmove ?_
  all_goals (first | refine AtT.kL 199 ?_ | refine AtT.pcase (d := 199) rfl (fun hg199 => ?_) (fun hg199 => ?_) | refine AtT.bcase (d := 199) rfl (fun hg199 => ?_) (fun hg199 => ?_))
  all_goals (first | refine AtT.kpass ?_ | refine AtT.kpassU ?_ | ((refine AtT.kmove ?_)))
  all_goals (first | refine AtT.kpass ?_ | refine AtT.kpassU ?_ | ((refine AtT.kneI ?_)))
  all_goals (refine AtT.kpick ?_)
  all_goals (refine AtT.kmove ?_)
  all_goals (first | refine AtT.kL 203 ?_ | refine AtT.pcase (d := 203) rfl (fun hg203 => ?_) (fun hg203 => ?_) | refine AtT.bcase (d := 203) rfl (fun hg203 => ?_) (fun hg203 => ?_))
  all_goals (first | refine AtT.kpass ?_ | refine AtT.kpassU ?_ | ((refine AtT.kmove ?_)))
  all_goals (first | refine AtT.kpass ?_ | refine AtT.kpassU ?_ | ((refine AtT.kneI ?_)))
  all_goals (refine AtT.kpick ?_)
  all_goals (refine AtT.kmove ?_)
  all_goals (first | refine AtT.kL 207 ?_ | refine AtT.pcase (d := 207) rfl (fun hg207 => ?_) (fun hg207 => ?_) | refine AtT.bcase (d := 207) rfl (fun hg207 => ?_) (fun hg207 => ?_))
  all_goals (first | refine AtT.kpass ?_ | refine AtT.kpassU ?_ | ((refine AtT.kmove ?_)))
  all_goals (first | refine AtT.kpass ?_ | refine AtT.kpassU ?_ | ((refine AtT.kneI ?_)))
  all_goals (refine AtT.kpick ?_)
  all_goals (refine AtT.kmove ?_)
  all_goals (first | refine AtT.kL 211 ?_ | refine AtT.pcase (d := 211) rfl (fun hg211 => ?_) (fun hg211 => ?_) | refine AtT.bcase (d := 211) rfl (fun hg211 => ?_) (fun hg211 => ?_))
  all_goals (first | refine AtT.kpass ?_ | refine AtT.kpassU ?_ | ((refine AtT.kmove ?_)))
  all_goals (first | refine AtT.kpass ?_ | refine AtT.kpassU ?_ | ((refine AtT.kneI ?_)))
  all_goals (refine AtT.kpick ?_)
  all_goals (refine AtT.kmove ?_)
  all_goals (first | refine AtT.kL 215 ?_ | refine AtT.pcase (d := 215) rfl (fun hg215 => ?_) (fun hg215 => ?_) | refine AtT.bcase (d := 215) rfl (fun hg215 => ?_) (fun hg215 => ?_))
  all_goals (first | refine AtT.kpass ?_ | refine AtT.kpassU ?_ | ((refine AtT.kmove ?_)))
  all_goals (first | refine AtT.kpass ?_ | refine AtT.kpassU ?_ | ((refine AtT.kneI ?_)))
  all_goals (refine AtT.kpick ?_)
  all_goals (refine AtT.kmove ?_)
  all_goals (first | refine AtT.kL 219 ?_ | refine AtT.pcase (d := 219) rfl (fun hg219 => ?_) (fun hg219 => ?_) | refine AtT.bcase (d := 219) rfl (fun hg219 => ?_) (fun hg219 => ?_))
  all_goals (first | refine AtT.kpass ?_ | refine AtT.kpassU ?_ | ((refine AtT.kmove ?_)))
  all_goals (first | refine AtT.kpass ?_ | refine AtT.kpassU ?_ | ((refine AtT.kneI ?_)))
  all_goals (refine AtT.kpick ?_)
  all_goals (refine AtT.kmove ?_)
  all_goals (first | refine AtT.kL 223 ?_ | refine AtT.pcase (d := 223) rfl (fun hg223 => ?_) (fun hg223 => ?_) | refine AtT.bcase (d := 223) rfl (fun hg223 => ?_) (fun hg223 => ?_))
  all_goals (first | refine AtT.kpass ?_ | refine AtT.kpassU ?_ | ((refine AtT.kmove ?_)))
  all_goals (first | refine AtT.kpass ?_ | refine AtT.kpassU ?_ | ((refine AtT.kneI ?_)))
  all_goals (refine AtT.kpick ?_)
  all_goals (refine AtT.kmove ?_)
  all_goals (first | refine AtT.kL 227 ?_ | refine AtT.pcase (d := 227) rfl (fun hg227 => ?_) (fun hg227 => ?_) | refine AtT.bcase (d := 227) rfl (fun hg227 => ?_) (fun hg227 => ?_))
  all_goals (first | refine AtT.kpass ?_ | refine AtT.kpassU ?_ | ((refine AtT.kmove ?_)))
  all_goals (first | refine AtT.kpass ?_ | refine AtT.kpassU ?_ | ((refine AtT.kneI ?_)))
  all_goals (refine AtT.kpick ?_)
  all_goals (refine AtT.kmove ?_)
  all_goals (first | refine AtT.kL 231 ?_ | refine AtT.pcase (d := 231) rfl (fun hg231 => ?_) (fun hg231 => ?_) | refine AtT.bcase (d := 231) rfl (fun hg231 => ?_) (fun hg231 => ?_))
  all_goals (first | refine AtT.kpass ?_ | refine AtT.kpassU ?_ | ((refine AtT.kmove ?_)))
  all_goals (first | refine AtT.kpass ?_ | refine AtT.kpassU ?_ | ((refine AtT.kneI ?_)))
  all_goals (refine AtT.kpick ?_)
  all_goals (refine AtT.kmove ?_)
  all_goals (first | refine AtT.kL 235 ?_ | refine AtT.pcase (d := 235) rfl (fun hg235 => ?_) (fun hg235 => ?_) | refine AtT.bcase (d := 235) rfl (fun hg235 => ?_) (fun hg235 => ?_))
  all_goals (first | refine AtT.kpass ?_ | refine AtT.kpassU ?_ | ((refine AtT.kmove ?_)))
  all_goals (first | refine AtT.kpass ?_ | refine AtT.kpassU ?_ | ((refine AtT.kneI ?_)))
  all_goals (refine AtT.kpick ?_)
  all_goals (refine AtT.kmove ?_)
  all_goals (first | refine AtT.kL 239 ?_ | refine AtT.pcase (d := 239) rfl (fun hg239 => ?_) (fun hg239 => ?_) | refine AtT.bcase (d := 239) rfl (fun hg239 => ?_) (fun hg239 => ?_))
  all_goals (first | refine AtT.kpass ?_ | refine AtT.kpassU ?_ | ((refine AtT.kmove ?_)))
  all_goals (first | refine AtT.kpass ?_ | refine AtT.kpassU ?_ | ((refine AtT.kneI ?_)))
  all_goals (refine AtT.kpick ?_)
  all_goals (refine AtT.kmove ?_)
  all_goals (first | refine AtT.kL 243 ?_ | refine AtT.pcase (d := 243) rfl (fun hg243 => ?_) (fun hg243 => ?_) | refine AtT.bcase (d := 243) rfl (fun hg243 => ?_) (fun hg243 => ?_))
  all_goals (first | refine AtT.kpass ?_ | refine AtT.kpassU ?_ | ((refine AtT.kmove ?_)))
  all_goals (first | refine AtT.kpass ?_ | refine AtT.kpassU ?_ | ((refine AtT.kneI ?_)))
  all_goals (refine AtT.kpick ?_)
  all_goals (refine AtT.kmove ?_)
  all_goals (first | refine AtT.kL 247 ?_ | refine AtT.pcase (d := 247) rfl (fun hg247 => ?_) (fun hg247 => ?_) | refine AtT.bcase (d := 247) rfl (fun hg247 => ?_) (fun hg247 => ?_))
  all_goals (first | refine AtT.kpass ?_ | refine AtT.kpassU ?_ | ((refine AtT.kmove ?_)))
  all_goals (first | refine AtT.kpass ?_ | refine AtT.kpassU ?_ | ((refine AtT.kneI ?_)))
  all_goals (refine AtT.kpick ?_)
  all_goals (refine AtT.kmove ?_)
  all_goals (first | refine AtT.kL 251 ?_ | refine AtT.pcase (d := 251) rfl (fun hg251 => ?_) (fun hg251 => ?_) | refine AtT.bcase (d := 251) rfl (fun hg251 => ?_) (fun hg251 => ?_))
  all_goals (first | refine AtT.kpass ?_ | refine AtT.kpassU ?_ | ((refine AtT.kmove ?_)))
  all_goals (first | refine AtT.kpass ?_ | refine AtT.kpassU ?_ | ((refine AtT.kneI ?_)))
  all_goals (refine AtT.kpick ?_)
  all_goals (refine AtT.kmove ?_)
  all_goals (first | refine AtT.kL 255 ?_ | refine AtT.pcase (d := 255) rfl (fun hg255 => ?_) (fun hg255 => ?_) | refine AtT.bcase (d := 255) rfl (fun hg255 => ?_) (fun hg255 => ?_))
  all_goals (first | refine AtT.kpass ?_ | refine AtT.kpassU ?_ | ((refine AtT.kmove ?_)))
  all_goals (first | refine AtT.kpass ?_ | refine AtT.kpassU ?_ | ((refine AtT.kneI ?_)))
  all_goals (refine AtT.kpick ?_)
  all_goals (refine AtT.kmove ?_)
  all_goals (first | refine AtT.kL 259 ?_ | refine AtT.pcase (d := 259) rfl (fun hg259 => ?_) (fun hg259 => ?_) | refine AtT.bcase (d := 259) rfl (fun hg259 => ?_) (fun hg259 => ?_))
  all_goals (first | refine AtT.kpass ?_ | refine AtT.kpassU ?_ | ((refine AtT.kmove ?_)))
  all_goals (first | refine AtT.kpass ?_ | refine AtT.kpassU ?_ | ((refine AtT.kneI ?_)))
  all_goals (refine AtT.kpick ?_)
  all_goals (refine AtT.kmove ?_)
  all_goals (first | refine AtT.kL 263 ?_ | refine AtT.pcase (d := 263) rfl (fun hg263 => ?_) (fun hg263 => ?_) | refine AtT.bcase (d := 263) rfl (fun hg263 => ?_) (fun hg263 => ?_))
  all_goals (first | refine AtT.kpass ?_ | refine AtT.kpassU ?_ | ((refine AtT.kmove ?_)))
  all_goals (first | refine AtT.kpass ?_ | refine AtT.kpassU ?_ | ((refine AtT.kneI ?_)))
  all_goals (refine AtT.kpick ?_)
  all_goals (refine AtT.kmove ?_)
  all_goals (first | refine AtT.kL 267 ?_ | refine AtT.pcase (d := 267) rfl (fun hg267 => ?_) (fun hg267 => ?_) | refine AtT.bcase (d := 267) rfl (fun hg267 => ?_) (fun hg267 => ?_))
  all_goals (first | refine AtT.kpass ?_ | refine AtT.kpassU ?_ | ((refine AtT.kmove ?_)))
  all_goals (first | refine AtT.kpass ?_ | refine AtT.kpassU ?_ | ((refine AtT.kneI ?_)))
  all_goals (refine AtT.kpick ?_)
  all_goals (refine AtT.kmove ?_)
  all_goals (first | refine AtT.kL 271 ?_ | refine AtT.pcase (d := 271) rfl (fun hg271 => ?_) (fun hg271 => ?_) | refine AtT.bcase (d := 271) rfl (fun hg271 => ?_) (fun hg271 => ?_))
  all_goals (first | refine AtT.kpass ?_ | refine AtT.kpassU ?_ | ((refine AtT.kmove ?_)))
  all_goals (first | refine AtT.kpass ?_ | refine AtT.kpassU ?_ | ((refine AtT.kneI ?_)))
  all_goals (refine AtT.kpick ?_)
  all_goals refine AtT.done ?_
  all_goals (refine At.nrm ?_)
  refine At.condF rfl rfl ?_
  refine At.nrm ?_
  refine At.ktext (.q 0 (.q 1 (.q 2 (.q 3 (.q 4 (.q 5 (.q 6 (.q 7 (.n false 8 (.n false 9 (.n false 10 (.q 11 (.q 12 (.q 13 (.q 14 (.n false 15 (.n false 16 (.n false 17 (.q 18 (.q 19 (.q 20 (.q 21 (.q 22 (.q 23 (.q 24 (.q 25 (.n false 26 (.n false 27 (.n false 28 (.q 29 (.q 30 (.q 31 (.q 32 (.q 33 (.q 34 (.q 35 (.q 36 (.q 37 (.q 38 (.q 39 (.q 40 (.n false 41 (.n false 42 (.n false 43 (.q 44 (.q 45 (.q 46 (.q 47 (.q 48 (.q 49 (.q 50 (.q 51 (.q 52 (.q 53 .done)))))))))))))))))))))))))))))))))))))))))))))))))))))) ?_
  refine AtT.kmove ?_
  refine AtT.kneI ?_
  refine AtT.kmove ?_
  all_goals (first | refine AtT.kL 277 ?_ | refine AtT.pcase (d := 277) rfl (fun hg277 => ?_) (fun hg277 => ?_) | refine AtT.bcase (d := 277) rfl (fun hg277 => ?_) (fun hg277 => ?_))
  all_goals (first | refine AtT.kpass ?_ | refine AtT.kpassU ?_ | ((refine AtT.kmove ?_)))
  all_goals (first | refine AtT.kpass ?_ | refine AtT.kpassU ?_ | ((refine AtT.kneI ?_)))
  all_goals (refine AtT.kpick ?_)
  all_goals (refine AtT.kmove ?_)
  all_goals (first | refine AtT.kL 281 ?_ | refine AtT.pcase (d := 281) rfl (fun hg281 => ?_) (fun hg281 => ?_) | refine AtT.bcase (d := 281) rfl (fun hg281 => ?_) (fun hg281 => ?_))
  all_goals (first | refine AtT.kpass ?_ | refine AtT.kpassU ?_ | ((refine AtT.kmove ?_)))
  all_goals (first | refine AtT.kpassN ?_ | refine AtT.kpassNU ?_ | ((refine AtT.kbsliceG (bs27_5_0_1_2_3_4 _ _ _ _ _) ?_) ; (intro q283 V283 hV283 hq283)))
  all_goals (first | refine AtT.kpassN ?_ | refine AtT.kpassNU ?_ | ((refine AtT.kcallP rfl rfl ok56 (of56_f _ _) ?_) ; (rintro _ rfl)))
  all_goals (first | refine AtT.kpassN ?_ | refine AtT.kpassNU ?_ | ((refine AtT.kcallP rfl rfl ok32 (ints_f _ [0, 0, 1, 1, 2] _ _ _ (hu89.le hV283) (Sl.lit hq283 rfl (by simp))) ?_) ; (rintro _ rfl)))
  all_goals (first | refine AtT.kpass ?_ | refine AtT.kpassU ?_ | ((refine AtT.knot ?_)))
  all_goals (refine AtT.kpick ?_)
  all_goals (refine AtT.kmove ?_)
  all_goals (first | refine AtT.kL 288 ?_ | refine AtT.pcase (d := 288) rfl (fun hg288 => ?_) (fun hg288 => ?_) | refine AtT.bcase (d := 288) rfl (fun hg288 => ?_) (fun hg288 => ?_))
  all_goals (first | refine AtT.kpass ?_ | refine AtT.kpassU ?_ | ((refine AtT.kmove ?_)))
  all_goals (first | refine AtT.kpassN ?_ | refine AtT.kpassNU ?_ | ((refine AtT.kbsliceG (bs27_5_0_1_2_3_4 _ _ _ _ _) ?_) ; (intro q290 V290 hV290 hq290)))
  all_goals (first | refine AtT.kpassN ?_ | refine AtT.kpassNU ?_ | ((refine AtT.kcallP rfl rfl ok56 (of56_f _ _) ?_) ; (rintro _ rfl)))
  all_goals (first | refine AtT.kpassN ?_ | refine AtT.kpassNU ?_ | ((refine AtT.kcallP rfl rfl ok32 (ints_f _ [0, 0, 0, 1, 1] _ _ _ (hu95.le (hV283.trans hV290)) (Sl.lit hq290 rfl (by simp))) ?_) ; (rintro _ rfl)))
  all_goals (first | refine AtT.kpass ?_ | refine AtT.kpassU ?_ | ((refine AtT.knot ?_)))
  all_goals (refine AtT.kpick ?_)
  all_goals (refine AtT.kmove ?_)
  all_goals (first | refine AtT.kL 295 ?_ | refine AtT.pcase (d := 295) rfl (fun hg295 => ?_) (fun hg295 => ?_) | refine AtT.bcase (d := 295) rfl (fun hg295 => ?_) (fun hg295 => ?_))
  all_goals (first | refine AtT.kpass ?_ | refine AtT.kpassU ?_ | ((refine AtT.kmove ?_)))
  all_goals (first | refine AtT.kpass ?_ | refine AtT.kpassU ?_ | ((refine AtT.kneI ?_)))
  all_goals (refine AtT.kpick ?_)
  all_goals (refine AtT.kmove ?_)
  all_goals (first | refine AtT.kL 299 ?_ | refine AtT.pcase (d := 299) rfl (fun hg299 => ?_) (fun hg299 => ?_) | refine AtT.bcase (d := 299) rfl (fun hg299 => ?_) (fun hg299 => ?_))
  all_goals (first | refine AtT.kpass ?_ | refine AtT.kpassU ?_ | ((refine AtT.kmove ?_)))
  all_goals (first | refine AtT.kpassN ?_ | refine AtT.kpassNU ?_ | ((refine AtT.kbsliceG (bs27_5_0_1_2_3_4 _ _ _ _ _) ?_) ; (intro q301 V301 hV301 hq301)))
  all_goals (first | refine AtT.kpassN ?_ | refine AtT.kpassNU ?_ | ((refine AtT.kcallP rfl rfl ok56 (of56_f _ _) ?_) ; (rintro _ rfl)))
  all_goals (first | refine AtT.kpassN ?_ | refine AtT.kpassNU ?_ | ((refine AtT.kcallP rfl rfl ok32 (ints_f _ [0, 1, 1, 0, 0] _ _ _ (hu147.le ((hV283.trans hV290).trans hV301)) (Sl.lit hq301 rfl (by simp))) ?_) ; (rintro _ rfl)))
  all_goals (first | refine AtT.kpass ?_ | refine AtT.kpassU ?_ | ((refine AtT.knot ?_)))
  all_goals (refine AtT.kpick ?_)
  all_goals (refine AtT.kmove ?_)
  all_goals (first | refine AtT.kL 306 ?_ | refine AtT.pcase (d := 306) rfl (fun hg306 => ?_) (fun hg306 => ?_) | refine AtT.bcase (d := 306) rfl (fun hg306 => ?_) (fun hg306 => ?_))
  all_goals (first | refine AtT.kpass ?_ | refine AtT.kpassU ?_ | ((refine AtT.kmove ?_)))
  all_goals (first | refine AtT.kpass ?_ | refine AtT.kpassU ?_ | ((refine AtT.kneI ?_)))
  all_goals (refine AtT.kpick ?_)
  all_goals (refine AtT.kmove ?_)
  all_goals (first | refine AtT.kL 310 ?_ | refine AtT.pcase (d := 310) rfl (fun hg310 => ?_) (fun hg310 => ?_) | refine AtT.bcase (d := 310) rfl (fun hg310 => ?_) (fun hg310 => ?_))
  all_goals (first | refine AtT.kpass ?_ | refine AtT.kpassU ?_ | ((refine AtT.kmove ?_)))
  all_goals (first | refine AtT.kpass ?_ | refine AtT.kpassU ?_ | ((refine AtT.kneI ?_)))
  all_goals (refine AtT.kpick ?_)
  all_goals (refine AtT.kmove ?_)
  all_goals (first | refine AtT.kL 314 ?_ | refine AtT.pcase (d := 314) rfl (fun hg314 => ?_) (fun hg314 => ?_) | refine AtT.bcase (d := 314) rfl (fun hg314 => ?_) (fun hg314 => ?_))
  all_goals (first | refine AtT.kpass ?_ | refine AtT.kpassU ?_ | ((refine AtT.kmove ?_)))
  all_goals (first | refine AtT.kpassN ?_ | refine AtT.kpassNU ?_ | ((refine AtT.kbsliceG (bs27_2_0_1 _ _) ?_) ; (intro q316 V316 hV316 hq316)))
  all_goals (first | refine AtT.kpassN ?_ | refine AtT.kpassNU ?_ | ((refine AtT.kcallP rfl rfl ok56 (of56_f _ _) ?_) ; (rintro _ rfl)))
  all_goals (first | refine AtT.kpassN ?_ | refine AtT.kpassNU ?_ | ((refine AtT.kcallP rfl rfl ok32 (ints_f _ [0, 2] _ _ _ (hu175.le (((hV283.trans hV290).trans hV301).trans hV316)) (Sl.lit hq316 rfl (by simp))) ?_) ; (rintro _ rfl)))
  all_goals (first | refine AtT.kpass ?_ | refine AtT.kpassU ?_ | ((refine AtT.knot ?_)))
  all_goals (refine AtT.kpick ?_)
  all_goals (refine AtT.kmove ?_)
  all_goals (first | refine AtT.kL 321 ?_ | refine AtT.pcase (d := 321) rfl (fun hg321 => ?_) (fun hg321 => ?_) | refine AtT.bcase (d := 321) rfl (fun hg321 => ?_) (fun hg321 => ?_))
  all_goals (first | refine AtT.kpass ?_ | refine AtT.kpassU ?_ | ((refine AtT.kmove ?_)))
  all_goals (first | refine AtT.kpass ?_ | refine AtT.kpassU ?_ | ((refine AtT.kneI ?_)))
  all_goals (refine AtT.kpick ?_)
  all_goals (refine AtT.kmove ?_)
  all_goals (first | refine AtT.kL 325 ?_ | refine AtT.pcase (d := 325) rfl (fun hg325 => ?_) (fun hg325 => ?_) | refine AtT.bcase (d := 325) rfl (fun hg325 => ?_) (fun hg325 => ?_))
  all_goals (first | refine AtT.kpass ?_ | refine AtT.kpassU ?_ | ((refine AtT.kmove ?_)))
  all_goals (first | refine AtT.kpass ?_ | refine AtT.kpassU ?_ | ((refine AtT.kneI ?_)))
  all_goals (refine AtT.kpick ?_)
  all_goals refine AtT.done ?_
  all_goals (refine At.nrm ?_)
  refine At.condF rfl rfl ?_
  refine At.nrm ?_
  replace hs := hs.le (((hV283.trans hV290).trans hV301).trans hV316)
  replace hu89 := hu89.le (((hV283.trans hV290).trans hV301).trans hV316)
  replace hu95 := hu95.le (((hV283.trans hV290).trans hV301).trans hV316)
  replace hu141 := hu141.le (((hV283.trans hV290).trans hV301).trans hV316)
  replace hu147 := hu147.le (((hV283.trans hV290).trans hV301).trans hV316)
  replace hu175 := hu175.le (((hV283.trans hV290).trans hV301).trans hV316)
  refine At.ktext (.q 0 (.q 1 (.q 2 (.n false 3 (.q 4 (.q 5 (.q 6 (.q 7 (.q 8 .done))))))))) ?_
  first | refine AtT.kloadOA tk25 ?_ | refine AtT.kloadA tk25 ?_ | refine AtT.kloadOP tk25 ?_
  refine AtT.kmove ?_
  refine AtT.kmove ?_
  refine AtT.kcallP rfl rfl ok30 (rcheckMarks_f dW pW true _ _ _ _ hs hu141) ?_
  rintro _ rfl; rw [wM3]
  refine AtT.kmove ?_
  refine AtT.kextract ?_
  refine AtT.kextract ?_
  refine AtT.kassign ?_
  refine AtT.kassign ?_
  refine AtT.done ?_
  refine At.nrm ?_
  refine At.ktext (.q 0 (.q 1 (.q 2 (.q 3 (.q 4 (.q 5 (.q 6 .done))))))) ?_
  refine AtT.kmove ?_
  refine AtT.keqI ?_
  refine AtT.kmove ?_
  all_goals (first | refine AtT.kL 338 ?_ | refine AtT.pcase (d := 338) rfl (fun hg338 => ?_) (fun hg338 => ?_) | refine AtT.bcase (d := 338) rfl (fun hg338 => ?_) (fun hg338 => ?_))
  all_goals (first | refine AtT.kpass ?_ | refine AtT.kpassU ?_ | ((refine AtT.kmove ?_)))
  all_goals (first | refine AtT.kpass ?_ | refine AtT.kpassU ?_ | ((refine AtT.keqI ?_)))
  all_goals (refine AtT.kpick ?_)
  all_goals (refine AtT.kassign ?_)
  all_goals refine AtT.done ?_
  all_goals (refine At.nrm ?_)
  exact At.ret1 rfl (.tmp rfl) rfl
end Go.Proofs.Ytmnbkceiaifncaa
set_option linter.unusedVariables false
namespace Go.Gl
theorem kB1 : batR dW pW true [0, 1, 3, 4] = (0, 0, 22) := by decide +kernel
theorem kM1 : mkR dW pW true [2, 0] = (0, 2) := by decide +kernel
theorem kE1 : rowE dW [] true = 0 := by decide +kernel
theorem kM2 : mkkL dW [] true = [] := by decide +kernel
theorem kP1 : pnL dW pW false = [0, 0, 0, 1, 1] := by decide +kernel
theorem kD1 : bdR dW pW false = (2, 0) := by decide +kernel
theorem kA1 : apG (bn dW pW false) pW.length [] [] = [0] := by decide +kernel
theorem kS1 : spR dW pW true [0, 1, 1, 0, 0] = (0, 2, 0) := by decide +kernel
theorem kY1 : dayE dW = 0 := by decide +kernel
theorem kY2 : panE pW = 0 := by decide +kernel
end Go.Gl
namespace Go.Proofs.Ytmnbkceiaifncaa
open Go.Lw Go.Gl Go.RowKit
set_option maxRecDepth 20000 in
theorem glueKnown_f (V : View) : Fnc Try.prog 15 [] V fun r _ => r = .bool true := by
  refine fn_of Try.func15 rfl Try.ntmps15 (Nat.le_of_ble_eq_true rfl) ?_
  intro w0 hw0
  refine At.nrm ?_
  refine At.ktext (.q 0 .done) ?_
  refine AtT.kassign ?_
  refine AtT.done ?_
  refine At.nrm ?_
  refine At.ktext (.n false 0 (.n false 1 (.n false 2 (.n true 3 (.q 4 .done))))) ?_
  refine AtT.kcallP rfl rfl ok54 (warm_f _) ?_
  rintro _ rfl
  refine AtT.kcall rfl rfl ok55 (five_f _) ?_
  rintro _ V1 hV1 ⟨a2, c2, rfl, hs⟩
  refine AtT.kalloc z25 ?_
  intro b1
  refine AtT.kstoreA tk25 ?_
  refine AtT.kassign ?_
  refine AtT.done ?_
  refine At.nrm ?_
  refine At.draw (.q 0 (.q 1 (.n false 2 (.n false 3 (.n false 4 (.q 5 (.q 6 (.q 7 (.q 8 (.q 9 (.q 10 (.q 11 .done)))))))))))) ffm (by kernel_rfl) ?_
  first | refine AtT.kloadOA tk25 ?_ | refine AtT.kloadA tk25 ?_ | refine AtT.kloadOP tk25 ?_
  refine AtT.kmove ?_
  refine AtT.kbsliceG (bs27_4_0_1_2_3 _ _ _ _) ?_
  intro q24 V24 hV24 hq24
  refine AtT.kcallP rfl rfl ok56 (of56_f _ _) ?_
  rintro _ rfl
  refine AtT.kcallP rfl rfl ok19 (checkBatch_f dW pW true [0, 1, 3, 4] _ _ _ (hs.le hV24) (Sl.lit hq24 rfl (by simp))) ?_
  rintro _ rfl; rw [kB1]
  refine AtT.kmove ?_
  refine AtT.kextract ?_
  refine AtT.kextract ?_
  refine AtT.kextract ?_
  refine AtT.kassign ?_
  refine AtT.kassign ?_
  refine AtT.kassign ?_
  refine AtT.done ?_
  refine At.nrm ?_
  replace hs := hs.le hV24
  refine At.draw (.q 0 (.q 1 (.n false 2 (.n false 3 (.n false 4 (.q 5 (.q 6 (.q 7 (.q 8 (.q 9 .done)))))))))) ffm (by kernel_rfl) ?_
  first | refine AtT.kloadOA tk25 ?_ | refine AtT.kloadA tk25 ?_ | refine AtT.kloadOP tk25 ?_
  refine AtT.kmove ?_
  refine AtT.kbsliceG (bs27_2_0_1 _ _) ?_
  intro q33 V33 hV33 hq33
  refine AtT.kcallP rfl rfl ok56 (of56_f _ _) ?_
  rintro _ rfl
  refine AtT.kcallP rfl rfl ok29 (checkMarks_f dW pW true [2, 0] _ _ _ (hs.le hV33) (Sl.lit hq33 rfl (by simp))) ?_
  rintro _ rfl; rw [kM1]
  refine AtT.kmove ?_
  refine AtT.kextract ?_
  refine AtT.kextract ?_
  refine AtT.kassign ?_
  refine AtT.kassign ?_
  refine AtT.done ?_
  refine At.nrm ?_
  replace hs := hs.le hV33
  refine At.ktext (.q 0 (.n false 1 (.q 2 (.q 3 (.q 4 (.q 5 (.q 6 .done))))))) ?_
  first | refine AtT.kloadOA tk25 ?_ | refine AtT.kloadA tk25 ?_ | refine AtT.kloadOP tk25 ?_
  refine AtT.kcall rfl rfl ok31 (marksF_f dW [] true _ _ (Sl.nil _ _ _)) ?_
  rintro _ V4 hV4 ⟨u4, rfl, hu4⟩; rw [kE1]
  refine AtT.kmove ?_
  refine AtT.kextract ?_
  refine AtT.kextract ?_
  refine AtT.kassign ?_
  refine AtT.kassign ?_
  refine AtT.done ?_
  refine At.nrm ?_
  rw [kM2] at hu4
  replace hs := hs.le hV4
  refine At.ktext (.q 0 (.q 1 (.n false 2 (.q 3 (.q 4 (.q 5 (.q 6 (.q 7 .done)))))))) ?_
  first | refine AtT.kloadOA tk25 ?_ | refine AtT.kloadA tk25 ?_ | refine AtT.kloadOP tk25 ?_
  refine AtT.kmove ?_
  refine AtT.kcall rfl rfl ok36 (plan_f dW pW false _ _ hs) ?_
  rintro _ V5 hV5 ⟨u5, rfl, hu5⟩; rw [wE2]
  refine AtT.kmove ?_
  refine AtT.kextract ?_
  refine AtT.kextract ?_
  refine AtT.kassign ?_
  refine AtT.kassign ?_
  refine AtT.done ?_
  refine At.nrm ?_
  rw [kP1] at hu5
  replace hs := hs.le hV5
  replace hu4 := hu4.le hV5
  refine At.ktext (.q 0 (.q 1 (.n false 2 (.q 3 (.q 4 (.q 5 (.q 6 (.q 7 .done)))))))) ?_
  first | refine AtT.kloadOA tk25 ?_ | refine AtT.kloadA tk25 ?_ | refine AtT.kloadOP tk25 ?_
  refine AtT.kmove ?_
  refine AtT.kcallP rfl rfl ok38 (bound_f dW pW false _ _ hs) ?_
  rintro _ rfl; rw [kD1]
  refine AtT.kmove ?_
  refine AtT.kextract ?_
  refine AtT.kextract ?_
  refine AtT.kassign ?_
  refine AtT.kassign ?_
  refine AtT.done ?_
  refine At.nrm ?_
  refine At.ktext (.q 0 (.q 1 (.n false 2 (.q 3 (.q 4 (.q 5 (.q 6 (.q 7 .done)))))))) ?_
  first | refine AtT.kloadOA tk25 ?_ | refine AtT.kloadA tk25 ?_ | refine AtT.kloadOP tk25 ?_
  refine AtT.kmove ?_
  refine AtT.kcall rfl rfl ok42 (apartF_f dW pW false _ _ hs) ?_
  rintro _ V7 hV7 ⟨u7, rfl, hu7⟩; rw [wO0]
  refine AtT.kmove ?_
  refine AtT.kextract ?_
  refine AtT.kextract ?_
  refine AtT.kassign ?_
  refine AtT.kassign ?_
  refine AtT.done ?_
  refine At.nrm ?_
  rw [if_pos wO0, kA1] at hu7
  replace hs := hs.le hV7
  replace hu4 := hu4.le hV7
  replace hu5 := hu5.le hV7
  refine At.draw (.q 0 (.q 1 (.n false 2 (.n false 3 (.n false 4 (.q 5 (.q 6 (.q 7 (.q 8 (.q 9 (.q 10 (.q 11 .done)))))))))))) ffm (by kernel_rfl) ?_
  first | refine AtT.kloadOA tk25 ?_ | refine AtT.kloadA tk25 ?_ | refine AtT.kloadOP tk25 ?_
  refine AtT.kmove ?_
  refine AtT.kbsliceG (bs27_5_0_1_2_3_4 _ _ _ _ _) ?_
  intro q64 V64 hV64 hq64
  refine AtT.kcallP rfl rfl ok56 (of56_f _ _) ?_
  rintro _ rfl
  refine AtT.kcallP rfl rfl ok40 (spares_f dW pW true [0, 1, 1, 0, 0] _ _ _ (hs.le hV64) (Sl.lit hq64 rfl (by simp))) ?_
  rintro _ rfl; rw [kS1]
  refine AtT.kmove ?_
  refine AtT.kextract ?_
  refine AtT.kextract ?_
  refine AtT.kextract ?_
  refine AtT.kassign ?_
  refine AtT.kassign ?_
  refine AtT.kassign ?_
  refine AtT.done ?_
  refine At.nrm ?_
  replace hs := hs.le hV64
  replace hu4 := hu4.le hV64
  replace hu5 := hu5.le hV64
  replace hu7 := hu7.le hV64
  obtain ⟨a4, c4, rfl, _⟩ := id hu4
  have y1 := day_f dW
  have y2 := pan_f pW
  rw [kY1] at y1
  rw [kY2] at y2
  refine At.ktext (.q 0 (.q 1 (.q 2 (.q 3 (.q 4 (.q 5 (.q 6 (.q 7 (.q 8 (.q 9 (.q 10 (.q 11 (.q 12 (.q 13 (.q 14 (.q 15 (.q 16 (.q 17 (.q 18 (.q 19 (.q 20 (.n false 21 (.n false 22 (.n false 23 (.q 24 (.q 25 (.q 26 (.q 27 (.q 28 (.q 29 (.q 30 (.q 31 (.q 32 (.q 33 (.q 34 (.q 35 (.q 36 (.q 37 (.q 38 (.n false 39 (.n false 40 (.n false 41 (.q 42 (.q 43 (.q 44 (.q 45 (.q 46 (.q 47 (.q 48 (.q 49 (.q 50 (.q 51 (.q 52 (.q 53 (.q 54 (.q 55 (.q 56 (.n false 57 (.q 58 (.q 59 (.q 60 (.q 61 (.n false 62 (.q 63 (.q 64 (.q 65 (.n false 66 (.q 67 (.q 68 .done))))))))))))))))))))))))))))))))))))))))))))))))))))))))))))))))))))) ?_
  refine AtT.kmove ?_
  refine AtT.keqI ?_
  refine AtT.kmove ?_
  all_goals (first | refine AtT.kL 72 ?_ | refine AtT.pcase (d := 72) rfl (fun hg72 => ?_) (fun hg72 => ?_) | refine AtT.bcase (d := 72) rfl (fun hg72 => ?_) (fun hg72 => ?_))
  all_goals (first | refine AtT.kpass ?_ | refine AtT.kpassU ?_ | ((refine AtT.kmove ?_)))
  all_goals (first | refine AtT.kpass ?_ | refine AtT.kpassU ?_ | ((refine AtT.keqI ?_)))
  all_goals (refine AtT.kpick ?_)
  all_goals (refine AtT.kmove ?_)
  all_goals (first | refine AtT.kL 76 ?_ | refine AtT.pcase (d := 76) rfl (fun hg76 => ?_) (fun hg76 => ?_) | refine AtT.bcase (d := 76) rfl (fun hg76 => ?_) (fun hg76 => ?_))
  all_goals (first | refine AtT.kpass ?_ | refine AtT.kpassU ?_ | ((refine AtT.kmove ?_)))
  all_goals (first | refine AtT.kpass ?_ | refine AtT.kpassU ?_ | ((refine AtT.keqI ?_)))
  all_goals (refine AtT.kpick ?_)
  all_goals (refine AtT.kmove ?_)
  all_goals (first | refine AtT.kL 80 ?_ | refine AtT.pcase (d := 80) rfl (fun hg80 => ?_) (fun hg80 => ?_) | refine AtT.bcase (d := 80) rfl (fun hg80 => ?_) (fun hg80 => ?_))
  all_goals (first | refine AtT.kpass ?_ | refine AtT.kpassU ?_ | ((refine AtT.kmove ?_)))
  all_goals (first | refine AtT.kpass ?_ | refine AtT.kpassU ?_ | ((first | refine AtT.klenS Try.underlying27 ?_ | refine AtT.klenR Try.underlying27 ?_)))
  all_goals (first | refine AtT.kpass ?_ | refine AtT.kpassU ?_ | ((refine AtT.keqI ?_)))
  all_goals (refine AtT.kpick ?_)
  all_goals (refine AtT.kmove ?_)
  all_goals (first | refine AtT.kL 85 ?_ | refine AtT.pcase (d := 85) rfl (fun hg85 => ?_) (fun hg85 => ?_) | refine AtT.bcase (d := 85) rfl (fun hg85 => ?_) (fun hg85 => ?_))
  all_goals (first | refine AtT.kpass ?_ | refine AtT.kpassU ?_ | ((refine AtT.kmove ?_)))
  all_goals (first | refine AtT.kpass ?_ | refine AtT.kpassU ?_ | ((refine AtT.keqI ?_)))
  all_goals (refine AtT.kpick ?_)
  all_goals (refine AtT.kmove ?_)
  all_goals (first | refine AtT.kL 89 ?_ | refine AtT.pcase (d := 89) rfl (fun hg89 => ?_) (fun hg89 => ?_) | refine AtT.bcase (d := 89) rfl (fun hg89 => ?_) (fun hg89 => ?_))
  all_goals (first | refine AtT.kpass ?_ | refine AtT.kpassU ?_ | ((refine AtT.kmove ?_)))
  all_goals (first | refine AtT.kpassN ?_ | refine AtT.kpassNU ?_ | ((refine AtT.kbsliceG (bs27_5_0_1_2_3_4 _ _ _ _ _) ?_) ; (intro q91 V91 hV91 hq91)))
  all_goals (first | refine AtT.kpassN ?_ | refine AtT.kpassNU ?_ | ((refine AtT.kcallP rfl rfl ok56 (of56_f _ _) ?_) ; (rintro _ rfl)))
  all_goals (first | refine AtT.kpassN ?_ | refine AtT.kpassNU ?_ | ((refine AtT.kcallP rfl rfl ok32 (ints_f _ [0, 0, 0, 1, 1] _ _ _ (hu5.le hV91) (Sl.lit hq91 rfl (by simp))) ?_) ; (rintro _ rfl)))
  all_goals (refine AtT.kpick ?_)
  all_goals (refine AtT.kmove ?_)
  all_goals (first | refine AtT.kL 95 ?_ | refine AtT.pcase (d := 95) rfl (fun hg95 => ?_) (fun hg95 => ?_) | refine AtT.bcase (d := 95) rfl (fun hg95 => ?_) (fun hg95 => ?_))
  all_goals (first | refine AtT.kpass ?_ | refine AtT.kpassU ?_ | ((refine AtT.kmove ?_)))
  all_goals (first | refine AtT.kpass ?_ | refine AtT.kpassU ?_ | ((refine AtT.keqI ?_)))
  all_goals (refine AtT.kpick ?_)
  all_goals (refine AtT.kmove ?_)
  all_goals (first | refine AtT.kL 99 ?_ | refine AtT.pcase (d := 99) rfl (fun hg99 => ?_) (fun hg99 => ?_) | refine AtT.bcase (d := 99) rfl (fun hg99 => ?_) (fun hg99 => ?_))
  all_goals (first | refine AtT.kpass ?_ | refine AtT.kpassU ?_ | ((refine AtT.kmove ?_)))
  all_goals (first | refine AtT.kpass ?_ | refine AtT.kpassU ?_ | ((refine AtT.keqI ?_)))
  all_goals (refine AtT.kpick ?_)
  all_goals (refine AtT.kmove ?_)
  all_goals (first | refine AtT.kL 103 ?_ | refine AtT.pcase (d := 103) rfl (fun hg103 => ?_) (fun hg103 => ?_) | refine AtT.bcase (d := 103) rfl (fun hg103 => ?_) (fun hg103 => ?_))
  all_goals (first | refine AtT.kpass ?_ | refine AtT.kpassU ?_ | ((refine AtT.kmove ?_)))
  all_goals (first | refine AtT.kpass ?_ | refine AtT.kpassU ?_ | ((refine AtT.keqI ?_)))
  all_goals (refine AtT.kpick ?_)
  all_goals (refine AtT.kmove ?_)
  all_goals (first | refine AtT.kL 107 ?_ | refine AtT.pcase (d := 107) rfl (fun hg107 => ?_) (fun hg107 => ?_) | refine AtT.bcase (d := 107) rfl (fun hg107 => ?_) (fun hg107 => ?_))
  all_goals (first | refine AtT.kpass ?_ | refine AtT.kpassU ?_ | ((refine AtT.kmove ?_)))
  all_goals (first | refine AtT.kpassN ?_ | refine AtT.kpassNU ?_ | ((refine AtT.kbsliceG (bs27_1_0 _) ?_) ; (intro q109 V109 hV109 hq109)))
  all_goals (first | refine AtT.kpassN ?_ | refine AtT.kpassNU ?_ | ((refine AtT.kcallP rfl rfl ok56 (of56_f _ _) ?_) ; (rintro _ rfl)))
  all_goals (first | refine AtT.kpassN ?_ | refine AtT.kpassNU ?_ | ((refine AtT.kcallP rfl rfl ok32 (ints_f _ [0] _ _ _ (hu7.le (hV91.trans hV109)) (Sl.lit hq109 rfl (by simp))) ?_) ; (rintro _ rfl)))
  all_goals (refine AtT.kpick ?_)
  all_goals (refine AtT.kmove ?_)
  all_goals (first | refine AtT.kL 113 ?_ | refine AtT.pcase (d := 113) rfl (fun hg113 => ?_) (fun hg113 => ?_) | refine AtT.bcase (d := 113) rfl (fun hg113 => ?_) (fun hg113 => ?_))
  all_goals (first | refine AtT.kpass ?_ | refine AtT.kpassU ?_ | ((refine AtT.kmove ?_)))
  all_goals (first | refine AtT.kpass ?_ | refine AtT.kpassU ?_ | ((refine AtT.keqI ?_)))
  all_goals (refine AtT.kpick ?_)
  all_goals (refine AtT.kmove ?_)
  all_goals (first | refine AtT.kL 117 ?_ | refine AtT.pcase (d := 117) rfl (fun hg117 => ?_) (fun hg117 => ?_) | refine AtT.bcase (d := 117) rfl (fun hg117 => ?_) (fun hg117 => ?_))
  all_goals (first | refine AtT.kpass ?_ | refine AtT.kpassU ?_ | ((refine AtT.kmove ?_)))
  all_goals (first | refine AtT.kpass ?_ | refine AtT.kpassU ?_ | ((refine AtT.keqI ?_)))
  all_goals (refine AtT.kpick ?_)
  all_goals (refine AtT.kmove ?_)
  all_goals (first | refine AtT.kL 121 ?_ | refine AtT.pcase (d := 121) rfl (fun hg121 => ?_) (fun hg121 => ?_) | refine AtT.bcase (d := 121) rfl (fun hg121 => ?_) (fun hg121 => ?_))
  all_goals (first | refine AtT.kpass ?_ | refine AtT.kpassU ?_ | ((refine AtT.kmove ?_)))
  all_goals (first | refine AtT.kpass ?_ | refine AtT.kpassU ?_ | ((refine AtT.keqI ?_)))
  all_goals (refine AtT.kpick ?_)
  all_goals (refine AtT.kmove ?_)
  all_goals (first | refine AtT.kL 125 ?_ | refine AtT.pcase (d := 125) rfl (fun hg125 => ?_) (fun hg125 => ?_) | refine AtT.bcase (d := 125) rfl (fun hg125 => ?_) (fun hg125 => ?_))
  all_goals (first | refine AtT.kpass ?_ | refine AtT.kpassU ?_ | ((first | refine AtT.kloadOA tk25 ?_ | refine AtT.kloadA tk25 ?_ | refine AtT.kloadOP tk25 ?_)))
  all_goals (first | refine AtT.kpassN ?_ | refine AtT.kpassNU ?_ | ((refine AtT.kcallP rfl rfl ok21 (y1 _) ?_) ; (rintro _ rfl)))
  all_goals (first | refine AtT.kpass ?_ | refine AtT.kpassU ?_ | ((refine AtT.keqI ?_)))
  all_goals (refine AtT.kpick ?_)
  all_goals (refine AtT.kmove ?_)
  all_goals (first | refine AtT.kL 130 ?_ | refine AtT.pcase (d := 130) rfl (fun hg130 => ?_) (fun hg130 => ?_) | refine AtT.bcase (d := 130) rfl (fun hg130 => ?_) (fun hg130 => ?_))
  all_goals (first | refine AtT.kpass ?_ | refine AtT.kpassU ?_ | ((refine AtT.kmove ?_)))
  all_goals (first | refine AtT.kpassN ?_ | refine AtT.kpassNU ?_ | ((refine AtT.kcallP rfl rfl ok23 (y2 _ _ (hs.le (hV91.trans hV109))) ?_) ; (rintro _ rfl)))
  all_goals (first | refine AtT.kpass ?_ | refine AtT.kpassU ?_ | ((refine AtT.keqI ?_)))
  all_goals (refine AtT.kpick ?_)
  all_goals (refine AtT.kmove ?_)
  all_goals (first | refine AtT.kL 135 ?_ | refine AtT.pcase (d := 135) rfl (fun hg135 => ?_) (fun hg135 => ?_) | refine AtT.bcase (d := 135) rfl (fun hg135 => ?_) (fun hg135 => ?_))
  all_goals (first | refine AtT.kpassN ?_ | refine AtT.kpassNU ?_ | ((refine AtT.kcallP rfl rfl ok18 (works_f _) ?_) ; (rintro _ rfl)))
  all_goals (refine AtT.kpick ?_)
  all_goals (refine AtT.kassign ?_)
  all_goals refine AtT.done ?_
  all_goals (refine At.nrm ?_)
  exact At.ret1 rfl (.tmp rfl) rfl
end Go.Proofs.Ytmnbkceiaifncaa
set_option linter.unusedVariables false
namespace Go.Proofs.Ytmnbkceiaifncaa.c13
open Go.Lw Go.Gl Go.RowKit Go.ChangeShapes Go.WideShapes Go.ChangeAt

set_option maxRecDepth 100000 in
theorem lifted (os : Os) (started : os.Started) (H : Type) (enc : TypeId × Value → H) :
    ReturnsInHanded {} Try.checked os 15 .any (Rows.glueKnownSpec.pre6 enc Try.prog Try.f15 Rows.glueKnownRow.domain false) (Rows.glueKnownSpec.post enc Try.prog Try.f15 false true false false) := by
  refine law_lift (tb := 4) (fun ds hd => by match ds, hd with | [], _ => rfl) rfl (by kernel_rfl) Try.underlying4 laidOut (by kernel_rfl) own started (by kernel_rfl) Try.func15
    (ChangeSpec.witness6 (enc := enc) (C := Try.checked) false ⟨#[], #[], []⟩ 8 (by kernel_rfl) (by kernel_rfl) (by kernel_rfl) (by kernel_rfl)) ?_
  intro W base args ds ps hval hA
  rw [Try.params15] at hA hval
  obtain ⟨hargs, rfl, rfl⟩ := trodAll_nil hA
  obtain rfl : args = #[] := by cases args; simp_all
  exact ⟨[], rfl, glueKnown_f _⟩

theorem over : Rows.glueKnownRow.holds Try.pinned (OpenSpec.ofChange Rows.glueKnownSpec) :=
  OpenClaim.holds_of_wide 15 Try.f15 rfl rfl rfl rfl rfl rfl rfl ⟨rfl, rfl, rfl, rfl, rfl⟩ rfl rfl rfl rfl rfl (by kernel_rfl) Try.func15 (by kernel_rfl)
    (of_decide_eq_true (by kernel_rfl)) (by unfold Func.isWrapper; first | (rw [if_pos (by decide +kernel)]; kernel_rfl) | (rw [if_neg (by decide +kernel)]; exact ⟨rfl, rfl⟩))
    (fun os started H enc _ => lifted os started H enc)

theorem proved : Rows.GlueKnownSaid := over
#print axioms proved
end Go.Proofs.Ytmnbkceiaifncaa.c13
