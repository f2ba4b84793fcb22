/- Texts that the last one of this claim imports. -/
import Derived.SizedLaws
import Derived.Test.YtfcpmblmklibjaaB5
set_option linter.unusedVariables false
set_option linter.unusedSimpArgs false
set_option linter.unusedSectionVars false
set_option linter.unusedVariables false
namespace Go.Proofs.Ytfcpmblmklibjaa
open Go.Lw Go.Gl Go.Bl Go.RowKit

theorem nx1 : nxR [66, 4098, 4160] = (⟨0, 0, 2⟩, 1, 0) := by unfold nxR; rw [wN1.2, if_neg (by rw [← wN1.2, wN1.1]; decide)]; rw [show tel [66, 4098, 4160] ⟨0, 0, 2⟩ = 1 by rw [← wN1.2]; exact wN1.1]
theorem nx2 : nxR [66] = (⟨0, 0, 0⟩, 0, 5) := by unfold nxR; rw [if_pos wN2]
theorem bm1 : bmN [66, 4098, 4160] 1 = 1 := by decide +kernel
theorem bm2 : bmN [66] 1 = 2 := by decide +kernel
set_option maxHeartbeats 3200000 in
set_option maxRecDepth 20000 in
theorem works_f (V : View) : Fnc Try.prog 16 [] V fun r _ => r = .bool true := by
  refine fn_of Try.func16 rfl Try.ntmps16 (Nat.le_of_ble_eq_true rfl) ?_
  intro w0 hw0
  refine At.nrm ?_
  refine At.ktext (.q 0 .done) ?_
  refine AtT.kassign ?_
  refine AtT.done ?_
  refine At.nrm ?_
  refine At.ktext (.n false 0 (.n false 1 (.n false 2 (.q 3 (.q 4 (.q 5 .done)))))) ?_
  refine AtT.kcall rfl rfl ok51 (five_f _) ?_
  rintro _ V45 hV45 ⟨a1, c1, rfl, hs1⟩
  refine AtT.kcall rfl rfl ok52 (six_f _) ?_
  rintro _ V46 hV46 ⟨a2, c2, rfl, hs2⟩
  refine AtT.kcall rfl rfl ok53 (seven_f _) ?_
  rintro _ V47 hV47 ⟨a3, c3, rfl, hs3⟩
  refine AtT.kassign ?_
  refine AtT.kassign ?_
  refine AtT.kassign ?_
  refine AtT.done ?_
  refine At.nrm ?_
  replace hs1 := (hs1.le hV46).le hV47
  replace hs2 := hs2.le hV47
  clear hV45 hV46 hV47
  refine At.ktext (.n false 0 (.n false 1 (.q 2 (.q 3 (.q 4 (.q 5 (.q 6 .done))))))) ?_
  refine AtT.kcallP rfl rfl ok44 (panel_f 1 2 2 _) ?_
  rintro _ rfl
  refine AtT.kcall rfl rfl ok17 (causes17_f ⟨1, 2, 2⟩ _) ?_
  rintro _ V50 hV50 ⟨u50, rfl, hu50⟩; rw [show caE ⟨1, 2, 2⟩ = 0 by decide +kernel]
  refine AtT.kmove ?_
  refine AtT.kextract ?_
  refine AtT.kextract ?_
  refine AtT.kassign ?_
  refine AtT.kassign ?_
  refine AtT.done ?_
  refine At.nrm ?_
  rw [show caR ⟨1, 2, 2⟩ = [1, 7, 12] by decide +kernel] at hu50
  replace hs1 := hs1.le hV50
  replace hs2 := hs2.le hV50
  replace hs3 := hs3.le hV50
  clear hV50
  refine At.ktext (.n false 0 (.n false 1 (.q 2 (.q 3 (.q 4 (.q 5 (.q 6 .done))))))) ?_
  refine AtT.kcallP rfl rfl ok44 (panel_f 5 0 0 _) ?_
  rintro _ rfl
  refine AtT.kcall rfl rfl ok17 (causes17_f ⟨5, 0, 0⟩ _) ?_
  rintro _ V55 hV55 ⟨u55, rfl, hu55⟩; rw [show caE ⟨5, 0, 0⟩ = 3 by decide +kernel]
  refine AtT.kmove ?_
  refine AtT.kextract ?_
  refine AtT.kextract ?_
  refine AtT.kassign ?_
  refine AtT.kassign ?_
  refine AtT.done ?_
  refine At.nrm ?_
  replace hs1 := hs1.le hV55
  replace hs2 := hs2.le hV55
  replace hs3 := hs3.le hV55
  replace hu50 := hu50.le hV55
  clear hV55
  refine At.ktext (.q 0 (.n false 1 (.q 2 (.q 3 (.q 4 (.q 5 (.q 6 .done))))))) ?_
  refine AtT.kmove ?_
  refine AtT.kcall rfl rfl ok19 (clear_f tW _ _ hs1) ?_
  rintro _ V60 hV60 ⟨u60, rfl, hu60⟩; rw [wT0]
  refine AtT.kmove ?_
  refine AtT.kextract ?_
  refine AtT.kextract ?_
  refine AtT.kassign ?_
  refine AtT.kassign ?_
  refine AtT.done ?_
  refine At.nrm ?_
  rw [wC1] at hu60
  replace hs1 := hs1.le hV60
  replace hs2 := hs2.le hV60
  replace hs3 := hs3.le hV60
  replace hu50 := hu50.le hV60
  clear hV60
  refine At.ktext (.q 0 (.n false 1 (.n false 2 (.n false 3 (.q 4 (.n false 5 (.n false 6 (.n false 7 (.q 8 (.n false 9 (.n false 10 (.n false 11 (.q 12 (.n false 13 (.n false 14 (.n false 15 (.q 16 (.q 17 (.q 18 (.q 19 .done)))))))))))))))))))) ?_
  refine AtT.kmove ?_
  refine AtT.kbsliceG (bs25_2_0_1 _ _) ?_
  intro q64 V64 hV64 hq64
  refine AtT.kcallP rfl rfl ok54 (of_f _ _) ?_
  rintro _ rfl
  refine AtT.kcallP rfl rfl ok24 (checkCauses_f tW [1, 6] _ _ _ (hs1.le hV64) (Sl.lit hq64 rfl (by decide))) ?_
  rintro _ rfl; rw [wK1]
  refine AtT.kmove ?_
  refine AtT.kbsliceG (bs25_1_0 _) ?_
  intro q68 V68 hV68 hq68
  refine AtT.kcallP rfl rfl ok54 (of_f _ _) ?_
  rintro _ rfl
  refine AtT.kcallP rfl rfl ok24 (checkCauses_f tW [6] _ _ _ ((hs1.le hV64).le hV68) (Sl.lit hq68 rfl (by decide))) ?_
  rintro _ rfl; rw [wK2]
  refine AtT.kmove ?_
  refine AtT.kbsliceG (bs25_3_0_1_2 _ _ _) ?_
  intro q72 V72 hV72 hq72
  refine AtT.kcallP rfl rfl ok54 (of_f _ _) ?_
  rintro _ rfl
  refine AtT.kcallP rfl rfl ok24 (checkCauses_f tW [0, 1, 6] _ _ _ (((hs1.le hV64).le hV68).le hV72) (Sl.lit hq72 rfl (by decide))) ?_
  rintro _ rfl; rw [wK3]
  refine AtT.kmove ?_
  refine AtT.kbsliceG (bs25_2_0_1 _ _) ?_
  intro q76 V76 hV76 hq76
  refine AtT.kcallP rfl rfl ok54 (of_f _ _) ?_
  rintro _ rfl
  refine AtT.kcallP rfl rfl ok24 (checkCauses_f tW [6, 1] _ _ _ ((((hs1.le hV64).le hV68).le hV72).le hV76) (Sl.lit hq76 rfl (by decide))) ?_
  rintro _ rfl; rw [wK4]
  refine AtT.kassign ?_
  refine AtT.kassign ?_
  refine AtT.kassign ?_
  refine AtT.kassign ?_
  refine AtT.done ?_
  refine At.nrm ?_
  replace hs1 := hs1.le hV64
  replace hs2 := hs2.le hV64
  replace hs3 := hs3.le hV64
  replace hu50 := hu50.le hV64
  replace hu60 := hu60.le hV64
  clear hV64
  replace hs1 := hs1.le hV68
  replace hs2 := hs2.le hV68
  replace hs3 := hs3.le hV68
  replace hu50 := hu50.le hV68
  replace hu60 := hu60.le hV68
  clear hV68
  replace hs1 := hs1.le hV72
  replace hs2 := hs2.le hV72
  replace hs3 := hs3.le hV72
  replace hu50 := hu50.le hV72
  replace hu60 := hu60.le hV72
  clear hV72
  replace hs1 := hs1.le hV76
  replace hs2 := hs2.le hV76
  replace hs3 := hs3.le hV76
  replace hu50 := hu50.le hV76
  replace hu60 := hu60.le hV76
  clear hV76
  refine At.ktext (.q 0 (.n false 1 (.q 2 (.q 3 (.q 4 (.q 5 (.q 6 .done))))))) ?_
  refine AtT.kmove ?_
  refine AtT.kcallP rfl rfl ok26 (fewestA tW wTa _ _ hs1) ?_
  rintro _ ⟨L81, x81, hal81, hx81, rfl⟩; obtain rfl := alS_uniq hal81 alsT; obtain rfl : 66 = x81 := (by simpa using hx81); rw [wCnt]
  refine AtT.kmove ?_
  refine AtT.kextract ?_
  refine AtT.kextract ?_
  refine AtT.kassign ?_
  refine AtT.kassign ?_
  refine AtT.done ?_
  refine At.nrm ?_
  refine At.ktext (.q 0 (.n false 1 (.q 2 (.q 3 (.q 4 (.q 5 (.q 6 .done))))))) ?_
  refine AtT.kmove ?_
  refine AtT.kcallP rfl rfl ok26 (fewest_bad vW (by rw [wVa]; decide) _ _ hs3) ?_
  rintro _ rfl; rw [wVa]
  refine AtT.kmove ?_
  refine AtT.kextract ?_
  refine AtT.kextract ?_
  refine AtT.kassign ?_
  refine AtT.kassign ?_
  refine AtT.done ?_
  refine At.nrm ?_
  refine At.ktext (.q 0 (.n false 1 (.q 2 (.q 3 (.q 4 (.q 5 (.q 6 .done))))))) ?_
  refine AtT.kmove ?_
  refine AtT.kcall rfl rfl ok28 (allA tW wTa _ _ hs1) ?_
  rintro _ V91 hV91 ⟨u91, L91, rfl, hal91, hu91⟩; obtain rfl := alS_uniq hal91 alsT; rw [wBl1] at hu91
  refine AtT.kmove ?_
  refine AtT.kextract ?_
  refine AtT.kextract ?_
  refine AtT.kassign ?_
  refine AtT.kassign ?_
  refine AtT.done ?_
  refine At.nrm ?_
  replace hs1 := hs1.le hV91
  replace hs2 := hs2.le hV91
  replace hs3 := hs3.le hV91
  replace hu50 := hu50.le hV91
  replace hu60 := hu60.le hV91
  clear hV91
  refine At.ktext (.q 0 (.n false 1 (.q 2 (.q 3 (.q 4 (.q 5 (.q 6 .done))))))) ?_
  refine AtT.kmove ?_
  refine AtT.kcall rfl rfl ok28 (allA uW wUa _ _ hs2) ?_
  rintro _ V96 hV96 ⟨u96, L96, rfl, hal96, hu96⟩; obtain rfl := alS_uniq hal96 alsU; rw [wBl2] at hu96
  refine AtT.kmove ?_
  refine AtT.kextract ?_
  refine AtT.kextract ?_
  refine AtT.kassign ?_
  refine AtT.kassign ?_
  refine AtT.done ?_
  refine At.nrm ?_
  replace hs1 := hs1.le hV96
  replace hs2 := hs2.le hV96
  replace hs3 := hs3.le hV96
  replace hu50 := hu50.le hV96
  replace hu60 := hu60.le hV96
  replace hu91 := hu91.le hV96
  clear hV96
  refine At.ktext (.q 0 (.n false 1 (.q 2 (.q 3 (.q 4 (.q 5 (.q 6 .done))))))) ?_
  refine AtT.kmove ?_
  refine AtT.kcallP rfl rfl ok31 (unclear_f tW _ _ hs1) ?_
  rintro _ rfl; rw [wU1]
  refine AtT.kmove ?_
  refine AtT.kextract ?_
  refine AtT.kextract ?_
  refine AtT.kassign ?_
  refine AtT.kassign ?_
  refine AtT.done ?_
  refine At.nrm ?_
  refine At.ktext (.q 0 (.n false 1 (.q 2 (.q 3 (.q 4 (.q 5 (.q 6 .done))))))) ?_
  refine AtT.kmove ?_
  refine AtT.kcallP rfl rfl ok31 (unclear_f vW _ _ hs3) ?_
  rintro _ rfl; rw [wU2]
  refine AtT.kmove ?_
  refine AtT.kextract ?_
  refine AtT.kextract ?_
  refine AtT.kassign ?_
  refine AtT.kassign ?_
  refine AtT.done ?_
  refine At.nrm ?_
  refine At.ktext (.q 0 (.n false 1 (.q 2 (.q 3 (.q 4 (.q 5 (.q 6 .done))))))) ?_
  refine AtT.kmove ?_
  refine AtT.kcall rfl rfl ok33 (apF_f tW _ _ hs1) ?_
  rintro _ V111 hV111 ⟨u111, rfl, hu111⟩; rw [wT0]
  refine AtT.kmove ?_
  refine AtT.kextract ?_
  refine AtT.kextract ?_
  refine AtT.kassign ?_
  refine AtT.kassign ?_
  refine AtT.done ?_
  refine At.nrm ?_
  unfold apR at hu111
  rw [if_pos wT0, wA1] at hu111
  replace hs1 := hs1.le hV111
  replace hs2 := hs2.le hV111
  replace hs3 := hs3.le hV111
  replace hu50 := hu50.le hV111
  replace hu60 := hu60.le hV111
  replace hu91 := hu91.le hV111
  replace hu96 := hu96.le hV111
  clear hV111
  refine At.ktext (.q 0 (.n false 1 (.n false 2 (.n false 3 (.q 4 (.n false 5 (.n false 6 (.n false 7 (.q 8 (.n false 9 (.n false 10 (.n false 11 (.q 12 (.q 13 (.q 14 .done))))))))))))))) ?_
  refine AtT.kmove ?_
  refine AtT.kbsliceG (bs25_2_0_1 _ _) ?_
  intro q115 V115 hV115 hq115
  refine AtT.kcallP rfl rfl ok54 (of_f _ _) ?_
  rintro _ rfl
  refine AtT.kcallP rfl rfl ok35 (ckAp_f tW [0, 2] _ _ _ (hs1.le hV115) (Sl.lit hq115 rfl (by decide))) ?_
  rintro _ rfl; rw [wA2]
  refine AtT.kmove ?_
  refine AtT.kbsliceG (bs25_2_0_1 _ _) ?_
  intro q119 V119 hV119 hq119
  refine AtT.kcallP rfl rfl ok54 (of_f _ _) ?_
  rintro _ rfl
  refine AtT.kcallP rfl rfl ok35 (ckAp_f tW [0, 1] _ _ _ ((hs1.le hV115).le hV119) (Sl.lit hq119 rfl (by decide))) ?_
  rintro _ rfl; rw [wA3]
  refine AtT.kmove ?_
  refine AtT.kbsliceG (bs25_2_0_1 _ _) ?_
  intro q123 V123 hV123 hq123
  refine AtT.kcallP rfl rfl ok54 (of_f _ _) ?_
  rintro _ rfl
  refine AtT.kcallP rfl rfl ok35 (ckAp_f tW [2, 0] _ _ _ (((hs1.le hV115).le hV119).le hV123) (Sl.lit hq123 rfl (by decide))) ?_
  rintro _ rfl; rw [wA4]
  refine AtT.kassign ?_
  refine AtT.kassign ?_
  refine AtT.kassign ?_
  refine AtT.done ?_
  refine At.nrm ?_
  replace hs1 := hs1.le hV115
  replace hs2 := hs2.le hV115
  replace hs3 := hs3.le hV115
  replace hu50 := hu50.le hV115
  replace hu60 := hu60.le hV115
  replace hu91 := hu91.le hV115
  replace hu96 := hu96.le hV115
  replace hu111 := hu111.le hV115
  clear hV115
  replace hs1 := hs1.le hV119
  replace hs2 := hs2.le hV119
  replace hs3 := hs3.le hV119
  replace hu50 := hu50.le hV119
  replace hu60 := hu60.le hV119
  replace hu91 := hu91.le hV119
  replace hu96 := hu96.le hV119
  replace hu111 := hu111.le hV119
  clear hV119
  replace hs1 := hs1.le hV123
  replace hs2 := hs2.le hV123
  replace hs3 := hs3.le hV123
  replace hu50 := hu50.le hV123
  replace hu60 := hu60.le hV123
  replace hu91 := hu91.le hV123
  replace hu96 := hu96.le hV123
  replace hu111 := hu111.le hV123
  clear hV123
  refine At.ktext (.q 0 (.n false 1 (.q 2 (.q 3 (.q 4 (.q 5 (.q 6 .done))))))) ?_
  refine AtT.kmove ?_
  refine AtT.kcallP rfl rfl ok45 (blame_ok tW wTa 1 (by decide) _ _ hs1) ?_
  rintro _ ⟨L, hal, rfl⟩; obtain rfl := alS_uniq hal alsT; rw [bm1]
  refine AtT.kmove ?_
  refine AtT.kextract ?_
  refine AtT.kextract ?_
  refine AtT.kassign ?_
  refine AtT.kassign ?_
  refine AtT.done ?_
  refine At.nrm ?_
  refine At.ktext (.q 0 (.n false 1 (.q 2 (.q 3 (.q 4 (.q 5 (.q 6 .done))))))) ?_
  refine AtT.kmove ?_
  refine AtT.kcallP rfl rfl ok45 (blame_ok uW wUa 1 (by decide) _ _ hs2) ?_
  rintro _ ⟨L, hal, rfl⟩; obtain rfl := alS_uniq hal alsU; rw [bm2]
  refine AtT.kmove ?_
  refine AtT.kextract ?_
  refine AtT.kextract ?_
  refine AtT.kassign ?_
  refine AtT.kassign ?_
  refine AtT.done ?_
  refine At.nrm ?_
  refine At.ktext (.q 0 (.n false 1 (.q 2 (.q 3 (.q 4 (.q 5 (.q 6 .done))))))) ?_
  refine AtT.kmove ?_
  refine AtT.kcallP rfl rfl ok45 (blame_bad tW wT0 15 (by decide) _ _ hs1) ?_
  rintro _ rfl
  refine AtT.kmove ?_
  refine AtT.kextract ?_
  refine AtT.kextract ?_
  refine AtT.kassign ?_
  refine AtT.kassign ?_
  refine AtT.done ?_
  refine At.nrm ?_
  refine At.ktext (.q 0 (.n false 1 (.n false 2 (.q 3 (.q 4 (.q 5 (.q 6 (.q 7 .done)))))))) ?_
  refine AtT.kmove ?_
  refine AtT.kcallP rfl rfl ok44 (panel_f 0 0 2 _) ?_
  rintro _ rfl
  refine AtT.kcallP rfl rfl ok46 (failsF_ok tW wTa ⟨0, 0, 2⟩ (by decide +kernel) _ _ hs1) ?_
  rintro _ ⟨L, hal, rfl⟩; obtain rfl := alS_uniq hal alsT; rw [wF1]
  refine AtT.kmove ?_
  refine AtT.kextract ?_
  refine AtT.kextract ?_
  refine AtT.kassign ?_
  refine AtT.kassign ?_
  refine AtT.done ?_
  refine At.nrm ?_
  refine At.ktext (.q 0 (.n false 1 (.q 2 (.q 3 (.q 4 (.q 5 (.n false 6 (.n true 7 (.q 8 (.q 9 .done)))))))))) ?_
  refine AtT.kmove ?_
  refine AtT.kcallP rfl rfl ok47 (next_ok tW wTa _ _ hs1) ?_
  rintro _ ⟨L, hal, rfl⟩; obtain rfl := alS_uniq hal alsT; rw [nx1]
  refine AtT.kmove ?_
  refine AtT.kextract ?_
  refine AtT.kextract ?_
  refine AtT.kextract ?_
  refine AtT.kalloc z24 ?_
  intro b39
  refine AtT.kstoreA tk24 ?_
  refine AtT.kassign ?_
  refine AtT.kassign ?_
  refine AtT.done ?_
  refine At.nrm ?_
  refine At.ktext (.q 0 (.n false 1 (.q 2 (.q 3 (.q 4 (.q 5 (.n false 6 (.n true 7 (.q 8 (.q 9 .done)))))))))) ?_
  refine AtT.kmove ?_
  refine AtT.kcallP rfl rfl ok47 (next_ok uW wUa _ _ hs2) ?_
  rintro _ ⟨L, hal, rfl⟩; obtain rfl := alS_uniq hal alsU; rw [nx2]
  refine AtT.kmove ?_
  refine AtT.kextract ?_
  refine AtT.kextract ?_
  refine AtT.kextract ?_
  refine AtT.kalloc z24 ?_
  intro b42
  refine AtT.kstoreA tk24 ?_
  refine AtT.kassign ?_
  refine AtT.kassign ?_
  refine AtT.done ?_
  refine At.nrm ?_
  refine At.ktext (.q 0 (.q 1 (.q 2 (.q 3 (.q 4 (.q 5 (.q 6 (.q 7 (.q 8 (.q 9 (.q 10 (.q 11 (.q 12 (.q 13 (.q 14 (.q 15 (.q 16 (.q 17 (.q 18 (.q 19 (.q 20 (.q 21 (.q 22 (.q 23 (.q 24 (.q 25 (.q 26 (.q 27 (.q 28 (.q 29 (.q 30 (.q 31 (.q 32 (.q 33 (.q 34 (.q 35 (.q 36 (.q 37 (.q 38 (.q 39 (.q 40 (.q 41 (.q 42 (.q 43 (.q 44 (.q 45 (.q 46 (.q 47 (.q 48 (.q 49 (.q 50 (.q 51 (.q 52 (.q 53 (.q 54 (.q 55 (.q 56 (.q 57 (.q 58 (.q 59 (.q 60 (.q 61 (.q 62 (.q 63 (.q 64 (.q 65 (.q 66 (.q 67 (.q 68 (.q 69 (.q 70 (.q 71 (.q 72 (.q 73 (.q 74 (.q 75 (.q 76 (.q 77 (.q 78 (.q 79 (.q 80 (.q 81 (.q 82 (.q 83 (.q 84 (.q 85 (.q 86 (.q 87 (.q 88 (.q 89 .done)))))))))))))))))))))))))))))))))))))))))))))))))))))))))))))))))))))))))))))))))))))))))) ?_
  refine AtT.kmove ?_
  refine AtT.kneI ?_
  refine AtT.kmove ?_
  all_goals (first | refine AtT.kL 161 ?_ | refine AtT.pcase (d := 161) rfl (fun hg161 => ?_) (fun hg161 => ?_) | refine AtT.bcase (d := 161) rfl (fun hg161 => ?_) (fun hg161 => ?_))
  all_goals (first | refine AtT.kpass ?_ | refine AtT.kpassU ?_ | ((refine AtT.kmove ?_)))
  all_goals (first | refine AtT.kpass ?_ | refine AtT.kpassU ?_ | ((refine AtT.kneI ?_)))
  all_goals (refine AtT.kpick ?_)
  all_goals (refine AtT.kmove ?_)
  all_goals (first | refine AtT.kL 165 ?_ | refine AtT.pcase (d := 165) rfl (fun hg165 => ?_) (fun hg165 => ?_) | refine AtT.bcase (d := 165) rfl (fun hg165 => ?_) (fun hg165 => ?_))
  all_goals (first | refine AtT.kpass ?_ | refine AtT.kpassU ?_ | ((refine AtT.kmove ?_)))
  all_goals (first | refine AtT.kpass ?_ | refine AtT.kpassU ?_ | ((refine AtT.kneI ?_)))
  all_goals (refine AtT.kpick ?_)
  all_goals (refine AtT.kmove ?_)
  all_goals (first | refine AtT.kL 169 ?_ | refine AtT.pcase (d := 169) rfl (fun hg169 => ?_) (fun hg169 => ?_) | refine AtT.bcase (d := 169) rfl (fun hg169 => ?_) (fun hg169 => ?_))
  all_goals (first | refine AtT.kpass ?_ | refine AtT.kpassU ?_ | ((refine AtT.kmove ?_)))
  all_goals (first | refine AtT.kpass ?_ | refine AtT.kpassU ?_ | ((refine AtT.kneI ?_)))
  all_goals (refine AtT.kpick ?_)
  all_goals (refine AtT.kmove ?_)
  all_goals (first | refine AtT.kL 173 ?_ | refine AtT.pcase (d := 173) rfl (fun hg173 => ?_) (fun hg173 => ?_) | refine AtT.bcase (d := 173) rfl (fun hg173 => ?_) (fun hg173 => ?_))
  all_goals (first | refine AtT.kpass ?_ | refine AtT.kpassU ?_ | ((refine AtT.kmove ?_)))
  all_goals (first | refine AtT.kpass ?_ | refine AtT.kpassU ?_ | ((refine AtT.kneI ?_)))
  all_goals (refine AtT.kpick ?_)
  all_goals (refine AtT.kmove ?_)
  all_goals (first | refine AtT.kL 177 ?_ | refine AtT.pcase (d := 177) rfl (fun hg177 => ?_) (fun hg177 => ?_) | refine AtT.bcase (d := 177) rfl (fun hg177 => ?_) (fun hg177 => ?_))
  all_goals (first | refine AtT.kpass ?_ | refine AtT.kpassU ?_ | ((refine AtT.kmove ?_)))
  all_goals (first | refine AtT.kpass ?_ | refine AtT.kpassU ?_ | ((refine AtT.kneI ?_)))
  all_goals (refine AtT.kpick ?_)
  all_goals (refine AtT.kmove ?_)
  all_goals (first | refine AtT.kL 181 ?_ | refine AtT.pcase (d := 181) rfl (fun hg181 => ?_) (fun hg181 => ?_) | refine AtT.bcase (d := 181) rfl (fun hg181 => ?_) (fun hg181 => ?_))
  all_goals (first | refine AtT.kpass ?_ | refine AtT.kpassU ?_ | ((refine AtT.kmove ?_)))
  all_goals (first | refine AtT.kpass ?_ | refine AtT.kpassU ?_ | ((refine AtT.kneI ?_)))
  all_goals (refine AtT.kpick ?_)
  all_goals (refine AtT.kmove ?_)
  all_goals (first | refine AtT.kL 185 ?_ | refine AtT.pcase (d := 185) rfl (fun hg185 => ?_) (fun hg185 => ?_) | refine AtT.bcase (d := 185) rfl (fun hg185 => ?_) (fun hg185 => ?_))
  all_goals (first | refine AtT.kpass ?_ | refine AtT.kpassU ?_ | ((refine AtT.kmove ?_)))
  all_goals (first | refine AtT.kpass ?_ | refine AtT.kpassU ?_ | ((refine AtT.kneI ?_)))
  all_goals (refine AtT.kpick ?_)
  all_goals (refine AtT.kmove ?_)
  all_goals (first | refine AtT.kL 189 ?_ | refine AtT.pcase (d := 189) rfl (fun hg189 => ?_) (fun hg189 => ?_) | refine AtT.bcase (d := 189) rfl (fun hg189 => ?_) (fun hg189 => ?_))
  all_goals (first | refine AtT.kpass ?_ | refine AtT.kpassU ?_ | ((refine AtT.kmove ?_)))
  all_goals (first | refine AtT.kpass ?_ | refine AtT.kpassU ?_ | ((refine AtT.kneI ?_)))
  all_goals (refine AtT.kpick ?_)
  all_goals (refine AtT.kmove ?_)
  all_goals (first | refine AtT.kL 193 ?_ | refine AtT.pcase (d := 193) rfl (fun hg193 => ?_) (fun hg193 => ?_) | refine AtT.bcase (d := 193) rfl (fun hg193 => ?_) (fun hg193 => ?_))
  all_goals (first | refine AtT.kpass ?_ | refine AtT.kpassU ?_ | ((refine AtT.kmove ?_)))
  all_goals (first | refine AtT.kpass ?_ | refine AtT.kpassU ?_ | ((refine AtT.kneI ?_)))
  all_goals (refine AtT.kpick ?_)
  all_goals (refine AtT.kmove ?_)
  all_goals (first | refine AtT.kL 197 ?_ | refine AtT.pcase (d := 197) rfl (fun hg197 => ?_) (fun hg197 => ?_) | refine AtT.bcase (d := 197) rfl (fun hg197 => ?_) (fun hg197 => ?_))
  all_goals (first | refine AtT.kpass ?_ | refine AtT.kpassU ?_ | ((refine AtT.kmove ?_)))
  all_goals (first | refine AtT.kpass ?_ | refine AtT.kpassU ?_ | ((refine AtT.kneI ?_)))
  all_goals (refine AtT.kpick ?_)
  all_goals (refine AtT.kmove ?_)
  all_goals (first | refine AtT.kL 201 ?_ | refine AtT.pcase (d := 201) rfl (fun hg201 => ?_) (fun hg201 => ?_) | refine AtT.bcase (d := 201) rfl (fun hg201 => ?_) (fun hg201 => ?_))
  all_goals (first | refine AtT.kpass ?_ | refine AtT.kpassU ?_ | ((refine AtT.kmove ?_)))
  all_goals (first | refine AtT.kpass ?_ | refine AtT.kpassU ?_ | ((refine AtT.kneI ?_)))
  all_goals (refine AtT.kpick ?_)
  all_goals (refine AtT.kmove ?_)
  all_goals (first | refine AtT.kL 205 ?_ | refine AtT.pcase (d := 205) rfl (fun hg205 => ?_) (fun hg205 => ?_) | refine AtT.bcase (d := 205) rfl (fun hg205 => ?_) (fun hg205 => ?_))
  all_goals (first | refine AtT.kpass ?_ | refine AtT.kpassU ?_ | ((refine AtT.kmove ?_)))
  all_goals (first | refine AtT.kpass ?_ | refine AtT.kpassU ?_ | ((refine AtT.kneI ?_)))
  all_goals (refine AtT.kpick ?_)
  all_goals (refine AtT.kmove ?_)
  all_goals (first | refine AtT.kL 209 ?_ | refine AtT.pcase (d := 209) rfl (fun hg209 => ?_) (fun hg209 => ?_) | refine AtT.bcase (d := 209) rfl (fun hg209 => ?_) (fun hg209 => ?_))
  all_goals (first | refine AtT.kpass ?_ | refine AtT.kpassU ?_ | ((refine AtT.kmove ?_)))
  all_goals (first | refine AtT.kpass ?_ | refine AtT.kpassU ?_ | ((refine AtT.kneI ?_)))
  all_goals (refine AtT.kpick ?_)
  all_goals (refine AtT.kmove ?_)
  all_goals (first | refine AtT.kL 213 ?_ | refine AtT.pcase (d := 213) rfl (fun hg213 => ?_) (fun hg213 => ?_) | refine AtT.bcase (d := 213) rfl (fun hg213 => ?_) (fun hg213 => ?_))
  all_goals (first | refine AtT.kpass ?_ | refine AtT.kpassU ?_ | ((refine AtT.kmove ?_)))
  all_goals (first | refine AtT.kpass ?_ | refine AtT.kpassU ?_ | ((refine AtT.kneI ?_)))
  all_goals (refine AtT.kpick ?_)
  all_goals (refine AtT.kmove ?_)
  all_goals (first | refine AtT.kL 217 ?_ | refine AtT.pcase (d := 217) rfl (fun hg217 => ?_) (fun hg217 => ?_) | refine AtT.bcase (d := 217) rfl (fun hg217 => ?_) (fun hg217 => ?_))
  all_goals (first | refine AtT.kpass ?_ | refine AtT.kpassU ?_ | ((refine AtT.kmove ?_)))
  all_goals (first | refine AtT.kpass ?_ | refine AtT.kpassU ?_ | ((refine AtT.kneI ?_)))
  all_goals (refine AtT.kpick ?_)
  all_goals (refine AtT.kmove ?_)
  all_goals (first | refine AtT.kL 221 ?_ | refine AtT.pcase (d := 221) rfl (fun hg221 => ?_) (fun hg221 => ?_) | refine AtT.bcase (d := 221) rfl (fun hg221 => ?_) (fun hg221 => ?_))
  all_goals (first | refine AtT.kpass ?_ | refine AtT.kpassU ?_ | ((refine AtT.kmove ?_)))
  all_goals (first | refine AtT.kpass ?_ | refine AtT.kpassU ?_ | ((refine AtT.kneI ?_)))
  all_goals (refine AtT.kpick ?_)
  all_goals (refine AtT.kmove ?_)
  all_goals (first | refine AtT.kL 225 ?_ | refine AtT.pcase (d := 225) rfl (fun hg225 => ?_) (fun hg225 => ?_) | refine AtT.bcase (d := 225) rfl (fun hg225 => ?_) (fun hg225 => ?_))
  all_goals (first | refine AtT.kpass ?_ | refine AtT.kpassU ?_ | ((refine AtT.kmove ?_)))
  all_goals (first | refine AtT.kpass ?_ | refine AtT.kpassU ?_ | ((refine AtT.kneI ?_)))
  all_goals (refine AtT.kpick ?_)
  all_goals (refine AtT.kmove ?_)
  all_goals (first | refine AtT.kL 229 ?_ | refine AtT.pcase (d := 229) rfl (fun hg229 => ?_) (fun hg229 => ?_) | refine AtT.bcase (d := 229) rfl (fun hg229 => ?_) (fun hg229 => ?_))
  all_goals (first | refine AtT.kpass ?_ | refine AtT.kpassU ?_ | ((refine AtT.kmove ?_)))
  all_goals (first | refine AtT.kpass ?_ | refine AtT.kpassU ?_ | ((refine AtT.kneI ?_)))
  all_goals (refine AtT.kpick ?_)
  all_goals (refine AtT.kmove ?_)
  all_goals (first | refine AtT.kL 233 ?_ | refine AtT.pcase (d := 233) rfl (fun hg233 => ?_) (fun hg233 => ?_) | refine AtT.bcase (d := 233) rfl (fun hg233 => ?_) (fun hg233 => ?_))
  all_goals (first | refine AtT.kpass ?_ | refine AtT.kpassU ?_ | ((refine AtT.kmove ?_)))
  all_goals (first | refine AtT.kpass ?_ | refine AtT.kpassU ?_ | ((refine AtT.kneI ?_)))
  all_goals (refine AtT.kpick ?_)
  all_goals (refine AtT.kmove ?_)
  all_goals (first | refine AtT.kL 237 ?_ | refine AtT.pcase (d := 237) rfl (fun hg237 => ?_) (fun hg237 => ?_) | refine AtT.bcase (d := 237) rfl (fun hg237 => ?_) (fun hg237 => ?_))
  all_goals (first | refine AtT.kpass ?_ | refine AtT.kpassU ?_ | ((refine AtT.kmove ?_)))
  all_goals (first | refine AtT.kpass ?_ | refine AtT.kpassU ?_ | ((refine AtT.kneI ?_)))
  all_goals (refine AtT.kpick ?_)
  all_goals (refine AtT.kmove ?_)
  all_goals (first | refine AtT.kL 241 ?_ | refine AtT.pcase (d := 241) rfl (fun hg241 => ?_) (fun hg241 => ?_) | refine AtT.bcase (d := 241) rfl (fun hg241 => ?_) (fun hg241 => ?_))
  all_goals (first | refine AtT.kpass ?_ | refine AtT.kpassU ?_ | ((refine AtT.kmove ?_)))
  all_goals (first | refine AtT.kpass ?_ | refine AtT.kpassU ?_ | ((refine AtT.kneI ?_)))
  all_goals (refine AtT.kpick ?_)
  all_goals (refine AtT.kmove ?_)
  all_goals (first | refine AtT.kL 245 ?_ | refine AtT.pcase (d := 245) rfl (fun hg245 => ?_) (fun hg245 => ?_) | refine AtT.bcase (d := 245) rfl (fun hg245 => ?_) (fun hg245 => ?_))
  all_goals (first | refine AtT.kpass ?_ | refine AtT.kpassU ?_ | ((refine AtT.kmove ?_)))
  all_goals (first | refine AtT.kpass ?_ | refine AtT.kpassU ?_ | ((refine AtT.kneI ?_)))
  all_goals (refine AtT.kpick ?_)
  all_goals refine AtT.done ?_
  all_goals (refine At.nrm ?_)
  refine At.condF rfl rfl ?_
  refine At.nrm ?_
  refine At.sub (ks' := [(4, u50), (8, u60), (14, iv 2), (18, u91), (20, u96), (24, iv 0), (26, u111), (31, iv 1), (33, iv 2), (37, iv 2), (39, .pointer (some ⟨b39, 0, none⟩)), (40, iv 1)]) ⟨rfl, rfl, rfl, rfl, rfl, rfl, rfl, rfl, rfl, rfl, rfl, rfl, trivial⟩ ?_
  clear hs2 hs3
  refine At.drawF [(0, 16, 904625697166532776746648320380374280103671755200316906558262375061821325312), (0, 0, 1809251394333065553493296640760748560207343510400633813116524750123642650624), (2, 1809251394333065553493296640760748560207343510400633813116524750123642650624, 3618502788666131106986593281521497120414687020801267626233049500247285301248), (5, 4523128485832663883733241601901871400518358776001584532791311875309106626560, 7237005577332262213973186563042994240829374041602535252466099000494570602496), (8, 7237005577332262213973186563042994240829374041602535252466099000494570602496, 14474011154664524427946373126085988481658748083205070504932198000989141204992), (16, 14474011154664524427946373126085988481658748083205070504932198000989141205248, 28948022309329048855892746252171976963317496166410141009864396001978282409984), (16, 14474011154664524427946373126085988481658748083205070504932198000989141204992, 57896044618658097711785492504343953926634992332820282019728792003956564819968), (80, 72370055773322622139731865630429942408293740416025352524660990004945706024960, 115792089237316195423570985008687907853269984665640564039457584007913129639936), (176, 159214122701309768707410104386945873298246228915255775554254178010880553254912, 231584178474632390847141970017375815706539969331281128078915168015826259279872), (272, 246058189629296915275088343143461804188198717414486198583847366016815400484864, 463168356949264781694283940034751631413079938662562256157830336031652518559744), (768, 463168356949264781694283940034751631413079938662562256157830336031652518559744, 926336713898529563388567880069503262826159877325124512315660672063305037119488), (1024, 926336713898529563388567880069503262826159877325124512315660672063305037135872, 1852673427797059126777135760139006525652319754650249024631321344126610074238976), (3072, 2779010141695588690165703640208509788478479631975373536946982016189915111358464, 3705346855594118253554271520278013051304639509300498049262642688253220148477952), (5120, 4631683569492647816942839400347516314130799386625622561578303360316525185597440, 7410693711188236507108543040556026102609279018600996098525285376506440296955904), (9216, 7410693711188236507108543040556026102609279018600996098525285376506440296955904, 14821387422376473014217086081112052205218558037201992197050570753012880593911808), (16384, 14821387422376473014217086081112052205218558037201992197050570753012880594173952, 29642774844752946028434172162224104410437116074403984394101141506025761187823616), (16384, 14821387422376473014217086081112052205218558037201992197050570753012880593911808, 59285549689505892056868344324448208820874232148807968788202283012051522375647232), (81920, 74106937111882365071085430405560261026092790186009960985252853765064402969559040, 118571099379011784113736688648896417641748464297615937576404566024103044751294464), (16384, 14821387422376473014217086081112052205218558037201992197050570753012880593911808, 237142198758023568227473377297792835283496928595231875152809132048206089502588928), (409600, 251963586180400041241690463378904887488715486632433867349859702801218970096500736, 474284397516047136454946754595585670566993857190463750305618264096412179005177856), (16384, 14821387422376473014217086081112052205218558037201992197050570753012880593911808, 948568795032094272909893509191171341133987714380927500611236528192824358010355712), (1589248, 963390182454470745924110595272283393339206272418129492808287098945837238604267520, 1897137590064188545819787018382342682267975428761855001222473056385648716020711424), (2768896, 2504814474381623939402687547707936822681936308287136681301546457259176820371095552, 3794275180128377091639574036764685364535950857523710002444946112771297432041422848), (6307840, 3809096567550753564653791122845797416741169415560911994641996683524310312635334656, 7588550360256754183279148073529370729071901715047420004889892225542594864082845696), (8437760, 7633014522523883602321799331772706885687557389159025981481043937801633505864581120, 15177100720513508366558296147058741458143803430094840009779784451085189728165691392), (16793600, 15191922107935884839572513233139853510349021988132042001976835021838202608759603200, 30354201441027016733116592294117482916287606860189680019559568902170379456331382784), (50331648, 30354201441027016733116592294117482916287606860189680019559568902170379456331382784, 60708402882054033466233184588234965832575213720379360039119137804340758912662765568), (67108864, 60708402882054033466233184588234965832575213720379360039119137804340758912663814144, 121416805764108066932466369176469931665150427440758720078238275608681517825325531136), (67108864, 60708402882054033466233184588234965832575213720379360039119137804340758912662765568, 242833611528216133864932738352939863330300854881517440156476551217363035650651062272), (335544320, 303542014410270167331165922941174829162876068601896800195595689021703794563313827840, 485667223056432267729865476705879726660601709763034880312953102434726071301302124544), (603979776, 546375625938486301196098661294114692493176923483414240352072240239066830213964890112, 971334446112864535459730953411759453321203419526069760625906204869452142602604249088), (1677721600, 1032042848994918568925964137999994419153778633246449120665025342673792901515267014656, 1942668892225729070919461906823518906642406839052139521251812409738904285205208498176), (2348810240, 2124794100871891171318161460588223804140132480213277601369169823151926561943196794880, 3885337784451458141838923813647037813284813678104279042503624819477808570410416996352), (4362076160, 3946046187333512175305156998235272779117388891824658402542743957282149329323079761920, 7770675568902916283677847627294075626569627356208558085007249638955617140820833992704), (12884901888, 7770675568902916283677847627294075626569627356208558085007249638955617140820833992704, 15541351137805832567355695254588151253139254712417116170014499277911234281641667985408), (17179869184, 15541351137805832567355695254588151253139254712417116170014499277911234281641684762624, 31082702275611665134711390509176302506278509424834232340028998555822468563283335970816), (51539607552, 46624053413417497702067085763764453759417764137251348510043497833733702844925003956224, 62165404551223330269422781018352605012557018849668464680057997111644937126566671941632), (85899345920, 77706755689029162836778476272940756265696273562085580850072496389556171408208339927040, 124330809102446660538845562036705210025114037699336929360115994223289874253133343883264), (154618822656, 124330809102446660538845562036705210025114037699336929360115994223289874253133343883264, 248661618204893321077691124073410420050228075398673858720231988446579748506266687766528), (274877906944, 248661618204893321077691124073410420050228075398673858720231988446579748506266754875392, 497323236409786642155382248146820840100456150797347717440463976893159497012533375533056), (274877906944, 248661618204893321077691124073410420050228075398673858720231988446579748506266687766528, 994646472819573284310764496293641680200912301594695434880927953786318994025066751066112), (1374389534720, 1243308091024466605388455620367052100251140376993369293601159942232898742531333438832640, 1989292945639146568621528992587283360401824603189390869761855907572637988050133502132224), (3023656976384, 2735277800253826531854602364807514620552508829385412445922551872912377233568933565431808, 3978585891278293137243057985174566720803649206378781739523711815145275976100267004264448), (4672924418048, 4227247509483186458320749109247977140853877281777455598243943803591855724606533692030976, 7957171782556586274486115970349133441607298412757563479047423630290551952200534008528896), (13194139533312, 7957171782556586274486115970349133441607298412757563479047423630290551952200534008528896, 15914343565113172548972231940698266883214596825515126958094847260581103904401068017057792), (17592186044416, 15914343565113172548972231940698266883214596825515126958094847260581103904401070164541440, 31828687130226345097944463881396533766429193651030253916189694521162207808802136034115584), (52776558133248, 47743030695339517646916695822094800649643790476545380874284541781743311713203204051173376, 63657374260452690195888927762793067532858387302060507832379389042324415617604272068231168), (87960930222080, 79571717825565862744861159703491334416072984127575634790474236302905519522005340085288960, 127314748520905380391777855525586135065716774604121015664758778084648831235208544136462336), (158329674399744, 127314748520905380391777855525586135065716774604121015664758778084648831235208544136462336, 254629497041810760783555711051172270131433549208242031329517556169297662470417088272924672), (281474976710656, 254629497041810760783555711051172270131433549208242031329517556169297662470417096862859264, 509258994083621521567111422102344540262867098416484062659035112338595324940834176545849344), (844424930131968, 763888491125432282350667133153516810394300647624726093988552668507892987411251264818774016, 1018517988167243043134222844204689080525734196832968125318070224677190649881668353091698688), (1407374883553280, 1273147485209053803917778555255861350657167746041210156647587780846488312352085441364623360, 2037035976334486086268445688409378161051468393665936250636140449354381299763336706183397376), (2533274790395904, 2037035976334486086268445688409378161051468393665936250636140449354381299763336706183397376, 4074071952668972172536891376818756322102936787331872501272280898708762599526673412366794752), (4503599627370496, 4074071952668972172536891376818756322102936787331872501272280898708762599526673549805748224, 8148143905337944345073782753637512644205873574663745002544561797417525199053346824733589504), (13510798882111488, 12222215858006916517610674130456268966308810361995617503816842696126287798580020237100384256, 16296287810675888690147565507275025288411747149327490005089123594835050398106693649467179008), (22517998136852480, 20370359763344860862684456884093781610514683936659362506361404493543812997633367061833973760, 32592575621351777380295131014550050576823494298654980010178247189670100796213387298934358016), (40532396646334464, 32592575621351777380295131014550050576823494298654980010178247189670100796213387298934358016, 65185151242703554760590262029100101153646988597309960020356494379340201592426774597868716032), (72057594037927936, 65185151242703554760590262029100101153646988597309960020356494379340201592426775147624529920, 130370302485407109521180524058200202307293977194619920040712988758680403184853549195737432064), (72057594037927936, 65185151242703554760590262029100101153646988597309960020356494379340201592426774597868716032, 260740604970814219042361048116400404614587954389239840081425977517360806369707098391474864128), (504403158265495552, 456296058698924883324131834203700708075528920181169720142495460655381411146987422185081012224, 521481209941628438084722096232800809229175908778479680162851955034721612739414196782949728256), (648518346341351424, 586666361184331992845312358261900910382822897375789640183208449414061814331840971380818444288, 1042962419883256876169444192465601618458351817556959360325703910069443225478828393565899456512), (1441151880758558720, 1042962419883256876169444192465601618458351817556959360325703910069443225478828393565899456512, 2085924839766513752338888384931203236916703635113918720651407820138886450957656787131798913024), (2305843009213693952, 2085924839766513752338888384931203236916703635113918720651407820138886450957656788231310540800, 4171849679533027504677776769862406473833407270227837441302815640277772901915313574263597826048), (6917529027641081856, 6257774519299541257016665154793609710750110905341756161954223460416659352872970361395396739072, 8343699359066055009355553539724812947666814540455674882605631280555545803830627148527195652096), (11529215046068469760, 10429624198832568761694441924656016184583518175569593603257039100694432254788283935658994565120, 16687398718132110018711107079449625895333629080911349765211262561111091607661254297054391304192), (36893488147419103231, 16687398718132110018711107079449625895333629080911349765211262561111091607661254297054391304192, 1)] (.q 0 (.n false 1 (.n false 2 (.n false 3 (.q 4 (.q 5 (.n false 6 (.n false 7 (.n false 8 (.q 9 (.q 10 (.q 11 (.q 12 (.q 13 (.q 14 (.q 15 (.br [16, 18, 20] (fun i => bif Nat.beq i 16 then (.br [17, 18, 20] (fun i => bif Nat.beq i 17 then (.two 18 (.two 19 (.n false 20 (.n false 21 (.n false 22 (.n false 23 (.n false 24 (.q 25 (.q 26 (.q 27 (.n false 28 (.n false 29 (.n false 30 (.n false 31 (.n false 32 (.q 33 (.q 34 (.q 35 (.q 36 (.q 37 (.q 38 (.q 39 (.n false 40 (.n false 41 (.n false 42 (.q 43 (.q 44 (.q 45 (.q 46 (.q 47 (.q 48 (.q 49 (.q 50 (.q 51 (.q 52 (.q 53 (.q 54 (.q 55 (.q 56 (.q 57 (.n false 58 (.q 59 (.q 60 (.q 61 (.q 62 (.q 63 (.q 64 (.q 65 .done)))))))))))))))))))))))))))))))))))))))))))))) 20 (.n false 19 (.n false 21 (.n false 22 (.n false 23 (.n false 24 (.q 25 (.q 26 (.q 27 (.n false 28 (.n false 29 (.n false 30 (.n false 31 (.n false 32 (.q 33 (.q 34 (.q 35 (.q 36 (.q 37 (.q 38 (.q 39 (.n false 40 (.n false 41 (.n false 42 (.q 43 (.q 44 (.q 45 (.q 46 (.q 47 (.q 48 (.q 49 (.q 50 (.q 51 (.q 52 (.q 53 (.q 54 (.q 55 (.q 56 (.q 57 (.n false 58 (.q 59 (.q 60 (.q 61 (.q 62 (.q 63 (.q 64 (.q 65 .done))))))))))))))))))))))))))))))))))))))))))))))) 20 (.n false 18 (.n false 19 (.n false 21 (.n false 22 (.n false 23 (.n false 24 (.q 25 (.q 26 (.q 27 (.n false 28 (.n false 29 (.n false 30 (.n false 31 (.n false 32 (.q 33 (.q 34 (.q 35 (.q 36 (.q 37 (.q 38 (.q 39 (.n false 40 (.n false 41 (.n false 42 (.q 43 (.q 44 (.q 45 (.q 46 (.q 47 (.q 48 (.q 49 (.q 50 (.q 51 (.q 52 (.q 53 (.q 54 (.q 55 (.q 56 (.q 57 (.n false 58 (.q 59 (.q 60 (.q 61 (.q 62 (.q 63 (.q 64 (.q 65 .done)))))))))))))))))))))))))))))))))))))))))))))))) else bif Nat.beq i 18 then (.two 17 (.two 19 (.n false 20 (.n false 21 (.n false 22 (.n false 23 (.n false 24 (.q 25 (.q 26 (.q 27 (.n false 28 (.n false 29 (.n false 30 (.n false 31 (.n false 32 (.q 33 (.q 34 (.q 35 (.q 36 (.q 37 (.q 38 (.q 39 (.n false 40 (.n false 41 (.n false 42 (.q 43 (.q 44 (.q 45 (.q 46 (.q 47 (.q 48 (.q 49 (.q 50 (.q 51 (.q 52 (.q 53 (.q 54 (.q 55 (.q 56 (.q 57 (.n false 58 (.q 59 (.q 60 (.q 61 (.q 62 (.q 63 (.q 64 (.q 65 .done)))))))))))))))))))))))))))))))))))))))))))))) 20 (.n false 19 (.n false 21 (.n false 22 (.n false 23 (.n false 24 (.q 25 (.q 26 (.q 27 (.n false 28 (.n false 29 (.n false 30 (.n false 31 (.n false 32 (.q 33 (.q 34 (.q 35 (.q 36 (.q 37 (.q 38 (.q 39 (.n false 40 (.n false 41 (.n false 42 (.q 43 (.q 44 (.q 45 (.q 46 (.q 47 (.q 48 (.q 49 (.q 50 (.q 51 (.q 52 (.q 53 (.q 54 (.q 55 (.q 56 (.q 57 (.n false 58 (.q 59 (.q 60 (.q 61 (.q 62 (.q 63 (.q 64 (.q 65 .done))))))))))))))))))))))))))))))))))))))))))))))) 20 (.n false 17 (.n false 19 (.n false 21 (.n false 22 (.n false 23 (.n false 24 (.q 25 (.q 26 (.q 27 (.n false 28 (.n false 29 (.n false 30 (.n false 31 (.n false 32 (.q 33 (.q 34 (.q 35 (.q 36 (.q 37 (.q 38 (.q 39 (.n false 40 (.n false 41 (.n false 42 (.q 43 (.q 44 (.q 45 (.q 46 (.q 47 (.q 48 (.q 49 (.q 50 (.q 51 (.q 52 (.q 53 (.q 54 (.q 55 (.q 56 (.q 57 (.n false 58 (.q 59 (.q 60 (.q 61 (.q 62 (.q 63 (.q 64 (.q 65 .done)))))))))))))))))))))))))))))))))))))))))))))))) else bif Nat.beq i 20 then (.two 17 (.n false 18 (.n false 19 (.n false 21 (.n false 22 (.n false 23 (.n false 24 (.q 25 (.q 26 (.q 27 (.n false 28 (.n false 29 (.n false 30 (.n false 31 (.n false 32 (.q 33 (.q 34 (.q 35 (.q 36 (.q 37 (.q 38 (.q 39 (.n false 40 (.n false 41 (.n false 42 (.q 43 (.q 44 (.q 45 (.q 46 (.q 47 (.q 48 (.q 49 (.q 50 (.q 51 (.q 52 (.q 53 (.q 54 (.q 55 (.q 56 (.q 57 (.n false 58 (.q 59 (.q 60 (.q 61 (.q 62 (.q 63 (.q 64 (.q 65 .done))))))))))))))))))))))))))))))))))))))))))))))) 18 (.n false 17 (.n false 19 (.n false 21 (.n false 22 (.n false 23 (.n false 24 (.q 25 (.q 26 (.q 27 (.n false 28 (.n false 29 (.n false 30 (.n false 31 (.n false 32 (.q 33 (.q 34 (.q 35 (.q 36 (.q 37 (.q 38 (.q 39 (.n false 40 (.n false 41 (.n false 42 (.q 43 (.q 44 (.q 45 (.q 46 (.q 47 (.q 48 (.q 49 (.q 50 (.q 51 (.q 52 (.q 53 (.q 54 (.q 55 (.q 56 (.q 57 (.n false 58 (.q 59 (.q 60 (.q 61 (.q 62 (.q 63 (.q 64 (.q 65 .done)))))))))))))))))))))))))))))))))))))))))))))))) else .done)) else bif Nat.beq i 18 then (.two 16 (.two 17 (.two 19 (.n false 20 (.n false 21 (.n false 22 (.n false 23 (.n false 24 (.q 25 (.q 26 (.q 27 (.n false 28 (.n false 29 (.n false 30 (.n false 31 (.n false 32 (.q 33 (.q 34 (.q 35 (.q 36 (.q 37 (.q 38 (.q 39 (.n false 40 (.n false 41 (.n false 42 (.q 43 (.q 44 (.q 45 (.q 46 (.q 47 (.q 48 (.q 49 (.q 50 (.q 51 (.q 52 (.q 53 (.q 54 (.q 55 (.q 56 (.q 57 (.n false 58 (.q 59 (.q 60 (.q 61 (.q 62 (.q 63 (.q 64 (.q 65 .done)))))))))))))))))))))))))))))))))))))))))))))) 20 (.n false 19 (.n false 21 (.n false 22 (.n false 23 (.n false 24 (.q 25 (.q 26 (.q 27 (.n false 28 (.n false 29 (.n false 30 (.n false 31 (.n false 32 (.q 33 (.q 34 (.q 35 (.q 36 (.q 37 (.q 38 (.q 39 (.n false 40 (.n false 41 (.n false 42 (.q 43 (.q 44 (.q 45 (.q 46 (.q 47 (.q 48 (.q 49 (.q 50 (.q 51 (.q 52 (.q 53 (.q 54 (.q 55 (.q 56 (.q 57 (.n false 58 (.q 59 (.q 60 (.q 61 (.q 62 (.q 63 (.q 64 (.q 65 .done))))))))))))))))))))))))))))))))))))))))))))))) 20 (.n false 17 (.n false 19 (.n false 21 (.n false 22 (.n false 23 (.n false 24 (.q 25 (.q 26 (.q 27 (.n false 28 (.n false 29 (.n false 30 (.n false 31 (.n false 32 (.q 33 (.q 34 (.q 35 (.q 36 (.q 37 (.q 38 (.q 39 (.n false 40 (.n false 41 (.n false 42 (.q 43 (.q 44 (.q 45 (.q 46 (.q 47 (.q 48 (.q 49 (.q 50 (.q 51 (.q 52 (.q 53 (.q 54 (.q 55 (.q 56 (.q 57 (.n false 58 (.q 59 (.q 60 (.q 61 (.q 62 (.q 63 (.q 64 (.q 65 .done)))))))))))))))))))))))))))))))))))))))))))))))) 20 (.n false 16 (.n false 17 (.n false 19 (.n false 21 (.n false 22 (.n false 23 (.n false 24 (.q 25 (.q 26 (.q 27 (.n false 28 (.n false 29 (.n false 30 (.n false 31 (.n false 32 (.q 33 (.q 34 (.q 35 (.q 36 (.q 37 (.q 38 (.q 39 (.n false 40 (.n false 41 (.n false 42 (.q 43 (.q 44 (.q 45 (.q 46 (.q 47 (.q 48 (.q 49 (.q 50 (.q 51 (.q 52 (.q 53 (.q 54 (.q 55 (.q 56 (.q 57 (.n false 58 (.q 59 (.q 60 (.q 61 (.q 62 (.q 63 (.q 64 (.q 65 .done))))))))))))))))))))))))))))))))))))))))))))))))) else bif Nat.beq i 20 then (.two 16 (.two 17 (.n false 18 (.n false 19 (.n false 21 (.n false 22 (.n false 23 (.n false 24 (.q 25 (.q 26 (.q 27 (.n false 28 (.n false 29 (.n false 30 (.n false 31 (.n false 32 (.q 33 (.q 34 (.q 35 (.q 36 (.q 37 (.q 38 (.q 39 (.n false 40 (.n false 41 (.n false 42 (.q 43 (.q 44 (.q 45 (.q 46 (.q 47 (.q 48 (.q 49 (.q 50 (.q 51 (.q 52 (.q 53 (.q 54 (.q 55 (.q 56 (.q 57 (.n false 58 (.q 59 (.q 60 (.q 61 (.q 62 (.q 63 (.q 64 (.q 65 .done))))))))))))))))))))))))))))))))))))))))))))))) 18 (.n false 17 (.n false 19 (.n false 21 (.n false 22 (.n false 23 (.n false 24 (.q 25 (.q 26 (.q 27 (.n false 28 (.n false 29 (.n false 30 (.n false 31 (.n false 32 (.q 33 (.q 34 (.q 35 (.q 36 (.q 37 (.q 38 (.q 39 (.n false 40 (.n false 41 (.n false 42 (.q 43 (.q 44 (.q 45 (.q 46 (.q 47 (.q 48 (.q 49 (.q 50 (.q 51 (.q 52 (.q 53 (.q 54 (.q 55 (.q 56 (.q 57 (.n false 58 (.q 59 (.q 60 (.q 61 (.q 62 (.q 63 (.q 64 (.q 65 .done)))))))))))))))))))))))))))))))))))))))))))))))) 18 (.n false 16 (.n false 17 (.n false 19 (.n false 21 (.n false 22 (.n false 23 (.n false 24 (.q 25 (.q 26 (.q 27 (.n false 28 (.n false 29 (.n false 30 (.n false 31 (.n false 32 (.q 33 (.q 34 (.q 35 (.q 36 (.q 37 (.q 38 (.q 39 (.n false 40 (.n false 41 (.n false 42 (.q 43 (.q 44 (.q 45 (.q 46 (.q 47 (.q 48 (.q 49 (.q 50 (.q 51 (.q 52 (.q 53 (.q 54 (.q 55 (.q 56 (.q 57 (.n false 58 (.q 59 (.q 60 (.q 61 (.q 62 (.q 63 (.q 64 (.q 65 .done))))))))))))))))))))))))))))))))))))))))))))))))) else .done)))))))))))))))))) ffm (by kernel_rfl) (by kernel_rfl) (by kernel_rfl) ?_
  refine AtT.kmove ?_
  refine AtT.kbsliceG (bs25_3_0_1_2 _ _ _) ?_
  intro q250 V250 hV250 hq250
  (try replace hu50 := hu50.le hV250) ; (try replace hu60 := hu60.le hV250) ; (try replace hu91 := hu91.le hV250) ; (try replace hu96 := hu96.le hV250) ; (try replace hu111 := hu111.le hV250)
  have s250 : SlI V250 _ [1, 7, 12] := Sl.lit hq250 rfl (by decide)
  refine AtT.kcallP rfl rfl ok54 (of_f _ _) ?_
  rintro _ rfl
  refine AtT.kcallP rfl rfl ok23 (ints_f [1, 7, 12] [1, 7, 12] _ _ _ hu50 s250) ?_
  rintro _ rfl
  refine AtT.setT (d := 252) rfl (rfl) ?_
  refine AtT.kmove ?_
  all_goals (first | refine AtT.kL 253 ?_ | refine AtT.pcase (d := 253) rfl (fun hg253 => ?_) (fun hg253 => ?_) | refine AtT.bcase (d := 253) rfl (fun hg253 => ?_) (fun hg253 => ?_))
  all_goals (first | refine AtT.kpass ?_ | refine AtT.kpassU ?_ | ((refine AtT.kmove ?_)))
  all_goals (first | refine AtT.kpassN ?_ | refine AtT.kpassNU ?_ | ((refine AtT.kbsliceG (bs25_5_0_1_2_3_4 _ _ _ _ _) ?_) ; (intro q255 V255 hV255 hq255)))
  all_goals ((try replace hu60 := hu60.le hV255) ; (try replace hu91 := hu91.le hV255) ; (try replace hu96 := hu96.le hV255) ; (try replace hu111 := hu111.le hV255))
  all_goals (have s255 : SlI V255 _ [0, 2, 5, 7, 10] := Sl.lit hq255 rfl (by decide))
  all_goals (first | refine AtT.kpassN ?_ | refine AtT.kpassNU ?_ | ((refine AtT.kcallP rfl rfl ok54 (of_f _ _) ?_) ; (rintro _ rfl)))
  all_goals (first | refine AtT.kpassN ?_ | refine AtT.kpassNU ?_ | ((refine AtT.kcallP rfl rfl ok23 (ints_f [0, 2, 5, 7, 10] [0, 2, 5, 7, 10] _ _ _ hu60 s255) ?_) ; (rintro _ rfl)))
  all_goals (refine AtT.setT (d := 257) rfl (rfl) ?_)
  all_goals (refine AtT.kpick ?_)
  all_goals (refine AtT.kmove ?_)
  all_goals (first | refine AtT.kL 259 ?_ | refine AtT.pcase (d := 259) rfl (fun hg259 => ?_) (fun hg259 => ?_) | refine AtT.bcase (d := 259) rfl (fun hg259 => ?_) (fun hg259 => ?_))
  all_goals (first | refine AtT.kpass ?_ | refine AtT.kpassU ?_ | ((refine AtT.kmove ?_)))
  all_goals (first | refine AtT.kpass ?_ | refine AtT.kpassU ?_ | ((refine AtT.keqI ?_)))
  all_goals (refine AtT.setT (d := 261) rfl (rfl) ?_)
  all_goals (refine AtT.kpick ?_)
  all_goals (refine AtT.kmove ?_)
  all_goals (first | refine AtT.kL 263 ?_ | refine AtT.pcase (d := 263) rfl (fun hg263 => ?_) (fun hg263 => ?_) | refine AtT.bcase (d := 263) rfl (fun hg263 => ?_) (fun hg263 => ?_))
  all_goals (first | refine AtT.kpass ?_ | refine AtT.kpassU ?_ | ((refine AtT.kmove ?_)))
  refine AtT.br (fun i hi => ?_)
  simp only [List.mem_cons, List.not_mem_nil, or_false] at hi
  rcases hi with rfl | rfl | rfl
  rotate_right
  focus
    all_goals (first | refine AtT.kpassN ?_ | refine AtT.kpassNU ?_ | ((refine AtT.kbsliceG (bs25_2_0_1 _ _) ?_) ; (intro q269 V269 hV269 hq269)))
    all_goals ((try replace hu91 := hu91.le hV269) ; (try replace hu96 := hu96.le hV269) ; (try replace hu111 := hu111.le hV269) ; (try replace s265 := s265.le hV269) ; (try replace s267 := s267.le hV269) ; (try replace s269 := s269.le hV269))
    all_goals (have s269 : SlI V269 _ [6, 12] := Sl.lit hq269 rfl (by decide))
    refine AtT.two ?_ ?_
    focus
      all_goals (first | refine AtT.kpassN ?_ | refine AtT.kpassNU ?_ | ((refine AtT.kbsliceG (bs25_2_0_1 _ _) ?_) ; (intro q265 V265 hV265 hq265)))
      all_goals ((try replace hu91 := hu91.le hV265) ; (try replace hu96 := hu96.le hV265) ; (try replace hu111 := hu111.le hV265) ; (try replace s265 := s265.le hV265) ; (try replace s267 := s267.le hV265) ; (try replace s269 := s269.le hV265))
      all_goals (have s265 : SlI V265 _ [1, 6] := Sl.lit hq265 rfl (by decide))
      refine AtT.two ?_ ?_
      focus
        all_goals (first | refine AtT.kpassN ?_ | refine AtT.kpassNU ?_ | ((refine AtT.kcallP rfl rfl ok54 (of_f _ _) ?_) ; (rintro _ rfl)))
        all_goals (first | refine AtT.kpassN ?_ | refine AtT.kpassNU ?_ | ((refine AtT.kbsliceG (bs25_2_0_1 _ _) ?_) ; (intro q267 V267 hV267 hq267)))
        all_goals ((try replace hu91 := hu91.le hV267) ; (try replace hu96 := hu96.le hV267) ; (try replace hu111 := hu111.le hV267) ; (try replace s265 := s265.le hV267) ; (try replace s267 := s267.le hV267) ; (try replace s269 := s269.le hV267))
        all_goals (have s267 : SlI V267 _ [1, 12] := Sl.lit hq267 rfl (by decide))
        all_goals (first | refine AtT.kpassN ?_ | refine AtT.kpassNU ?_ | ((refine AtT.kcallP rfl rfl ok54 (of_f _ _) ?_) ; (rintro _ rfl)))
        all_goals (first | refine AtT.kpassN ?_ | refine AtT.kpassNU ?_ | ((refine AtT.kcallP rfl rfl ok54 (of_f _ _) ?_) ; (rintro _ rfl)))
        all_goals (first | refine AtT.kpassN ?_ | refine AtT.kpassNU ?_ | ((refine AtT.kbsliceG (bs39_3_0_1_2 _ _ _ _ _ _ _ _ _) ?_) ; (intro q271 V271 hV271 hq271)))
        all_goals ((try replace hu91 := hu91.le hV271) ; (try replace hu96 := hu96.le hV271) ; (try replace hu111 := hu111.le hV271) ; (try replace s265 := s265.le hV271) ; (try replace s267 := s267.le hV271) ; (try replace s269 := s269.le hV271))
        all_goals (first | refine AtT.kpassN ?_ | refine AtT.kpassNU ?_ | ((refine AtT.kcallP rfl rfl ok55 (lists_f _ _) ?_) ; (rintro _ rfl)))
        all_goals (first | refine AtT.kpassN ?_ | refine AtT.kpassNU ?_ | ((refine AtT.kcallP rfl rfl ok30 (lists_eq_f [[1, 6], [1, 12], [6, 12]] [[1, 6], [1, 12], [6, 12]] _ _ _ hu91 (SL.lit [(some q265, 2, 2), (some q267, 2, 2), (some q269, 2, 2)] [[1, 6], [1, 12], [6, 12]] 3 hq271 rfl rfl (by simp) (fun i q l h1 h2 => by match i, h1, h2 with | 0, h1, h2 => (cases h1; cases h2; exact s265) | 1, h1, h2 => (cases h1; cases h2; exact s267) | 2, h1, h2 => (cases h1; cases h2; exact s269)))) ?_) ; (rintro _ rfl)))
        all_goals (refine AtT.setT (d := 273) rfl (rfl) ?_)
        all_goals (refine AtT.kpick ?_)
        all_goals (refine AtT.kmove ?_)
        all_goals (first | refine AtT.kL 275 ?_ | refine AtT.pcase (d := 275) rfl (fun hg275 => ?_) (fun hg275 => ?_) | refine AtT.bcase (d := 275) rfl (fun hg275 => ?_) (fun hg275 => ?_))
        all_goals (first | refine AtT.kpass ?_ | refine AtT.kpassU ?_ | ((refine AtT.kmove ?_)))
        all_goals (first | refine AtT.kpassN ?_ | refine AtT.kpassNU ?_ | ((refine AtT.kbsliceG (bs25_2_0_1 _ _) ?_) ; (intro q277 V277 hV277 hq277)))
        all_goals ((try replace hu96 := hu96.le hV277) ; (try replace hu111 := hu111.le hV277))
        all_goals (have s277 : SlI V277 _ [1, 6] := Sl.lit hq277 rfl (by decide))
        all_goals (first | refine AtT.kpassN ?_ | refine AtT.kpassNU ?_ | ((refine AtT.kcallP rfl rfl ok54 (of_f _ _) ?_) ; (rintro _ rfl)))
        all_goals (first | refine AtT.kpassN ?_ | refine AtT.kpassNU ?_ | ((refine AtT.kbsliceG (bs39_1_0 _ _ _) ?_) ; (intro q279 V279 hV279 hq279)))
        all_goals ((try replace hu96 := hu96.le hV279) ; (try replace hu111 := hu111.le hV279) ; (try replace s277 := s277.le hV279))
        all_goals (first | refine AtT.kpassN ?_ | refine AtT.kpassNU ?_ | ((refine AtT.kcallP rfl rfl ok55 (lists_f _ _) ?_) ; (rintro _ rfl)))
        all_goals (first | refine AtT.kpassN ?_ | refine AtT.kpassNU ?_ | ((refine AtT.kcallP rfl rfl ok30 (lists_eq_f [[1, 6]] [[1, 6]] _ _ _ hu96 (SL.lit [(some q277, 2, 2)] [[1, 6]] 1 hq279 rfl rfl (by simp) (fun i q l h1 h2 => by match i, h1, h2 with | 0, h1, h2 => (cases h1; cases h2; exact s277)))) ?_) ; (rintro _ rfl)))
        all_goals (refine AtT.setT (d := 281) rfl (rfl) ?_)
        all_goals (refine AtT.kpick ?_)
        all_goals (refine AtT.kmove ?_)
        all_goals (first | refine AtT.kL 283 ?_ | refine AtT.pcase (d := 283) rfl (fun hg283 => ?_) (fun hg283 => ?_) | refine AtT.bcase (d := 283) rfl (fun hg283 => ?_) (fun hg283 => ?_))
        all_goals (first | refine AtT.kpass ?_ | refine AtT.kpassU ?_ | ((refine AtT.kmove ?_)))
        all_goals (first | refine AtT.kpass ?_ | refine AtT.kpassU ?_ | ((refine AtT.keqI ?_)))
        all_goals (refine AtT.setT (d := 285) rfl (rfl) ?_)
        all_goals (refine AtT.kpick ?_)
        all_goals (refine AtT.kmove ?_)
        all_goals (first | refine AtT.kL 287 ?_ | refine AtT.pcase (d := 287) rfl (fun hg287 => ?_) (fun hg287 => ?_) | refine AtT.bcase (d := 287) rfl (fun hg287 => ?_) (fun hg287 => ?_))
        all_goals (first | refine AtT.kpass ?_ | refine AtT.kpassU ?_ | ((refine AtT.kmove ?_)))
        all_goals (first | refine AtT.kpassN ?_ | refine AtT.kpassNU ?_ | ((refine AtT.kbsliceG (bs25_1_0 _) ?_) ; (intro q289 V289 hV289 hq289)))
        all_goals ((try replace hu111 := hu111.le hV289))
        all_goals (have s289 : SlI V289 _ [0] := Sl.lit hq289 rfl (by decide))
        all_goals (first | refine AtT.kpassN ?_ | refine AtT.kpassNU ?_ | ((refine AtT.kcallP rfl rfl ok54 (of_f _ _) ?_) ; (rintro _ rfl)))
        all_goals (first | refine AtT.kpassN ?_ | refine AtT.kpassNU ?_ | ((refine AtT.kcallP rfl rfl ok23 (ints_f [0] [0] _ _ _ hu111 s289) ?_) ; (rintro _ rfl)))
        all_goals (refine AtT.setT (d := 291) rfl (rfl) ?_)
        all_goals (refine AtT.kpick ?_)
        all_goals (refine AtT.kmove ?_)
        all_goals (first | refine AtT.kL 293 ?_ | refine AtT.pcase (d := 293) rfl (fun hg293 => ?_) (fun hg293 => ?_) | refine AtT.bcase (d := 293) rfl (fun hg293 => ?_) (fun hg293 => ?_))
        all_goals (first | refine AtT.kpass ?_ | refine AtT.kpassU ?_ | ((refine AtT.kmove ?_)))
        all_goals (first | refine AtT.kpass ?_ | refine AtT.kpassU ?_ | ((refine AtT.keqI ?_)))
        all_goals (refine AtT.setT (d := 295) rfl (rfl) ?_)
        all_goals (refine AtT.kpick ?_)
        all_goals (refine AtT.kmove ?_)
        all_goals (first | refine AtT.kL 297 ?_ | refine AtT.pcase (d := 297) rfl (fun hg297 => ?_) (fun hg297 => ?_) | refine AtT.bcase (d := 297) rfl (fun hg297 => ?_) (fun hg297 => ?_))
        all_goals (first | refine AtT.kpass ?_ | refine AtT.kpassU ?_ | ((refine AtT.kmove ?_)))
        all_goals (first | refine AtT.kpass ?_ | refine AtT.kpassU ?_ | ((refine AtT.keqI ?_)))
        all_goals (refine AtT.setT (d := 299) rfl (rfl) ?_)
        all_goals (refine AtT.kpick ?_)
        all_goals (refine AtT.kmove ?_)
        all_goals (first | refine AtT.kL 301 ?_ | refine AtT.pcase (d := 301) rfl (fun hg301 => ?_) (fun hg301 => ?_) | refine AtT.bcase (d := 301) rfl (fun hg301 => ?_) (fun hg301 => ?_))
        all_goals (first | refine AtT.kpass ?_ | refine AtT.kpassU ?_ | ((refine AtT.kmove ?_)))
        all_goals (first | refine AtT.kpass ?_ | refine AtT.kpassU ?_ | ((refine AtT.keqI ?_)))
        all_goals (refine AtT.setT (d := 303) rfl (rfl) ?_)
        all_goals (refine AtT.kpick ?_)
        all_goals (refine AtT.kmove ?_)
        all_goals (first | refine AtT.kL 305 ?_ | refine AtT.pcase (d := 305) rfl (fun hg305 => ?_) (fun hg305 => ?_) | refine AtT.bcase (d := 305) rfl (fun hg305 => ?_) (fun hg305 => ?_))
        all_goals (first | refine AtT.kpass ?_ | refine AtT.kpassU ?_ | ((first | refine AtT.kloadOA tk24 ?_ | refine AtT.kloadA tk24 ?_ | refine AtT.kloadOP tk24 ?_)))
        all_goals (first | refine AtT.kpassN ?_ | refine AtT.kpassNU ?_ | ((refine AtT.kcallP rfl rfl ok44 (panel_f 0 0 2 _) ?_) ; (rintro _ rfl)))
        all_goals (first | refine AtT.kpass ?_ | refine AtT.kpassU ?_ | ((refine AtT.keqS (eqS24 _ _ _ _ _ _) ?_)))
        all_goals (refine AtT.setT (d := 308) rfl (⟨rfl, rfl, rfl⟩) ?_)
        all_goals (refine AtT.kpick ?_)
        all_goals (refine AtT.kmove ?_)
        all_goals (first | refine AtT.kL 310 ?_ | refine AtT.pcase (d := 310) rfl (fun hg310 => ?_) (fun hg310 => ?_) | refine AtT.bcase (d := 310) rfl (fun hg310 => ?_) (fun hg310 => ?_))
        all_goals (first | refine AtT.kpass ?_ | refine AtT.kpassU ?_ | ((refine AtT.kmove ?_)))
        all_goals (first | refine AtT.kpass ?_ | refine AtT.kpassU ?_ | ((refine AtT.keqI ?_)))
        all_goals (refine AtT.setT (d := 312) rfl (rfl) ?_)
        all_goals (refine AtT.kpick ?_)
        all_goals (refine AtT.kassign ?_)
        all_goals refine AtT.done ?_
      rotate_right
      focus
        all_goals (first | refine AtT.kpassN ?_ | refine AtT.kpassNU ?_ | ((refine AtT.kbsliceG (bs25_2_0_1 _ _) ?_) ; (intro q267 V267 hV267 hq267)))
        all_goals ((try replace hu91 := hu91.le hV267) ; (try replace hu96 := hu96.le hV267) ; (try replace hu111 := hu111.le hV267) ; (try replace s265 := s265.le hV267) ; (try replace s267 := s267.le hV267) ; (try replace s269 := s269.le hV267))
        all_goals (have s267 : SlI V267 _ [1, 12] := Sl.lit hq267 rfl (by decide))
        all_goals (first | refine AtT.kpassN ?_ | refine AtT.kpassNU ?_ | ((refine AtT.kcallP rfl rfl ok54 (of_f _ _) ?_) ; (rintro _ rfl)))
        all_goals (first | refine AtT.kpassN ?_ | refine AtT.kpassNU ?_ | ((refine AtT.kcallP rfl rfl ok54 (of_f _ _) ?_) ; (rintro _ rfl)))
        all_goals (first | refine AtT.kpassN ?_ | refine AtT.kpassNU ?_ | ((refine AtT.kcallP rfl rfl ok54 (of_f _ _) ?_) ; (rintro _ rfl)))
        all_goals (first | refine AtT.kpassN ?_ | refine AtT.kpassNU ?_ | ((refine AtT.kbsliceG (bs39_3_0_1_2 _ _ _ _ _ _ _ _ _) ?_) ; (intro q271 V271 hV271 hq271)))
        all_goals ((try replace hu91 := hu91.le hV271) ; (try replace hu96 := hu96.le hV271) ; (try replace hu111 := hu111.le hV271) ; (try replace s265 := s265.le hV271) ; (try replace s267 := s267.le hV271) ; (try replace s269 := s269.le hV271))
        all_goals (first | refine AtT.kpassN ?_ | refine AtT.kpassNU ?_ | ((refine AtT.kcallP rfl rfl ok55 (lists_f _ _) ?_) ; (rintro _ rfl)))
        all_goals (first | refine AtT.kpassN ?_ | refine AtT.kpassNU ?_ | ((refine AtT.kcallP rfl rfl ok30 (lists_eq_f [[1, 6], [1, 12], [6, 12]] [[1, 6], [1, 12], [6, 12]] _ _ _ hu91 (SL.lit [(some q265, 2, 2), (some q267, 2, 2), (some q269, 2, 2)] [[1, 6], [1, 12], [6, 12]] 3 hq271 rfl rfl (by simp) (fun i q l h1 h2 => by match i, h1, h2 with | 0, h1, h2 => (cases h1; cases h2; exact s265) | 1, h1, h2 => (cases h1; cases h2; exact s267) | 2, h1, h2 => (cases h1; cases h2; exact s269)))) ?_) ; (rintro _ rfl)))
        all_goals (refine AtT.setT (d := 273) rfl (rfl) ?_)
        all_goals (refine AtT.kpick ?_)
        all_goals (refine AtT.kmove ?_)
        all_goals (first | refine AtT.kpass ?_ | refine AtT.kpassU ?_ | ((refine AtT.kmove ?_)))
        all_goals (first | refine AtT.kpassN ?_ | refine AtT.kpassNU ?_ | ((refine AtT.kbsliceG (bs25_2_0_1 _ _) ?_) ; (intro q277 V277 hV277 hq277)))
        all_goals ((try replace hu96 := hu96.le hV277) ; (try replace hu111 := hu111.le hV277))
        all_goals (have s277 : SlI V277 _ [1, 6] := Sl.lit hq277 rfl (by decide))
        all_goals (first | refine AtT.kpassN ?_ | refine AtT.kpassNU ?_ | ((refine AtT.kcallP rfl rfl ok54 (of_f _ _) ?_) ; (rintro _ rfl)))
        all_goals (first | refine AtT.kpassN ?_ | refine AtT.kpassNU ?_ | ((refine AtT.kbsliceG (bs39_1_0 _ _ _) ?_) ; (intro q279 V279 hV279 hq279)))
        all_goals ((try replace hu96 := hu96.le hV279) ; (try replace hu111 := hu111.le hV279) ; (try replace s277 := s277.le hV279))
        all_goals (first | refine AtT.kpassN ?_ | refine AtT.kpassNU ?_ | ((refine AtT.kcallP rfl rfl ok55 (lists_f _ _) ?_) ; (rintro _ rfl)))
        all_goals (first | refine AtT.kpassN ?_ | refine AtT.kpassNU ?_ | ((refine AtT.kcallP rfl rfl ok30 (lists_eq_f [[1, 6]] [[1, 6]] _ _ _ hu96 (SL.lit [(some q277, 2, 2)] [[1, 6]] 1 hq279 rfl rfl (by simp) (fun i q l h1 h2 => by match i, h1, h2 with | 0, h1, h2 => (cases h1; cases h2; exact s277)))) ?_) ; (rintro _ rfl)))
        all_goals (refine AtT.setT (d := 281) rfl (rfl) ?_)
        all_goals (refine AtT.kpick ?_)
        all_goals (refine AtT.kmove ?_)
        all_goals (first | refine AtT.kpass ?_ | refine AtT.kpassU ?_ | ((refine AtT.kmove ?_)))
        all_goals (first | refine AtT.kpass ?_ | refine AtT.kpassU ?_ | ((refine AtT.keqI ?_)))
        all_goals (refine AtT.setT (d := 285) rfl (rfl) ?_)
        all_goals (refine AtT.kpick ?_)
        all_goals (refine AtT.kmove ?_)
        all_goals (first | refine AtT.kpass ?_ | refine AtT.kpassU ?_ | ((refine AtT.kmove ?_)))
        all_goals (first | refine AtT.kpassN ?_ | refine AtT.kpassNU ?_ | ((refine AtT.kbsliceG (bs25_1_0 _) ?_) ; (intro q289 V289 hV289 hq289)))
        all_goals ((try replace hu111 := hu111.le hV289))
        all_goals (have s289 : SlI V289 _ [0] := Sl.lit hq289 rfl (by decide))
        all_goals (first | refine AtT.kpassN ?_ | refine AtT.kpassNU ?_ | ((refine AtT.kcallP rfl rfl ok54 (of_f _ _) ?_) ; (rintro _ rfl)))
        all_goals (first | refine AtT.kpassN ?_ | refine AtT.kpassNU ?_ | ((refine AtT.kcallP rfl rfl ok23 (ints_f [0] [0] _ _ _ hu111 s289) ?_) ; (rintro _ rfl)))
        all_goals (refine AtT.setT (d := 291) rfl (rfl) ?_)
        all_goals (refine AtT.kpick ?_)
        all_goals (refine AtT.kmove ?_)
        all_goals (first | refine AtT.kpass ?_ | refine AtT.kpassU ?_ | ((refine AtT.kmove ?_)))
        all_goals (first | refine AtT.kpass ?_ | refine AtT.kpassU ?_ | ((refine AtT.keqI ?_)))
        all_goals (refine AtT.setT (d := 295) rfl (rfl) ?_)
        all_goals (refine AtT.kpick ?_)
        all_goals (refine AtT.kmove ?_)
        all_goals (first | refine AtT.kpass ?_ | refine AtT.kpassU ?_ | ((refine AtT.kmove ?_)))
        all_goals (first | refine AtT.kpass ?_ | refine AtT.kpassU ?_ | ((refine AtT.keqI ?_)))
        all_goals (refine AtT.setT (d := 299) rfl (rfl) ?_)
        all_goals (refine AtT.kpick ?_)
        all_goals (refine AtT.kmove ?_)
        all_goals (first | refine AtT.kpass ?_ | refine AtT.kpassU ?_ | ((refine AtT.kmove ?_)))
        all_goals (first | refine AtT.kpass ?_ | refine AtT.kpassU ?_ | ((refine AtT.keqI ?_)))
        all_goals (refine AtT.setT (d := 303) rfl (rfl) ?_)
        all_goals (refine AtT.kpick ?_)
        all_goals (refine AtT.kmove ?_)
        all_goals (first | refine AtT.kpass ?_ | refine AtT.kpassU ?_ | ((first | refine AtT.kloadOA tk24 ?_ | refine AtT.kloadA tk24 ?_ | refine AtT.kloadOP tk24 ?_)))
        all_goals (first | refine AtT.kpassN ?_ | refine AtT.kpassNU ?_ | ((refine AtT.kcallP rfl rfl ok44 (panel_f 0 0 2 _) ?_) ; (rintro _ rfl)))
        all_goals (first | refine AtT.kpass ?_ | refine AtT.kpassU ?_ | ((refine AtT.keqS (eqS24 _ _ _ _ _ _) ?_)))
        all_goals (refine AtT.setT (d := 308) rfl (⟨rfl, rfl, rfl⟩) ?_)
        all_goals (refine AtT.kpick ?_)
        all_goals (refine AtT.kmove ?_)
        all_goals (first | refine AtT.kpass ?_ | refine AtT.kpassU ?_ | ((refine AtT.kmove ?_)))
        all_goals (first | refine AtT.kpass ?_ | refine AtT.kpassU ?_ | ((refine AtT.keqI ?_)))
        all_goals (refine AtT.setT (d := 312) rfl (rfl) ?_)
        all_goals (refine AtT.kpick ?_)
        all_goals (refine AtT.kassign ?_)
        all_goals refine AtT.done ?_
    rotate_right
    focus
      all_goals (first | refine AtT.kpassN ?_ | refine AtT.kpassNU ?_ | ((refine AtT.kbsliceG (bs25_2_0_1 _ _) ?_) ; (intro q267 V267 hV267 hq267)))
      all_goals ((try replace hu91 := hu91.le hV267) ; (try replace hu96 := hu96.le hV267) ; (try replace hu111 := hu111.le hV267) ; (try replace s265 := s265.le hV267) ; (try replace s267 := s267.le hV267) ; (try replace s269 := s269.le hV267))
      all_goals (have s267 : SlI V267 _ [1, 12] := Sl.lit hq267 rfl (by decide))
      all_goals (first | refine AtT.kpassN ?_ | refine AtT.kpassNU ?_ | ((refine AtT.kbsliceG (bs25_2_0_1 _ _) ?_) ; (intro q265 V265 hV265 hq265)))
      all_goals ((try replace hu91 := hu91.le hV265) ; (try replace hu96 := hu96.le hV265) ; (try replace hu111 := hu111.le hV265) ; (try replace s265 := s265.le hV265) ; (try replace s267 := s267.le hV265) ; (try replace s269 := s269.le hV265))
      all_goals (have s265 : SlI V265 _ [1, 6] := Sl.lit hq265 rfl (by decide))
      all_goals (first | refine AtT.kpassN ?_ | refine AtT.kpassNU ?_ | ((refine AtT.kcallP rfl rfl ok54 (of_f _ _) ?_) ; (rintro _ rfl)))
      all_goals (first | refine AtT.kpassN ?_ | refine AtT.kpassNU ?_ | ((refine AtT.kcallP rfl rfl ok54 (of_f _ _) ?_) ; (rintro _ rfl)))
      all_goals (first | refine AtT.kpassN ?_ | refine AtT.kpassNU ?_ | ((refine AtT.kcallP rfl rfl ok54 (of_f _ _) ?_) ; (rintro _ rfl)))
      all_goals (first | refine AtT.kpassN ?_ | refine AtT.kpassNU ?_ | ((refine AtT.kbsliceG (bs39_3_0_1_2 _ _ _ _ _ _ _ _ _) ?_) ; (intro q271 V271 hV271 hq271)))
      all_goals ((try replace hu91 := hu91.le hV271) ; (try replace hu96 := hu96.le hV271) ; (try replace hu111 := hu111.le hV271) ; (try replace s265 := s265.le hV271) ; (try replace s267 := s267.le hV271) ; (try replace s269 := s269.le hV271))
      all_goals (first | refine AtT.kpassN ?_ | refine AtT.kpassNU ?_ | ((refine AtT.kcallP rfl rfl ok55 (lists_f _ _) ?_) ; (rintro _ rfl)))
      all_goals (first | refine AtT.kpassN ?_ | refine AtT.kpassNU ?_ | ((refine AtT.kcallP rfl rfl ok30 (lists_eq_f [[1, 6], [1, 12], [6, 12]] [[1, 6], [1, 12], [6, 12]] _ _ _ hu91 (SL.lit [(some q265, 2, 2), (some q267, 2, 2), (some q269, 2, 2)] [[1, 6], [1, 12], [6, 12]] 3 hq271 rfl rfl (by simp) (fun i q l h1 h2 => by match i, h1, h2 with | 0, h1, h2 => (cases h1; cases h2; exact s265) | 1, h1, h2 => (cases h1; cases h2; exact s267) | 2, h1, h2 => (cases h1; cases h2; exact s269)))) ?_) ; (rintro _ rfl)))
      all_goals (refine AtT.setT (d := 273) rfl (rfl) ?_)
      all_goals (refine AtT.kpick ?_)
      all_goals (refine AtT.kmove ?_)
      all_goals (first | refine AtT.kpass ?_ | refine AtT.kpassU ?_ | ((refine AtT.kmove ?_)))
      all_goals (first | refine AtT.kpassN ?_ | refine AtT.kpassNU ?_ | ((refine AtT.kbsliceG (bs25_2_0_1 _ _) ?_) ; (intro q277 V277 hV277 hq277)))
      all_goals ((try replace hu96 := hu96.le hV277) ; (try replace hu111 := hu111.le hV277))
      all_goals (have s277 : SlI V277 _ [1, 6] := Sl.lit hq277 rfl (by decide))
      all_goals (first | refine AtT.kpassN ?_ | refine AtT.kpassNU ?_ | ((refine AtT.kcallP rfl rfl ok54 (of_f _ _) ?_) ; (rintro _ rfl)))
      all_goals (first | refine AtT.kpassN ?_ | refine AtT.kpassNU ?_ | ((refine AtT.kbsliceG (bs39_1_0 _ _ _) ?_) ; (intro q279 V279 hV279 hq279)))
      all_goals ((try replace hu96 := hu96.le hV279) ; (try replace hu111 := hu111.le hV279) ; (try replace s277 := s277.le hV279))
      all_goals (first | refine AtT.kpassN ?_ | refine AtT.kpassNU ?_ | ((refine AtT.kcallP rfl rfl ok55 (lists_f _ _) ?_) ; (rintro _ rfl)))
      all_goals (first | refine AtT.kpassN ?_ | refine AtT.kpassNU ?_ | ((refine AtT.kcallP rfl rfl ok30 (lists_eq_f [[1, 6]] [[1, 6]] _ _ _ hu96 (SL.lit [(some q277, 2, 2)] [[1, 6]] 1 hq279 rfl rfl (by simp) (fun i q l h1 h2 => by match i, h1, h2 with | 0, h1, h2 => (cases h1; cases h2; exact s277)))) ?_) ; (rintro _ rfl)))
      all_goals (refine AtT.setT (d := 281) rfl (rfl) ?_)
      all_goals (refine AtT.kpick ?_)
      all_goals (refine AtT.kmove ?_)
      all_goals (first | refine AtT.kpass ?_ | refine AtT.kpassU ?_ | ((refine AtT.kmove ?_)))
      all_goals (first | refine AtT.kpass ?_ | refine AtT.kpassU ?_ | ((refine AtT.keqI ?_)))
      all_goals (refine AtT.setT (d := 285) rfl (rfl) ?_)
      all_goals (refine AtT.kpick ?_)
      all_goals (refine AtT.kmove ?_)
      all_goals (first | refine AtT.kpass ?_ | refine AtT.kpassU ?_ | ((refine AtT.kmove ?_)))
      all_goals (first | refine AtT.kpassN ?_ | refine AtT.kpassNU ?_ | ((refine AtT.kbsliceG (bs25_1_0 _) ?_) ; (intro q289 V289 hV289 hq289)))
      all_goals ((try replace hu111 := hu111.le hV289))
      all_goals (have s289 : SlI V289 _ [0] := Sl.lit hq289 rfl (by decide))
      all_goals (first | refine AtT.kpassN ?_ | refine AtT.kpassNU ?_ | ((refine AtT.kcallP rfl rfl ok54 (of_f _ _) ?_) ; (rintro _ rfl)))
      all_goals (first | refine AtT.kpassN ?_ | refine AtT.kpassNU ?_ | ((refine AtT.kcallP rfl rfl ok23 (ints_f [0] [0] _ _ _ hu111 s289) ?_) ; (rintro _ rfl)))
      all_goals (refine AtT.setT (d := 291) rfl (rfl) ?_)
      all_goals (refine AtT.kpick ?_)
      all_goals (refine AtT.kmove ?_)
      all_goals (first | refine AtT.kpass ?_ | refine AtT.kpassU ?_ | ((refine AtT.kmove ?_)))
      all_goals (first | refine AtT.kpass ?_ | refine AtT.kpassU ?_ | ((refine AtT.keqI ?_)))
      all_goals (refine AtT.setT (d := 295) rfl (rfl) ?_)
      all_goals (refine AtT.kpick ?_)
      all_goals (refine AtT.kmove ?_)
      all_goals (first | refine AtT.kpass ?_ | refine AtT.kpassU ?_ | ((refine AtT.kmove ?_)))
      all_goals (first | refine AtT.kpass ?_ | refine AtT.kpassU ?_ | ((refine AtT.keqI ?_)))
      all_goals (refine AtT.setT (d := 299) rfl (rfl) ?_)
      all_goals (refine AtT.kpick ?_)
      all_goals (refine AtT.kmove ?_)
      all_goals (first | refine AtT.kpass ?_ | refine AtT.kpassU ?_ | ((refine AtT.kmove ?_)))
      all_goals (first | refine AtT.kpass ?_ | refine AtT.kpassU ?_ | ((refine AtT.keqI ?_)))
      all_goals (refine AtT.setT (d := 303) rfl (rfl) ?_)
      all_goals (refine AtT.kpick ?_)
      all_goals (refine AtT.kmove ?_)
      all_goals (first | refine AtT.kpass ?_ | refine AtT.kpassU ?_ | ((first | refine AtT.kloadOA tk24 ?_ | refine AtT.kloadA tk24 ?_ | refine AtT.kloadOP tk24 ?_)))
      all_goals (first | refine AtT.kpassN ?_ | refine AtT.kpassNU ?_ | ((refine AtT.kcallP rfl rfl ok44 (panel_f 0 0 2 _) ?_) ; (rintro _ rfl)))
      all_goals (first | refine AtT.kpass ?_ | refine AtT.kpassU ?_ | ((refine AtT.keqS (eqS24 _ _ _ _ _ _) ?_)))
      all_goals (refine AtT.setT (d := 308) rfl (⟨rfl, rfl, rfl⟩) ?_)
      all_goals (refine AtT.kpick ?_)
      all_goals (refine AtT.kmove ?_)
      all_goals (first | refine AtT.kpass ?_ | refine AtT.kpassU ?_ | ((refine AtT.kmove ?_)))
      all_goals (first | refine AtT.kpass ?_ | refine AtT.kpassU ?_ | ((refine AtT.keqI ?_)))
      all_goals (refine AtT.setT (d := 312) rfl (rfl) ?_)
      all_goals (refine AtT.kpick ?_)
      all_goals (refine AtT.kassign ?_)
      all_goals refine AtT.done ?_
  rotate_right
  focus
    all_goals (first | refine AtT.kpassN ?_ | refine AtT.kpassNU ?_ | ((refine AtT.kbsliceG (bs25_2_0_1 _ _) ?_) ; (intro q267 V267 hV267 hq267)))
    all_goals ((try replace hu91 := hu91.le hV267) ; (try replace hu96 := hu96.le hV267) ; (try replace hu111 := hu111.le hV267) ; (try replace s265 := s265.le hV267) ; (try replace s267 := s267.le hV267) ; (try replace s269 := s269.le hV267))
    all_goals (have s267 : SlI V267 _ [1, 12] := Sl.lit hq267 rfl (by decide))
    refine AtT.two ?_ ?_
    focus
      all_goals (first | refine AtT.kpassN ?_ | refine AtT.kpassNU ?_ | ((refine AtT.kbsliceG (bs25_2_0_1 _ _) ?_) ; (intro q265 V265 hV265 hq265)))
      all_goals ((try replace hu91 := hu91.le hV265) ; (try replace hu96 := hu96.le hV265) ; (try replace hu111 := hu111.le hV265) ; (try replace s265 := s265.le hV265) ; (try replace s267 := s267.le hV265) ; (try replace s269 := s269.le hV265))
      all_goals (have s265 : SlI V265 _ [1, 6] := Sl.lit hq265 rfl (by decide))
      refine AtT.two ?_ ?_
      focus
        all_goals (first | refine AtT.kpassN ?_ | refine AtT.kpassNU ?_ | ((refine AtT.kcallP rfl rfl ok54 (of_f _ _) ?_) ; (rintro _ rfl)))
        refine AtT.two ?_ ?_
        focus
          all_goals (first | refine AtT.kpassN ?_ | refine AtT.kpassNU ?_ | ((refine AtT.kcallP rfl rfl ok54 (of_f _ _) ?_) ; (rintro _ rfl)))
          all_goals (first | refine AtT.kpassN ?_ | refine AtT.kpassNU ?_ | ((refine AtT.kbsliceG (bs25_2_0_1 _ _) ?_) ; (intro q269 V269 hV269 hq269)))
          all_goals ((try replace hu91 := hu91.le hV269) ; (try replace hu96 := hu96.le hV269) ; (try replace hu111 := hu111.le hV269) ; (try replace s265 := s265.le hV269) ; (try replace s267 := s267.le hV269) ; (try replace s269 := s269.le hV269))
          all_goals (have s269 : SlI V269 _ [6, 12] := Sl.lit hq269 rfl (by decide))
          all_goals (first | refine AtT.kpassN ?_ | refine AtT.kpassNU ?_ | ((refine AtT.kcallP rfl rfl ok54 (of_f _ _) ?_) ; (rintro _ rfl)))
          all_goals (first | refine AtT.kpassN ?_ | refine AtT.kpassNU ?_ | ((refine AtT.kbsliceG (bs39_3_0_1_2 _ _ _ _ _ _ _ _ _) ?_) ; (intro q271 V271 hV271 hq271)))
          all_goals ((try replace hu91 := hu91.le hV271) ; (try replace hu96 := hu96.le hV271) ; (try replace hu111 := hu111.le hV271) ; (try replace s265 := s265.le hV271) ; (try replace s267 := s267.le hV271) ; (try replace s269 := s269.le hV271))
          all_goals (first | refine AtT.kpassN ?_ | refine AtT.kpassNU ?_ | ((refine AtT.kcallP rfl rfl ok55 (lists_f _ _) ?_) ; (rintro _ rfl)))
          all_goals (first | refine AtT.kpassN ?_ | refine AtT.kpassNU ?_ | ((refine AtT.kcallP rfl rfl ok30 (lists_eq_f [[1, 6], [1, 12], [6, 12]] [[1, 6], [1, 12], [6, 12]] _ _ _ hu91 (SL.lit [(some q265, 2, 2), (some q267, 2, 2), (some q269, 2, 2)] [[1, 6], [1, 12], [6, 12]] 3 hq271 rfl rfl (by simp) (fun i q l h1 h2 => by match i, h1, h2 with | 0, h1, h2 => (cases h1; cases h2; exact s265) | 1, h1, h2 => (cases h1; cases h2; exact s267) | 2, h1, h2 => (cases h1; cases h2; exact s269)))) ?_) ; (rintro _ rfl)))
          all_goals (refine AtT.setT (d := 273) rfl (rfl) ?_)
          all_goals (refine AtT.kpick ?_)
          all_goals (refine AtT.kmove ?_)
          all_goals (first | refine AtT.kpass ?_ | refine AtT.kpassU ?_ | ((refine AtT.kmove ?_)))
          all_goals (first | refine AtT.kpassN ?_ | refine AtT.kpassNU ?_ | ((refine AtT.kbsliceG (bs25_2_0_1 _ _) ?_) ; (intro q277 V277 hV277 hq277)))
          all_goals ((try replace hu96 := hu96.le hV277) ; (try replace hu111 := hu111.le hV277))
          all_goals (have s277 : SlI V277 _ [1, 6] := Sl.lit hq277 rfl (by decide))
          all_goals (first | refine AtT.kpassN ?_ | refine AtT.kpassNU ?_ | ((refine AtT.kcallP rfl rfl ok54 (of_f _ _) ?_) ; (rintro _ rfl)))
          all_goals (first | refine AtT.kpassN ?_ | refine AtT.kpassNU ?_ | ((refine AtT.kbsliceG (bs39_1_0 _ _ _) ?_) ; (intro q279 V279 hV279 hq279)))
          all_goals ((try replace hu96 := hu96.le hV279) ; (try replace hu111 := hu111.le hV279) ; (try replace s277 := s277.le hV279))
          all_goals (first | refine AtT.kpassN ?_ | refine AtT.kpassNU ?_ | ((refine AtT.kcallP rfl rfl ok55 (lists_f _ _) ?_) ; (rintro _ rfl)))
          all_goals (first | refine AtT.kpassN ?_ | refine AtT.kpassNU ?_ | ((refine AtT.kcallP rfl rfl ok30 (lists_eq_f [[1, 6]] [[1, 6]] _ _ _ hu96 (SL.lit [(some q277, 2, 2)] [[1, 6]] 1 hq279 rfl rfl (by simp) (fun i q l h1 h2 => by match i, h1, h2 with | 0, h1, h2 => (cases h1; cases h2; exact s277)))) ?_) ; (rintro _ rfl)))
          all_goals (refine AtT.setT (d := 281) rfl (rfl) ?_)
          all_goals (refine AtT.kpick ?_)
          all_goals (refine AtT.kmove ?_)
          all_goals (first | refine AtT.kpass ?_ | refine AtT.kpassU ?_ | ((refine AtT.kmove ?_)))
          all_goals (first | refine AtT.kpass ?_ | refine AtT.kpassU ?_ | ((refine AtT.keqI ?_)))
          all_goals (refine AtT.setT (d := 285) rfl (rfl) ?_)
          all_goals (refine AtT.kpick ?_)
          all_goals (refine AtT.kmove ?_)
          all_goals (first | refine AtT.kpass ?_ | refine AtT.kpassU ?_ | ((refine AtT.kmove ?_)))
          all_goals (first | refine AtT.kpassN ?_ | refine AtT.kpassNU ?_ | ((refine AtT.kbsliceG (bs25_1_0 _) ?_) ; (intro q289 V289 hV289 hq289)))
          all_goals ((try replace hu111 := hu111.le hV289))
          all_goals (have s289 : SlI V289 _ [0] := Sl.lit hq289 rfl (by decide))
          all_goals (first | refine AtT.kpassN ?_ | refine AtT.kpassNU ?_ | ((refine AtT.kcallP rfl rfl ok54 (of_f _ _) ?_) ; (rintro _ rfl)))
          all_goals (first | refine AtT.kpassN ?_ | refine AtT.kpassNU ?_ | ((refine AtT.kcallP rfl rfl ok23 (ints_f [0] [0] _ _ _ hu111 s289) ?_) ; (rintro _ rfl)))
          all_goals (refine AtT.setT (d := 291) rfl (rfl) ?_)
          all_goals (refine AtT.kpick ?_)
          all_goals (refine AtT.kmove ?_)
          all_goals (first | refine AtT.kpass ?_ | refine AtT.kpassU ?_ | ((refine AtT.kmove ?_)))
          all_goals (first | refine AtT.kpass ?_ | refine AtT.kpassU ?_ | ((refine AtT.keqI ?_)))
          all_goals (refine AtT.setT (d := 295) rfl (rfl) ?_)
          all_goals (refine AtT.kpick ?_)
          all_goals (refine AtT.kmove ?_)
          all_goals (first | refine AtT.kpass ?_ | refine AtT.kpassU ?_ | ((refine AtT.kmove ?_)))
          all_goals (first | refine AtT.kpass ?_ | refine AtT.kpassU ?_ | ((refine AtT.keqI ?_)))
          all_goals (refine AtT.setT (d := 299) rfl (rfl) ?_)
          all_goals (refine AtT.kpick ?_)
          all_goals (refine AtT.kmove ?_)
          all_goals (first | refine AtT.kpass ?_ | refine AtT.kpassU ?_ | ((refine AtT.kmove ?_)))
          all_goals (first | refine AtT.kpass ?_ | refine AtT.kpassU ?_ | ((refine AtT.keqI ?_)))
          all_goals (refine AtT.setT (d := 303) rfl (rfl) ?_)
          all_goals (refine AtT.kpick ?_)
          all_goals (refine AtT.kmove ?_)
          all_goals (first | refine AtT.kpass ?_ | refine AtT.kpassU ?_ | ((first | refine AtT.kloadOA tk24 ?_ | refine AtT.kloadA tk24 ?_ | refine AtT.kloadOP tk24 ?_)))
          all_goals (first | refine AtT.kpassN ?_ | refine AtT.kpassNU ?_ | ((refine AtT.kcallP rfl rfl ok44 (panel_f 0 0 2 _) ?_) ; (rintro _ rfl)))
          all_goals (first | refine AtT.kpass ?_ | refine AtT.kpassU ?_ | ((refine AtT.keqS (eqS24 _ _ _ _ _ _) ?_)))
          all_goals (refine AtT.setT (d := 308) rfl (⟨rfl, rfl, rfl⟩) ?_)
          all_goals (refine AtT.kpick ?_)
          all_goals (refine AtT.kmove ?_)
          all_goals (first | refine AtT.kpass ?_ | refine AtT.kpassU ?_ | ((refine AtT.kmove ?_)))
          all_goals (first | refine AtT.kpass ?_ | refine AtT.kpassU ?_ | ((refine AtT.keqI ?_)))
          all_goals (refine AtT.setT (d := 312) rfl (rfl) ?_)
          all_goals (refine AtT.kpick ?_)
          all_goals (refine AtT.kassign ?_)
          all_goals refine AtT.done ?_
        rotate_right
        focus
          all_goals (first | refine AtT.kpassN ?_ | refine AtT.kpassNU ?_ | ((refine AtT.kbsliceG (bs25_2_0_1 _ _) ?_) ; (intro q269 V269 hV269 hq269)))
          all_goals ((try replace hu91 := hu91.le hV269) ; (try replace hu96 := hu96.le hV269) ; (try replace hu111 := hu111.le hV269) ; (try replace s265 := s265.le hV269) ; (try replace s267 := s267.le hV269) ; (try replace s269 := s269.le hV269))
          all_goals (have s269 : SlI V269 _ [6, 12] := Sl.lit hq269 rfl (by decide))
          all_goals (first | refine AtT.kpassN ?_ | refine AtT.kpassNU ?_ | ((refine AtT.kcallP rfl rfl ok54 (of_f _ _) ?_) ; (rintro _ rfl)))
          all_goals (first | refine AtT.kpassN ?_ | refine AtT.kpassNU ?_ | ((refine AtT.kcallP rfl rfl ok54 (of_f _ _) ?_) ; (rintro _ rfl)))
          all_goals (first | refine AtT.kpassN ?_ | refine AtT.kpassNU ?_ | ((refine AtT.kbsliceG (bs39_3_0_1_2 _ _ _ _ _ _ _ _ _) ?_) ; (intro q271 V271 hV271 hq271)))
          all_goals ((try replace hu91 := hu91.le hV271) ; (try replace hu96 := hu96.le hV271) ; (try replace hu111 := hu111.le hV271) ; (try replace s265 := s265.le hV271) ; (try replace s267 := s267.le hV271) ; (try replace s269 := s269.le hV271))
          all_goals (first | refine AtT.kpassN ?_ | refine AtT.kpassNU ?_ | ((refine AtT.kcallP rfl rfl ok55 (lists_f _ _) ?_) ; (rintro _ rfl)))
          all_goals (first | refine AtT.kpassN ?_ | refine AtT.kpassNU ?_ | ((refine AtT.kcallP rfl rfl ok30 (lists_eq_f [[1, 6], [1, 12], [6, 12]] [[1, 6], [1, 12], [6, 12]] _ _ _ hu91 (SL.lit [(some q265, 2, 2), (some q267, 2, 2), (some q269, 2, 2)] [[1, 6], [1, 12], [6, 12]] 3 hq271 rfl rfl (by simp) (fun i q l h1 h2 => by match i, h1, h2 with | 0, h1, h2 => (cases h1; cases h2; exact s265) | 1, h1, h2 => (cases h1; cases h2; exact s267) | 2, h1, h2 => (cases h1; cases h2; exact s269)))) ?_) ; (rintro _ rfl)))
          all_goals (refine AtT.setT (d := 273) rfl (rfl) ?_)
          all_goals (refine AtT.kpick ?_)
          all_goals (refine AtT.kmove ?_)
          all_goals (first | refine AtT.kpass ?_ | refine AtT.kpassU ?_ | ((refine AtT.kmove ?_)))
          all_goals (first | refine AtT.kpassN ?_ | refine AtT.kpassNU ?_ | ((refine AtT.kbsliceG (bs25_2_0_1 _ _) ?_) ; (intro q277 V277 hV277 hq277)))
          all_goals ((try replace hu96 := hu96.le hV277) ; (try replace hu111 := hu111.le hV277))
          all_goals (have s277 : SlI V277 _ [1, 6] := Sl.lit hq277 rfl (by decide))
          all_goals (first | refine AtT.kpassN ?_ | refine AtT.kpassNU ?_ | ((refine AtT.kcallP rfl rfl ok54 (of_f _ _) ?_) ; (rintro _ rfl)))
          all_goals (first | refine AtT.kpassN ?_ | refine AtT.kpassNU ?_ | ((refine AtT.kbsliceG (bs39_1_0 _ _ _) ?_) ; (intro q279 V279 hV279 hq279)))
          all_goals ((try replace hu96 := hu96.le hV279) ; (try replace hu111 := hu111.le hV279) ; (try replace s277 := s277.le hV279))
          all_goals (first | refine AtT.kpassN ?_ | refine AtT.kpassNU ?_ | ((refine AtT.kcallP rfl rfl ok55 (lists_f _ _) ?_) ; (rintro _ rfl)))
          all_goals (first | refine AtT.kpassN ?_ | refine AtT.kpassNU ?_ | ((refine AtT.kcallP rfl rfl ok30 (lists_eq_f [[1, 6]] [[1, 6]] _ _ _ hu96 (SL.lit [(some q277, 2, 2)] [[1, 6]] 1 hq279 rfl rfl (by simp) (fun i q l h1 h2 => by match i, h1, h2 with | 0, h1, h2 => (cases h1; cases h2; exact s277)))) ?_) ; (rintro _ rfl)))
          all_goals (refine AtT.setT (d := 281) rfl (rfl) ?_)
          all_goals (refine AtT.kpick ?_)
          all_goals (refine AtT.kmove ?_)
          all_goals (first | refine AtT.kpass ?_ | refine AtT.kpassU ?_ | ((refine AtT.kmove ?_)))
          all_goals (first | refine AtT.kpass ?_ | refine AtT.kpassU ?_ | ((refine AtT.keqI ?_)))
          all_goals (refine AtT.setT (d := 285) rfl (rfl) ?_)
          all_goals (refine AtT.kpick ?_)
          all_goals (refine AtT.kmove ?_)
          all_goals (first | refine AtT.kpass ?_ | refine AtT.kpassU ?_ | ((refine AtT.kmove ?_)))
          all_goals (first | refine AtT.kpassN ?_ | refine AtT.kpassNU ?_ | ((refine AtT.kbsliceG (bs25_1_0 _) ?_) ; (intro q289 V289 hV289 hq289)))
          all_goals ((try replace hu111 := hu111.le hV289))
          all_goals (have s289 : SlI V289 _ [0] := Sl.lit hq289 rfl (by decide))
          all_goals (first | refine AtT.kpassN ?_ | refine AtT.kpassNU ?_ | ((refine AtT.kcallP rfl rfl ok54 (of_f _ _) ?_) ; (rintro _ rfl)))
          all_goals (first | refine AtT.kpassN ?_ | refine AtT.kpassNU ?_ | ((refine AtT.kcallP rfl rfl ok23 (ints_f [0] [0] _ _ _ hu111 s289) ?_) ; (rintro _ rfl)))
          all_goals (refine AtT.setT (d := 291) rfl (rfl) ?_)
          all_goals (refine AtT.kpick ?_)
          all_goals (refine AtT.kmove ?_)
          all_goals (first | refine AtT.kpass ?_ | refine AtT.kpassU ?_ | ((refine AtT.kmove ?_)))
          all_goals (first | refine AtT.kpass ?_ | refine AtT.kpassU ?_ | ((refine AtT.keqI ?_)))
          all_goals (refine AtT.setT (d := 295) rfl (rfl) ?_)
          all_goals (refine AtT.kpick ?_)
          all_goals (refine AtT.kmove ?_)
          all_goals (first | refine AtT.kpass ?_ | refine AtT.kpassU ?_ | ((refine AtT.kmove ?_)))
          all_goals (first | refine AtT.kpass ?_ | refine AtT.kpassU ?_ | ((refine AtT.keqI ?_)))
          all_goals (refine AtT.setT (d := 299) rfl (rfl) ?_)
          all_goals (refine AtT.kpick ?_)
          all_goals (refine AtT.kmove ?_)
          all_goals (first | refine AtT.kpass ?_ | refine AtT.kpassU ?_ | ((refine AtT.kmove ?_)))
          all_goals (first | refine AtT.kpass ?_ | refine AtT.kpassU ?_ | ((refine AtT.keqI ?_)))
          all_goals (refine AtT.setT (d := 303) rfl (rfl) ?_)
          all_goals (refine AtT.kpick ?_)
          all_goals (refine AtT.kmove ?_)
          all_goals (first | refine AtT.kpass ?_ | refine AtT.kpassU ?_ | ((first | refine AtT.kloadOA tk24 ?_ | refine AtT.kloadA tk24 ?_ | refine AtT.kloadOP tk24 ?_)))
          all_goals (first | refine AtT.kpassN ?_ | refine AtT.kpassNU ?_ | ((refine AtT.kcallP rfl rfl ok44 (panel_f 0 0 2 _) ?_) ; (rintro _ rfl)))
          all_goals (first | refine AtT.kpass ?_ | refine AtT.kpassU ?_ | ((refine AtT.keqS (eqS24 _ _ _ _ _ _) ?_)))
          all_goals (refine AtT.setT (d := 308) rfl (⟨rfl, rfl, rfl⟩) ?_)
          all_goals (refine AtT.kpick ?_)
          all_goals (refine AtT.kmove ?_)
          all_goals (first | refine AtT.kpass ?_ | refine AtT.kpassU ?_ | ((refine AtT.kmove ?_)))
          all_goals (first | refine AtT.kpass ?_ | refine AtT.kpassU ?_ | ((refine AtT.keqI ?_)))
          all_goals (refine AtT.setT (d := 312) rfl (rfl) ?_)
          all_goals (refine AtT.kpick ?_)
          all_goals (refine AtT.kassign ?_)
          all_goals refine AtT.done ?_
      rotate_right
      focus
        all_goals (first | refine AtT.kpassN ?_ | refine AtT.kpassNU ?_ | ((refine AtT.kbsliceG (bs25_2_0_1 _ _) ?_) ; (intro q269 V269 hV269 hq269)))
        all_goals ((try replace hu91 := hu91.le hV269) ; (try replace hu96 := hu96.le hV269) ; (try replace hu111 := hu111.le hV269) ; (try replace s265 := s265.le hV269) ; (try replace s267 := s267.le hV269) ; (try replace s269 := s269.le hV269))
        all_goals (have s269 : SlI V269 _ [6, 12] := Sl.lit hq269 rfl (by decide))
        all_goals (first | refine AtT.kpassN ?_ | refine AtT.kpassNU ?_ | ((refine AtT.kcallP rfl rfl ok54 (of_f _ _) ?_) ; (rintro _ rfl)))
        all_goals (first | refine AtT.kpassN ?_ | refine AtT.kpassNU ?_ | ((refine AtT.kcallP rfl rfl ok54 (of_f _ _) ?_) ; (rintro _ rfl)))
        all_goals (first | refine AtT.kpassN ?_ | refine AtT.kpassNU ?_ | ((refine AtT.kcallP rfl rfl ok54 (of_f _ _) ?_) ; (rintro _ rfl)))
        all_goals (first | refine AtT.kpassN ?_ | refine AtT.kpassNU ?_ | ((refine AtT.kbsliceG (bs39_3_0_1_2 _ _ _ _ _ _ _ _ _) ?_) ; (intro q271 V271 hV271 hq271)))
        all_goals ((try replace hu91 := hu91.le hV271) ; (try replace hu96 := hu96.le hV271) ; (try replace hu111 := hu111.le hV271) ; (try replace s265 := s265.le hV271) ; (try replace s267 := s267.le hV271) ; (try replace s269 := s269.le hV271))
        all_goals (first | refine AtT.kpassN ?_ | refine AtT.kpassNU ?_ | ((refine AtT.kcallP rfl rfl ok55 (lists_f _ _) ?_) ; (rintro _ rfl)))
        all_goals (first | refine AtT.kpassN ?_ | refine AtT.kpassNU ?_ | ((refine AtT.kcallP rfl rfl ok30 (lists_eq_f [[1, 6], [1, 12], [6, 12]] [[1, 6], [1, 12], [6, 12]] _ _ _ hu91 (SL.lit [(some q265, 2, 2), (some q267, 2, 2), (some q269, 2, 2)] [[1, 6], [1, 12], [6, 12]] 3 hq271 rfl rfl (by simp) (fun i q l h1 h2 => by match i, h1, h2 with | 0, h1, h2 => (cases h1; cases h2; exact s265) | 1, h1, h2 => (cases h1; cases h2; exact s267) | 2, h1, h2 => (cases h1; cases h2; exact s269)))) ?_) ; (rintro _ rfl)))
        all_goals (refine AtT.setT (d := 273) rfl (rfl) ?_)
        all_goals (refine AtT.kpick ?_)
        all_goals (refine AtT.kmove ?_)
        all_goals (first | refine AtT.kpass ?_ | refine AtT.kpassU ?_ | ((refine AtT.kmove ?_)))
        all_goals (first | refine AtT.kpassN ?_ | refine AtT.kpassNU ?_ | ((refine AtT.kbsliceG (bs25_2_0_1 _ _) ?_) ; (intro q277 V277 hV277 hq277)))
        all_goals ((try replace hu96 := hu96.le hV277) ; (try replace hu111 := hu111.le hV277))
        all_goals (have s277 : SlI V277 _ [1, 6] := Sl.lit hq277 rfl (by decide))
        all_goals (first | refine AtT.kpassN ?_ | refine AtT.kpassNU ?_ | ((refine AtT.kcallP rfl rfl ok54 (of_f _ _) ?_) ; (rintro _ rfl)))
        all_goals (first | refine AtT.kpassN ?_ | refine AtT.kpassNU ?_ | ((refine AtT.kbsliceG (bs39_1_0 _ _ _) ?_) ; (intro q279 V279 hV279 hq279)))
        all_goals ((try replace hu96 := hu96.le hV279) ; (try replace hu111 := hu111.le hV279) ; (try replace s277 := s277.le hV279))
        all_goals (first | refine AtT.kpassN ?_ | refine AtT.kpassNU ?_ | ((refine AtT.kcallP rfl rfl ok55 (lists_f _ _) ?_) ; (rintro _ rfl)))
        all_goals (first | refine AtT.kpassN ?_ | refine AtT.kpassNU ?_ | ((refine AtT.kcallP rfl rfl ok30 (lists_eq_f [[1, 6]] [[1, 6]] _ _ _ hu96 (SL.lit [(some q277, 2, 2)] [[1, 6]] 1 hq279 rfl rfl (by simp) (fun i q l h1 h2 => by match i, h1, h2 with | 0, h1, h2 => (cases h1; cases h2; exact s277)))) ?_) ; (rintro _ rfl)))
        all_goals (refine AtT.setT (d := 281) rfl (rfl) ?_)
        all_goals (refine AtT.kpick ?_)
        all_goals (refine AtT.kmove ?_)
        all_goals (first | refine AtT.kpass ?_ | refine AtT.kpassU ?_ | ((refine AtT.kmove ?_)))
        all_goals (first | refine AtT.kpass ?_ | refine AtT.kpassU ?_ | ((refine AtT.keqI ?_)))
        all_goals (refine AtT.setT (d := 285) rfl (rfl) ?_)
        all_goals (refine AtT.kpick ?_)
        all_goals (refine AtT.kmove ?_)
        all_goals (first | refine AtT.kpass ?_ | refine AtT.kpassU ?_ | ((refine AtT.kmove ?_)))
        all_goals (first | refine AtT.kpassN ?_ | refine AtT.kpassNU ?_ | ((refine AtT.kbsliceG (bs25_1_0 _) ?_) ; (intro q289 V289 hV289 hq289)))
        all_goals ((try replace hu111 := hu111.le hV289))
        all_goals (have s289 : SlI V289 _ [0] := Sl.lit hq289 rfl (by decide))
        all_goals (first | refine AtT.kpassN ?_ | refine AtT.kpassNU ?_ | ((refine AtT.kcallP rfl rfl ok54 (of_f _ _) ?_) ; (rintro _ rfl)))
        all_goals (first | refine AtT.kpassN ?_ | refine AtT.kpassNU ?_ | ((refine AtT.kcallP rfl rfl ok23 (ints_f [0] [0] _ _ _ hu111 s289) ?_) ; (rintro _ rfl)))
        all_goals (refine AtT.setT (d := 291) rfl (rfl) ?_)
        all_goals (refine AtT.kpick ?_)
        all_goals (refine AtT.kmove ?_)
        all_goals (first | refine AtT.kpass ?_ | refine AtT.kpassU ?_ | ((refine AtT.kmove ?_)))
        all_goals (first | refine AtT.kpass ?_ | refine AtT.kpassU ?_ | ((refine AtT.keqI ?_)))
        all_goals (refine AtT.setT (d := 295) rfl (rfl) ?_)
        all_goals (refine AtT.kpick ?_)
        all_goals (refine AtT.kmove ?_)
        all_goals (first | refine AtT.kpass ?_ | refine AtT.kpassU ?_ | ((refine AtT.kmove ?_)))
        all_goals (first | refine AtT.kpass ?_ | refine AtT.kpassU ?_ | ((refine AtT.keqI ?_)))
        all_goals (refine AtT.setT (d := 299) rfl (rfl) ?_)
        all_goals (refine AtT.kpick ?_)
        all_goals (refine AtT.kmove ?_)
        all_goals (first | refine AtT.kpass ?_ | refine AtT.kpassU ?_ | ((refine AtT.kmove ?_)))
        all_goals (first | refine AtT.kpass ?_ | refine AtT.kpassU ?_ | ((refine AtT.keqI ?_)))
        all_goals (refine AtT.setT (d := 303) rfl (rfl) ?_)
        all_goals (refine AtT.kpick ?_)
        all_goals (refine AtT.kmove ?_)
        all_goals (first | refine AtT.kpass ?_ | refine AtT.kpassU ?_ | ((first | refine AtT.kloadOA tk24 ?_ | refine AtT.kloadA tk24 ?_ | refine AtT.kloadOP tk24 ?_)))
        all_goals (first | refine AtT.kpassN ?_ | refine AtT.kpassNU ?_ | ((refine AtT.kcallP rfl rfl ok44 (panel_f 0 0 2 _) ?_) ; (rintro _ rfl)))
        all_goals (first | refine AtT.kpass ?_ | refine AtT.kpassU ?_ | ((refine AtT.keqS (eqS24 _ _ _ _ _ _) ?_)))
        all_goals (refine AtT.setT (d := 308) rfl (⟨rfl, rfl, rfl⟩) ?_)
        all_goals (refine AtT.kpick ?_)
        all_goals (refine AtT.kmove ?_)
        all_goals (first | refine AtT.kpass ?_ | refine AtT.kpassU ?_ | ((refine AtT.kmove ?_)))
        all_goals (first | refine AtT.kpass ?_ | refine AtT.kpassU ?_ | ((refine AtT.keqI ?_)))
        all_goals (refine AtT.setT (d := 312) rfl (rfl) ?_)
        all_goals (refine AtT.kpick ?_)
        all_goals (refine AtT.kassign ?_)
        all_goals refine AtT.done ?_
    rotate_right
    focus
      all_goals (first | refine AtT.kpassN ?_ | refine AtT.kpassNU ?_ | ((refine AtT.kbsliceG (bs25_2_0_1 _ _) ?_) ; (intro q269 V269 hV269 hq269)))
      all_goals ((try replace hu91 := hu91.le hV269) ; (try replace hu96 := hu96.le hV269) ; (try replace hu111 := hu111.le hV269) ; (try replace s265 := s265.le hV269) ; (try replace s267 := s267.le hV269) ; (try replace s269 := s269.le hV269))
      all_goals (have s269 : SlI V269 _ [6, 12] := Sl.lit hq269 rfl (by decide))
      all_goals (first | refine AtT.kpassN ?_ | refine AtT.kpassNU ?_ | ((refine AtT.kbsliceG (bs25_2_0_1 _ _) ?_) ; (intro q265 V265 hV265 hq265)))
      all_goals ((try replace hu91 := hu91.le hV265) ; (try replace hu96 := hu96.le hV265) ; (try replace hu111 := hu111.le hV265) ; (try replace s265 := s265.le hV265) ; (try replace s267 := s267.le hV265) ; (try replace s269 := s269.le hV265))
      all_goals (have s265 : SlI V265 _ [1, 6] := Sl.lit hq265 rfl (by decide))
      all_goals (first | refine AtT.kpassN ?_ | refine AtT.kpassNU ?_ | ((refine AtT.kcallP rfl rfl ok54 (of_f _ _) ?_) ; (rintro _ rfl)))
      all_goals (first | refine AtT.kpassN ?_ | refine AtT.kpassNU ?_ | ((refine AtT.kcallP rfl rfl ok54 (of_f _ _) ?_) ; (rintro _ rfl)))
      all_goals (first | refine AtT.kpassN ?_ | refine AtT.kpassNU ?_ | ((refine AtT.kcallP rfl rfl ok54 (of_f _ _) ?_) ; (rintro _ rfl)))
      all_goals (first | refine AtT.kpassN ?_ | refine AtT.kpassNU ?_ | ((refine AtT.kbsliceG (bs39_3_0_1_2 _ _ _ _ _ _ _ _ _) ?_) ; (intro q271 V271 hV271 hq271)))
      all_goals ((try replace hu91 := hu91.le hV271) ; (try replace hu96 := hu96.le hV271) ; (try replace hu111 := hu111.le hV271) ; (try replace s265 := s265.le hV271) ; (try replace s267 := s267.le hV271) ; (try replace s269 := s269.le hV271))
      all_goals (first | refine AtT.kpassN ?_ | refine AtT.kpassNU ?_ | ((refine AtT.kcallP rfl rfl ok55 (lists_f _ _) ?_) ; (rintro _ rfl)))
      all_goals (first | refine AtT.kpassN ?_ | refine AtT.kpassNU ?_ | ((refine AtT.kcallP rfl rfl ok30 (lists_eq_f [[1, 6], [1, 12], [6, 12]] [[1, 6], [1, 12], [6, 12]] _ _ _ hu91 (SL.lit [(some q265, 2, 2), (some q267, 2, 2), (some q269, 2, 2)] [[1, 6], [1, 12], [6, 12]] 3 hq271 rfl rfl (by simp) (fun i q l h1 h2 => by match i, h1, h2 with | 0, h1, h2 => (cases h1; cases h2; exact s265) | 1, h1, h2 => (cases h1; cases h2; exact s267) | 2, h1, h2 => (cases h1; cases h2; exact s269)))) ?_) ; (rintro _ rfl)))
      all_goals (refine AtT.setT (d := 273) rfl (rfl) ?_)
      all_goals (refine AtT.kpick ?_)
      all_goals (refine AtT.kmove ?_)
      all_goals (first | refine AtT.kpass ?_ | refine AtT.kpassU ?_ | ((refine AtT.kmove ?_)))
      all_goals (first | refine AtT.kpassN ?_ | refine AtT.kpassNU ?_ | ((refine AtT.kbsliceG (bs25_2_0_1 _ _) ?_) ; (intro q277 V277 hV277 hq277)))
      all_goals ((try replace hu96 := hu96.le hV277) ; (try replace hu111 := hu111.le hV277))
      all_goals (have s277 : SlI V277 _ [1, 6] := Sl.lit hq277 rfl (by decide))
      all_goals (first | refine AtT.kpassN ?_ | refine AtT.kpassNU ?_ | ((refine AtT.kcallP rfl rfl ok54 (of_f _ _) ?_) ; (rintro _ rfl)))
      all_goals (first | refine AtT.kpassN ?_ | refine AtT.kpassNU ?_ | ((refine AtT.kbsliceG (bs39_1_0 _ _ _) ?_) ; (intro q279 V279 hV279 hq279)))
      all_goals ((try replace hu96 := hu96.le hV279) ; (try replace hu111 := hu111.le hV279) ; (try replace s277 := s277.le hV279))
      all_goals (first | refine AtT.kpassN ?_ | refine AtT.kpassNU ?_ | ((refine AtT.kcallP rfl rfl ok55 (lists_f _ _) ?_) ; (rintro _ rfl)))
      all_goals (first | refine AtT.kpassN ?_ | refine AtT.kpassNU ?_ | ((refine AtT.kcallP rfl rfl ok30 (lists_eq_f [[1, 6]] [[1, 6]] _ _ _ hu96 (SL.lit [(some q277, 2, 2)] [[1, 6]] 1 hq279 rfl rfl (by simp) (fun i q l h1 h2 => by match i, h1, h2 with | 0, h1, h2 => (cases h1; cases h2; exact s277)))) ?_) ; (rintro _ rfl)))
      all_goals (refine AtT.setT (d := 281) rfl (rfl) ?_)
      all_goals (refine AtT.kpick ?_)
      all_goals (refine AtT.kmove ?_)
      all_goals (first | refine AtT.kpass ?_ | refine AtT.kpassU ?_ | ((refine AtT.kmove ?_)))
      all_goals (first | refine AtT.kpass ?_ | refine AtT.kpassU ?_ | ((refine AtT.keqI ?_)))
      all_goals (refine AtT.setT (d := 285) rfl (rfl) ?_)
      all_goals (refine AtT.kpick ?_)
      all_goals (refine AtT.kmove ?_)
      all_goals (first | refine AtT.kpass ?_ | refine AtT.kpassU ?_ | ((refine AtT.kmove ?_)))
      all_goals (first | refine AtT.kpassN ?_ | refine AtT.kpassNU ?_ | ((refine AtT.kbsliceG (bs25_1_0 _) ?_) ; (intro q289 V289 hV289 hq289)))
      all_goals ((try replace hu111 := hu111.le hV289))
      all_goals (have s289 : SlI V289 _ [0] := Sl.lit hq289 rfl (by decide))
      all_goals (first | refine AtT.kpassN ?_ | refine AtT.kpassNU ?_ | ((refine AtT.kcallP rfl rfl ok54 (of_f _ _) ?_) ; (rintro _ rfl)))
      all_goals (first | refine AtT.kpassN ?_ | refine AtT.kpassNU ?_ | ((refine AtT.kcallP rfl rfl ok23 (ints_f [0] [0] _ _ _ hu111 s289) ?_) ; (rintro _ rfl)))
      all_goals (refine AtT.setT (d := 291) rfl (rfl) ?_)
      all_goals (refine AtT.kpick ?_)
      all_goals (refine AtT.kmove ?_)
      all_goals (first | refine AtT.kpass ?_ | refine AtT.kpassU ?_ | ((refine AtT.kmove ?_)))
      all_goals (first | refine AtT.kpass ?_ | refine AtT.kpassU ?_ | ((refine AtT.keqI ?_)))
      all_goals (refine AtT.setT (d := 295) rfl (rfl) ?_)
      all_goals (refine AtT.kpick ?_)
      all_goals (refine AtT.kmove ?_)
      all_goals (first | refine AtT.kpass ?_ | refine AtT.kpassU ?_ | ((refine AtT.kmove ?_)))
      all_goals (first | refine AtT.kpass ?_ | refine AtT.kpassU ?_ | ((refine AtT.keqI ?_)))
      all_goals (refine AtT.setT (d := 299) rfl (rfl) ?_)
      all_goals (refine AtT.kpick ?_)
      all_goals (refine AtT.kmove ?_)
      all_goals (first | refine AtT.kpass ?_ | refine AtT.kpassU ?_ | ((refine AtT.kmove ?_)))
      all_goals (first | refine AtT.kpass ?_ | refine AtT.kpassU ?_ | ((refine AtT.keqI ?_)))
      all_goals (refine AtT.setT (d := 303) rfl (rfl) ?_)
      all_goals (refine AtT.kpick ?_)
      all_goals (refine AtT.kmove ?_)
      all_goals (first | refine AtT.kpass ?_ | refine AtT.kpassU ?_ | ((first | refine AtT.kloadOA tk24 ?_ | refine AtT.kloadA tk24 ?_ | refine AtT.kloadOP tk24 ?_)))
      all_goals (first | refine AtT.kpassN ?_ | refine AtT.kpassNU ?_ | ((refine AtT.kcallP rfl rfl ok44 (panel_f 0 0 2 _) ?_) ; (rintro _ rfl)))
      all_goals (first | refine AtT.kpass ?_ | refine AtT.kpassU ?_ | ((refine AtT.keqS (eqS24 _ _ _ _ _ _) ?_)))
      all_goals (refine AtT.setT (d := 308) rfl (⟨rfl, rfl, rfl⟩) ?_)
      all_goals (refine AtT.kpick ?_)
      all_goals (refine AtT.kmove ?_)
      all_goals (first | refine AtT.kpass ?_ | refine AtT.kpassU ?_ | ((refine AtT.kmove ?_)))
      all_goals (first | refine AtT.kpass ?_ | refine AtT.kpassU ?_ | ((refine AtT.keqI ?_)))
      all_goals (refine AtT.setT (d := 312) rfl (rfl) ?_)
      all_goals (refine AtT.kpick ?_)
      all_goals (refine AtT.kassign ?_)
      all_goals refine AtT.done ?_
  rotate_right
  focus
    all_goals (first | refine AtT.kpassN ?_ | refine AtT.kpassNU ?_ | ((refine AtT.kbsliceG (bs25_2_0_1 _ _) ?_) ; (intro q265 V265 hV265 hq265)))
    all_goals ((try replace hu91 := hu91.le hV265) ; (try replace hu96 := hu96.le hV265) ; (try replace hu111 := hu111.le hV265) ; (try replace s265 := s265.le hV265) ; (try replace s267 := s267.le hV265) ; (try replace s269 := s269.le hV265))
    all_goals (have s265 : SlI V265 _ [1, 6] := Sl.lit hq265 rfl (by decide))
    refine AtT.br (fun i hi => ?_)
    simp only [List.mem_cons, List.not_mem_nil, or_false] at hi
    rcases hi with rfl | rfl | rfl
    rotate_right
    focus
      all_goals (first | refine AtT.kpassN ?_ | refine AtT.kpassNU ?_ | ((refine AtT.kbsliceG (bs25_2_0_1 _ _) ?_) ; (intro q269 V269 hV269 hq269)))
      all_goals ((try replace hu91 := hu91.le hV269) ; (try replace hu96 := hu96.le hV269) ; (try replace hu111 := hu111.le hV269) ; (try replace s265 := s265.le hV269) ; (try replace s267 := s267.le hV269) ; (try replace s269 := s269.le hV269))
      all_goals (have s269 : SlI V269 _ [6, 12] := Sl.lit hq269 rfl (by decide))
      refine AtT.two ?_ ?_
      focus
        all_goals (first | refine AtT.kpassN ?_ | refine AtT.kpassNU ?_ | ((refine AtT.kcallP rfl rfl ok54 (of_f _ _) ?_) ; (rintro _ rfl)))
        all_goals (first | refine AtT.kpassN ?_ | refine AtT.kpassNU ?_ | ((refine AtT.kbsliceG (bs25_2_0_1 _ _) ?_) ; (intro q267 V267 hV267 hq267)))
        all_goals ((try replace hu91 := hu91.le hV267) ; (try replace hu96 := hu96.le hV267) ; (try replace hu111 := hu111.le hV267) ; (try replace s265 := s265.le hV267) ; (try replace s267 := s267.le hV267) ; (try replace s269 := s269.le hV267))
        all_goals (have s267 : SlI V267 _ [1, 12] := Sl.lit hq267 rfl (by decide))
        all_goals (first | refine AtT.kpassN ?_ | refine AtT.kpassNU ?_ | ((refine AtT.kcallP rfl rfl ok54 (of_f _ _) ?_) ; (rintro _ rfl)))
        all_goals (first | refine AtT.kpassN ?_ | refine AtT.kpassNU ?_ | ((refine AtT.kcallP rfl rfl ok54 (of_f _ _) ?_) ; (rintro _ rfl)))
        all_goals (first | refine AtT.kpassN ?_ | refine AtT.kpassNU ?_ | ((refine AtT.kbsliceG (bs39_3_0_1_2 _ _ _ _ _ _ _ _ _) ?_) ; (intro q271 V271 hV271 hq271)))
        all_goals ((try replace hu91 := hu91.le hV271) ; (try replace hu96 := hu96.le hV271) ; (try replace hu111 := hu111.le hV271) ; (try replace s265 := s265.le hV271) ; (try replace s267 := s267.le hV271) ; (try replace s269 := s269.le hV271))
        all_goals (first | refine AtT.kpassN ?_ | refine AtT.kpassNU ?_ | ((refine AtT.kcallP rfl rfl ok55 (lists_f _ _) ?_) ; (rintro _ rfl)))
        all_goals (first | refine AtT.kpassN ?_ | refine AtT.kpassNU ?_ | ((refine AtT.kcallP rfl rfl ok30 (lists_eq_f [[1, 6], [1, 12], [6, 12]] [[1, 6], [1, 12], [6, 12]] _ _ _ hu91 (SL.lit [(some q265, 2, 2), (some q267, 2, 2), (some q269, 2, 2)] [[1, 6], [1, 12], [6, 12]] 3 hq271 rfl rfl (by simp) (fun i q l h1 h2 => by match i, h1, h2 with | 0, h1, h2 => (cases h1; cases h2; exact s265) | 1, h1, h2 => (cases h1; cases h2; exact s267) | 2, h1, h2 => (cases h1; cases h2; exact s269)))) ?_) ; (rintro _ rfl)))
        all_goals (refine AtT.setT (d := 273) rfl (rfl) ?_)
        all_goals (refine AtT.kpick ?_)
        all_goals (refine AtT.kmove ?_)
        all_goals (first | refine AtT.kpass ?_ | refine AtT.kpassU ?_ | ((refine AtT.kmove ?_)))
        all_goals (first | refine AtT.kpassN ?_ | refine AtT.kpassNU ?_ | ((refine AtT.kbsliceG (bs25_2_0_1 _ _) ?_) ; (intro q277 V277 hV277 hq277)))
        all_goals ((try replace hu96 := hu96.le hV277) ; (try replace hu111 := hu111.le hV277))
        all_goals (have s277 : SlI V277 _ [1, 6] := Sl.lit hq277 rfl (by decide))
        all_goals (first | refine AtT.kpassN ?_ | refine AtT.kpassNU ?_ | ((refine AtT.kcallP rfl rfl ok54 (of_f _ _) ?_) ; (rintro _ rfl)))
        all_goals (first | refine AtT.kpassN ?_ | refine AtT.kpassNU ?_ | ((refine AtT.kbsliceG (bs39_1_0 _ _ _) ?_) ; (intro q279 V279 hV279 hq279)))
        all_goals ((try replace hu96 := hu96.le hV279) ; (try replace hu111 := hu111.le hV279) ; (try replace s277 := s277.le hV279))
        all_goals (first | refine AtT.kpassN ?_ | refine AtT.kpassNU ?_ | ((refine AtT.kcallP rfl rfl ok55 (lists_f _ _) ?_) ; (rintro _ rfl)))
        all_goals (first | refine AtT.kpassN ?_ | refine AtT.kpassNU ?_ | ((refine AtT.kcallP rfl rfl ok30 (lists_eq_f [[1, 6]] [[1, 6]] _ _ _ hu96 (SL.lit [(some q277, 2, 2)] [[1, 6]] 1 hq279 rfl rfl (by simp) (fun i q l h1 h2 => by match i, h1, h2 with | 0, h1, h2 => (cases h1; cases h2; exact s277)))) ?_) ; (rintro _ rfl)))
        all_goals (refine AtT.setT (d := 281) rfl (rfl) ?_)
        all_goals (refine AtT.kpick ?_)
        all_goals (refine AtT.kmove ?_)
        all_goals (first | refine AtT.kpass ?_ | refine AtT.kpassU ?_ | ((refine AtT.kmove ?_)))
        all_goals (first | refine AtT.kpass ?_ | refine AtT.kpassU ?_ | ((refine AtT.keqI ?_)))
        all_goals (refine AtT.setT (d := 285) rfl (rfl) ?_)
        all_goals (refine AtT.kpick ?_)
        all_goals (refine AtT.kmove ?_)
        all_goals (first | refine AtT.kpass ?_ | refine AtT.kpassU ?_ | ((refine AtT.kmove ?_)))
        all_goals (first | refine AtT.kpassN ?_ | refine AtT.kpassNU ?_ | ((refine AtT.kbsliceG (bs25_1_0 _) ?_) ; (intro q289 V289 hV289 hq289)))
        all_goals ((try replace hu111 := hu111.le hV289))
        all_goals (have s289 : SlI V289 _ [0] := Sl.lit hq289 rfl (by decide))
        all_goals (first | refine AtT.kpassN ?_ | refine AtT.kpassNU ?_ | ((refine AtT.kcallP rfl rfl ok54 (of_f _ _) ?_) ; (rintro _ rfl)))
        all_goals (first | refine AtT.kpassN ?_ | refine AtT.kpassNU ?_ | ((refine AtT.kcallP rfl rfl ok23 (ints_f [0] [0] _ _ _ hu111 s289) ?_) ; (rintro _ rfl)))
        all_goals (refine AtT.setT (d := 291) rfl (rfl) ?_)
        all_goals (refine AtT.kpick ?_)
        all_goals (refine AtT.kmove ?_)
        all_goals (first | refine AtT.kpass ?_ | refine AtT.kpassU ?_ | ((refine AtT.kmove ?_)))
        all_goals (first | refine AtT.kpass ?_ | refine AtT.kpassU ?_ | ((refine AtT.keqI ?_)))
        all_goals (refine AtT.setT (d := 295) rfl (rfl) ?_)
        all_goals (refine AtT.kpick ?_)
        all_goals (refine AtT.kmove ?_)
        all_goals (first | refine AtT.kpass ?_ | refine AtT.kpassU ?_ | ((refine AtT.kmove ?_)))
        all_goals (first | refine AtT.kpass ?_ | refine AtT.kpassU ?_ | ((refine AtT.keqI ?_)))
        all_goals (refine AtT.setT (d := 299) rfl (rfl) ?_)
        all_goals (refine AtT.kpick ?_)
        all_goals (refine AtT.kmove ?_)
        all_goals (first | refine AtT.kpass ?_ | refine AtT.kpassU ?_ | ((refine AtT.kmove ?_)))
        all_goals (first | refine AtT.kpass ?_ | refine AtT.kpassU ?_ | ((refine AtT.keqI ?_)))
        all_goals (refine AtT.setT (d := 303) rfl (rfl) ?_)
        all_goals (refine AtT.kpick ?_)
        all_goals (refine AtT.kmove ?_)
        all_goals (first | refine AtT.kpass ?_ | refine AtT.kpassU ?_ | ((first | refine AtT.kloadOA tk24 ?_ | refine AtT.kloadA tk24 ?_ | refine AtT.kloadOP tk24 ?_)))
        all_goals (first | refine AtT.kpassN ?_ | refine AtT.kpassNU ?_ | ((refine AtT.kcallP rfl rfl ok44 (panel_f 0 0 2 _) ?_) ; (rintro _ rfl)))
        all_goals (first | refine AtT.kpass ?_ | refine AtT.kpassU ?_ | ((refine AtT.keqS (eqS24 _ _ _ _ _ _) ?_)))
        all_goals (refine AtT.setT (d := 308) rfl (⟨rfl, rfl, rfl⟩) ?_)
        all_goals (refine AtT.kpick ?_)
        all_goals (refine AtT.kmove ?_)
        all_goals (first | refine AtT.kpass ?_ | refine AtT.kpassU ?_ | ((refine AtT.kmove ?_)))
        all_goals (first | refine AtT.kpass ?_ | refine AtT.kpassU ?_ | ((refine AtT.keqI ?_)))
        all_goals (refine AtT.setT (d := 312) rfl (rfl) ?_)
        all_goals (refine AtT.kpick ?_)
        all_goals (refine AtT.kassign ?_)
        all_goals refine AtT.done ?_
      rotate_right
      focus
        all_goals (first | refine AtT.kpassN ?_ | refine AtT.kpassNU ?_ | ((refine AtT.kbsliceG (bs25_2_0_1 _ _) ?_) ; (intro q267 V267 hV267 hq267)))
        all_goals ((try replace hu91 := hu91.le hV267) ; (try replace hu96 := hu96.le hV267) ; (try replace hu111 := hu111.le hV267) ; (try replace s265 := s265.le hV267) ; (try replace s267 := s267.le hV267) ; (try replace s269 := s269.le hV267))
        all_goals (have s267 : SlI V267 _ [1, 12] := Sl.lit hq267 rfl (by decide))
        all_goals (first | refine AtT.kpassN ?_ | refine AtT.kpassNU ?_ | ((refine AtT.kcallP rfl rfl ok54 (of_f _ _) ?_) ; (rintro _ rfl)))
        all_goals (first | refine AtT.kpassN ?_ | refine AtT.kpassNU ?_ | ((refine AtT.kcallP rfl rfl ok54 (of_f _ _) ?_) ; (rintro _ rfl)))
        all_goals (first | refine AtT.kpassN ?_ | refine AtT.kpassNU ?_ | ((refine AtT.kcallP rfl rfl ok54 (of_f _ _) ?_) ; (rintro _ rfl)))
        all_goals (first | refine AtT.kpassN ?_ | refine AtT.kpassNU ?_ | ((refine AtT.kbsliceG (bs39_3_0_1_2 _ _ _ _ _ _ _ _ _) ?_) ; (intro q271 V271 hV271 hq271)))
        all_goals ((try replace hu91 := hu91.le hV271) ; (try replace hu96 := hu96.le hV271) ; (try replace hu111 := hu111.le hV271) ; (try replace s265 := s265.le hV271) ; (try replace s267 := s267.le hV271) ; (try replace s269 := s269.le hV271))
        all_goals (first | refine AtT.kpassN ?_ | refine AtT.kpassNU ?_ | ((refine AtT.kcallP rfl rfl ok55 (lists_f _ _) ?_) ; (rintro _ rfl)))
        all_goals (first | refine AtT.kpassN ?_ | refine AtT.kpassNU ?_ | ((refine AtT.kcallP rfl rfl ok30 (lists_eq_f [[1, 6], [1, 12], [6, 12]] [[1, 6], [1, 12], [6, 12]] _ _ _ hu91 (SL.lit [(some q265, 2, 2), (some q267, 2, 2), (some q269, 2, 2)] [[1, 6], [1, 12], [6, 12]] 3 hq271 rfl rfl (by simp) (fun i q l h1 h2 => by match i, h1, h2 with | 0, h1, h2 => (cases h1; cases h2; exact s265) | 1, h1, h2 => (cases h1; cases h2; exact s267) | 2, h1, h2 => (cases h1; cases h2; exact s269)))) ?_) ; (rintro _ rfl)))
        all_goals (refine AtT.setT (d := 273) rfl (rfl) ?_)
        all_goals (refine AtT.kpick ?_)
        all_goals (refine AtT.kmove ?_)
        all_goals (first | refine AtT.kpass ?_ | refine AtT.kpassU ?_ | ((refine AtT.kmove ?_)))
        all_goals (first | refine AtT.kpassN ?_ | refine AtT.kpassNU ?_ | ((refine AtT.kbsliceG (bs25_2_0_1 _ _) ?_) ; (intro q277 V277 hV277 hq277)))
        all_goals ((try replace hu96 := hu96.le hV277) ; (try replace hu111 := hu111.le hV277))
        all_goals (have s277 : SlI V277 _ [1, 6] := Sl.lit hq277 rfl (by decide))
        all_goals (first | refine AtT.kpassN ?_ | refine AtT.kpassNU ?_ | ((refine AtT.kcallP rfl rfl ok54 (of_f _ _) ?_) ; (rintro _ rfl)))
        all_goals (first | refine AtT.kpassN ?_ | refine AtT.kpassNU ?_ | ((refine AtT.kbsliceG (bs39_1_0 _ _ _) ?_) ; (intro q279 V279 hV279 hq279)))
        all_goals ((try replace hu96 := hu96.le hV279) ; (try replace hu111 := hu111.le hV279) ; (try replace s277 := s277.le hV279))
        all_goals (first | refine AtT.kpassN ?_ | refine AtT.kpassNU ?_ | ((refine AtT.kcallP rfl rfl ok55 (lists_f _ _) ?_) ; (rintro _ rfl)))
        all_goals (first | refine AtT.kpassN ?_ | refine AtT.kpassNU ?_ | ((refine AtT.kcallP rfl rfl ok30 (lists_eq_f [[1, 6]] [[1, 6]] _ _ _ hu96 (SL.lit [(some q277, 2, 2)] [[1, 6]] 1 hq279 rfl rfl (by simp) (fun i q l h1 h2 => by match i, h1, h2 with | 0, h1, h2 => (cases h1; cases h2; exact s277)))) ?_) ; (rintro _ rfl)))
        all_goals (refine AtT.setT (d := 281) rfl (rfl) ?_)
        all_goals (refine AtT.kpick ?_)
        all_goals (refine AtT.kmove ?_)
        all_goals (first | refine AtT.kpass ?_ | refine AtT.kpassU ?_ | ((refine AtT.kmove ?_)))
        all_goals (first | refine AtT.kpass ?_ | refine AtT.kpassU ?_ | ((refine AtT.keqI ?_)))
        all_goals (refine AtT.setT (d := 285) rfl (rfl) ?_)
        all_goals (refine AtT.kpick ?_)
        all_goals (refine AtT.kmove ?_)
        all_goals (first | refine AtT.kpass ?_ | refine AtT.kpassU ?_ | ((refine AtT.kmove ?_)))
        all_goals (first | refine AtT.kpassN ?_ | refine AtT.kpassNU ?_ | ((refine AtT.kbsliceG (bs25_1_0 _) ?_) ; (intro q289 V289 hV289 hq289)))
        all_goals ((try replace hu111 := hu111.le hV289))
        all_goals (have s289 : SlI V289 _ [0] := Sl.lit hq289 rfl (by decide))
        all_goals (first | refine AtT.kpassN ?_ | refine AtT.kpassNU ?_ | ((refine AtT.kcallP rfl rfl ok54 (of_f _ _) ?_) ; (rintro _ rfl)))
        all_goals (first | refine AtT.kpassN ?_ | refine AtT.kpassNU ?_ | ((refine AtT.kcallP rfl rfl ok23 (ints_f [0] [0] _ _ _ hu111 s289) ?_) ; (rintro _ rfl)))
        all_goals (refine AtT.setT (d := 291) rfl (rfl) ?_)
        all_goals (refine AtT.kpick ?_)
        all_goals (refine AtT.kmove ?_)
        all_goals (first | refine AtT.kpass ?_ | refine AtT.kpassU ?_ | ((refine AtT.kmove ?_)))
        all_goals (first | refine AtT.kpass ?_ | refine AtT.kpassU ?_ | ((refine AtT.keqI ?_)))
        all_goals (refine AtT.setT (d := 295) rfl (rfl) ?_)
        all_goals (refine AtT.kpick ?_)
        all_goals (refine AtT.kmove ?_)
        all_goals (first | refine AtT.kpass ?_ | refine AtT.kpassU ?_ | ((refine AtT.kmove ?_)))
        all_goals (first | refine AtT.kpass ?_ | refine AtT.kpassU ?_ | ((refine AtT.keqI ?_)))
        all_goals (refine AtT.setT (d := 299) rfl (rfl) ?_)
        all_goals (refine AtT.kpick ?_)
        all_goals (refine AtT.kmove ?_)
        all_goals (first | refine AtT.kpass ?_ | refine AtT.kpassU ?_ | ((refine AtT.kmove ?_)))
        all_goals (first | refine AtT.kpass ?_ | refine AtT.kpassU ?_ | ((refine AtT.keqI ?_)))
        all_goals (refine AtT.setT (d := 303) rfl (rfl) ?_)
        all_goals (refine AtT.kpick ?_)
        all_goals (refine AtT.kmove ?_)
        all_goals (first | refine AtT.kpass ?_ | refine AtT.kpassU ?_ | ((first | refine AtT.kloadOA tk24 ?_ | refine AtT.kloadA tk24 ?_ | refine AtT.kloadOP tk24 ?_)))
        all_goals (first | refine AtT.kpassN ?_ | refine AtT.kpassNU ?_ | ((refine AtT.kcallP rfl rfl ok44 (panel_f 0 0 2 _) ?_) ; (rintro _ rfl)))
        all_goals (first | refine AtT.kpass ?_ | refine AtT.kpassU ?_ | ((refine AtT.keqS (eqS24 _ _ _ _ _ _) ?_)))
        all_goals (refine AtT.setT (d := 308) rfl (⟨rfl, rfl, rfl⟩) ?_)
        all_goals (refine AtT.kpick ?_)
        all_goals (refine AtT.kmove ?_)
        all_goals (first | refine AtT.kpass ?_ | refine AtT.kpassU ?_ | ((refine AtT.kmove ?_)))
        all_goals (first | refine AtT.kpass ?_ | refine AtT.kpassU ?_ | ((refine AtT.keqI ?_)))
        all_goals (refine AtT.setT (d := 312) rfl (rfl) ?_)
        all_goals (refine AtT.kpick ?_)
        all_goals (refine AtT.kassign ?_)
        all_goals refine AtT.done ?_
    rotate_right
    focus
      all_goals (first | refine AtT.kpassN ?_ | refine AtT.kpassNU ?_ | ((refine AtT.kbsliceG (bs25_2_0_1 _ _) ?_) ; (intro q267 V267 hV267 hq267)))
      all_goals ((try replace hu91 := hu91.le hV267) ; (try replace hu96 := hu96.le hV267) ; (try replace hu111 := hu111.le hV267) ; (try replace s265 := s265.le hV267) ; (try replace s267 := s267.le hV267) ; (try replace s269 := s269.le hV267))
      all_goals (have s267 : SlI V267 _ [1, 12] := Sl.lit hq267 rfl (by decide))
      refine AtT.two ?_ ?_
      focus
        all_goals (first | refine AtT.kpassN ?_ | refine AtT.kpassNU ?_ | ((refine AtT.kcallP rfl rfl ok54 (of_f _ _) ?_) ; (rintro _ rfl)))
        refine AtT.two ?_ ?_
        focus
          all_goals (first | refine AtT.kpassN ?_ | refine AtT.kpassNU ?_ | ((refine AtT.kcallP rfl rfl ok54 (of_f _ _) ?_) ; (rintro _ rfl)))
          all_goals (first | refine AtT.kpassN ?_ | refine AtT.kpassNU ?_ | ((refine AtT.kbsliceG (bs25_2_0_1 _ _) ?_) ; (intro q269 V269 hV269 hq269)))
          all_goals ((try replace hu91 := hu91.le hV269) ; (try replace hu96 := hu96.le hV269) ; (try replace hu111 := hu111.le hV269) ; (try replace s265 := s265.le hV269) ; (try replace s267 := s267.le hV269) ; (try replace s269 := s269.le hV269))
          all_goals (have s269 : SlI V269 _ [6, 12] := Sl.lit hq269 rfl (by decide))
          all_goals (first | refine AtT.kpassN ?_ | refine AtT.kpassNU ?_ | ((refine AtT.kcallP rfl rfl ok54 (of_f _ _) ?_) ; (rintro _ rfl)))
          all_goals (first | refine AtT.kpassN ?_ | refine AtT.kpassNU ?_ | ((refine AtT.kbsliceG (bs39_3_0_1_2 _ _ _ _ _ _ _ _ _) ?_) ; (intro q271 V271 hV271 hq271)))
          all_goals ((try replace hu91 := hu91.le hV271) ; (try replace hu96 := hu96.le hV271) ; (try replace hu111 := hu111.le hV271) ; (try replace s265 := s265.le hV271) ; (try replace s267 := s267.le hV271) ; (try replace s269 := s269.le hV271))
          all_goals (first | refine AtT.kpassN ?_ | refine AtT.kpassNU ?_ | ((refine AtT.kcallP rfl rfl ok55 (lists_f _ _) ?_) ; (rintro _ rfl)))
          all_goals (first | refine AtT.kpassN ?_ | refine AtT.kpassNU ?_ | ((refine AtT.kcallP rfl rfl ok30 (lists_eq_f [[1, 6], [1, 12], [6, 12]] [[1, 6], [1, 12], [6, 12]] _ _ _ hu91 (SL.lit [(some q265, 2, 2), (some q267, 2, 2), (some q269, 2, 2)] [[1, 6], [1, 12], [6, 12]] 3 hq271 rfl rfl (by simp) (fun i q l h1 h2 => by match i, h1, h2 with | 0, h1, h2 => (cases h1; cases h2; exact s265) | 1, h1, h2 => (cases h1; cases h2; exact s267) | 2, h1, h2 => (cases h1; cases h2; exact s269)))) ?_) ; (rintro _ rfl)))
          all_goals (refine AtT.setT (d := 273) rfl (rfl) ?_)
          all_goals (refine AtT.kpick ?_)
          all_goals (refine AtT.kmove ?_)
          all_goals (first | refine AtT.kpass ?_ | refine AtT.kpassU ?_ | ((refine AtT.kmove ?_)))
          all_goals (first | refine AtT.kpassN ?_ | refine AtT.kpassNU ?_ | ((refine AtT.kbsliceG (bs25_2_0_1 _ _) ?_) ; (intro q277 V277 hV277 hq277)))
          all_goals ((try replace hu96 := hu96.le hV277) ; (try replace hu111 := hu111.le hV277))
          all_goals (have s277 : SlI V277 _ [1, 6] := Sl.lit hq277 rfl (by decide))
          all_goals (first | refine AtT.kpassN ?_ | refine AtT.kpassNU ?_ | ((refine AtT.kcallP rfl rfl ok54 (of_f _ _) ?_) ; (rintro _ rfl)))
          all_goals (first | refine AtT.kpassN ?_ | refine AtT.kpassNU ?_ | ((refine AtT.kbsliceG (bs39_1_0 _ _ _) ?_) ; (intro q279 V279 hV279 hq279)))
          all_goals ((try replace hu96 := hu96.le hV279) ; (try replace hu111 := hu111.le hV279) ; (try replace s277 := s277.le hV279))
          all_goals (first | refine AtT.kpassN ?_ | refine AtT.kpassNU ?_ | ((refine AtT.kcallP rfl rfl ok55 (lists_f _ _) ?_) ; (rintro _ rfl)))
          all_goals (first | refine AtT.kpassN ?_ | refine AtT.kpassNU ?_ | ((refine AtT.kcallP rfl rfl ok30 (lists_eq_f [[1, 6]] [[1, 6]] _ _ _ hu96 (SL.lit [(some q277, 2, 2)] [[1, 6]] 1 hq279 rfl rfl (by simp) (fun i q l h1 h2 => by match i, h1, h2 with | 0, h1, h2 => (cases h1; cases h2; exact s277)))) ?_) ; (rintro _ rfl)))
          all_goals (refine AtT.setT (d := 281) rfl (rfl) ?_)
          all_goals (refine AtT.kpick ?_)
          all_goals (refine AtT.kmove ?_)
          all_goals (first | refine AtT.kpass ?_ | refine AtT.kpassU ?_ | ((refine AtT.kmove ?_)))
          all_goals (first | refine AtT.kpass ?_ | refine AtT.kpassU ?_ | ((refine AtT.keqI ?_)))
          all_goals (refine AtT.setT (d := 285) rfl (rfl) ?_)
          all_goals (refine AtT.kpick ?_)
          all_goals (refine AtT.kmove ?_)
          all_goals (first | refine AtT.kpass ?_ | refine AtT.kpassU ?_ | ((refine AtT.kmove ?_)))
          all_goals (first | refine AtT.kpassN ?_ | refine AtT.kpassNU ?_ | ((refine AtT.kbsliceG (bs25_1_0 _) ?_) ; (intro q289 V289 hV289 hq289)))
          all_goals ((try replace hu111 := hu111.le hV289))
          all_goals (have s289 : SlI V289 _ [0] := Sl.lit hq289 rfl (by decide))
          all_goals (first | refine AtT.kpassN ?_ | refine AtT.kpassNU ?_ | ((refine AtT.kcallP rfl rfl ok54 (of_f _ _) ?_) ; (rintro _ rfl)))
          all_goals (first | refine AtT.kpassN ?_ | refine AtT.kpassNU ?_ | ((refine AtT.kcallP rfl rfl ok23 (ints_f [0] [0] _ _ _ hu111 s289) ?_) ; (rintro _ rfl)))
          all_goals (refine AtT.setT (d := 291) rfl (rfl) ?_)
          all_goals (refine AtT.kpick ?_)
          all_goals (refine AtT.kmove ?_)
          all_goals (first | refine AtT.kpass ?_ | refine AtT.kpassU ?_ | ((refine AtT.kmove ?_)))
          all_goals (first | refine AtT.kpass ?_ | refine AtT.kpassU ?_ | ((refine AtT.keqI ?_)))
          all_goals (refine AtT.setT (d := 295) rfl (rfl) ?_)
          all_goals (refine AtT.kpick ?_)
          all_goals (refine AtT.kmove ?_)
          all_goals (first | refine AtT.kpass ?_ | refine AtT.kpassU ?_ | ((refine AtT.kmove ?_)))
          all_goals (first | refine AtT.kpass ?_ | refine AtT.kpassU ?_ | ((refine AtT.keqI ?_)))
          all_goals (refine AtT.setT (d := 299) rfl (rfl) ?_)
          all_goals (refine AtT.kpick ?_)
          all_goals (refine AtT.kmove ?_)
          all_goals (first | refine AtT.kpass ?_ | refine AtT.kpassU ?_ | ((refine AtT.kmove ?_)))
          all_goals (first | refine AtT.kpass ?_ | refine AtT.kpassU ?_ | ((refine AtT.keqI ?_)))
          all_goals (refine AtT.setT (d := 303) rfl (rfl) ?_)
          all_goals (refine AtT.kpick ?_)
          all_goals (refine AtT.kmove ?_)
          all_goals (first | refine AtT.kpass ?_ | refine AtT.kpassU ?_ | ((first | refine AtT.kloadOA tk24 ?_ | refine AtT.kloadA tk24 ?_ | refine AtT.kloadOP tk24 ?_)))
          all_goals (first | refine AtT.kpassN ?_ | refine AtT.kpassNU ?_ | ((refine AtT.kcallP rfl rfl ok44 (panel_f 0 0 2 _) ?_) ; (rintro _ rfl)))
          all_goals (first | refine AtT.kpass ?_ | refine AtT.kpassU ?_ | ((refine AtT.keqS (eqS24 _ _ _ _ _ _) ?_)))
          all_goals (refine AtT.setT (d := 308) rfl (⟨rfl, rfl, rfl⟩) ?_)
          all_goals (refine AtT.kpick ?_)
          all_goals (refine AtT.kmove ?_)
          all_goals (first | refine AtT.kpass ?_ | refine AtT.kpassU ?_ | ((refine AtT.kmove ?_)))
          all_goals (first | refine AtT.kpass ?_ | refine AtT.kpassU ?_ | ((refine AtT.keqI ?_)))
          all_goals (refine AtT.setT (d := 312) rfl (rfl) ?_)
          all_goals (refine AtT.kpick ?_)
          all_goals (refine AtT.kassign ?_)
          all_goals refine AtT.done ?_
        rotate_right
        focus
          all_goals (first | refine AtT.kpassN ?_ | refine AtT.kpassNU ?_ | ((refine AtT.kbsliceG (bs25_2_0_1 _ _) ?_) ; (intro q269 V269 hV269 hq269)))
          all_goals ((try replace hu91 := hu91.le hV269) ; (try replace hu96 := hu96.le hV269) ; (try replace hu111 := hu111.le hV269) ; (try replace s265 := s265.le hV269) ; (try replace s267 := s267.le hV269) ; (try replace s269 := s269.le hV269))
          all_goals (have s269 : SlI V269 _ [6, 12] := Sl.lit hq269 rfl (by decide))
          all_goals (first | refine AtT.kpassN ?_ | refine AtT.kpassNU ?_ | ((refine AtT.kcallP rfl rfl ok54 (of_f _ _) ?_) ; (rintro _ rfl)))
          all_goals (first | refine AtT.kpassN ?_ | refine AtT.kpassNU ?_ | ((refine AtT.kcallP rfl rfl ok54 (of_f _ _) ?_) ; (rintro _ rfl)))
          all_goals (first | refine AtT.kpassN ?_ | refine AtT.kpassNU ?_ | ((refine AtT.kbsliceG (bs39_3_0_1_2 _ _ _ _ _ _ _ _ _) ?_) ; (intro q271 V271 hV271 hq271)))
          all_goals ((try replace hu91 := hu91.le hV271) ; (try replace hu96 := hu96.le hV271) ; (try replace hu111 := hu111.le hV271) ; (try replace s265 := s265.le hV271) ; (try replace s267 := s267.le hV271) ; (try replace s269 := s269.le hV271))
          all_goals (first | refine AtT.kpassN ?_ | refine AtT.kpassNU ?_ | ((refine AtT.kcallP rfl rfl ok55 (lists_f _ _) ?_) ; (rintro _ rfl)))
          all_goals (first | refine AtT.kpassN ?_ | refine AtT.kpassNU ?_ | ((refine AtT.kcallP rfl rfl ok30 (lists_eq_f [[1, 6], [1, 12], [6, 12]] [[1, 6], [1, 12], [6, 12]] _ _ _ hu91 (SL.lit [(some q265, 2, 2), (some q267, 2, 2), (some q269, 2, 2)] [[1, 6], [1, 12], [6, 12]] 3 hq271 rfl rfl (by simp) (fun i q l h1 h2 => by match i, h1, h2 with | 0, h1, h2 => (cases h1; cases h2; exact s265) | 1, h1, h2 => (cases h1; cases h2; exact s267) | 2, h1, h2 => (cases h1; cases h2; exact s269)))) ?_) ; (rintro _ rfl)))
          all_goals (refine AtT.setT (d := 273) rfl (rfl) ?_)
          all_goals (refine AtT.kpick ?_)
          all_goals (refine AtT.kmove ?_)
          all_goals (first | refine AtT.kpass ?_ | refine AtT.kpassU ?_ | ((refine AtT.kmove ?_)))
          all_goals (first | refine AtT.kpassN ?_ | refine AtT.kpassNU ?_ | ((refine AtT.kbsliceG (bs25_2_0_1 _ _) ?_) ; (intro q277 V277 hV277 hq277)))
          all_goals ((try replace hu96 := hu96.le hV277) ; (try replace hu111 := hu111.le hV277))
          all_goals (have s277 : SlI V277 _ [1, 6] := Sl.lit hq277 rfl (by decide))
          all_goals (first | refine AtT.kpassN ?_ | refine AtT.kpassNU ?_ | ((refine AtT.kcallP rfl rfl ok54 (of_f _ _) ?_) ; (rintro _ rfl)))
          all_goals (first | refine AtT.kpassN ?_ | refine AtT.kpassNU ?_ | ((refine AtT.kbsliceG (bs39_1_0 _ _ _) ?_) ; (intro q279 V279 hV279 hq279)))
          all_goals ((try replace hu96 := hu96.le hV279) ; (try replace hu111 := hu111.le hV279) ; (try replace s277 := s277.le hV279))
          all_goals (first | refine AtT.kpassN ?_ | refine AtT.kpassNU ?_ | ((refine AtT.kcallP rfl rfl ok55 (lists_f _ _) ?_) ; (rintro _ rfl)))
          all_goals (first | refine AtT.kpassN ?_ | refine AtT.kpassNU ?_ | ((refine AtT.kcallP rfl rfl ok30 (lists_eq_f [[1, 6]] [[1, 6]] _ _ _ hu96 (SL.lit [(some q277, 2, 2)] [[1, 6]] 1 hq279 rfl rfl (by simp) (fun i q l h1 h2 => by match i, h1, h2 with | 0, h1, h2 => (cases h1; cases h2; exact s277)))) ?_) ; (rintro _ rfl)))
          all_goals (refine AtT.setT (d := 281) rfl (rfl) ?_)
          all_goals (refine AtT.kpick ?_)
          all_goals (refine AtT.kmove ?_)
          all_goals (first | refine AtT.kpass ?_ | refine AtT.kpassU ?_ | ((refine AtT.kmove ?_)))
          all_goals (first | refine AtT.kpass ?_ | refine AtT.kpassU ?_ | ((refine AtT.keqI ?_)))
          all_goals (refine AtT.setT (d := 285) rfl (rfl) ?_)
          all_goals (refine AtT.kpick ?_)
          all_goals (refine AtT.kmove ?_)
          all_goals (first | refine AtT.kpass ?_ | refine AtT.kpassU ?_ | ((refine AtT.kmove ?_)))
          all_goals (first | refine AtT.kpassN ?_ | refine AtT.kpassNU ?_ | ((refine AtT.kbsliceG (bs25_1_0 _) ?_) ; (intro q289 V289 hV289 hq289)))
          all_goals ((try replace hu111 := hu111.le hV289))
          all_goals (have s289 : SlI V289 _ [0] := Sl.lit hq289 rfl (by decide))
          all_goals (first | refine AtT.kpassN ?_ | refine AtT.kpassNU ?_ | ((refine AtT.kcallP rfl rfl ok54 (of_f _ _) ?_) ; (rintro _ rfl)))
          all_goals (first | refine AtT.kpassN ?_ | refine AtT.kpassNU ?_ | ((refine AtT.kcallP rfl rfl ok23 (ints_f [0] [0] _ _ _ hu111 s289) ?_) ; (rintro _ rfl)))
          all_goals (refine AtT.setT (d := 291) rfl (rfl) ?_)
          all_goals (refine AtT.kpick ?_)
          all_goals (refine AtT.kmove ?_)
          all_goals (first | refine AtT.kpass ?_ | refine AtT.kpassU ?_ | ((refine AtT.kmove ?_)))
          all_goals (first | refine AtT.kpass ?_ | refine AtT.kpassU ?_ | ((refine AtT.keqI ?_)))
          all_goals (refine AtT.setT (d := 295) rfl (rfl) ?_)
          all_goals (refine AtT.kpick ?_)
          all_goals (refine AtT.kmove ?_)
          all_goals (first | refine AtT.kpass ?_ | refine AtT.kpassU ?_ | ((refine AtT.kmove ?_)))
          all_goals (first | refine AtT.kpass ?_ | refine AtT.kpassU ?_ | ((refine AtT.keqI ?_)))
          all_goals (refine AtT.setT (d := 299) rfl (rfl) ?_)
          all_goals (refine AtT.kpick ?_)
          all_goals (refine AtT.kmove ?_)
          all_goals (first | refine AtT.kpass ?_ | refine AtT.kpassU ?_ | ((refine AtT.kmove ?_)))
          all_goals (first | refine AtT.kpass ?_ | refine AtT.kpassU ?_ | ((refine AtT.keqI ?_)))
          all_goals (refine AtT.setT (d := 303) rfl (rfl) ?_)
          all_goals (refine AtT.kpick ?_)
          all_goals (refine AtT.kmove ?_)
          all_goals (first | refine AtT.kpass ?_ | refine AtT.kpassU ?_ | ((first | refine AtT.kloadOA tk24 ?_ | refine AtT.kloadA tk24 ?_ | refine AtT.kloadOP tk24 ?_)))
          all_goals (first | refine AtT.kpassN ?_ | refine AtT.kpassNU ?_ | ((refine AtT.kcallP rfl rfl ok44 (panel_f 0 0 2 _) ?_) ; (rintro _ rfl)))
          all_goals (first | refine AtT.kpass ?_ | refine AtT.kpassU ?_ | ((refine AtT.keqS (eqS24 _ _ _ _ _ _) ?_)))
          all_goals (refine AtT.setT (d := 308) rfl (⟨rfl, rfl, rfl⟩) ?_)
          all_goals (refine AtT.kpick ?_)
          all_goals (refine AtT.kmove ?_)
          all_goals (first | refine AtT.kpass ?_ | refine AtT.kpassU ?_ | ((refine AtT.kmove ?_)))
          all_goals (first | refine AtT.kpass ?_ | refine AtT.kpassU ?_ | ((refine AtT.keqI ?_)))
          all_goals (refine AtT.setT (d := 312) rfl (rfl) ?_)
          all_goals (refine AtT.kpick ?_)
          all_goals (refine AtT.kassign ?_)
          all_goals refine AtT.done ?_
      rotate_right
      focus
        all_goals (first | refine AtT.kpassN ?_ | refine AtT.kpassNU ?_ | ((refine AtT.kbsliceG (bs25_2_0_1 _ _) ?_) ; (intro q269 V269 hV269 hq269)))
        all_goals ((try replace hu91 := hu91.le hV269) ; (try replace hu96 := hu96.le hV269) ; (try replace hu111 := hu111.le hV269) ; (try replace s265 := s265.le hV269) ; (try replace s267 := s267.le hV269) ; (try replace s269 := s269.le hV269))
        all_goals (have s269 : SlI V269 _ [6, 12] := Sl.lit hq269 rfl (by decide))
        all_goals (first | refine AtT.kpassN ?_ | refine AtT.kpassNU ?_ | ((refine AtT.kcallP rfl rfl ok54 (of_f _ _) ?_) ; (rintro _ rfl)))
        all_goals (first | refine AtT.kpassN ?_ | refine AtT.kpassNU ?_ | ((refine AtT.kcallP rfl rfl ok54 (of_f _ _) ?_) ; (rintro _ rfl)))
        all_goals (first | refine AtT.kpassN ?_ | refine AtT.kpassNU ?_ | ((refine AtT.kcallP rfl rfl ok54 (of_f _ _) ?_) ; (rintro _ rfl)))
        all_goals (first | refine AtT.kpassN ?_ | refine AtT.kpassNU ?_ | ((refine AtT.kbsliceG (bs39_3_0_1_2 _ _ _ _ _ _ _ _ _) ?_) ; (intro q271 V271 hV271 hq271)))
        all_goals ((try replace hu91 := hu91.le hV271) ; (try replace hu96 := hu96.le hV271) ; (try replace hu111 := hu111.le hV271) ; (try replace s265 := s265.le hV271) ; (try replace s267 := s267.le hV271) ; (try replace s269 := s269.le hV271))
        all_goals (first | refine AtT.kpassN ?_ | refine AtT.kpassNU ?_ | ((refine AtT.kcallP rfl rfl ok55 (lists_f _ _) ?_) ; (rintro _ rfl)))
        all_goals (first | refine AtT.kpassN ?_ | refine AtT.kpassNU ?_ | ((refine AtT.kcallP rfl rfl ok30 (lists_eq_f [[1, 6], [1, 12], [6, 12]] [[1, 6], [1, 12], [6, 12]] _ _ _ hu91 (SL.lit [(some q265, 2, 2), (some q267, 2, 2), (some q269, 2, 2)] [[1, 6], [1, 12], [6, 12]] 3 hq271 rfl rfl (by simp) (fun i q l h1 h2 => by match i, h1, h2 with | 0, h1, h2 => (cases h1; cases h2; exact s265) | 1, h1, h2 => (cases h1; cases h2; exact s267) | 2, h1, h2 => (cases h1; cases h2; exact s269)))) ?_) ; (rintro _ rfl)))
        all_goals (refine AtT.setT (d := 273) rfl (rfl) ?_)
        all_goals (refine AtT.kpick ?_)
        all_goals (refine AtT.kmove ?_)
        all_goals (first | refine AtT.kpass ?_ | refine AtT.kpassU ?_ | ((refine AtT.kmove ?_)))
        all_goals (first | refine AtT.kpassN ?_ | refine AtT.kpassNU ?_ | ((refine AtT.kbsliceG (bs25_2_0_1 _ _) ?_) ; (intro q277 V277 hV277 hq277)))
        all_goals ((try replace hu96 := hu96.le hV277) ; (try replace hu111 := hu111.le hV277))
        all_goals (have s277 : SlI V277 _ [1, 6] := Sl.lit hq277 rfl (by decide))
        all_goals (first | refine AtT.kpassN ?_ | refine AtT.kpassNU ?_ | ((refine AtT.kcallP rfl rfl ok54 (of_f _ _) ?_) ; (rintro _ rfl)))
        all_goals (first | refine AtT.kpassN ?_ | refine AtT.kpassNU ?_ | ((refine AtT.kbsliceG (bs39_1_0 _ _ _) ?_) ; (intro q279 V279 hV279 hq279)))
        all_goals ((try replace hu96 := hu96.le hV279) ; (try replace hu111 := hu111.le hV279) ; (try replace s277 := s277.le hV279))
        all_goals (first | refine AtT.kpassN ?_ | refine AtT.kpassNU ?_ | ((refine AtT.kcallP rfl rfl ok55 (lists_f _ _) ?_) ; (rintro _ rfl)))
        all_goals (first | refine AtT.kpassN ?_ | refine AtT.kpassNU ?_ | ((refine AtT.kcallP rfl rfl ok30 (lists_eq_f [[1, 6]] [[1, 6]] _ _ _ hu96 (SL.lit [(some q277, 2, 2)] [[1, 6]] 1 hq279 rfl rfl (by simp) (fun i q l h1 h2 => by match i, h1, h2 with | 0, h1, h2 => (cases h1; cases h2; exact s277)))) ?_) ; (rintro _ rfl)))
        all_goals (refine AtT.setT (d := 281) rfl (rfl) ?_)
        all_goals (refine AtT.kpick ?_)
        all_goals (refine AtT.kmove ?_)
        all_goals (first | refine AtT.kpass ?_ | refine AtT.kpassU ?_ | ((refine AtT.kmove ?_)))
        all_goals (first | refine AtT.kpass ?_ | refine AtT.kpassU ?_ | ((refine AtT.keqI ?_)))
        all_goals (refine AtT.setT (d := 285) rfl (rfl) ?_)
        all_goals (refine AtT.kpick ?_)
        all_goals (refine AtT.kmove ?_)
        all_goals (first | refine AtT.kpass ?_ | refine AtT.kpassU ?_ | ((refine AtT.kmove ?_)))
        all_goals (first | refine AtT.kpassN ?_ | refine AtT.kpassNU ?_ | ((refine AtT.kbsliceG (bs25_1_0 _) ?_) ; (intro q289 V289 hV289 hq289)))
        all_goals ((try replace hu111 := hu111.le hV289))
        all_goals (have s289 : SlI V289 _ [0] := Sl.lit hq289 rfl (by decide))
        all_goals (first | refine AtT.kpassN ?_ | refine AtT.kpassNU ?_ | ((refine AtT.kcallP rfl rfl ok54 (of_f _ _) ?_) ; (rintro _ rfl)))
        all_goals (first | refine AtT.kpassN ?_ | refine AtT.kpassNU ?_ | ((refine AtT.kcallP rfl rfl ok23 (ints_f [0] [0] _ _ _ hu111 s289) ?_) ; (rintro _ rfl)))
        all_goals (refine AtT.setT (d := 291) rfl (rfl) ?_)
        all_goals (refine AtT.kpick ?_)
        all_goals (refine AtT.kmove ?_)
        all_goals (first | refine AtT.kpass ?_ | refine AtT.kpassU ?_ | ((refine AtT.kmove ?_)))
        all_goals (first | refine AtT.kpass ?_ | refine AtT.kpassU ?_ | ((refine AtT.keqI ?_)))
        all_goals (refine AtT.setT (d := 295) rfl (rfl) ?_)
        all_goals (refine AtT.kpick ?_)
        all_goals (refine AtT.kmove ?_)
        all_goals (first | refine AtT.kpass ?_ | refine AtT.kpassU ?_ | ((refine AtT.kmove ?_)))
        all_goals (first | refine AtT.kpass ?_ | refine AtT.kpassU ?_ | ((refine AtT.keqI ?_)))
        all_goals (refine AtT.setT (d := 299) rfl (rfl) ?_)
        all_goals (refine AtT.kpick ?_)
        all_goals (refine AtT.kmove ?_)
        all_goals (first | refine AtT.kpass ?_ | refine AtT.kpassU ?_ | ((refine AtT.kmove ?_)))
        all_goals (first | refine AtT.kpass ?_ | refine AtT.kpassU ?_ | ((refine AtT.keqI ?_)))
        all_goals (refine AtT.setT (d := 303) rfl (rfl) ?_)
        all_goals (refine AtT.kpick ?_)
        all_goals (refine AtT.kmove ?_)
        all_goals (first | refine AtT.kpass ?_ | refine AtT.kpassU ?_ | ((first | refine AtT.kloadOA tk24 ?_ | refine AtT.kloadA tk24 ?_ | refine AtT.kloadOP tk24 ?_)))
        all_goals (first | refine AtT.kpassN ?_ | refine AtT.kpassNU ?_ | ((refine AtT.kcallP rfl rfl ok44 (panel_f 0 0 2 _) ?_) ; (rintro _ rfl)))
        all_goals (first | refine AtT.kpass ?_ | refine AtT.kpassU ?_ | ((refine AtT.keqS (eqS24 _ _ _ _ _ _) ?_)))
        all_goals (refine AtT.setT (d := 308) rfl (⟨rfl, rfl, rfl⟩) ?_)
        all_goals (refine AtT.kpick ?_)
        all_goals (refine AtT.kmove ?_)
        all_goals (first | refine AtT.kpass ?_ | refine AtT.kpassU ?_ | ((refine AtT.kmove ?_)))
        all_goals (first | refine AtT.kpass ?_ | refine AtT.kpassU ?_ | ((refine AtT.keqI ?_)))
        all_goals (refine AtT.setT (d := 312) rfl (rfl) ?_)
        all_goals (refine AtT.kpick ?_)
        all_goals (refine AtT.kassign ?_)
        all_goals refine AtT.done ?_
    rotate_right
    focus
      all_goals (first | refine AtT.kpassN ?_ | refine AtT.kpassNU ?_ | ((refine AtT.kcallP rfl rfl ok54 (of_f _ _) ?_) ; (rintro _ rfl)))
      refine AtT.two ?_ ?_
      focus
        all_goals (first | refine AtT.kpassN ?_ | refine AtT.kpassNU ?_ | ((refine AtT.kbsliceG (bs25_2_0_1 _ _) ?_) ; (intro q267 V267 hV267 hq267)))
        all_goals ((try replace hu91 := hu91.le hV267) ; (try replace hu96 := hu96.le hV267) ; (try replace hu111 := hu111.le hV267) ; (try replace s265 := s265.le hV267) ; (try replace s267 := s267.le hV267) ; (try replace s269 := s269.le hV267))
        all_goals (have s267 : SlI V267 _ [1, 12] := Sl.lit hq267 rfl (by decide))
        refine AtT.two ?_ ?_
        focus
          all_goals (first | refine AtT.kpassN ?_ | refine AtT.kpassNU ?_ | ((refine AtT.kcallP rfl rfl ok54 (of_f _ _) ?_) ; (rintro _ rfl)))
          all_goals (first | refine AtT.kpassN ?_ | refine AtT.kpassNU ?_ | ((refine AtT.kbsliceG (bs25_2_0_1 _ _) ?_) ; (intro q269 V269 hV269 hq269)))
          all_goals ((try replace hu91 := hu91.le hV269) ; (try replace hu96 := hu96.le hV269) ; (try replace hu111 := hu111.le hV269) ; (try replace s265 := s265.le hV269) ; (try replace s267 := s267.le hV269) ; (try replace s269 := s269.le hV269))
          all_goals (have s269 : SlI V269 _ [6, 12] := Sl.lit hq269 rfl (by decide))
          all_goals (first | refine AtT.kpassN ?_ | refine AtT.kpassNU ?_ | ((refine AtT.kcallP rfl rfl ok54 (of_f _ _) ?_) ; (rintro _ rfl)))
          all_goals (first | refine AtT.kpassN ?_ | refine AtT.kpassNU ?_ | ((refine AtT.kbsliceG (bs39_3_0_1_2 _ _ _ _ _ _ _ _ _) ?_) ; (intro q271 V271 hV271 hq271)))
          all_goals ((try replace hu91 := hu91.le hV271) ; (try replace hu96 := hu96.le hV271) ; (try replace hu111 := hu111.le hV271) ; (try replace s265 := s265.le hV271) ; (try replace s267 := s267.le hV271) ; (try replace s269 := s269.le hV271))
          all_goals (first | refine AtT.kpassN ?_ | refine AtT.kpassNU ?_ | ((refine AtT.kcallP rfl rfl ok55 (lists_f _ _) ?_) ; (rintro _ rfl)))
          all_goals (first | refine AtT.kpassN ?_ | refine AtT.kpassNU ?_ | ((refine AtT.kcallP rfl rfl ok30 (lists_eq_f [[1, 6], [1, 12], [6, 12]] [[1, 6], [1, 12], [6, 12]] _ _ _ hu91 (SL.lit [(some q265, 2, 2), (some q267, 2, 2), (some q269, 2, 2)] [[1, 6], [1, 12], [6, 12]] 3 hq271 rfl rfl (by simp) (fun i q l h1 h2 => by match i, h1, h2 with | 0, h1, h2 => (cases h1; cases h2; exact s265) | 1, h1, h2 => (cases h1; cases h2; exact s267) | 2, h1, h2 => (cases h1; cases h2; exact s269)))) ?_) ; (rintro _ rfl)))
          all_goals (refine AtT.setT (d := 273) rfl (rfl) ?_)
          all_goals (refine AtT.kpick ?_)
          all_goals (refine AtT.kmove ?_)
          all_goals (first | refine AtT.kpass ?_ | refine AtT.kpassU ?_ | ((refine AtT.kmove ?_)))
          all_goals (first | refine AtT.kpassN ?_ | refine AtT.kpassNU ?_ | ((refine AtT.kbsliceG (bs25_2_0_1 _ _) ?_) ; (intro q277 V277 hV277 hq277)))
          all_goals ((try replace hu96 := hu96.le hV277) ; (try replace hu111 := hu111.le hV277))
          all_goals (have s277 : SlI V277 _ [1, 6] := Sl.lit hq277 rfl (by decide))
          all_goals (first | refine AtT.kpassN ?_ | refine AtT.kpassNU ?_ | ((refine AtT.kcallP rfl rfl ok54 (of_f _ _) ?_) ; (rintro _ rfl)))
          all_goals (first | refine AtT.kpassN ?_ | refine AtT.kpassNU ?_ | ((refine AtT.kbsliceG (bs39_1_0 _ _ _) ?_) ; (intro q279 V279 hV279 hq279)))
          all_goals ((try replace hu96 := hu96.le hV279) ; (try replace hu111 := hu111.le hV279) ; (try replace s277 := s277.le hV279))
          all_goals (first | refine AtT.kpassN ?_ | refine AtT.kpassNU ?_ | ((refine AtT.kcallP rfl rfl ok55 (lists_f _ _) ?_) ; (rintro _ rfl)))
          all_goals (first | refine AtT.kpassN ?_ | refine AtT.kpassNU ?_ | ((refine AtT.kcallP rfl rfl ok30 (lists_eq_f [[1, 6]] [[1, 6]] _ _ _ hu96 (SL.lit [(some q277, 2, 2)] [[1, 6]] 1 hq279 rfl rfl (by simp) (fun i q l h1 h2 => by match i, h1, h2 with | 0, h1, h2 => (cases h1; cases h2; exact s277)))) ?_) ; (rintro _ rfl)))
          all_goals (refine AtT.setT (d := 281) rfl (rfl) ?_)
          all_goals (refine AtT.kpick ?_)
          all_goals (refine AtT.kmove ?_)
          all_goals (first | refine AtT.kpass ?_ | refine AtT.kpassU ?_ | ((refine AtT.kmove ?_)))
          all_goals (first | refine AtT.kpass ?_ | refine AtT.kpassU ?_ | ((refine AtT.keqI ?_)))
          all_goals (refine AtT.setT (d := 285) rfl (rfl) ?_)
          all_goals (refine AtT.kpick ?_)
          all_goals (refine AtT.kmove ?_)
          all_goals (first | refine AtT.kpass ?_ | refine AtT.kpassU ?_ | ((refine AtT.kmove ?_)))
          all_goals (first | refine AtT.kpassN ?_ | refine AtT.kpassNU ?_ | ((refine AtT.kbsliceG (bs25_1_0 _) ?_) ; (intro q289 V289 hV289 hq289)))
          all_goals ((try replace hu111 := hu111.le hV289))
          all_goals (have s289 : SlI V289 _ [0] := Sl.lit hq289 rfl (by decide))
          all_goals (first | refine AtT.kpassN ?_ | refine AtT.kpassNU ?_ | ((refine AtT.kcallP rfl rfl ok54 (of_f _ _) ?_) ; (rintro _ rfl)))
          all_goals (first | refine AtT.kpassN ?_ | refine AtT.kpassNU ?_ | ((refine AtT.kcallP rfl rfl ok23 (ints_f [0] [0] _ _ _ hu111 s289) ?_) ; (rintro _ rfl)))
          all_goals (refine AtT.setT (d := 291) rfl (rfl) ?_)
          all_goals (refine AtT.kpick ?_)
          all_goals (refine AtT.kmove ?_)
          all_goals (first | refine AtT.kpass ?_ | refine AtT.kpassU ?_ | ((refine AtT.kmove ?_)))
          all_goals (first | refine AtT.kpass ?_ | refine AtT.kpassU ?_ | ((refine AtT.keqI ?_)))
          all_goals (refine AtT.setT (d := 295) rfl (rfl) ?_)
          all_goals (refine AtT.kpick ?_)
          all_goals (refine AtT.kmove ?_)
          all_goals (first | refine AtT.kpass ?_ | refine AtT.kpassU ?_ | ((refine AtT.kmove ?_)))
          all_goals (first | refine AtT.kpass ?_ | refine AtT.kpassU ?_ | ((refine AtT.keqI ?_)))
          all_goals (refine AtT.setT (d := 299) rfl (rfl) ?_)
          all_goals (refine AtT.kpick ?_)
          all_goals (refine AtT.kmove ?_)
          all_goals (first | refine AtT.kpass ?_ | refine AtT.kpassU ?_ | ((refine AtT.kmove ?_)))
          all_goals (first | refine AtT.kpass ?_ | refine AtT.kpassU ?_ | ((refine AtT.keqI ?_)))
          all_goals (refine AtT.setT (d := 303) rfl (rfl) ?_)
          all_goals (refine AtT.kpick ?_)
          all_goals (refine AtT.kmove ?_)
          all_goals (first | refine AtT.kpass ?_ | refine AtT.kpassU ?_ | ((first | refine AtT.kloadOA tk24 ?_ | refine AtT.kloadA tk24 ?_ | refine AtT.kloadOP tk24 ?_)))
          all_goals (first | refine AtT.kpassN ?_ | refine AtT.kpassNU ?_ | ((refine AtT.kcallP rfl rfl ok44 (panel_f 0 0 2 _) ?_) ; (rintro _ rfl)))
          all_goals (first | refine AtT.kpass ?_ | refine AtT.kpassU ?_ | ((refine AtT.keqS (eqS24 _ _ _ _ _ _) ?_)))
          all_goals (refine AtT.setT (d := 308) rfl (⟨rfl, rfl, rfl⟩) ?_)
          all_goals (refine AtT.kpick ?_)
          all_goals (refine AtT.kmove ?_)
          all_goals (first | refine AtT.kpass ?_ | refine AtT.kpassU ?_ | ((refine AtT.kmove ?_)))
          all_goals (first | refine AtT.kpass ?_ | refine AtT.kpassU ?_ | ((refine AtT.keqI ?_)))
          all_goals (refine AtT.setT (d := 312) rfl (rfl) ?_)
          all_goals (refine AtT.kpick ?_)
          all_goals (refine AtT.kassign ?_)
          all_goals refine AtT.done ?_
        rotate_right
        focus
          all_goals (first | refine AtT.kpassN ?_ | refine AtT.kpassNU ?_ | ((refine AtT.kbsliceG (bs25_2_0_1 _ _) ?_) ; (intro q269 V269 hV269 hq269)))
          all_goals ((try replace hu91 := hu91.le hV269) ; (try replace hu96 := hu96.le hV269) ; (try replace hu111 := hu111.le hV269) ; (try replace s265 := s265.le hV269) ; (try replace s267 := s267.le hV269) ; (try replace s269 := s269.le hV269))
          all_goals (have s269 : SlI V269 _ [6, 12] := Sl.lit hq269 rfl (by decide))
          all_goals (first | refine AtT.kpassN ?_ | refine AtT.kpassNU ?_ | ((refine AtT.kcallP rfl rfl ok54 (of_f _ _) ?_) ; (rintro _ rfl)))
          all_goals (first | refine AtT.kpassN ?_ | refine AtT.kpassNU ?_ | ((refine AtT.kcallP rfl rfl ok54 (of_f _ _) ?_) ; (rintro _ rfl)))
          all_goals (first | refine AtT.kpassN ?_ | refine AtT.kpassNU ?_ | ((refine AtT.kbsliceG (bs39_3_0_1_2 _ _ _ _ _ _ _ _ _) ?_) ; (intro q271 V271 hV271 hq271)))
          all_goals ((try replace hu91 := hu91.le hV271) ; (try replace hu96 := hu96.le hV271) ; (try replace hu111 := hu111.le hV271) ; (try replace s265 := s265.le hV271) ; (try replace s267 := s267.le hV271) ; (try replace s269 := s269.le hV271))
          all_goals (first | refine AtT.kpassN ?_ | refine AtT.kpassNU ?_ | ((refine AtT.kcallP rfl rfl ok55 (lists_f _ _) ?_) ; (rintro _ rfl)))
          all_goals (first | refine AtT.kpassN ?_ | refine AtT.kpassNU ?_ | ((refine AtT.kcallP rfl rfl ok30 (lists_eq_f [[1, 6], [1, 12], [6, 12]] [[1, 6], [1, 12], [6, 12]] _ _ _ hu91 (SL.lit [(some q265, 2, 2), (some q267, 2, 2), (some q269, 2, 2)] [[1, 6], [1, 12], [6, 12]] 3 hq271 rfl rfl (by simp) (fun i q l h1 h2 => by match i, h1, h2 with | 0, h1, h2 => (cases h1; cases h2; exact s265) | 1, h1, h2 => (cases h1; cases h2; exact s267) | 2, h1, h2 => (cases h1; cases h2; exact s269)))) ?_) ; (rintro _ rfl)))
          all_goals (refine AtT.setT (d := 273) rfl (rfl) ?_)
          all_goals (refine AtT.kpick ?_)
          all_goals (refine AtT.kmove ?_)
          all_goals (first | refine AtT.kpass ?_ | refine AtT.kpassU ?_ | ((refine AtT.kmove ?_)))
          all_goals (first | refine AtT.kpassN ?_ | refine AtT.kpassNU ?_ | ((refine AtT.kbsliceG (bs25_2_0_1 _ _) ?_) ; (intro q277 V277 hV277 hq277)))
          all_goals ((try replace hu96 := hu96.le hV277) ; (try replace hu111 := hu111.le hV277))
          all_goals (have s277 : SlI V277 _ [1, 6] := Sl.lit hq277 rfl (by decide))
          all_goals (first | refine AtT.kpassN ?_ | refine AtT.kpassNU ?_ | ((refine AtT.kcallP rfl rfl ok54 (of_f _ _) ?_) ; (rintro _ rfl)))
          all_goals (first | refine AtT.kpassN ?_ | refine AtT.kpassNU ?_ | ((refine AtT.kbsliceG (bs39_1_0 _ _ _) ?_) ; (intro q279 V279 hV279 hq279)))
          all_goals ((try replace hu96 := hu96.le hV279) ; (try replace hu111 := hu111.le hV279) ; (try replace s277 := s277.le hV279))
          all_goals (first | refine AtT.kpassN ?_ | refine AtT.kpassNU ?_ | ((refine AtT.kcallP rfl rfl ok55 (lists_f _ _) ?_) ; (rintro _ rfl)))
          all_goals (first | refine AtT.kpassN ?_ | refine AtT.kpassNU ?_ | ((refine AtT.kcallP rfl rfl ok30 (lists_eq_f [[1, 6]] [[1, 6]] _ _ _ hu96 (SL.lit [(some q277, 2, 2)] [[1, 6]] 1 hq279 rfl rfl (by simp) (fun i q l h1 h2 => by match i, h1, h2 with | 0, h1, h2 => (cases h1; cases h2; exact s277)))) ?_) ; (rintro _ rfl)))
          all_goals (refine AtT.setT (d := 281) rfl (rfl) ?_)
          all_goals (refine AtT.kpick ?_)
          all_goals (refine AtT.kmove ?_)
          all_goals (first | refine AtT.kpass ?_ | refine AtT.kpassU ?_ | ((refine AtT.kmove ?_)))
          all_goals (first | refine AtT.kpass ?_ | refine AtT.kpassU ?_ | ((refine AtT.keqI ?_)))
          all_goals (refine AtT.setT (d := 285) rfl (rfl) ?_)
          all_goals (refine AtT.kpick ?_)
          all_goals (refine AtT.kmove ?_)
          all_goals (first | refine AtT.kpass ?_ | refine AtT.kpassU ?_ | ((refine AtT.kmove ?_)))
          all_goals (first | refine AtT.kpassN ?_ | refine AtT.kpassNU ?_ | ((refine AtT.kbsliceG (bs25_1_0 _) ?_) ; (intro q289 V289 hV289 hq289)))
          all_goals ((try replace hu111 := hu111.le hV289))
          all_goals (have s289 : SlI V289 _ [0] := Sl.lit hq289 rfl (by decide))
          all_goals (first | refine AtT.kpassN ?_ | refine AtT.kpassNU ?_ | ((refine AtT.kcallP rfl rfl ok54 (of_f _ _) ?_) ; (rintro _ rfl)))
          all_goals (first | refine AtT.kpassN ?_ | refine AtT.kpassNU ?_ | ((refine AtT.kcallP rfl rfl ok23 (ints_f [0] [0] _ _ _ hu111 s289) ?_) ; (rintro _ rfl)))
          all_goals (refine AtT.setT (d := 291) rfl (rfl) ?_)
          all_goals (refine AtT.kpick ?_)
          all_goals (refine AtT.kmove ?_)
          all_goals (first | refine AtT.kpass ?_ | refine AtT.kpassU ?_ | ((refine AtT.kmove ?_)))
          all_goals (first | refine AtT.kpass ?_ | refine AtT.kpassU ?_ | ((refine AtT.keqI ?_)))
          all_goals (refine AtT.setT (d := 295) rfl (rfl) ?_)
          all_goals (refine AtT.kpick ?_)
          all_goals (refine AtT.kmove ?_)
          all_goals (first | refine AtT.kpass ?_ | refine AtT.kpassU ?_ | ((refine AtT.kmove ?_)))
          all_goals (first | refine AtT.kpass ?_ | refine AtT.kpassU ?_ | ((refine AtT.keqI ?_)))
          all_goals (refine AtT.setT (d := 299) rfl (rfl) ?_)
          all_goals (refine AtT.kpick ?_)
          all_goals (refine AtT.kmove ?_)
          all_goals (first | refine AtT.kpass ?_ | refine AtT.kpassU ?_ | ((refine AtT.kmove ?_)))
          all_goals (first | refine AtT.kpass ?_ | refine AtT.kpassU ?_ | ((refine AtT.keqI ?_)))
          all_goals (refine AtT.setT (d := 303) rfl (rfl) ?_)
          all_goals (refine AtT.kpick ?_)
          all_goals (refine AtT.kmove ?_)
          all_goals (first | refine AtT.kpass ?_ | refine AtT.kpassU ?_ | ((first | refine AtT.kloadOA tk24 ?_ | refine AtT.kloadA tk24 ?_ | refine AtT.kloadOP tk24 ?_)))
          all_goals (first | refine AtT.kpassN ?_ | refine AtT.kpassNU ?_ | ((refine AtT.kcallP rfl rfl ok44 (panel_f 0 0 2 _) ?_) ; (rintro _ rfl)))
          all_goals (first | refine AtT.kpass ?_ | refine AtT.kpassU ?_ | ((refine AtT.keqS (eqS24 _ _ _ _ _ _) ?_)))
          all_goals (refine AtT.setT (d := 308) rfl (⟨rfl, rfl, rfl⟩) ?_)
          all_goals (refine AtT.kpick ?_)
          all_goals (refine AtT.kmove ?_)
          all_goals (first | refine AtT.kpass ?_ | refine AtT.kpassU ?_ | ((refine AtT.kmove ?_)))
          all_goals (first | refine AtT.kpass ?_ | refine AtT.kpassU ?_ | ((refine AtT.keqI ?_)))
          all_goals (refine AtT.setT (d := 312) rfl (rfl) ?_)
          all_goals (refine AtT.kpick ?_)
          all_goals (refine AtT.kassign ?_)
          all_goals refine AtT.done ?_
      rotate_right
      focus
        all_goals (first | refine AtT.kpassN ?_ | refine AtT.kpassNU ?_ | ((refine AtT.kbsliceG (bs25_2_0_1 _ _) ?_) ; (intro q269 V269 hV269 hq269)))
        all_goals ((try replace hu91 := hu91.le hV269) ; (try replace hu96 := hu96.le hV269) ; (try replace hu111 := hu111.le hV269) ; (try replace s265 := s265.le hV269) ; (try replace s267 := s267.le hV269) ; (try replace s269 := s269.le hV269))
        all_goals (have s269 : SlI V269 _ [6, 12] := Sl.lit hq269 rfl (by decide))
        all_goals (first | refine AtT.kpassN ?_ | refine AtT.kpassNU ?_ | ((refine AtT.kbsliceG (bs25_2_0_1 _ _) ?_) ; (intro q267 V267 hV267 hq267)))
        all_goals ((try replace hu91 := hu91.le hV267) ; (try replace hu96 := hu96.le hV267) ; (try replace hu111 := hu111.le hV267) ; (try replace s265 := s265.le hV267) ; (try replace s267 := s267.le hV267) ; (try replace s269 := s269.le hV267))
        all_goals (have s267 : SlI V267 _ [1, 12] := Sl.lit hq267 rfl (by decide))
        all_goals (first | refine AtT.kpassN ?_ | refine AtT.kpassNU ?_ | ((refine AtT.kcallP rfl rfl ok54 (of_f _ _) ?_) ; (rintro _ rfl)))
        all_goals (first | refine AtT.kpassN ?_ | refine AtT.kpassNU ?_ | ((refine AtT.kcallP rfl rfl ok54 (of_f _ _) ?_) ; (rintro _ rfl)))
        all_goals (first | refine AtT.kpassN ?_ | refine AtT.kpassNU ?_ | ((refine AtT.kbsliceG (bs39_3_0_1_2 _ _ _ _ _ _ _ _ _) ?_) ; (intro q271 V271 hV271 hq271)))
        all_goals ((try replace hu91 := hu91.le hV271) ; (try replace hu96 := hu96.le hV271) ; (try replace hu111 := hu111.le hV271) ; (try replace s265 := s265.le hV271) ; (try replace s267 := s267.le hV271) ; (try replace s269 := s269.le hV271))
        all_goals (first | refine AtT.kpassN ?_ | refine AtT.kpassNU ?_ | ((refine AtT.kcallP rfl rfl ok55 (lists_f _ _) ?_) ; (rintro _ rfl)))
        all_goals (first | refine AtT.kpassN ?_ | refine AtT.kpassNU ?_ | ((refine AtT.kcallP rfl rfl ok30 (lists_eq_f [[1, 6], [1, 12], [6, 12]] [[1, 6], [1, 12], [6, 12]] _ _ _ hu91 (SL.lit [(some q265, 2, 2), (some q267, 2, 2), (some q269, 2, 2)] [[1, 6], [1, 12], [6, 12]] 3 hq271 rfl rfl (by simp) (fun i q l h1 h2 => by match i, h1, h2 with | 0, h1, h2 => (cases h1; cases h2; exact s265) | 1, h1, h2 => (cases h1; cases h2; exact s267) | 2, h1, h2 => (cases h1; cases h2; exact s269)))) ?_) ; (rintro _ rfl)))
        all_goals (refine AtT.setT (d := 273) rfl (rfl) ?_)
        all_goals (refine AtT.kpick ?_)
        all_goals (refine AtT.kmove ?_)
        all_goals (first | refine AtT.kpass ?_ | refine AtT.kpassU ?_ | ((refine AtT.kmove ?_)))
        all_goals (first | refine AtT.kpassN ?_ | refine AtT.kpassNU ?_ | ((refine AtT.kbsliceG (bs25_2_0_1 _ _) ?_) ; (intro q277 V277 hV277 hq277)))
        all_goals ((try replace hu96 := hu96.le hV277) ; (try replace hu111 := hu111.le hV277))
        all_goals (have s277 : SlI V277 _ [1, 6] := Sl.lit hq277 rfl (by decide))
        all_goals (first | refine AtT.kpassN ?_ | refine AtT.kpassNU ?_ | ((refine AtT.kcallP rfl rfl ok54 (of_f _ _) ?_) ; (rintro _ rfl)))
        all_goals (first | refine AtT.kpassN ?_ | refine AtT.kpassNU ?_ | ((refine AtT.kbsliceG (bs39_1_0 _ _ _) ?_) ; (intro q279 V279 hV279 hq279)))
        all_goals ((try replace hu96 := hu96.le hV279) ; (try replace hu111 := hu111.le hV279) ; (try replace s277 := s277.le hV279))
        all_goals (first | refine AtT.kpassN ?_ | refine AtT.kpassNU ?_ | ((refine AtT.kcallP rfl rfl ok55 (lists_f _ _) ?_) ; (rintro _ rfl)))
        all_goals (first | refine AtT.kpassN ?_ | refine AtT.kpassNU ?_ | ((refine AtT.kcallP rfl rfl ok30 (lists_eq_f [[1, 6]] [[1, 6]] _ _ _ hu96 (SL.lit [(some q277, 2, 2)] [[1, 6]] 1 hq279 rfl rfl (by simp) (fun i q l h1 h2 => by match i, h1, h2 with | 0, h1, h2 => (cases h1; cases h2; exact s277)))) ?_) ; (rintro _ rfl)))
        all_goals (refine AtT.setT (d := 281) rfl (rfl) ?_)
        all_goals (refine AtT.kpick ?_)
        all_goals (refine AtT.kmove ?_)
        all_goals (first | refine AtT.kpass ?_ | refine AtT.kpassU ?_ | ((refine AtT.kmove ?_)))
        all_goals (first | refine AtT.kpass ?_ | refine AtT.kpassU ?_ | ((refine AtT.keqI ?_)))
        all_goals (refine AtT.setT (d := 285) rfl (rfl) ?_)
        all_goals (refine AtT.kpick ?_)
        all_goals (refine AtT.kmove ?_)
        all_goals (first | refine AtT.kpass ?_ | refine AtT.kpassU ?_ | ((refine AtT.kmove ?_)))
        all_goals (first | refine AtT.kpassN ?_ | refine AtT.kpassNU ?_ | ((refine AtT.kbsliceG (bs25_1_0 _) ?_) ; (intro q289 V289 hV289 hq289)))
        all_goals ((try replace hu111 := hu111.le hV289))
        all_goals (have s289 : SlI V289 _ [0] := Sl.lit hq289 rfl (by decide))
        all_goals (first | refine AtT.kpassN ?_ | refine AtT.kpassNU ?_ | ((refine AtT.kcallP rfl rfl ok54 (of_f _ _) ?_) ; (rintro _ rfl)))
        all_goals (first | refine AtT.kpassN ?_ | refine AtT.kpassNU ?_ | ((refine AtT.kcallP rfl rfl ok23 (ints_f [0] [0] _ _ _ hu111 s289) ?_) ; (rintro _ rfl)))
        all_goals (refine AtT.setT (d := 291) rfl (rfl) ?_)
        all_goals (refine AtT.kpick ?_)
        all_goals (refine AtT.kmove ?_)
        all_goals (first | refine AtT.kpass ?_ | refine AtT.kpassU ?_ | ((refine AtT.kmove ?_)))
        all_goals (first | refine AtT.kpass ?_ | refine AtT.kpassU ?_ | ((refine AtT.keqI ?_)))
        all_goals (refine AtT.setT (d := 295) rfl (rfl) ?_)
        all_goals (refine AtT.kpick ?_)
        all_goals (refine AtT.kmove ?_)
        all_goals (first | refine AtT.kpass ?_ | refine AtT.kpassU ?_ | ((refine AtT.kmove ?_)))
        all_goals (first | refine AtT.kpass ?_ | refine AtT.kpassU ?_ | ((refine AtT.keqI ?_)))
        all_goals (refine AtT.setT (d := 299) rfl (rfl) ?_)
        all_goals (refine AtT.kpick ?_)
        all_goals (refine AtT.kmove ?_)
        all_goals (first | refine AtT.kpass ?_ | refine AtT.kpassU ?_ | ((refine AtT.kmove ?_)))
        all_goals (first | refine AtT.kpass ?_ | refine AtT.kpassU ?_ | ((refine AtT.keqI ?_)))
        all_goals (refine AtT.setT (d := 303) rfl (rfl) ?_)
        all_goals (refine AtT.kpick ?_)
        all_goals (refine AtT.kmove ?_)
        all_goals (first | refine AtT.kpass ?_ | refine AtT.kpassU ?_ | ((first | refine AtT.kloadOA tk24 ?_ | refine AtT.kloadA tk24 ?_ | refine AtT.kloadOP tk24 ?_)))
        all_goals (first | refine AtT.kpassN ?_ | refine AtT.kpassNU ?_ | ((refine AtT.kcallP rfl rfl ok44 (panel_f 0 0 2 _) ?_) ; (rintro _ rfl)))
        all_goals (first | refine AtT.kpass ?_ | refine AtT.kpassU ?_ | ((refine AtT.keqS (eqS24 _ _ _ _ _ _) ?_)))
        all_goals (refine AtT.setT (d := 308) rfl (⟨rfl, rfl, rfl⟩) ?_)
        all_goals (refine AtT.kpick ?_)
        all_goals (refine AtT.kmove ?_)
        all_goals (first | refine AtT.kpass ?_ | refine AtT.kpassU ?_ | ((refine AtT.kmove ?_)))
        all_goals (first | refine AtT.kpass ?_ | refine AtT.kpassU ?_ | ((refine AtT.keqI ?_)))
        all_goals (refine AtT.setT (d := 312) rfl (rfl) ?_)
        all_goals (refine AtT.kpick ?_)
        all_goals (refine AtT.kassign ?_)
        all_goals refine AtT.done ?_
  all_goals (refine At.nrm ?_)
  all_goals (exact At.ret1 rfl (.tmp rfl) rfl)
end Go.Proofs.Ytfcpmblmklibjaa
set_option linter.unusedVariables false
namespace Go.Bl
open Go.Gl Go.Lw
theorem clN_bit {ts : List Tq} {i : Nat} : ∀ k, k ≤ ts.length → ((clN ts k).testBit i = true ↔ ∃ t ∈ ts.take k, t.f = false ∧ (cbN t.p).testBit i = true)
  | 0, _ => by simp [clN]
  | k + 1, h => by
    obtain ⟨t, ht⟩ : ∃ t, ts[k]? = some t := ⟨_, List.getElem?_eq_getElem (by omega)⟩
    have ih := clN_bit (ts := ts) (i := i) k (by omega)
    rw [clN_at ht, take_snoc' ht]
    by_cases c : t.f = false
    · rw [if_pos c, Nat.testBit_or, Bool.or_eq_true, ih]
      constructor
      · rintro (⟨u, h1, h2⟩ | h1)
        · exact ⟨u, List.mem_append_left _ h1, h2⟩
        · exact ⟨t, by simp, c, h1⟩
      · rintro ⟨u, h1, h2, h3⟩
        rcases List.mem_append.1 h1 with h1 | h1
        · exact .inl ⟨u, h1, h2, h3⟩
        · rw [List.mem_singleton] at h1; subst h1; exact .inr h3
    · rw [if_neg c, ih]
      constructor
      · rintro ⟨u, h1, h2⟩; exact ⟨u, List.mem_append_left _ h1, h2⟩
      · rintro ⟨u, h1, h2, h3⟩
        rcases List.mem_append.1 h1 with h1 | h1
        · exact ⟨u, h1, h2, h3⟩
        · rw [List.mem_singleton] at h1; subst h1; exact absurd h2 c
theorem clA_bit {ts : List Tq} {i : Nat} : (clA ts).testBit i = true ↔ ∃ t ∈ ts, t.f = false ∧ (cbN t.p).testBit i = true := by
  have := clN_bit (ts := ts) (i := i) ts.length (Nat.le_refl _)
  rw [List.take_length] at this; exact this
theorem mtB_symm (A B : Nat) : mtB A B = mtB B A := by unfold mtB; rw [Nat.and_comm]
theorem clr_bit {ts : List Tq} {t : Tq} {no i : Nat} (ht : sndB t.p = true) (hn : no < 32768) : (clrB (cbN t.p) no).testBit i = ((cbN t.p).testBit i && !no.testBit i) := by
  have := cbN_lt ht
  exact clrB_bit _ _ _ (by omega) (by omega)
/-- An explanation: it meets just the trials that failed. -/
def ExT (ts : List Tq) (x : Nat) : Prop := x < 32768 ∧ ∀ t ∈ ts, mtB x (cbN t.p) = t.f
theorem ex_ext {ts : List Tq} (ht : ∀ t ∈ ts, sndB t.p = true) {x : Nat} : Ex (clA ts) (lsL ts) x ↔ ExT ts x := by
  have hno : clA ts < 32768 := clN_lt ht _
  constructor
  · rintro ⟨h1, h2, h3⟩
    refine ⟨h1, fun t hm => ?_⟩
    cases c : t.f with
    | false =>
      refine mt_no fun i hi => ?_
      cases d : (cbN t.p).testBit i with
      | false => rfl
      | true => rw [(mtB_iff x (clA ts)).2 ⟨i, hi, clA_bit.2 ⟨t, hm, c, d⟩⟩] at h2; cases h2
    | true =>
      have hs : clrB (cbN t.p) (clA ts) ∈ lsL ts := by rw [lsL_map]; exact List.mem_map.2 ⟨t, List.mem_filter.2 ⟨hm, c⟩, rfl⟩
      obtain ⟨i, a, b⟩ := (mtB_iff _ _).1 (h3 _ hs)
      rw [clr_bit (ts := ts) (ht t hm) hno, Bool.and_eq_true] at b
      exact (mtB_iff _ _).2 ⟨i, a, b.1⟩
  · rintro ⟨h1, h2⟩
    have hz : ∀ i, x.testBit i = true → (clA ts).testBit i = false := fun i hi => by
      cases d : (clA ts).testBit i with
      | false => rfl
      | true =>
        obtain ⟨t, hm, hf, hb⟩ := clA_bit.1 d
        have := h2 t hm
        rw [hf, (mtB_iff _ _).2 ⟨i, hi, hb⟩] at this; cases this
    refine ⟨h1, mt_no hz, fun s hs => ?_⟩
    rw [lsL_map] at hs
    obtain ⟨t, hm, rfl⟩ := List.mem_map.1 hs
    obtain ⟨hm, hf⟩ := List.mem_filter.1 hm
    have := h2 t hm
    rw [show t.f = true from hf] at this
    obtain ⟨i, a, b⟩ := (mtB_iff _ _).1 this
    exact (mtB_iff _ _).2 ⟨i, a, by rw [clr_bit (ts := ts) (ht t hm) hno, b, hz i a]; rfl⟩
/-- The smallest explanations, in their order. -/
structure AlT (ts : List Tq) (L : List Nat) : Prop where
  nod : L.Nodup
  ord : L.Pairwise LexB
  mem : ∀ x, x ∈ L ↔ ExT ts x ∧ ∀ y, ExT ts y → cnt x ≤ cnt y
theorem alt_uniq {ts us : List Tq} (hc : ∀ x, ExT ts x ↔ ExT us x) {L M : List Nat} (h : AlT ts L) (k : AlT us M) : L = M := lex_ext h.ord k.ord fun x => by
  rw [h.mem, k.mem]
  constructor
  · rintro ⟨a, b⟩; exact ⟨(hc x).1 a, fun y hy => b y ((hc y).2 hy)⟩
  · rintro ⟨a, b⟩; exact ⟨(hc x).2 a, fun y hy => b y ((hc y).1 hy)⟩
theorem ext_snoc {ts : List Tq} {t : Tq} {x : Nat} : ExT (ts ++ [t]) x ↔ ExT ts x ∧ mtB x (cbN t.p) = t.f := by
  unfold ExT
  constructor
  · rintro ⟨a, b⟩; exact ⟨⟨a, fun u hu => b u (List.mem_append_left _ hu)⟩, b t (by simp)⟩
  · rintro ⟨⟨a, b⟩, c⟩
    refine ⟨a, fun u hu => ?_⟩
    rcases List.mem_append.1 hu with hu | hu
    · exact b u hu
    · rw [List.mem_singleton] at hu; subst hu; exact c
theorem ext_mem {ts us : List Tq} (h : ∀ t, t ∈ ts ↔ t ∈ us) (x : Nat) : ExT ts x ↔ ExT us x :=
  ⟨fun ⟨a, b⟩ => ⟨a, fun t ht => b t ((h t).2 ht)⟩, fun ⟨a, b⟩ => ⟨a, fun t ht => b t ((h t).1 ht)⟩⟩
theorem cl_mem {ts us : List Tq} (h : ∀ t, t ∈ ts ↔ t ∈ us) : clA ts = clA us := by
  refine Nat.eq_of_testBit_eq fun i => ?_
  rw [Bool.eq_iff_iff, clA_bit, clA_bit]
  constructor
  · rintro ⟨t, a, b⟩; exact ⟨t, (h t).1 a, b⟩
  · rintro ⟨t, a, b⟩; exact ⟨t, (h t).2 a, b⟩
/-- Of a panel that is boiled just some stay. -/
theorem alt_filter {ts : List Tq} {L : List Nat} {t : Tq} (h : AlT ts L) (hex : ∃ x ∈ L, mtB x (cbN t.p) = t.f) : AlT (ts ++ [t]) (L.filter fun x => mtB x (cbN t.p) == t.f) := by
  obtain ⟨w, hw, hwt⟩ := hex
  obtain ⟨w1, w2⟩ := (h.mem w).1 hw
  refine ⟨h.nod.filter _, h.ord.filter _, fun x => ?_⟩
  rw [List.mem_filter, beq_iff_eq, h.mem, ext_snoc]
  constructor
  · rintro ⟨⟨a, b⟩, c⟩; exact ⟨⟨a, c⟩, fun y hy => b y (ext_snoc.1 hy).1⟩
  · rintro ⟨⟨a, c⟩, b⟩
    refine ⟨⟨a, fun y hy => ?_⟩, c⟩
    have := b w (ext_snoc.2 ⟨w1, hwt⟩)
    have := w2 y hy
    omega
theorem alt_none {ts : List Tq} {L : List Nat} {t : Tq} (h : AlT ts L) (hno : ∀ x ∈ L, mtB x (cbN t.p) ≠ t.f) {x y : Nat} (hx : x ∈ L) (hy : ExT (ts ++ [t]) y) : cnt x < cnt y := by
  obtain ⟨a, b⟩ := ext_snoc.1 hy
  have h1 := ((h.mem x).1 hx).2 y a
  apply Classical.byContradiction
  intro hc
  refine hno y ((h.mem y).2 ⟨a, fun z hz => ?_⟩) b
  have := ((h.mem x).1 hx).2 z hz
  omega
theorem ext_add {ts : List Tq} {x i : Nat} (h : ExT ts x) (hi : i < 15) (hc : (clA ts).testBit i = false) : ExT ts (x ||| 2 ^ i) := by
  refine ⟨or_lt15 h.1 hi, fun t ht => ?_⟩
  have h0 := h.2 t ht
  cases c : t.f with
  | true =>
    rw [c] at h0
    obtain ⟨j, a, b⟩ := (mtB_iff _ _).1 h0
    exact (mtB_iff _ _).2 ⟨j, by rw [Nat.testBit_or, a]; rfl, b⟩
  | false =>
    rw [c] at h0
    refine mt_no fun j hj => ?_
    rw [Nat.testBit_or, Bool.or_eq_true, Nat.testBit_two_pow, decide_eq_true_eq] at hj
    rcases hj with hj | rfl
    · exact mtB_no h0 hj
    · cases d : (cbN t.p).testBit i with
      | false => rfl
      | true => rw [clA_bit.2 ⟨t, ht, c, d⟩] at hc; cases hc
theorem ext_cl {ts : List Tq} {x i : Nat} (h : ExT ts x) (hi : x.testBit i = true) : (clA ts).testBit i = false := by
  cases d : (clA ts).testBit i with
  | false => rfl
  | true =>
    obtain ⟨t, hm, hf, hb⟩ := clA_bit.1 d
    have := h.2 t hm
    rw [hf, (mtB_iff _ _).2 ⟨i, hi, hb⟩] at this; cases this
/-- One more trial that failed: if it has a cause that is not clear, one more cause is enough. -/
theorem more_ok {ts : List Tq} {t : Tq} {x : Nat} (ht : sndB t.p = true) (hno : clA ts < 32768) (hf : t.f = true) (h : ExT ts x) (hne : clrB (cbN t.p) (clA ts) ≠ 0) : ∃ y, ExT (ts ++ [t]) y ∧ cnt y ≤ cnt x + 1 := by
  obtain ⟨i, hi⟩ := Nat.exists_testBit_of_ne_zero hne
  rw [clr_bit (ts := ts) ht hno, Bool.and_eq_true, Bool.not_eq_true'] at hi
  have hi15 := lt15_bit (cbN_lt ht) hi.1
  refine ⟨x ||| 2 ^ i, ext_snoc.2 ⟨ext_add h hi15 hi.2, ?_⟩, ?_⟩
  · rw [hf]; exact (mtB_iff _ _).2 ⟨i, by rw [Nat.testBit_or, Nat.testBit_two_pow_self, Bool.or_true], hi.1⟩
  · cases c : x.testBit i with
    | false => rw [cnt_or c hi15]; omega
    | true =>
      have : x ||| 2 ^ i = x := Nat.eq_of_testBit_eq fun j => by
        rw [Nat.testBit_or, Nat.testBit_two_pow]
        by_cases e : i = j
        · subst e; rw [c]; rfl
        · simp [e]
      rw [this]; omega
theorem more_no {ts : List Tq} {t : Tq} (ht : sndB t.p = true) (hno : clA ts < 32768) (hf : t.f = true) (hz : clrB (cbN t.p) (clA ts) = 0) (x : Nat) : ¬ ExT (ts ++ [t]) x := fun h => by
  obtain ⟨a, b⟩ := ext_snoc.1 h
  rw [hf] at b
  obtain ⟨i, h1, h2⟩ := (mtB_iff _ _).1 b
  have := clr_bit (ts := ts) (i := i) ht hno
  rw [hz, h2, ext_cl a h1] at this
  simp at this
/-- Of each cause of a smallest explanation there is a trial that failed which has this cause alone. -/
theorem alone_ex {ts : List Tq} {L : List Nat} (ht : ∀ t ∈ ts, sndB t.p = true) (h : AlT ts L) {x i : Nat} (hx : x ∈ L) (hi : x.testBit i = true) : ∃ s ∈ lsL ts, s &&& x = 2 ^ i := by
  obtain ⟨a, b⟩ := (h.mem x).1 hx
  have hi15 := lt15_bit a.1 hi
  have hpw : 2 ^ i < 32768 := Nat.pow_lt_pow_right (n := 15) (by decide) hi15
  have hno : clA ts < 32768 := clN_lt ht _
  obtain ⟨y, hy⟩ : ∃ y, y = clrB x (2 ^ i) := ⟨_, rfl⟩
  have hyb : ∀ j, y.testBit j = (x.testBit j && !decide (i = j)) := fun j => by rw [hy, clrB_bit _ _ _ (by omega) (by have := a.1; omega), Nat.testBit_two_pow]
  have hyl : y < 32768 := by rw [hy]; exact Nat.lt_of_le_of_lt (clrB_le _ _) a.1
  have hxy : x = y ||| 2 ^ i := Nat.eq_of_testBit_eq fun j => by
    rw [Nat.testBit_or, hyb, Nat.testBit_two_pow]
    by_cases e : i = j
    · subst e; rw [hi]; simp
    · simp [e]
  have hyi : y.testBit i = false := by rw [hyb]; simp
  have hcy : cnt x = cnt y + 1 := by rw [hxy, cnt_or hyi hi15]
  have hey := (ex_ext ht).2 a
  apply Classical.byContradiction
  intro hc
  have : Ex (clA ts) (lsL ts) y := by
    refine ⟨hyl, mt_no fun j hj => ?_, fun s hs => ?_⟩
    · rw [hyb, Bool.and_eq_true] at hj; exact ext_cl a hj.1
    · obtain ⟨j, h1, h2⟩ := (mtB_iff _ _).1 (hey.2.2 s hs)
      by_cases e : i = j
      · subst e
        apply Classical.byContradiction
        intro hd
        refine hc ⟨s, hs, Nat.eq_of_testBit_eq fun k => ?_⟩
        rw [Nat.testBit_and, Nat.testBit_two_pow]
        by_cases e : i = k
        · subst e; rw [h2, h1]; simp
        · simp only [e, decide_false]
          cases f : s.testBit k with
          | false => rfl
          | true =>
            cases g : x.testBit k with
            | false => rfl
            | true => exact absurd ((mtB_iff _ _).2 ⟨k, by rw [hyb, g]; simp [e], f⟩) hd
      · exact (mtB_iff _ _).2 ⟨j, by rw [hyb, h1]; simp [e], h2⟩
  have := b y ((ex_ext ht).1 this)
  omega
theorem trE_mem {ts : List Tq} (h : ∀ t ∈ ts, sndB t.p = true) (hl : ts.length ≤ 16) : trE ts = 0 := by
  unfold trE
  rw [if_neg (by omega), if_neg]
  rw [List.any_eq_true]
  rintro ⟨t, ht, hb⟩
  unfold badT at hb
  rw [h t ht] at hb; cases hb
theorem trE_snoc {ts : List Tq} {p : Pq} {f : Bool} (h : ∀ t ∈ ts, sndB t.p = true) (hl : ts.length < 16) (hp : sndB p = true) : trE (ts ++ [(⟨p, f⟩ : Tq)]) = 0 :=
  trE_mem (fun t ht => by
    rcases List.mem_append.1 ht with ht | ht
    · exact h t ht
    · rw [List.mem_singleton] at ht; subst ht; exact hp) (by simp; omega)
/-- A panel, by its number. -/
theorem pnK_of {p : Pq} (h : sndB p = true) : ∃ k, k < 125 ∧ p = pnK k ∧ (k : Int) = 25 * p.m + 5 * p.o + p.h := by
  unfold sndB at h
  rw [decide_eq_true_eq] at h
  obtain ⟨m, o, hh⟩ := p
  dsimp only at h ⊢
  refine ⟨(25 * m + 5 * o + hh).toNat, by omega, ?_, by omega⟩
  unfold pnK
  congr 1 <;> omega
/-- The first one of the best. -/
theorem bst_best {α : Type} (f : α → Int) (x0 : α) (l : List α) : ∀ n, n ≤ l.length → ∃ k, k ≤ n ∧ (x0 :: l)[k]? = some (bst (fun p q => decide (f q < f p)) x0 (l.take n)) ∧
    (∀ (j : Nat) (y : α), j ≤ n → (x0 :: l)[j]? = some y → f y ≤ f (bst (fun p q => decide (f q < f p)) x0 (l.take n))) ∧ ∀ (j : Nat) (y : α), j < k → (x0 :: l)[j]? = some y → f y < f (bst (fun p q => decide (f q < f p)) x0 (l.take n))
  | 0, _ => ⟨0, Nat.le_refl _, by simp [bst], fun j y hj hy => by
      obtain rfl : j = 0 := by omega
      simp at hy; subst hy; simp [bst], fun j y hj => by omega⟩
  | n + 1, hn => by
    obtain ⟨k, h1, h2, h3, h4⟩ := bst_best f x0 l n (by omega)
    obtain ⟨x, hx⟩ : ∃ x, l[n]? = some x := ⟨_, List.getElem?_eq_getElem (by omega)⟩
    rw [bst_take _ hx]
    split
    · rename_i c
      rw [decide_eq_true_eq] at c
      refine ⟨n + 1, Nat.le_refl _, by simpa using hx, fun j y hj hy => ?_, fun j y hj hy => ?_⟩
      · by_cases e : j = n + 1
        · subst e
          rw [List.getElem?_cons_succ, hx] at hy; cases hy; exact Int.le_refl _
        · have := h3 j y (by omega) hy; omega
      · have := h3 j y (by omega) hy; omega
    · rename_i c
      rw [decide_eq_true_eq] at c
      refine ⟨k, by omega, h2, fun j y hj hy => ?_, h4⟩
      by_cases e : j = n + 1
      · subst e
        rw [List.getElem?_cons_succ, hx] at hy; cases hy; omega
      · exact h3 j y (by omega) hy
theorem most_best (L : List Nat) {p : Pq} (hp : sndB p = true) : tel L p ≤ tel L (mostP L) ∧ (tel L p = tel L (mostP L) → 25 * (mostP L).m + 5 * (mostP L).o + (mostP L).h ≤ 25 * p.m + 5 * p.o + p.h) := by
  have hl : panL.tail.length = 124 := by simp [panL_len]
  obtain ⟨k, h1, h2, h3, h4⟩ := bst_best (tel L) (pnK 0) panL.tail panL.tail.length (Nat.le_refl _)
  rw [List.take_length, ← panL_cons] at h2 h3 h4
  obtain ⟨j, hj, rfl, hj2⟩ := pnK_of hp
  have hm : mostP L = pnK k := by
    have := panL_at (k := k) (by omega)
    rw [h2] at this; simpa [mostP] using this
  have hsm := pnK_snd (k := k) (by omega)
  refine ⟨h3 j _ (by omega) (panL_at hj), fun he => ?_⟩
  have hk : k ≤ j := by
    apply Classical.byContradiction
    intro hc
    have h5 : tel L (pnK j) < tel L (mostP L) := h4 j _ (by omega) (panL_at hj)
    omega
  rw [hm, ← hj2]
  unfold pnK
  dsimp only
  omega
end Go.Bl
set_option linter.unusedVariables false
namespace Go.Bl
open Go.Gl Go.Lw
/-- Some of those that failed are apart from some causes, and from each other. -/
def apP : Nat → List (Int × Nat) → Prop
  | _, [] => True
  | h, e :: r => mtB e.2 h = false ∧ apP (h ||| e.2) r
theorem aG_ge : ∀ (r : List (Int × Nat)) (b out : List Int) (h : Nat), out.length ≤ (aG r b out h).length
  | [], _, out, _ => Nat.le_refl _
  | (i, s) :: r, b, out, h => by
    cases c : mtB s h with
    | true => rw [aG_meet c]; exact aG_ge r b out h
    | false =>
      by_cases d : out.length < (aG r (b ++ [i]) (b ++ [i]) (h ||| s)).length
      · rw [aG_more c d]; have := aG_ge r b (aG r (b ++ [i]) (b ++ [i]) (h ||| s)) h; omega
      · rw [aG_same c d]; exact aG_ge r b out h
theorem aG_max : ∀ {r sel : List (Int × Nat)} {b out : List Int} {h : Nat}, sel.Sublist r → apP h sel → b.length ≤ out.length → b.length + sel.length ≤ (aG r b out h).length
  | [], sel, b, out, h, hs, ha, hb => by
    have e : sel = [] := List.sublist_nil.1 hs
    subst e; simpa [aG] using hb
  | (i, s) :: r, sel, b, out, h, hs, ha, hb => by
    cases hs with
    | cons _ hs' =>
      cases c : mtB s h with
      | true => rw [aG_meet c]; exact aG_max hs' ha hb
      | false =>
        by_cases d : out.length < (aG r (b ++ [i]) (b ++ [i]) (h ||| s)).length
        · rw [aG_more c d]; exact aG_max hs' ha (by omega)
        · rw [aG_same c d]; exact aG_max hs' ha hb
    | cons_cons _ hs' =>
      obtain ⟨c, ha'⟩ := ha
      dsimp only at c ha'
      have h1 := aG_max (b := b ++ [i]) (out := b ++ [i]) hs' ha' (Nat.le_refl _)
      have hl : (b ++ [i]).length = b.length + 1 := by simp
      rw [List.length_cons]
      by_cases d : out.length < (aG r (b ++ [i]) (b ++ [i]) (h ||| s)).length
      · rw [aG_more c d]; have := aG_ge r b (aG r (b ++ [i]) (b ++ [i]) (h ||| s)) h; omega
      · rw [aG_same c d]; have := aG_ge r b out h; omega
theorem aG_val : ∀ (r : List (Int × Nat)) (b out : List Int) (h : Nat), aG r b out h = out ∨ ∃ sel : List (Int × Nat), sel.Sublist r ∧ apP h sel ∧ aG r b out h = b ++ sel.map (·.1)
  | [], _, out, _ => .inl rfl
  | (i, s) :: r, b, out, h => by
    cases c : mtB s h with
    | true =>
      rw [aG_meet c]
      rcases aG_val r b out h with e | ⟨sel, h1, h2, h3⟩
      · exact .inl e
      · exact .inr ⟨sel, h1.cons _, h2, h3⟩
    | false =>
      by_cases d : out.length < (aG r (b ++ [i]) (b ++ [i]) (h ||| s)).length
      · rw [aG_more c d]
        right
        rcases aG_val r b (aG r (b ++ [i]) (b ++ [i]) (h ||| s)) h with e | ⟨sel, h1, h2, h3⟩
        · rw [e]
          rcases aG_val r (b ++ [i]) (b ++ [i]) (h ||| s) with e | ⟨sel, h1, h2, h3⟩
          · exact ⟨[(i, s)], (List.nil_sublist r).cons_cons _, ⟨c, trivial⟩, by rw [e]; rfl⟩
          · exact ⟨(i, s) :: sel, h1.cons_cons _, ⟨c, h2⟩, by rw [h3]; simp⟩
        · exact ⟨sel, h1.cons _, h2, h3⟩
      · rw [aG_same c d]
        rcases aG_val r b out h with e | ⟨sel, h1, h2, h3⟩
        · exact .inl e
        · exact .inr ⟨sel, h1.cons _, h2, h3⟩
theorem prR_mem : ∀ {n : Nat} {L : List Int} {i : Int} {s : Nat}, (i, s) ∈ prR n L ↔ ∃ k : Nat, L[k]? = some (s : Int) ∧ i = ((n + k : Nat) : Int)
  | n, [], i, s => by simp [prR]
  | n, x :: l, i, s => by
    have ih := prR_mem (n := n + 1) (L := l) (i := i) (s := s)
    constructor
    · intro h
      have key : (i, s) ∈ prR (n + 1) l → ∃ k : Nat, (x :: l)[k]? = some (s : Int) ∧ i = ((n + k : Nat) : Int) := fun h => by
        obtain ⟨k, h1, h2⟩ := ih.1 h
        exact ⟨k + 1, by simpa using h1, by omega⟩
      simp only [prR] at h
      split at h
      · exact key h
      · rcases List.mem_cons.1 h with h | h
        · obtain ⟨rfl, rfl⟩ := Prod.mk.inj h
          exact ⟨0, by simp; omega, by simp⟩
        · exact key h
    · rintro ⟨k, h1, h2⟩
      cases k with
      | zero =>
        simp at h1; subst h1
        simp only [prR]
        rw [if_neg (by omega)]
        exact List.mem_cons.2 (.inl (by simp [h2]))
      | succ k =>
        have := ih.2 ⟨k, by simpa using h1, by omega⟩
        simp only [prR]
        split
        · exact this
        · exact List.mem_cons_of_mem _ this
theorem prR_pw : ∀ (n : Nat) (L : List Int), (prR n L).Pairwise (fun a b => a.1 < b.1)
  | _, [] => List.Pairwise.nil
  | n, x :: l => by
    have ih := prR_pw (n + 1) l
    simp only [prR]
    split
    · exact ih
    · refine List.pairwise_cons.2 ⟨fun e he => ?_, ih⟩
      obtain ⟨i, s⟩ := e
      obtain ⟨k, _, h2⟩ := prR_mem.1 he
      dsimp only; omega
theorem sub_of : ∀ (r sel : List (Int × Nat)), r.Pairwise (fun a b => a.1 < b.1) → sel.Pairwise (fun a b => a.1 < b.1) → (∀ e ∈ sel, e ∈ r) → sel.Sublist r := by
  intro r
  induction r with
  | nil =>
    intro sel _ _ h
    cases sel with
    | nil => exact List.nil_sublist _
    | cons e sel => exact absurd (h e List.mem_cons_self) List.not_mem_nil
  | cons a r ih =>
    intro sel hr hs h
    cases sel with
    | nil => exact List.nil_sublist _
    | cons e sel =>
      have hr' := List.pairwise_cons.1 hr
      have hs' := List.pairwise_cons.1 hs
      rcases List.mem_cons.1 (h e List.mem_cons_self) with rfl | he
      · refine (ih sel hr'.2 hs'.2 fun x hx => ?_).cons_cons _
        rcases List.mem_cons.1 (h x (List.mem_cons_of_mem _ hx)) with rfl | h2
        · have := hs'.1 x hx; omega
        · exact h2
      · refine (ih (e :: sel) hr'.2 hs fun x hx => ?_).cons _
        rcases List.mem_cons.1 (h x hx) with rfl | h2
        · have h3 := hr'.1 e he
          rcases List.mem_cons.1 hx with rfl | hx
          · omega
          · have := hs'.1 x hx; omega
        · exact h2
theorem ap_suf {L l : List Int} (hd : disB L l = true) : ∀ (suf pre : List Int), l = pre ++ suf → apP (hdK L l pre.length) (suf.map fun i => (i, gtL L i))
  | [], _, _ => trivial
  | x :: suf, pre, h => by
    have hx : l[pre.length]? = some x := by rw [h]; simp
    have ih := ap_suf hd suf (pre ++ [x]) (by rw [h]; simp)
    rw [List.length_append, List.length_singleton, hdK_succ hx] at ih
    exact ⟨dis_at hd hx, ih⟩
theorem ap_at : ∀ {sel : List (Int × Nat)} {h j : Nat} {e : Int × Nat}, apP h sel → sel[j]? = some e → mtB e.2 ((sel.take j).foldl (fun h e => h ||| e.2) h) = false
  | [], _, _, _, _, he => by simp at he
  | a :: sel, h, 0, e, hp, he => by simp at he; subst he; exact hp.1
  | a :: sel, h, j + 1, e, hp, he => by
    rw [List.take_succ_cons, List.foldl_cons]
    exact ap_at hp.2 (by simpa using he)
theorem fold_map {L : List Int} : ∀ (sel : List (Int × Nat)) (h : Nat), (∀ e ∈ sel, gtL L e.1 = e.2) → (sel.map (·.1)).foldl (fun h i => h ||| gtL L i) h = sel.foldl (fun h e => h ||| e.2) h
  | [], _, _ => rfl
  | e :: sel, h, hs => by
    rw [List.map_cons, List.foldl_cons, List.foldl_cons, hs e List.mem_cons_self]
    exact fold_map sel _ fun x hx => hs x (List.mem_cons_of_mem _ hx)
theorem pr_gt {L : List Int} {i : Int} {s : Nat} (h : (i, s) ∈ prR 0 L) : gtL L i = s ∧ 0 ≤ L.getD i.toNat 0 ∧ 0 ≤ i ∧ i < (L.length : Int) := by
  obtain ⟨k, h1, rfl⟩ := prR_mem.1 h
  have hk := (List.getElem?_eq_some_iff.1 h1).1
  have e : (((0 + k : Nat) : Int)).toNat = k := by omega
  have e2 : L.getD k 0 = (s : Int) := by simp [List.getD, h1]
  refine ⟨by unfold gtL; rw [e, e2]; omega, by rw [e, e2]; omega, by omega, by omega⟩
/-- Trials are apart just if they are some of those that failed, and apart. -/
theorem ck_sel {ts : List Tq} {l : List Int} (h : trE ts = 0) : ckR ts l = 0 ↔ ∃ sel : List (Int × Nat), sel.Sublist (prR 0 (lfL ts)) ∧ apP 0 sel ∧ sel.map (·.1) = l := by
  have hll : (lfL ts).length = ts.length := by unfold lfL; rw [List.length_map]
  constructor
  · intro hc
    have h1 : lstB l ts.length = true := by
      cases c : lstB l ts.length with
      | true => rfl
      | false => rw [ckR_arg h c] at hc; cases hc
    have h2 : ngB (lfL ts) l = false := by
      cases c : ngB (lfL ts) l with
      | false => rfl
      | true => rw [ckR_range h h1 c] at hc; cases hc
    have h3 : disB (lfL ts) l = true := by
      cases c : disB (lfL ts) l with
      | true => rfl
      | false => rw [ckR_rule h h1 h2 c] at hc; cases hc
    obtain ⟨hp, hb⟩ := lstB_iff.1 h1
    refine ⟨l.map fun i => (i, gtL (lfL ts) i), sub_of _ _ (prR_pw _ _) (List.pairwise_map.2 hp) fun e he => ?_, ap_suf h3 l [] rfl, by simp [Function.comp_def]⟩
    obtain ⟨x, hx, rfl⟩ := List.mem_map.1 he
    have := hb x hx
    obtain ⟨y, hy⟩ : ∃ y, (lfL ts)[x.toNat]? = some y := ⟨_, List.getElem?_eq_getElem (by omega)⟩
    have hn := ng_at h2 hx
    have e : (lfL ts).getD x.toNat 0 = y := by simp [List.getD, hy]
    rw [e] at hn
    exact prR_mem.2 ⟨x.toNat, by unfold gtL; rw [e, hy]; congr 1; omega, by omega⟩
  · rintro ⟨sel, h1, h2, rfl⟩
    have hin : ∀ e ∈ sel, (e.1, e.2) ∈ prR 0 (lfL ts) := fun e he => h1.subset he
    have hpw : sel.Pairwise (fun a b => a.1 < b.1) := (prR_pw _ _).sublist h1
    refine ckR_ok h (lstB_iff.2 ⟨List.pairwise_map.2 hpw, fun x hx => ?_⟩) (ng_false fun x hx => ?_) (dis_true fun j x hx => ?_)
    · obtain ⟨e, he, rfl⟩ := List.mem_map.1 hx
      have := (pr_gt (hin e he)).2.2; omega
    · obtain ⟨e, he, rfl⟩ := List.mem_map.1 hx
      exact (pr_gt (hin e he)).2.1
    · rw [List.getElem?_map] at hx
      obtain ⟨e, he, rfl⟩ := Option.map_eq_some_iff.1 hx
      have he2 := List.mem_of_getElem? he
      unfold hdK
      rw [(pr_gt (hin e he2)).1, ← List.map_take, fold_map _ _ fun y hy => (pr_gt (hin y (List.mem_of_mem_take hy))).1]
      exact ap_at h2 he
theorem ap_ok {ts : List Tq} (h : trE ts = 0) : ckR ts (aG (prP ts) [] [] 0) = 0 := by
  rw [ck_sel h, prP_eq]
  rcases aG_val (prR 0 (lfL ts)) [] [] 0 with e | ⟨sel, h1, h2, h3⟩
  · exact ⟨[], List.nil_sublist _, trivial, by rw [e]; rfl⟩
  · exact ⟨sel, h1, h2, by rw [h3]; rfl⟩
theorem ap_best {ts : List Tq} {l : List Int} (h : trE ts = 0) (hl : ckR ts l = 0) : l.length ≤ (aG (prP ts) [] [] 0).length := by
  obtain ⟨sel, h1, h2, rfl⟩ := (ck_sel h).1 hl
  have := aG_max (b := []) (out := []) h1 h2 (Nat.le_refl _)
  rw [prP_eq, List.length_map]
  simpa using this
theorem nodup_le {α : Type} [DecidableEq α] : ∀ {l m : List α}, l.Nodup → (∀ x ∈ l, x ∈ m) → l.length ≤ m.length
  | [], _, _, _ => Nat.zero_le _
  | a :: l, m, hn, h => by
    have hn' := List.nodup_cons.1 hn
    have ha := h a List.mem_cons_self
    have := nodup_le (l := l) (m := m.erase a) hn'.2 fun x hx => (List.mem_erase_of_ne (fun e => by subst e; exact hn'.1 hx)).2 (h x (List.mem_cons_of_mem _ hx))
    rw [List.length_erase_of_mem ha] at this
    have := List.length_pos_of_mem ha
    rw [List.length_cons]; omega
theorem ap_bits {x : Nat} (hx : x < 32768) : ∀ {sel : List (Int × Nat)} {h : Nat}, apP h sel → (∀ e ∈ sel, mtB x e.2 = true) → ∃ b : List Int, b.Nodup ∧ b.length = sel.length ∧ ∀ j ∈ b, ∃ i : Nat, j = (i : Int) ∧ i < 15 ∧ x.testBit i = true ∧ h.testBit i = false
  | [], _, _, _ => ⟨[], List.nodup_nil, rfl, fun j hj => by cases hj⟩
  | e :: sel, h, hp, hm => by
    obtain ⟨b, h1, h2, h3⟩ := ap_bits hx hp.2 fun y hy => hm y (List.mem_cons_of_mem _ hy)
    obtain ⟨k, a1, a2⟩ := (mtB_iff _ _).1 (hm e List.mem_cons_self)
    refine ⟨(k : Int) :: b, List.nodup_cons.2 ⟨fun hk => ?_, h1⟩, by simp [h2], fun j hj => ?_⟩
    · obtain ⟨i, e1, _, _, e2⟩ := h3 _ hk
      obtain rfl : k = i := by omega
      rw [Nat.testBit_or, a2, Bool.or_true] at e2; cases e2
    · rcases List.mem_cons.1 hj with rfl | hj
      · exact ⟨k, rfl, lt15_bit hx a1, a1, mtB_no hp.1 a2⟩
      · obtain ⟨i, e1, e2, e3, e4⟩ := h3 j hj
        rw [Nat.testBit_or, Bool.or_eq_false_iff] at e4
        exact ⟨i, e1, e2, e3, e4.1⟩
/-- No explanation has fewer causes than trials that are apart are many. -/
theorem ap_hit {ts : List Tq} {l : List Int} {x : Nat} (h : trE ts = 0) (hl : ckR ts l = 0) (hx : Ex (clA ts) (lsL ts) x) : l.length ≤ cnt x := by
  obtain ⟨sel, h1, h2, rfl⟩ := (ck_sel h).1 hl
  obtain ⟨b, b1, b2, b3⟩ := ap_bits hx.1 h2 fun e he => hx.2.2 _ (by
    have := h1.subset he
    rw [← prP_eq] at this
    exact (List.of_mem_zip this).2)
  rw [List.length_map, ← b2]
  exact nodup_le b1 fun j hj => by
    obtain ⟨i, rfl, i1, i2, _⟩ := b3 j hj
    exact bitL_mem.2 ⟨i, i1, rfl, i2⟩
end Go.Bl
set_option linter.unusedVariables false
namespace Go.Bl
open Go.Gl Go.Lw
def swI (i : Nat) : Nat := if i < 5 then i + 5 else if i < 10 then i - 5 else i
def swN (A : Nat) : Nat := mkM (fun i => A.testBit (swI i)) 15
def swP (p : Pq) : Pq := ⟨p.o, p.m, p.h⟩
def swT (t : Tq) : Tq := ⟨swP t.p, t.f⟩
theorem swI_lt {i : Nat} (h : i < 15) : swI i < 15 := by unfold swI; split <;> (try split) <;> omega
theorem swI_swI (i : Nat) : swI (swI i) = i := by unfold swI; repeat (split <;> try omega)
theorem swN_bit (A i : Nat) : (swN A).testBit i = (decide (i < 15) && A.testBit (swI i)) := mkM_bit _ _ _
theorem swN_lt (A : Nat) : swN A < 32768 := by
  refine Nat.lt_pow_two_of_testBit (n := 15) _ fun i hi => ?_
  rw [swN_bit]; simp; omega
theorem swN_swN {A : Nat} (h : A < 32768) : swN (swN A) = A := by
  refine Nat.eq_of_testBit_eq fun i => ?_
  rw [swN_bit, swN_bit, swI_swI]
  by_cases c : i < 15
  · have := swI_lt c; simp [c, this]
  · cases d : A.testBit i with
    | false => simp
    | true => exact absurd (lt15_bit h d) c
theorem cnt_sum (A : Nat) : cnt A = (if A.testBit 0 = true then 1 else 0) + (if A.testBit 1 = true then 1 else 0) + (if A.testBit 2 = true then 1 else 0) + (if A.testBit 3 = true then 1 else 0) + (if A.testBit 4 = true then 1 else 0) + (if A.testBit 5 = true then 1 else 0) + (if A.testBit 6 = true then 1 else 0) + (if A.testBit 7 = true then 1 else 0) + (if A.testBit 8 = true then 1 else 0) + (if A.testBit 9 = true then 1 else 0) + (if A.testBit 10 = true then 1 else 0) + (if A.testBit 11 = true then 1 else 0) + (if A.testBit 12 = true then 1 else 0) + (if A.testBit 13 = true then 1 else 0) + (if A.testBit 14 = true then 1 else 0) := by
  have h0 : cntK A 0 = 0 := rfl
  unfold cnt
  rw [cntK_succ, cntK_succ, cntK_succ, cntK_succ, cntK_succ, cntK_succ, cntK_succ, cntK_succ, cntK_succ, cntK_succ, cntK_succ, cntK_succ, cntK_succ, cntK_succ, cntK_succ, h0, Nat.zero_add]
theorem cnt_sw (A : Nat) : cnt (swN A) = cnt A := by
  have hb : ∀ i j, i < 15 → swI i = j → (swN A).testBit i = A.testBit j := fun i j hi e => by rw [swN_bit, e]; simp [hi]
  rw [cnt_sum, cnt_sum, hb 0 5 (by decide) rfl, hb 1 6 (by decide) rfl, hb 2 7 (by decide) rfl, hb 3 8 (by decide) rfl, hb 4 9 (by decide) rfl, hb 5 0 (by decide) rfl, hb 6 1 (by decide) rfl, hb 7 2 (by decide) rfl, hb 8 3 (by decide) rfl, hb 9 4 (by decide) rfl, hb 10 10 (by decide) rfl, hb 11 11 (by decide) rfl, hb 12 12 (by decide) rfl, hb 13 13 (by decide) rfl, hb 14 14 (by decide) rfl]
  generalize (if A.testBit 0 = true then 1 else 0) = a0
  generalize (if A.testBit 1 = true then 1 else 0) = a1
  generalize (if A.testBit 2 = true then 1 else 0) = a2
  generalize (if A.testBit 3 = true then 1 else 0) = a3
  generalize (if A.testBit 4 = true then 1 else 0) = a4
  generalize (if A.testBit 5 = true then 1 else 0) = a5
  generalize (if A.testBit 6 = true then 1 else 0) = a6
  generalize (if A.testBit 7 = true then 1 else 0) = a7
  generalize (if A.testBit 8 = true then 1 else 0) = a8
  generalize (if A.testBit 9 = true then 1 else 0) = a9
  omega
theorem snd_sw {p : Pq} (h : sndB p = true) : sndB (swP p) = true := by
  unfold sndB at *; rw [decide_eq_true_eq] at *; unfold swP; dsimp only; omega
theorem cb_sw {p : Pq} (h : sndB p = true) (i : Nat) : (cbN (swP p)).testBit i = (cbN p).testBit (swI i) := by
  have h1 := fun x hx => (caL_in h x hx).1
  have h2 := fun x hx => (caL_in (snd_sw h) x hx).1
  unfold cbN
  rw [Bool.eq_iff_iff, btL_bit h1, btL_bit h2]
  unfold sndB at h
  rw [decide_eq_true_eq] at h
  unfold caL swP swI
  simp only [List.mem_cons, List.not_mem_nil, or_false]
  split
  · omega
  · split <;> omega
theorem mt_sw {p : Pq} (h : sndB p = true) {x : Nat} (hx : x < 32768) : mtB (swN x) (cbN (swP p)) = mtB x (cbN p) := by
  rw [Bool.eq_iff_iff, mtB_iff, mtB_iff]
  constructor
  · rintro ⟨i, a, b⟩
    rw [swN_bit, Bool.and_eq_true] at a
    rw [cb_sw h] at b
    exact ⟨swI i, a.2, b⟩
  · rintro ⟨i, a, b⟩
    have hi := swI_lt (lt15_bit hx a)
    exact ⟨swI i, by rw [swN_bit, swI_swI, a]; simp [hi], by rw [cb_sw h, swI_swI]; exact b⟩
theorem ext_sw {ts ys : List Tq} (ht : ∀ t ∈ ts, sndB t.p = true) (hm : ∀ t, t ∈ ys ↔ ∃ u ∈ ts, t = swT u) {x : Nat} (h : ExT ts x) : ExT ys (swN x) := by
  refine ⟨swN_lt _, fun t htm => ?_⟩
  obtain ⟨u, hu, rfl⟩ := (hm t).1 htm
  show mtB (swN x) (cbN (swP u.p)) = u.f
  rw [mt_sw (ht u hu) h.1]
  exact h.2 u hu
theorem swT_swT (t : Tq) : swT (swT t) = t := rfl
theorem sw_mem {ts ys : List Tq} (hm : ∀ t, t ∈ ys ↔ ∃ u ∈ ts, t = swT u) (t : Tq) : t ∈ ts ↔ ∃ u ∈ ys, t = swT u := by
  constructor
  · intro h; exact ⟨swT t, (hm _).2 ⟨t, h, rfl⟩, rfl⟩
  · rintro ⟨u, hu, rfl⟩
    obtain ⟨v, hv, rfl⟩ := (hm u).1 hu
    exact hv
theorem sw_snd {ts ys : List Tq} (ht : ∀ t ∈ ts, sndB t.p = true) (hm : ∀ t, t ∈ ys ↔ ∃ u ∈ ts, t = swT u) : ∀ t ∈ ys, sndB t.p = true := fun t h => by
  obtain ⟨u, hu, rfl⟩ := (hm t).1 h
  exact snd_sw (ht u hu)
theorem alt_sw {ts ys : List Tq} (ht : ∀ t ∈ ts, sndB t.p = true) (hm : ∀ t, t ∈ ys ↔ ∃ u ∈ ts, t = swT u) {L M : List Nat} (hL : AlT ts L) (hM : AlT ys M) {x : Nat} (hx : x ∈ L) : swN x ∈ M := by
  obtain ⟨a, b⟩ := (hL.mem x).1 hx
  refine (hM.mem _).2 ⟨ext_sw ht hm a, fun y hy => ?_⟩
  have := b _ (ext_sw (sw_snd ht hm) (sw_mem hm) hy)
  rw [cnt_sw] at *
  exact this
theorem alt_len {ts ys : List Tq} (ht : ∀ t ∈ ts, sndB t.p = true) (hm : ∀ t, t ∈ ys ↔ ∃ u ∈ ts, t = swT u) {L M : List Nat} (hL : AlT ts L) (hM : AlT ys M) : L.length ≤ M.length := by
  have hlt : ∀ x ∈ L, x < 32768 := fun x hx => ((hL.mem x).1 hx).1.1
  have hn : (L.map swN).Nodup := List.pairwise_map.2 (hL.nod.imp_of_mem fun {a b} ha hb h e => h (by rw [← swN_swN (hlt a ha), ← swN_swN (hlt b hb), e]))
  have := nodup_le (m := M) hn fun y hy => by
    obtain ⟨x, hx, rfl⟩ := List.mem_map.1 hy
    exact alt_sw ht hm hL hM hx
  rwa [List.length_map] at this
/-- The list that is turned, by three parts. -/
def tu1 (l : List Int) : List Int := (l.filter fun x => decide (5 ≤ x ∧ x < 10)).map (· - 5)
def tu2 (l : List Int) : List Int := (l.filter fun x => decide (x < 5)).map (· + 5)
def tu3 (l : List Int) : List Int := l.filter fun x => decide (10 ≤ x)
theorem tu_eq (A : Nat) : tu1 (bitL A 15) ++ tu2 (bitL A 15) ++ tu3 (bitL A 15) = bitL (swN A) 15 := by
  have hp := bitL_lt A 15
  have p1 : (tu1 (bitL A 15)).Pairwise (· < ·) := List.pairwise_map.2 ((hp.filter _).imp fun {a b} h => by omega)
  have p2 : (tu2 (bitL A 15)).Pairwise (· < ·) := List.pairwise_map.2 ((hp.filter _).imp fun {a b} h => by omega)
  have p3 : (tu3 (bitL A 15)).Pairwise (· < ·) := hp.filter _
  have m1 : ∀ x : Int, x ∈ tu1 (bitL A 15) ↔ ∃ i : Nat, i < 5 ∧ x = (i : Int) ∧ A.testBit (i + 5) = true := fun x => by
    unfold tu1
    rw [List.mem_map]
    constructor
    · rintro ⟨y, hy, rfl⟩
      obtain ⟨h1, h2⟩ := List.mem_filter.1 hy
      rw [decide_eq_true_eq] at h2
      obtain ⟨k, hk, rfl, hb⟩ := bitL_mem.1 h1
      exact ⟨k - 5, by omega, by omega, by rw [show k - 5 + 5 = k by omega]; exact hb⟩
    · rintro ⟨i, hi, rfl, hb⟩
      exact ⟨((i + 5 : Nat) : Int), List.mem_filter.2 ⟨bitL_mem.2 ⟨i + 5, by omega, rfl, hb⟩, by rw [decide_eq_true_eq]; omega⟩, by omega⟩
  have m2 : ∀ x : Int, x ∈ tu2 (bitL A 15) ↔ ∃ i : Nat, i < 5 ∧ x = ((i + 5 : Nat) : Int) ∧ A.testBit i = true := fun x => by
    unfold tu2
    rw [List.mem_map]
    constructor
    · rintro ⟨y, hy, rfl⟩
      obtain ⟨h1, h2⟩ := List.mem_filter.1 hy
      rw [decide_eq_true_eq] at h2
      obtain ⟨k, hk, rfl, hb⟩ := bitL_mem.1 h1
      exact ⟨k, by omega, by omega, hb⟩
    · rintro ⟨i, hi, rfl, hb⟩
      exact ⟨(i : Int), List.mem_filter.2 ⟨bitL_mem.2 ⟨i, by omega, rfl, hb⟩, by rw [decide_eq_true_eq]; omega⟩, by omega⟩
  have m3 : ∀ x : Int, x ∈ tu3 (bitL A 15) ↔ ∃ i : Nat, 10 ≤ i ∧ i < 15 ∧ x = (i : Int) ∧ A.testBit i = true := fun x => by
    unfold tu3
    rw [List.mem_filter, decide_eq_true_eq, bitL_mem]
    constructor
    · rintro ⟨⟨i, h1, rfl, h2⟩, h3⟩; exact ⟨i, by omega, h1, rfl, h2⟩
    · rintro ⟨i, h1, h2, rfl, h3⟩; exact ⟨⟨i, h2, rfl, h3⟩, by omega⟩
  have hpw : (tu1 (bitL A 15) ++ tu2 (bitL A 15) ++ tu3 (bitL A 15)).Pairwise (· < ·) := by
    refine List.pairwise_append.2 ⟨List.pairwise_append.2 ⟨p1, p2, fun x hx y hy => ?_⟩, p3, fun x hx y hy => ?_⟩
    · obtain ⟨i, h1, rfl, _⟩ := (m1 x).1 hx
      obtain ⟨j, h2, rfl, _⟩ := (m2 y).1 hy
      omega
    · obtain ⟨j, h2, _, rfl, _⟩ := (m3 y).1 hy
      rcases List.mem_append.1 hx with hx | hx
      · obtain ⟨i, h1, rfl, _⟩ := (m1 x).1 hx; omega
      · obtain ⟨i, h1, rfl, _⟩ := (m2 x).1 hx; omega
  have hmem : ∀ x : Int, x ∈ tu1 (bitL A 15) ++ tu2 (bitL A 15) ++ tu3 (bitL A 15) ↔ x ∈ bitL (swN A) 15 := fun x => by
    rw [List.mem_append, List.mem_append, m1, m2, m3, bitL_mem]
    constructor
    · rintro ((⟨i, h1, rfl, h2⟩ | ⟨i, h1, rfl, h2⟩) | ⟨i, h0, h1, rfl, h2⟩)
      · exact ⟨i, by omega, rfl, by rw [swN_bit]; simp only [swI, if_pos h1, h2]; simp; omega⟩
      · exact ⟨i + 5, by omega, rfl, by rw [swN_bit]; simp only [swI, if_neg (show ¬ i + 5 < 5 by omega), if_pos (show i + 5 < 10 by omega), Nat.add_sub_cancel, h2]; simp; omega⟩
      · exact ⟨i, h1, rfl, by rw [swN_bit]; simp only [swI, if_neg (show ¬ i < 5 by omega), if_neg (show ¬ i < 10 by omega), h2]; simp; omega⟩
    · rintro ⟨i, h1, rfl, h2⟩
      rw [swN_bit, Bool.and_eq_true] at h2
      have h3 := h2.2
      unfold swI at h3
      by_cases a : i < 5
      · rw [if_pos a] at h3; exact .inl (.inl ⟨i, a, rfl, h3⟩)
      · rw [if_neg a] at h3
        by_cases b : i < 10
        · rw [if_pos b] at h3; exact .inl (.inr ⟨i - 5, by omega, by omega, h3⟩)
        · rw [if_neg b] at h3; exact .inr ⟨i, by omega, h1, rfl, h3⟩
  have hb : ∀ x ∈ tu1 (bitL A 15) ++ tu2 (bitL A 15) ++ tu3 (bitL A 15), 0 ≤ x ∧ x < ((15 : Nat) : Int) := fun x hx => by
    obtain ⟨i, h1, rfl, _⟩ := bitL_mem.1 ((hmem x).1 hx); omega
  rw [← bitL_btL hpw hb]
  refine bitL_ext fun i hi => ?_
  rw [Bool.eq_iff_iff, btL_bit fun x hx => (hb x hx).1, hmem, bitL_mem]
  constructor
  · rintro ⟨k, _, h1, h2⟩
    obtain rfl : i = k := by omega
    exact h2
  · intro h; exact ⟨i, hi, rfl, h⟩
theorem rot_mem {ts xs : List Tq} {n a : Nat} (hn : ts.length = n) (h0 : 0 < n) (hl : xs.length = n) (hx : ∀ i, i < n → xs[i]? = ts[(i + a) % n]?) (t : Tq) : t ∈ xs ↔ t ∈ ts := by
  constructor
  · intro h
    obtain ⟨i, hi⟩ := List.getElem?_of_mem h
    have hlt := (List.getElem?_eq_some_iff.1 hi).1
    rw [hx i (by omega)] at hi
    exact List.mem_of_getElem? hi
  · intro h
    obtain ⟨j, hj⟩ := List.getElem?_of_mem h
    have hlt := (List.getElem?_eq_some_iff.1 hj).1
    have hi : (j + (n - a % n)) % n < n := Nat.mod_lt _ h0
    have he : ((j + (n - a % n)) % n + a) % n = j := by
      rw [Nat.mod_add_mod]
      have h1 : a % n < n := Nat.mod_lt _ h0
      have h2 := Nat.div_add_mod a n
      have h3 : j + (n - a % n) + a = j + n * (a / n + 1) := by
        rw [Nat.mul_add, Nat.mul_one]; omega
      rw [h3, Nat.add_mul_mod_self_left, Nat.mod_eq_of_lt (by omega)]
    have := hx _ hi
    rw [he, hj] at this
    exact List.mem_of_getElem? this
end Go.Bl
set_option linter.unusedVariables false
namespace Go.Bl
open Go.Gl Go.Lw
theorem fil_take {P : Nat → Bool} {L : List Nat} {k z : Nat} (h : L[k]? = some z) : (L.take (k + 1)).filter P = (L.take k).filter P ++ (if P z = true then [z] else []) := by
  rw [take_snoc' h, List.filter_append]
  by_cases c : P z = true
  · simp [c]
  · simp [c]
theorem mt_dec (x c : Nat) : decide (((x &&& c : Nat) : Int) ≠ 0) = mtB x c := by
  unfold mtB
  rw [decide_eq_decide]
  omega
end Go.Bl
namespace Go.Proofs.Ytfcpmblmklibjaa
open Go.Lw Go.Gl Go.Bl Go.RowKit

theorem als_alt {ts : List Tq} {L : List Nat} (h0 : trE ts = 0) (h : AlS ts L) : AlT ts L := by
  obtain ⟨_, ht⟩ := trE_ok h0
  refine ⟨h.nod, h.ord, fun x => ?_⟩
  rw [h.mem, ex_ext ht]
  constructor
  · rintro ⟨a, b⟩; exact ⟨a, fun y hy => b y ((ex_ext ht).2 hy)⟩
  · rintro ⟨a, b⟩; exact ⟨a, fun y hy => b y ((ex_ext ht).1 hy)⟩
theorem alE_some {ts : List Tq} (h0 : alE ts = 0) : ∃ x, ExT ts x := by
  obtain ⟨h1, hz⟩ := alE_zero h0
  obtain ⟨_, ht⟩ := trE_ok h1
  have hlt := ls_lt (no := clA ts) ht ts.length
  have hne : ∀ s ∈ lsL ts, s ≠ 0 ∧ s < 32768 := fun s hs => ⟨fun e => by rw [List.any_eq_false] at hz; exact hz s hs (by rw [e]; rfl), hlt s hs⟩
  obtain ⟨x0, hx0⟩ := gsK_ex hne _ (Nat.le_refl _)
  exact ⟨x0, (ex_ext ht).1 (gs_ex (ls_no ht) hx0)⟩
theorem alE_26 {ts : List Tq} (h0 : trE ts = 0) (h : alE ts ≠ 0) : alE ts = 26 ∧ (lsL ts).any (· == 0) = true := by
  cases c : (lsL ts).any (· == 0) with
  | true => exact ⟨alE_z h0 c, rfl⟩
  | false => exact absurd (alE_ok h0 c) h
theorem alE_none {ts : List Tq} (h0 : trE ts = 0) (h : alE ts ≠ 0) (x : Nat) : ¬ ExT ts x := fun hx => by
  obtain ⟨_, ht⟩ := trE_ok h0
  obtain ⟨s, hs, h2⟩ := List.any_eq_true.1 (alE_26 h0 h).2
  have := ((ex_ext ht).2 hx).2.2 s hs
  rw [beq_iff_eq] at h2
  subst h2
  simp [mtB] at this
theorem alE_ext {ts : List Tq} (h0 : trE ts = 0) : alE ts = 0 ↔ ∃ x, ExT ts x :=
  ⟨alE_some, fun ⟨x, hx⟩ => by
    apply Classical.byContradiction
    intro h; exact alE_none h0 h x hx⟩
theorem lsL_ne {ts : List Tq} (h : alE ts = 0) : ∀ s ∈ lsL ts, s ≠ 0 := fun s hs e => by
  have hz := (alE_zero h).2
  rw [List.any_eq_false] at hz
  exact hz s hs (by rw [e]; rfl)
/-- What is given is an explanation. -/
theorem giv_ex {ts : List Tq} {A : Nat} (h : alE ts = 0) (h1 : A < 32768) (h2 : mtB A (clA ts) = false) (h3 : ∀ s ∈ lsL ts, s ≠ 0 → mtB A s = true) : Ex (clA ts) (lsL ts) A := ⟨h1, h2, fun s hs => h3 s hs (lsL_ne h s hs)⟩
theorem cc_ex {ts : List Tq} {A : Nat} (h : trE ts = 0) (hA : Ex (clA ts) (lsL ts) A) : ccR ts (bitL A 15) = 0 := by
  have hb : btL (bitL A 15) = A := btL_bitL (n := 15) hA.1
  obtain ⟨a, b⟩ := (ex_iff ts hA.1).2 hA
  refine ccR_ok h (bit_lst A 15) ?_ (by rw [hb]; exact b)
  rw [hb]
  unfold mtB at a
  rw [decide_eq_false_iff_not] at a
  exact Classical.byContradiction a
theorem cc_no {ts : List Tq} {A : Nat} (h : trE ts = 0) (h2 : alE ts ≠ 0) (hA : A < 32768) : ccR ts (bitL A 15) ≠ 0 := fun hc => by
  have hb : btL (bitL A 15) = A := btL_bitL (n := 15) hA
  by_cases h3 : btL (bitL A 15) &&& clA ts ≠ 0
  · rw [ccR_rule h (bit_lst A 15) h3] at hc; cases hc
  · cases c : exB (lfL ts) (btL (bitL A 15)) with
    | false => rw [ccR_boil h (bit_lst A 15) (Classical.byContradiction h3) c] at hc; cases hc
    | true =>
      rw [hb] at c h3
      have : mtB A (clA ts) = false := by unfold mtB; rw [decide_eq_false_iff_not]; exact h3
      have hx := (ex_iff ts hA).1 ⟨this, c⟩
      obtain ⟨_, ht⟩ := trE_ok h
      exact alE_none h h2 A ((ex_ext ht).1 hx)
theorem cc_any {ts : List Tq} (h : trE ts = 0) (h2 : alE ts ≠ 0) (N : Nat) : ccR ts (bitL N 15) ≠ 0 := by
  have hb : ∀ x ∈ bitL N 15, 0 ≤ x ∧ x < ((15 : Nat) : Int) := fun y hy => by
    obtain ⟨i, h1, rfl, _⟩ := bitL_mem.1 hy; omega
  rw [← bitL_btL (bitL_lt N 15) hb]
  exact cc_no h h2 (btL_lt (n := 15) hb)
/-- The first trial that cannot be explained. -/
theorem un_ex {ts : List Tq} (h0 : trE ts = 0) (h : alE ts ≠ 0) : ∃ (m : Nat) (t : Tq), unR ts = ((m : Int), 0) ∧ ts[m]? = some t ∧ t.f = true ∧ clrB (cbN t.p) (clA ts) = 0 := by
  have h1 := (alE_26 h0 h).2
  rw [← lf_zero, List.any_eq_true] at h1
  obtain ⟨x, hx, hx0⟩ := h1
  cases c : uzL (lfL ts) with
  | none =>
    unfold uzL at c
    rw [List.findIdx?_eq_none_iff] at c
    have := c x hx
    rw [hx0] at this; cases this
  | some m =>
    unfold uzL at c
    obtain ⟨hm, h2, _⟩ := List.findIdx?_eq_some_iff_getElem.1 c
    rw [decide_eq_true_eq] at h2
    have hll : (lfL ts).length = ts.length := by unfold lfL; rw [List.length_map]
    obtain ⟨t, ht⟩ : ∃ t, ts[m]? = some t := ⟨_, List.getElem?_eq_getElem (by omega)⟩
    have h3 := lf_at ht
    rw [List.getElem?_eq_getElem hm, h2] at h3
    have h4 : lfI (clA ts) t = 0 := (Option.some.inj h3).symm
    unfold lfI at h4
    split at h4
    · rename_i hf
      exact ⟨m, t, unR_some h0 c, ht, hf, by omega⟩
    · cases h4
theorem un_no {ts : List Tq} (h : alE ts = 0) : unR ts = (0, 5) := by
  obtain ⟨h0, hz⟩ := alE_zero h
  rw [← lf_zero, List.any_eq_false] at hz
  refine unR_none h0 ?_
  unfold uzL
  rw [List.findIdx?_eq_none_iff]
  intro x hx
  have := hz x hx
  simpa using this
theorem clR_eq {ts : List Tq} (h : trE ts = 0) : clR ts = bitL (clA ts) 15 := by unfold clR; rw [if_pos h]
theorem clR_in {ts : List Tq} (h : trE ts = 0) : ∀ x ∈ clR ts, 0 ≤ x ∧ x < 15 := fun x hx => by
  rw [clR_eq h] at hx
  obtain ⟨i, h1, rfl, _⟩ := bitL_mem.1 hx; omega
theorem clR_bt {ts : List Tq} (h : trE ts = 0) : btL (clR ts) = clA ts := by
  rw [clR_eq h]; exact btL_bitL (n := 15) (clN_lt (trE_ok h).2 _)
theorem apR_eq {ts : List Tq} (h : trE ts = 0) : apR ts = aG (prP ts) [] [] 0 := by unfold apR; rw [if_pos h]
theorem SL.at {V : View} {v : Value} {L : List Nat} (h : SL V v (bL L)) : ∃ (qs : List (Option Addr × Nat × Nat)) (a : Option Addr) (c : Nat), v = .slice a qs.length c ∧ Sl V sle 1 (.slice a qs.length c) qs ∧ qs.length = L.length ∧ ∀ (i : Nat) (q : Option Addr × Nat × Nat) (x : Nat), qs[i]? = some q → L[i]? = some x → SlI V (.slice q.1 q.2.1 q.2.2) (bitL x 15) := by
  obtain ⟨qs, hq, hql, hqs⟩ := h
  obtain ⟨a, c, rfl, _⟩ := id hq
  exact ⟨qs, a, c, rfl, hq, by rw [hql, bL_len], fun i q x h1 h2 => hqs i q _ h1 (bL_at h2)⟩
theorem bit_in (x : Nat) : ∀ y ∈ bitL x 15, 0 ≤ y ∧ y < 15 := fun y hy => by
  obtain ⟨i, h1, rfl, _⟩ := bitL_mem.1 hy; omega
theorem SL.of {V : View} {v : Value} {fl : List Nat} (qs : List (Option Addr × Nat × Nat)) (hq : Sl V sle 1 v qs) (hl : qs.length = fl.length) (h : ∀ (i : Nat) (q : Option Addr × Nat × Nat) (x : Nat), qs[i]? = some q → fl[i]? = some x → SlI V (.slice q.1 q.2.1 q.2.2) (bitL x 15)) : SL V v (bL fl) :=
  ⟨qs, hq, by rw [bL_len, hl], fun i q l h1 h2 => by
    unfold bL at h2
    rw [List.getElem?_map] at h2
    obtain ⟨x, hx, rfl⟩ := Option.map_eq_some_iff.1 h2
    exact h i q x h1 hx⟩
theorem bit_val (A k : Nat) : ((A >>> k &&& 1 : Nat) : Int) = if A.testBit k = true then 1 else 0 := by
  have h := bit_iff A k
  have hl : A >>> k &&& 1 ≤ 1 := Nat.and_le_right
  split
  · rename_i c; exact h.2 c
  · rename_i c
    have : ((A >>> k &&& 1 : Nat) : Int) ≠ 1 := fun e => c (h.1 e)
    omega
theorem panelP_f (p : Pq) (V : View) : Fnc Try.prog 44 [iv p.m, iv p.o, iv p.h] V fun r _ => r = pqv p := panel_f p.m p.o p.h V
/-- The numbers of a panel, by one number. -/
theorem digs {y : Int} (hy : 0 ≤ y ∧ y ≤ 255) : (0 ≤ y.tmod 5 ∧ y.tmod 5 ≤ 4) ∧ (0 ≤ (y.tdiv 5).tmod 5 ∧ (y.tdiv 5).tmod 5 ≤ 4) ∧ (0 ≤ (y.tdiv 25).tmod 5 ∧ (y.tdiv 25).tmod 5 ≤ 4) ∧ Fit (y.tdiv 5) ∧ Fit (y.tdiv 25) := by
  have a := Int.tmod_nonneg 5 hy.1
  have b := Int.tmod_lt_of_pos y (b := 5) (by decide)
  have e1 : y.tdiv 5 = y / 5 := Int.tdiv_eq_ediv_of_nonneg hy.1
  have e2 : y.tdiv 25 = y / 25 := Int.tdiv_eq_ediv_of_nonneg hy.1
  have c := Int.tmod_nonneg (a := y.tdiv 5) 5 (by omega)
  have d := Int.tmod_lt_of_pos (y.tdiv 5) (b := 5) (by decide)
  have e := Int.tmod_nonneg (a := y.tdiv 25) 5 (by omega)
  have f := Int.tmod_lt_of_pos (y.tdiv 25) (b := 5) (by decide)
  exact ⟨⟨a, by omega⟩, ⟨c, by omega⟩, ⟨e, by omega⟩, Fit.of (by omega) (by omega), Fit.of (by omega) (by omega)⟩
theorem mt_val (x : Nat) (p : Pq) : ((x &&& cbN p : Nat) : Int) ≠ 0 ↔ mtB (cbN p) x = true := by
  rw [mtB_symm]
  unfold mtB
  rw [decide_eq_true_eq]
  omega
theorem bt_bit {x : Nat} (h : x < 32768) : btL (bitL x 15) = x := btL_bitL (n := 15) h
end Go.Proofs.Ytfcpmblmklibjaa
set_option linter.unusedVariables false
namespace Go.Lw
open Go.ChangeShapes Go.WideShapes Go.ChangeAt Go.RowKit Go.Joins Go.Deep

section
variable {H : Type} {enc : TypeId × Value → H} {P : Program} {W W' : World}

theorem weights_app : ∀ (ts us : List TypeId) (ds : List (DataW H)), ds.length = ts.length → DataW.weightsEach P (ts ++ us) (ds ++ []) = DataW.weightsEach P ts ds
  | [], us, [], _ => by cases us <;> simp [DataW.weightsEach]
  | t :: ts, us, d :: ds, h => by
    have ih := weights_app ts us ds (by simpa using h)
    rw [List.cons_append, List.cons_append, DataW.weightsEach, DataW.weightsEach, ih]
/-- A law: the call returns true, and what was there stays as it was. The walk is told that nothing that came in takes more bytes than there are addresses. -/
theorem law_lift2 {C : Checked} {F : FuncId} {fn : Func} {tb : TypeId} {os : Os} {s : ChangeSpec} {conds : List PathCond} (hs : ∀ ds : List (DataW H), ds.length = fn.params.size → s.fn H (ds ++ []) = { results := [.lit (.bool true)], args := ds })
    (hvars : s.vars = []) (hres : fn.resultTypes = #[tb]) (htb : C.prog.underlying tb = some .bool) (hl : laidOutB C.prog = true) (hts : (fn.params.toList.all fun t => C.prog.readableRec t && decide (t < C.prog.types.size)) = true)
    (own : ownKnob C.prog.godebug = none) (started : os.Started) (noInit : C.prog.inits.idxOf? F = none) (hfn : C.prog.funcs[F]? = some fn)
    (witness : ∃ (w : World) (tape : Tape) (i : Input), w.os = os ∧ (w.forCall tape i).Shaped C.prog ∧ i.vars = [] ∧ Input.okWide C.prog (w.forCall tape i) .any w.heap.size F i ∧
      s.pre6 enc C.prog fn conds false (w.forCall tape i).memory i.args ∧ ({} : Assume).holds C.prog (lone (Frame.enter C.prog F i.args .normal) [] (w.forCall tape i)))
    (walk : ∀ (W : World) (base : Nat) (args : Array Value) (ds : List (DataW H)) (ps : List MemPlace), (∀ (j : Nat) t v, fn.params[j]? = some t → args[j]? = some v → Value.okWide C.prog W .any base t v) →
      (DataW.weightsEach C.prog fn.params.toList ds).all (· ≤ reachBytes) = true →
      DataW.TrodAll enc C.prog W 0 (fun _ => true) true fn.params.toList args.toList ds ps → ∃ l : List Value, args = l.toArray ∧ Fnc C.prog F l (hp W) fun v _ => v = .bool true) :
    ReturnsInHanded {} C os F .any (s.pre6 enc C.prog fn conds false) (s.post enc C.prog fn false true false false) := by
  refine returnsInHanded_of_change_sized (C := C) own started noInit hfn witness ?_
  intro W base args ds gs before hval hW _ hwt _
  have hlt := hW.lt
  have hW' := hW
  obtain ⟨p, q, hA, hV, rfl, hfz, hnd⟩ := hW
  rw [hvars] at hV
  obtain ⟨rfl, rfl⟩ := trodVars_none hV
  have hlen : ds.length = fn.params.size := by
    have key : ∀ (ts : List TypeId) (vs : List Value) (ds : List (DataW H)) (ps : List MemPlace), DataW.TrodAll enc C.prog W 0 (fun _ => true) true ts vs ds ps → ds.length = ts.length := by
      intro ts
      induction ts with
      | nil => intro vs ds ps h; obtain ⟨_, rfl, _⟩ := trodAll_nil h; rfl
      | cons t ts ih => intro vs ds ps h; obtain ⟨v, vs', d, ds', p, q, rfl, rfl, rfl, h0, h1⟩ := trodAll_cons h; simp [ih _ _ _ h1]
    simpa using key _ _ _ _ hA
  rw [weights_app _ _ _ (by simpa using hlen)] at hwt
  obtain ⟨l, rfl, hF⟩ := walk W base args ds p hval hwt hA
  refine (hF W (Le.refl _)).mono fun e W' ⟨v, V', he, hb, _, _, _, hv⟩ => ?_
  subst hv
  refine ⟨_, he, ds, [], p ++ [], [], p, [], hW', ?_, ?_, ?_, Below.frame hb _, fun h => by cases h⟩
  · rw [hs ds hlen, hres]
    exact trodAll_mk1 (shut_bool htb true)
  · rw [hs ds hlen]
    exact stays_all hl hb _ _ _ _ hts (fun x hx => hlt x (List.mem_append_left _ hx)) hA
  · rw [hs ds hlen, hvars]
    exact rfl

variable {base : Nat} {spare : Nat → Bool} {held : Bool}
/-- How long a slice that came in can be. -/
theorem slice_weight {T E : TypeId} {fuel : Nat} {a : Option Addr} {l c : Nat} {x : DataW H × List MemPlace} (hT : P.underlying T = some (.slice E)) (h : DataW.trod enc P W base spare held fuel T [.slice a l c] = some x)
    (hw : (x.1.weights P T).all (· ≤ reachBytes) = true) : l * P.bytesOf E ≤ reachBytes := by
  rcases open_slice hT h with ⟨h0, _⟩ | ⟨b, len, cap, m, n, D, Pl, h0, _, hlc, hcm, hm, hx, _⟩
  · simp only [List.cons.injEq, and_true, Value.slice.injEq] at h0
    rw [h0.2.1, Nat.zero_mul]; exact Nat.zero_le _
  · simp only [List.cons.injEq, and_true, Value.slice.injEq] at h0
    obtain ⟨_, rfl, _⟩ := h0
    rw [hx] at hw
    simp only [DataW.weights, hT, List.all_cons, Bool.and_eq_true, decide_eq_true_eq] at hw
    have := hw.1
    rw [List.length_map, List.length_range] at this
    exact Nat.le_trans (Nat.mul_le_mul_right _ (Nat.le_add_right _ _)) this
end
end Go.Lw
