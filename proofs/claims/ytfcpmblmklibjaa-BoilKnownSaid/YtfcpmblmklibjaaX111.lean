/- The examples of the chapter: a closed statement. No condition. -/
import Derived.Test.YtfcpmblmklibjaaB6
set_option linter.unusedVariables false
set_option linter.unusedSimpArgs false
set_option linter.unusedSectionVars false
set_option linter.unusedVariables false
namespace Go.Bl
open Go.Gl Go.Lw
theorem kN0 : trE [] = 0 := by decide +kernel
theorem kNa : alE [] = 0 := by decide +kernel
theorem kNc : clR [] = [] := by decide +kernel
theorem kM1 : flN [66, 4098, 4160] ⟨0, 1, 2⟩ = 3 := by decide +kernel
theorem kM2 : flN [66, 4098, 4160] ⟨0, 0, 0⟩ = 0 := by decide +kernel
theorem kNt : tel [0] (mostP [0]) = 0 := by decide +kernel
end Go.Bl
namespace Go.Proofs.Ytfcpmblmklibjaa
open Go.Lw Go.Gl Go.Bl Go.RowKit
theorem kB0 : bmN [66, 4098, 4160] 0 = 0 := by decide +kernel
theorem kNx : nxR [0] = (⟨0, 0, 0⟩, 0, 5) := by unfold nxR; rw [if_pos kNt]
theorem alsN : AlS [] [0] := by
  refine ⟨by decide, List.pairwise_singleton _ _, fun x => ?_⟩
  have h0 : Ex (clA []) (lsL []) 0 := ⟨by decide, by decide, fun s hs => by cases hs⟩
  rw [List.mem_singleton]
  constructor
  · rintro rfl; exact ⟨h0, fun y _ => by rw [cnt_zero]; exact Nat.zero_le _⟩
  · rintro ⟨a, b⟩
    have h1 := b 0 h0
    rw [cnt_zero] at h1
    refine Nat.eq_of_testBit_eq fun i => ?_
    rw [Nat.zero_testBit]
    cases c : x.testBit i with
    | false => rfl
    | true =>
      have hi := lt15_bit a.1 c
      have hm : ((i : Nat) : Int) ∈ bitL x 15 := bitL_mem.2 ⟨i, hi, rfl, c⟩
      have : 0 < (bitL x 15).length := List.length_pos_of_mem hm
      have h2 : (bitL x 15).length ≤ 0 := h1
      omega
theorem boilKnown_f (V : View) : Fnc Try.prog 13 [] V fun r _ => r = .bool true := by
  refine fn_of Try.func13 rfl Try.ntmps13 (Nat.le_of_ble_eq_true rfl) ?_
  intro w0 hw0
  refine At.nrm ?_
  refine At.ktext (.q 0 .done) ?_
  refine AtT.kassign ?_
  refine AtT.done ?_
  refine At.nrm ?_
  refine At.ktext (.n false 0 (.q 1 .done)) ?_
  refine AtT.kcall rfl rfl ok51 (five_f _) ?_
  rintro _ V15 hV15 ⟨a1, c1, rfl, hs1⟩
  refine AtT.kassign ?_
  refine AtT.done ?_
  refine At.nrm ?_
  refine At.ktext (.n false 0 (.q 1 (.q 2 (.q 3 (.q 4 (.q 5 .done)))))) ?_
  refine AtT.kcall rfl rfl ok19 (clear_f [] _ _ (Sl.nil _ _ _)) ?_
  rintro _ V17 hV17 ⟨u17, rfl, hu17⟩; rw [kN0]
  refine AtT.kmove ?_
  refine AtT.kextract ?_
  refine AtT.kextract ?_
  refine AtT.kassign ?_
  refine AtT.kassign ?_
  refine AtT.done ?_
  refine At.nrm ?_
  rw [kNc] at hu17
  obtain ⟨a17, c17, rfl, _⟩ := id hu17
  replace hs1 := hs1.le hV17
  refine At.ktext (.q 0 (.n false 1 (.q 2 (.q 3 (.q 4 (.q 5 (.q 6 .done))))))) ?_
  refine AtT.kmove ?_
  refine AtT.kcallP rfl rfl ok45 (blame_ok tW wTa 0 (by decide) _ _ hs1) ?_
  rintro _ ⟨L, hal, rfl⟩; obtain rfl := alS_uniq hal alsT; rw [kB0]
  refine AtT.kmove ?_
  refine AtT.kextract ?_
  refine AtT.kextract ?_
  refine AtT.kassign ?_
  refine AtT.kassign ?_
  refine AtT.done ?_
  refine At.nrm ?_
  refine At.ktext (.q 0 (.n false 1 (.n false 2 (.q 3 (.q 4 (.q 5 (.q 6 (.q 7 .done)))))))) ?_
  refine AtT.kmove ?_
  refine AtT.kcallP rfl rfl ok44 (panel_f 0 1 2 _) ?_
  rintro _ rfl
  refine AtT.kcallP rfl rfl ok46 (failsF_ok tW wTa ⟨0, 1, 2⟩ (by decide +kernel) _ _ hs1) ?_
  rintro _ ⟨L, hal, rfl⟩; obtain rfl := alS_uniq hal alsT; rw [kM1]
  refine AtT.kmove ?_
  refine AtT.kextract ?_
  refine AtT.kextract ?_
  refine AtT.kassign ?_
  refine AtT.kassign ?_
  refine AtT.done ?_
  refine At.nrm ?_
  refine At.ktext (.q 0 (.n false 1 (.n false 2 (.q 3 (.q 4 (.q 5 (.q 6 (.q 7 .done)))))))) ?_
  refine AtT.kmove ?_
  refine AtT.kcallP rfl rfl ok44 (panel_f 0 0 0 _) ?_
  rintro _ rfl
  refine AtT.kcallP rfl rfl ok46 (failsF_ok tW wTa ⟨0, 0, 0⟩ (by decide +kernel) _ _ hs1) ?_
  rintro _ ⟨L, hal, rfl⟩; obtain rfl := alS_uniq hal alsT; rw [kM2]
  refine AtT.kmove ?_
  refine AtT.kextract ?_
  refine AtT.kextract ?_
  refine AtT.kassign ?_
  refine AtT.kassign ?_
  refine AtT.done ?_
  refine At.nrm ?_
  refine At.ktext (.n false 0 (.q 1 (.q 2 (.q 3 (.q 4 (.q 5 .done)))))) ?_
  refine AtT.kcall rfl rfl ok28 (allA [] kNa _ _ (Sl.nil _ _ _)) ?_
  rintro _ V38 hV38 ⟨u38, L, rfl, hal, hu38⟩; obtain rfl := alS_uniq hal alsN
  refine AtT.kmove ?_
  refine AtT.kextract ?_
  refine AtT.kextract ?_
  refine AtT.kassign ?_
  refine AtT.kassign ?_
  refine AtT.done ?_
  refine At.nrm ?_
  replace hs1 := hs1.le hV38
  replace hu17 := hu17.le hV38
  obtain ⟨qs, aq, cq, rfl, hq, hql, hqs⟩ := SL.at (L := [0]) hu38
  have hql1 : qs.length = 1 := hql
  obtain ⟨q0, hq0⟩ : ∃ q0, qs[0]? = some q0 := ⟨_, List.getElem?_eq_getElem (by omega)⟩
  have hs0 := hqs 0 q0 0 hq0 rfl
  have hb0 : bitL 0 15 = [] := by decide +kernel
  rw [hb0] at hs0
  refine At.ktext (.n false 0 (.q 1 (.q 2 (.q 3 (.q 4 (.n false 5 (.n true 6 (.q 7 (.q 8 .done))))))))) ?_
  refine AtT.kcallP rfl rfl ok47 (next_ok [] kNa _ _ (Sl.nil _ _ _)) ?_
  rintro _ ⟨L, hal, rfl⟩; obtain rfl := alS_uniq hal alsN; rw [kNx]
  refine AtT.kmove ?_
  refine AtT.kextract ?_
  refine AtT.kextract ?_
  refine AtT.kextract ?_
  refine AtT.kalloc z24 ?_
  intro b12
  refine AtT.kstoreA tk24 ?_
  refine AtT.kassign ?_
  refine AtT.kassign ?_
  refine AtT.done ?_
  refine At.nrm ?_
  have hql2 : (qs.length : Int) = 1 := by omega
  refine At.ktext (.q 0 (.q 1 (.q 2 (.q 3 (.q 4 (.q 5 (.q 6 (.q 7 (.q 8 (.q 9 (.q 10 (.q 11 (.q 12 (.q 13 (.q 14 (.q 15 (.q 16 (.q 17 (.q 18 (.q 19 (.q 20 (.q 21 (.q 22 (.q 23 (.q 24 (.q 25 (.q 26 (.q 27 (.q 28 (.q 29 (.q 30 (.q 31 (.q 32 (.q 33 (.q 34 (.q 35 (.q 36 (.q 37 (.q 38 (.q 39 (.q 40 (.q 41 (.q 42 (.q 43 (.q 44 (.q 45 (.q 46 (.q 47 (.q 48 (.q 49 (.q 50 (.q 51 (.q 52 (.n false 53 (.q 54 (.q 55 (.q 56 (.n false 57 (.q 58 (.q 59 .done)))))))))))))))))))))))))))))))))))))))))))))))))))))))))))) ?_
  refine AtT.kmove ?_
  refine AtT.keqI ?_
  refine AtT.setT (d := 47) rfl (rfl) ?_
  refine AtT.kmove ?_
  all_goals (first | refine AtT.kL 48 ?_ | refine AtT.pcase (d := 48) rfl (fun hg48 => ?_) (fun hg48 => ?_) | refine AtT.bcase (d := 48) rfl (fun hg48 => ?_) (fun hg48 => ?_))
  all_goals (first | refine AtT.kpass ?_ | refine AtT.kpassU ?_ | ((refine AtT.kmove ?_)))
  all_goals (first | refine AtT.kpass ?_ | refine AtT.kpassU ?_ | ((first | refine AtT.klenS Try.underlying25 ?_ | refine AtT.klenR Try.underlying25 ?_)))
  all_goals (first | refine AtT.kpass ?_ | refine AtT.kpassU ?_ | ((refine AtT.keqI ?_)))
  all_goals (refine AtT.setT (d := 51) rfl (rfl) ?_)
  all_goals (refine AtT.kpick ?_)
  all_goals (refine AtT.kmove ?_)
  all_goals (first | refine AtT.kL 53 ?_ | refine AtT.pcase (d := 53) rfl (fun hg53 => ?_) (fun hg53 => ?_) | refine AtT.bcase (d := 53) rfl (fun hg53 => ?_) (fun hg53 => ?_))
  all_goals (first | refine AtT.kpass ?_ | refine AtT.kpassU ?_ | ((refine AtT.kmove ?_)))
  all_goals (first | refine AtT.kpass ?_ | refine AtT.kpassU ?_ | ((refine AtT.keqI ?_)))
  all_goals (refine AtT.setT (d := 55) rfl (rfl) ?_)
  all_goals (refine AtT.kpick ?_)
  all_goals (refine AtT.kmove ?_)
  all_goals (first | refine AtT.kL 57 ?_ | refine AtT.pcase (d := 57) rfl (fun hg57 => ?_) (fun hg57 => ?_) | refine AtT.bcase (d := 57) rfl (fun hg57 => ?_) (fun hg57 => ?_))
  all_goals (first | refine AtT.kpass ?_ | refine AtT.kpassU ?_ | ((refine AtT.kmove ?_)))
  all_goals (first | refine AtT.kpass ?_ | refine AtT.kpassU ?_ | ((refine AtT.keqI ?_)))
  all_goals (refine AtT.setT (d := 59) rfl (rfl) ?_)
  all_goals (refine AtT.kpick ?_)
  all_goals (refine AtT.kmove ?_)
  all_goals (first | refine AtT.kL 61 ?_ | refine AtT.pcase (d := 61) rfl (fun hg61 => ?_) (fun hg61 => ?_) | refine AtT.bcase (d := 61) rfl (fun hg61 => ?_) (fun hg61 => ?_))
  all_goals (first | refine AtT.kpass ?_ | refine AtT.kpassU ?_ | ((refine AtT.kmove ?_)))
  all_goals (first | refine AtT.kpass ?_ | refine AtT.kpassU ?_ | ((refine AtT.keqI ?_)))
  all_goals (refine AtT.setT (d := 63) rfl (rfl) ?_)
  all_goals (refine AtT.kpick ?_)
  all_goals (refine AtT.kmove ?_)
  all_goals (first | refine AtT.kL 65 ?_ | refine AtT.pcase (d := 65) rfl (fun hg65 => ?_) (fun hg65 => ?_) | refine AtT.bcase (d := 65) rfl (fun hg65 => ?_) (fun hg65 => ?_))
  all_goals (first | refine AtT.kpass ?_ | refine AtT.kpassU ?_ | ((refine AtT.kmove ?_)))
  all_goals (first | refine AtT.kpass ?_ | refine AtT.kpassU ?_ | ((refine AtT.keqI ?_)))
  all_goals (refine AtT.setT (d := 67) rfl (rfl) ?_)
  all_goals (refine AtT.kpick ?_)
  all_goals (refine AtT.kmove ?_)
  all_goals (first | refine AtT.kL 69 ?_ | refine AtT.pcase (d := 69) rfl (fun hg69 => ?_) (fun hg69 => ?_) | refine AtT.bcase (d := 69) rfl (fun hg69 => ?_) (fun hg69 => ?_))
  all_goals (first | refine AtT.kpass ?_ | refine AtT.kpassU ?_ | ((refine AtT.kmove ?_)))
  all_goals (first | refine AtT.kpass ?_ | refine AtT.kpassU ?_ | ((refine AtT.keqI ?_)))
  all_goals (refine AtT.setT (d := 71) rfl (rfl) ?_)
  all_goals (refine AtT.kpick ?_)
  all_goals (refine AtT.kmove ?_)
  all_goals (first | refine AtT.kL 73 ?_ | refine AtT.pcase (d := 73) rfl (fun hg73 => ?_) (fun hg73 => ?_) | refine AtT.bcase (d := 73) rfl (fun hg73 => ?_) (fun hg73 => ?_))
  all_goals (first | refine AtT.kpass ?_ | refine AtT.kpassU ?_ | ((refine AtT.kmove ?_)))
  all_goals (first | refine AtT.kpass ?_ | refine AtT.kpassU ?_ | ((refine AtT.keqI ?_)))
  all_goals (refine AtT.setT (d := 75) rfl (rfl) ?_)
  all_goals (refine AtT.kpick ?_)
  all_goals (refine AtT.kmove ?_)
  all_goals (first | refine AtT.kL 77 ?_ | refine AtT.pcase (d := 77) rfl (fun hg77 => ?_) (fun hg77 => ?_) | refine AtT.bcase (d := 77) rfl (fun hg77 => ?_) (fun hg77 => ?_))
  all_goals (first | refine AtT.kpass ?_ | refine AtT.kpassU ?_ | ((refine AtT.kmove ?_)))
  all_goals (first | refine AtT.kpass ?_ | refine AtT.kpassU ?_ | ((refine AtT.keqI ?_)))
  all_goals (refine AtT.setT (d := 79) rfl (rfl) ?_)
  all_goals (refine AtT.kpick ?_)
  all_goals (refine AtT.kmove ?_)
  all_goals (first | refine AtT.kL 81 ?_ | refine AtT.pcase (d := 81) rfl (fun hg81 => ?_) (fun hg81 => ?_) | refine AtT.bcase (d := 81) rfl (fun hg81 => ?_) (fun hg81 => ?_))
  all_goals (first | refine AtT.kpass ?_ | refine AtT.kpassU ?_ | ((refine AtT.kmove ?_)))
  all_goals (first | refine AtT.kpass ?_ | refine AtT.kpassU ?_ | ((first | refine AtT.klenS Try.underlying39 ?_ | refine AtT.klenR Try.underlying39 ?_)))
  all_goals (first | refine AtT.kpass ?_ | refine AtT.kpassU ?_ | ((refine AtT.keqI ?_)))
  all_goals (refine AtT.setT (d := 84) rfl (hql2) ?_)
  all_goals (refine AtT.kpick ?_)
  all_goals (refine AtT.kmove ?_)
  all_goals (first | refine AtT.kL 86 ?_ | refine AtT.pcase (d := 86) rfl (fun hg86 => ?_) (fun hg86 => ?_) | refine AtT.bcase (d := 86) rfl (fun hg86 => ?_) (fun hg86 => ?_))
  all_goals (first | refine AtT.kpass ?_ | refine AtT.kpassU ?_ | ((refine AtT.kmove ?_)))
  all_goals (first | refine AtT.kpass ?_ | refine AtT.kpassU ?_ | ((refine AtT.kidx Try.underlying39 tk25 ?_) ; (intro p88 e88 he88 hc88)))
  all_goals (obtain rfl : q0 = e88 := by have : qs[0]? = some e88 := (by simpa using he88); rw [hq0] at this; simpa using this)
  all_goals (first | refine AtT.kpass ?_ | refine AtT.kpassU ?_ | ((first | refine AtT.kloadO tk25 ?_ | refine AtT.kload tk25 ?_)))
  all_goals (first | refine AtT.kpass ?_ | refine AtT.kpassU ?_ | ((first | refine AtT.klenS Try.underlying25 ?_ | refine AtT.klenR Try.underlying25 ?_)))
  all_goals (first | refine AtT.kpass ?_ | refine AtT.kpassU ?_ | ((refine AtT.keqI ?_)))
  all_goals (refine AtT.setT (d := 91) rfl (rfl) ?_)
  all_goals (refine AtT.kpick ?_)
  all_goals (refine AtT.kmove ?_)
  all_goals (first | refine AtT.kL 93 ?_ | refine AtT.pcase (d := 93) rfl (fun hg93 => ?_) (fun hg93 => ?_) | refine AtT.bcase (d := 93) rfl (fun hg93 => ?_) (fun hg93 => ?_))
  all_goals (first | refine AtT.kpass ?_ | refine AtT.kpassU ?_ | ((refine AtT.kmove ?_)))
  all_goals (first | refine AtT.kpass ?_ | refine AtT.kpassU ?_ | ((refine AtT.keqI ?_)))
  all_goals (refine AtT.setT (d := 95) rfl (rfl) ?_)
  all_goals (refine AtT.kpick ?_)
  all_goals (refine AtT.kmove ?_)
  all_goals (first | refine AtT.kL 97 ?_ | refine AtT.pcase (d := 97) rfl (fun hg97 => ?_) (fun hg97 => ?_) | refine AtT.bcase (d := 97) rfl (fun hg97 => ?_) (fun hg97 => ?_))
  all_goals (first | refine AtT.kpass ?_ | refine AtT.kpassU ?_ | ((refine AtT.kmove ?_)))
  all_goals (first | refine AtT.kpassN ?_ | refine AtT.kpassNU ?_ | ((refine AtT.kcallP rfl rfl ok21 (trials_f tW _ _ hs1) ?_) ; (rintro _ rfl; rw [wT0])))
  all_goals (first | refine AtT.kpass ?_ | refine AtT.kpassU ?_ | ((refine AtT.keqI ?_)))
  all_goals (refine AtT.setT (d := 100) rfl (rfl) ?_)
  all_goals (refine AtT.kpick ?_)
  all_goals (refine AtT.kmove ?_)
  all_goals (first | refine AtT.kL 102 ?_ | refine AtT.pcase (d := 102) rfl (fun hg102 => ?_) (fun hg102 => ?_) | refine AtT.bcase (d := 102) rfl (fun hg102 => ?_) (fun hg102 => ?_))
  all_goals (first | refine AtT.kpassN ?_ | refine AtT.kpassNU ?_ | ((refine AtT.kcallP rfl rfl ok16 (works_f _) ?_) ; (rintro _ rfl)))
  all_goals (refine AtT.kpick ?_)
  all_goals (refine AtT.kassign ?_)
  all_goals refine AtT.done ?_
  all_goals (refine At.nrm ?_)
  exact At.ret1 rfl (.tmp rfl) rfl
end Go.Proofs.Ytfcpmblmklibjaa
set_option linter.unusedVariables false
namespace Go.Proofs.Ytfcpmblmklibjaa.c11
open Go.Lw Go.Gl Go.Bl Go.RowKit Go.ChangeShapes Go.WideShapes Go.ChangeAt

set_option maxRecDepth 100000 in
theorem lifted (os : Os) (started : os.Started) (H : Type) (enc : TypeId × Value → H) :
    ReturnsInHanded {} Try.checked os 13 .any (Rows.boilKnownSpec.pre6 enc Try.prog Try.f13 Rows.boilKnownRow.domain false) (Rows.boilKnownSpec.post enc Try.prog Try.f13 false true false false) := by
  refine law_lift (tb := 4) (fun ds hd => by match ds, hd with | [], _ => rfl) rfl (by kernel_rfl) Try.underlying4 laidOut (by kernel_rfl) own started (by kernel_rfl) Try.func13
    (ChangeSpec.witness6 (enc := enc) (C := Try.checked) false ⟨#[], #[], []⟩ 8 (by kernel_rfl) (by kernel_rfl) (by kernel_rfl) (by kernel_rfl)) ?_
  intro W base args ds ps hval hA
  rw [Try.params13] at hA hval
  obtain ⟨hargs, rfl, rfl⟩ := trodAll_nil hA
  obtain rfl : args = #[] := by cases args; simp_all
  exact ⟨[], rfl, boilKnown_f _⟩

theorem over : Rows.boilKnownRow.holds Try.pinned (OpenSpec.ofChange Rows.boilKnownSpec) :=
  OpenClaim.holds_of_wide 13 Try.f13 rfl rfl rfl rfl rfl rfl rfl ⟨rfl, rfl, rfl, rfl, rfl⟩ rfl rfl rfl rfl rfl (by kernel_rfl) Try.func13 (by kernel_rfl)
    (of_decide_eq_true (by kernel_rfl)) (by unfold Func.isWrapper; first | (rw [if_pos (by decide +kernel)]; kernel_rfl) | (rw [if_neg (by decide +kernel)]; exact ⟨rfl, rfl⟩))
    (fun os started H enc _ => lifted os started H enc)

theorem proved : Rows.BoilKnownSaid := over
#print axioms proved
end Go.Proofs.Ytfcpmblmklibjaa.c11
