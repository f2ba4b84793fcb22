/- The first trial that cannot be explained, which trials are apart, and the most of them, are what the definitions say, or the error: for all trials, and all lists of them. No condition. -/
import Derived.Test.YtfcpmblmklibjaaB6
set_option linter.unusedVariables false
set_option linter.unusedSimpArgs false
set_option linter.unusedSectionVars false
set_option linter.unusedVariables false
namespace Go.Proofs.Ytfcpmblmklibjaa
open Go.Lw Go.Gl Go.Bl Go.RowKit

theorem boilTrials_f (ts : List Tq) (p : Pq) (cs : List Int) (V : View) (v u : Value) (hs : Sl V tqe 4 v ts) (hu : SlI V u cs) : Fnc Try.prog 3 [v, pqv p, u] V fun r _ => r = .bool true := by
  refine fn_of Try.func3 rfl Try.ntmps3 (Nat.le_of_ble_eq_true rfl) ?_
  intro w0 hw0
  refine At.nrm ?_
  refine At.ktext (.n false 0 (.q 1 .done)) ?_
  refine AtT.kbox ?_
  intro b4
  refine AtT.kassign ?_
  refine AtT.done ?_
  refine At.nrm ?_
  by_cases g1 : 24 < (ts.length : Int)
  · refine At.ktext (.q 0 (.n false 1 (.q 2 (.q 3 (.n false 4 (.q 5 .done)))))) ?_
    refine AtT.kmove ?_
    refine AtT.kcallP rfl rfl ok14 (great_f ts _ _ hs) ?_
    rintro _ rfl
    refine AtT.setT (d := 16) rfl (g1) ?_
    refine AtT.kmove ?_
    all_goals (first | refine AtT.kL 17 ?_ | refine AtT.pcase (d := 17) rfl (fun hg17 => ?_) (fun hg17 => ?_) | refine AtT.bcase (d := 17) rfl (fun hg17 => ?_) (fun hg17 => ?_))
    all_goals (first | refine AtT.kpass ?_ | refine AtT.kpassU ?_ | ((refine AtT.kmove ?_)))
    all_goals (first | refine AtT.kpassN ?_ | refine AtT.kpassNU ?_ | ((fail)))
    all_goals (refine AtT.kpick ?_)
    all_goals refine AtT.done ?_
    all_goals (refine At.nrm ?_)
    refine At.condT rfl rfl ?_
    refine At.nrm ?_
    refine At.ktext (.n false 0 (.q 1 .done)) ?_
    refine AtT.kcallP rfl rfl ok16 (works_f _) ?_
    rintro _ rfl
    refine AtT.kassign ?_
    refine AtT.done ?_
    refine At.nrm ?_
    exact At.ret1 rfl (.tmp rfl) rfl
  by_cases g2 : 24 < (cs.length : Int)
  · refine At.ktext (.q 0 (.n false 1 (.q 2 (.q 3 (.n false 4 (.q 5 .done)))))) ?_
    refine AtT.kmove ?_
    refine AtT.kcallP rfl rfl ok14 (great_f ts _ _ hs) ?_
    rintro _ rfl
    refine AtT.setF (d := 16) rfl (g1) ?_
    refine AtT.kmove ?_
    all_goals (first | refine AtT.kL 17 ?_ | refine AtT.pcase (d := 17) rfl (fun hg17 => ?_) (fun hg17 => ?_) | refine AtT.bcase (d := 17) rfl (fun hg17 => ?_) (fun hg17 => ?_))
    all_goals (first | refine AtT.kpass ?_ | refine AtT.kpassU ?_ | ((refine AtT.kmove ?_)))
    all_goals (first | refine AtT.kpassN ?_ | refine AtT.kpassNU ?_ | ((refine AtT.kcallP rfl rfl ok15 (long_f cs _ _ hu) ?_) ; (rintro _ rfl)))
    all_goals (refine AtT.setT (d := 19) rfl (g2) ?_)
    all_goals (refine AtT.kpick ?_)
    all_goals refine AtT.done ?_
    all_goals (refine At.nrm ?_)
    refine At.condT rfl rfl ?_
    refine At.nrm ?_
    refine At.ktext (.n false 0 (.q 1 .done)) ?_
    refine AtT.kcallP rfl rfl ok16 (works_f _) ?_
    rintro _ rfl
    refine AtT.kassign ?_
    refine AtT.done ?_
    refine At.nrm ?_
    exact At.ret1 rfl (.tmp rfl) rfl
  refine At.ktext (.q 0 (.n false 1 (.q 2 (.q 3 (.n false 4 (.q 5 .done)))))) ?_
  refine AtT.kmove ?_
  refine AtT.kcallP rfl rfl ok14 (great_f ts _ _ hs) ?_
  rintro _ rfl
  refine AtT.setF (d := 16) rfl (g1) ?_
  refine AtT.kmove ?_
  all_goals (first | refine AtT.kL 17 ?_ | refine AtT.pcase (d := 17) rfl (fun hg17 => ?_) (fun hg17 => ?_) | refine AtT.bcase (d := 17) rfl (fun hg17 => ?_) (fun hg17 => ?_))
  all_goals (first | refine AtT.kpass ?_ | refine AtT.kpassU ?_ | ((refine AtT.kmove ?_)))
  all_goals (first | refine AtT.kpassN ?_ | refine AtT.kpassNU ?_ | ((refine AtT.kcallP rfl rfl ok15 (long_f cs _ _ hu) ?_) ; (rintro _ rfl)))
  all_goals (refine AtT.setF (d := 19) rfl (g2) ?_)
  all_goals (refine AtT.kpick ?_)
  all_goals refine AtT.done ?_
  all_goals (refine At.nrm ?_)
  refine At.condF rfl rfl ?_
  refine At.nrm ?_
  refine At.ktext (.q 0 (.n false 1 (.q 2 (.q 3 (.q 4 (.q 5 (.q 6 .done))))))) ?_
  first | refine AtT.kloadOA tk24 ?_ | refine AtT.kloadA tk24 ?_ | refine AtT.kloadOP tk24 ?_
  refine AtT.kcall rfl rfl ok17 (causes17_f p _) ?_
  rintro _ V24 hV24 ⟨u24, rfl, hu24⟩
  refine AtT.kmove ?_
  refine AtT.kextract ?_
  refine AtT.kextract ?_
  refine AtT.kassign ?_
  refine AtT.kassign ?_
  refine AtT.done ?_
  refine At.nrm ?_
  refine At.ktext (.q 0 (.n false 1 (.q 2 (.q 3 (.q 4 (.q 5 (.q 6 .done))))))) ?_
  first | refine AtT.kloadOA tk24 ?_ | refine AtT.kloadA tk24 ?_ | refine AtT.kloadOP tk24 ?_
  refine AtT.kcall rfl rfl ok18 (rcauses_f p _) ?_
  rintro _ V29 hV29 ⟨u29, rfl, hu29⟩
  refine AtT.kmove ?_
  refine AtT.kextract ?_
  refine AtT.kextract ?_
  refine AtT.kassign ?_
  refine AtT.kassign ?_
  refine AtT.done ?_
  refine At.nrm ?_
  replace hs := (hs.le hV24).le hV29
  replace hu := (hu.le hV24).le hV29
  replace hu24 := hu24.le hV29
  refine At.ktext (.q 0 (.n false 1 (.q 2 (.q 3 (.q 4 (.q 5 (.q 6 .done))))))) ?_
  refine AtT.kmove ?_
  refine AtT.kcall rfl rfl ok19 (clear_f ts _ _ hs) ?_
  rintro _ V34 hV34 ⟨u34, rfl, hu34⟩
  refine AtT.kmove ?_
  refine AtT.kextract ?_
  refine AtT.kextract ?_
  refine AtT.kassign ?_
  refine AtT.kassign ?_
  refine AtT.done ?_
  refine At.nrm ?_
  refine At.ktext (.q 0 (.n false 1 (.q 2 (.q 3 (.q 4 (.q 5 (.q 6 .done))))))) ?_
  refine AtT.kmove ?_
  refine AtT.kcall rfl rfl ok20 (rclear_f ts _ _ (hs.le hV34)) ?_
  rintro _ V39 hV39 ⟨u39, rfl, hu39⟩
  refine AtT.kmove ?_
  refine AtT.kextract ?_
  refine AtT.kextract ?_
  refine AtT.kassign ?_
  refine AtT.kassign ?_
  refine AtT.done ?_
  refine At.nrm ?_
  replace hs := (hs.le hV34).le hV39
  replace hu := (hu.le hV34).le hV39
  replace hu24 := (hu24.le hV34).le hV39
  replace hu29 := (hu29.le hV34).le hV39
  replace hu34 := hu34.le hV39
  refine At.ktext (.q 0 (.n false 1 (.q 2 (.n false 3 (.q 4 (.q 5 (.q 6 (.q 7 (.n false 8 (.q 9 (.q 10 (.q 11 (.q 12 (.q 13 (.q 14 (.q 15 (.q 16 (.q 17 (.n false 18 (.q 19 (.q 20 (.q 21 (.q 22 (.q 23 (.q 24 (.q 25 (.q 26 (.q 27 (.n false 28 (.q 29 (.q 30 (.n false 31 (.q 32 (.q 33 (.q 34 (.n false 35 (.q 36 (.q 37 .done)))))))))))))))))))))))))))))))))))))) ?_
  refine AtT.kmove ?_
  refine AtT.kcallP rfl rfl ok21 (trials_f ts _ _ hs) ?_
  rintro _ rfl
  refine AtT.kmove ?_
  refine AtT.kcallP rfl rfl ok22 (rtrials_f ts _ _ hs) ?_
  rintro _ rfl
  refine AtT.keqI ?_
  refine AtT.setT (d := 46) rfl (rfl) ?_
  refine AtT.kmove ?_
  all_goals (first | refine AtT.kL 47 ?_ | refine AtT.pcase (d := 47) rfl (fun hg47 => ?_) (fun hg47 => ?_) | refine AtT.bcase (d := 47) rfl (fun hg47 => ?_) (fun hg47 => ?_))
  all_goals (first | refine AtT.kpass ?_ | refine AtT.kpassU ?_ | ((refine AtT.kmove ?_)))
  all_goals (first | refine AtT.kpass ?_ | refine AtT.kpassU ?_ | ((refine AtT.kmove ?_)))
  all_goals (first | refine AtT.kpassN ?_ | refine AtT.kpassNU ?_ | ((refine AtT.kcallP rfl rfl ok23 (ints_f (caR p) (caR p) _ _ _ hu24 hu29) ?_) ; (rintro _ rfl)))
  all_goals (refine AtT.setT (d := 50) rfl (rfl) ?_)
  all_goals (refine AtT.kpick ?_)
  all_goals (refine AtT.kmove ?_)
  all_goals (first | refine AtT.kL 52 ?_ | refine AtT.pcase (d := 52) rfl (fun hg52 => ?_) (fun hg52 => ?_) | refine AtT.bcase (d := 52) rfl (fun hg52 => ?_) (fun hg52 => ?_))
  all_goals (first | refine AtT.kpass ?_ | refine AtT.kpassU ?_ | ((refine AtT.kmove ?_)))
  all_goals (first | refine AtT.kpass ?_ | refine AtT.kpassU ?_ | ((refine AtT.kmove ?_)))
  all_goals (first | refine AtT.kpass ?_ | refine AtT.kpassU ?_ | ((refine AtT.keqI ?_)))
  all_goals (refine AtT.setT (d := 55) rfl (rfl) ?_)
  all_goals (refine AtT.kpick ?_)
  all_goals (refine AtT.kmove ?_)
  all_goals (first | refine AtT.kL 57 ?_ | refine AtT.pcase (d := 57) rfl (fun hg57 => ?_) (fun hg57 => ?_) | refine AtT.bcase (d := 57) rfl (fun hg57 => ?_) (fun hg57 => ?_))
  all_goals (first | refine AtT.kpass ?_ | refine AtT.kpassU ?_ | ((refine AtT.kmove ?_)))
  all_goals (first | refine AtT.kpass ?_ | refine AtT.kpassU ?_ | ((refine AtT.kmove ?_)))
  all_goals (first | refine AtT.kpassN ?_ | refine AtT.kpassNU ?_ | ((refine AtT.kcallP rfl rfl ok23 (ints_f (clR ts) (clR ts) _ _ _ hu34 hu39) ?_) ; (rintro _ rfl)))
  all_goals (refine AtT.setT (d := 60) rfl (rfl) ?_)
  all_goals (refine AtT.kpick ?_)
  all_goals (refine AtT.kmove ?_)
  all_goals (first | refine AtT.kL 62 ?_ | refine AtT.pcase (d := 62) rfl (fun hg62 => ?_) (fun hg62 => ?_) | refine AtT.bcase (d := 62) rfl (fun hg62 => ?_) (fun hg62 => ?_))
  all_goals (first | refine AtT.kpass ?_ | refine AtT.kpassU ?_ | ((refine AtT.kmove ?_)))
  all_goals (first | refine AtT.kpass ?_ | refine AtT.kpassU ?_ | ((refine AtT.kmove ?_)))
  all_goals (first | refine AtT.kpass ?_ | refine AtT.kpassU ?_ | ((refine AtT.keqI ?_)))
  all_goals (refine AtT.setT (d := 65) rfl (rfl) ?_)
  all_goals (refine AtT.kpick ?_)
  all_goals (refine AtT.kmove ?_)
  all_goals (first | refine AtT.kL 67 ?_ | refine AtT.pcase (d := 67) rfl (fun hg67 => ?_) (fun hg67 => ?_) | refine AtT.bcase (d := 67) rfl (fun hg67 => ?_) (fun hg67 => ?_))
  all_goals (first | refine AtT.kpass ?_ | refine AtT.kpassU ?_ | ((refine AtT.kmove ?_)))
  all_goals (first | refine AtT.kpass ?_ | refine AtT.kpassU ?_ | ((refine AtT.kmove ?_)))
  all_goals (first | refine AtT.kpassN ?_ | refine AtT.kpassNU ?_ | ((refine AtT.kcallP rfl rfl ok24 (checkCauses_f ts cs _ _ _ hs hu) ?_) ; (rintro _ rfl)))
  all_goals (first | refine AtT.kpass ?_ | refine AtT.kpassU ?_ | ((refine AtT.kmove ?_)))
  all_goals (first | refine AtT.kpass ?_ | refine AtT.kpassU ?_ | ((refine AtT.kmove ?_)))
  all_goals (first | refine AtT.kpassN ?_ | refine AtT.kpassNU ?_ | ((refine AtT.kcallP rfl rfl ok25 (rcheckCauses_f ts cs _ _ _ hs hu) ?_) ; (rintro _ rfl)))
  all_goals (first | refine AtT.kpass ?_ | refine AtT.kpassU ?_ | ((refine AtT.keqI ?_)))
  all_goals (refine AtT.setT (d := 74) rfl (rfl) ?_)
  all_goals (refine AtT.kpick ?_)
  all_goals (refine AtT.kmove ?_)
  all_goals (first | refine AtT.kL 76 ?_ | refine AtT.pcase (d := 76) rfl (fun hg76 => ?_) (fun hg76 => ?_) | refine AtT.bcase (d := 76) rfl (fun hg76 => ?_) (fun hg76 => ?_))
  all_goals (first | refine AtT.kpassN ?_ | refine AtT.kpassNU ?_ | ((refine AtT.kcallP rfl rfl ok16 (works_f _) ?_) ; (rintro _ rfl)))
  all_goals (refine AtT.kpick ?_)
  all_goals (refine AtT.kassign ?_)
  all_goals refine AtT.done ?_
  all_goals (refine At.nrm ?_)
  exact At.ret1 rfl (.tmp rfl) rfl

theorem boilSets_f (ts : List Tq) (V : View) (v : Value) (hs : Sl V tqe 4 v ts) : Fnc Try.prog 4 [v] V fun r _ => r = .bool true := by
  refine fn_of Try.func4 rfl Try.ntmps4 (Nat.le_of_ble_eq_true rfl) ?_
  intro w0 hw0
  refine At.nrm ?_
  refine At.ktext (.q 0 .done) ?_
  refine AtT.kassign ?_
  refine AtT.done ?_
  refine At.nrm ?_
  by_cases g1 : 24 < (ts.length : Int)
  · refine At.ktext (.q 0 (.n false 1 .done)) ?_
    refine AtT.kmove ?_
    refine AtT.kcallP rfl rfl ok14 (great_f ts _ _ hs) ?_
    rintro _ rfl
    refine AtT.setT (d := 12) rfl (g1) ?_
    refine AtT.done ?_
    refine At.nrm ?_
    refine At.condT rfl rfl ?_
    refine At.nrm ?_
    refine At.ktext (.n false 0 (.q 1 .done)) ?_
    refine AtT.kcallP rfl rfl ok16 (works_f _) ?_
    rintro _ rfl
    refine AtT.kassign ?_
    refine AtT.done ?_
    refine At.nrm ?_
    exact At.ret1 rfl (.tmp rfl) rfl
  refine At.ktext (.q 0 (.n false 1 .done)) ?_
  refine AtT.kmove ?_
  refine AtT.kcallP rfl rfl ok14 (great_f ts _ _ hs) ?_
  rintro _ rfl
  refine AtT.setF (d := 12) rfl (g1) ?_
  refine AtT.done ?_
  refine At.nrm ?_
  refine At.condF rfl rfl ?_
  by_cases he : alE ts = 0
  · refine At.nrm ?_
    refine At.ktext (.q 0 (.n false 1 (.q 2 (.q 3 (.q 4 (.q 5 (.q 6 .done))))))) ?_
    refine AtT.kmove ?_
    refine AtT.kcallP rfl rfl ok26 (fewestA ts he _ _ hs) ?_
    rintro _ ⟨L, x, hal, hx, rfl⟩
    refine AtT.kmove ?_
    refine AtT.kextract ?_
    refine AtT.kextract ?_
    refine AtT.kassign ?_
    refine AtT.kassign ?_
    refine AtT.done ?_
    refine At.nrm ?_
    refine At.ktext (.q 0 (.n false 1 (.q 2 (.q 3 (.q 4 (.q 5 (.q 6 .done))))))) ?_
    refine AtT.kmove ?_
    refine AtT.kcallP rfl rfl ok27 (rfewest_ok ts he _ _ hs) ?_
    rintro _ ⟨L21, x21, hal21, hx21, rfl⟩; obtain rfl := alS_uniq hal21 hal; obtain rfl : x21 = x := by rw [hx] at hx21; cases hx21; rfl
    refine AtT.kmove ?_
    refine AtT.kextract ?_
    refine AtT.kextract ?_
    refine AtT.kassign ?_
    refine AtT.kassign ?_
    refine AtT.done ?_
    refine At.nrm ?_
    refine At.ktext (.q 0 (.n false 1 (.q 2 (.q 3 (.q 4 (.q 5 (.q 6 .done))))))) ?_
    refine AtT.kmove ?_
    refine AtT.kcall rfl rfl ok28 (allA ts he _ _ hs) ?_
    rintro _ V26 hV26 ⟨u26, L26, rfl, hal26, hu26⟩; obtain rfl := alS_uniq hal26 hal
    refine AtT.kmove ?_
    refine AtT.kextract ?_
    refine AtT.kextract ?_
    refine AtT.kassign ?_
    refine AtT.kassign ?_
    refine AtT.done ?_
    refine At.nrm ?_
    refine At.ktext (.q 0 (.n false 1 (.q 2 (.q 3 (.q 4 (.q 5 (.q 6 .done))))))) ?_
    refine AtT.kmove ?_
    refine AtT.kcall rfl rfl ok29 (rall_ok ts he _ _ (hs.le hV26)) ?_
    rintro _ V31 hV31 ⟨u31, L31, rfl, hal31, hu31⟩; obtain rfl := alS_uniq hal31 hal26
    refine AtT.kmove ?_
    refine AtT.kextract ?_
    refine AtT.kextract ?_
    refine AtT.kassign ?_
    refine AtT.kassign ?_
    refine AtT.done ?_
    refine At.nrm ?_
    replace hu26 := hu26.le hV31
    refine At.ktext (.q 0 (.q 1 (.q 2 (.q 3 (.q 4 (.q 5 (.q 6 (.q 7 (.q 8 (.q 9 (.q 10 (.n false 11 (.q 12 (.q 13 (.q 14 (.q 15 (.q 16 (.q 17 (.q 18 (.n false 19 (.q 20 (.q 21 .done)))))))))))))))))))))) ?_
    refine AtT.kmove ?_
    refine AtT.kmove ?_
    refine AtT.keqI ?_
    refine AtT.setT (d := 36) rfl (rfl) ?_
    refine AtT.kmove ?_
    all_goals (first | refine AtT.kL 37 ?_ | refine AtT.pcase (d := 37) rfl (fun hg37 => ?_) (fun hg37 => ?_) | refine AtT.bcase (d := 37) rfl (fun hg37 => ?_) (fun hg37 => ?_))
    all_goals (first | refine AtT.kpass ?_ | refine AtT.kpassU ?_ | ((refine AtT.kmove ?_)))
    all_goals (first | refine AtT.kpass ?_ | refine AtT.kpassU ?_ | ((refine AtT.kmove ?_)))
    all_goals (first | refine AtT.kpass ?_ | refine AtT.kpassU ?_ | ((refine AtT.keqI ?_)))
    all_goals (refine AtT.setT (d := 40) rfl (rfl) ?_)
    all_goals (refine AtT.kpick ?_)
    all_goals (refine AtT.kmove ?_)
    all_goals (first | refine AtT.kL 42 ?_ | refine AtT.pcase (d := 42) rfl (fun hg42 => ?_) (fun hg42 => ?_) | refine AtT.bcase (d := 42) rfl (fun hg42 => ?_) (fun hg42 => ?_))
    all_goals (first | refine AtT.kpass ?_ | refine AtT.kpassU ?_ | ((refine AtT.kmove ?_)))
    all_goals (first | refine AtT.kpass ?_ | refine AtT.kpassU ?_ | ((refine AtT.kmove ?_)))
    all_goals (first | refine AtT.kpassN ?_ | refine AtT.kpassNU ?_ | ((refine AtT.kcallP rfl rfl ok30 (lists_eq_f _ _ _ _ _ hu26 hu31) ?_) ; (rintro _ rfl)))
    all_goals (refine AtT.setT (d := 45) rfl (rfl) ?_)
    all_goals (refine AtT.kpick ?_)
    all_goals (refine AtT.kmove ?_)
    all_goals (first | refine AtT.kL 47 ?_ | refine AtT.pcase (d := 47) rfl (fun hg47 => ?_) (fun hg47 => ?_) | refine AtT.bcase (d := 47) rfl (fun hg47 => ?_) (fun hg47 => ?_))
    all_goals (first | refine AtT.kpass ?_ | refine AtT.kpassU ?_ | ((refine AtT.kmove ?_)))
    all_goals (first | refine AtT.kpass ?_ | refine AtT.kpassU ?_ | ((refine AtT.kmove ?_)))
    all_goals (first | refine AtT.kpass ?_ | refine AtT.kpassU ?_ | ((refine AtT.keqI ?_)))
    all_goals (refine AtT.setT (d := 50) rfl (rfl) ?_)
    all_goals (refine AtT.kpick ?_)
    all_goals (refine AtT.kmove ?_)
    all_goals (first | refine AtT.kL 52 ?_ | refine AtT.pcase (d := 52) rfl (fun hg52 => ?_) (fun hg52 => ?_) | refine AtT.bcase (d := 52) rfl (fun hg52 => ?_) (fun hg52 => ?_))
    all_goals (first | refine AtT.kpassN ?_ | refine AtT.kpassNU ?_ | ((refine AtT.kcallP rfl rfl ok16 (works_f _) ?_) ; (rintro _ rfl)))
    all_goals (refine AtT.kpick ?_)
    all_goals (refine AtT.kassign ?_)
    all_goals refine AtT.done ?_
    all_goals (refine At.nrm ?_)
    exact At.ret1 rfl (.tmp rfl) rfl
  · refine At.nrm ?_
    refine At.ktext (.q 0 (.n false 1 (.q 2 (.q 3 (.q 4 (.q 5 (.q 6 .done))))))) ?_
    refine AtT.kmove ?_
    refine AtT.kcallP rfl rfl ok26 (fewest_bad ts he _ _ hs) ?_
    rintro _ rfl
    refine AtT.kmove ?_
    refine AtT.kextract ?_
    refine AtT.kextract ?_
    refine AtT.kassign ?_
    refine AtT.kassign ?_
    refine AtT.done ?_
    refine At.nrm ?_
    refine At.ktext (.q 0 (.n false 1 (.q 2 (.q 3 (.q 4 (.q 5 (.q 6 .done))))))) ?_
    refine AtT.kmove ?_
    refine AtT.kcallP rfl rfl ok27 (rfewest_bad ts he _ _ hs) ?_
    rintro _ rfl
    refine AtT.kmove ?_
    refine AtT.kextract ?_
    refine AtT.kextract ?_
    refine AtT.kassign ?_
    refine AtT.kassign ?_
    refine AtT.done ?_
    refine At.nrm ?_
    refine At.ktext (.q 0 (.n false 1 (.q 2 (.q 3 (.q 4 (.q 5 (.q 6 .done))))))) ?_
    refine AtT.kmove ?_
    refine AtT.kcallP rfl rfl ok28 (all_bad ts he _ _ hs) ?_
    rintro _ rfl
    refine AtT.kmove ?_
    refine AtT.kextract ?_
    refine AtT.kextract ?_
    refine AtT.kassign ?_
    refine AtT.kassign ?_
    refine AtT.done ?_
    refine At.nrm ?_
    refine At.ktext (.q 0 (.n false 1 (.q 2 (.q 3 (.q 4 (.q 5 (.q 6 .done))))))) ?_
    refine AtT.kmove ?_
    refine AtT.kcallP rfl rfl ok29 (rall_bad ts he _ _ hs) ?_
    rintro _ rfl
    refine AtT.kmove ?_
    refine AtT.kextract ?_
    refine AtT.kextract ?_
    refine AtT.kassign ?_
    refine AtT.kassign ?_
    refine AtT.done ?_
    refine At.nrm ?_
    refine At.ktext (.q 0 (.q 1 (.q 2 (.q 3 (.q 4 (.q 5 (.q 6 (.q 7 (.q 8 (.q 9 (.q 10 (.n false 11 (.q 12 (.q 13 (.q 14 (.q 15 (.q 16 (.q 17 (.q 18 (.n false 19 (.q 20 (.q 21 .done)))))))))))))))))))))) ?_
    refine AtT.kmove ?_
    refine AtT.kmove ?_
    refine AtT.keqI ?_
    refine AtT.setT (d := 36) rfl (rfl) ?_
    refine AtT.kmove ?_
    all_goals (first | refine AtT.kL 37 ?_ | refine AtT.pcase (d := 37) rfl (fun hg37 => ?_) (fun hg37 => ?_) | refine AtT.bcase (d := 37) rfl (fun hg37 => ?_) (fun hg37 => ?_))
    all_goals (first | refine AtT.kpass ?_ | refine AtT.kpassU ?_ | ((refine AtT.kmove ?_)))
    all_goals (first | refine AtT.kpass ?_ | refine AtT.kpassU ?_ | ((refine AtT.kmove ?_)))
    all_goals (first | refine AtT.kpass ?_ | refine AtT.kpassU ?_ | ((refine AtT.keqI ?_)))
    all_goals (refine AtT.setT (d := 40) rfl (rfl) ?_)
    all_goals (refine AtT.kpick ?_)
    all_goals (refine AtT.kmove ?_)
    all_goals (first | refine AtT.kL 42 ?_ | refine AtT.pcase (d := 42) rfl (fun hg42 => ?_) (fun hg42 => ?_) | refine AtT.bcase (d := 42) rfl (fun hg42 => ?_) (fun hg42 => ?_))
    all_goals (first | refine AtT.kpass ?_ | refine AtT.kpassU ?_ | ((refine AtT.kmove ?_)))
    all_goals (first | refine AtT.kpass ?_ | refine AtT.kpassU ?_ | ((refine AtT.kmove ?_)))
    all_goals (first | refine AtT.kpassN ?_ | refine AtT.kpassNU ?_ | ((refine AtT.kcallP rfl rfl ok30 (lists_eq_f [] [] _ _ _ (SL.nil _) (SL.nil _)) ?_) ; (rintro _ rfl)))
    all_goals (refine AtT.setT (d := 45) rfl (rfl) ?_)
    all_goals (refine AtT.kpick ?_)
    all_goals (refine AtT.kmove ?_)
    all_goals (first | refine AtT.kL 47 ?_ | refine AtT.pcase (d := 47) rfl (fun hg47 => ?_) (fun hg47 => ?_) | refine AtT.bcase (d := 47) rfl (fun hg47 => ?_) (fun hg47 => ?_))
    all_goals (first | refine AtT.kpass ?_ | refine AtT.kpassU ?_ | ((refine AtT.kmove ?_)))
    all_goals (first | refine AtT.kpass ?_ | refine AtT.kpassU ?_ | ((refine AtT.kmove ?_)))
    all_goals (first | refine AtT.kpass ?_ | refine AtT.kpassU ?_ | ((refine AtT.keqI ?_)))
    all_goals (refine AtT.setT (d := 50) rfl (rfl) ?_)
    all_goals (refine AtT.kpick ?_)
    all_goals (refine AtT.kmove ?_)
    all_goals (first | refine AtT.kL 52 ?_ | refine AtT.pcase (d := 52) rfl (fun hg52 => ?_) (fun hg52 => ?_) | refine AtT.bcase (d := 52) rfl (fun hg52 => ?_) (fun hg52 => ?_))
    all_goals (first | refine AtT.kpassN ?_ | refine AtT.kpassNU ?_ | ((refine AtT.kcallP rfl rfl ok16 (works_f _) ?_) ; (rintro _ rfl)))
    all_goals (refine AtT.kpick ?_)
    all_goals (refine AtT.kassign ?_)
    all_goals refine AtT.done ?_
    all_goals (refine At.nrm ?_)
    exact At.ret1 rfl (.tmp rfl) rfl

theorem boilAparts_f (ts : List Tq) (ap : List Int) (V : View) (v u : Value) (hs : Sl V tqe 4 v ts) (hu : SlI V u ap) : Fnc Try.prog 5 [v, u] V fun r _ => r = .bool true := by
  refine fn_of Try.func5 rfl Try.ntmps5 (Nat.le_of_ble_eq_true rfl) ?_
  intro w0 hw0
  refine At.nrm ?_
  refine At.ktext (.q 0 .done) ?_
  refine AtT.kassign ?_
  refine AtT.done ?_
  refine At.nrm ?_
  by_cases g1 : 24 < (ts.length : Int)
  · refine At.ktext (.q 0 (.n false 1 (.q 2 (.q 3 (.n false 4 (.q 5 .done)))))) ?_
    refine AtT.kmove ?_
    refine AtT.kcallP rfl rfl ok14 (great_f ts _ _ hs) ?_
    rintro _ rfl
    refine AtT.setT (d := 14) rfl (g1) ?_
    refine AtT.kmove ?_
    all_goals (first | refine AtT.kL 15 ?_ | refine AtT.pcase (d := 15) rfl (fun hg15 => ?_) (fun hg15 => ?_) | refine AtT.bcase (d := 15) rfl (fun hg15 => ?_) (fun hg15 => ?_))
    all_goals (first | refine AtT.kpass ?_ | refine AtT.kpassU ?_ | ((refine AtT.kmove ?_)))
    all_goals (first | refine AtT.kpassN ?_ | refine AtT.kpassNU ?_ | ((fail)))
    all_goals (refine AtT.kpick ?_)
    all_goals refine AtT.done ?_
    all_goals (refine At.nrm ?_)
    refine At.condT rfl rfl ?_
    refine At.nrm ?_
    refine At.ktext (.n false 0 (.q 1 .done)) ?_
    refine AtT.kcallP rfl rfl ok16 (works_f _) ?_
    rintro _ rfl
    refine AtT.kassign ?_
    refine AtT.done ?_
    refine At.nrm ?_
    exact At.ret1 rfl (.tmp rfl) rfl
  by_cases g2 : 24 < (ap.length : Int)
  · refine At.ktext (.q 0 (.n false 1 (.q 2 (.q 3 (.n false 4 (.q 5 .done)))))) ?_
    refine AtT.kmove ?_
    refine AtT.kcallP rfl rfl ok14 (great_f ts _ _ hs) ?_
    rintro _ rfl
    refine AtT.setF (d := 14) rfl (g1) ?_
    refine AtT.kmove ?_
    all_goals (first | refine AtT.kL 15 ?_ | refine AtT.pcase (d := 15) rfl (fun hg15 => ?_) (fun hg15 => ?_) | refine AtT.bcase (d := 15) rfl (fun hg15 => ?_) (fun hg15 => ?_))
    all_goals (first | refine AtT.kpass ?_ | refine AtT.kpassU ?_ | ((refine AtT.kmove ?_)))
    all_goals (first | refine AtT.kpassN ?_ | refine AtT.kpassNU ?_ | ((refine AtT.kcallP rfl rfl ok15 (long_f ap _ _ hu) ?_) ; (rintro _ rfl)))
    all_goals (refine AtT.setT (d := 17) rfl (g2) ?_)
    all_goals (refine AtT.kpick ?_)
    all_goals refine AtT.done ?_
    all_goals (refine At.nrm ?_)
    refine At.condT rfl rfl ?_
    refine At.nrm ?_
    refine At.ktext (.n false 0 (.q 1 .done)) ?_
    refine AtT.kcallP rfl rfl ok16 (works_f _) ?_
    rintro _ rfl
    refine AtT.kassign ?_
    refine AtT.done ?_
    refine At.nrm ?_
    exact At.ret1 rfl (.tmp rfl) rfl
  refine At.ktext (.q 0 (.n false 1 (.q 2 (.q 3 (.n false 4 (.q 5 .done)))))) ?_
  refine AtT.kmove ?_
  refine AtT.kcallP rfl rfl ok14 (great_f ts _ _ hs) ?_
  rintro _ rfl
  refine AtT.setF (d := 14) rfl (g1) ?_
  refine AtT.kmove ?_
  all_goals (first | refine AtT.kL 15 ?_ | refine AtT.pcase (d := 15) rfl (fun hg15 => ?_) (fun hg15 => ?_) | refine AtT.bcase (d := 15) rfl (fun hg15 => ?_) (fun hg15 => ?_))
  all_goals (first | refine AtT.kpass ?_ | refine AtT.kpassU ?_ | ((refine AtT.kmove ?_)))
  all_goals (first | refine AtT.kpassN ?_ | refine AtT.kpassNU ?_ | ((refine AtT.kcallP rfl rfl ok15 (long_f ap _ _ hu) ?_) ; (rintro _ rfl)))
  all_goals (refine AtT.setF (d := 17) rfl (g2) ?_)
  all_goals (refine AtT.kpick ?_)
  all_goals refine AtT.done ?_
  all_goals (refine At.nrm ?_)
  refine At.condF rfl rfl ?_
  refine At.nrm ?_
  refine At.ktext (.q 0 (.n false 1 (.q 2 (.q 3 (.q 4 (.q 5 (.q 6 .done))))))) ?_
  refine AtT.kmove ?_
  refine AtT.kcallP rfl rfl ok31 (unclear_f ts _ _ hs) ?_
  rintro _ rfl
  refine AtT.kmove ?_
  refine AtT.kextract ?_
  refine AtT.kextract ?_
  refine AtT.kassign ?_
  refine AtT.kassign ?_
  refine AtT.done ?_
  refine At.nrm ?_
  refine At.ktext (.q 0 (.n false 1 (.q 2 (.q 3 (.q 4 (.q 5 (.q 6 .done))))))) ?_
  refine AtT.kmove ?_
  refine AtT.kcallP rfl rfl ok32 (runclear_f ts _ _ hs) ?_
  rintro _ rfl
  refine AtT.kmove ?_
  refine AtT.kextract ?_
  refine AtT.kextract ?_
  refine AtT.kassign ?_
  refine AtT.kassign ?_
  refine AtT.done ?_
  refine At.nrm ?_
  refine At.ktext (.q 0 (.n false 1 (.q 2 (.q 3 (.q 4 (.q 5 (.q 6 .done))))))) ?_
  refine AtT.kmove ?_
  refine AtT.kcall rfl rfl ok33 (apF_f ts _ _ hs) ?_
  rintro _ V32 hV32 ⟨u32, rfl, hu32⟩
  refine AtT.kmove ?_
  refine AtT.kextract ?_
  refine AtT.kextract ?_
  refine AtT.kassign ?_
  refine AtT.kassign ?_
  refine AtT.done ?_
  refine At.nrm ?_
  refine At.ktext (.q 0 (.n false 1 (.q 2 (.q 3 (.q 4 (.q 5 (.q 6 .done))))))) ?_
  refine AtT.kmove ?_
  refine AtT.kcall rfl rfl ok34 (rapF_f ts _ _ (hs.le hV32)) ?_
  rintro _ V37 hV37 ⟨u37, rfl, hu37⟩
  refine AtT.kmove ?_
  refine AtT.kextract ?_
  refine AtT.kextract ?_
  refine AtT.kassign ?_
  refine AtT.kassign ?_
  refine AtT.done ?_
  refine At.nrm ?_
  replace hs := (hs.le hV32).le hV37
  replace hu := (hu.le hV32).le hV37
  replace hu32 := hu32.le hV37
  refine At.ktext (.q 0 (.q 1 (.q 2 (.q 3 (.q 4 (.q 5 (.q 6 (.q 7 (.q 8 (.q 9 (.q 10 (.n false 11 (.q 12 (.q 13 (.q 14 (.q 15 (.q 16 (.q 17 (.q 18 (.q 19 (.q 20 (.n false 21 (.q 22 (.q 23 (.n false 24 (.q 25 (.q 26 (.q 27 (.n false 28 (.q 29 (.q 30 .done))))))))))))))))))))))))))))))) ?_
  refine AtT.kmove ?_
  refine AtT.kmove ?_
  refine AtT.keqI ?_
  refine AtT.setT (d := 42) rfl (rfl) ?_
  refine AtT.kmove ?_
  all_goals (first | refine AtT.kL 43 ?_ | refine AtT.pcase (d := 43) rfl (fun hg43 => ?_) (fun hg43 => ?_) | refine AtT.bcase (d := 43) rfl (fun hg43 => ?_) (fun hg43 => ?_))
  all_goals (first | refine AtT.kpass ?_ | refine AtT.kpassU ?_ | ((refine AtT.kmove ?_)))
  all_goals (first | refine AtT.kpass ?_ | refine AtT.kpassU ?_ | ((refine AtT.kmove ?_)))
  all_goals (first | refine AtT.kpass ?_ | refine AtT.kpassU ?_ | ((refine AtT.keqI ?_)))
  all_goals (refine AtT.setT (d := 46) rfl (rfl) ?_)
  all_goals (refine AtT.kpick ?_)
  all_goals (refine AtT.kmove ?_)
  all_goals (first | refine AtT.kL 48 ?_ | refine AtT.pcase (d := 48) rfl (fun hg48 => ?_) (fun hg48 => ?_) | refine AtT.bcase (d := 48) rfl (fun hg48 => ?_) (fun hg48 => ?_))
  all_goals (first | refine AtT.kpass ?_ | refine AtT.kpassU ?_ | ((refine AtT.kmove ?_)))
  all_goals (first | refine AtT.kpass ?_ | refine AtT.kpassU ?_ | ((refine AtT.kmove ?_)))
  all_goals (first | refine AtT.kpassN ?_ | refine AtT.kpassNU ?_ | ((refine AtT.kcallP rfl rfl ok23 (ints_f _ _ _ _ _ hu32 hu37) ?_) ; (rintro _ rfl)))
  all_goals (refine AtT.setT (d := 51) rfl (rfl) ?_)
  all_goals (refine AtT.kpick ?_)
  all_goals (refine AtT.kmove ?_)
  all_goals (first | refine AtT.kL 53 ?_ | refine AtT.pcase (d := 53) rfl (fun hg53 => ?_) (fun hg53 => ?_) | refine AtT.bcase (d := 53) rfl (fun hg53 => ?_) (fun hg53 => ?_))
  all_goals (first | refine AtT.kpass ?_ | refine AtT.kpassU ?_ | ((refine AtT.kmove ?_)))
  all_goals (first | refine AtT.kpass ?_ | refine AtT.kpassU ?_ | ((refine AtT.kmove ?_)))
  all_goals (first | refine AtT.kpass ?_ | refine AtT.kpassU ?_ | ((refine AtT.keqI ?_)))
  all_goals (refine AtT.setT (d := 56) rfl (rfl) ?_)
  all_goals (refine AtT.kpick ?_)
  all_goals (refine AtT.kmove ?_)
  all_goals (first | refine AtT.kL 58 ?_ | refine AtT.pcase (d := 58) rfl (fun hg58 => ?_) (fun hg58 => ?_) | refine AtT.bcase (d := 58) rfl (fun hg58 => ?_) (fun hg58 => ?_))
  all_goals (first | refine AtT.kpass ?_ | refine AtT.kpassU ?_ | ((refine AtT.kmove ?_)))
  all_goals (first | refine AtT.kpass ?_ | refine AtT.kpassU ?_ | ((refine AtT.kmove ?_)))
  all_goals (first | refine AtT.kpassN ?_ | refine AtT.kpassNU ?_ | ((refine AtT.kcallP rfl rfl ok35 (ckAp_f ts ap _ _ _ hs hu) ?_) ; (rintro _ rfl)))
  all_goals (first | refine AtT.kpass ?_ | refine AtT.kpassU ?_ | ((refine AtT.kmove ?_)))
  all_goals (first | refine AtT.kpass ?_ | refine AtT.kpassU ?_ | ((refine AtT.kmove ?_)))
  all_goals (first | refine AtT.kpassN ?_ | refine AtT.kpassNU ?_ | ((refine AtT.kcallP rfl rfl ok36 (rckAp_f ts ap _ _ _ hs hu) ?_) ; (rintro _ rfl)))
  all_goals (first | refine AtT.kpass ?_ | refine AtT.kpassU ?_ | ((refine AtT.keqI ?_)))
  all_goals (refine AtT.setT (d := 65) rfl (rfl) ?_)
  all_goals (refine AtT.kpick ?_)
  all_goals (refine AtT.kmove ?_)
  all_goals (first | refine AtT.kL 67 ?_ | refine AtT.pcase (d := 67) rfl (fun hg67 => ?_) (fun hg67 => ?_) | refine AtT.bcase (d := 67) rfl (fun hg67 => ?_) (fun hg67 => ?_))
  all_goals (first | refine AtT.kpassN ?_ | refine AtT.kpassNU ?_ | ((refine AtT.kcallP rfl rfl ok16 (works_f _) ?_) ; (rintro _ rfl)))
  all_goals (refine AtT.kpick ?_)
  all_goals (refine AtT.kassign ?_)
  all_goals refine AtT.done ?_
  all_goals (refine At.nrm ?_)
  exact At.ret1 rfl (.tmp rfl) rfl
end Go.Proofs.Ytfcpmblmklibjaa
set_option linter.unusedVariables false
namespace Go.Proofs.Ytfcpmblmklibjaa.c3
open Go.Lw Go.Gl Go.Bl Go.RowKit Go.ChangeShapes Go.WideShapes Go.ChangeAt

set_option maxRecDepth 100000 in
theorem lifted (os : Os) (started : os.Started) (H : Type) (enc : TypeId × Value → H) :
    ReturnsInHanded {} Try.checked os 5 .any (Rows.boilApartsSpec.pre6 enc Try.prog Try.f5 Rows.boilApartsRow.domain false) (Rows.boilApartsSpec.post enc Try.prog Try.f5 false true false false) := by
  refine law_lift (tb := 4) (fun ds hd => by match ds, hd with | [d0, d1], _ => rfl) rfl (by kernel_rfl) Try.underlying4 laidOut (by kernel_rfl) own started (by kernel_rfl) Try.func5
    (ChangeSpec.witness6 (enc := enc) (C := Try.checked) false ⟨#[], #[.slice none 0 0, .slice none 0 0], []⟩ 8 (by kernel_rfl) (by kernel_rfl) (by kernel_rfl) (by kernel_rfl)) ?_
  intro W base args ds ps hval hA
  rw [Try.params5] at hA hval
  obtain ⟨v0, vs0, d0, ds0, p0, q0, hargs, rfl, rfl, h0, r0⟩ := trodAll_cons hA
  obtain ⟨v1, vs1, d1, ds1, p1, q1, rfl, rfl, rfl, h1, r1⟩ := trodAll_cons r0
  obtain ⟨rfl, rfl, rfl⟩ := trodAll_nil r1
  obtain rfl : args = #[v0, v1] := by cases args; simp_all
  obtain ⟨l0, a0, c0, rfl, s0⟩ := rd_trials (hval 0 22 v0 rfl rfl) h0
  obtain ⟨l1, a1, c1, rfl, s1⟩ := rd_ints (hval 1 25 v1 rfl rfl) h1
  exact ⟨[.slice a0 l0.length c0, .slice a1 l1.length c1], rfl, boilAparts_f l0 l1 _ _ _ s0 s1⟩

theorem over : Rows.boilApartsRow.holds Try.pinned (OpenSpec.ofChange Rows.boilApartsSpec) :=
  OpenClaim.holds_of_wide 5 Try.f5 rfl rfl rfl rfl rfl rfl rfl ⟨rfl, rfl, rfl, rfl, rfl⟩ rfl rfl rfl rfl rfl (by kernel_rfl) Try.func5 (by kernel_rfl)
    (of_decide_eq_true (by kernel_rfl)) (by unfold Func.isWrapper; first | (rw [if_pos (by decide +kernel)]; kernel_rfl) | (rw [if_neg (by decide +kernel)]; exact ⟨rfl, rfl⟩))
    (fun os started H enc _ => lifted os started H enc)

theorem proved : Rows.BoilApartsSaid := over
#print axioms proved
end Go.Proofs.Ytfcpmblmklibjaa.c3
