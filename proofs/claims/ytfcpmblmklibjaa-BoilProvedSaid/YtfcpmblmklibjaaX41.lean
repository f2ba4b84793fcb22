/- The stage's theorem: no given explanation has fewer causes than the smallest ones, and these no fewer than given trials that are apart are many, nor than those that are returned: for all valid trials, causes by numbers and bits, trials by bits. No condition. -/
import Derived.Test.YtfcpmblmklibjaaB6
set_option linter.unusedVariables false
set_option linter.unusedSimpArgs false
set_option linter.unusedSectionVars false
set_option linter.unusedVariables false
namespace Go.Proofs.Ytfcpmblmklibjaa
open Go.Lw Go.Gl Go.Bl Go.RowKit

/-- THE STAGE'S THEOREM. -/
theorem boilProved_f (ts : List Tq) (by' : List U8) (x y : Int) (hx : 0 ≤ x ∧ x ≤ 65535) (hy0 : 0 ≤ y ∧ y ≤ 65535) (V : View) (v vb : Value) (hs : Sl V tqe 4 v ts) (hy : Sl V e8 1 vb by') : Fnc Try.prog 6 [v, vb, .int .u16 x, .int .u16 y] V fun r _ => r = .bool true := by
  obtain ⟨a, c, rfl, k1, k2, _⟩ := id hs
  obtain ⟨ab, cb, rfl, k3, k4, _⟩ := id hy
  clear k1 k2 k3 k4
  refine fn_of Try.func6 rfl Try.ntmps6 (Nat.le_of_ble_eq_true rfl) ?_
  intro w0 hw0
  refine At.nrm ?_
  refine At.ktext (.q 0 .done) ?_
  refine AtT.kassign ?_
  refine AtT.done ?_
  refine At.nrm ?_
  by_cases g0 : trE ts = 0
  rotate_left
  · refine At.ktext (.q 0 (.n false 1 (.q 2 (.q 3 (.q 4 (.q 5 (.q 6 (.q 7 .done)))))))) ?_
    refine AtT.kmove ?_
    refine AtT.kcallP rfl rfl ok37 (fine_f ts _ _ hs) ?_
    rintro _ rfl
    refine AtT.setF (d := 18) rfl (g0) ?_
    refine AtT.knot ?_
    refine AtT.setB (d := 19) rfl ((show (!false) = true from rfl)) ?_
    refine AtT.kmove ?_
    all_goals (first | refine AtT.kL 20 ?_ | refine AtT.pcase (d := 20) rfl (fun hg20 => ?_) (fun hg20 => ?_) | refine AtT.bcase (d := 20) rfl (fun hg20 => ?_) (fun hg20 => ?_))
    all_goals (first | refine AtT.kpass ?_ | refine AtT.kpassU ?_ | ((refine AtT.kmove ?_)))
    all_goals (first | refine AtT.kpass ?_ | refine AtT.kpassU ?_ | ((first | refine AtT.klenS Try.underlying44 ?_ | refine AtT.klenR Try.underlying44 ?_)))
    all_goals (first | refine AtT.kpass ?_ | refine AtT.kpassU ?_ | ((refine AtT.kgtr ?_)))
    all_goals (refine AtT.kpick ?_)
    all_goals refine AtT.done ?_
    all_goals (refine At.nrm ?_)
    refine At.condT rfl rfl ?_
    refine At.nrm ?_
    refine At.ktext (.n false 0 (.q 1 .done)) ?_
    refine AtT.kcallP rfl rfl ok16 (works_f _) ?_
    rintro _ rfl
    refine AtT.kassign ?_
    refine AtT.done ?_
    refine At.nrm ?_
    exact At.ret1 rfl (.tmp rfl) rfl
  by_cases g1 : 20 < (by'.length : Int)
  · refine At.ktext (.q 0 (.n false 1 (.q 2 (.q 3 (.q 4 (.q 5 (.q 6 (.q 7 .done)))))))) ?_
    refine AtT.kmove ?_
    refine AtT.kcallP rfl rfl ok37 (fine_f ts _ _ hs) ?_
    rintro _ rfl
    refine AtT.setT (d := 18) rfl (g0) ?_
    refine AtT.knot ?_
    refine AtT.setB (d := 19) rfl ((show (!true) = false from rfl)) ?_
    refine AtT.kmove ?_
    all_goals (first | refine AtT.kL 20 ?_ | refine AtT.pcase (d := 20) rfl (fun hg20 => ?_) (fun hg20 => ?_) | refine AtT.bcase (d := 20) rfl (fun hg20 => ?_) (fun hg20 => ?_))
    all_goals (first | refine AtT.kpass ?_ | refine AtT.kpassU ?_ | ((refine AtT.kmove ?_)))
    all_goals (first | refine AtT.kpass ?_ | refine AtT.kpassU ?_ | ((first | refine AtT.klenS Try.underlying44 ?_ | refine AtT.klenR Try.underlying44 ?_)))
    all_goals (first | refine AtT.kpass ?_ | refine AtT.kpassU ?_ | ((refine AtT.kgtr ?_)))
    all_goals (refine AtT.setT (d := 23) rfl (g1) ?_)
    all_goals (refine AtT.kpick ?_)
    all_goals refine AtT.done ?_
    all_goals (refine At.nrm ?_)
    refine At.condT rfl rfl ?_
    refine At.nrm ?_
    refine At.ktext (.n false 0 (.q 1 .done)) ?_
    refine AtT.kcallP rfl rfl ok16 (works_f _) ?_
    rintro _ rfl
    refine AtT.kassign ?_
    refine AtT.done ?_
    refine At.nrm ?_
    exact At.ret1 rfl (.tmp rfl) rfl
  refine At.ktext (.q 0 (.n false 1 (.q 2 (.q 3 (.q 4 (.q 5 (.q 6 (.q 7 .done)))))))) ?_
  refine AtT.kmove ?_
  refine AtT.kcallP rfl rfl ok37 (fine_f ts _ _ hs) ?_
  rintro _ rfl
  refine AtT.setT (d := 18) rfl (g0) ?_
  refine AtT.knot ?_
  refine AtT.setB (d := 19) rfl ((show (!true) = false from rfl)) ?_
  refine AtT.kmove ?_
  all_goals (first | refine AtT.kL 20 ?_ | refine AtT.pcase (d := 20) rfl (fun hg20 => ?_) (fun hg20 => ?_) | refine AtT.bcase (d := 20) rfl (fun hg20 => ?_) (fun hg20 => ?_))
  all_goals (first | refine AtT.kpass ?_ | refine AtT.kpassU ?_ | ((refine AtT.kmove ?_)))
  all_goals (first | refine AtT.kpass ?_ | refine AtT.kpassU ?_ | ((first | refine AtT.klenS Try.underlying44 ?_ | refine AtT.klenR Try.underlying44 ?_)))
  all_goals (first | refine AtT.kpass ?_ | refine AtT.kpassU ?_ | ((refine AtT.kgtr ?_)))
  all_goals (refine AtT.setF (d := 23) rfl (g1) ?_)
  all_goals (refine AtT.kpick ?_)
  all_goals refine AtT.done ?_
  all_goals (refine At.nrm ?_)
  refine At.condF rfl rfl ?_
  obtain ⟨N, rfl⟩ : ∃ N : Nat, y = (N : Int) := ⟨y.toNat, by omega⟩
  have h16 := (trE_ok g0).1
  have hck := ap_ok g0
  rw [← apR_eq g0] at hck
  have hbst : ∀ l, ckR ts l = 0 → (l.length : Int) ≤ (apR ts).length := fun l hl => by have := ap_best g0 hl; rw [apR_eq g0]; omega
  by_cases he : alE ts = 0
  · refine At.nrm ?_
    refine At.ktext (.q 0 (.n false 1 (.q 2 (.q 3 (.q 4 (.q 5 (.q 6 (.q 7 (.q 8 .done))))))))) ?_
    refine AtT.kmove ?_
    refine AtT.kcall rfl rfl ok38 (sets_ok ts he _ _ hs) ?_
    rintro _ V28 hV28 ⟨u, L, rfl, hal, hu⟩
    refine AtT.kmove ?_
    refine AtT.kextract ?_
    refine AtT.kextract ?_
    refine AtT.kextract ?_
    refine AtT.kassign ?_
    refine AtT.kassign ?_
    refine AtT.kassign ?_
    refine AtT.done ?_
    refine At.nrm ?_
    replace hs := hs.le hV28
    replace hy := hy.le hV28
    obtain ⟨qs, aq, cq, rfl, hq, hql, hqs⟩ := hu.at
    have hne := als_ne he hal
    obtain ⟨x0, hx0⟩ : ∃ x0, L[0]? = some x0 := by cases L with | nil => exact absurd rfl hne | cons z L => exact ⟨z, rfl⟩
    have hpos : 0 < L.length := (List.getElem?_eq_some_iff.1 hx0).1
    obtain ⟨q0, hq0⟩ : ∃ q0, qs[0]? = some q0 := ⟨_, List.getElem?_eq_getElem (by omega)⟩
    have hs0 := hqs 0 q0 x0 hq0 hx0
    have hmin := (hal.mem x0).1 (List.mem_of_getElem? hx0)
    have hhit : (apR ts).length ≤ (bitL x0 15).length := ap_hit g0 hck hmin.1
    refine At.ktext (.q 0 (.n false 1 (.q 2 (.q 3 (.q 4 (.q 5 (.q 6 .done))))))) ?_
    refine AtT.kmove ?_
    refine AtT.kcall rfl rfl ok33 (apF_f ts _ _ hs) ?_
    rintro _ V34 hV34 ⟨p, rfl, hp⟩; rw [g0]
    refine AtT.kmove ?_
    refine AtT.kextract ?_
    refine AtT.kextract ?_
    refine AtT.kassign ?_
    refine AtT.kassign ?_
    refine AtT.done ?_
    refine At.nrm ?_
    replace hs := hs.le hV34
    replace hy := hy.le hV34
    replace hq := hq.le hV34
    replace hs0 := hs0.le hV34
    obtain ⟨ap, cp, rfl, _⟩ := id hp
    refine At.ktext (.q 0 (.q 1 (.q 2 (.q 3 (.q 4 (.q 5 (.q 6 (.q 7 (.q 8 (.n false 9 (.q 10 (.q 11 (.q 12 (.q 13 (.q 14 (.n false 15 (.q 16 (.q 17 .done)))))))))))))))))) ?_
    refine AtT.kmove ?_
    refine AtT.knot ?_
    refine AtT.setB (d := 38) rfl ((show (!true) = false from rfl)) ?_
    refine AtT.kmove ?_
    all_goals (first | refine AtT.kL 39 ?_ | refine AtT.pcase (d := 39) rfl (fun hg39 => ?_) (fun hg39 => ?_) | refine AtT.bcase (d := 39) rfl (fun hg39 => ?_) (fun hg39 => ?_))
    all_goals (first | refine AtT.kpass ?_ | refine AtT.kpassU ?_ | ((refine AtT.kmove ?_)))
    all_goals (first | refine AtT.kpass ?_ | refine AtT.kpassU ?_ | ((refine AtT.kneI ?_)))
    all_goals (refine AtT.setF (d := 41) rfl ((by simp)) ?_)
    all_goals (refine AtT.kpick ?_)
    all_goals (refine AtT.kmove ?_)
    all_goals (first | refine AtT.kL 43 ?_ | refine AtT.pcase (d := 43) rfl (fun hg43 => ?_) (fun hg43 => ?_) | refine AtT.bcase (d := 43) rfl (fun hg43 => ?_) (fun hg43 => ?_))
    all_goals (first | refine AtT.kpass ?_ | refine AtT.kpassU ?_ | ((refine AtT.kmove ?_)))
    all_goals (first | refine AtT.kpass ?_ | refine AtT.kpassU ?_ | ((refine AtT.kmove ?_)))
    all_goals (first | refine AtT.kpassN ?_ | refine AtT.kpassNU ?_ | ((refine AtT.kcallP rfl rfl ok35 (ckAp_f ts (apR ts) _ _ _ hs hp) ?_) ; (rintro _ rfl; rw [hck])))
    all_goals (first | refine AtT.kpass ?_ | refine AtT.kpassU ?_ | ((refine AtT.kneI ?_)))
    all_goals (refine AtT.setF (d := 47) rfl ((by simp)) ?_)
    all_goals (refine AtT.kpick ?_)
    all_goals (refine AtT.kmove ?_)
    all_goals (first | refine AtT.kL 49 ?_ | refine AtT.pcase (d := 49) rfl (fun hg49 => ?_) (fun hg49 => ?_) | refine AtT.bcase (d := 49) rfl (fun hg49 => ?_) (fun hg49 => ?_))
    all_goals (first | refine AtT.kpass ?_ | refine AtT.kpassU ?_ | ((refine AtT.kmove ?_)))
    all_goals (first | refine AtT.kpass ?_ | refine AtT.kpassU ?_ | ((refine AtT.kmove ?_)))
    all_goals (first | refine AtT.kpassN ?_ | refine AtT.kpassNU ?_ | ((refine AtT.kcallP rfl rfl ok36 (rckAp_f ts (apR ts) _ _ _ hs hp) ?_) ; (rintro _ rfl; rw [hck])))
    all_goals (first | refine AtT.kpass ?_ | refine AtT.kpassU ?_ | ((refine AtT.kneI ?_)))
    all_goals (refine AtT.setF (d := 53) rfl ((by simp)) ?_)
    all_goals (refine AtT.kpick ?_)
    all_goals refine AtT.done ?_
    all_goals (refine At.nrm ?_)
    refine At.condF rfl rfl ?_
    refine At.nrm ?_
    refine At.ktext (.q 0 (.q 1 (.q 2 (.q 3 (.n false 4 (.q 5 .done)))))) ?_
    refine AtT.kmove ?_
    refine AtT.kconv un45 Try.underlying3 ?_
    rw [wrap_fit (Fit.of (by omega) (by omega))]
    refine AtT.kmove ?_
    first | refine AtT.klenS Try.underlying22 ?_ | refine AtT.klenR Try.underlying22 ?_
    refine AtT.kcall rfl rfl ok39 (bits_f N ts.length (by omega) (by omega) _) ?_
    rintro v59 V59 hV59 hs59; obtain ⟨a59, c59, rfl, _⟩ := id hs59
    refine AtT.kassign ?_
    refine AtT.done ?_
    refine At.nrm ?_
    replace hs := hs.le hV59
    replace hy := hy.le hV59
    replace hq := hq.le hV59
    replace hs0 := hs0.le hV59
    replace hp := hp.le hV59
    refine At.ktext (.q 0 (.q 1 (.n false 2 (.q 3 .done)))) ?_
    refine AtT.kmove ?_
    refine AtT.kmove ?_
    refine AtT.kcallP rfl rfl ok35 (ckAp_f ts (bitL N ts.length) _ _ _ hs hs59) ?_
    rintro _ rfl
    refine AtT.kassign ?_
    refine AtT.done ?_
    refine At.nrm ?_
    refine At.cutG (ι := Unit) (fun _ => [(0, .slice a ts.length c), (1, .slice ab by'.length cb), (2, .int .u16 x), (9, .slice aq qs.length cq), (10, .bool true), (12, .slice ap (apR ts).length cp), (78, .bool false)]) (fun _ => []) (fun _ V'' => V'' = V59) ?_ ?_
    · by_cases hk : ckR ts (bitL N ts.length) = 0
      · refine At.ktext (.q 0 (.q 1 (.q 2 (.n false 3 (.q 4 (.q 5 (.q 6 (.q 7 (.q 8 (.q 9 (.q 10 (.q 11 (.q 12 (.q 13 (.q 14 (.q 15 .done)))))))))))))))) ?_
        refine AtT.kmove ?_
        refine AtT.kmove ?_
        refine AtT.kmove ?_
        refine AtT.kcallP rfl rfl ok36 (rckAp_f ts (bitL N ts.length) _ _ _ hs hs59) ?_
        rintro _ rfl
        refine AtT.kneI ?_
        refine AtT.setF (d := 67) rfl ((by simp)) ?_
        refine AtT.kmove ?_
        all_goals (first | refine AtT.kL 68 ?_ | refine AtT.pcase (d := 68) rfl (fun hg68 => ?_) (fun hg68 => ?_) | refine AtT.bcase (d := 68) rfl (fun hg68 => ?_) (fun hg68 => ?_))
        all_goals (first | refine AtT.kpass ?_ | refine AtT.kpassU ?_ | ((refine AtT.kmove ?_)))
        all_goals (first | refine AtT.kpass ?_ | refine AtT.kpassU ?_ | ((refine AtT.keqI ?_)))
        all_goals (refine AtT.setT (d := 70) rfl (hk) ?_)
        all_goals (first | refine AtT.kpass ?_ | refine AtT.kpassU ?_ | ((refine AtT.kmove ?_)))
        all_goals (first | refine AtT.kL 71 ?_ | refine AtT.pcase (d := 71) rfl (fun hg71 => ?_) (fun hg71 => ?_) | refine AtT.bcase (d := 71) rfl (fun hg71 => ?_) (fun hg71 => ?_))
        all_goals (first | refine AtT.kpass ?_ | refine AtT.kpassU ?_ | ((refine AtT.kmove ?_)))
        all_goals (first | refine AtT.kpass ?_ | refine AtT.kpassU ?_ | ((first | refine AtT.klenS Try.underlying25 ?_ | refine AtT.klenR Try.underlying25 ?_)))
        all_goals (first | refine AtT.kpass ?_ | refine AtT.kpassU ?_ | ((refine AtT.kmove ?_)))
        all_goals (first | refine AtT.kpass ?_ | refine AtT.kpassU ?_ | ((first | refine AtT.klenS Try.underlying25 ?_ | refine AtT.klenR Try.underlying25 ?_)))
        all_goals (first | refine AtT.kpass ?_ | refine AtT.kpassU ?_ | ((refine AtT.kgtr ?_)))
        all_goals (refine AtT.setF (d := 76) rfl ((by have := hbst _ hk; omega)) ?_)
        all_goals (first | refine AtT.kpass ?_ | refine AtT.kpassU ?_ | ((refine AtT.kpick ?_)))
        all_goals (refine AtT.kpick ?_)
        all_goals refine AtT.done ?_
        all_goals (refine At.nrm ?_)
        exact At.meetG () rfl ⟨rfl, rfl, rfl, rfl, rfl, rfl, rfl, trivial⟩ Pt.auto
      · refine At.ktext (.q 0 (.q 1 (.q 2 (.n false 3 (.q 4 (.q 5 (.q 6 (.q 7 (.q 8 (.q 9 (.q 10 (.q 11 (.q 12 (.q 13 (.q 14 (.q 15 .done)))))))))))))))) ?_
        refine AtT.kmove ?_
        refine AtT.kmove ?_
        refine AtT.kmove ?_
        refine AtT.kcallP rfl rfl ok36 (rckAp_f ts (bitL N ts.length) _ _ _ hs hs59) ?_
        rintro _ rfl
        refine AtT.kneI ?_
        refine AtT.setF (d := 67) rfl ((by simp)) ?_
        refine AtT.kmove ?_
        all_goals (first | refine AtT.kL 68 ?_ | refine AtT.pcase (d := 68) rfl (fun hg68 => ?_) (fun hg68 => ?_) | refine AtT.bcase (d := 68) rfl (fun hg68 => ?_) (fun hg68 => ?_))
        all_goals (first | refine AtT.kpass ?_ | refine AtT.kpassU ?_ | ((refine AtT.kmove ?_)))
        all_goals (first | refine AtT.kpass ?_ | refine AtT.kpassU ?_ | ((refine AtT.keqI ?_)))
        all_goals (refine AtT.setF (d := 70) rfl (hk) ?_)
        all_goals (first | refine AtT.kpass ?_ | refine AtT.kpassU ?_ | ((refine AtT.kmove ?_)))
        all_goals (first | refine AtT.kL 71 ?_ | refine AtT.pcase (d := 71) rfl (fun hg71 => ?_) (fun hg71 => ?_) | refine AtT.bcase (d := 71) rfl (fun hg71 => ?_) (fun hg71 => ?_))
        all_goals (first | refine AtT.kpass ?_ | refine AtT.kpassU ?_ | ((refine AtT.kmove ?_)))
        all_goals (first | refine AtT.kpass ?_ | refine AtT.kpassU ?_ | ((first | refine AtT.klenS Try.underlying25 ?_ | refine AtT.klenR Try.underlying25 ?_)))
        all_goals (first | refine AtT.kpass ?_ | refine AtT.kpassU ?_ | ((refine AtT.kmove ?_)))
        all_goals (first | refine AtT.kpass ?_ | refine AtT.kpassU ?_ | ((first | refine AtT.klenS Try.underlying25 ?_ | refine AtT.klenR Try.underlying25 ?_)))
        all_goals (first | refine AtT.kpass ?_ | refine AtT.kpassU ?_ | ((refine AtT.kgtr ?_)))
        all_goals (first | refine AtT.kpass ?_ | refine AtT.kpassU ?_ | ((refine AtT.kpick ?_)))
        all_goals (refine AtT.kpick ?_)
        all_goals refine AtT.done ?_
        all_goals (refine At.nrm ?_)
        exact At.meetG () rfl ⟨rfl, rfl, rfl, rfl, rfl, rfl, rfl, trivial⟩ Pt.auto
    rintro _ V3 ks' O' rfl hk hO hl4
    subst hk hO
    refine At.condF rfl rfl ?_
    refine At.nrm ?_
    refine At.ktext (.q 0 (.q 1 .done)) ?_
    refine AtT.kmove ?_
    refine AtT.knot ?_
    refine AtT.setB (d := 80) rfl ((show (!true) = false from rfl)) ?_
    refine AtT.done ?_
    refine At.nrm ?_
    refine At.condF rfl rfl ?_
    refine At.nrm ?_
    refine At.ktext (.q 0 (.q 1 (.q 2 (.n false 3 (.q 4 .done))))) ?_
    refine AtT.kmove ?_
    refine AtT.kmove ?_
    refine AtT.kmove ?_
    refine AtT.kcall rfl rfl ok40 (given_f ts g0 by' x hx _ _ _ hs hy (by omega)) ?_
    rintro v85 V85 hV85 ⟨A, hA1, hA2, hA3, hs85⟩; obtain ⟨a85, c85, rfl, _⟩ := id hs85
    refine AtT.kassign ?_
    refine AtT.done ?_
    refine At.nrm ?_
    have hEx := giv_ex he hA1 hA2 hA3
    have hcc := cc_ex g0 hEx
    have hle : (bitL x0 15).length ≤ (bitL A 15).length := hmin.2 A hEx
    replace hs := hs.le hV85
    replace hq := hq.le hV85
    replace hs0 := hs0.le hV85
    replace hp := hp.le hV85
    refine At.ktext (.q 0 (.q 1 (.n false 2 (.q 3 (.q 4 (.q 5 (.q 6 (.q 7 (.q 8 (.q 9 (.q 10 (.q 11 (.q 12 (.q 13 (.q 14 (.q 15 (.q 16 (.q 17 (.q 18 (.q 19 (.q 20 (.q 21 (.q 22 (.n false 23 (.q 24 (.q 25 .done)))))))))))))))))))))))))) ?_
    refine AtT.kmove ?_
    refine AtT.kmove ?_
    refine AtT.kcallP rfl rfl ok24 (checkCauses_f ts (bitL A 15) _ _ _ hs hs85) ?_
    rintro _ rfl; rw [hcc]
    refine AtT.keqI ?_
    refine AtT.setT (d := 89) rfl (rfl) ?_
    refine AtT.kmove ?_
    all_goals (first | refine AtT.kL 90 ?_ | refine AtT.pcase (d := 90) rfl (fun hg90 => ?_) (fun hg90 => ?_) | refine AtT.bcase (d := 90) rfl (fun hg90 => ?_) (fun hg90 => ?_))
    all_goals (first | refine AtT.kpass ?_ | refine AtT.kpassU ?_ | ((refine AtT.kmove ?_)))
    all_goals (first | refine AtT.kpass ?_ | refine AtT.kpassU ?_ | ((first | refine AtT.klenS Try.underlying25 ?_ | refine AtT.klenR Try.underlying25 ?_)))
    all_goals (first | refine AtT.kpass ?_ | refine AtT.kpassU ?_ | ((refine AtT.kmove ?_)))
    all_goals (first | refine AtT.kpass ?_ | refine AtT.kpassU ?_ | ((refine AtT.kidx Try.underlying39 tk25 ?_) ; (intro p94 e94 he94 hc94)))
    all_goals (obtain rfl : q0 = e94 := by have : qs[0]? = some e94 := (by simpa using he94); rw [hq0] at this; simpa using this)
    all_goals (first | refine AtT.kpass ?_ | refine AtT.kpassU ?_ | ((first | refine AtT.kloadO tk25 ?_ | refine AtT.kload tk25 ?_)))
    all_goals (first | refine AtT.kpass ?_ | refine AtT.kpassU ?_ | ((first | refine AtT.klenS Try.underlying25 ?_ | refine AtT.klenR Try.underlying25 ?_)))
    all_goals (first | refine AtT.kpass ?_ | refine AtT.kpassU ?_ | ((refine AtT.kgeq ?_)))
    all_goals (refine AtT.setT (d := 97) rfl ((by omega)) ?_)
    all_goals (refine AtT.kpick ?_)
    all_goals (refine AtT.kmove ?_)
    all_goals (first | refine AtT.kL 99 ?_ | refine AtT.pcase (d := 99) rfl (fun hg99 => ?_) (fun hg99 => ?_) | refine AtT.bcase (d := 99) rfl (fun hg99 => ?_) (fun hg99 => ?_))
    all_goals (first | refine AtT.kpass ?_ | refine AtT.kpassU ?_ | ((refine AtT.kmove ?_)))
    all_goals (first | refine AtT.kpass ?_ | refine AtT.kpassU ?_ | ((refine AtT.kidx Try.underlying39 tk25 ?_) ; (intro p101 e101 he101 hc101)))
    all_goals (obtain rfl : q0 = e101 := by have : qs[0]? = some e101 := (by simpa using he101); rw [hq0] at this; simpa using this)
    all_goals (first | refine AtT.kpass ?_ | refine AtT.kpassU ?_ | ((first | refine AtT.kloadO tk25 ?_ | refine AtT.kload tk25 ?_)))
    all_goals (first | refine AtT.kpass ?_ | refine AtT.kpassU ?_ | ((first | refine AtT.klenS Try.underlying25 ?_ | refine AtT.klenR Try.underlying25 ?_)))
    all_goals (first | refine AtT.kpass ?_ | refine AtT.kpassU ?_ | ((refine AtT.kmove ?_)))
    all_goals (first | refine AtT.kpass ?_ | refine AtT.kpassU ?_ | ((first | refine AtT.klenS Try.underlying25 ?_ | refine AtT.klenR Try.underlying25 ?_)))
    all_goals (first | refine AtT.kpass ?_ | refine AtT.kpassU ?_ | ((refine AtT.kgeq ?_)))
    all_goals (refine AtT.setT (d := 106) rfl ((by omega)) ?_)
    all_goals (refine AtT.kpick ?_)
    all_goals (refine AtT.kmove ?_)
    all_goals (first | refine AtT.kL 108 ?_ | refine AtT.pcase (d := 108) rfl (fun hg108 => ?_) (fun hg108 => ?_) | refine AtT.bcase (d := 108) rfl (fun hg108 => ?_) (fun hg108 => ?_))
    all_goals (first | refine AtT.kpassN ?_ | refine AtT.kpassNU ?_ | ((refine AtT.kcallP rfl rfl ok16 (works_f _) ?_) ; (rintro _ rfl)))
    all_goals (refine AtT.kpick ?_)
    all_goals (refine AtT.kassign ?_)
    all_goals refine AtT.done ?_
    all_goals (refine At.nrm ?_)
    exact At.ret1 rfl (.tmp rfl) rfl
  · refine At.nrm ?_
    refine At.ktext (.q 0 (.n false 1 (.q 2 (.q 3 (.q 4 (.q 5 (.q 6 (.q 7 (.q 8 .done))))))))) ?_
    refine AtT.kmove ?_
    refine AtT.kcallP rfl rfl ok38 (sets_no ts g0 he _ _ hs) ?_
    rintro _ rfl
    refine AtT.kmove ?_
    refine AtT.kextract ?_
    refine AtT.kextract ?_
    refine AtT.kextract ?_
    refine AtT.kassign ?_
    refine AtT.kassign ?_
    refine AtT.kassign ?_
    refine AtT.done ?_
    refine At.nrm ?_
    refine At.ktext (.q 0 (.n false 1 (.q 2 (.q 3 (.q 4 (.q 5 (.q 6 .done))))))) ?_
    refine AtT.kmove ?_
    refine AtT.kcall rfl rfl ok33 (apF_f ts _ _ hs) ?_
    rintro _ V34 hV34 ⟨p, rfl, hp⟩; rw [g0]
    refine AtT.kmove ?_
    refine AtT.kextract ?_
    refine AtT.kextract ?_
    refine AtT.kassign ?_
    refine AtT.kassign ?_
    refine AtT.done ?_
    refine At.nrm ?_
    replace hs := hs.le hV34
    obtain ⟨ap, cp, rfl, _⟩ := id hp
    refine At.ktext (.q 0 (.q 1 (.q 2 (.q 3 (.q 4 (.q 5 (.q 6 (.q 7 (.q 8 (.n false 9 (.q 10 (.q 11 (.q 12 (.q 13 (.q 14 (.n false 15 (.q 16 (.q 17 .done)))))))))))))))))) ?_
    refine AtT.kmove ?_
    refine AtT.knot ?_
    refine AtT.setB (d := 38) rfl ((show (!true) = false from rfl)) ?_
    refine AtT.kmove ?_
    all_goals (first | refine AtT.kL 39 ?_ | refine AtT.pcase (d := 39) rfl (fun hg39 => ?_) (fun hg39 => ?_) | refine AtT.bcase (d := 39) rfl (fun hg39 => ?_) (fun hg39 => ?_))
    all_goals (first | refine AtT.kpass ?_ | refine AtT.kpassU ?_ | ((refine AtT.kmove ?_)))
    all_goals (first | refine AtT.kpass ?_ | refine AtT.kpassU ?_ | ((refine AtT.kneI ?_)))
    all_goals (refine AtT.setF (d := 41) rfl ((by simp)) ?_)
    all_goals (refine AtT.kpick ?_)
    all_goals (refine AtT.kmove ?_)
    all_goals (first | refine AtT.kL 43 ?_ | refine AtT.pcase (d := 43) rfl (fun hg43 => ?_) (fun hg43 => ?_) | refine AtT.bcase (d := 43) rfl (fun hg43 => ?_) (fun hg43 => ?_))
    all_goals (first | refine AtT.kpass ?_ | refine AtT.kpassU ?_ | ((refine AtT.kmove ?_)))
    all_goals (first | refine AtT.kpass ?_ | refine AtT.kpassU ?_ | ((refine AtT.kmove ?_)))
    all_goals (first | refine AtT.kpassN ?_ | refine AtT.kpassNU ?_ | ((refine AtT.kcallP rfl rfl ok35 (ckAp_f ts (apR ts) _ _ _ hs hp) ?_) ; (rintro _ rfl; rw [hck])))
    all_goals (first | refine AtT.kpass ?_ | refine AtT.kpassU ?_ | ((refine AtT.kneI ?_)))
    all_goals (refine AtT.setF (d := 47) rfl ((by simp)) ?_)
    all_goals (refine AtT.kpick ?_)
    all_goals (refine AtT.kmove ?_)
    all_goals (first | refine AtT.kL 49 ?_ | refine AtT.pcase (d := 49) rfl (fun hg49 => ?_) (fun hg49 => ?_) | refine AtT.bcase (d := 49) rfl (fun hg49 => ?_) (fun hg49 => ?_))
    all_goals (first | refine AtT.kpass ?_ | refine AtT.kpassU ?_ | ((refine AtT.kmove ?_)))
    all_goals (first | refine AtT.kpass ?_ | refine AtT.kpassU ?_ | ((refine AtT.kmove ?_)))
    all_goals (first | refine AtT.kpassN ?_ | refine AtT.kpassNU ?_ | ((refine AtT.kcallP rfl rfl ok36 (rckAp_f ts (apR ts) _ _ _ hs hp) ?_) ; (rintro _ rfl; rw [hck])))
    all_goals (first | refine AtT.kpass ?_ | refine AtT.kpassU ?_ | ((refine AtT.kneI ?_)))
    all_goals (refine AtT.setF (d := 53) rfl ((by simp)) ?_)
    all_goals (refine AtT.kpick ?_)
    all_goals refine AtT.done ?_
    all_goals (refine At.nrm ?_)
    refine At.condF rfl rfl ?_
    refine At.nrm ?_
    refine At.ktext (.q 0 (.q 1 (.q 2 (.q 3 (.n false 4 (.q 5 .done)))))) ?_
    refine AtT.kmove ?_
    refine AtT.kconv un45 Try.underlying3 ?_
    rw [wrap_fit (Fit.of (by omega) (by omega))]
    refine AtT.kmove ?_
    first | refine AtT.klenS Try.underlying22 ?_ | refine AtT.klenR Try.underlying22 ?_
    refine AtT.kcall rfl rfl ok39 (bits_f N ts.length (by omega) (by omega) _) ?_
    rintro v59 V59 hV59 hs59; obtain ⟨a59, c59, rfl, _⟩ := id hs59
    refine AtT.kassign ?_
    refine AtT.done ?_
    refine At.nrm ?_
    replace hs := hs.le hV59
    replace hp := hp.le hV59
    refine At.ktext (.q 0 (.q 1 (.n false 2 (.q 3 .done)))) ?_
    refine AtT.kmove ?_
    refine AtT.kmove ?_
    refine AtT.kcallP rfl rfl ok35 (ckAp_f ts (bitL N ts.length) _ _ _ hs hs59) ?_
    rintro _ rfl
    refine AtT.kassign ?_
    refine AtT.done ?_
    refine At.nrm ?_
    refine At.cutG (ι := Unit) (fun _ => [(10, .bool false), (78, .bool false)]) (fun _ => []) (fun _ V'' => V'' = V59) ?_ ?_
    · by_cases hk : ckR ts (bitL N ts.length) = 0
      · refine At.ktext (.q 0 (.q 1 (.q 2 (.n false 3 (.q 4 (.q 5 (.q 6 (.q 7 (.q 8 (.q 9 (.q 10 (.q 11 (.q 12 (.q 13 (.q 14 (.q 15 .done)))))))))))))))) ?_
        refine AtT.kmove ?_
        refine AtT.kmove ?_
        refine AtT.kmove ?_
        refine AtT.kcallP rfl rfl ok36 (rckAp_f ts (bitL N ts.length) _ _ _ hs hs59) ?_
        rintro _ rfl
        refine AtT.kneI ?_
        refine AtT.setF (d := 67) rfl ((by simp)) ?_
        refine AtT.kmove ?_
        all_goals (first | refine AtT.kL 68 ?_ | refine AtT.pcase (d := 68) rfl (fun hg68 => ?_) (fun hg68 => ?_) | refine AtT.bcase (d := 68) rfl (fun hg68 => ?_) (fun hg68 => ?_))
        all_goals (first | refine AtT.kpass ?_ | refine AtT.kpassU ?_ | ((refine AtT.kmove ?_)))
        all_goals (first | refine AtT.kpass ?_ | refine AtT.kpassU ?_ | ((refine AtT.keqI ?_)))
        all_goals (refine AtT.setT (d := 70) rfl (hk) ?_)
        all_goals (first | refine AtT.kpass ?_ | refine AtT.kpassU ?_ | ((refine AtT.kmove ?_)))
        all_goals (first | refine AtT.kL 71 ?_ | refine AtT.pcase (d := 71) rfl (fun hg71 => ?_) (fun hg71 => ?_) | refine AtT.bcase (d := 71) rfl (fun hg71 => ?_) (fun hg71 => ?_))
        all_goals (first | refine AtT.kpass ?_ | refine AtT.kpassU ?_ | ((refine AtT.kmove ?_)))
        all_goals (first | refine AtT.kpass ?_ | refine AtT.kpassU ?_ | ((first | refine AtT.klenS Try.underlying25 ?_ | refine AtT.klenR Try.underlying25 ?_)))
        all_goals (first | refine AtT.kpass ?_ | refine AtT.kpassU ?_ | ((refine AtT.kmove ?_)))
        all_goals (first | refine AtT.kpass ?_ | refine AtT.kpassU ?_ | ((first | refine AtT.klenS Try.underlying25 ?_ | refine AtT.klenR Try.underlying25 ?_)))
        all_goals (first | refine AtT.kpass ?_ | refine AtT.kpassU ?_ | ((refine AtT.kgtr ?_)))
        all_goals (refine AtT.setF (d := 76) rfl ((by have := hbst _ hk; omega)) ?_)
        all_goals (first | refine AtT.kpass ?_ | refine AtT.kpassU ?_ | ((refine AtT.kpick ?_)))
        all_goals (refine AtT.kpick ?_)
        all_goals refine AtT.done ?_
        all_goals (refine At.nrm ?_)
        exact At.meetG () rfl ⟨rfl, rfl, trivial⟩ Pt.auto
      · refine At.ktext (.q 0 (.q 1 (.q 2 (.n false 3 (.q 4 (.q 5 (.q 6 (.q 7 (.q 8 (.q 9 (.q 10 (.q 11 (.q 12 (.q 13 (.q 14 (.q 15 .done)))))))))))))))) ?_
        refine AtT.kmove ?_
        refine AtT.kmove ?_
        refine AtT.kmove ?_
        refine AtT.kcallP rfl rfl ok36 (rckAp_f ts (bitL N ts.length) _ _ _ hs hs59) ?_
        rintro _ rfl
        refine AtT.kneI ?_
        refine AtT.setF (d := 67) rfl ((by simp)) ?_
        refine AtT.kmove ?_
        all_goals (first | refine AtT.kL 68 ?_ | refine AtT.pcase (d := 68) rfl (fun hg68 => ?_) (fun hg68 => ?_) | refine AtT.bcase (d := 68) rfl (fun hg68 => ?_) (fun hg68 => ?_))
        all_goals (first | refine AtT.kpass ?_ | refine AtT.kpassU ?_ | ((refine AtT.kmove ?_)))
        all_goals (first | refine AtT.kpass ?_ | refine AtT.kpassU ?_ | ((refine AtT.keqI ?_)))
        all_goals (refine AtT.setF (d := 70) rfl (hk) ?_)
        all_goals (first | refine AtT.kpass ?_ | refine AtT.kpassU ?_ | ((refine AtT.kmove ?_)))
        all_goals (first | refine AtT.kL 71 ?_ | refine AtT.pcase (d := 71) rfl (fun hg71 => ?_) (fun hg71 => ?_) | refine AtT.bcase (d := 71) rfl (fun hg71 => ?_) (fun hg71 => ?_))
        all_goals (first | refine AtT.kpass ?_ | refine AtT.kpassU ?_ | ((refine AtT.kmove ?_)))
        all_goals (first | refine AtT.kpass ?_ | refine AtT.kpassU ?_ | ((first | refine AtT.klenS Try.underlying25 ?_ | refine AtT.klenR Try.underlying25 ?_)))
        all_goals (first | refine AtT.kpass ?_ | refine AtT.kpassU ?_ | ((refine AtT.kmove ?_)))
        all_goals (first | refine AtT.kpass ?_ | refine AtT.kpassU ?_ | ((first | refine AtT.klenS Try.underlying25 ?_ | refine AtT.klenR Try.underlying25 ?_)))
        all_goals (first | refine AtT.kpass ?_ | refine AtT.kpassU ?_ | ((refine AtT.kgtr ?_)))
        all_goals (first | refine AtT.kpass ?_ | refine AtT.kpassU ?_ | ((refine AtT.kpick ?_)))
        all_goals (refine AtT.kpick ?_)
        all_goals refine AtT.done ?_
        all_goals (refine At.nrm ?_)
        exact At.meetG () rfl ⟨rfl, rfl, trivial⟩ Pt.auto
    rintro _ V3 ks' O' rfl hk hO hl4
    subst hk hO
    refine At.condF rfl rfl ?_
    refine At.nrm ?_
    refine At.ktext (.q 0 (.q 1 .done)) ?_
    refine AtT.kmove ?_
    refine AtT.knot ?_
    refine AtT.setB (d := 80) rfl ((show (!false) = true from rfl)) ?_
    refine AtT.done ?_
    refine At.nrm ?_
    refine At.condT rfl rfl ?_
    refine At.nrm ?_
    refine At.ktext (.n false 0 (.q 1 .done)) ?_
    refine AtT.kcallP rfl rfl ok16 (works_f _) ?_
    rintro _ rfl
    refine AtT.kassign ?_
    refine AtT.done ?_
    refine At.nrm ?_
    exact At.ret1 rfl (.tmp rfl) rfl
end Go.Proofs.Ytfcpmblmklibjaa
set_option linter.unusedVariables false
namespace Go.Proofs.Ytfcpmblmklibjaa.c4
open Go.Lw Go.Gl Go.Bl Go.RowKit Go.ChangeShapes Go.WideShapes Go.ChangeAt

set_option maxRecDepth 100000 in
theorem lifted (os : Os) (started : os.Started) (H : Type) (enc : TypeId × Value → H) :
    ReturnsInHanded {} Try.checked os 6 .any (Rows.boilProvedSpec.pre6 enc Try.prog Try.f6 Rows.boilProvedRow.domain false) (Rows.boilProvedSpec.post enc Try.prog Try.f6 false true false false) := by
  refine law_lift (tb := 4) (fun ds hd => by match ds, hd with | [d0, d1, d2, d3], _ => rfl) rfl (by kernel_rfl) Try.underlying4 laidOut (by kernel_rfl) own started (by kernel_rfl) Try.func6
    (ChangeSpec.witness6 (enc := enc) (C := Try.checked) false ⟨#[], #[.slice none 0 0, .slice none 0 0, .int .u16 0, .int .u16 0], []⟩ 8 (by kernel_rfl) (by kernel_rfl) (by kernel_rfl) (by kernel_rfl)) ?_
  intro W base args ds ps hval hA
  rw [Try.params6] at hA hval
  obtain ⟨v0, vs0, d0, ds0, p0, q0, hargs, rfl, rfl, h0, r0⟩ := trodAll_cons hA
  obtain ⟨v1, vs1, d1, ds1, p1, q1, rfl, rfl, rfl, h1, r1⟩ := trodAll_cons r0
  obtain ⟨v2, vs2, d2, ds2, p2, q2, rfl, rfl, rfl, h2, r2⟩ := trodAll_cons r1
  obtain ⟨v3, vs3, d3, ds3, p3, q3, rfl, rfl, rfl, h3, r3⟩ := trodAll_cons r2
  obtain ⟨rfl, rfl, rfl⟩ := trodAll_nil r3
  obtain rfl : args = #[v0, v1, v2, v3] := by cases args; simp_all
  obtain ⟨l0, a0, c0, rfl, s0⟩ := rd_trials (hval 0 22 v0 rfl rfl) h0
  obtain ⟨l1, a1, c1, rfl, s1⟩ := rd_u8s (hval 1 44 v1 rfl rfl) h1
  obtain ⟨x2, rfl, _, _, w2⟩ := open_int Try.underlying45 (hval 2 45 v2 rfl rfl) h2
  have b2 := bd_u16 w2
  obtain ⟨x3, rfl, _, _, w3⟩ := open_int Try.underlying45 (hval 3 45 v3 rfl rfl) h3
  have b3 := bd_u16 w3
  exact ⟨[.slice a0 l0.length c0, .slice a1 l1.length c1, .int .u16 x2, .int .u16 x3], rfl, boilProved_f l0 l1 x2 x3 b2 b3 _ _ _ s0 s1⟩

theorem over : Rows.boilProvedRow.holds Try.pinned (OpenSpec.ofChange Rows.boilProvedSpec) :=
  OpenClaim.holds_of_wide 6 Try.f6 rfl rfl rfl rfl rfl rfl rfl ⟨rfl, rfl, rfl, rfl, rfl⟩ rfl rfl rfl rfl rfl (by kernel_rfl) Try.func6 (by kernel_rfl)
    (of_decide_eq_true (by kernel_rfl)) (by unfold Func.isWrapper; first | (rw [if_pos (by decide +kernel)]; kernel_rfl) | (rw [if_neg (by decide +kernel)]; exact ⟨rfl, rfl⟩))
    (fun os started H enc _ => lifted os started H enc)

theorem proved : Rows.BoilProvedSaid := over
#print axioms proved
end Go.Proofs.Ytfcpmblmklibjaa.c4
