/- With one more trial no fewer causes explain, if any do; with one that failed, and has a cause that is not clear, at most one more: for all valid trials, and one more trial. No condition. -/
import Derived.Test.YtfcpmblmklibjaaB6
set_option linter.unusedVariables false
set_option linter.unusedSimpArgs false
set_option linter.unusedSectionVars false
set_option linter.unusedVariables false
namespace Go.Proofs.Ytfcpmblmklibjaa
open Go.Lw Go.Gl Go.Bl Go.RowKit

/-- One more trial. -/
theorem boilMore_f (ts : List Tq) (t : Tq) (hbig : ts.length * 32 ≤ 140737488351232) (V : View) (v : Value) (hs : Sl V tqe 4 v ts) : Fnc Try.prog 9 [v, tqv t] V fun r _ => r = .bool true := by
  obtain ⟨a, c, rfl, k1, k2, _⟩ := id hs
  clear k1 k2
  have hxl : (ts ++ [t]).length = ts.length + 1 := by simp
  refine fn_of Try.func9 rfl Try.ntmps9 (Nat.le_of_ble_eq_true rfl) ?_
  intro w0 hw0
  refine At.nrm ?_
  refine At.ktext (.n false 0 (.q 1 .done)) ?_
  refine AtT.kbox ?_
  intro b3
  refine AtT.kassign ?_
  refine AtT.done ?_
  refine At.nrm ?_
  refine At.cutG (ι := Option Addr × Nat) (fun g => [(0, .slice a ts.length c), (3, .pointer (some ⟨b3, 0, none⟩)), (5, .slice g.1 (ts.length + 1) g.2)])
    (fun _ => [.blk b3 (LC (tqe t) 53)]) (fun g V'' => Le V V'' ∧ Sl V'' tqe 4 (.slice g.1 (ts.length + 1) g.2) (ts ++ [t])) ?_ ?_
  · refine At.draw (.q 1 (.q 3 (.two 0 (.two 2 (.n false 4 (.n false 5 (.q 6 .done))) 4 (.n false 2 (.n false 5 (.q 6 .done)))) 4 (.n false 0 (.n false 2 (.n false 5 (.q 6 .done))))))) ffm (by kernel_rfl) ?_
    refine AtC.start ?_
    refine AtC.pre (fun hle0 => ?_)
    refine AtC.kq (by (refine AtT.kmove ?_); exact At.knows) ?_
    refine AtC.kq (by (first | refine AtT.kloadOA tk53 ?_ | refine AtT.kloadA tk53 ?_ | refine AtT.kloadOP tk53 ?_); exact At.knows) ?_
    refine AtC.two ?_ ?_
    focus
      refine AtC.nz ?_
      refine AtT.bsliceR0 rfl trivial rfl bs22_0 (by decide) (s := 4) (fun b14 => ?_)
      refine AtC.kgo ?_
      refine AtC.two ?_ ?_
      focus
        refine AtC.nz ?_
        refine AtT.appendRS rfl trivial Try.underlying22 rw53 rfl (by decide) rfl rfl Pick.auto (enc := tqe) (m := ts) (by first | exact hs | exact hs.le (by assumption)) tqe_len (fun _ => rfl) (by unfold maxLen; omega) (by omega) (by decide) (fun a16 c16 => ?_)
        refine AtC.kgo ?_
        rw [Nat.zero_add, List.nil_append]
        refine AtC.nz ?_
        refine AtT.kbsliceG (bs22_1_0 _ _ _ _) ?_
        intro q18 V18 hV18 hq18
        have g18 : Le V V18 := by first | exact hV18 | exact Le.trans (by assumption) hV18
        refine AtC.kgo ?_
        refine AtC.nz ?_
        first | refine AtT.kappend Try.underlying22 rw53 ?_
        intro a19 c19
        refine AtC.kgo ?_
        refine AtC.kq (by (refine AtT.kassign ?_); exact At.knows) ?_
        refine AtC.done ?_
      rotate_right
      focus
        refine AtC.nz ?_
        refine AtT.kbsliceG (bs22_1_0 _ _ _ _) ?_
        intro q18 V18 hV18 hq18
        have g18 : Le V V18 := by first | exact hV18 | exact Le.trans (by assumption) hV18
        refine AtC.kgo ?_
        refine AtC.nz ?_
        refine AtT.appendRS rfl trivial Try.underlying22 rw53 rfl (by decide) rfl rfl Pick.auto (enc := tqe) (m := ts) (by first | exact hs | exact hs.le (by assumption)) tqe_len (fun _ => rfl) (by unfold maxLen; omega) (by omega) (by decide) (fun a16 c16 => ?_)
        refine AtC.kgo ?_
        rw [Nat.zero_add, List.nil_append]
        refine AtC.nz ?_
        first | refine AtT.kappend Try.underlying22 rw53 ?_
        intro a19 c19
        refine AtC.kgo ?_
        refine AtC.kq (by (refine AtT.kassign ?_); exact At.knows) ?_
        refine AtC.done ?_
    rotate_right
    focus
      refine AtC.nz ?_
      refine AtT.kbsliceG (bs22_1_0 _ _ _ _) ?_
      intro q18 V18 hV18 hq18
      have g18 : Le V V18 := by first | exact hV18 | exact Le.trans (by assumption) hV18
      refine AtC.kgo ?_
      refine AtC.nz ?_
      refine AtT.bsliceR0 rfl trivial rfl bs22_0 (by decide) (s := 4) (fun b14 => ?_)
      refine AtC.kgo ?_
      refine AtC.nz ?_
      refine AtT.appendRS rfl trivial Try.underlying22 rw53 rfl (by decide) rfl rfl Pick.auto (enc := tqe) (m := ts) (by first | exact hs | exact hs.le (by assumption)) tqe_len (fun _ => rfl) (by unfold maxLen; omega) (by omega) (by decide) (fun a16 c16 => ?_)
      refine AtC.kgo ?_
      rw [Nat.zero_add, List.nil_append]
      refine AtC.nz ?_
      first | refine AtT.kappend Try.underlying22 rw53 ?_
      intro a19 c19
      refine AtC.kgo ?_
      refine AtC.kq (by (refine AtT.kassign ?_); exact At.knows) ?_
      refine AtC.done ?_
    all_goals (refine At.nrm ?_)
    all_goals
      refine At.giveSl (l := ts ++ [t]) (m := ts.length + 1) tqe_len (flat_snoc _ _ _).symm (by simp) Pick.auto (fun V6 hV6 hs6 => ?_)
      exact At.meetG (a19, c19) ⟨by first | exact hV18.trans hV6 | exact hV6, hs6⟩ ⟨rfl, rfl, rfl, trivial⟩ Pt.auto
  rintro ⟨ax, cx'⟩ V3 ks' O' ⟨hV3, hxs⟩ hk2 hO hl3
  dsimp only at hxs hk2 hO
  subst hk2 hO
  have fb := fine_f (ts ++ [t]) _ _ hxs
  replace hs := hs.le hV3
  refine At.nrm ?_
  by_cases g0 : trE ts = 0
  rotate_left
  · refine At.ktext (.q 0 (.n false 1 (.q 2 (.q 3 (.q 4 (.n false 5 (.q 6 (.q 7 .done)))))))) ?_
    refine AtT.kmove ?_
    refine AtT.kcallP rfl rfl ok37 (fine_f ts _ _ hs) ?_
    rintro _ rfl
    refine AtT.setF (d := 21) rfl (g0) ?_
    refine AtT.knot ?_
    refine AtT.setB (d := 22) rfl ((show (!false) = true from rfl)) ?_
    refine AtT.kmove ?_
    all_goals (first | refine AtT.kL 23 ?_ | refine AtT.pcase (d := 23) rfl (fun hg23 => ?_) (fun hg23 => ?_) | refine AtT.bcase (d := 23) rfl (fun hg23 => ?_) (fun hg23 => ?_))
    all_goals (first | refine AtT.kpass ?_ | refine AtT.kpassU ?_ | ((refine AtT.kmove ?_)))
    all_goals (first | refine AtT.kpassN ?_ | refine AtT.kpassNU ?_ | ((fail)))
    all_goals (first | refine AtT.kpass ?_ | refine AtT.kpassU ?_ | ((refine AtT.knot ?_)))
    all_goals (refine AtT.kpick ?_)
    all_goals refine AtT.done ?_
    all_goals (refine At.nrm ?_)
    refine At.condT rfl rfl ?_
    refine At.nrm ?_
    refine At.ktext (.n false 0 (.q 1 .done)) ?_
    refine AtT.kcallP rfl rfl ok16 (works_f _) ?_
    rintro _ rfl
    refine AtT.kassign ?_
    refine AtT.done ?_
    refine At.nrm ?_
    exact At.ret1 rfl (.tmp rfl) rfl
  by_cases g1 : trE (ts ++ [t]) = 0
  rotate_left
  · refine At.ktext (.q 0 (.n false 1 (.q 2 (.q 3 (.q 4 (.n false 5 (.q 6 (.q 7 .done)))))))) ?_
    refine AtT.kmove ?_
    refine AtT.kcallP rfl rfl ok37 (fine_f ts _ _ hs) ?_
    rintro _ rfl
    refine AtT.setT (d := 21) rfl (g0) ?_
    refine AtT.knot ?_
    refine AtT.setB (d := 22) rfl ((show (!true) = false from rfl)) ?_
    refine AtT.kmove ?_
    all_goals (first | refine AtT.kL 23 ?_ | refine AtT.pcase (d := 23) rfl (fun hg23 => ?_) (fun hg23 => ?_) | refine AtT.bcase (d := 23) rfl (fun hg23 => ?_) (fun hg23 => ?_))
    all_goals (first | refine AtT.kpass ?_ | refine AtT.kpassU ?_ | ((refine AtT.kmove ?_)))
    all_goals (first | refine AtT.kpassN ?_ | refine AtT.kpassNU ?_ | ((refine AtT.kcallP rfl rfl ok37 (fb) ?_) ; (rintro _ rfl)))
    all_goals (refine AtT.setF (d := 25) rfl (g1) ?_)
    all_goals (first | refine AtT.kpass ?_ | refine AtT.kpassU ?_ | ((refine AtT.knot ?_)))
    all_goals (refine AtT.setB (d := 26) rfl ((show (!false) = true from rfl)) ?_)
    all_goals (refine AtT.kpick ?_)
    all_goals refine AtT.done ?_
    all_goals (refine At.nrm ?_)
    refine At.condT rfl rfl ?_
    refine At.nrm ?_
    refine At.ktext (.n false 0 (.q 1 .done)) ?_
    refine AtT.kcallP rfl rfl ok16 (works_f _) ?_
    rintro _ rfl
    refine AtT.kassign ?_
    refine AtT.done ?_
    refine At.nrm ?_
    exact At.ret1 rfl (.tmp rfl) rfl
  refine At.ktext (.q 0 (.n false 1 (.q 2 (.q 3 (.q 4 (.n false 5 (.q 6 (.q 7 .done)))))))) ?_
  refine AtT.kmove ?_
  refine AtT.kcallP rfl rfl ok37 (fine_f ts _ _ hs) ?_
  rintro _ rfl
  refine AtT.setT (d := 21) rfl (g0) ?_
  refine AtT.knot ?_
  refine AtT.setB (d := 22) rfl ((show (!true) = false from rfl)) ?_
  refine AtT.kmove ?_
  all_goals (first | refine AtT.kL 23 ?_ | refine AtT.pcase (d := 23) rfl (fun hg23 => ?_) (fun hg23 => ?_) | refine AtT.bcase (d := 23) rfl (fun hg23 => ?_) (fun hg23 => ?_))
  all_goals (first | refine AtT.kpass ?_ | refine AtT.kpassU ?_ | ((refine AtT.kmove ?_)))
  all_goals (first | refine AtT.kpassN ?_ | refine AtT.kpassNU ?_ | ((refine AtT.kcallP rfl rfl ok37 (fb) ?_) ; (rintro _ rfl)))
  all_goals (refine AtT.setT (d := 25) rfl (g1) ?_)
  all_goals (first | refine AtT.kpass ?_ | refine AtT.kpassU ?_ | ((refine AtT.knot ?_)))
  all_goals (refine AtT.setB (d := 26) rfl ((show (!true) = false from rfl)) ?_)
  all_goals (refine AtT.kpick ?_)
  all_goals refine AtT.done ?_
  all_goals (refine At.nrm ?_)
  refine At.condF rfl rfl ?_
  obtain ⟨h16, ht⟩ := trE_ok g0
  have hts : sndB t.p = true := (trE_ok g1).2 t (by simp)
  have hcl : clA ts < 32768 := clN_lt ht _
  have hcb := cbN_lt hts
  have sb := fun h => sets_no (ts ++ [t]) g1 h V3 _ hxs
  have so := fun h => sets_ok (ts ++ [t]) h V3 _ hxs
  by_cases he : alE ts = 0
  rotate_left
  · have he' : alE (ts ++ [t]) ≠ 0 := fun h => by
      obtain ⟨x, hx⟩ := alE_some h
      exact alE_none g0 he x (ext_snoc.1 hx).1
    refine At.nrm ?_
    refine At.ktext (.q 0 (.n false 1 (.q 2 (.q 3 (.q 4 (.q 5 (.q 6 (.q 7 (.q 8 .done))))))))) ?_
    refine AtT.kmove ?_
    refine AtT.kcallP rfl rfl ok38 (sets_no ts g0 he _ _ hs) ?_
    rintro _ rfl
    refine AtT.kmove ?_
    refine AtT.kextract ?_
    refine AtT.kextract ?_
    refine AtT.kextract ?_
    refine AtT.kassign ?_
    refine AtT.kassign ?_
    refine AtT.kassign ?_
    refine AtT.done ?_
    refine At.nrm ?_
    refine At.ktext (.q 0 (.n false 1 (.q 2 (.q 3 (.q 4 (.q 5 (.q 6 (.q 7 (.q 8 .done))))))))) ?_
    refine AtT.kmove ?_
    refine AtT.kcallP rfl rfl ok38 (sb he') ?_
    rintro _ rfl
    refine AtT.kmove ?_
    refine AtT.kextract ?_
    refine AtT.kextract ?_
    refine AtT.kextract ?_
    refine AtT.kassign ?_
    refine AtT.kassign ?_
    refine AtT.kassign ?_
    refine AtT.done ?_
    refine At.nrm ?_
    refine At.draw (.q 0 (.q 1 (.q 2 (.q 3 (.q 4 (.q 5 (.q 6 (.q 7 (.q 8 (.q 9 (.q 10 (.q 11 (.q 12 (.q 13 (.q 14 (.q 15 (.q 16 (.q 17 (.q 18 (.q 19 (.q 20 (.q 21 (.q 22 (.q 23 (.q 24 (.q 25 (.q 26 .done))))))))))))))))))))))))))) ffm (by kernel_rfl) ?_
    refine AtT.kmove ?_
    refine AtT.knot ?_
    refine AtT.setB (d := 42) rfl ((show (!true) = false from rfl)) ?_
    refine AtT.kmove ?_
    all_goals (first | refine AtT.kL 43 ?_ | refine AtT.pcase (d := 43) rfl (fun hg43 => ?_) (fun hg43 => ?_) | refine AtT.bcase (d := 43) rfl (fun hg43 => ?_) (fun hg43 => ?_))
    all_goals (first | refine AtT.kpass ?_ | refine AtT.kpassU ?_ | ((refine AtT.kmove ?_)))
    all_goals (first | refine AtT.kpass ?_ | refine AtT.kpassU ?_ | ((refine AtT.knot ?_)))
    all_goals (refine AtT.setB (d := 45) rfl ((show (!true) = false from rfl)) ?_)
    all_goals (refine AtT.kpick ?_)
    all_goals (refine AtT.kmove ?_)
    all_goals (first | refine AtT.kL 47 ?_ | refine AtT.pcase (d := 47) rfl (fun hg47 => ?_) (fun hg47 => ?_) | refine AtT.bcase (d := 47) rfl (fun hg47 => ?_) (fun hg47 => ?_))
    all_goals (first | refine AtT.kpass ?_ | refine AtT.kpassU ?_ | ((refine AtT.kmove ?_)))
    all_goals (first | refine AtT.kpass ?_ | refine AtT.kpassU ?_ | ((refine AtT.kmove ?_)))
    all_goals (first | refine AtT.kL 49 ?_ | refine AtT.pcase (d := 49) rfl (fun hg49 => ?_) (fun hg49 => ?_) | refine AtT.bcase (d := 49) rfl (fun hg49 => ?_) (fun hg49 => ?_))
    all_goals (first | refine AtT.kpass ?_ | refine AtT.kpassU ?_ | ((refine AtT.kmove ?_)))
    all_goals (first | refine AtT.kpass ?_ | refine AtT.kpassU ?_ | ((refine AtT.knot ?_)))
    all_goals (first | refine AtT.kpass ?_ | refine AtT.kpassU ?_ | ((refine AtT.kpick ?_)))
    all_goals (refine AtT.kpick ?_)
    all_goals (refine AtT.kmove ?_)
    all_goals (first | refine AtT.kL 54 ?_ | refine AtT.pcase (d := 54) rfl (fun hg54 => ?_) (fun hg54 => ?_) | refine AtT.bcase (d := 54) rfl (fun hg54 => ?_) (fun hg54 => ?_))
    all_goals (first | refine AtT.kpass ?_ | refine AtT.kpassU ?_ | ((refine AtT.kmove ?_)))
    all_goals (first | refine AtT.kpass ?_ | refine AtT.kpassU ?_ | ((refine AtT.kmove ?_)))
    all_goals (first | refine AtT.kL 56 ?_ | refine AtT.pcase (d := 56) rfl (fun hg56 => ?_) (fun hg56 => ?_) | refine AtT.bcase (d := 56) rfl (fun hg56 => ?_) (fun hg56 => ?_))
    all_goals (first | refine AtT.kpass ?_ | refine AtT.kpassU ?_ | ((refine AtT.kmove ?_)))
    all_goals (first | refine AtT.kpass ?_ | refine AtT.kpassU ?_ | ((refine AtT.kidx Try.underlying39 tk25 ?_) ; (intro p58 e58 he58 hc58)))
    all_goals (first | refine AtT.kpass ?_ | refine AtT.kpassU ?_ | ((first | refine AtT.kloadO tk25 ?_ | refine AtT.kload tk25 ?_)))
    all_goals (first | refine AtT.kpass ?_ | refine AtT.kpassU ?_ | ((first | refine AtT.klenS Try.underlying25 ?_ | refine AtT.klenR Try.underlying25 ?_)))
    all_goals (first | refine AtT.kpass ?_ | refine AtT.kpassU ?_ | ((refine AtT.kmove ?_)))
    all_goals (first | refine AtT.kpass ?_ | refine AtT.kpassU ?_ | ((refine AtT.kidx Try.underlying39 tk25 ?_) ; (intro p62 e62 he62 hc62)))
    all_goals (first | refine AtT.kpass ?_ | refine AtT.kpassU ?_ | ((first | refine AtT.kloadO tk25 ?_ | refine AtT.kload tk25 ?_)))
    all_goals (first | refine AtT.kpass ?_ | refine AtT.kpassU ?_ | ((first | refine AtT.klenS Try.underlying25 ?_ | refine AtT.klenR Try.underlying25 ?_)))
    all_goals (first | refine AtT.kpass ?_ | refine AtT.kpassU ?_ | ((refine AtT.klss ?_)))
    all_goals (first | refine AtT.kpass ?_ | refine AtT.kpassU ?_ | ((refine AtT.kpick ?_)))
    all_goals (refine AtT.kpick ?_)
    all_goals refine AtT.done ?_
    all_goals (refine At.nrm ?_)
    refine At.condF rfl rfl ?_
    refine At.nrm ?_
    refine At.ktext (.q 0 (.q 1 (.q 2 (.q 3 (.q 4 (.q 5 (.q 6 .done))))))) ?_
    refine AtT.kmove ?_
    refine AtT.knot ?_
    refine AtT.setB (d := 69) rfl ((show (!false) = true from rfl)) ?_
    refine AtT.kmove ?_
    all_goals (first | refine AtT.kL 70 ?_ | refine AtT.pcase (d := 70) rfl (fun hg70 => ?_) (fun hg70 => ?_) | refine AtT.bcase (d := 70) rfl (fun hg70 => ?_) (fun hg70 => ?_))
    all_goals (first | refine AtT.kpass ?_ | refine AtT.kpassU ?_ | ((first | refine AtT.kfieldO fo53_1 ?_ | with_reducible refine AtT.kfield2 fo53_1 ?_ | refine AtT.kfield fo53_1 ?_)))
    all_goals (first | refine AtT.kpass ?_ | refine AtT.kpassU ?_ | ((first | refine AtT.kloadO tk4 ?_ | refine AtT.kload tk4 ?_)))
    all_goals (first | refine AtT.kpass ?_ | refine AtT.kpassU ?_ | ((refine AtT.knot ?_)))
    all_goals (refine AtT.kpick ?_)
    all_goals refine AtT.done ?_
    all_goals (refine At.nrm ?_)
    refine At.condT rfl rfl ?_
    refine At.nrm ?_
    refine At.ktext (.n false 0 (.q 1 .done)) ?_
    refine AtT.kcallP rfl rfl ok16 (works_f _) ?_
    rintro _ rfl
    refine AtT.kassign ?_
    refine AtT.done ?_
    refine At.nrm ?_
    exact At.ret1 rfl (.tmp rfl) rfl
  refine At.nrm ?_
  refine At.ktext (.q 0 (.n false 1 (.q 2 (.q 3 (.q 4 (.q 5 (.q 6 (.q 7 (.q 8 .done))))))))) ?_
  refine AtT.kmove ?_
  refine AtT.kcall rfl rfl ok38 (sets_ok ts he _ _ hs) ?_
  rintro _ V31 hV31 ⟨u, L, rfl, hal, hu⟩
  refine AtT.kmove ?_
  refine AtT.kextract ?_
  refine AtT.kextract ?_
  refine AtT.kextract ?_
  refine AtT.kassign ?_
  refine AtT.kassign ?_
  refine AtT.kassign ?_
  refine AtT.done ?_
  refine At.nrm ?_
  have halt := als_alt g0 hal
  replace hs := hs.le hV31
  replace hxs := hxs.le hV31
  obtain ⟨qs, aq, cq, rfl, hq, hql, hqs⟩ := hu.at
  have hne := als_ne he hal
  obtain ⟨x0, hx0⟩ : ∃ x0, L[0]? = some x0 := by cases L with | nil => exact absurd rfl hne | cons z L => exact ⟨z, rfl⟩
  have hpos : 0 < L.length := (List.getElem?_eq_some_iff.1 hx0).1
  obtain ⟨q0, hq0⟩ : ∃ q0, qs[0]? = some q0 := ⟨_, List.getElem?_eq_getElem (by omega)⟩
  have hs0 := hqs 0 q0 x0 hq0 hx0
  have hx1 := (halt.mem x0).1 (List.mem_of_getElem? hx0)
  have hx15 := bitL_len x0 15
  have sb2 := fun h => sets_no (ts ++ [t]) g1 h V31 _ hxs
  have so2 := fun h => sets_ok (ts ++ [t]) h V31 _ hxs
  by_cases he' : alE (ts ++ [t]) = 0
  · refine At.ktext (.q 0 (.n false 1 (.q 2 (.q 3 (.q 4 (.q 5 (.q 6 (.q 7 (.q 8 .done))))))))) ?_
    refine AtT.kmove ?_
    refine AtT.kcall rfl rfl ok38 (so2 he') ?_
    rintro _ V37 hV37 ⟨u37, M, rfl, hal2, hu2⟩
    refine AtT.kmove ?_
    refine AtT.kextract ?_
    refine AtT.kextract ?_
    refine AtT.kextract ?_
    refine AtT.kassign ?_
    refine AtT.kassign ?_
    refine AtT.kassign ?_
    refine AtT.done ?_
    refine At.nrm ?_
    have halt2 := als_alt g1 hal2
    replace hs := hs.le hV37
    replace hq := hq.le hV37
    replace hs0 := hs0.le hV37
    obtain ⟨ps, ap, cp, rfl, hp, hpl, hps⟩ := hu2.at
    have hne2 := als_ne he' hal2
    obtain ⟨y0, hy0⟩ : ∃ y0, M[0]? = some y0 := by cases M with | nil => exact absurd rfl hne2 | cons z M => exact ⟨z, rfl⟩
    have hpos2 : 0 < M.length := (List.getElem?_eq_some_iff.1 hy0).1
    obtain ⟨p0, hp0⟩ : ∃ q0, ps[0]? = some q0 := ⟨_, List.getElem?_eq_getElem (by omega)⟩
    have hsy := hps 0 p0 y0 hp0 hy0
    have hy1 := (halt2.mem y0).1 (List.mem_of_getElem? hy0)
    have hy15 := bitL_len y0 15
    have hge : (bitL x0 15).length ≤ (bitL y0 15).length := hx1.2 y0 (ext_snoc.1 hy1.1).1
    refine At.cutG (ι := Unit) (fun _ => [(0, .slice a ts.length c), (3, .pointer (some ⟨b3, 0, none⟩)), (6, .slice aq qs.length cq), (7, .bool true), (9, .slice ap ps.length cp), (10, .bool true), (67, .bool false)])
      (fun _ => [.blk b3 (LC (tqe t) 53)]) (fun _ V'' => V'' = V37) ?_ ?_
    · refine At.draw (.q 0 (.q 1 (.q 2 (.q 3 (.q 4 (.q 5 (.q 6 (.q 7 (.q 8 (.q 9 (.q 10 (.q 11 (.q 12 (.q 13 (.q 14 (.q 15 (.q 16 (.q 17 (.q 18 (.q 19 (.q 20 (.q 21 (.q 22 (.q 23 (.q 24 (.q 25 (.q 26 .done))))))))))))))))))))))))))) ffm (by kernel_rfl) ?_
      refine AtT.kmove ?_
      refine AtT.knot ?_
      refine AtT.setB (d := 42) rfl ((show (!true) = false from rfl)) ?_
      refine AtT.kmove ?_
      all_goals (first | refine AtT.kL 43 ?_ | refine AtT.pcase (d := 43) rfl (fun hg43 => ?_) (fun hg43 => ?_) | refine AtT.bcase (d := 43) rfl (fun hg43 => ?_) (fun hg43 => ?_))
      all_goals (first | refine AtT.kpass ?_ | refine AtT.kpassU ?_ | ((refine AtT.kmove ?_)))
      all_goals (first | refine AtT.kpass ?_ | refine AtT.kpassU ?_ | ((refine AtT.knot ?_)))
      all_goals (refine AtT.setB (d := 45) rfl ((show (!true) = false from rfl)) ?_)
      all_goals (refine AtT.kpick ?_)
      all_goals (refine AtT.kmove ?_)
      all_goals (first | refine AtT.kL 47 ?_ | refine AtT.pcase (d := 47) rfl (fun hg47 => ?_) (fun hg47 => ?_) | refine AtT.bcase (d := 47) rfl (fun hg47 => ?_) (fun hg47 => ?_))
      all_goals (first | refine AtT.kpass ?_ | refine AtT.kpassU ?_ | ((refine AtT.kmove ?_)))
      all_goals (first | refine AtT.kpass ?_ | refine AtT.kpassU ?_ | ((refine AtT.kmove ?_)))
      all_goals (first | refine AtT.kL 49 ?_ | refine AtT.pcase (d := 49) rfl (fun hg49 => ?_) (fun hg49 => ?_) | refine AtT.bcase (d := 49) rfl (fun hg49 => ?_) (fun hg49 => ?_))
      all_goals (first | refine AtT.kpass ?_ | refine AtT.kpassU ?_ | ((refine AtT.kmove ?_)))
      all_goals (first | refine AtT.kpass ?_ | refine AtT.kpassU ?_ | ((refine AtT.knot ?_)))
      all_goals (refine AtT.setB (d := 51) rfl ((show (!true) = false from rfl)) ?_)
      all_goals (first | refine AtT.kpass ?_ | refine AtT.kpassU ?_ | ((refine AtT.kpick ?_)))
      all_goals (refine AtT.kpick ?_)
      all_goals (refine AtT.kmove ?_)
      all_goals (first | refine AtT.kL 54 ?_ | refine AtT.pcase (d := 54) rfl (fun hg54 => ?_) (fun hg54 => ?_) | refine AtT.bcase (d := 54) rfl (fun hg54 => ?_) (fun hg54 => ?_))
      all_goals (first | refine AtT.kpass ?_ | refine AtT.kpassU ?_ | ((refine AtT.kmove ?_)))
      all_goals (first | refine AtT.kpass ?_ | refine AtT.kpassU ?_ | ((refine AtT.kmove ?_)))
      all_goals (first | refine AtT.kL 56 ?_ | refine AtT.pcase (d := 56) rfl (fun hg56 => ?_) (fun hg56 => ?_) | refine AtT.bcase (d := 56) rfl (fun hg56 => ?_) (fun hg56 => ?_))
      all_goals (first | refine AtT.kpass ?_ | refine AtT.kpassU ?_ | ((refine AtT.kmove ?_)))
      all_goals (first | refine AtT.kpass ?_ | refine AtT.kpassU ?_ | ((refine AtT.kidx Try.underlying39 tk25 ?_) ; (intro p58 e58 he58 hc58)))
      all_goals (obtain rfl : p0 = e58 := by have : ps[0]? = some e58 := (by simpa using he58); rw [hp0] at this; simpa using this)
      all_goals (first | refine AtT.kpass ?_ | refine AtT.kpassU ?_ | ((first | refine AtT.kloadO tk25 ?_ | refine AtT.kload tk25 ?_)))
      all_goals (first | refine AtT.kpass ?_ | refine AtT.kpassU ?_ | ((first | refine AtT.klenS Try.underlying25 ?_ | refine AtT.klenR Try.underlying25 ?_)))
      all_goals (first | refine AtT.kpass ?_ | refine AtT.kpassU ?_ | ((refine AtT.kmove ?_)))
      all_goals (first | refine AtT.kpass ?_ | refine AtT.kpassU ?_ | ((refine AtT.kidx Try.underlying39 tk25 ?_) ; (intro p62 e62 he62 hc62)))
      all_goals (obtain rfl : q0 = e62 := by have : qs[0]? = some e62 := (by simpa using he62); rw [hq0] at this; simpa using this)
      all_goals (first | refine AtT.kpass ?_ | refine AtT.kpassU ?_ | ((first | refine AtT.kloadO tk25 ?_ | refine AtT.kload tk25 ?_)))
      all_goals (first | refine AtT.kpass ?_ | refine AtT.kpassU ?_ | ((first | refine AtT.klenS Try.underlying25 ?_ | refine AtT.klenR Try.underlying25 ?_)))
      all_goals (first | refine AtT.kpass ?_ | refine AtT.kpassU ?_ | ((refine AtT.klss ?_)))
      all_goals (refine AtT.setF (d := 65) rfl ((by omega)) ?_)
      all_goals (first | refine AtT.kpass ?_ | refine AtT.kpassU ?_ | ((refine AtT.kpick ?_)))
      all_goals (refine AtT.kpick ?_)
      all_goals refine AtT.done ?_
      all_goals (refine At.nrm ?_)
      all_goals (exact At.meetG () rfl ⟨rfl, rfl, rfl, rfl, rfl, rfl, rfl, trivial⟩ Pt.auto)
    rintro _ V4 ks' O' rfl hk hO hl4
    subst hk hO
    refine At.condF rfl rfl ?_
    refine At.nrm ?_
    cases hf : t.f with
    | false =>
      refine At.ktext (.q 0 (.q 1 (.q 2 (.q 3 (.q 4 (.q 5 (.q 6 .done))))))) ?_
      refine AtT.kmove ?_
      refine AtT.knot ?_
      refine AtT.setB (d := 69) rfl ((show (!true) = false from rfl)) ?_
      refine AtT.kmove ?_
      all_goals (first | refine AtT.kL 70 ?_ | refine AtT.pcase (d := 70) rfl (fun hg70 => ?_) (fun hg70 => ?_) | refine AtT.bcase (d := 70) rfl (fun hg70 => ?_) (fun hg70 => ?_))
      all_goals (first | refine AtT.kpass ?_ | refine AtT.kpassU ?_ | ((first | refine AtT.kfieldO fo53_1 ?_ | with_reducible refine AtT.kfield2 fo53_1 ?_ | refine AtT.kfield fo53_1 ?_)))
      all_goals (first | refine AtT.kpass ?_ | refine AtT.kpassU ?_ | ((first | refine AtT.kloadO tk4 ?_ | refine AtT.kload tk4 ?_)))
      all_goals (refine AtT.setB (d := 72) rfl (hf) ?_)
      all_goals (first | refine AtT.kpass ?_ | refine AtT.kpassU ?_ | ((refine AtT.knot ?_)))
      all_goals (refine AtT.setB (d := 73) rfl ((show (!false) = true from rfl)) ?_)
      all_goals (refine AtT.kpick ?_)
      all_goals refine AtT.done ?_
      all_goals (refine At.nrm ?_)
      refine At.condT rfl rfl ?_
      refine At.nrm ?_
      refine At.ktext (.n false 0 (.q 1 .done)) ?_
      refine AtT.kcallP rfl rfl ok16 (works_f _) ?_
      rintro _ rfl
      refine AtT.kassign ?_
      refine AtT.done ?_
      refine At.nrm ?_
      exact At.ret1 rfl (.tmp rfl) rfl
    | true =>
      have hz : clrB (cbN t.p) (clA ts) ≠ 0 := fun h => more_no hts hcl hf h y0 hy1.1
      have hle : (bitL y0 15).length ≤ (bitL x0 15).length + 1 := by
        obtain ⟨z, z1, z2⟩ := more_ok hts hcl hf hx1.1 hz
        exact Nat.le_trans (hy1.2 z z1) z2
      refine At.ktext (.q 0 (.q 1 (.q 2 (.q 3 (.q 4 (.q 5 (.q 6 .done))))))) ?_
      refine AtT.kmove ?_
      refine AtT.knot ?_
      refine AtT.setB (d := 69) rfl ((show (!true) = false from rfl)) ?_
      refine AtT.kmove ?_
      all_goals (first | refine AtT.kL 70 ?_ | refine AtT.pcase (d := 70) rfl (fun hg70 => ?_) (fun hg70 => ?_) | refine AtT.bcase (d := 70) rfl (fun hg70 => ?_) (fun hg70 => ?_))
      all_goals (first | refine AtT.kpass ?_ | refine AtT.kpassU ?_ | ((first | refine AtT.kfieldO fo53_1 ?_ | with_reducible refine AtT.kfield2 fo53_1 ?_ | refine AtT.kfield fo53_1 ?_)))
      all_goals (first | refine AtT.kpass ?_ | refine AtT.kpassU ?_ | ((first | refine AtT.kloadO tk4 ?_ | refine AtT.kload tk4 ?_)))
      all_goals (refine AtT.setB (d := 72) rfl (hf) ?_)
      all_goals (first | refine AtT.kpass ?_ | refine AtT.kpassU ?_ | ((refine AtT.knot ?_)))
      all_goals (refine AtT.setB (d := 73) rfl ((show (!true) = false from rfl)) ?_)
      all_goals (refine AtT.kpick ?_)
      all_goals refine AtT.done ?_
      all_goals (refine At.nrm ?_)
      refine At.condF rfl rfl ?_
      refine At.nrm ?_
      refine At.ktext (.q 0 (.n false 1 (.q 2 (.q 3 (.q 4 (.q 5 (.q 6 .done))))))) ?_
      refine AtT.kmove ?_
      refine AtT.kcall rfl rfl ok20 (rclear_f ts _ _ hs) ?_
      rintro _ V78 hV78 ⟨u78, rfl, hu78⟩
      refine AtT.kmove ?_
      refine AtT.kextract ?_
      refine AtT.kextract ?_
      refine AtT.kassign ?_
      refine AtT.kassign ?_
      refine AtT.done ?_
      refine At.nrm ?_
      replace hq := hq.le hV78
      replace hs0 := hs0.le hV78
      replace hp := hp.le hV78
      replace hsy := hsy.le hV78
      refine At.ktext (.q 0 (.q 1 (.n false 2 (.n false 3 (.q 4 (.n false 5 (.q 6 (.q 7 .done)))))))) ?_
      first | refine AtT.kfieldO fo53_0 ?_ | with_reducible refine AtT.kfield2 fo53_0 ?_ | refine AtT.kfield fo53_0 ?_
      first | refine AtT.kloadOA tk24 ?_ | refine AtT.kloadA tk24 ?_ | refine AtT.kloadOP tk24 ?_
      refine AtT.kcall rfl rfl ok43 (causesOf_f t.p hts _) ?_
      rintro v83 V83 hV83 hs83
      refine AtT.kcallP rfl rfl ok42 (bitsOf_f _ (caL_in hts) _ _ hs83) ?_
      rintro _ rfl
      refine AtT.kmove ?_
      refine AtT.kcallP rfl rfl ok42 (bitsOf_f (clR ts) (clR_in g0) _ _ (hu78.le hV83)) ?_
      rintro _ rfl; rw [clR_bt g0]
      refine AtT.clrN rfl trivial rfl rfl rfl rfl (by show btL (caL t.p) < _; have : btL (caL t.p) < 32768 := hcb; omega) (by omega) (by decide) (A := cbN t.p) (B := clA ts) ?_
      refine AtT.keqI ?_
      refine AtT.setF (d := 88) rfl ((by omega)) ?_
      refine AtT.done ?_
      refine At.nrm ?_
      refine At.condF rfl rfl ?_
      replace hq := hq.le hV83
      replace hs0 := hs0.le hV83
      replace hp := hp.le hV83
      replace hsy := hsy.le hV83
      refine At.nrm ?_
      refine At.draw (.q 0 (.q 1 (.q 2 (.q 3 (.q 4 (.q 5 (.q 6 (.q 7 (.q 8 (.q 9 (.q 10 (.q 11 (.q 12 (.q 13 (.n false 14 (.q 15 (.q 16 .done))))))))))))))))) ffm (by kernel_rfl) ?_
      refine AtT.kmove ?_
      refine AtT.kmove ?_
      all_goals (first | refine AtT.kL 95 ?_ | refine AtT.pcase (d := 95) rfl (fun hg95 => ?_) (fun hg95 => ?_) | refine AtT.bcase (d := 95) rfl (fun hg95 => ?_) (fun hg95 => ?_))
      all_goals (first | refine AtT.kpass ?_ | refine AtT.kpassU ?_ | ((refine AtT.kmove ?_)))
      all_goals (first | refine AtT.kpass ?_ | refine AtT.kpassU ?_ | ((refine AtT.kidx Try.underlying39 tk25 ?_) ; (intro p97 e97 he97 hc97)))
      all_goals (obtain rfl : p0 = e97 := by have : ps[0]? = some e97 := (by simpa using he97); rw [hp0] at this; simpa using this)
      all_goals (first | refine AtT.kpass ?_ | refine AtT.kpassU ?_ | ((first | refine AtT.kloadO tk25 ?_ | refine AtT.kload tk25 ?_)))
      all_goals (first | refine AtT.kpass ?_ | refine AtT.kpassU ?_ | ((first | refine AtT.klenS Try.underlying25 ?_ | refine AtT.klenR Try.underlying25 ?_)))
      all_goals (first | refine AtT.kpass ?_ | refine AtT.kpassU ?_ | ((refine AtT.kmove ?_)))
      all_goals (first | refine AtT.kpass ?_ | refine AtT.kpassU ?_ | ((refine AtT.kidx Try.underlying39 tk25 ?_) ; (intro p101 e101 he101 hc101)))
      all_goals (obtain rfl : q0 = e101 := by have : qs[0]? = some e101 := (by simpa using he101); rw [hq0] at this; simpa using this)
      all_goals (first | refine AtT.kpass ?_ | refine AtT.kpassU ?_ | ((first | refine AtT.kloadO tk25 ?_ | refine AtT.kload tk25 ?_)))
      all_goals (first | refine AtT.kpass ?_ | refine AtT.kpassU ?_ | ((first | refine AtT.klenS Try.underlying25 ?_ | refine AtT.klenR Try.underlying25 ?_)))
      all_goals (first | refine AtT.kpass ?_ | refine AtT.kpassU ?_ | ((first | refine AtT.kadd ?_ | refine AtT.kaddW ?_)))
      all_goals (first | refine AtT.kpass ?_ | refine AtT.kpassU ?_ | ((refine AtT.kleq ?_)))
      all_goals (refine AtT.setT (d := 105) rfl ((by omega)) ?_)
      all_goals (refine AtT.kpick ?_)
      all_goals (refine AtT.kmove ?_)
      all_goals (first | refine AtT.kL 107 ?_ | refine AtT.pcase (d := 107) rfl (fun hg107 => ?_) (fun hg107 => ?_) | refine AtT.bcase (d := 107) rfl (fun hg107 => ?_) (fun hg107 => ?_))
      all_goals (first | refine AtT.kpassN ?_ | refine AtT.kpassNU ?_ | ((refine AtT.kcallP rfl rfl ok16 (works_f _) ?_) ; (rintro _ rfl)))
      all_goals (refine AtT.kpick ?_)
      all_goals (refine AtT.kassign ?_)
      all_goals refine AtT.done ?_
      all_goals (refine At.nrm ?_)
      all_goals (exact At.ret1 rfl (.tmp rfl) rfl)
  · refine At.ktext (.q 0 (.n false 1 (.q 2 (.q 3 (.q 4 (.q 5 (.q 6 (.q 7 (.q 8 .done))))))))) ?_
    refine AtT.kmove ?_
    refine AtT.kcallP rfl rfl ok38 (sb2 he') ?_
    rintro _ rfl
    refine AtT.kmove ?_
    refine AtT.kextract ?_
    refine AtT.kextract ?_
    refine AtT.kextract ?_
    refine AtT.kassign ?_
    refine AtT.kassign ?_
    refine AtT.kassign ?_
    refine AtT.done ?_
    refine At.nrm ?_
    refine At.cutG (ι := Unit) (fun _ => [(0, .slice a ts.length c), (3, .pointer (some ⟨b3, 0, none⟩)), (7, .bool true), (10, .bool false), (67, .bool false)])
      (fun _ => [.blk b3 (LC (tqe t) 53)]) (fun _ V'' => V'' = V31) ?_ ?_
    · refine At.draw (.q 0 (.q 1 (.q 2 (.q 3 (.q 4 (.q 5 (.q 6 (.q 7 (.q 8 (.q 9 (.q 10 (.q 11 (.q 12 (.q 13 (.q 14 (.q 15 (.q 16 (.q 17 (.q 18 (.q 19 (.q 20 (.q 21 (.q 22 (.q 23 (.q 24 (.q 25 (.q 26 .done))))))))))))))))))))))))))) ffm (by kernel_rfl) ?_
      refine AtT.kmove ?_
      refine AtT.knot ?_
      refine AtT.setB (d := 42) rfl ((show (!true) = false from rfl)) ?_
      refine AtT.kmove ?_
      all_goals (first | refine AtT.kL 43 ?_ | refine AtT.pcase (d := 43) rfl (fun hg43 => ?_) (fun hg43 => ?_) | refine AtT.bcase (d := 43) rfl (fun hg43 => ?_) (fun hg43 => ?_))
      all_goals (first | refine AtT.kpass ?_ | refine AtT.kpassU ?_ | ((refine AtT.kmove ?_)))
      all_goals (first | refine AtT.kpass ?_ | refine AtT.kpassU ?_ | ((refine AtT.knot ?_)))
      all_goals (refine AtT.setB (d := 45) rfl ((show (!true) = false from rfl)) ?_)
      all_goals (refine AtT.kpick ?_)
      all_goals (refine AtT.kmove ?_)
      all_goals (first | refine AtT.kL 47 ?_ | refine AtT.pcase (d := 47) rfl (fun hg47 => ?_) (fun hg47 => ?_) | refine AtT.bcase (d := 47) rfl (fun hg47 => ?_) (fun hg47 => ?_))
      all_goals (first | refine AtT.kpass ?_ | refine AtT.kpassU ?_ | ((refine AtT.kmove ?_)))
      all_goals (first | refine AtT.kpass ?_ | refine AtT.kpassU ?_ | ((refine AtT.kmove ?_)))
      all_goals (first | refine AtT.kL 49 ?_ | refine AtT.pcase (d := 49) rfl (fun hg49 => ?_) (fun hg49 => ?_) | refine AtT.bcase (d := 49) rfl (fun hg49 => ?_) (fun hg49 => ?_))
      all_goals (first | refine AtT.kpass ?_ | refine AtT.kpassU ?_ | ((refine AtT.kmove ?_)))
      all_goals (first | refine AtT.kpass ?_ | refine AtT.kpassU ?_ | ((refine AtT.knot ?_)))
      all_goals (first | refine AtT.kpass ?_ | refine AtT.kpassU ?_ | ((refine AtT.kpick ?_)))
      all_goals (refine AtT.kpick ?_)
      all_goals (refine AtT.kmove ?_)
      all_goals (first | refine AtT.kL 54 ?_ | refine AtT.pcase (d := 54) rfl (fun hg54 => ?_) (fun hg54 => ?_) | refine AtT.bcase (d := 54) rfl (fun hg54 => ?_) (fun hg54 => ?_))
      all_goals (first | refine AtT.kpass ?_ | refine AtT.kpassU ?_ | ((refine AtT.kmove ?_)))
      all_goals (first | refine AtT.kpass ?_ | refine AtT.kpassU ?_ | ((refine AtT.kmove ?_)))
      all_goals (first | refine AtT.kL 56 ?_ | refine AtT.pcase (d := 56) rfl (fun hg56 => ?_) (fun hg56 => ?_) | refine AtT.bcase (d := 56) rfl (fun hg56 => ?_) (fun hg56 => ?_))
      all_goals (first | refine AtT.kpass ?_ | refine AtT.kpassU ?_ | ((refine AtT.kmove ?_)))
      all_goals (first | refine AtT.kpass ?_ | refine AtT.kpassU ?_ | ((refine AtT.kidx Try.underlying39 tk25 ?_) ; (intro p58 e58 he58 hc58)))
      all_goals (first | refine AtT.kpass ?_ | refine AtT.kpassU ?_ | ((first | refine AtT.kloadO tk25 ?_ | refine AtT.kload tk25 ?_)))
      all_goals (first | refine AtT.kpass ?_ | refine AtT.kpassU ?_ | ((first | refine AtT.klenS Try.underlying25 ?_ | refine AtT.klenR Try.underlying25 ?_)))
      all_goals (first | refine AtT.kpass ?_ | refine AtT.kpassU ?_ | ((refine AtT.kmove ?_)))
      all_goals (first | refine AtT.kpass ?_ | refine AtT.kpassU ?_ | ((refine AtT.kidx Try.underlying39 tk25 ?_) ; (intro p62 e62 he62 hc62)))
      all_goals (first | refine AtT.kpass ?_ | refine AtT.kpassU ?_ | ((first | refine AtT.kloadO tk25 ?_ | refine AtT.kload tk25 ?_)))
      all_goals (first | refine AtT.kpass ?_ | refine AtT.kpassU ?_ | ((first | refine AtT.klenS Try.underlying25 ?_ | refine AtT.klenR Try.underlying25 ?_)))
      all_goals (first | refine AtT.kpass ?_ | refine AtT.kpassU ?_ | ((refine AtT.klss ?_)))
      all_goals (first | refine AtT.kpass ?_ | refine AtT.kpassU ?_ | ((refine AtT.kpick ?_)))
      all_goals (refine AtT.kpick ?_)
      all_goals refine AtT.done ?_
      all_goals (refine At.nrm ?_)
      all_goals (exact At.meetG () rfl ⟨rfl, rfl, rfl, rfl, rfl, trivial⟩ Pt.auto)
    rintro _ V4 ks' O' rfl hk hO hl4
    subst hk hO
    refine At.condF rfl rfl ?_
    refine At.nrm ?_
    cases hf : t.f with
    | false =>
      refine At.ktext (.q 0 (.q 1 (.q 2 (.q 3 (.q 4 (.q 5 (.q 6 .done))))))) ?_
      refine AtT.kmove ?_
      refine AtT.knot ?_
      refine AtT.setB (d := 69) rfl ((show (!true) = false from rfl)) ?_
      refine AtT.kmove ?_
      all_goals (first | refine AtT.kL 70 ?_ | refine AtT.pcase (d := 70) rfl (fun hg70 => ?_) (fun hg70 => ?_) | refine AtT.bcase (d := 70) rfl (fun hg70 => ?_) (fun hg70 => ?_))
      all_goals (first | refine AtT.kpass ?_ | refine AtT.kpassU ?_ | ((first | refine AtT.kfieldO fo53_1 ?_ | with_reducible refine AtT.kfield2 fo53_1 ?_ | refine AtT.kfield fo53_1 ?_)))
      all_goals (first | refine AtT.kpass ?_ | refine AtT.kpassU ?_ | ((first | refine AtT.kloadO tk4 ?_ | refine AtT.kload tk4 ?_)))
      all_goals (refine AtT.setB (d := 72) rfl (hf) ?_)
      all_goals (first | refine AtT.kpass ?_ | refine AtT.kpassU ?_ | ((refine AtT.knot ?_)))
      all_goals (refine AtT.setB (d := 73) rfl ((show (!false) = true from rfl)) ?_)
      all_goals (refine AtT.kpick ?_)
      all_goals refine AtT.done ?_
      all_goals (refine At.nrm ?_)
      refine At.condT rfl rfl ?_
      refine At.nrm ?_
      refine At.ktext (.n false 0 (.q 1 .done)) ?_
      refine AtT.kcallP rfl rfl ok16 (works_f _) ?_
      rintro _ rfl
      refine AtT.kassign ?_
      refine AtT.done ?_
      refine At.nrm ?_
      exact At.ret1 rfl (.tmp rfl) rfl
    | true =>
      have hz : clrB (cbN t.p) (clA ts) = 0 := Classical.byContradiction fun h => by
        obtain ⟨z, z1, z2⟩ := more_ok hts hcl hf hx1.1 h
        exact alE_none g1 he' z z1
      refine At.ktext (.q 0 (.q 1 (.q 2 (.q 3 (.q 4 (.q 5 (.q 6 .done))))))) ?_
      refine AtT.kmove ?_
      refine AtT.knot ?_
      refine AtT.setB (d := 69) rfl ((show (!true) = false from rfl)) ?_
      refine AtT.kmove ?_
      all_goals (first | refine AtT.kL 70 ?_ | refine AtT.pcase (d := 70) rfl (fun hg70 => ?_) (fun hg70 => ?_) | refine AtT.bcase (d := 70) rfl (fun hg70 => ?_) (fun hg70 => ?_))
      all_goals (first | refine AtT.kpass ?_ | refine AtT.kpassU ?_ | ((first | refine AtT.kfieldO fo53_1 ?_ | with_reducible refine AtT.kfield2 fo53_1 ?_ | refine AtT.kfield fo53_1 ?_)))
      all_goals (first | refine AtT.kpass ?_ | refine AtT.kpassU ?_ | ((first | refine AtT.kloadO tk4 ?_ | refine AtT.kload tk4 ?_)))
      all_goals (refine AtT.setB (d := 72) rfl (hf) ?_)
      all_goals (first | refine AtT.kpass ?_ | refine AtT.kpassU ?_ | ((refine AtT.knot ?_)))
      all_goals (refine AtT.setB (d := 73) rfl ((show (!true) = false from rfl)) ?_)
      all_goals (refine AtT.kpick ?_)
      all_goals refine AtT.done ?_
      all_goals (refine At.nrm ?_)
      refine At.condF rfl rfl ?_
      refine At.nrm ?_
      refine At.ktext (.q 0 (.n false 1 (.q 2 (.q 3 (.q 4 (.q 5 (.q 6 .done))))))) ?_
      refine AtT.kmove ?_
      refine AtT.kcall rfl rfl ok20 (rclear_f ts _ _ hs) ?_
      rintro _ V78 hV78 ⟨u78, rfl, hu78⟩
      refine AtT.kmove ?_
      refine AtT.kextract ?_
      refine AtT.kextract ?_
      refine AtT.kassign ?_
      refine AtT.kassign ?_
      refine AtT.done ?_
      refine At.nrm ?_
      refine At.ktext (.q 0 (.q 1 (.n false 2 (.n false 3 (.q 4 (.n false 5 (.q 6 (.q 7 .done)))))))) ?_
      first | refine AtT.kfieldO fo53_0 ?_ | with_reducible refine AtT.kfield2 fo53_0 ?_ | refine AtT.kfield fo53_0 ?_
      first | refine AtT.kloadOA tk24 ?_ | refine AtT.kloadA tk24 ?_ | refine AtT.kloadOP tk24 ?_
      refine AtT.kcall rfl rfl ok43 (causesOf_f t.p hts _) ?_
      rintro v83 V83 hV83 hs83
      refine AtT.kcallP rfl rfl ok42 (bitsOf_f _ (caL_in hts) _ _ hs83) ?_
      rintro _ rfl
      refine AtT.kmove ?_
      refine AtT.kcallP rfl rfl ok42 (bitsOf_f (clR ts) (clR_in g0) _ _ (hu78.le hV83)) ?_
      rintro _ rfl; rw [clR_bt g0]
      refine AtT.clrN rfl trivial rfl rfl rfl rfl (by show btL (caL t.p) < _; have : btL (caL t.p) < 32768 := hcb; omega) (by omega) (by decide) (A := cbN t.p) (B := clA ts) ?_
      refine AtT.keqI ?_
      refine AtT.setT (d := 88) rfl ((by omega)) ?_
      refine AtT.done ?_
      refine At.nrm ?_
      refine At.condT rfl rfl ?_
      refine At.nrm ?_
      refine At.ktext (.q 0 (.q 1 (.q 2 (.n false 3 (.q 4 (.q 5 .done)))))) ?_
      refine AtT.kmove ?_
      refine AtT.knot ?_
      refine AtT.setB (d := 90) rfl ((show (!false) = true from rfl)) ?_
      refine AtT.kmove ?_
      all_goals (first | refine AtT.kL 91 ?_ | refine AtT.pcase (d := 91) rfl (fun hg91 => ?_) (fun hg91 => ?_) | refine AtT.bcase (d := 91) rfl (fun hg91 => ?_) (fun hg91 => ?_))
      all_goals (first | refine AtT.kpassN ?_ | refine AtT.kpassNU ?_ | ((refine AtT.kcallP rfl rfl ok16 (works_f _) ?_) ; (rintro _ rfl)))
      all_goals (refine AtT.kpick ?_)
      all_goals (refine AtT.kassign ?_)
      all_goals refine AtT.done ?_
      all_goals (refine At.nrm ?_)
      exact At.ret1 rfl (.tmp rfl) rfl
end Go.Proofs.Ytfcpmblmklibjaa
set_option linter.unusedVariables false
namespace Go.Proofs.Ytfcpmblmklibjaa.c7
open Go.Lw Go.Gl Go.Bl Go.RowKit Go.ChangeShapes Go.WideShapes Go.ChangeAt

theorem bytes53 : Try.prog.bytesOf 53 = 32 := by kernel_rfl
set_option maxRecDepth 100000 in
theorem lifted (os : Os) (started : os.Started) (H : Type) (enc : TypeId × Value → H) :
    ReturnsInHanded {} Try.checked os 9 .any (Rows.boilMoreSpec.pre6 enc Try.prog Try.f9 Rows.boilMoreRow.domain false) (Rows.boilMoreSpec.post enc Try.prog Try.f9 false true false false) := by
  refine law_lift2 (tb := 4) (fun ds hd => by match ds, hd with | [d0, d1], _ => rfl) rfl (by kernel_rfl) Try.underlying4 laidOut (by kernel_rfl) own started (by kernel_rfl) Try.func9
    (ChangeSpec.witness6 (enc := enc) (C := Try.checked) false ⟨#[], #[.slice none 0 0, .agg #[.int .i64 0, .int .i64 0, .int .i64 0, .bool false]], []⟩ 8 (by kernel_rfl) (by kernel_rfl) (by kernel_rfl) (by kernel_rfl)) ?_
  intro W base args ds ps hval hwt hA
  rw [Try.params9] at hA hval hwt
  obtain ⟨v0, vs0, d0, ds0, p0, q0, hargs, rfl, rfl, h0, r0⟩ := trodAll_cons hA
  obtain ⟨v1, vs1, d1, ds1, p1, q1, rfl, rfl, rfl, h1, r1⟩ := trodAll_cons r0
  obtain ⟨rfl, rfl, rfl⟩ := trodAll_nil r1
  obtain rfl : args = #[v0, v1] := by cases args; simp_all
  obtain ⟨l0, a0, c0, rfl, s0⟩ := rd_trials (hval 0 22 v0 rfl rfl) h0
  obtain ⟨x1, rfl⟩ := open_trial (hval 1 53 v1 rfl rfl) h1
  have hw0 : (d0.weights Try.prog 22).all (· ≤ reachBytes) = true := by
    have h := hwt
    simp only [DataW.weightsEach, List.all_append, Bool.and_eq_true] at h
    exact h.1
  have hbig : l0.length * 32 ≤ 140737488351232 := by
    obtain ⟨fuel, h⟩ := h0
    have := slice_weight Try.underlying22 h hw0
    rw [bytes53] at this
    exact this
  exact ⟨[.slice a0 l0.length c0, tqv x1], rfl, boilMore_f l0 x1 hbig _ _ s0⟩

theorem over : Rows.boilMoreRow.holds Try.pinned (OpenSpec.ofChange Rows.boilMoreSpec) :=
  OpenClaim.holds_of_wide 9 Try.f9 rfl rfl rfl rfl rfl rfl rfl ⟨rfl, rfl, rfl, rfl, rfl⟩ rfl rfl rfl rfl rfl (by kernel_rfl) Try.func9 (by kernel_rfl)
    (of_decide_eq_true (by kernel_rfl)) (by unfold Func.isWrapper; first | (rw [if_pos (by decide +kernel)]; kernel_rfl) | (rw [if_neg (by decide +kernel)]; exact ⟨rfl, rfl⟩))
    (fun os started H enc _ => lifted os started H enc)

theorem proved : Rows.BoilMoreSaid := over
#print axioms proved
end Go.Proofs.Ytfcpmblmklibjaa.c7
