/- Trials in another order, and one that is there twice, change nothing but the numbers of trials; if mixes become openings, and openings mixes, causes are exchanged, and as many sets are smallest: for all valid trials, by how much they come later, round, and which one is there twice, by numbers. No condition. -/
import Derived.Test.YtfcpmblmklibjaaB6
set_option linter.unusedVariables false
set_option linter.unusedSimpArgs false
set_option linter.unusedSectionVars false
set_option linter.unusedVariables false
namespace Go.Bl
open Go.Gl Go.Lw
theorem tu1_at {l : List Int} {j : Nat} {y : Int} (h : l[j]? = some y) : tu1 (l.take (j + 1)) = if 5 ≤ y ∧ y < 10 then tu1 (l.take j) ++ [y - 5] else tu1 (l.take j) := by
  unfold tu1
  rw [take_snoc' h, List.filter_append, List.map_append]
  by_cases c : 5 ≤ y ∧ y < 10
  · simp [c]
  · simp [c]
theorem tu2_at {l : List Int} {j : Nat} {y : Int} (h : l[j]? = some y) : tu2 (l.take (j + 1)) = if y < 5 then tu2 (l.take j) ++ [y + 5] else tu2 (l.take j) := by
  unfold tu2
  rw [take_snoc' h, List.filter_append, List.map_append]
  by_cases c : y < 5
  · simp [c]
  · simp [c]
theorem tu3_at {l : List Int} {j : Nat} {y : Int} (h : l[j]? = some y) : tu3 (l.take (j + 1)) = if 10 ≤ y then tu3 (l.take j) ++ [y] else tu3 (l.take j) := by
  unfold tu3
  rw [take_snoc' h, List.filter_append]
  by_cases c : 10 ≤ y
  · simp [c]
  · simp [c]
end Go.Bl
namespace Go.Proofs.Ytfcpmblmklibjaa
open Go.Lw Go.Gl Go.Bl Go.RowKit

set_option maxHeartbeats 3200000 in
/-- Trials in another order, one of them there twice; and causes that are exchanged. -/
theorem boilTurned_f (ts : List Tq) (x y : Int) (hx : 0 ≤ x ∧ x ≤ 255) (hy : 0 ≤ y ∧ y ≤ 255) (V : View) (v : Value) (hs : Sl V tqe 4 v ts) : Fnc Try.prog 12 [v, .int .u8 x, .int .u8 y] V fun r _ => r = .bool true := by
  obtain ⟨a, c, rfl, k1, k2, _⟩ := id hs
  clear k1 k2
  refine fn_of Try.func12 rfl Try.ntmps12 (Nat.le_of_ble_eq_true rfl) ?_
  intro w0 hw0
  refine At.nrm ?_
  refine At.ktext (.q 0 .done) ?_
  refine AtT.kassign ?_
  refine AtT.done ?_
  refine At.nrm ?_
  by_cases g0 : trE ts = 0
  rotate_left
  · refine At.ktext (.q 0 (.n false 1 (.q 2 (.q 3 (.q 4 (.q 5 (.q 6 (.q 7 (.q 8 (.q 9 (.q 10 (.q 11 (.q 12 .done))))))))))))) ?_
    refine AtT.kmove ?_
    refine AtT.kcallP rfl rfl ok37 (fine_f ts _ _ hs) ?_
    rintro _ rfl
    refine AtT.setF (d := 31) rfl (g0) ?_
    refine AtT.knot ?_
    refine AtT.setB (d := 32) rfl ((show (!false) = true from rfl)) ?_
    refine AtT.kmove ?_
    all_goals (first | refine AtT.kL 33 ?_ | refine AtT.pcase (d := 33) rfl (fun hg33 => ?_) (fun hg33 => ?_) | refine AtT.bcase (d := 33) rfl (fun hg33 => ?_) (fun hg33 => ?_))
    all_goals (first | refine AtT.kpass ?_ | refine AtT.kpassU ?_ | ((refine AtT.kmove ?_)))
    all_goals (first | refine AtT.kpass ?_ | refine AtT.kpassU ?_ | ((first | refine AtT.klenS Try.underlying22 ?_ | refine AtT.klenR Try.underlying22 ?_)))
    all_goals (first | refine AtT.kpass ?_ | refine AtT.kpassU ?_ | ((refine AtT.keqI ?_)))
    all_goals (refine AtT.kpick ?_)
    all_goals (refine AtT.kmove ?_)
    all_goals (first | refine AtT.kL 38 ?_ | refine AtT.pcase (d := 38) rfl (fun hg38 => ?_) (fun hg38 => ?_) | refine AtT.bcase (d := 38) rfl (fun hg38 => ?_) (fun hg38 => ?_))
    all_goals (first | refine AtT.kpass ?_ | refine AtT.kpassU ?_ | ((refine AtT.kmove ?_)))
    all_goals (first | refine AtT.kpass ?_ | refine AtT.kpassU ?_ | ((first | refine AtT.klenS Try.underlying22 ?_ | refine AtT.klenR Try.underlying22 ?_)))
    all_goals (first | refine AtT.kpass ?_ | refine AtT.kpassU ?_ | ((refine AtT.kgeq ?_)))
    all_goals (refine AtT.kpick ?_)
    all_goals refine AtT.done ?_
    all_goals (refine At.nrm ?_)
    refine At.condT rfl rfl ?_
    refine At.nrm ?_
    refine At.ktext (.n false 0 (.q 1 .done)) ?_
    refine AtT.kcallP rfl rfl ok16 (works_f _) ?_
    rintro _ rfl
    refine AtT.kassign ?_
    refine AtT.done ?_
    refine At.nrm ?_
    exact At.ret1 rfl (.tmp rfl) rfl
  obtain ⟨h16, ht⟩ := trE_ok g0
  by_cases g1 : (ts.length : Int) = 0
  · refine At.ktext (.q 0 (.n false 1 (.q 2 (.q 3 (.q 4 (.q 5 (.q 6 (.q 7 (.q 8 (.q 9 (.q 10 (.q 11 (.q 12 .done))))))))))))) ?_
    refine AtT.kmove ?_
    refine AtT.kcallP rfl rfl ok37 (fine_f ts _ _ hs) ?_
    rintro _ rfl
    refine AtT.setT (d := 31) rfl (g0) ?_
    refine AtT.knot ?_
    refine AtT.setB (d := 32) rfl ((show (!true) = false from rfl)) ?_
    refine AtT.kmove ?_
    all_goals (first | refine AtT.kL 33 ?_ | refine AtT.pcase (d := 33) rfl (fun hg33 => ?_) (fun hg33 => ?_) | refine AtT.bcase (d := 33) rfl (fun hg33 => ?_) (fun hg33 => ?_))
    all_goals (first | refine AtT.kpass ?_ | refine AtT.kpassU ?_ | ((refine AtT.kmove ?_)))
    all_goals (first | refine AtT.kpass ?_ | refine AtT.kpassU ?_ | ((first | refine AtT.klenS Try.underlying22 ?_ | refine AtT.klenR Try.underlying22 ?_)))
    all_goals (first | refine AtT.kpass ?_ | refine AtT.kpassU ?_ | ((refine AtT.keqI ?_)))
    all_goals (refine AtT.setT (d := 36) rfl (g1) ?_)
    all_goals (refine AtT.kpick ?_)
    all_goals (refine AtT.kmove ?_)
    all_goals (first | refine AtT.kL 38 ?_ | refine AtT.pcase (d := 38) rfl (fun hg38 => ?_) (fun hg38 => ?_) | refine AtT.bcase (d := 38) rfl (fun hg38 => ?_) (fun hg38 => ?_))
    all_goals (first | refine AtT.kpass ?_ | refine AtT.kpassU ?_ | ((refine AtT.kmove ?_)))
    all_goals (first | refine AtT.kpass ?_ | refine AtT.kpassU ?_ | ((first | refine AtT.klenS Try.underlying22 ?_ | refine AtT.klenR Try.underlying22 ?_)))
    all_goals (first | refine AtT.kpass ?_ | refine AtT.kpassU ?_ | ((refine AtT.kgeq ?_)))
    all_goals (refine AtT.kpick ?_)
    all_goals refine AtT.done ?_
    all_goals (refine At.nrm ?_)
    refine At.condT rfl rfl ?_
    refine At.nrm ?_
    refine At.ktext (.n false 0 (.q 1 .done)) ?_
    refine AtT.kcallP rfl rfl ok16 (works_f _) ?_
    rintro _ rfl
    refine AtT.kassign ?_
    refine AtT.done ?_
    refine At.nrm ?_
    exact At.ret1 rfl (.tmp rfl) rfl
  by_cases g2 : 16 ≤ (ts.length : Int)
  · refine At.ktext (.q 0 (.n false 1 (.q 2 (.q 3 (.q 4 (.q 5 (.q 6 (.q 7 (.q 8 (.q 9 (.q 10 (.q 11 (.q 12 .done))))))))))))) ?_
    refine AtT.kmove ?_
    refine AtT.kcallP rfl rfl ok37 (fine_f ts _ _ hs) ?_
    rintro _ rfl
    refine AtT.setT (d := 31) rfl (g0) ?_
    refine AtT.knot ?_
    refine AtT.setB (d := 32) rfl ((show (!true) = false from rfl)) ?_
    refine AtT.kmove ?_
    all_goals (first | refine AtT.kL 33 ?_ | refine AtT.pcase (d := 33) rfl (fun hg33 => ?_) (fun hg33 => ?_) | refine AtT.bcase (d := 33) rfl (fun hg33 => ?_) (fun hg33 => ?_))
    all_goals (first | refine AtT.kpass ?_ | refine AtT.kpassU ?_ | ((refine AtT.kmove ?_)))
    all_goals (first | refine AtT.kpass ?_ | refine AtT.kpassU ?_ | ((first | refine AtT.klenS Try.underlying22 ?_ | refine AtT.klenR Try.underlying22 ?_)))
    all_goals (first | refine AtT.kpass ?_ | refine AtT.kpassU ?_ | ((refine AtT.keqI ?_)))
    all_goals (refine AtT.setF (d := 36) rfl (g1) ?_)
    all_goals (refine AtT.kpick ?_)
    all_goals (refine AtT.kmove ?_)
    all_goals (first | refine AtT.kL 38 ?_ | refine AtT.pcase (d := 38) rfl (fun hg38 => ?_) (fun hg38 => ?_) | refine AtT.bcase (d := 38) rfl (fun hg38 => ?_) (fun hg38 => ?_))
    all_goals (first | refine AtT.kpass ?_ | refine AtT.kpassU ?_ | ((refine AtT.kmove ?_)))
    all_goals (first | refine AtT.kpass ?_ | refine AtT.kpassU ?_ | ((first | refine AtT.klenS Try.underlying22 ?_ | refine AtT.klenR Try.underlying22 ?_)))
    all_goals (first | refine AtT.kpass ?_ | refine AtT.kpassU ?_ | ((refine AtT.kgeq ?_)))
    all_goals (refine AtT.setT (d := 41) rfl (g2) ?_)
    all_goals (refine AtT.kpick ?_)
    all_goals refine AtT.done ?_
    all_goals (refine At.nrm ?_)
    refine At.condT rfl rfl ?_
    refine At.nrm ?_
    refine At.ktext (.n false 0 (.q 1 .done)) ?_
    refine AtT.kcallP rfl rfl ok16 (works_f _) ?_
    rintro _ rfl
    refine AtT.kassign ?_
    refine AtT.done ?_
    refine At.nrm ?_
    exact At.ret1 rfl (.tmp rfl) rfl
  refine At.ktext (.q 0 (.n false 1 (.q 2 (.q 3 (.q 4 (.q 5 (.q 6 (.q 7 (.q 8 (.q 9 (.q 10 (.q 11 (.q 12 .done))))))))))))) ?_
  refine AtT.kmove ?_
  refine AtT.kcallP rfl rfl ok37 (fine_f ts _ _ hs) ?_
  rintro _ rfl
  refine AtT.setT (d := 31) rfl (g0) ?_
  refine AtT.knot ?_
  refine AtT.setB (d := 32) rfl ((show (!true) = false from rfl)) ?_
  refine AtT.kmove ?_
  all_goals (first | refine AtT.kL 33 ?_ | refine AtT.pcase (d := 33) rfl (fun hg33 => ?_) (fun hg33 => ?_) | refine AtT.bcase (d := 33) rfl (fun hg33 => ?_) (fun hg33 => ?_))
  all_goals (first | refine AtT.kpass ?_ | refine AtT.kpassU ?_ | ((refine AtT.kmove ?_)))
  all_goals (first | refine AtT.kpass ?_ | refine AtT.kpassU ?_ | ((first | refine AtT.klenS Try.underlying22 ?_ | refine AtT.klenR Try.underlying22 ?_)))
  all_goals (first | refine AtT.kpass ?_ | refine AtT.kpassU ?_ | ((refine AtT.keqI ?_)))
  all_goals (refine AtT.setF (d := 36) rfl (g1) ?_)
  all_goals (refine AtT.kpick ?_)
  all_goals (refine AtT.kmove ?_)
  all_goals (first | refine AtT.kL 38 ?_ | refine AtT.pcase (d := 38) rfl (fun hg38 => ?_) (fun hg38 => ?_) | refine AtT.bcase (d := 38) rfl (fun hg38 => ?_) (fun hg38 => ?_))
  all_goals (first | refine AtT.kpass ?_ | refine AtT.kpassU ?_ | ((refine AtT.kmove ?_)))
  all_goals (first | refine AtT.kpass ?_ | refine AtT.kpassU ?_ | ((first | refine AtT.klenS Try.underlying22 ?_ | refine AtT.klenR Try.underlying22 ?_)))
  all_goals (first | refine AtT.kpass ?_ | refine AtT.kpassU ?_ | ((refine AtT.kgeq ?_)))
  all_goals (refine AtT.setF (d := 41) rfl (g2) ?_)
  all_goals (refine AtT.kpick ?_)
  all_goals refine AtT.done ?_
  all_goals (refine At.nrm ?_)
  refine At.condF rfl rfl ?_
  obtain ⟨n, hn⟩ : ∃ n, ts.length = n := ⟨_, rfl⟩
  obtain ⟨la, rfl⟩ : ∃ la : Nat, x = (la : Int) := ⟨x.toNat, by omega⟩
  obtain ⟨wh, rfl⟩ : ∃ wh : Nat, y = (wh : Int) := ⟨y.toNat, by omega⟩
  have hn0 : 0 < n := by omega
  have hwm : ((wh : Nat) : Int).tmod (ts.length : Int) = ((wh % n : Nat) : Int) := by rw [hn, Int.tmod_eq_emod_of_nonneg (by omega)]; exact (Int.natCast_emod wh n).symm
  have hwl : wh % n < n := Nat.mod_lt _ hn0
  obtain ⟨tw, htw⟩ : ∃ t, ts[wh % n]? = some t := ⟨_, List.getElem?_eq_getElem (by omega)⟩
  refine At.nrm ?_
  refine At.ktext (.q 0 (.q 1 (.q 2 .done))) ?_
  refine AtT.kmove ?_
  first | refine AtT.klenS Try.underlying22 ?_ | refine AtT.klenR Try.underlying22 ?_
  refine AtT.kassign ?_
  refine AtT.done ?_
  refine At.nrm ?_
  refine At.ktext (.q 0 (.q 1 .done)) ?_
  refine AtT.kassign ?_
  refine AtT.kassign ?_
  refine AtT.done ?_
  refine At.nrm ?_
  refine At.newRow 53 4 ?_
  refine At.newRow 53 4 ?_
  refine At.ktext (.q 0 .done) ?_
  refine AtT.kassign ?_
  refine AtT.done ?_
  refine At.nrmB ?_
  refine At.cutG (ι := List Tq × (Option Addr × Nat) × Option Addr × Nat) (fun g => [(0, .slice a ts.length c), (2, .int .u8 wh), (7, iv ts.length), (8, .slice g.2.1.1 g.1.length g.2.1.2), (9, .slice g.2.2.1 g.1.length g.2.2.2)])
    (fun g => [.row (.slice g.2.1.1 g.1.length g.2.1.2) 53 4 g.1.length (flat tqe g.1), .row (.slice g.2.2.1 g.1.length g.2.2.2) 53 4 g.1.length (flat tqe (g.1.map swT))])
    (fun g V'' => Le V V'' ∧ g.1.length = n ∧ ∀ i, i < n → g.1[i]? = ts[(i + la) % n]?) ?_ ?_
  · refine At.nrm ?_
    refine At.lp (ι := List Tq × (Option Addr × Nat) × Option Addr × Nat) (KS := fun g => [(0, .slice a ts.length c), (1, .int .u8 la), (2, .int .u8 wh), (7, iv ts.length), (8, .slice g.2.1.1 g.1.length g.2.1.2), (9, .slice g.2.2.1 g.1.length g.2.2.2), (10, iv g.1.length)])
      (OS := fun g => [.row (.slice g.2.1.1 g.1.length g.2.1.2) 53 4 g.1.length (flat tqe g.1), .row (.slice g.2.2.1 g.1.length g.2.2.2) 53 4 g.1.length (flat tqe (g.1.map swT))])
      (VS := fun g V' => Le V V' ∧ g.1.length ≤ n ∧ ∀ i, i < g.1.length → g.1[i]? = ts[(i + la) % n]?) (μ := fun g => n - g.1.length) ([], (none, 0), none, 0) ?_ ?_ ?_ ?_
    · exact ⟨rfl, rfl, rfl, rfl, rfl, rfl, rfl, trivial⟩
    · exact Pt.auto
    · exact ⟨Le.refl _, Nat.zero_le _, fun i hi => absurd hi (Nat.not_lt_zero i)⟩
    rintro ⟨xs, ⟨a8, c8⟩, a9, c9⟩ V' ks' O' ⟨hVV, hkl, hxs⟩ hk hO hl2
    dsimp only at hkl hxs hk hO
    subst hk hO
    have hs' := hs.le hVV
    refine At.nrm ?_
    refine At.ktext (.q 0 (.q 1 (.q 2 .done))) ?_
    refine AtT.kmove ?_
    refine AtT.kmove ?_
    refine AtT.klss ?_
    refine AtT.done ?_
    refine At.nrm ?_
    refine At.condP rfl (fun hp => ?_) (fun hp => ?_)
    · have hk1 : xs.length < n := by omega
      have hjl : (xs.length + la) % n < n := Nat.mod_lt _ hn0
      have hjm : ((xs.length : Int) + (la : Int)).tmod (ts.length : Int) = (((xs.length + la) % n : Nat) : Int) := by
        rw [hn, Int.tmod_eq_emod_of_nonneg (by omega), ← Int.natCast_add]; exact (Int.natCast_emod _ n).symm
      obtain ⟨z, hz⟩ : ∃ t, ts[(xs.length + la) % n]? = some t := ⟨_, List.getElem?_eq_getElem (by omega)⟩
      refine At.nrm ?_
      refine At.ktext (.q 0 (.q 1 (.q 2 (.q 3 (.q 4 (.q 5 (.q 6 (.q 7 (.q 8 (.n false 9 (.n true 10 .done))))))))))) ?_
      refine AtT.kmove ?_
      refine AtT.kmove ?_
      refine AtT.kmove ?_
      refine AtT.kconv un5 Try.underlying3 ?_
      rw [wrap_fit (Fit.of (by omega) (by omega))]
      first | refine AtT.kadd ?_ | refine AtT.kaddW ?_
      refine AtT.kmove ?_
      refine AtT.krem ?_
      rw [hjm]
      refine AtT.kidx Try.underlying22 tk53 ?_
      intro p58 e58 he58 hc58
      obtain rfl : z = e58 := by have : ts[(xs.length + la) % n]? = some e58 := he58; rw [hz] at this; simpa using this
      first | refine AtT.kloadOA tk53 ?_ | refine AtT.kloadA tk53 ?_ | refine AtT.kloadOP tk53 ?_
      refine AtT.kalloc z53 ?_
      intro b11
      refine AtT.kstoreA tk53 ?_
      refine AtT.done ?_
      refine At.nrm ?_
      refine At.ktext (.q 0 (.q 1 (.n false 2 (.n true 3 (.q 4 .done))))) ?_
      refine AtT.kmove ?_
      first | refine AtT.kloadOA tk53 ?_ | refine AtT.kloadA tk53 ?_ | refine AtT.kloadOP tk53 ?_
      refine AtT.kbsliceG (bs22_1_0 _ _ _ _) ?_
      intro q62 V62 hV62 hq62
      have g62 : Le V V62 := by first | exact hV62 | exact Le.trans (by assumption) hV62
      first | refine AtT.kappend Try.underlying22 rw53 ?_
      intro a63 c63
      refine AtT.kassign ?_
      refine AtT.done ?_
      refine At.nrm ?_
      refine At.ktext (.q 0 (.q 1 (.q 2 (.q 3 (.q 4 (.q 5 (.q 6 (.q 7 (.q 8 (.q 9 (.q 10 (.q 11 (.n false 12 (.n false 13 (.n true 14 (.q 15 .done)))))))))))))))) ?_
      refine AtT.kmove ?_
      first | refine AtT.kfieldO fo53_0 ?_ | with_reducible refine AtT.kfield2 fo53_0 ?_ | refine AtT.kfield fo53_0 ?_
      first | refine AtT.kfieldO fo24_1 ?_ | with_reducible refine AtT.kfield2 fo24_1 ?_ | refine AtT.kfield fo24_1 ?_
      first | refine AtT.kloadO tk3 ?_ | refine AtT.kload tk3 ?_
      first | refine AtT.kfieldO fo53_0 ?_ | with_reducible refine AtT.kfield2 fo53_0 ?_ | refine AtT.kfield fo53_0 ?_
      first | refine AtT.kfieldO fo24_0 ?_ | with_reducible refine AtT.kfield2 fo24_0 ?_ | refine AtT.kfield fo24_0 ?_
      first | refine AtT.kloadO tk3 ?_ | refine AtT.kload tk3 ?_
      first | refine AtT.kfieldO fo53_0 ?_ | with_reducible refine AtT.kfield2 fo53_0 ?_ | refine AtT.kfield fo53_0 ?_
      first | refine AtT.kfieldO fo24_2 ?_ | with_reducible refine AtT.kfield2 fo24_2 ?_ | refine AtT.kfield fo24_2 ?_
      first | refine AtT.kloadO tk3 ?_ | refine AtT.kload tk3 ?_
      first | refine AtT.kfieldO fo53_1 ?_ | with_reducible refine AtT.kfield2 fo53_1 ?_ | refine AtT.kfield fo53_1 ?_
      first | refine AtT.kloadO tk4 ?_ | refine AtT.kload tk4 ?_
      refine AtT.kcallP rfl rfl ok49 (trial_f z.p.o z.p.m z.p.h z.f _) ?_
      rintro _ rfl
      refine AtT.kbsliceG (bs22_1_0 _ _ _ _) ?_
      intro q77 V77 hV77 hq77
      have g77 : Le V V77 := by first | exact hV77 | exact Le.trans (by assumption) hV77
      first | refine AtT.kappend Try.underlying22 rw53 ?_
      intro a78 c78
      refine AtT.kassign ?_
      refine AtT.done ?_
      refine At.nrm ?_
      refine At.ktext (.q 0 (.q 1 (.q 2 .done))) ?_
      refine AtT.kmove ?_
      first | refine AtT.kadd ?_ | refine AtT.kaddW ?_
      refine AtT.kassign ?_
      refine AtT.done ?_
      refine At.nrm ?_
      refine At.round (xs ++ [z], (a63, c63), a78, c78) ?_ ?_ ?_ ?_
      · show n - (xs ++ [z]).length < n - xs.length
        rw [List.length_append, List.length_singleton]; omega
      · refine ⟨hVV.trans (by first | exact hV62.trans hV77 | exact Le.trans (by assumption) (by assumption) | assumption), by dsimp only; rw [List.length_append, List.length_singleton]; omega, fun i hi => ?_⟩
        dsimp only at hi ⊢
        rw [List.length_append, List.length_singleton] at hi
        by_cases hi2 : i < xs.length
        · rw [List.getElem?_append_left hi2]; exact hxs i hi2
        · obtain rfl : i = xs.length := by omega
          rw [List.getElem?_append_right (Nat.le_refl _), hz]; simp
      · dsimp only; rw [List.length_append, List.length_singleton]; exact ⟨rfl, rfl, rfl, rfl, rfl, rfl, ivs (by omega), trivial⟩
      · dsimp only
        rw [List.map_append, List.map_cons, List.map_nil, flat_snoc, flat_snoc, List.length_append, List.length_singleton]
        exact Pt.auto
    · refine At.nrm ?_
      exact At.meetG (xs, (a8, c8), a9, c9) ⟨hVV, by dsimp only; omega, fun i hi => hxs i (by omega)⟩ ⟨rfl, rfl, rfl, rfl, rfl, trivial⟩ Pt.auto
  rintro ⟨xs, ⟨a8, c8⟩, a9, c9⟩ V5 ks' O' ⟨hV5, hxn, hxs⟩ hk hO hl5
  dsimp only at hxn hxs hk hO
  subst hk hO
  replace hs := hs.le hV5
  refine At.nrm ?_
  refine At.ktext (.q 0 (.q 1 (.q 2 (.q 3 (.q 4 (.q 5 (.q 6 (.q 7 (.n false 8 (.n true 9 (.q 10 .done))))))))))) ?_
  refine AtT.kmove ?_
  refine AtT.kmove ?_
  refine AtT.kmove ?_
  refine AtT.kconv un5 Try.underlying3 ?_
  rw [wrap_fit (Fit.of (by omega) (by omega))]
  refine AtT.kmove ?_
  refine AtT.krem ?_
  rw [hwm]
  refine AtT.kidx Try.underlying22 tk53 ?_
  intro p85 e85 he85 hc85
  obtain rfl : tw = e85 := by have : ts[wh % n]? = some e85 := he85; rw [htw] at this; simpa using this
  first | refine AtT.kloadOA tk53 ?_ | refine AtT.kloadA tk53 ?_ | refine AtT.kloadOP tk53 ?_
  refine AtT.kbsliceG (bs22_1_0 _ _ _ _) ?_
  intro q87 V87 hV87 hq87
  have g87 : Le V V87 := by first | exact hV87 | exact Le.trans (by assumption) hV87
  first | refine AtT.kappend Try.underlying22 rw53 ?_
  intro a88 c88
  refine AtT.kassign ?_
  refine AtT.done ?_
  refine At.nrm ?_
  have hsX : Le V5 V87 := by assumption
  replace hs := hs.le hsX
  refine At.giveSl (l := xs ++ [tw]) (m := xs.length + 1) tqe_len (flat_snoc _ _ _).symm (by simp) Pick.auto (fun V6 hV6 hX => ?_)
  replace hs := hs.le hV6
  refine At.giveSl (l := xs.map swT) (m := xs.length) tqe_len rfl (by simp) Pick.auto (fun V7 hV7 hY => ?_)
  replace hs := hs.le hV7
  replace hX := hX.le hV7
  have hmX : ∀ t, t ∈ xs ++ [tw] ↔ t ∈ ts := fun t => by
    rw [List.mem_append, List.mem_singleton, rot_mem hn hn0 hxn hxs]
    constructor
    · rintro (h | rfl)
      · exact h
      · exact List.mem_of_getElem? htw
    · exact .inl
  have hmY : ∀ t, t ∈ xs.map swT ↔ ∃ u ∈ ts, t = swT u := fun t => by
    rw [List.mem_map]
    constructor
    · rintro ⟨u, hu, rfl⟩; exact ⟨u, (rot_mem hn hn0 hxn hxs u).1 hu, rfl⟩
    · rintro ⟨u, hu, rfl⟩; exact ⟨u, (rot_mem hn hn0 hxn hxs u).2 hu, rfl⟩
  have gX : trE (xs ++ [tw]) = 0 := trE_mem (fun t h => ht t ((hmX t).1 h)) (by simp; omega)
  have gY : trE (xs.map swT) = 0 := trE_mem (sw_snd ht hmY) (by simp; omega)
  have hcX : clR (xs ++ [tw]) = clR ts := by rw [clR_eq gX, clR_eq g0, cl_mem hmX]
  obtain ⟨X, hXe⟩ : ∃ X, X = xs ++ [tw] := ⟨_, rfl⟩
  obtain ⟨Y, hYe⟩ : ∃ Y, Y = xs.map swT := ⟨_, rfl⟩
  rw [← hXe] at hX hmX gX hcX
  rw [← hYe] at hY hmY gY
  have hX' : ∃ aX cX, Value.slice a88 (xs.length + 1) c88 = .slice aX (xs.length + 1) cX := ⟨_, _, rfl⟩
  have eX : alE X = 0 ↔ alE ts = 0 := by
    rw [alE_ext gX, alE_ext g0]
    exact ⟨fun ⟨z, h⟩ => ⟨z, (ext_mem hmX z).1 h⟩, fun ⟨z, h⟩ => ⟨z, (ext_mem hmX z).2 h⟩⟩
  have eY : alE Y = 0 ↔ alE ts = 0 := by
    rw [alE_ext gY, alE_ext g0]
    exact ⟨fun ⟨z, h⟩ => ⟨_, ext_sw (sw_snd ht hmY) (sw_mem hmY) h⟩, fun ⟨z, h⟩ => ⟨_, ext_sw ht hmY h⟩⟩
  by_cases he : alE ts = 0
  rotate_left
  · refine At.ktext (.q 0 (.n false 1 (.q 2 (.q 3 (.q 4 (.q 5 (.q 6 (.q 7 (.q 8 .done))))))))) ?_
    refine AtT.kmove ?_
    refine AtT.kcallP rfl rfl ok38 (sets_no ts g0 he _ _ hs) ?_
    rintro _ rfl
    refine AtT.kmove ?_
    refine AtT.kextract ?_
    refine AtT.kextract ?_
    refine AtT.kextract ?_
    refine AtT.kassign ?_
    refine AtT.kassign ?_
    refine AtT.kassign ?_
    refine AtT.done ?_
    refine At.nrm ?_
    refine At.ktext (.q 0 (.n false 1 (.q 2 (.q 3 (.q 4 (.q 5 (.q 6 (.q 7 (.q 8 .done))))))))) ?_
    refine AtT.kmove ?_
    refine AtT.kcallP rfl rfl ok38 (sets_no X gX (fun h => he (eX.1 h)) _ _ hX) ?_
    rintro _ rfl
    refine AtT.kmove ?_
    refine AtT.kextract ?_
    refine AtT.kextract ?_
    refine AtT.kextract ?_
    refine AtT.kassign ?_
    refine AtT.kassign ?_
    refine AtT.kassign ?_
    refine AtT.done ?_
    refine At.nrm ?_
    refine At.ktext (.q 0 (.n false 1 (.q 2 (.q 3 (.q 4 (.q 5 (.q 6 (.q 7 (.q 8 .done))))))))) ?_
    refine AtT.kmove ?_
    refine AtT.kcallP rfl rfl ok38 (sets_no Y gY (fun h => he (eY.1 h)) _ _ hY) ?_
    rintro _ rfl
    refine AtT.kmove ?_
    refine AtT.kextract ?_
    refine AtT.kextract ?_
    refine AtT.kextract ?_
    refine AtT.kassign ?_
    refine AtT.kassign ?_
    refine AtT.kassign ?_
    refine AtT.done ?_
    refine At.nrm ?_
    refine At.ktext (.q 0 (.n false 1 (.q 2 (.q 3 (.q 4 (.q 5 (.q 6 .done))))))) ?_
    refine AtT.kmove ?_
    refine AtT.kcall rfl rfl ok19 (clear_f ts _ _ hs) ?_
    rintro _ V109 hV109 ⟨u109, rfl, hu109⟩; rw [g0]
    refine AtT.kmove ?_
    refine AtT.kextract ?_
    refine AtT.kextract ?_
    refine AtT.kassign ?_
    refine AtT.kassign ?_
    refine AtT.done ?_
    refine At.nrm ?_
    refine At.ktext (.q 0 (.n false 1 (.q 2 (.q 3 (.q 4 (.q 5 (.q 6 .done))))))) ?_
    refine AtT.kmove ?_
    refine AtT.kcall rfl rfl ok19 (clear_f X _ _ (hX.le hV109)) ?_
    rintro _ V114 hV114 ⟨u114, rfl, hu114⟩; rw [gX]
    refine AtT.kmove ?_
    refine AtT.kextract ?_
    refine AtT.kextract ?_
    refine AtT.kassign ?_
    refine AtT.kassign ?_
    refine AtT.done ?_
    refine At.nrm ?_
    replace hu109 := hu109.le hV114
    rw [hcX] at hu114
    refine At.ktext (.q 0 (.q 1 (.q 2 (.q 3 (.q 4 (.q 5 (.q 6 (.q 7 (.q 8 (.q 9 (.q 10 (.q 11 (.q 12 (.q 13 (.q 14 (.q 15 (.q 16 (.q 17 (.q 18 (.q 19 (.q 20 (.q 21 (.q 22 (.n false 23 (.q 24 (.q 25 (.q 26 (.q 27 (.q 28 (.q 29 (.q 30 (.q 31 (.q 32 (.q 33 (.q 34 (.q 35 (.q 36 (.q 37 (.q 38 (.q 39 (.q 40 (.q 41 (.q 42 (.q 43 (.n false 44 (.q 45 (.q 46 .done))))))))))))))))))))))))))))))))))))))))))))))) ?_
    refine AtT.kmove ?_
    refine AtT.knot ?_
    refine AtT.setB (d := 118) rfl ((show (!true) = false from rfl)) ?_
    refine AtT.kmove ?_
    all_goals (first | refine AtT.kL 119 ?_ | refine AtT.pcase (d := 119) rfl (fun hg119 => ?_) (fun hg119 => ?_) | refine AtT.bcase (d := 119) rfl (fun hg119 => ?_) (fun hg119 => ?_))
    all_goals (first | refine AtT.kpass ?_ | refine AtT.kpassU ?_ | ((refine AtT.kmove ?_)))
    all_goals (first | refine AtT.kpass ?_ | refine AtT.kpassU ?_ | ((refine AtT.knot ?_)))
    all_goals (refine AtT.setB (d := 121) rfl ((show (!true) = false from rfl)) ?_)
    all_goals (refine AtT.kpick ?_)
    all_goals (refine AtT.kmove ?_)
    all_goals (first | refine AtT.kL 123 ?_ | refine AtT.pcase (d := 123) rfl (fun hg123 => ?_) (fun hg123 => ?_) | refine AtT.bcase (d := 123) rfl (fun hg123 => ?_) (fun hg123 => ?_))
    all_goals (first | refine AtT.kpass ?_ | refine AtT.kpassU ?_ | ((refine AtT.kmove ?_)))
    all_goals (first | refine AtT.kpass ?_ | refine AtT.kpassU ?_ | ((refine AtT.knot ?_)))
    all_goals (refine AtT.setB (d := 125) rfl ((show (!true) = false from rfl)) ?_)
    all_goals (refine AtT.kpick ?_)
    all_goals (refine AtT.kmove ?_)
    all_goals (first | refine AtT.kL 127 ?_ | refine AtT.pcase (d := 127) rfl (fun hg127 => ?_) (fun hg127 => ?_) | refine AtT.bcase (d := 127) rfl (fun hg127 => ?_) (fun hg127 => ?_))
    all_goals (first | refine AtT.kpass ?_ | refine AtT.kpassU ?_ | ((refine AtT.kmove ?_)))
    all_goals (first | refine AtT.kpass ?_ | refine AtT.kpassU ?_ | ((refine AtT.kmove ?_)))
    all_goals (first | refine AtT.kpass ?_ | refine AtT.kpassU ?_ | ((refine AtT.neB rfl ⟨_, _, rfl, rfl, rfl⟩ Try.underlying4 rfl rfl (by decide) ?_)))
    all_goals (refine AtT.setB (d := 130) rfl ((show (false != false) = false from rfl)) ?_)
    all_goals (refine AtT.kpick ?_)
    all_goals (refine AtT.kmove ?_)
    all_goals (first | refine AtT.kL 132 ?_ | refine AtT.pcase (d := 132) rfl (fun hg132 => ?_) (fun hg132 => ?_) | refine AtT.bcase (d := 132) rfl (fun hg132 => ?_) (fun hg132 => ?_))
    all_goals (first | refine AtT.kpass ?_ | refine AtT.kpassU ?_ | ((refine AtT.kmove ?_)))
    all_goals (first | refine AtT.kpass ?_ | refine AtT.kpassU ?_ | ((refine AtT.kmove ?_)))
    all_goals (first | refine AtT.kpass ?_ | refine AtT.kpassU ?_ | ((refine AtT.neB rfl ⟨_, _, rfl, rfl, rfl⟩ Try.underlying4 rfl rfl (by decide) ?_)))
    all_goals (refine AtT.setB (d := 135) rfl ((show (false != false) = false from rfl)) ?_)
    all_goals (refine AtT.kpick ?_)
    all_goals (refine AtT.kmove ?_)
    all_goals (first | refine AtT.kL 137 ?_ | refine AtT.pcase (d := 137) rfl (fun hg137 => ?_) (fun hg137 => ?_) | refine AtT.bcase (d := 137) rfl (fun hg137 => ?_) (fun hg137 => ?_))
    all_goals (first | refine AtT.kpass ?_ | refine AtT.kpassU ?_ | ((refine AtT.kmove ?_)))
    all_goals (first | refine AtT.kpass ?_ | refine AtT.kpassU ?_ | ((refine AtT.kmove ?_)))
    all_goals (first | refine AtT.kpassN ?_ | refine AtT.kpassNU ?_ | ((refine AtT.kcallP rfl rfl ok30 (lists_eq_f [] [] _ _ _ (SL.nil _) (SL.nil _)) ?_) ; (rintro _ rfl)))
    all_goals (refine AtT.setT (d := 140) rfl (rfl) ?_)
    all_goals (first | refine AtT.kpass ?_ | refine AtT.kpassU ?_ | ((refine AtT.knot ?_)))
    all_goals (refine AtT.setB (d := 141) rfl ((show (!true) = false from rfl)) ?_)
    all_goals (refine AtT.kpick ?_)
    all_goals (refine AtT.kmove ?_)
    all_goals (first | refine AtT.kL 143 ?_ | refine AtT.pcase (d := 143) rfl (fun hg143 => ?_) (fun hg143 => ?_) | refine AtT.bcase (d := 143) rfl (fun hg143 => ?_) (fun hg143 => ?_))
    all_goals (first | refine AtT.kpass ?_ | refine AtT.kpassU ?_ | ((refine AtT.kmove ?_)))
    all_goals (first | refine AtT.kpass ?_ | refine AtT.kpassU ?_ | ((first | refine AtT.klenS Try.underlying39 ?_ | refine AtT.klenR Try.underlying39 ?_)))
    all_goals (first | refine AtT.kpass ?_ | refine AtT.kpassU ?_ | ((refine AtT.kmove ?_)))
    all_goals (first | refine AtT.kpass ?_ | refine AtT.kpassU ?_ | ((first | refine AtT.klenS Try.underlying39 ?_ | refine AtT.klenR Try.underlying39 ?_)))
    all_goals (first | refine AtT.kpass ?_ | refine AtT.kpassU ?_ | ((refine AtT.kneI ?_)))
    all_goals (refine AtT.setF (d := 148) rfl ((by simp)) ?_)
    all_goals (refine AtT.kpick ?_)
    all_goals (refine AtT.kmove ?_)
    all_goals (first | refine AtT.kL 150 ?_ | refine AtT.pcase (d := 150) rfl (fun hg150 => ?_) (fun hg150 => ?_) | refine AtT.bcase (d := 150) rfl (fun hg150 => ?_) (fun hg150 => ?_))
    all_goals (first | refine AtT.kpass ?_ | refine AtT.kpassU ?_ | ((refine AtT.kmove ?_)))
    all_goals (first | refine AtT.kpass ?_ | refine AtT.kpassU ?_ | ((refine AtT.kneI ?_)))
    all_goals (refine AtT.setF (d := 152) rfl ((by simp)) ?_)
    all_goals (refine AtT.kpick ?_)
    all_goals (refine AtT.kmove ?_)
    all_goals (first | refine AtT.kL 154 ?_ | refine AtT.pcase (d := 154) rfl (fun hg154 => ?_) (fun hg154 => ?_) | refine AtT.bcase (d := 154) rfl (fun hg154 => ?_) (fun hg154 => ?_))
    all_goals (first | refine AtT.kpass ?_ | refine AtT.kpassU ?_ | ((refine AtT.kmove ?_)))
    all_goals (first | refine AtT.kpass ?_ | refine AtT.kpassU ?_ | ((refine AtT.kneI ?_)))
    all_goals (refine AtT.setF (d := 156) rfl ((by simp)) ?_)
    all_goals (refine AtT.kpick ?_)
    all_goals (refine AtT.kmove ?_)
    all_goals (first | refine AtT.kL 158 ?_ | refine AtT.pcase (d := 158) rfl (fun hg158 => ?_) (fun hg158 => ?_) | refine AtT.bcase (d := 158) rfl (fun hg158 => ?_) (fun hg158 => ?_))
    all_goals (first | refine AtT.kpass ?_ | refine AtT.kpassU ?_ | ((refine AtT.kmove ?_)))
    all_goals (first | refine AtT.kpass ?_ | refine AtT.kpassU ?_ | ((refine AtT.kmove ?_)))
    all_goals (first | refine AtT.kpassN ?_ | refine AtT.kpassNU ?_ | ((refine AtT.kcallP rfl rfl ok23 (ints_f _ _ _ _ _ hu109 hu114) ?_) ; (rintro _ rfl)))
    all_goals (refine AtT.setT (d := 161) rfl (rfl) ?_)
    all_goals (first | refine AtT.kpass ?_ | refine AtT.kpassU ?_ | ((refine AtT.knot ?_)))
    all_goals (refine AtT.setB (d := 162) rfl ((show (!true) = false from rfl)) ?_)
    all_goals (refine AtT.kpick ?_)
    all_goals refine AtT.done ?_
    all_goals (refine At.nrm ?_)
    refine At.condF rfl rfl ?_
    refine At.nrm ?_
    refine At.ktext (.q 0 .done) ?_
    refine AtT.kassign ?_
    refine AtT.done ?_
    refine At.nrm ?_
    refine At.lp (ι := Unit) (KS := fun _ => [(12, .slice none 0 0), (25, iv 0)]) (OS := fun _ => []) (VS := fun _ V' => Le V114 V') (μ := fun _ => 0) () ?_ ?_ ?_ ?_
    · exact ⟨rfl, rfl, trivial⟩
    · exact Pt.auto
    · exact Le.refl _
    rintro _ V8 ks' O' hV8 hk2 hO hl8
    subst hk2 hO
    refine At.nrm ?_
    refine At.ktext (.q 0 (.q 1 (.q 2 (.q 3 .done)))) ?_
    refine AtT.kmove ?_
    refine AtT.kmove ?_
    first | refine AtT.klenS Try.underlying39 ?_ | refine AtT.klenR Try.underlying39 ?_
    refine AtT.klss ?_
    refine AtT.done ?_
    refine At.nrm ?_
    refine At.condF rfl (decide_eq_false (by simp)) ?_
    refine At.nrm ?_
    refine At.ktext (.n false 0 (.q 1 .done)) ?_
    refine AtT.kcallP rfl rfl ok16 (works_f _) ?_
    rintro _ rfl
    refine AtT.kassign ?_
    refine AtT.done ?_
    refine At.nrm ?_
    exact At.ret1 rfl (.tmp rfl) rfl
  refine At.ktext (.q 0 (.n false 1 (.q 2 (.q 3 (.q 4 (.q 5 (.q 6 (.q 7 (.q 8 .done))))))))) ?_
  refine AtT.kmove ?_
  refine AtT.kcall rfl rfl ok38 (sets_ok ts he _ _ hs) ?_
  rintro _ V91 hV91 ⟨u91, L, rfl, hal, hu⟩
  refine AtT.kmove ?_
  refine AtT.kextract ?_
  refine AtT.kextract ?_
  refine AtT.kextract ?_
  refine AtT.kassign ?_
  refine AtT.kassign ?_
  refine AtT.kassign ?_
  refine AtT.done ?_
  refine At.nrm ?_
  replace hs := hs.le hV91
  replace hX := hX.le hV91
  replace hY := hY.le hV91
  refine At.ktext (.q 0 (.n false 1 (.q 2 (.q 3 (.q 4 (.q 5 (.q 6 (.q 7 (.q 8 .done))))))))) ?_
  refine AtT.kmove ?_
  refine AtT.kcall rfl rfl ok38 (sets_ok X (eX.2 he) _ _ hX) ?_
  rintro _ V97 hV97 ⟨u97, L97, rfl, hal97, hu97⟩; obtain rfl := alt_uniq (ext_mem hmX) (als_alt gX hal97) (als_alt g0 hal)
  refine AtT.kmove ?_
  refine AtT.kextract ?_
  refine AtT.kextract ?_
  refine AtT.kextract ?_
  refine AtT.kassign ?_
  refine AtT.kassign ?_
  refine AtT.kassign ?_
  refine AtT.done ?_
  refine At.nrm ?_
  replace hs := hs.le hV97
  replace hX := hX.le hV97
  replace hY := hY.le hV97
  replace hu := hu.le hV97
  refine At.ktext (.q 0 (.n false 1 (.q 2 (.q 3 (.q 4 (.q 5 (.q 6 (.q 7 (.q 8 .done))))))))) ?_
  refine AtT.kmove ?_
  refine AtT.kcall rfl rfl ok38 (sets_ok Y (eY.2 he) _ _ hY) ?_
  rintro _ V103 hV103 ⟨u103, M, rfl, halM, huM⟩
  refine AtT.kmove ?_
  refine AtT.kextract ?_
  refine AtT.kextract ?_
  refine AtT.kextract ?_
  refine AtT.kassign ?_
  refine AtT.kassign ?_
  refine AtT.kassign ?_
  refine AtT.done ?_
  refine At.nrm ?_
  replace hs := hs.le hV103
  replace hX := hX.le hV103
  replace hu := hu.le hV103
  replace hu97 := hu97.le hV103
  have haltL := als_alt g0 hal
  have haltM := als_alt gY halM
  have hLM : M.length = L97.length := Nat.le_antisymm (alt_len (sw_snd ht hmY) (sw_mem hmY) haltM haltL) (alt_len ht hmY haltL haltM)
  have hlt := als_lt hal
  have hlen := als_len hal
  refine At.ktext (.q 0 (.n false 1 (.q 2 (.q 3 (.q 4 (.q 5 (.q 6 .done))))))) ?_
  refine AtT.kmove ?_
  refine AtT.kcall rfl rfl ok19 (clear_f ts _ _ hs) ?_
  rintro _ V109 hV109 ⟨u109, rfl, hu109⟩; rw [g0]
  refine AtT.kmove ?_
  refine AtT.kextract ?_
  refine AtT.kextract ?_
  refine AtT.kassign ?_
  refine AtT.kassign ?_
  refine AtT.done ?_
  refine At.nrm ?_
  replace hX := hX.le hV109
  replace hu := hu.le hV109
  replace hu97 := hu97.le hV109
  replace huM := huM.le hV109
  refine At.ktext (.q 0 (.n false 1 (.q 2 (.q 3 (.q 4 (.q 5 (.q 6 .done))))))) ?_
  refine AtT.kmove ?_
  refine AtT.kcall rfl rfl ok19 (clear_f X _ _ hX) ?_
  rintro _ V114 hV114 ⟨u114, rfl, hu114⟩; rw [gX]
  refine AtT.kmove ?_
  refine AtT.kextract ?_
  refine AtT.kextract ?_
  refine AtT.kassign ?_
  refine AtT.kassign ?_
  refine AtT.done ?_
  refine At.nrm ?_
  replace hu109 := hu109.le hV114
  replace hu := hu.le hV114
  replace hu97 := hu97.le hV114
  replace huM := huM.le hV114
  rw [hcX] at hu114
  obtain ⟨qs, aq, cq, rfl, hq, hql, hqs⟩ := hu.at
  obtain ⟨qm, am, cm, rfl, hqm, hqml, _⟩ := huM.at
  refine At.ktext (.q 0 (.q 1 (.q 2 (.q 3 (.q 4 (.q 5 (.q 6 (.q 7 (.q 8 (.q 9 (.q 10 (.q 11 (.q 12 (.q 13 (.q 14 (.q 15 (.q 16 (.q 17 (.q 18 (.q 19 (.q 20 (.q 21 (.q 22 (.n false 23 (.q 24 (.q 25 (.q 26 (.q 27 (.q 28 (.q 29 (.q 30 (.q 31 (.q 32 (.q 33 (.q 34 (.q 35 (.q 36 (.q 37 (.q 38 (.q 39 (.q 40 (.q 41 (.q 42 (.q 43 (.n false 44 (.q 45 (.q 46 .done))))))))))))))))))))))))))))))))))))))))))))))) ?_
  refine AtT.kmove ?_
  refine AtT.knot ?_
  refine AtT.setB (d := 118) rfl ((show (!true) = false from rfl)) ?_
  refine AtT.kmove ?_
  all_goals (first | refine AtT.kL 119 ?_ | refine AtT.pcase (d := 119) rfl (fun hg119 => ?_) (fun hg119 => ?_) | refine AtT.bcase (d := 119) rfl (fun hg119 => ?_) (fun hg119 => ?_))
  all_goals (first | refine AtT.kpass ?_ | refine AtT.kpassU ?_ | ((refine AtT.kmove ?_)))
  all_goals (first | refine AtT.kpass ?_ | refine AtT.kpassU ?_ | ((refine AtT.knot ?_)))
  all_goals (refine AtT.setB (d := 121) rfl ((show (!true) = false from rfl)) ?_)
  all_goals (refine AtT.kpick ?_)
  all_goals (refine AtT.kmove ?_)
  all_goals (first | refine AtT.kL 123 ?_ | refine AtT.pcase (d := 123) rfl (fun hg123 => ?_) (fun hg123 => ?_) | refine AtT.bcase (d := 123) rfl (fun hg123 => ?_) (fun hg123 => ?_))
  all_goals (first | refine AtT.kpass ?_ | refine AtT.kpassU ?_ | ((refine AtT.kmove ?_)))
  all_goals (first | refine AtT.kpass ?_ | refine AtT.kpassU ?_ | ((refine AtT.knot ?_)))
  all_goals (refine AtT.setB (d := 125) rfl ((show (!true) = false from rfl)) ?_)
  all_goals (refine AtT.kpick ?_)
  all_goals (refine AtT.kmove ?_)
  all_goals (first | refine AtT.kL 127 ?_ | refine AtT.pcase (d := 127) rfl (fun hg127 => ?_) (fun hg127 => ?_) | refine AtT.bcase (d := 127) rfl (fun hg127 => ?_) (fun hg127 => ?_))
  all_goals (first | refine AtT.kpass ?_ | refine AtT.kpassU ?_ | ((refine AtT.kmove ?_)))
  all_goals (first | refine AtT.kpass ?_ | refine AtT.kpassU ?_ | ((refine AtT.kmove ?_)))
  all_goals (first | refine AtT.kpass ?_ | refine AtT.kpassU ?_ | ((refine AtT.neB rfl ⟨_, _, rfl, rfl, rfl⟩ Try.underlying4 rfl rfl (by decide) ?_)))
  all_goals (refine AtT.setB (d := 130) rfl ((show (true != true) = false from rfl)) ?_)
  all_goals (refine AtT.kpick ?_)
  all_goals (refine AtT.kmove ?_)
  all_goals (first | refine AtT.kL 132 ?_ | refine AtT.pcase (d := 132) rfl (fun hg132 => ?_) (fun hg132 => ?_) | refine AtT.bcase (d := 132) rfl (fun hg132 => ?_) (fun hg132 => ?_))
  all_goals (first | refine AtT.kpass ?_ | refine AtT.kpassU ?_ | ((refine AtT.kmove ?_)))
  all_goals (first | refine AtT.kpass ?_ | refine AtT.kpassU ?_ | ((refine AtT.kmove ?_)))
  all_goals (first | refine AtT.kpass ?_ | refine AtT.kpassU ?_ | ((refine AtT.neB rfl ⟨_, _, rfl, rfl, rfl⟩ Try.underlying4 rfl rfl (by decide) ?_)))
  all_goals (refine AtT.setB (d := 135) rfl ((show (true != true) = false from rfl)) ?_)
  all_goals (refine AtT.kpick ?_)
  all_goals (refine AtT.kmove ?_)
  all_goals (first | refine AtT.kL 137 ?_ | refine AtT.pcase (d := 137) rfl (fun hg137 => ?_) (fun hg137 => ?_) | refine AtT.bcase (d := 137) rfl (fun hg137 => ?_) (fun hg137 => ?_))
  all_goals (first | refine AtT.kpass ?_ | refine AtT.kpassU ?_ | ((refine AtT.kmove ?_)))
  all_goals (first | refine AtT.kpass ?_ | refine AtT.kpassU ?_ | ((refine AtT.kmove ?_)))
  all_goals (first | refine AtT.kpassN ?_ | refine AtT.kpassNU ?_ | ((refine AtT.kcallP rfl rfl ok30 (lists_eq_f (bL L97) (bL L97) _ _ _ hu hu97) ?_) ; (rintro _ rfl)))
  all_goals (refine AtT.setT (d := 140) rfl (rfl) ?_)
  all_goals (first | refine AtT.kpass ?_ | refine AtT.kpassU ?_ | ((refine AtT.knot ?_)))
  all_goals (refine AtT.setB (d := 141) rfl ((show (!true) = false from rfl)) ?_)
  all_goals (refine AtT.kpick ?_)
  all_goals (refine AtT.kmove ?_)
  all_goals (first | refine AtT.kL 143 ?_ | refine AtT.pcase (d := 143) rfl (fun hg143 => ?_) (fun hg143 => ?_) | refine AtT.bcase (d := 143) rfl (fun hg143 => ?_) (fun hg143 => ?_))
  all_goals (first | refine AtT.kpass ?_ | refine AtT.kpassU ?_ | ((refine AtT.kmove ?_)))
  all_goals (first | refine AtT.kpass ?_ | refine AtT.kpassU ?_ | ((first | refine AtT.klenS Try.underlying39 ?_ | refine AtT.klenR Try.underlying39 ?_)))
  all_goals (first | refine AtT.kpass ?_ | refine AtT.kpassU ?_ | ((refine AtT.kmove ?_)))
  all_goals (first | refine AtT.kpass ?_ | refine AtT.kpassU ?_ | ((first | refine AtT.klenS Try.underlying39 ?_ | refine AtT.klenR Try.underlying39 ?_)))
  all_goals (first | refine AtT.kpass ?_ | refine AtT.kpassU ?_ | ((refine AtT.kneI ?_)))
  all_goals (refine AtT.setF (d := 148) rfl ((by omega)) ?_)
  all_goals (refine AtT.kpick ?_)
  all_goals (refine AtT.kmove ?_)
  all_goals (first | refine AtT.kL 150 ?_ | refine AtT.pcase (d := 150) rfl (fun hg150 => ?_) (fun hg150 => ?_) | refine AtT.bcase (d := 150) rfl (fun hg150 => ?_) (fun hg150 => ?_))
  all_goals (first | refine AtT.kpass ?_ | refine AtT.kpassU ?_ | ((refine AtT.kmove ?_)))
  all_goals (first | refine AtT.kpass ?_ | refine AtT.kpassU ?_ | ((refine AtT.kneI ?_)))
  all_goals (refine AtT.setF (d := 152) rfl ((by simp)) ?_)
  all_goals (refine AtT.kpick ?_)
  all_goals (refine AtT.kmove ?_)
  all_goals (first | refine AtT.kL 154 ?_ | refine AtT.pcase (d := 154) rfl (fun hg154 => ?_) (fun hg154 => ?_) | refine AtT.bcase (d := 154) rfl (fun hg154 => ?_) (fun hg154 => ?_))
  all_goals (first | refine AtT.kpass ?_ | refine AtT.kpassU ?_ | ((refine AtT.kmove ?_)))
  all_goals (first | refine AtT.kpass ?_ | refine AtT.kpassU ?_ | ((refine AtT.kneI ?_)))
  all_goals (refine AtT.setF (d := 156) rfl ((by simp)) ?_)
  all_goals (refine AtT.kpick ?_)
  all_goals (refine AtT.kmove ?_)
  all_goals (first | refine AtT.kL 158 ?_ | refine AtT.pcase (d := 158) rfl (fun hg158 => ?_) (fun hg158 => ?_) | refine AtT.bcase (d := 158) rfl (fun hg158 => ?_) (fun hg158 => ?_))
  all_goals (first | refine AtT.kpass ?_ | refine AtT.kpassU ?_ | ((refine AtT.kmove ?_)))
  all_goals (first | refine AtT.kpass ?_ | refine AtT.kpassU ?_ | ((refine AtT.kmove ?_)))
  all_goals (first | refine AtT.kpassN ?_ | refine AtT.kpassNU ?_ | ((refine AtT.kcallP rfl rfl ok23 (ints_f _ _ _ _ _ hu109 hu114) ?_) ; (rintro _ rfl)))
  all_goals (refine AtT.setT (d := 161) rfl (rfl) ?_)
  all_goals (first | refine AtT.kpass ?_ | refine AtT.kpassU ?_ | ((refine AtT.knot ?_)))
  all_goals (refine AtT.setB (d := 162) rfl ((show (!true) = false from rfl)) ?_)
  all_goals (refine AtT.kpick ?_)
  all_goals refine AtT.done ?_
  all_goals (refine At.nrm ?_)
  refine At.condF rfl rfl ?_
  refine At.nrm ?_
  refine At.ktext (.q 0 .done) ?_
  refine AtT.kassign ?_
  refine AtT.done ?_
  refine At.nrm ?_
  refine At.lp (ι := Nat) (KS := fun k => [(12, .slice aq qs.length cq), (18, .slice am qm.length cm), (25, iv k)]) (OS := fun _ => []) (VS := fun k V' => Le V114 V' ∧ k ≤ L97.length) (μ := fun k => L97.length - k) 0 ?_ ?_ ?_ ?_
  · exact ⟨rfl, rfl, rfl, trivial⟩
  · exact Pt.auto
  · exact ⟨Le.refl _, Nat.zero_le _⟩
  rintro k V' ks' O' ⟨hVV, hkl⟩ hk hO hl2
  subst hk hO
  have hq' := hq.le hVV
  have huM' := huM.le hVV
  refine At.nrm ?_
  refine At.ktext (.q 0 (.q 1 (.q 2 (.q 3 .done)))) ?_
  refine AtT.kmove ?_
  refine AtT.kmove ?_
  first | refine AtT.klenS Try.underlying39 ?_ | refine AtT.klenR Try.underlying39 ?_
  refine AtT.klss ?_
  refine AtT.done ?_
  refine At.nrm ?_
  refine At.condP rfl (fun hp' => ?_) (fun hp' => ?_)
  rotate_left
  · refine At.nrm ?_
    refine At.ktext (.n false 0 (.q 1 .done)) ?_
    refine AtT.kcallP rfl rfl ok16 (works_f _) ?_
    rintro _ rfl
    refine AtT.kassign ?_
    refine AtT.done ?_
    refine At.nrm ?_
    exact At.ret1 rfl (.tmp rfl) rfl
  have hk1 : k < L97.length := by omega
  obtain ⟨q, hqk⟩ : ∃ x, qs[k]? = some x := ⟨_, List.getElem?_eq_getElem (by omega)⟩
  obtain ⟨z, hz⟩ : ∃ l, L97[k]? = some l := ⟨_, List.getElem?_eq_getElem (by omega)⟩
  have hs1 := (hqs k q z hqk hz).le hVV
  have hzm := List.mem_of_getElem? hz
  have htu := tu_eq z
  have hin := bit_in z
  have hl15 := bitL_len z 15
  obtain ⟨l, hl⟩ : ∃ l, l = bitL z 15 := ⟨_, rfl⟩
  rw [← hl] at hs1 htu hin hl15
  have hmem : bitL (swN z) 15 ∈ bL M := List.mem_map.2 ⟨swN z, alt_sw ht hmY haltL haltM hzm, rfl⟩
  have tl1 : ∀ j, (tu1 (l.take j)).length ≤ 15 := fun j => by unfold tu1; rw [List.length_map]; have := List.length_filter_le (fun x => decide (5 ≤ x ∧ x < 10)) (l.take j); rw [List.length_take] at this; omega
  have tl2 : ∀ j, (tu2 (l.take j)).length ≤ 15 := fun j => by unfold tu2; rw [List.length_map]; have := List.length_filter_le (fun x => decide (x < 5)) (l.take j); rw [List.length_take] at this; omega
  have tl3 : ∀ j, (tu3 (l.take j)).length ≤ 15 := fun j => by unfold tu3; have := List.length_filter_le (fun x => decide (10 ≤ x)) (l.take j); rw [List.length_take] at this; omega
  refine At.nrm ?_
  refine At.ktext (.q 0 .done) ?_
  refine AtT.kassign ?_
  refine AtT.done ?_
  refine At.nrm ?_
  refine At.newRow 3 1 ?_
  refine At.sub (ks' := [(12, .slice aq qs.length cq), (18, .slice am qm.length cm), (25, iv k), (26, .slice none 0 0)]) ⟨rfl, rfl, rfl, rfl, trivial⟩ ?_
  refine At.ktext (.q 0 .done) ?_
  refine AtT.kassign ?_
  refine AtT.done ?_
  refine At.nrm ?_
  refine At.lp (ι := Nat × List Int × Option Addr × Nat) (KS := fun g => [(12, .slice aq qs.length cq), (18, .slice am qm.length cm), (25, iv k), (26, .slice g.2.2.1 g.2.1.length g.2.2.2), (27, iv g.1)])
    (OS := fun g => [.row (.slice g.2.2.1 g.2.1.length g.2.2.2) 3 1 g.2.1.length (flat ei g.2.1)]) (VS := fun g V'' => Le V' V'' ∧ g.1 ≤ l.length ∧ g.2.1 = tu1 (l.take g.1)) (μ := fun g => l.length - g.1) (0, [], none, 0) ?_ ?_ ?_ ?_
  · exact ⟨rfl, rfl, rfl, rfl, rfl, trivial⟩
  · exact Pt.auto
  · exact ⟨Le.refl _, Nat.zero_le _, by rfl⟩
  rintro ⟨j, outa, aoa, coa⟩ Wa ks' O' ⟨hWa, hjl, houta⟩ hk hO hl3
  dsimp only at hjl houta hk hO
  subst hk hO
  have hqa := hq'.le hWa
  have hs1a := hs1.le hWa
  have hola : outa.length ≤ 45 := by rw [houta]; (try rw [List.length_append]); (try rw [List.length_append]); have := tl1 j; have := tl2 j; have := tl3 j; have := tl1 l.length; have := tl2 l.length; rw [List.take_length] at *; omega
  refine At.nrm ?_
  refine At.ktext (.q 0 (.q 1 (.q 2 (.q 3 (.q 4 (.q 5 (.q 6 .done))))))) ?_
  refine AtT.kmove ?_
  refine AtT.kmove ?_
  refine AtT.kmove ?_
  refine AtT.kidx Try.underlying39 tk25 ?_
  intro p173 e173 he173 hc173
  obtain rfl : q = e173 := by have : qs[k]? = some e173 := (by simpa using he173); rw [hqk] at this; simpa using this
  first | refine AtT.kloadO tk25 ?_ | refine AtT.kload tk25 ?_
  first | refine AtT.klenS Try.underlying25 ?_ | refine AtT.klenR Try.underlying25 ?_
  refine AtT.klss ?_
  refine AtT.done ?_
  refine At.nrm ?_
  refine At.condP rfl (fun hp2 => ?_) (fun hp2 => ?_)
  · obtain ⟨y, hy⟩ : ∃ y, l[j]? = some y := ⟨_, List.getElem?_eq_getElem (by omega)⟩
    have hyb := hin y (List.mem_of_getElem? hy)
    have hta := tu1_at hy
    refine At.nrmB ?_
    refine At.cutG (ι := List Int × Option Addr × Nat) (fun g => [(12, .slice aq qs.length cq), (18, .slice am qm.length cm), (25, iv k), (26, .slice g.2.1 g.1.length g.2.2), (27, iv j)]) (fun g => [.row (.slice g.2.1 g.1.length g.2.2) 3 1 g.1.length (flat ei g.1)]) (fun g V'' => Le Wa V'' ∧ g.1 = tu1 (l.take (j + 1))) ?_ ?_
    · refine At.nrm ?_
      by_cases c1 : 5 ≤ y ∧ y < 10
      · refine At.ktext (.q 0 (.q 1 (.q 2 (.q 3 (.q 4 (.q 5 (.q 6 (.q 7 (.q 8 (.q 9 (.q 10 (.q 11 (.q 12 (.q 13 (.q 14 (.q 15 (.q 16 (.q 17 .done)))))))))))))))))) ?_
        refine AtT.kmove ?_
        refine AtT.kmove ?_
        refine AtT.kidx Try.underlying39 tk25 ?_
        intro p181 e181 he181 hc181
        obtain rfl : q = e181 := by have : qs[k]? = some e181 := (by simpa using he181); rw [hqk] at this; simpa using this
        first | refine AtT.kloadO tk25 ?_ | refine AtT.kload tk25 ?_
        refine AtT.kmove ?_
        refine AtT.kidx Try.underlying25 tk3 ?_
        intro p184 e184 he184 hc184
        obtain rfl : y = e184 := by have : l[j]? = some e184 := (by simpa using he184); rw [hy] at this; simpa using this
        first | refine AtT.kloadO tk3 ?_ | refine AtT.kload tk3 ?_
        refine AtT.kgeq ?_
        refine AtT.setT (d := 186) rfl (c1.1) ?_
        refine AtT.kmove ?_
        all_goals (first | refine AtT.kL 187 ?_ | refine AtT.pcase (d := 187) rfl (fun hg187 => ?_) (fun hg187 => ?_) | refine AtT.bcase (d := 187) rfl (fun hg187 => ?_) (fun hg187 => ?_))
        all_goals (first | refine AtT.kpass ?_ | refine AtT.kpassU ?_ | ((refine AtT.kmove ?_)))
        all_goals (first | refine AtT.kpass ?_ | refine AtT.kpassU ?_ | ((refine AtT.kmove ?_)))
        all_goals (first | refine AtT.kpass ?_ | refine AtT.kpassU ?_ | ((refine AtT.kidx Try.underlying39 tk25 ?_) ; (intro p190 e190 he190 hc190)))
        all_goals (obtain rfl : q = e190 := by have : qs[k]? = some e190 := (by simpa using he190); rw [hqk] at this; simpa using this)
        all_goals (first | refine AtT.kpass ?_ | refine AtT.kpassU ?_ | ((first | refine AtT.kloadO tk25 ?_ | refine AtT.kload tk25 ?_)))
        all_goals (first | refine AtT.kpass ?_ | refine AtT.kpassU ?_ | ((refine AtT.kmove ?_)))
        all_goals (first | refine AtT.kpass ?_ | refine AtT.kpassU ?_ | ((refine AtT.kidx Try.underlying25 tk3 ?_) ; (intro p193 e193 he193 hc193)))
        all_goals (obtain rfl : y = e193 := by have : l[j]? = some e193 := (by simpa using he193); rw [hy] at this; simpa using this)
        all_goals (first | refine AtT.kpass ?_ | refine AtT.kpassU ?_ | ((first | refine AtT.kloadO tk3 ?_ | refine AtT.kload tk3 ?_)))
        all_goals (first | refine AtT.kpass ?_ | refine AtT.kpassU ?_ | ((refine AtT.klss ?_)))
        all_goals (refine AtT.setT (d := 195) rfl (c1.2) ?_)
        all_goals (refine AtT.kpick ?_)
        all_goals refine AtT.done ?_
        all_goals (refine At.nrm ?_)
        rw [if_pos ⟨c1.1, c1.2⟩] at hta
        refine At.condT rfl rfl ?_
        refine At.nrm ?_
        refine At.ktext (.q 0 (.q 1 (.q 2 (.q 3 (.q 4 (.q 5 (.q 6 (.q 7 (.q 8 (.n false 9 (.n true 10 (.q 11 .done)))))))))))) ?_
        refine AtT.kmove ?_
        refine AtT.kmove ?_
        refine AtT.kmove ?_
        refine AtT.kidx Try.underlying39 tk25 ?_
        intro p200 e200 he200 hc200
        obtain rfl : q = e200 := by have : qs[k]? = some e200 := (by simpa using he200); rw [hqk] at this; simpa using this
        first | refine AtT.kloadO tk25 ?_ | refine AtT.kload tk25 ?_
        refine AtT.kmove ?_
        refine AtT.kidx Try.underlying25 tk3 ?_
        intro p203 e203 he203 hc203
        obtain rfl : y = e203 := by have : l[j]? = some e203 := (by simpa using he203); rw [hy] at this; simpa using this
        first | refine AtT.kloadO tk3 ?_ | refine AtT.kload tk3 ?_
        first | refine AtT.ksubt ?_ | refine AtT.ksubW ?_
        refine AtT.kbsliceG (bs25_1_0 _) ?_
        intro q206 V206 hV206 hq206
        have g206 : Le V V206 := by first | exact hV206 | exact Le.trans (by assumption) hV206
        first | refine AtT.kappend Try.underlying25 rw3 ?_
        intro a207 c207
        refine AtT.kassign ?_
        refine AtT.done ?_
        refine At.nrm ?_
        refine At.meetG (outa ++ [y - 5], a207, c207) ⟨by first | assumption | exact Le.refl _, by dsimp only; rw [hta, houta]; (try simp only [List.append_assoc])⟩ ?_ ?_
        · dsimp only; rw [List.length_append]; exact ⟨rfl, rfl, rfl, rfl, rfl, trivial⟩
        · dsimp only
          rw [flat_snoc, List.length_append]
          exact Pt.auto
      by_cases c2 : 5 ≤ y
      · refine At.ktext (.q 0 (.q 1 (.q 2 (.q 3 (.q 4 (.q 5 (.q 6 (.q 7 (.q 8 (.q 9 (.q 10 (.q 11 (.q 12 (.q 13 (.q 14 (.q 15 (.q 16 (.q 17 .done)))))))))))))))))) ?_
        refine AtT.kmove ?_
        refine AtT.kmove ?_
        refine AtT.kidx Try.underlying39 tk25 ?_
        intro p181 e181 he181 hc181
        obtain rfl : q = e181 := by have : qs[k]? = some e181 := (by simpa using he181); rw [hqk] at this; simpa using this
        first | refine AtT.kloadO tk25 ?_ | refine AtT.kload tk25 ?_
        refine AtT.kmove ?_
        refine AtT.kidx Try.underlying25 tk3 ?_
        intro p184 e184 he184 hc184
        obtain rfl : y = e184 := by have : l[j]? = some e184 := (by simpa using he184); rw [hy] at this; simpa using this
        first | refine AtT.kloadO tk3 ?_ | refine AtT.kload tk3 ?_
        refine AtT.kgeq ?_
        refine AtT.setT (d := 186) rfl (c2) ?_
        refine AtT.kmove ?_
        all_goals (first | refine AtT.kL 187 ?_ | refine AtT.pcase (d := 187) rfl (fun hg187 => ?_) (fun hg187 => ?_) | refine AtT.bcase (d := 187) rfl (fun hg187 => ?_) (fun hg187 => ?_))
        all_goals (first | refine AtT.kpass ?_ | refine AtT.kpassU ?_ | ((refine AtT.kmove ?_)))
        all_goals (first | refine AtT.kpass ?_ | refine AtT.kpassU ?_ | ((refine AtT.kmove ?_)))
        all_goals (first | refine AtT.kpass ?_ | refine AtT.kpassU ?_ | ((refine AtT.kidx Try.underlying39 tk25 ?_) ; (intro p190 e190 he190 hc190)))
        all_goals (obtain rfl : q = e190 := by have : qs[k]? = some e190 := (by simpa using he190); rw [hqk] at this; simpa using this)
        all_goals (first | refine AtT.kpass ?_ | refine AtT.kpassU ?_ | ((first | refine AtT.kloadO tk25 ?_ | refine AtT.kload tk25 ?_)))
        all_goals (first | refine AtT.kpass ?_ | refine AtT.kpassU ?_ | ((refine AtT.kmove ?_)))
        all_goals (first | refine AtT.kpass ?_ | refine AtT.kpassU ?_ | ((refine AtT.kidx Try.underlying25 tk3 ?_) ; (intro p193 e193 he193 hc193)))
        all_goals (obtain rfl : y = e193 := by have : l[j]? = some e193 := (by simpa using he193); rw [hy] at this; simpa using this)
        all_goals (first | refine AtT.kpass ?_ | refine AtT.kpassU ?_ | ((first | refine AtT.kloadO tk3 ?_ | refine AtT.kload tk3 ?_)))
        all_goals (first | refine AtT.kpass ?_ | refine AtT.kpassU ?_ | ((refine AtT.klss ?_)))
        all_goals (refine AtT.setF (d := 195) rfl ((by omega)) ?_)
        all_goals (refine AtT.kpick ?_)
        all_goals refine AtT.done ?_
        all_goals (refine At.nrm ?_)
        rw [if_neg (by omega)] at hta
        refine At.condF rfl rfl ?_
        refine At.nrm ?_
        exact At.meetG (outa, aoa, coa) ⟨Le.refl _, by dsimp only; rw [hta, houta]⟩ ⟨rfl, rfl, rfl, rfl, rfl, trivial⟩ Pt.auto
      · refine At.ktext (.q 0 (.q 1 (.q 2 (.q 3 (.q 4 (.q 5 (.q 6 (.q 7 (.q 8 (.q 9 (.q 10 (.q 11 (.q 12 (.q 13 (.q 14 (.q 15 (.q 16 (.q 17 .done)))))))))))))))))) ?_
        refine AtT.kmove ?_
        refine AtT.kmove ?_
        refine AtT.kidx Try.underlying39 tk25 ?_
        intro p181 e181 he181 hc181
        obtain rfl : q = e181 := by have : qs[k]? = some e181 := (by simpa using he181); rw [hqk] at this; simpa using this
        first | refine AtT.kloadO tk25 ?_ | refine AtT.kload tk25 ?_
        refine AtT.kmove ?_
        refine AtT.kidx Try.underlying25 tk3 ?_
        intro p184 e184 he184 hc184
        obtain rfl : y = e184 := by have : l[j]? = some e184 := (by simpa using he184); rw [hy] at this; simpa using this
        first | refine AtT.kloadO tk3 ?_ | refine AtT.kload tk3 ?_
        refine AtT.kgeq ?_
        refine AtT.setF (d := 186) rfl (c2) ?_
        refine AtT.kmove ?_
        all_goals (first | refine AtT.kL 187 ?_ | refine AtT.pcase (d := 187) rfl (fun hg187 => ?_) (fun hg187 => ?_) | refine AtT.bcase (d := 187) rfl (fun hg187 => ?_) (fun hg187 => ?_))
        all_goals (first | refine AtT.kpass ?_ | refine AtT.kpassU ?_ | ((refine AtT.kmove ?_)))
        all_goals (first | refine AtT.kpass ?_ | refine AtT.kpassU ?_ | ((refine AtT.kmove ?_)))
        all_goals (first | refine AtT.kpass ?_ | refine AtT.kpassU ?_ | ((refine AtT.kidx Try.underlying39 tk25 ?_) ; (intro p190 e190 he190 hc190)))
        all_goals (first | refine AtT.kpass ?_ | refine AtT.kpassU ?_ | ((first | refine AtT.kloadO tk25 ?_ | refine AtT.kload tk25 ?_)))
        all_goals (first | refine AtT.kpass ?_ | refine AtT.kpassU ?_ | ((refine AtT.kmove ?_)))
        all_goals (first | refine AtT.kpass ?_ | refine AtT.kpassU ?_ | ((refine AtT.kidx Try.underlying25 tk3 ?_) ; (intro p193 e193 he193 hc193)))
        all_goals (first | refine AtT.kpass ?_ | refine AtT.kpassU ?_ | ((first | refine AtT.kloadO tk3 ?_ | refine AtT.kload tk3 ?_)))
        all_goals (first | refine AtT.kpass ?_ | refine AtT.kpassU ?_ | ((refine AtT.klss ?_)))
        all_goals (refine AtT.kpick ?_)
        all_goals refine AtT.done ?_
        all_goals (refine At.nrm ?_)
        rw [if_neg (by omega)] at hta
        refine At.condF rfl rfl ?_
        refine At.nrm ?_
        exact At.meetG (outa, aoa, coa) ⟨Le.refl _, by dsimp only; rw [hta, houta]⟩ ⟨rfl, rfl, rfl, rfl, rfl, trivial⟩ Pt.auto
    rintro ⟨out2, ao2, co2⟩ V3 ks' O' ⟨hV3, hout2⟩ hk hO hl4
    dsimp only at hout2 hk hO
    subst hk hO
    refine At.nrm ?_
    refine At.ktext (.q 0 (.q 1 (.q 2 .done))) ?_
    refine AtT.kmove ?_
    first | refine AtT.kadd ?_ | refine AtT.kaddW ?_
    refine AtT.kassign ?_
    refine AtT.done ?_
    refine At.nrm ?_
    refine At.round (j + 1, out2, ao2, co2) ?_ ?_ ?_ ?_
    · show l.length - (j + 1) < l.length - j; omega
    · exact ⟨hWa.trans hV3, by dsimp only; omega, hout2⟩
    · exact ⟨rfl, rfl, rfl, rfl, ivs (by dsimp only; omega), trivial⟩
    · exact Pt.auto
  obtain rfl : j = l.length := by omega
  rw [List.take_length] at houta
  refine At.nrm ?_
  refine At.ktext (.q 0 .done) ?_
  refine AtT.kassign ?_
  refine AtT.done ?_
  refine At.nrm ?_
  refine At.lp (ι := Nat × List Int × Option Addr × Nat) (KS := fun g => [(12, .slice aq qs.length cq), (18, .slice am qm.length cm), (25, iv k), (26, .slice g.2.2.1 g.2.1.length g.2.2.2), (28, iv g.1)])
    (OS := fun g => [.row (.slice g.2.2.1 g.2.1.length g.2.2.2) 3 1 g.2.1.length (flat ei g.2.1)]) (VS := fun g V'' => Le Wa V'' ∧ g.1 ≤ l.length ∧ g.2.1 = tu1 l ++ tu2 (l.take g.1)) (μ := fun g => l.length - g.1) (0, outa, aoa, coa) ?_ ?_ ?_ ?_
  · exact ⟨rfl, rfl, rfl, rfl, rfl, trivial⟩
  · exact Pt.auto
  · exact ⟨Le.refl _, Nat.zero_le _, by dsimp only; rw [houta, List.take_zero]; simp [tu2]⟩
  rintro ⟨j, outb, aob, cob⟩ Wb ks' O' ⟨hWb, hjl, houtb⟩ hk hO hl3
  dsimp only at hjl houtb hk hO
  subst hk hO
  have hqb := hqa.le hWb
  have hs1b := hs1a.le hWb
  have holb : outb.length ≤ 45 := by rw [houtb]; (try rw [List.length_append]); (try rw [List.length_append]); have := tl1 j; have := tl2 j; have := tl3 j; have := tl1 l.length; have := tl2 l.length; rw [List.take_length] at *; omega
  refine At.nrm ?_
  refine At.ktext (.q 0 (.q 1 (.q 2 (.q 3 (.q 4 (.q 5 (.q 6 .done))))))) ?_
  refine AtT.kmove ?_
  refine AtT.kmove ?_
  refine AtT.kmove ?_
  refine AtT.kidx Try.underlying39 tk25 ?_
  intro p211 e211 he211 hc211
  obtain rfl : q = e211 := by have : qs[k]? = some e211 := (by simpa using he211); rw [hqk] at this; simpa using this
  first | refine AtT.kloadO tk25 ?_ | refine AtT.kload tk25 ?_
  first | refine AtT.klenS Try.underlying25 ?_ | refine AtT.klenR Try.underlying25 ?_
  refine AtT.klss ?_
  refine AtT.done ?_
  refine At.nrm ?_
  refine At.condP rfl (fun hp2 => ?_) (fun hp2 => ?_)
  · obtain ⟨y, hy⟩ : ∃ y, l[j]? = some y := ⟨_, List.getElem?_eq_getElem (by omega)⟩
    have hyb := hin y (List.mem_of_getElem? hy)
    have hta := tu2_at hy
    refine At.nrmB ?_
    refine At.cutG (ι := List Int × Option Addr × Nat) (fun g => [(12, .slice aq qs.length cq), (18, .slice am qm.length cm), (25, iv k), (26, .slice g.2.1 g.1.length g.2.2), (28, iv j)]) (fun g => [.row (.slice g.2.1 g.1.length g.2.2) 3 1 g.1.length (flat ei g.1)]) (fun g V'' => Le Wb V'' ∧ g.1 = tu1 l ++ tu2 (l.take (j + 1))) ?_ ?_
    · refine At.nrm ?_
      by_cases c1 : y < 5
      · refine At.ktext (.q 0 (.q 1 (.q 2 (.q 3 (.q 4 (.q 5 (.q 6 (.q 7 .done)))))))) ?_
        refine AtT.kmove ?_
        refine AtT.kmove ?_
        refine AtT.kidx Try.underlying39 tk25 ?_
        intro p219 e219 he219 hc219
        obtain rfl : q = e219 := by have : qs[k]? = some e219 := (by simpa using he219); rw [hqk] at this; simpa using this
        first | refine AtT.kloadO tk25 ?_ | refine AtT.kload tk25 ?_
        refine AtT.kmove ?_
        refine AtT.kidx Try.underlying25 tk3 ?_
        intro p222 e222 he222 hc222
        obtain rfl : y = e222 := by have : l[j]? = some e222 := (by simpa using he222); rw [hy] at this; simpa using this
        first | refine AtT.kloadO tk3 ?_ | refine AtT.kload tk3 ?_
        refine AtT.klss ?_
        refine AtT.setT (d := 224) rfl (c1) ?_
        refine AtT.done ?_
        refine At.nrm ?_
        rw [if_pos c1] at hta
        refine At.condT rfl rfl ?_
        refine At.nrm ?_
        refine At.ktext (.q 0 (.q 1 (.q 2 (.q 3 (.q 4 (.q 5 (.q 6 (.q 7 (.q 8 (.n false 9 (.n true 10 (.q 11 .done)))))))))))) ?_
        refine AtT.kmove ?_
        refine AtT.kmove ?_
        refine AtT.kmove ?_
        refine AtT.kidx Try.underlying39 tk25 ?_
        intro p228 e228 he228 hc228
        obtain rfl : q = e228 := by have : qs[k]? = some e228 := (by simpa using he228); rw [hqk] at this; simpa using this
        first | refine AtT.kloadO tk25 ?_ | refine AtT.kload tk25 ?_
        refine AtT.kmove ?_
        refine AtT.kidx Try.underlying25 tk3 ?_
        intro p231 e231 he231 hc231
        obtain rfl : y = e231 := by have : l[j]? = some e231 := (by simpa using he231); rw [hy] at this; simpa using this
        first | refine AtT.kloadO tk3 ?_ | refine AtT.kload tk3 ?_
        first | refine AtT.kadd ?_ | refine AtT.kaddW ?_
        refine AtT.kbsliceG (bs25_1_0 _) ?_
        intro q234 V234 hV234 hq234
        have g234 : Le V V234 := by first | exact hV234 | exact Le.trans (by assumption) hV234
        first | refine AtT.kappend Try.underlying25 rw3 ?_
        intro a235 c235
        refine AtT.kassign ?_
        refine AtT.done ?_
        refine At.nrm ?_
        refine At.meetG (outb ++ [y + 5], a235, c235) ⟨by first | assumption | exact Le.refl _, by dsimp only; rw [hta, houtb]; (try simp only [List.append_assoc])⟩ ?_ ?_
        · dsimp only; rw [List.length_append]; exact ⟨rfl, rfl, rfl, rfl, rfl, trivial⟩
        · dsimp only
          rw [flat_snoc, List.length_append]
          exact Pt.auto
      · refine At.ktext (.q 0 (.q 1 (.q 2 (.q 3 (.q 4 (.q 5 (.q 6 (.q 7 .done)))))))) ?_
        refine AtT.kmove ?_
        refine AtT.kmove ?_
        refine AtT.kidx Try.underlying39 tk25 ?_
        intro p219 e219 he219 hc219
        obtain rfl : q = e219 := by have : qs[k]? = some e219 := (by simpa using he219); rw [hqk] at this; simpa using this
        first | refine AtT.kloadO tk25 ?_ | refine AtT.kload tk25 ?_
        refine AtT.kmove ?_
        refine AtT.kidx Try.underlying25 tk3 ?_
        intro p222 e222 he222 hc222
        obtain rfl : y = e222 := by have : l[j]? = some e222 := (by simpa using he222); rw [hy] at this; simpa using this
        first | refine AtT.kloadO tk3 ?_ | refine AtT.kload tk3 ?_
        refine AtT.klss ?_
        refine AtT.setF (d := 224) rfl (c1) ?_
        refine AtT.done ?_
        refine At.nrm ?_
        rw [if_neg (by omega)] at hta
        refine At.condF rfl rfl ?_
        refine At.nrm ?_
        exact At.meetG (outb, aob, cob) ⟨Le.refl _, by dsimp only; rw [hta, houtb]⟩ ⟨rfl, rfl, rfl, rfl, rfl, trivial⟩ Pt.auto
    rintro ⟨out2, ao2, co2⟩ V3 ks' O' ⟨hV3, hout2⟩ hk hO hl4
    dsimp only at hout2 hk hO
    subst hk hO
    refine At.nrm ?_
    refine At.ktext (.q 0 (.q 1 (.q 2 .done))) ?_
    refine AtT.kmove ?_
    first | refine AtT.kadd ?_ | refine AtT.kaddW ?_
    refine AtT.kassign ?_
    refine AtT.done ?_
    refine At.nrm ?_
    refine At.round (j + 1, out2, ao2, co2) ?_ ?_ ?_ ?_
    · show l.length - (j + 1) < l.length - j; omega
    · exact ⟨hWb.trans hV3, by dsimp only; omega, hout2⟩
    · exact ⟨rfl, rfl, rfl, rfl, ivs (by dsimp only; omega), trivial⟩
    · exact Pt.auto
  obtain rfl : j = l.length := by omega
  rw [List.take_length] at houtb
  refine At.nrm ?_
  refine At.ktext (.q 0 .done) ?_
  refine AtT.kassign ?_
  refine AtT.done ?_
  refine At.nrm ?_
  refine At.lp (ι := Nat × List Int × Option Addr × Nat) (KS := fun g => [(12, .slice aq qs.length cq), (18, .slice am qm.length cm), (25, iv k), (26, .slice g.2.2.1 g.2.1.length g.2.2.2), (29, iv g.1)])
    (OS := fun g => [.row (.slice g.2.2.1 g.2.1.length g.2.2.2) 3 1 g.2.1.length (flat ei g.2.1)]) (VS := fun g V'' => Le Wb V'' ∧ g.1 ≤ l.length ∧ g.2.1 = tu1 l ++ tu2 l ++ tu3 (l.take g.1)) (μ := fun g => l.length - g.1) (0, outb, aob, cob) ?_ ?_ ?_ ?_
  · exact ⟨rfl, rfl, rfl, rfl, rfl, trivial⟩
  · exact Pt.auto
  · exact ⟨Le.refl _, Nat.zero_le _, by dsimp only; rw [houtb, List.take_zero]; simp [tu3]⟩
  rintro ⟨j, outc, aoc, coc⟩ Wc ks' O' ⟨hWc, hjl, houtc⟩ hk hO hl3
  dsimp only at hjl houtc hk hO
  subst hk hO
  have hqc := hqb.le hWc
  have hs1c := hs1b.le hWc
  have holc : outc.length ≤ 45 := by rw [houtc]; (try rw [List.length_append]); (try rw [List.length_append]); have := tl1 j; have := tl2 j; have := tl3 j; have := tl1 l.length; have := tl2 l.length; rw [List.take_length] at *; omega
  refine At.nrm ?_
  refine At.ktext (.q 0 (.q 1 (.q 2 (.q 3 (.q 4 (.q 5 (.q 6 .done))))))) ?_
  refine AtT.kmove ?_
  refine AtT.kmove ?_
  refine AtT.kmove ?_
  refine AtT.kidx Try.underlying39 tk25 ?_
  intro p239 e239 he239 hc239
  obtain rfl : q = e239 := by have : qs[k]? = some e239 := (by simpa using he239); rw [hqk] at this; simpa using this
  first | refine AtT.kloadO tk25 ?_ | refine AtT.kload tk25 ?_
  first | refine AtT.klenS Try.underlying25 ?_ | refine AtT.klenR Try.underlying25 ?_
  refine AtT.klss ?_
  refine AtT.done ?_
  refine At.nrm ?_
  refine At.condP rfl (fun hp2 => ?_) (fun hp2 => ?_)
  · obtain ⟨y, hy⟩ : ∃ y, l[j]? = some y := ⟨_, List.getElem?_eq_getElem (by omega)⟩
    have hyb := hin y (List.mem_of_getElem? hy)
    have hta := tu3_at hy
    refine At.nrmB ?_
    refine At.cutG (ι := List Int × Option Addr × Nat) (fun g => [(12, .slice aq qs.length cq), (18, .slice am qm.length cm), (25, iv k), (26, .slice g.2.1 g.1.length g.2.2), (29, iv j)]) (fun g => [.row (.slice g.2.1 g.1.length g.2.2) 3 1 g.1.length (flat ei g.1)]) (fun g V'' => Le Wc V'' ∧ g.1 = tu1 l ++ tu2 l ++ tu3 (l.take (j + 1))) ?_ ?_
    · refine At.nrm ?_
      by_cases c1 : 10 ≤ y
      · refine At.ktext (.q 0 (.q 1 (.q 2 (.q 3 (.q 4 (.q 5 (.q 6 (.q 7 .done)))))))) ?_
        refine AtT.kmove ?_
        refine AtT.kmove ?_
        refine AtT.kidx Try.underlying39 tk25 ?_
        intro p247 e247 he247 hc247
        obtain rfl : q = e247 := by have : qs[k]? = some e247 := (by simpa using he247); rw [hqk] at this; simpa using this
        first | refine AtT.kloadO tk25 ?_ | refine AtT.kload tk25 ?_
        refine AtT.kmove ?_
        refine AtT.kidx Try.underlying25 tk3 ?_
        intro p250 e250 he250 hc250
        obtain rfl : y = e250 := by have : l[j]? = some e250 := (by simpa using he250); rw [hy] at this; simpa using this
        first | refine AtT.kloadO tk3 ?_ | refine AtT.kload tk3 ?_
        refine AtT.kgeq ?_
        refine AtT.setT (d := 252) rfl (c1) ?_
        refine AtT.done ?_
        refine At.nrm ?_
        rw [if_pos c1] at hta
        refine At.condT rfl rfl ?_
        refine At.nrm ?_
        refine At.ktext (.q 0 (.q 1 (.q 2 (.q 3 (.q 4 (.q 5 (.q 6 (.q 7 (.n false 8 (.n true 9 (.q 10 .done))))))))))) ?_
        refine AtT.kmove ?_
        refine AtT.kmove ?_
        refine AtT.kmove ?_
        refine AtT.kidx Try.underlying39 tk25 ?_
        intro p256 e256 he256 hc256
        obtain rfl : q = e256 := by have : qs[k]? = some e256 := (by simpa using he256); rw [hqk] at this; simpa using this
        first | refine AtT.kloadO tk25 ?_ | refine AtT.kload tk25 ?_
        refine AtT.kmove ?_
        refine AtT.kidx Try.underlying25 tk3 ?_
        intro p259 e259 he259 hc259
        obtain rfl : y = e259 := by have : l[j]? = some e259 := (by simpa using he259); rw [hy] at this; simpa using this
        first | refine AtT.kloadO tk3 ?_ | refine AtT.kload tk3 ?_
        refine AtT.kbsliceG (bs25_1_0 _) ?_
        intro q261 V261 hV261 hq261
        have g261 : Le V V261 := by first | exact hV261 | exact Le.trans (by assumption) hV261
        first | refine AtT.kappend Try.underlying25 rw3 ?_
        intro a262 c262
        refine AtT.kassign ?_
        refine AtT.done ?_
        refine At.nrm ?_
        refine At.meetG (outc ++ [y], a262, c262) ⟨by first | assumption | exact Le.refl _, by dsimp only; rw [hta, houtc]; (try simp only [List.append_assoc])⟩ ?_ ?_
        · dsimp only; rw [List.length_append]; exact ⟨rfl, rfl, rfl, rfl, rfl, trivial⟩
        · dsimp only
          rw [flat_snoc, List.length_append]
          exact Pt.auto
      · refine At.ktext (.q 0 (.q 1 (.q 2 (.q 3 (.q 4 (.q 5 (.q 6 (.q 7 .done)))))))) ?_
        refine AtT.kmove ?_
        refine AtT.kmove ?_
        refine AtT.kidx Try.underlying39 tk25 ?_
        intro p247 e247 he247 hc247
        obtain rfl : q = e247 := by have : qs[k]? = some e247 := (by simpa using he247); rw [hqk] at this; simpa using this
        first | refine AtT.kloadO tk25 ?_ | refine AtT.kload tk25 ?_
        refine AtT.kmove ?_
        refine AtT.kidx Try.underlying25 tk3 ?_
        intro p250 e250 he250 hc250
        obtain rfl : y = e250 := by have : l[j]? = some e250 := (by simpa using he250); rw [hy] at this; simpa using this
        first | refine AtT.kloadO tk3 ?_ | refine AtT.kload tk3 ?_
        refine AtT.kgeq ?_
        refine AtT.setF (d := 252) rfl (c1) ?_
        refine AtT.done ?_
        refine At.nrm ?_
        rw [if_neg (by omega)] at hta
        refine At.condF rfl rfl ?_
        refine At.nrm ?_
        exact At.meetG (outc, aoc, coc) ⟨Le.refl _, by dsimp only; rw [hta, houtc]⟩ ⟨rfl, rfl, rfl, rfl, rfl, trivial⟩ Pt.auto
    rintro ⟨out2, ao2, co2⟩ V3 ks' O' ⟨hV3, hout2⟩ hk hO hl4
    dsimp only at hout2 hk hO
    subst hk hO
    refine At.nrm ?_
    refine At.ktext (.q 0 (.q 1 (.q 2 .done))) ?_
    refine AtT.kmove ?_
    first | refine AtT.kadd ?_ | refine AtT.kaddW ?_
    refine AtT.kassign ?_
    refine AtT.done ?_
    refine At.nrm ?_
    refine At.round (j + 1, out2, ao2, co2) ?_ ?_ ?_ ?_
    · show l.length - (j + 1) < l.length - j; omega
    · exact ⟨hWc.trans hV3, by dsimp only; omega, hout2⟩
    · exact ⟨rfl, rfl, rfl, rfl, ivs (by dsimp only; omega), trivial⟩
    · exact Pt.auto
  obtain rfl : j = l.length := by omega
  rw [List.take_length] at houtc
  refine At.nrm ?_
  rw [htu] at houtc
  subst houtc
  refine At.giveSl (l := bitL (swN z) 15) Lw.ei_len rfl rfl Pick.auto (fun V9 hV9 hs9 => ?_)
  have huM9 := (((huM'.le hWa).le hWb).le hWc).le hV9
  refine At.ktext (.q 0 (.q 1 (.n false 2 (.q 3 .done)))) ?_
  refine AtT.kmove ?_
  refine AtT.kmove ?_
  refine AtT.kcallP rfl rfl ok50 (among_f (bL M) (bitL (swN z) 15) _ _ _ huM9 hs9) ?_
  rintro _ rfl
  refine AtT.setT (d := 265) rfl (hmem) ?_
  refine AtT.knot ?_
  refine AtT.setB (d := 266) rfl ((show (!true) = false from rfl)) ?_
  refine AtT.done ?_
  refine At.nrm ?_
  refine At.condF rfl rfl ?_
  refine At.nrm ?_
  refine At.ktext (.q 0 (.q 1 (.q 2 .done))) ?_
  refine AtT.kmove ?_
  first | refine AtT.kadd ?_ | refine AtT.kaddW ?_
  refine AtT.kassign ?_
  refine AtT.done ?_
  refine At.nrm ?_
  refine At.round (k + 1) ?_ ?_ ?_ ?_
  · show L97.length - (k + 1) < L97.length - k; omega
  · exact ⟨(((hVV.trans hWa).trans hWb).trans hWc).trans hV9, by omega⟩
  · exact ⟨rfl, rfl, ivs (by omega), trivial⟩
  · exact Pt.auto
end Go.Proofs.Ytfcpmblmklibjaa
set_option linter.unusedVariables false
namespace Go.Proofs.Ytfcpmblmklibjaa.c10
open Go.Lw Go.Gl Go.Bl Go.RowKit Go.ChangeShapes Go.WideShapes Go.ChangeAt

set_option maxRecDepth 100000 in
theorem lifted (os : Os) (started : os.Started) (H : Type) (enc : TypeId × Value → H) :
    ReturnsInHanded {} Try.checked os 12 .any (Rows.boilTurnedSpec.pre6 enc Try.prog Try.f12 Rows.boilTurnedRow.domain false) (Rows.boilTurnedSpec.post enc Try.prog Try.f12 false true false false) := by
  refine law_lift (tb := 4) (fun ds hd => by match ds, hd with | [d0, d1, d2], _ => rfl) rfl (by kernel_rfl) Try.underlying4 laidOut (by kernel_rfl) own started (by kernel_rfl) Try.func12
    (ChangeSpec.witness6 (enc := enc) (C := Try.checked) false ⟨#[], #[.slice none 0 0, .int .u8 0, .int .u8 0], []⟩ 8 (by kernel_rfl) (by kernel_rfl) (by kernel_rfl) (by kernel_rfl)) ?_
  intro W base args ds ps hval hA
  rw [Try.params12] at hA hval
  obtain ⟨v0, vs0, d0, ds0, p0, q0, hargs, rfl, rfl, h0, r0⟩ := trodAll_cons hA
  obtain ⟨v1, vs1, d1, ds1, p1, q1, rfl, rfl, rfl, h1, r1⟩ := trodAll_cons r0
  obtain ⟨v2, vs2, d2, ds2, p2, q2, rfl, rfl, rfl, h2, r2⟩ := trodAll_cons r1
  obtain ⟨rfl, rfl, rfl⟩ := trodAll_nil r2
  obtain rfl : args = #[v0, v1, v2] := by cases args; simp_all
  obtain ⟨l0, a0, c0, rfl, s0⟩ := rd_trials (hval 0 22 v0 rfl rfl) h0
  obtain ⟨x1, rfl, _, _, w1⟩ := open_int Try.underlying5 (hval 1 5 v1 rfl rfl) h1
  have b1 := bd_u8 w1
  obtain ⟨x2, rfl, _, _, w2⟩ := open_int Try.underlying5 (hval 2 5 v2 rfl rfl) h2
  have b2 := bd_u8 w2
  exact ⟨[.slice a0 l0.length c0, .int .u8 x1, .int .u8 x2], rfl, boilTurned_f l0 x1 x2 b1 b2 _ _ s0⟩

theorem over : Rows.boilTurnedRow.holds Try.pinned (OpenSpec.ofChange Rows.boilTurnedSpec) :=
  OpenClaim.holds_of_wide 12 Try.f12 rfl rfl rfl rfl rfl rfl rfl ⟨rfl, rfl, rfl, rfl, rfl⟩ rfl rfl rfl rfl rfl (by kernel_rfl) Try.func12 (by kernel_rfl)
    (of_decide_eq_true (by kernel_rfl)) (by unfold Func.isWrapper; first | (rw [if_pos (by decide +kernel)]; kernel_rfl) | (rw [if_neg (by decide +kernel)]; exact ⟨rfl, rfl⟩))
    (fun os started H enc _ => lifted os started H enc)

theorem proved : Rows.BoilTurnedSaid := over
#print axioms proved
end Go.Proofs.Ytfcpmblmklibjaa.c10
