/- Texts that the last one of this claim imports. -/
import Derived.Lib.SliceRun
import Derived.Test.YtfcpmblmklibjaaGreatB3
set_option linter.unusedVariables false
set_option linter.unusedSimpArgs false
set_option linter.unusedSectionVars false
set_option linter.unusedVariables false
namespace Go.Proofs.YtfcpmblmklibjaaGreat
open Go.Lw Go.Gl Go.Bl Go.RowKit

theorem explains_f (l : List Int) (A : Nat) (hl : ∀ x ∈ l, -1 ≤ x ∧ x < 32768) (hA : A < 9223372036854775808) (V : View) (v : Value) (hs : SlI V v l) : Fnc Tryz.prog 56 [v, iv A] V fun r _ => r = .bool (exB l A) := by
  have hlen := hs.lenLe
  obtain ⟨a, c, rfl, k1, k2, _⟩ := id hs
  clear k1 k2
  refine fn_of Tryz.func56 rfl Tryz.ntmps56 (Nat.le_of_ble_eq_true rfl) ?_
  intro w0 hw0
  refine At.nrm ?_
  refine At.ktext (.q 0 .done) ?_
  refine AtT.kassign ?_
  refine AtT.done ?_
  refine At.nrm ?_
  refine At.ktext (.q 0 .done) ?_
  refine AtT.kassign ?_
  refine AtT.done ?_
  refine At.nrm ?_
  refine At.lp (ι := Nat) (KS := fun k => [(0, .slice a l.length c), (1, iv A), (5, iv k)]) (OS := fun _ => []) (VS := fun k V' => V' = V ∧ k ≤ l.length ∧ ∀ (j : Nat) (x : Int), j < k → l[j]? = some x → exI A x = true) (μ := fun k => l.length - k) 0 ?_ ?_ ?_ ?_
  · exact ⟨rfl, rfl, rfl, trivial⟩
  · exact Pt.auto
  · exact ⟨rfl, Nat.zero_le _, fun j x hj => absurd hj (Nat.not_lt_zero j)⟩
  · rintro k V' ks' O' ⟨rfl, hkl, hok⟩ hk hO hl2
    subst hk hO
    refine At.nrm ?_
    refine At.ktext (.q 0 (.q 1 (.q 2 (.q 3 .done)))) ?_
    refine AtT.kmove ?_
    refine AtT.kmove ?_
    first | refine AtT.klenS Tryz.underlying38 ?_ | refine AtT.klenR Tryz.underlying38 ?_
    refine AtT.klss ?_
    refine AtT.done ?_
    refine At.nrm ?_
    refine At.condP rfl (fun hp => ?_) (fun hp => ?_)
    · obtain ⟨x, hx⟩ : ∃ x, l[k]? = some x := ⟨_, List.getElem?_eq_getElem (by omega)⟩
      have hxb := hl x (List.mem_of_getElem? hx)
      have hnext : exI A x = true → ∀ (j : Nat) (y : Int), j < k + 1 → l[j]? = some y → exI A y = true := fun h j y hj hy => by
        by_cases hjk : j = k
        · subst hjk; rw [hx] at hy; cases hy; exact h
        · exact hok j y (by omega) hy
      refine At.nrm ?_
      by_cases c1 : 0 ≤ x
      rotate_left
      · refine At.ktext (.q 0 (.q 1 (.q 2 (.q 3 (.q 4 (.q 5 (.q 6 (.q 7 (.q 8 (.q 9 (.q 10 (.q 11 (.q 12 (.q 13 .done)))))))))))))) ?_
        refine AtT.kmove ?_
        refine AtT.kmove ?_
        refine AtT.kidx Tryz.underlying38 tk3 ?_
        intro p14 e14 he14 hc14
        obtain rfl : e14 = x := by have : l[k]? = some e14 := (by simpa using he14); rw [hx] at this; simpa using this.symm
        first | refine AtT.kloadO tk3 ?_ | refine AtT.kload tk3 ?_
        refine AtT.kgeq ?_
        refine AtT.setF (d := 16) rfl (c1) ?_
        refine AtT.kmove ?_
        all_goals (first | refine AtT.kL 17 ?_ | refine AtT.pcase (d := 17) rfl (fun hg17 => ?_) (fun hg17 => ?_) | refine AtT.bcase (d := 17) rfl (fun hg17 => ?_) (fun hg17 => ?_))
        all_goals (first | refine AtT.kpass ?_ | refine AtT.kpassU ?_ | ((refine AtT.kmove ?_)))
        all_goals (first | refine AtT.kpass ?_ | refine AtT.kpassU ?_ | ((refine AtT.kmove ?_)))
        all_goals (first | refine AtT.kpass ?_ | refine AtT.kpassU ?_ | ((refine AtT.kidx Tryz.underlying38 tk3 ?_) ; (intro p20 e20 he20 hc20)))
        all_goals (first | refine AtT.kpass ?_ | refine AtT.kpassU ?_ | ((first | refine AtT.kloadO tk3 ?_ | refine AtT.kload tk3 ?_)))
        all_goals (first | refine AtT.kpass ?_ | refine AtT.kpassU ?_ | ((refine AtT.kmove ?_)))
        all_goals (first | refine AtT.kpass ?_ | refine AtT.kpassU ?_ | ((fail)))
        all_goals (first | refine AtT.kpass ?_ | refine AtT.kpassU ?_ | ((refine AtT.keqI ?_)))
        all_goals (refine AtT.kpick ?_)
        all_goals refine AtT.done ?_
        all_goals (refine At.nrm ?_)
        refine At.condF rfl rfl ?_
        refine At.nrm ?_
        refine At.ktext (.q 0 (.q 1 (.q 2 .done))) ?_
        refine AtT.kmove ?_
        first | refine AtT.kadd ?_ | refine AtT.kaddW ?_
        refine AtT.kassign ?_
        refine AtT.done ?_
        refine At.nrm ?_
        refine At.round (k + 1) ?_ ?_ ?_ ?_
        · show l.length - (k + 1) < l.length - k; omega
        · exact ⟨rfl, by omega, hnext (by unfold exI; rw [decide_eq_false (by omega)]; rfl)⟩
        · exact ⟨rfl, rfl, ivs (by omega), trivial⟩
        · exact Pt.auto
      by_cases c2 : ((x.toNat &&& A : Nat) : Int) = 0
      · have hbad : exI A x = false := by unfold exI; rw [decide_eq_true ⟨c1, by omega⟩]; rfl
        refine At.ktext (.q 0 (.q 1 (.q 2 (.q 3 (.q 4 (.q 5 (.q 6 (.q 7 (.q 8 (.q 9 (.q 10 (.q 11 (.q 12 (.q 13 .done)))))))))))))) ?_
        refine AtT.kmove ?_
        refine AtT.kmove ?_
        refine AtT.kidx Tryz.underlying38 tk3 ?_
        intro p14 e14 he14 hc14
        obtain rfl : e14 = x := by have : l[k]? = some e14 := (by simpa using he14); rw [hx] at this; simpa using this.symm
        first | refine AtT.kloadO tk3 ?_ | refine AtT.kload tk3 ?_
        refine AtT.kgeq ?_
        refine AtT.setT (d := 16) rfl (c1) ?_
        refine AtT.kmove ?_
        all_goals (first | refine AtT.kL 17 ?_ | refine AtT.pcase (d := 17) rfl (fun hg17 => ?_) (fun hg17 => ?_) | refine AtT.bcase (d := 17) rfl (fun hg17 => ?_) (fun hg17 => ?_))
        all_goals (first | refine AtT.kpass ?_ | refine AtT.kpassU ?_ | ((refine AtT.kmove ?_)))
        all_goals (first | refine AtT.kpass ?_ | refine AtT.kpassU ?_ | ((refine AtT.kmove ?_)))
        all_goals (first | refine AtT.kpass ?_ | refine AtT.kpassU ?_ | ((refine AtT.kidx Tryz.underlying38 tk3 ?_) ; (intro p20 e20 he20 hc20)))
        all_goals (obtain rfl : e20 = e14 := by have : l[k]? = some e20 := (by simpa using he20); rw [hx] at this; simpa using this.symm)
        all_goals (first | refine AtT.kpass ?_ | refine AtT.kpassU ?_ | ((first | refine AtT.kloadO tk3 ?_ | refine AtT.kload tk3 ?_)))
        all_goals (first | refine AtT.kpass ?_ | refine AtT.kpassU ?_ | ((refine AtT.kmove ?_)))
        all_goals (first | refine AtT.kpass ?_ | refine AtT.kpassU ?_ | ((refine AtT.andN rfl ⟨_, _, rfl, rfl, rfl⟩ rfl rfl (by omega) rfl (by omega) hA (by decide) (A := e20.toNat) (B := A) ?_)))
        all_goals (first | refine AtT.kpass ?_ | refine AtT.kpassU ?_ | ((refine AtT.keqI ?_)))
        all_goals (refine AtT.setT (d := 24) rfl (c2) ?_)
        all_goals (refine AtT.kpick ?_)
        all_goals refine AtT.done ?_
        all_goals (refine At.nrm ?_)
        refine At.condT rfl rfl ?_
        refine At.nrm ?_
        refine At.ktext (.q 0 .done) ?_
        refine AtT.kassign ?_
        refine AtT.done ?_
        refine At.nrm ?_
        exact At.ret1 rfl (.tmp rfl) (by rw [exB_false (List.mem_of_getElem? hx) hbad])
      · refine At.ktext (.q 0 (.q 1 (.q 2 (.q 3 (.q 4 (.q 5 (.q 6 (.q 7 (.q 8 (.q 9 (.q 10 (.q 11 (.q 12 (.q 13 .done)))))))))))))) ?_
        refine AtT.kmove ?_
        refine AtT.kmove ?_
        refine AtT.kidx Tryz.underlying38 tk3 ?_
        intro p14 e14 he14 hc14
        obtain rfl : e14 = x := by have : l[k]? = some e14 := (by simpa using he14); rw [hx] at this; simpa using this.symm
        first | refine AtT.kloadO tk3 ?_ | refine AtT.kload tk3 ?_
        refine AtT.kgeq ?_
        refine AtT.setT (d := 16) rfl (c1) ?_
        refine AtT.kmove ?_
        all_goals (first | refine AtT.kL 17 ?_ | refine AtT.pcase (d := 17) rfl (fun hg17 => ?_) (fun hg17 => ?_) | refine AtT.bcase (d := 17) rfl (fun hg17 => ?_) (fun hg17 => ?_))
        all_goals (first | refine AtT.kpass ?_ | refine AtT.kpassU ?_ | ((refine AtT.kmove ?_)))
        all_goals (first | refine AtT.kpass ?_ | refine AtT.kpassU ?_ | ((refine AtT.kmove ?_)))
        all_goals (first | refine AtT.kpass ?_ | refine AtT.kpassU ?_ | ((refine AtT.kidx Tryz.underlying38 tk3 ?_) ; (intro p20 e20 he20 hc20)))
        all_goals (obtain rfl : e20 = e14 := by have : l[k]? = some e20 := (by simpa using he20); rw [hx] at this; simpa using this.symm)
        all_goals (first | refine AtT.kpass ?_ | refine AtT.kpassU ?_ | ((first | refine AtT.kloadO tk3 ?_ | refine AtT.kload tk3 ?_)))
        all_goals (first | refine AtT.kpass ?_ | refine AtT.kpassU ?_ | ((refine AtT.kmove ?_)))
        all_goals (first | refine AtT.kpass ?_ | refine AtT.kpassU ?_ | ((refine AtT.andN rfl ⟨_, _, rfl, rfl, rfl⟩ rfl rfl (by omega) rfl (by omega) hA (by decide) (A := e20.toNat) (B := A) ?_)))
        all_goals (first | refine AtT.kpass ?_ | refine AtT.kpassU ?_ | ((refine AtT.keqI ?_)))
        all_goals (refine AtT.setF (d := 24) rfl (c2) ?_)
        all_goals (refine AtT.kpick ?_)
        all_goals refine AtT.done ?_
        all_goals (refine At.nrm ?_)
        refine At.condF rfl rfl ?_
        refine At.nrm ?_
        refine At.ktext (.q 0 (.q 1 (.q 2 .done))) ?_
        refine AtT.kmove ?_
        first | refine AtT.kadd ?_ | refine AtT.kaddW ?_
        refine AtT.kassign ?_
        refine AtT.done ?_
        refine At.nrm ?_
        refine At.round (k + 1) ?_ ?_ ?_ ?_
        · show l.length - (k + 1) < l.length - k; omega
        · exact ⟨rfl, by omega, hnext (by unfold exI; rw [decide_eq_false (fun h => c2 (by omega))]; rfl)⟩
        · exact ⟨rfl, rfl, ivs (by omega), trivial⟩
        · exact Pt.auto
    · obtain rfl : k = l.length := by omega
      refine At.nrm ?_
      refine At.ktext (.q 0 .done) ?_
      refine AtT.kassign ?_
      refine AtT.done ?_
      refine At.nrm ?_
      exact At.ret1 rfl (.tmp rfl) (by rw [exB_true fun j x hj => hok j x (List.getElem?_eq_some_iff.1 hj).1 hj])
theorem lf_bd {ts : List Tq} (ht : ∀ t ∈ ts, sndB t.p = true) : ∀ x ∈ lfL ts, -1 ≤ x ∧ x < 32768 := fun x hx => by
  unfold lfL at hx
  obtain ⟨t, h1, rfl⟩ := List.mem_map.1 hx
  exact lfI_bd (ht t h1)
/-- Which causes are an explanation, as the definitions say. -/
theorem rcheckCauses_f (ts : List Tq) (l : List Int) (V : View) (v u : Value) (hs : Sl V tqe 4 v ts) (hu : SlI V u l) : Fnc Tryz.prog 16 [v, u] V fun r _ => r = iv (ccR ts l) := by
  refine fn_of Tryz.func16 rfl Tryz.ntmps16 (Nat.le_of_ble_eq_true rfl) ?_
  intro w0 hw0
  refine At.nrm ?_
  refine At.ktext (.q 0 .done) ?_
  refine AtT.kassign ?_
  refine AtT.done ?_
  refine At.nrm ?_
  by_cases h0 : trE ts = 0
  rotate_left
  · refine At.ktext (.q 0 (.n false 1 (.q 2 .done))) ?_
    refine AtT.kmove ?_
    refine AtT.kcallP rfl rfl ok40 (rtrials_f ts _ _ hs) ?_
    rintro _ rfl
    refine AtT.kneI ?_
    refine AtT.done ?_
    refine At.nrm ?_
    refine At.condT rfl (decide_eq_true h0) ?_
    refine At.nrm ?_
    refine At.ktext (.q 0 (.n false 1 (.q 2 .done))) ?_
    refine AtT.kmove ?_
    refine AtT.kcallP rfl rfl ok40 (rtrials_f ts _ _ hs) ?_
    rintro _ rfl
    refine AtT.kassign ?_
    refine AtT.done ?_
    refine At.nrm ?_
    exact At.ret1 rfl (.tmp rfl) (by rw [ccR_tr h0])
  obtain ⟨h16, ht⟩ := trE_ok h0
  refine At.ktext (.q 0 (.n false 1 (.q 2 .done))) ?_
  refine AtT.kmove ?_
  refine AtT.kcallP rfl rfl ok40 (rtrials_f ts _ _ hs) ?_
  rintro _ rfl
  refine AtT.kneI ?_
  refine AtT.done ?_
  refine At.nrm ?_
  refine At.condF rfl (decide_eq_false (by simp [h0])) ?_
  refine At.nrm ?_
  cases h1 : lstB l 15 with
  | false =>
    refine At.ktext (.q 0 (.n false 1 (.q 2 .done))) ?_
    refine AtT.kmove ?_
    refine AtT.kcallP rfl rfl ok52 (isList_f l 15 _ _ hu) ?_
    rintro _ rfl; rw [h1]
    refine AtT.knot ?_
    refine AtT.done ?_
    refine At.nrm ?_
    refine At.condT rfl rfl ?_
    refine At.nrm ?_
    refine At.ktext (.q 0 .done) ?_
    refine AtT.kassign ?_
    refine AtT.done ?_
    refine At.nrm ?_
    exact At.ret1 rfl (.tmp rfl) (by rw [ccR_arg h0 h1])
  | true =>
    refine At.ktext (.q 0 (.n false 1 (.q 2 .done))) ?_
    refine AtT.kmove ?_
    refine AtT.kcallP rfl rfl ok52 (isList_f l 15 _ _ hu) ?_
    rintro _ rfl; rw [h1]
    refine AtT.knot ?_
    refine AtT.done ?_
    refine At.nrm ?_
    refine At.condF rfl rfl ?_
    have hin := lstB_in h1
    have hbl : btL l < 32768 := btL_lt (n := 15) fun x hx => by have := hin x hx; omega
    have hcl : clA ts < 32768 := clN_lt ht _
    refine At.nrm ?_
    by_cases h2 : btL l &&& clA ts = 0
    rotate_left
    · refine At.ktext (.q 0 (.n false 1 (.q 2 (.n false 3 (.q 4 (.q 5 .done)))))) ?_
      refine AtT.kmove ?_
      refine AtT.kcallP rfl rfl ok18 (bitsOf_f l hin _ _ hu) ?_
      rintro _ rfl
      refine AtT.kmove ?_
      refine AtT.kcallP rfl rfl ok54 (clearOf_f ts ht _ _ hs) ?_
      rintro _ rfl
      refine AtT.andN rfl trivial rfl rfl rfl rfl (by omega) (by omega) (by decide) (A := btL l) (B := clA ts) ?_
      refine AtT.kneI ?_
      refine AtT.done ?_
      refine At.nrm ?_
      refine At.condT rfl (decide_eq_true (by omega)) ?_
      refine At.nrm ?_
      refine At.ktext (.q 0 .done) ?_
      refine AtT.kassign ?_
      refine AtT.done ?_
      refine At.nrm ?_
      exact At.ret1 rfl (.tmp rfl) (by rw [ccR_rule h0 h1 h2])
    refine At.ktext (.q 0 (.n false 1 (.q 2 (.n false 3 (.q 4 (.q 5 .done)))))) ?_
    refine AtT.kmove ?_
    refine AtT.kcallP rfl rfl ok18 (bitsOf_f l hin _ _ hu) ?_
    rintro _ rfl
    refine AtT.kmove ?_
    refine AtT.kcallP rfl rfl ok54 (clearOf_f ts ht _ _ hs) ?_
    rintro _ rfl
    refine AtT.andN rfl trivial rfl rfl rfl rfl (by omega) (by omega) (by decide) (A := btL l) (B := clA ts) ?_
    refine AtT.kneI ?_
    refine AtT.done ?_
    refine At.nrm ?_
    refine At.condF rfl (decide_eq_false (by omega)) ?_
    refine At.nrm ?_
    cases h3 : exB (lfL ts) (btL l) with
    | false =>
      refine At.ktext (.q 0 (.n false 1 (.q 2 (.n false 3 (.n false 4 (.q 5 .done)))))) ?_
      refine AtT.kmove ?_
      refine AtT.kcall rfl rfl ok15 (left_f ts ht (by omega) _ _ hs) ?_
      rintro v20 V20 hV20 hs20
      refine AtT.kmove ?_
      refine AtT.kcallP rfl rfl ok18 (bitsOf_f l hin _ _ (hu.le hV20)) ?_
      rintro _ rfl
      refine AtT.kcallP rfl rfl ok56 (explains_f _ (btL l) (lf_bd ht) (by omega) _ _ hs20) ?_
      rintro _ rfl; rw [h3]
      refine AtT.knot ?_
      refine AtT.done ?_
      refine At.nrm ?_
      refine At.condT rfl rfl ?_
      refine At.nrm ?_
      refine At.ktext (.q 0 .done) ?_
      refine AtT.kassign ?_
      refine AtT.done ?_
      refine At.nrm ?_
      exact At.ret1 rfl (.tmp rfl) (by rw [ccR_boil h0 h1 h2 h3])
    | true =>
      refine At.ktext (.q 0 (.n false 1 (.q 2 (.n false 3 (.n false 4 (.q 5 .done)))))) ?_
      refine AtT.kmove ?_
      refine AtT.kcall rfl rfl ok15 (left_f ts ht (by omega) _ _ hs) ?_
      rintro v20 V20 hV20 hs20
      refine AtT.kmove ?_
      refine AtT.kcallP rfl rfl ok18 (bitsOf_f l hin _ _ (hu.le hV20)) ?_
      rintro _ rfl
      refine AtT.kcallP rfl rfl ok56 (explains_f _ (btL l) (lf_bd ht) (by omega) _ _ hs20) ?_
      rintro _ rfl; rw [h3]
      refine AtT.knot ?_
      refine AtT.done ?_
      refine At.nrm ?_
      refine At.condF rfl rfl ?_
      refine At.nrm ?_
      refine At.ktext (.q 0 .done) ?_
      refine AtT.kassign ?_
      refine AtT.done ?_
      refine At.nrm ?_
      exact At.ret1 rfl (.tmp rfl) (by rw [ccR_ok h0 h1 h2 h3])
theorem rclear_f (ts : List Tq) (V : View) (v : Value) (hs : Sl V tqe 4 v ts) : Fnc Tryz.prog 63 [v] V fun r V' => ∃ u, r = .tuple #[u, iv (trE ts)] ∧ SlI V' u (clR ts) := by
  refine fn_of Tryz.func63 rfl Tryz.ntmps63 (Nat.le_of_ble_eq_true rfl) ?_
  intro w0 hw0
  refine At.nrm ?_
  refine At.ktext (.q 0 (.q 1 .done)) ?_
  refine AtT.kassign ?_
  refine AtT.kassign ?_
  refine AtT.done ?_
  refine At.nrm ?_
  by_cases h0 : trE ts = 0
  rotate_left
  · refine At.ktext (.q 0 (.n false 1 (.q 2 .done))) ?_
    refine AtT.kmove ?_
    refine AtT.kcallP rfl rfl ok40 (rtrials_f ts _ _ hs) ?_
    rintro _ rfl
    refine AtT.kneI ?_
    refine AtT.done ?_
    refine At.nrm ?_
    refine At.condT rfl (decide_eq_true h0) ?_
    refine At.nrm ?_
    refine At.ktext (.q 0 (.n false 1 (.q 2 (.q 3 .done)))) ?_
    refine AtT.kmove ?_
    refine AtT.kcallP rfl rfl ok40 (rtrials_f ts _ _ hs) ?_
    rintro _ rfl
    refine AtT.kassign ?_
    refine AtT.kassign ?_
    refine AtT.done ?_
    refine At.nrm ?_
    exact At.ret2 rfl (.tmp rfl) (.tmp rfl) ⟨_, rfl, by unfold clR; rw [if_neg h0]; exact Sl.nil _ _ _⟩
  obtain ⟨h16, ht⟩ := trE_ok h0
  have hcl : clA ts < 32768 := clN_lt ht _
  refine At.ktext (.q 0 (.n false 1 (.q 2 .done))) ?_
  refine AtT.kmove ?_
  refine AtT.kcallP rfl rfl ok40 (rtrials_f ts _ _ hs) ?_
  rintro _ rfl
  refine AtT.kneI ?_
  refine AtT.done ?_
  refine At.nrm ?_
  refine At.condF rfl (decide_eq_false (by simp [h0])) ?_
  refine At.nrm ?_
  refine At.ktext (.q 0 (.n false 1 (.n false 2 (.q 3 (.q 4 .done))))) ?_
  refine AtT.kmove ?_
  refine AtT.kcallP rfl rfl ok54 (clearOf_f ts ht _ _ hs) ?_
  rintro _ rfl
  refine AtT.kcall rfl rfl ok64 (bits_f (clA ts) 15 (by omega) (by decide) _) ?_
  rintro v11 V11 hV11 hs11
  refine AtT.kassign ?_
  refine AtT.kassign ?_
  refine AtT.done ?_
  refine At.nrm ?_
  exact At.ret2 rfl (.tmp rfl) (.tmp rfl) ⟨_, by rw [h0], by unfold clR; rw [if_pos h0]; exact hs11⟩
theorem causes17_f (p : Pq) (V : View) : Fnc Tryz.prog 24 [pqv p] V fun r V' => ∃ u, r = .tuple #[u, iv (caE p)] ∧ SlI V' u (caR p) := by
  refine fn_of Tryz.func24 rfl Tryz.ntmps24 (Nat.le_of_ble_eq_true rfl) ?_
  intro w0 hw0
  refine At.nrm ?_
  refine At.ktext (.n false 0 (.q 1 (.q 2 .done))) ?_
  refine AtT.kbox ?_
  intro b1
  refine AtT.kassign ?_
  refine AtT.kassign ?_
  refine AtT.done ?_
  refine At.nrm ?_
  cases h : sndB p with
  | false =>
    refine At.ktext (.q 0 (.n false 1 (.q 2 .done))) ?_
    first | refine AtT.kloadOA tk24 ?_ | refine AtT.kloadA tk24 ?_ | refine AtT.kloadOP tk24 ?_
    refine AtT.kcallP rfl rfl ok43 (sound_f p _) ?_
    rintro _ rfl; rw [h]
    refine AtT.knot ?_
    refine AtT.done ?_
    refine At.nrm ?_
    refine At.condT rfl rfl ?_
    refine At.nrm ?_
    refine At.ktext (.q 0 (.q 1 .done)) ?_
    refine AtT.kassign ?_
    refine AtT.kassign ?_
    refine AtT.done ?_
    refine At.nrm ?_
    exact At.ret2 rfl (.tmp rfl) (.tmp rfl) ⟨_, by unfold caE; rw [if_neg (by simp [h])], by unfold caR; rw [if_neg (by simp [h])]; exact Sl.nil _ _ _⟩
  | true =>
    have hb := cbN_lt h
    refine At.ktext (.q 0 (.n false 1 (.q 2 .done))) ?_
    first | refine AtT.kloadOA tk24 ?_ | refine AtT.kloadA tk24 ?_ | refine AtT.kloadOP tk24 ?_
    refine AtT.kcallP rfl rfl ok43 (sound_f p _) ?_
    rintro _ rfl; rw [h]
    refine AtT.knot ?_
    refine AtT.done ?_
    refine At.nrm ?_
    refine At.condF rfl rfl ?_
    refine At.nrm ?_
    refine At.ktext (.q 0 (.n false 1 (.n false 2 (.q 3 (.q 4 .done))))) ?_
    first | refine AtT.kloadOA tk24 ?_ | refine AtT.kloadA tk24 ?_ | refine AtT.kloadOP tk24 ?_
    refine AtT.kcallP rfl rfl ok66 (causes_f p h _) ?_
    rintro _ rfl
    refine AtT.kcall rfl rfl ok67 (list_f (cbN p) (by omega) _) ?_
    rintro v9 V9 hV9 hs9
    refine AtT.kassign ?_
    refine AtT.kassign ?_
    refine AtT.done ?_
    refine At.nrm ?_
    rw [bitL_caL h] at hs9
    exact At.ret2 rfl (.tmp rfl) (.tmp rfl) ⟨_, by unfold caE; rw [if_pos h], by unfold caR; rw [if_pos h]; exact hs9⟩
theorem fine_f (ts : List Tq) (V : View) (v : Value) (hs : Sl V tqe 4 v ts) : Fnc Tryz.prog 13 [v] V fun r _ => r = .bool (decide (trE ts = 0)) := by
  refine fn_of Tryz.func13 rfl Tryz.ntmps13 (Nat.le_of_ble_eq_true rfl) ?_
  intro w0 hw0
  refine At.nrm ?_
  refine At.ktext (.q 0 .done) ?_
  refine AtT.kassign ?_
  refine AtT.done ?_
  refine At.nrm ?_
  by_cases c : 24 < (ts.length : Int)
  · have hne : trE ts ≠ 0 := fun h => by have := (trE_ok h).1; omega
    refine At.ktext (.q 0 (.n false 1 (.q 2 (.q 3 (.q 4 (.n false 5 (.q 6 (.q 7 (.q 8 .done))))))))) ?_
    refine AtT.kmove ?_
    refine AtT.kcallP rfl rfl ok5 (great_f ts _ _ hs) ?_
    rintro _ rfl
    refine AtT.setT (d := 4) rfl (c) ?_
    refine AtT.knot ?_
    refine AtT.setB (d := 5) rfl ((show (!true) = false from rfl)) ?_
    refine AtT.kmove ?_
    all_goals (first | refine AtT.kL 6 ?_ | refine AtT.pcase (d := 6) rfl (fun hg6 => ?_) (fun hg6 => ?_) | refine AtT.bcase (d := 6) rfl (fun hg6 => ?_) (fun hg6 => ?_))
    all_goals (first | refine AtT.kpass ?_ | refine AtT.kpassU ?_ | ((refine AtT.kmove ?_)))
    all_goals (first | refine AtT.kpassN ?_ | refine AtT.kpassNU ?_ | ((fail)))
    all_goals (first | refine AtT.kpass ?_ | refine AtT.kpassU ?_ | ((refine AtT.keqI ?_)))
    all_goals (refine AtT.kpick ?_)
    all_goals (refine AtT.kassign ?_)
    all_goals refine AtT.done ?_
    all_goals (refine At.nrm ?_)
    exact At.ret1 rfl (.tmp rfl) (by rw [decide_eq_false hne]; rfl)
  · refine At.ktext (.q 0 (.n false 1 (.q 2 (.q 3 (.q 4 (.n false 5 (.q 6 (.q 7 (.q 8 .done))))))))) ?_
    refine AtT.kmove ?_
    refine AtT.kcallP rfl rfl ok5 (great_f ts _ _ hs) ?_
    rintro _ rfl
    refine AtT.setF (d := 4) rfl (c) ?_
    refine AtT.knot ?_
    refine AtT.setB (d := 5) rfl ((show (!false) = true from rfl)) ?_
    refine AtT.kmove ?_
    all_goals (first | refine AtT.kL 6 ?_ | refine AtT.pcase (d := 6) rfl (fun hg6 => ?_) (fun hg6 => ?_) | refine AtT.bcase (d := 6) rfl (fun hg6 => ?_) (fun hg6 => ?_))
    all_goals (first | refine AtT.kpass ?_ | refine AtT.kpassU ?_ | ((refine AtT.kmove ?_)))
    all_goals (first | refine AtT.kpassN ?_ | refine AtT.kpassNU ?_ | ((refine AtT.kcallP rfl rfl ok40 (rtrials_f ts _ _ hs) ?_) ; (rintro _ rfl)))
    all_goals (first | refine AtT.kpass ?_ | refine AtT.kpassU ?_ | ((refine AtT.keqI ?_)))
    all_goals (refine AtT.kpick ?_)
    all_goals (refine AtT.kassign ?_)
    all_goals refine AtT.done ?_
    all_goals (refine At.nrm ?_)
    exact At.ret1 rfl (.tmp rfl) rfl
end Go.Proofs.YtfcpmblmklibjaaGreat
set_option linter.unusedVariables false
namespace Go.Proofs.YtfcpmblmklibjaaGreat
open Go.Lw Go.Gl Go.Bl Go.RowKit

theorem allErr_f (ts : List Tq) (V : View) (v : Value) (hs : Sl V tqe 4 v ts) : Fnc Tryz.prog 41 [v] V fun r _ => r = iv (alE ts) := by
  refine fn_of Tryz.func41 rfl Tryz.ntmps41 (Nat.le_of_ble_eq_true rfl) ?_
  intro w0 hw0
  refine At.nrm ?_
  refine At.ktext (.q 0 .done) ?_
  refine AtT.kassign ?_
  refine AtT.done ?_
  refine At.nrm ?_
  by_cases h0 : trE ts = 0
  rotate_left
  · refine At.ktext (.q 0 (.n false 1 (.q 2 .done))) ?_
    refine AtT.kmove ?_
    refine AtT.kcallP rfl rfl ok40 (rtrials_f ts _ _ hs) ?_
    rintro _ rfl
    refine AtT.kneI ?_
    refine AtT.done ?_
    refine At.nrm ?_
    refine At.condT rfl (decide_eq_true h0) ?_
    refine At.nrm ?_
    refine At.ktext (.q 0 (.n false 1 (.q 2 .done))) ?_
    refine AtT.kmove ?_
    refine AtT.kcallP rfl rfl ok40 (rtrials_f ts _ _ hs) ?_
    rintro _ rfl
    refine AtT.kassign ?_
    refine AtT.done ?_
    refine At.nrm ?_
    exact At.ret1 rfl (.tmp rfl) (by rw [alE_tr h0])
  obtain ⟨h16, ht⟩ := trE_ok h0
  have hz := lf_zero ts
  refine At.ktext (.q 0 (.n false 1 (.q 2 .done))) ?_
  refine AtT.kmove ?_
  refine AtT.kcallP rfl rfl ok40 (rtrials_f ts _ _ hs) ?_
  rintro _ rfl
  refine AtT.kneI ?_
  refine AtT.done ?_
  refine At.nrm ?_
  refine At.condF rfl (decide_eq_false (by simp [h0])) ?_
  refine At.nrm ?_
  refine At.ktext (.q 0 (.n false 1 (.q 2 .done))) ?_
  refine AtT.kmove ?_
  refine AtT.kcall rfl rfl ok15 (left_f ts ht (by omega) _ _ hs) ?_
  rintro v11 V11 hV11 hs11
  refine AtT.kassign ?_
  refine AtT.done ?_
  refine At.nrm ?_
  obtain ⟨a, c, rfl, _⟩ := id hs11
  have hll : (lfL ts).length = ts.length := by simp [lfL]
  refine At.ktext (.q 0 .done) ?_
  refine AtT.kassign ?_
  refine AtT.done ?_
  refine At.nrm ?_
  refine At.lp (ι := Nat) (KS := fun k => [(3, .slice a (lfL ts).length c), (4, iv k)]) (OS := fun _ => []) (VS := fun k V' => V' = V11 ∧ k ≤ (lfL ts).length ∧ ((lfL ts).take k).any (fun x => decide (x = 0)) = false) (μ := fun k => (lfL ts).length - k) 0 ?_ ?_ ?_ ?_
  · exact ⟨rfl, rfl, trivial⟩
  · exact Pt.auto
  · exact ⟨rfl, Nat.zero_le _, rfl⟩
  · rintro k V' ks' O' ⟨rfl, hkl, hany⟩ hk hO hl2
    subst hk hO
    refine At.nrm ?_
    refine At.ktext (.q 0 (.q 1 (.q 2 (.q 3 .done)))) ?_
    refine AtT.kmove ?_
    refine AtT.kmove ?_
    first | refine AtT.klenS Tryz.underlying38 ?_ | refine AtT.klenR Tryz.underlying38 ?_
    refine AtT.klss ?_
    refine AtT.done ?_
    refine At.nrm ?_
    refine At.condP rfl (fun hp => ?_) (fun hp => ?_)
    · obtain ⟨x, hx⟩ : ∃ x, (lfL ts)[k]? = some x := ⟨_, List.getElem?_eq_getElem (by omega)⟩
      have hnx := take_snoc' hx
      refine At.nrm ?_
      refine At.ktext (.q 0 (.q 1 (.q 2 (.q 3 (.q 4 .done))))) ?_
      refine AtT.kmove ?_
      refine AtT.kmove ?_
      refine AtT.kidx Tryz.underlying38 tk3 ?_
      intro p20 e20 he20 hc20
      obtain rfl : e20 = x := by have : (lfL ts)[k]? = some e20 := (by simpa using he20); rw [hx] at this; simpa using this.symm
      first | refine AtT.kloadO tk3 ?_ | refine AtT.kload tk3 ?_
      refine AtT.keqI ?_
      refine AtT.done ?_
      refine At.nrm ?_
      refine At.condP rfl (fun hc => ?_) (fun hc => ?_)
      · refine At.nrm ?_
        refine At.ktext (.q 0 .done) ?_
        refine AtT.kassign ?_
        refine AtT.done ?_
        refine At.nrm ?_
        refine At.ret1 rfl (.tmp rfl) ?_
        rw [alE_z h0 (by rw [← hz]; exact List.any_eq_true.2 ⟨_, List.mem_of_getElem? hx, decide_eq_true hc⟩)]
      · refine At.nrm ?_
        refine At.ktext (.q 0 (.q 1 (.q 2 .done))) ?_
        refine AtT.kmove ?_
        first | refine AtT.kadd ?_ | refine AtT.kaddW ?_
        refine AtT.kassign ?_
        refine AtT.done ?_
        refine At.nrm ?_
        refine At.round (k + 1) ?_ ?_ ?_ ?_
        · show (lfL ts).length - (k + 1) < (lfL ts).length - k; omega
        · refine ⟨rfl, by omega, ?_⟩
          rw [hnx, List.any_append, hany]; simp [hc]
        · exact ⟨rfl, ivs (by omega), trivial⟩
        · exact Pt.auto
    · obtain rfl : k = (lfL ts).length := by omega
      rw [List.take_length, hz] at hany
      refine At.nrm ?_
      refine At.ktext (.q 0 .done) ?_
      refine AtT.kassign ?_
      refine AtT.done ?_
      refine At.nrm ?_
      exact At.ret1 rfl (.tmp rfl) (by rw [alE_ok h0 hany])
/-- The place of a set. -/
theorem indexS_f (l : List Nat) (s : Nat) (V : View) (v : Value) (hs : Sl V ste 1 v l) : Fnc Tryz.prog 68 [v, stv s] V fun r _ => r = iv (ixI (ixS l s)) := by
  have hlen := hs.lenLe
  obtain ⟨a, c, rfl, k1, k2, _⟩ := id hs
  clear k1 k2
  refine fn_of Tryz.func68 rfl Tryz.ntmps68 (Nat.le_of_ble_eq_true rfl) ?_
  intro w0 hw0
  refine At.nrm ?_
  refine At.ktext (.n false 0 (.q 1 .done)) ?_
  refine AtT.kbox ?_
  intro b3
  refine AtT.kassign ?_
  refine AtT.done ?_
  refine At.nrm ?_
  refine At.ktext (.q 0 (.q 1 (.q 2 .done))) ?_
  refine AtT.kmove ?_
  first | refine AtT.klenS Tryz.underlying61 ?_ | refine AtT.klenR Tryz.underlying61 ?_
  refine AtT.kmove ?_
  refine AtT.done ?_
  refine At.nrm ?_
  refine At.lp (ι := Nat) (KS := fun k => [(0, .slice a l.length c), (3, .pointer (some ⟨b3, 0, none⟩)), (7, iv l.length), (8, iv k)]) (OS := fun _ => [.blk b3 (LC [iv (s : Int)] 86)]) (VS := fun k V' => V' = V ∧ k ≤ l.length ∧ ∀ (j : Nat) (y : Nat), j < k → l[j]? = some y → (y == s) = false) (μ := fun k => l.length - k) 0 ?_ ?_ ?_ ?_
  · exact ⟨rfl, rfl, rfl, rfl, trivial⟩
  · exact Pt.auto
  · exact ⟨rfl, Nat.zero_le _, fun j y hj => absurd hj (Nat.not_lt_zero j)⟩
  · rintro k V' ks' O' ⟨rfl, hkl, hok⟩ hk hO hl2
    subst hk hO
    refine At.nrm ?_
    refine At.ktext (.q 0 .done) ?_
    refine AtT.klss ?_
    refine AtT.done ?_
    refine At.nrm ?_
    refine At.condP rfl (fun hp => ?_) (fun hp => ?_)
    · obtain ⟨x, hx⟩ : ∃ x, l[k]? = some x := ⟨_, List.getElem?_eq_getElem (by omega)⟩
      refine At.nrm ?_
      refine At.ktext (.q 0 (.q 1 .done)) ?_
      refine AtT.kmove ?_
      refine AtT.kassign ?_
      refine AtT.done ?_
      refine At.nrm ?_
      refine At.draw (.q 0 (.q 1 (.q 2 (.q 3 (.q 4 (.q 5 .done)))))) ffm (by kernel_rfl) ?_
      first | refine AtT.kloadOA tk86 ?_ | refine AtT.kloadA tk86 ?_ | refine AtT.kloadOP tk86 ?_
      refine AtT.kmove ?_
      refine AtT.kmove ?_
      refine AtT.kidx Tryz.underlying61 tk86 ?_
      intro p14 e14 he14 hc14
      obtain rfl : e14 = x := by have : l[k]? = some e14 := (by simpa using he14); rw [hx] at this; simpa using this.symm
      first | refine AtT.kloadOA tk86 ?_ | refine AtT.kloadA tk86 ?_ | refine AtT.kloadOP tk86 ?_
      refine AtT.keqS (eqS86 _ _) ?_
      refine AtT.done ?_
      refine At.nrm ?_
      refine At.condP rfl (fun hc => ?_) (fun hc => ?_)
      · have hix : ixS l s = some k := fi_hit hx (by rw [beq_iff_eq]; omega) hok
        refine At.nrm ?_
        refine At.ktext (.q 0 (.q 1 .done)) ?_
        refine AtT.kmove ?_
        refine AtT.kassign ?_
        refine AtT.done ?_
        refine At.nrm ?_
        exact At.ret1 rfl (.tmp rfl) (by rw [hix]; rfl)
      · refine At.nrm ?_
        refine At.ktext (.q 0 (.q 1 .done)) ?_
        first | refine AtT.kadd ?_ | refine AtT.kaddW ?_
        refine AtT.kmove ?_
        refine AtT.done ?_
        refine At.nrm ?_
        refine At.round (k + 1) ?_ ?_ ?_ ?_
        · show l.length - (k + 1) < l.length - k; omega
        · refine ⟨rfl, by omega, fun j y hj hy => ?_⟩
          by_cases hjk : j = k
          · subst hjk; rw [hx] at hy; cases hy; rw [beq_eq_false_iff_ne]; omega
          · exact hok j y (by omega) hy
        · exact ⟨rfl, rfl, rfl, ivs (by omega), trivial⟩
        · exact Pt.auto
    · obtain rfl : k = l.length := by omega
      have hix : ixS l s = none := fi_none fun j y hj hy => hok j y hj hy
      refine At.nrm ?_
      refine At.ktext (.q 0 .done) ?_
      refine AtT.kassign ?_
      refine AtT.done ?_
      refine At.nrm ?_
      exact At.ret1 rfl (.tmp rfl) (by rw [hix]; rfl)
theorem containsS_f (l : List Nat) (V : View) (v : Value) (hs : Sl V ste 1 v l) : Fnc Tryz.prog 76 [v, stv 0] V fun r _ => r = .bool (l.any (· == 0)) := by
  refine fn_of Tryz.func76 rfl Tryz.ntmps76 (Nat.le_of_ble_eq_true rfl) ?_
  intro w0 hw0
  refine At.nrm ?_
  refine At.ktext (.n false 0 (.q 1 .done)) ?_
  refine AtT.kbox ?_
  intro b3
  refine AtT.kassign ?_
  refine AtT.done ?_
  refine At.nrm ?_
  refine At.ktext (.q 0 (.q 1 (.n false 2 (.q 3 (.q 4 .done))))) ?_
  refine AtT.kmove ?_
  first | refine AtT.kloadOA tk86 ?_ | refine AtT.kloadA tk86 ?_ | refine AtT.kloadOP tk86 ?_
  refine AtT.kcallP rfl rfl ok68 (indexS_f l 0 _ _ hs) ?_
  rintro _ rfl
  refine AtT.kgeq ?_
  refine AtT.kassign ?_
  refine AtT.done ?_
  refine At.nrm ?_
  exact At.ret1 rfl (.tmp rfl) (by rw [ix_any])
end Go.Proofs.YtfcpmblmklibjaaGreat
set_option linter.unusedVariables false
namespace Go.Proofs.YtfcpmblmklibjaaGreat
open Go.Lw Go.Gl Go.Bl Go.RowKit

/-- A bench in memory. -/
def BcV (V : View) (p : Addr) (ts : List Tq) : Prop := ∃ a c a1 c1 a2 c2, Cells V p [.slice a ts.length c, iv (clA ts), .slice a1 (flL ts).length c1, .slice a2 (lsL ts).length c2] ∧ Sl V tqe 4 (.slice a ts.length c) ts ∧ SlI V (.slice a1 (flL ts).length c1) (flL ts) ∧ Sl V ste 1 (.slice a2 (lsL ts).length c2) (lsL ts)
theorem BcV.le {V V' : View} {p : Addr} {ts : List Tq} (h : BcV V p ts) (hl : Le V V') : BcV V' p ts := by
  obtain ⟨a, c, a1, c1, a2, c2, h1, h2, h3, h4⟩ := h
  exact ⟨a, c, a1, c1, a2, c2, h1.le hl, h2.le hl, h3.le hl, h4.le hl⟩
theorem newBench_f (ts : List Tq) (ht : ∀ t ∈ ts, sndB t.p = true) (h16 : ts.length ≤ 16) (V : View) (v : Value) (hs : Sl V tqe 4 v ts) : Fnc Tryz.prog 82 [v] V fun r V' => ∃ p, r = .pointer (some p) ∧ BcV V' p ts := by
  obtain ⟨a, c, rfl, h1, h2, _⟩ := id hs
  clear h1 h2
  have hcA : clA ts < 32768 := clN_lt ht _
  refine fn_of Tryz.func82 rfl Tryz.ntmps82 (Nat.le_of_ble_eq_true rfl) ?_
  intro w0 hw0
  refine At.nrm ?_
  refine At.ktext (.q 0 .done) ?_
  refine AtT.kassign ?_
  refine AtT.done ?_
  refine At.nrm ?_
  refine At.ktext (.q 0 (.q 1 (.q 2 (.n false 3 (.q 4 .done))))) ?_
  refine AtT.kmove ?_
  refine AtT.kbuild (bd90_0 _ _ _) ?_
  refine AtT.kbuild (bd92_0 _ _ _ _) ?_
  refine AtT.kbox ?_
  intro b11
  refine AtT.kassign ?_
  refine AtT.done ?_
  refine At.nrm ?_
  refine At.ktext (.q 0 (.q 1 (.q 2 (.q 3 (.q 4 (.q 5 (.q 6 .done))))))) ?_
  refine AtT.kmove ?_
  refine AtT.knil ?_
  first | refine AtT.kfieldO fo92_0 ?_ | with_reducible refine AtT.kfield2 fo92_0 ?_ | refine AtT.kfield fo92_0 ?_
  first | refine AtT.kfieldO fo90_0 ?_ | with_reducible refine AtT.kfield2 fo90_0 ?_ | refine AtT.kfield fo90_0 ?_
  first | refine AtT.kloadO tk22 ?_ | refine AtT.kload tk22 ?_
  first | refine AtT.klenS Tryz.underlying22 ?_ | refine AtT.klenR Tryz.underlying22 ?_
  refine AtT.kmove ?_
  refine AtT.done ?_
  refine At.nrm ?_
  refine At.lp (ι := Nat) (KS := fun k => [(3, .pointer (some ⟨b11, 0, none⟩)), (16, .slice a ts.length c), (17, iv ts.length), (18, iv k)]) (OS := fun k => [.blk b11 (LC [.slice a ts.length c, iv (clN ts k), .slice none 0 0, .slice none 0 0] 92)]) (VS := fun k V' => Le V V' ∧ k ≤ ts.length) (μ := fun k => ts.length - k) 0 ?_ ?_ ?_ ?_
  · exact ⟨rfl, rfl, rfl, rfl, trivial⟩
  · exact Pt.auto
  · exact ⟨Le.refl _, Nat.zero_le _⟩
  · rintro k V' ks' O' ⟨hVV, hkl⟩ hk hO hl2
    subst hk hO
    replace hs := hs.le hVV
    have hcl := clN_lt ht k
    refine At.nrm ?_
    refine At.ktext (.q 0 .done) ?_
    refine AtT.klss ?_
    refine AtT.done ?_
    refine At.nrm ?_
    refine At.condP rfl (fun hp => ?_) (fun hp => ?_)
    · obtain ⟨x, hx⟩ : ∃ x, ts[k]? = some x := ⟨_, List.getElem?_eq_getElem (by omega)⟩
      have hxs := ht x (List.mem_of_getElem? hx)
      have hnx := clN_at hx
      have hcb := cbN_lt hxs
      refine At.nrm ?_
      refine At.ktext (.q 0 (.q 1 (.n false 2 (.n true 3 .done)))) ?_
      refine AtT.kidx Tryz.underlying22 tk81 ?_
      intro p20 e20 he20 hc20
      obtain rfl : e20 = x := by have : ts[k]? = some e20 := (by simpa using he20); rw [hx] at this; simpa using this.symm
      first | refine AtT.kloadOA tk81 ?_ | refine AtT.kloadA tk81 ?_ | refine AtT.kloadOP tk81 ?_
      refine AtT.kalloc z81 ?_
      intro b5
      refine AtT.kstoreA tk81 ?_
      refine AtT.done ?_
      refine At.nrm ?_
      refine At.ktext (.q 0 (.q 1 (.q 2 .done))) ?_
      first | refine AtT.kfieldO fo81_1 ?_ | with_reducible refine AtT.kfield2 fo81_1 ?_ | refine AtT.kfield fo81_1 ?_
      first | refine AtT.kloadO tk4 ?_ | refine AtT.kload tk4 ?_
      refine AtT.knot ?_
      refine AtT.done ?_
      refine At.nrm ?_
      cases hf : e20.f with
      | true =>
        rw [hf, if_neg (by simp)] at hnx
        refine At.condF rfl rfl ?_
        refine At.nrm ?_
        refine At.ktext (.q 0 (.q 1 .done)) ?_
        first | refine AtT.kadd ?_ | refine AtT.kaddW ?_
        refine AtT.kmove ?_
        refine AtT.done ?_
        refine At.nrm ?_
        refine At.round (k + 1) ?_ ?_ ?_ ?_
        · show ts.length - (k + 1) < ts.length - k; omega
        · exact ⟨hVV, by omega⟩
        · exact ⟨rfl, rfl, rfl, ivs (by omega), trivial⟩
        rw [hnx]
        · exact Pt.auto
      | false =>
        rw [hf, if_pos rfl] at hnx
        refine At.condT rfl rfl ?_
        refine At.nrm ?_
        refine At.cutG (ι := Unit) (fun _ => [(3, .pointer (some ⟨b11, 0, none⟩)), (16, .slice a ts.length c), (17, iv ts.length), (18, iv k)]) (fun _ => [.blk b11 (LC [.slice a ts.length c, iv ((clN ts k ||| cbN e20.p : Nat) : Int), .slice none 0 0, .slice none 0 0] 92)]) (fun _ V'' => V'' = V') ?_ ?_
        · refine At.draw (.q 0 (.q 1 (.q 2 (.q 3 (.q 4 (.q 5 (.q 6 (.q 7 (.q 8 (.n false 9 (.q 10 (.q 11 (.q 12 (.q 13 (.q 14 (.q 15 (.n true 16 .done))))))))))))))))) ffm (by kernel_rfl) ?_
          refine AtT.kmove ?_
          refine AtT.kmove ?_
          refine AtT.knil ?_
          first | refine AtT.kfieldO fo92_0 ?_ | with_reducible refine AtT.kfield2 fo92_0 ?_ | refine AtT.kfield fo92_0 ?_
          first | refine AtT.kfieldO fo90_1 ?_ | with_reducible refine AtT.kfield2 fo90_1 ?_ | refine AtT.kfield fo90_1 ?_
          first | refine AtT.kfieldO fo86_0 ?_ | with_reducible refine AtT.kfield2 fo86_0 ?_ | refine AtT.kfield fo86_0 ?_
          first | refine AtT.kloadO tk3 ?_ | refine AtT.kload tk3 ?_
          first | refine AtT.kfieldO fo81_0 ?_ | with_reducible refine AtT.kfield2 fo81_0 ?_ | refine AtT.kfield fo81_0 ?_
          first | refine AtT.kloadOA tk24 ?_ | refine AtT.kloadA tk24 ?_ | refine AtT.kloadOP tk24 ?_
          refine AtT.kcallP rfl rfl ok66 (causes_f e20.p hxs _) ?_
          rintro _ rfl
          refine AtT.kfld (fl86_0 _) ?_
          refine AtT.orN rfl trivial rfl rfl rfl rfl (by omega) (by omega) (by decide) (A := clN ts k) (B := cbN e20.p) ?_
          refine AtT.kbuild (bd86_0 _) ?_
          refine AtT.knil ?_
          first | refine AtT.kfieldO fo92_0 ?_ | with_reducible refine AtT.kfield2 fo92_0 ?_ | refine AtT.kfield fo92_0 ?_
          first | refine AtT.kfieldO fo90_1 ?_ | with_reducible refine AtT.kfield2 fo90_1 ?_ | refine AtT.kfield fo90_1 ?_
          refine AtT.store rfl trivial rfl rfl tk86 rfl rfl (Nat.le_of_ble_eq_true rfl) rfl rfl (by repeat (first | exact Upd.here | apply Upd.there)) ?_
          refine AtT.done ?_
          refine At.nrm ?_
          all_goals (exact At.meetG () rfl ⟨rfl, rfl, rfl, rfl, trivial⟩ Pt.auto)
        rintro _ V'' ks' O' rfl hk hO hl3
        subst hk hO
        refine At.nrm ?_
        refine At.ktext (.q 0 (.q 1 .done)) ?_
        first | refine AtT.kadd ?_ | refine AtT.kaddW ?_
        refine AtT.kmove ?_
        refine AtT.done ?_
        refine At.nrm ?_
        refine At.round (k + 1) ?_ ?_ ?_ ?_
        · show ts.length - (k + 1) < ts.length - k; omega
        · exact ⟨hVV, by omega⟩
        · exact ⟨rfl, rfl, rfl, ivs (by omega), trivial⟩
        rw [hnx]
        · exact Pt.auto
    · obtain rfl : k = ts.length := by omega
      refine At.nrm ?_
      refine At.ktext (.q 0 (.q 1 (.q 2 (.q 3 (.q 4 (.q 5 (.q 6 .done))))))) ?_
      refine AtT.kmove ?_
      refine AtT.knil ?_
      first | refine AtT.kfieldO fo92_0 ?_ | with_reducible refine AtT.kfield2 fo92_0 ?_ | refine AtT.kfield fo92_0 ?_
      first | refine AtT.kfieldO fo90_0 ?_ | with_reducible refine AtT.kfield2 fo90_0 ?_ | refine AtT.kfield fo90_0 ?_
      first | refine AtT.kloadO tk22 ?_ | refine AtT.kload tk22 ?_
      first | refine AtT.klenS Tryz.underlying22 ?_ | refine AtT.klenR Tryz.underlying22 ?_
      refine AtT.kmove ?_
      refine AtT.done ?_
      refine At.nrm ?_
      refine At.newRow 3 1 ?_
      refine At.newRow 86 1 ?_
      refine At.lp (ι := Nat × (Option Addr × Nat) × Option Addr × Nat) (KS := fun g => [(3, .pointer (some ⟨b11, 0, none⟩)), (46, .slice a ts.length c), (47, iv ts.length), (48, iv g.1)])
        (OS := fun g => [.blk b11 (LC [.slice a ts.length c, iv (clA ts), .slice g.2.1.1 (flK ts g.1).length g.2.1.2, .slice g.2.2.1 (lsK (clA ts) ts g.1).length g.2.2.2] 92), .row (.slice g.2.1.1 (flK ts g.1).length g.2.1.2) 3 1 (flK ts g.1).length (flat ei (flK ts g.1)), .row (.slice g.2.2.1 (lsK (clA ts) ts g.1).length g.2.2.2) 86 1 (lsK (clA ts) ts g.1).length (flat ste (lsK (clA ts) ts g.1))])
        (VS := fun g V'' => Le V' V'' ∧ g.1 ≤ ts.length) (μ := fun g => ts.length - g.1) (0, (none, 0), none, 0) ?_ ?_ ?_ ?_
      · exact ⟨rfl, rfl, rfl, rfl, trivial⟩
      · exact Pt.auto
      · exact ⟨Le.refl _, Nat.zero_le _⟩
      rintro ⟨k, ⟨a1, c1⟩, a2, c2⟩ V2 ks' O' ⟨hV2, hkl⟩ hk hO hl3
      dsimp only at hkl hk hO
      subst hk hO
      have hs2 := hs.le hV2
      have hVV2 := hVV.trans hV2
      have hfl := fl_ls (clA ts) ts k
      refine At.nrm ?_
      refine At.ktext (.q 0 .done) ?_
      refine AtT.klss ?_
      refine AtT.done ?_
      refine At.nrm ?_
      refine At.condP rfl (fun hp => ?_) (fun hp => ?_)
      rotate_left
      · obtain rfl : k = ts.length := by omega
        refine At.nrm ?_
        refine At.ktext (.q 0 (.q 1 .done)) ?_
        refine AtT.kmove ?_
        refine AtT.kassign ?_
        refine AtT.done ?_
        refine At.nrm ?_
        refine At.giveSl (l := flL ts) Lw.ei_len rfl rfl Pick.auto (fun V4 hV4 hs4 => ?_)
        refine At.giveSl (l := lsL ts) ste_len rfl rfl Pick.auto (fun V5 hV5 hs5 => ?_)
        refine At.giveB (b := b11) Pick.auto (fun V6 hV6 hb6 => ?_)
        exact At.ret1 rfl (.tmp rfl) ⟨_, rfl, a, c, a1, c1, a2, c2, cells_blk hb6, ((hs2.le hV4).le hV5).le hV6, (hs4.le hV5).le hV6, hs5.le hV6⟩
      obtain ⟨x, hx⟩ : ∃ x, ts[k]? = some x := ⟨_, List.getElem?_eq_getElem (by omega)⟩
      have hxs := ht x (List.mem_of_getElem? hx)
      have hcb := cbN_lt hxs
      refine At.nrm ?_
      refine At.ktext (.q 0 (.q 1 (.q 2 (.n false 3 (.q 4 (.n true 5 .done)))))) ?_
      refine AtT.kmove ?_
      refine AtT.kidx Tryz.underlying22 tk81 ?_
      intro p51 e51 he51 hc51
      obtain rfl : e51 = x := by have : ts[k]? = some e51 := (by simpa using he51); rw [hx] at this; simpa using this.symm
      first | refine AtT.kloadOA tk81 ?_ | refine AtT.kloadA tk81 ?_ | refine AtT.kloadOP tk81 ?_
      refine AtT.kalloc z81 ?_
      intro b7
      refine AtT.kassign ?_
      refine AtT.kstoreA tk81 ?_
      refine AtT.done ?_
      refine At.nrm ?_
      refine At.ktext (.q 0 (.q 1 .done)) ?_
      first | refine AtT.kfieldO fo81_1 ?_ | with_reducible refine AtT.kfield2 fo81_1 ?_ | refine AtT.kfield fo81_1 ?_
      first | refine AtT.kloadO tk4 ?_ | refine AtT.kload tk4 ?_
      refine AtT.done ?_
      refine At.nrm ?_
      cases hf : e51.f with
      | false =>
        have e1 := flK_f hx hf
        have e2 := lsK_f (no := clA ts) hx hf
        refine At.condF rfl rfl ?_
        refine At.nrm ?_
        refine At.ktext (.q 0 (.q 1 .done)) ?_
        first | refine AtT.kadd ?_ | refine AtT.kaddW ?_
        refine AtT.kmove ?_
        refine AtT.done ?_
        refine At.nrm ?_
        refine At.round (k + 1, (a1, c1), a2, c2) ?_ ?_ ?_ ?_
        · show ts.length - (k + 1) < ts.length - k; omega
        · exact ⟨hV2, by dsimp only; omega⟩
        · exact ⟨rfl, rfl, rfl, ivs (by dsimp only; omega), trivial⟩
        dsimp only
        rw [e1, e2]
        · exact Pt.auto
      | true =>
        have e1 := flK_t hx hf
        have e2 := lsK_t (no := clA ts) hx hf
        refine At.condT rfl rfl ?_
        refine At.nrm ?_
        refine At.ktext (.q 0 (.q 1 (.q 2 (.q 3 (.q 4 (.q 5 (.n false 6 (.n true 7 (.q 8 (.q 9 (.n true 10 .done))))))))))) ?_
        refine AtT.kmove ?_
        refine AtT.kmove ?_
        refine AtT.knil ?_
        first | refine AtT.kfieldO fo92_1 ?_ | with_reducible refine AtT.kfield2 fo92_1 ?_ | refine AtT.kfield fo92_1 ?_
        first | refine AtT.kloadO tk38 ?_ | refine AtT.kload tk38 ?_
        refine AtT.kmove ?_
        refine AtT.kbsliceG (bs38_1_0 _) ?_
        intro q61 V61 hV61 hq61
        have g61 : Le V V61 := by first | exact hV61 | exact Le.trans (by assumption) hV61
        first | refine AtT.kappend Tryz.underlying38 rw3 ?_
        intro a62 c62
        refine AtT.knil ?_
        first | refine AtT.kfieldO fo92_1 ?_ | with_reducible refine AtT.kfield2 fo92_1 ?_ | refine AtT.kfield fo92_1 ?_
        first | refine AtT.kstore1 tk38 ?_ | refine AtT.kstoreA tk38 ?_
        refine AtT.done ?_
        refine At.nrm ?_
        refine At.cutG (ι := Option Addr × Nat) (fun _ => [(3, .pointer (some ⟨b11, 0, none⟩)), (46, .slice a ts.length c), (47, iv ts.length), (48, iv k)])
          (fun g => [.blk b11 (LC [.slice a ts.length c, iv (clA ts), .slice a62 ((flK ts k).length + 1) c62, .slice g.1 ((lsK (clA ts) ts k).length + 1) g.2] 92), .row (.slice a62 ((flK ts k).length + 1) c62) 3 1 ((flK ts k).length + 1) (flat ei (flK ts k) ++ flat ei [(k : Int)]), .row (.slice g.1 ((lsK (clA ts) ts k).length + 1) g.2) 86 1 ((lsK (clA ts) ts k).length + 1) (flat ste (lsK (clA ts) ts k) ++ flat ste [clrB (cbN e51.p) (clA ts)])])
          (fun _ V'' => Le V2 V'') ?_ ?_
        · refine At.drawC [.blk b11 (LC [.slice a ts.length c, iv (clA ts), .slice a62 ((flK ts k).length + 1) c62, .slice a2 (lsK (clA ts) ts k).length c2] 92), .blk b7 (LC (tqe e51) 81)] (.q 0 (.q 1 (.q 2 (.q 3 (.q 4 (.q 5 (.q 6 (.q 9 (.q 10 (.q 11 (.q 12 (.q 13 (.q 14 (.n false 7 (.q 8 (.q 15 (.q 16 (.n false 17 (.n false 18 (.q 19 (.q 20 (.n true 21 .done)))))))))))))))))))))) ffm (by kernel_rfl) Pt.auto ?_
          refine AtC.pre (fun hle0 => ?_)
          refine AtC.kq (by (refine AtT.kmove ?_); exact At.knows) ?_
          refine AtC.kq (by (refine AtT.kmove ?_); exact At.knows) ?_
          refine AtC.kq (by (refine AtT.knil ?_); exact At.knows) ?_
          refine AtC.kq (by (first | refine AtT.kfieldO fo92_2 ?_ | with_reducible refine AtT.kfield2 fo92_2 ?_ | refine AtT.kfield fo92_2 ?_); exact At.knows) ?_
          refine AtC.kq (by (first | refine AtT.kloadO tk61 ?_ | refine AtT.kload tk61 ?_); exact At.knows) ?_
          refine AtC.kq (by (first | refine AtT.kfieldO fo81_0 ?_ | with_reducible refine AtT.kfield2 fo81_0 ?_ | refine AtT.kfield fo81_0 ?_); exact At.knows) ?_
          refine AtC.kq (by (first | refine AtT.kloadOA tk24 ?_ | refine AtT.kloadA tk24 ?_ | refine AtT.kloadOP tk24 ?_); exact At.knows) ?_
          refine AtC.kq (by (refine AtT.kmove ?_); exact At.knows) ?_
          refine AtC.kq (by (refine AtT.knil ?_); exact At.knows) ?_
          refine AtC.kq (by (first | refine AtT.kfieldO fo92_0 ?_ | with_reducible refine AtT.kfield2 fo92_0 ?_ | refine AtT.kfield fo92_0 ?_); exact At.knows) ?_
          refine AtC.kq (by (first | refine AtT.kfieldO fo90_1 ?_ | with_reducible refine AtT.kfield2 fo90_1 ?_ | refine AtT.kfield fo90_1 ?_); exact At.knows) ?_
          refine AtC.kq (by (first | refine AtT.kfieldO fo86_0 ?_ | with_reducible refine AtT.kfield2 fo86_0 ?_ | refine AtT.kfield fo86_0 ?_); exact At.knows) ?_
          refine AtC.kq (by (first | refine AtT.kloadO tk3 ?_ | refine AtT.kload tk3 ?_); exact At.knows) ?_
          refine AtC.nz ?_
          refine AtT.kcallP rfl rfl ok66 (causes_f e51.p hxs _) ?_
          rintro _ rfl
          refine AtC.kgo ?_
          refine AtC.kq (by (refine AtT.kfld (fl86_0 _) ?_); exact At.knows) ?_
          refine AtC.kq (by (refine AtT.clrN rfl trivial rfl rfl rfl rfl (by omega) (by omega) (by decide) (A := cbN e51.p) (B := clA ts) ?_); exact At.knows) ?_
          refine AtC.kq (by (refine AtT.kbuild (bd86_0 _) ?_); exact At.knows) ?_
          refine AtC.nz ?_
          refine AtT.kbsliceG (bs61_1_0 _) ?_
          intro q82 V82 hV82 hq82
          have g82 : Le V V82 := by first | exact hV82 | exact Le.trans (by assumption) hV82
          refine AtC.kgo ?_
          refine AtC.nz ?_
          first | refine AtT.kappend Tryz.underlying61 rw86 ?_
          intro a83 c83
          refine AtC.kgo ?_
          refine AtC.kq (by (refine AtT.knil ?_); exact At.knows) ?_
          refine AtC.kq (by (first | refine AtT.kfieldO fo92_2 ?_ | with_reducible refine AtT.kfield2 fo92_2 ?_ | refine AtT.kfield fo92_2 ?_); exact At.knows) ?_
          refine AtC.toT ?_
          first | refine AtT.kstore1 tk61 ?_ | refine AtT.kstoreA tk61 ?_
          refine AtT.done ?_
          refine At.nrm ?_
          all_goals (exact At.meetG (a83, c83) (by first | exact Le.refl _ | assumption | exact Le.trans (by assumption) (by assumption)) ⟨rfl, rfl, rfl, rfl, trivial⟩ Pt.auto)
        rintro ⟨a83, c83⟩ V3 ks' O' hV3 hk hO hl4
        dsimp only at hk hO
        subst hk hO
        refine At.nrm ?_
        refine At.ktext (.q 0 (.q 1 .done)) ?_
        first | refine AtT.kadd ?_ | refine AtT.kaddW ?_
        refine AtT.kmove ?_
        refine AtT.done ?_
        refine At.nrm ?_
        refine At.round (k + 1, (a62, c62), a83, c83) ?_ ?_ ?_ ?_
        · show ts.length - (k + 1) < ts.length - k; omega
        · exact ⟨hV2.trans hV3, by dsimp only; omega⟩
        · exact ⟨rfl, rfl, rfl, ivs (by dsimp only; omega), trivial⟩
        dsimp only
        rw [e1, e2, flat_snoc, flat_snoc, List.length_append, List.length_append]
        · exact Pt.auto
end Go.Proofs.YtfcpmblmklibjaaGreat
set_option linter.unusedVariables false
namespace Go.Proofs.YtfcpmblmklibjaaGreat
open Go.Lw Go.Gl Go.Bl Go.RowKit

theorem open_bad (ts : List Tq) (h : trE ts ≠ 0) (V : View) (v : Value) (hs : Sl V tqe 4 v ts) : Fnc Tryz.prog 57 [v] V fun r _ => r = .tuple #[.pointer none, iv (trE ts)] := by
  refine fn_of Tryz.func57 rfl Tryz.ntmps57 (Nat.le_of_ble_eq_true rfl) ?_
  intro w0 hw0
  refine At.nrm ?_
  refine At.ktext (.q 0 (.q 1 .done)) ?_
  refine AtT.kassign ?_
  refine AtT.kassign ?_
  refine AtT.done ?_
  refine At.nrm ?_
  refine At.ktext (.q 0 (.n false 1 (.q 2 .done))) ?_
  refine AtT.kmove ?_
  refine AtT.kcallP rfl rfl ok36 (trials_f ts _ _ hs) ?_
  rintro _ rfl
  refine AtT.kassign ?_
  refine AtT.done ?_
  refine At.nrm ?_
  refine At.ktext (.q 0 (.q 1 .done)) ?_
  refine AtT.kmove ?_
  refine AtT.kneI ?_
  refine AtT.done ?_
  refine At.nrm ?_
  refine At.condT rfl (decide_eq_true h) ?_
  refine At.nrm ?_
  refine At.ktext (.q 0 (.q 1 (.q 2 .done))) ?_
  refine AtT.kmove ?_
  refine AtT.kassign ?_
  refine AtT.kassign ?_
  refine AtT.done ?_
  refine At.nrm ?_
  exact At.ret2 rfl (.tmp rfl) (.tmp rfl) rfl
theorem open_ok (ts : List Tq) (h : trE ts = 0) (V : View) (v : Value) (hs : Sl V tqe 4 v ts) : Fnc Tryz.prog 57 [v] V fun r V' => ∃ p, r = .tuple #[.pointer (some p), iv 0] ∧ BcV V' p ts := by
  obtain ⟨h16, ht⟩ := trE_ok h
  refine fn_of Tryz.func57 rfl Tryz.ntmps57 (Nat.le_of_ble_eq_true rfl) ?_
  intro w0 hw0
  refine At.nrm ?_
  refine At.ktext (.q 0 (.q 1 .done)) ?_
  refine AtT.kassign ?_
  refine AtT.kassign ?_
  refine AtT.done ?_
  refine At.nrm ?_
  refine At.ktext (.q 0 (.n false 1 (.q 2 .done))) ?_
  refine AtT.kmove ?_
  refine AtT.kcallP rfl rfl ok36 (trials_f ts _ _ hs) ?_
  rintro _ rfl; rw [h]
  refine AtT.kassign ?_
  refine AtT.done ?_
  refine At.nrm ?_
  refine At.ktext (.q 0 (.q 1 .done)) ?_
  refine AtT.kmove ?_
  refine AtT.kneI ?_
  refine AtT.done ?_
  refine At.nrm ?_
  refine At.condF rfl (decide_eq_false (by simp)) ?_
  refine At.nrm ?_
  refine At.ktext (.q 0 (.n false 1 (.q 2 (.q 3 .done)))) ?_
  refine AtT.kmove ?_
  refine AtT.kcall rfl rfl ok82 (newBench_f ts ht h16 _ _ hs) ?_
  rintro _ V11 hV11 ⟨p, rfl, hb⟩
  refine AtT.kassign ?_
  refine AtT.kassign ?_
  refine AtT.done ?_
  refine At.nrm ?_
  exact At.ret2 rfl (.tmp rfl) (.tmp rfl) ⟨p, rfl, hb⟩
theorem bc_clear {V : View} {p : Addr} {ts : List Tq} (h : BcV V p ts) : Cells V ((p.add 0).add 1) [iv (clA ts)] := by
  obtain ⟨a, c, a1, c1, a2, c2, h1, _⟩ := h
  exact h1.at (k := 1) fun j u hj => by
    match j, hj with
    | 0, hj => exact hj
theorem bc_failed {V : View} {p : Addr} {ts : List Tq} (h : BcV V p ts) : ∃ a1 c1, Cells V (p.add 2) [.slice a1 (flL ts).length c1] ∧ SlI V (.slice a1 (flL ts).length c1) (flL ts) := by
  obtain ⟨a, c, a1, c1, a2, c2, h1, h2, h3, h4⟩ := h
  exact ⟨a1, c1, h1.at (k := 2) fun j u hj => by
    match j, hj with
    | 0, hj => exact hj, h3⟩
theorem bc_left {V : View} {p : Addr} {ts : List Tq} (h : BcV V p ts) : ∃ a2 c2, Cells V (p.add 3) [.slice a2 (lsL ts).length c2] ∧ Sl V ste 1 (.slice a2 (lsL ts).length c2) (lsL ts) := by
  obtain ⟨a, c, a1, c1, a2, c2, h1, h2, h3, h4⟩ := h
  exact ⟨a2, c2, h1.at (k := 3) fun j u hj => by
    match j, hj with
    | 0, hj => exact hj, h4⟩
theorem clear_f (ts : List Tq) (V : View) (v : Value) (hs : Sl V tqe 4 v ts) : Fnc Tryz.prog 26 [v] V fun r V' => ∃ u, r = .tuple #[u, iv (trE ts)] ∧ SlI V' u (clR ts) := by
  refine fn_of Tryz.func26 rfl Tryz.ntmps26 (Nat.le_of_ble_eq_true rfl) ?_
  intro w0 hw0
  refine At.nrm ?_
  refine At.ktext (.q 0 (.q 1 .done)) ?_
  refine AtT.kassign ?_
  refine AtT.kassign ?_
  refine AtT.done ?_
  refine At.nrm ?_
  by_cases h0 : trE ts = 0
  rotate_left
  · refine At.ktext (.q 0 (.n false 1 (.q 2 (.q 3 (.q 4 (.q 5 (.q 6 .done))))))) ?_
    refine AtT.kmove ?_
    refine AtT.kcallP rfl rfl ok57 (open_bad ts h0 _ _ hs) ?_
    rintro _ rfl
    refine AtT.kmove ?_
    refine AtT.kextract ?_
    refine AtT.kextract ?_
    refine AtT.kassign ?_
    refine AtT.kassign ?_
    refine AtT.done ?_
    refine At.nrm ?_
    refine At.ktext (.q 0 (.q 1 .done)) ?_
    refine AtT.kmove ?_
    refine AtT.kneI ?_
    refine AtT.done ?_
    refine At.nrm ?_
    refine At.condT rfl (decide_eq_true h0) ?_
    refine At.nrm ?_
    refine At.ktext (.q 0 (.q 1 (.q 2 .done))) ?_
    refine AtT.kmove ?_
    refine AtT.kassign ?_
    refine AtT.kassign ?_
    refine AtT.done ?_
    refine At.nrm ?_
    exact At.ret2 rfl (.tmp rfl) (.tmp rfl) ⟨_, rfl, by unfold clR; rw [if_neg h0]; exact Sl.nil _ _ _⟩
  obtain ⟨h16, ht⟩ := trE_ok h0
  have hcl : clA ts < 32768 := clN_lt ht _
  refine At.ktext (.q 0 (.n false 1 (.q 2 (.q 3 (.q 4 (.q 5 (.q 6 .done))))))) ?_
  refine AtT.kmove ?_
  refine AtT.kcall rfl rfl ok57 (open_ok ts h0 _ _ hs) ?_
  rintro _ V1 hV1 ⟨p, rfl, hb⟩
  refine AtT.kmove ?_
  refine AtT.kextract ?_
  refine AtT.kextract ?_
  refine AtT.kassign ?_
  refine AtT.kassign ?_
  refine AtT.done ?_
  refine At.nrm ?_
  refine At.ktext (.q 0 (.q 1 .done)) ?_
  refine AtT.kmove ?_
  refine AtT.kneI ?_
  refine AtT.done ?_
  refine At.nrm ?_
  refine At.condF rfl (decide_eq_false (by simp)) ?_
  have hc18 := bc_clear hb
  refine At.nrm ?_
  refine At.ktext (.q 0 (.q 1 (.q 2 (.q 3 (.q 4 (.n false 5 (.q 6 (.q 7 .done)))))))) ?_
  refine AtT.kmove ?_
  refine AtT.knil ?_
  first | refine AtT.kfieldO fo92_0 ?_ | with_reducible refine AtT.kfield2 fo92_0 ?_ | refine AtT.kfield fo92_0 ?_
  first | refine AtT.kfieldO fo90_1 ?_ | with_reducible refine AtT.kfield2 fo90_1 ?_ | refine AtT.kfield fo90_1 ?_
  first | refine AtT.kloadOA tk86 ?_ | refine AtT.kloadA tk86 ?_ | refine AtT.kloadOP tk86 ?_
  refine AtT.kcall rfl rfl ok67 (list_f (clA ts) (by omega) _) ?_
  rintro v19 V19 hV19 hs19
  refine AtT.kassign ?_
  refine AtT.kassign ?_
  refine AtT.done ?_
  refine At.nrm ?_
  exact At.ret2 rfl (.tmp rfl) (.tmp rfl) ⟨_, by rw [h0], by unfold clR; rw [if_pos h0]; exact hs19⟩
theorem miss_f (s t : Nat) (h1 : s < 9223372036854775808) (h2 : t < 9223372036854775808) (V : View) (q : Addr) (hc5 : Cells V q [iv (s : Int)]) : Fnc Tryz.prog 62 ([] ++ [stv t] ++ [.pointer (some q)]) V fun r _ => r = .bool (!mtB s t) := by
  refine fn_of Tryz.func62 rfl Tryz.ntmps62 (Nat.le_of_ble_eq_true rfl) ?_
  intro w0 hw0
  refine At.nrm ?_
  refine At.ktext (.n false 0 (.q 1 .done)) ?_
  refine AtT.kbox ?_
  intro b2
  refine AtT.kassign ?_
  refine AtT.done ?_
  refine At.nrm ?_
  refine At.ktext (.q 0 (.q 1 (.n false 2 (.q 3 (.q 4 .done))))) ?_
  first | refine AtT.kloadOA tk86 ?_ | refine AtT.kloadA tk86 ?_ | refine AtT.kloadOP tk86 ?_
  first | refine AtT.kloadOA tk86 ?_ | refine AtT.kloadA tk86 ?_ | refine AtT.kloadOP tk86 ?_
  refine AtT.kcallP rfl rfl ok60 (meets_f s t h1 h2 _) ?_
  rintro _ rfl
  refine AtT.knot ?_
  refine AtT.kassign ?_
  refine AtT.done ?_
  refine At.nrm ?_
  exact At.ret1 rfl (.tmp rfl) rfl
theorem any_not {α : Type} (p : α → Bool) : ∀ l : List α, l.any (fun x => !p x) = !l.all p
  | [] => rfl
  | x :: l => by simp only [List.any_cons, List.all_cons, any_not p l, Bool.not_and]
/-- Which causes are an explanation. -/
theorem checkCauses_f (ts : List Tq) (l : List Int) (V : View) (v u : Value) (hs : Sl V tqe 4 v ts) (hu : SlI V u l) : Fnc Tryz.prog 17 [v, u] V fun r _ => r = iv (ccR ts l) := by
  refine fn_of Tryz.func17 rfl Tryz.ntmps17 (Nat.le_of_ble_eq_true rfl) ?_
  intro w0 hw0
  refine At.nrm ?_
  refine At.ktext (.q 0 .done) ?_
  refine AtT.kassign ?_
  refine AtT.done ?_
  refine At.nrm ?_
  by_cases h0 : trE ts = 0
  rotate_left
  · refine At.ktext (.q 0 (.n false 1 (.q 2 (.q 3 (.q 4 (.q 5 (.q 6 .done))))))) ?_
    refine AtT.kmove ?_
    refine AtT.kcallP rfl rfl ok57 (open_bad ts h0 _ _ hs) ?_
    rintro _ rfl
    refine AtT.kmove ?_
    refine AtT.kextract ?_
    refine AtT.kextract ?_
    refine AtT.kassign ?_
    refine AtT.kassign ?_
    refine AtT.done ?_
    refine At.nrm ?_
    refine At.ktext (.q 0 (.q 1 (.q 2 .done))) ?_
    refine AtT.kmove ?_
    refine AtT.kneI ?_
    refine AtT.kassign ?_
    refine AtT.done ?_
    refine At.nrm ?_
    refine At.condT rfl (decide_eq_true h0) ?_
    refine At.nrm ?_
    refine At.ktext (.q 0 (.q 1 .done)) ?_
    refine AtT.kmove ?_
    refine AtT.kassign ?_
    refine AtT.done ?_
    refine At.nrm ?_
    exact At.ret1 rfl (.tmp rfl) (by rw [ccR_tr h0])
  obtain ⟨h16, ht⟩ := trE_ok h0
  have hcl : clA ts < 32768 := clN_lt ht _
  refine At.ktext (.q 0 (.n false 1 (.q 2 (.q 3 (.q 4 (.q 5 (.q 6 .done))))))) ?_
  refine AtT.kmove ?_
  refine AtT.kcall rfl rfl ok57 (open_ok ts h0 _ _ hs) ?_
  rintro _ V1 hV1 ⟨p, rfl, hb⟩
  refine AtT.kmove ?_
  refine AtT.kextract ?_
  refine AtT.kextract ?_
  refine AtT.kassign ?_
  refine AtT.kassign ?_
  refine AtT.done ?_
  refine At.nrm ?_
  have hu1 := hu.le hV1
  refine At.ktext (.q 0 (.q 1 (.q 2 .done))) ?_
  refine AtT.kmove ?_
  refine AtT.kneI ?_
  refine AtT.kassign ?_
  refine AtT.done ?_
  refine At.nrm ?_
  refine At.condF rfl (decide_eq_false (by simp)) ?_
  refine At.nrm ?_
  cases h1 : lstB l 15 with
  | false =>
    refine At.ktext (.q 0 (.n false 1 (.q 2 (.q 3 .done)))) ?_
    refine AtT.kmove ?_
    refine AtT.kcallP rfl rfl ok58 (rising_f l 15 (by decide) _ _ hu1) ?_
    rintro _ rfl; rw [h1]
    refine AtT.knot ?_
    refine AtT.kassign ?_
    refine AtT.done ?_
    refine At.nrm ?_
    refine At.condT rfl rfl ?_
    refine At.nrm ?_
    refine At.ktext (.q 0 .done) ?_
    refine AtT.kassign ?_
    refine AtT.done ?_
    refine At.nrm ?_
    exact At.ret1 rfl (.tmp rfl) (by rw [ccR_arg h0 h1])
  | true =>
    refine At.ktext (.q 0 (.n false 1 (.q 2 (.q 3 .done)))) ?_
    refine AtT.kmove ?_
    refine AtT.kcallP rfl rfl ok58 (rising_f l 15 (by decide) _ _ hu1) ?_
    rintro _ rfl; rw [h1]
    refine AtT.knot ?_
    refine AtT.kassign ?_
    refine AtT.done ?_
    refine At.nrm ?_
    refine At.condF rfl rfl ?_
    have hin := lstB_in h1
    have hbl : btL l < 32768 := btL_lt (n := 15) fun x hx => by have := hin x hx; omega
    have hc29 := bc_clear hb
    refine At.nrm ?_
    refine At.ktext (.q 0 (.n false 1 (.n false 2 (.n true 3 .done)))) ?_
    refine AtT.kmove ?_
    refine AtT.kcallP rfl rfl ok59 (setOf_f l hin _ _ hu1) ?_
    rintro _ rfl
    refine AtT.kalloc z86 ?_
    intro b7
    refine AtT.kstoreA tk86 ?_
    refine AtT.done ?_
    refine At.nrm ?_
    by_cases h2 : btL l &&& clA ts = 0
    rotate_left
    · refine At.draw (.q 0 (.q 1 (.q 2 (.q 3 (.q 4 (.q 5 (.n false 6 (.q 7 .done)))))))) ffm (by kernel_rfl) ?_
      first | refine AtT.kloadOA tk86 ?_ | refine AtT.kloadA tk86 ?_ | refine AtT.kloadOP tk86 ?_
      refine AtT.kmove ?_
      refine AtT.knil ?_
      first | refine AtT.kfieldO fo92_0 ?_ | with_reducible refine AtT.kfield2 fo92_0 ?_ | refine AtT.kfield fo92_0 ?_
      first | refine AtT.kfieldO fo90_1 ?_ | with_reducible refine AtT.kfield2 fo90_1 ?_ | refine AtT.kfield fo90_1 ?_
      first | refine AtT.kloadOA tk86 ?_ | refine AtT.kloadA tk86 ?_ | refine AtT.kloadOP tk86 ?_
      refine AtT.kcallP rfl rfl ok60 (meets_f (btL l) (clA ts) (by omega) (by omega) _) ?_
      rintro _ rfl
      refine AtT.kassign ?_
      refine AtT.done ?_
      refine At.nrm ?_
      refine At.condT rfl (decide_eq_true h2) ?_
      refine At.nrm ?_
      refine At.ktext (.q 0 .done) ?_
      refine AtT.kassign ?_
      refine AtT.done ?_
      refine At.nrm ?_
      exact At.ret1 rfl (.tmp rfl) (by rw [ccR_rule h0 h1 h2])
    refine At.draw (.q 0 (.q 1 (.q 2 (.q 3 (.q 4 (.q 5 (.n false 6 (.q 7 .done)))))))) ffm (by kernel_rfl) ?_
    first | refine AtT.kloadOA tk86 ?_ | refine AtT.kloadA tk86 ?_ | refine AtT.kloadOP tk86 ?_
    refine AtT.kmove ?_
    refine AtT.knil ?_
    first | refine AtT.kfieldO fo92_0 ?_ | with_reducible refine AtT.kfield2 fo92_0 ?_ | refine AtT.kfield fo92_0 ?_
    first | refine AtT.kfieldO fo90_1 ?_ | with_reducible refine AtT.kfield2 fo90_1 ?_ | refine AtT.kfield fo90_1 ?_
    first | refine AtT.kloadOA tk86 ?_ | refine AtT.kloadA tk86 ?_ | refine AtT.kloadOP tk86 ?_
    refine AtT.kcallP rfl rfl ok60 (meets_f (btL l) (clA ts) (by omega) (by omega) _) ?_
    rintro _ rfl
    refine AtT.kassign ?_
    refine AtT.done ?_
    refine At.nrm ?_
    refine At.condF rfl (decide_eq_false (by simp [h2])) ?_
    refine At.giveB (b := b7) Pick.auto (fun V2 hV2 hb7 => ?_)
    obtain ⟨a2, c2, hc35, hsl⟩ := bc_left (hb.le hV2)
    have hlt := ls_lt (no := clA ts) ht ts.length
    have hex := ex_ls ts (btL l)
    have han := any_not (fun s => mtB (btL l) s) (lsL ts)
    rw [← hex] at han
    refine At.nrm ?_
    cases h3 : exB (lfL ts) (btL l) with
    | false =>
      rw [h3] at han
      refine At.ktext (.q 0 (.q 1 (.q 2 (.q 3 (.q 4 (.n false 5 (.q 6 .done))))))) ?_
      refine AtT.kmove ?_
      refine AtT.knil ?_
      first | refine AtT.kfieldO fo92_2 ?_ | with_reducible refine AtT.kfield2 fo92_2 ?_ | refine AtT.kfield fo92_2 ?_
      first | refine AtT.kloadO tk61 ?_ | refine AtT.kload tk61 ?_
      refine AtT.kfn ?_
      refine AtT.kcallP rfl rfl ok61 (contains_s 62 [.pointer (some ⟨b7, 0, none⟩)] (fun t => !mtB (btL l) t) _ _ (lsL ts) hsl ok62 (fun t ht' => miss_f (btL l) t (by omega) (by have := hlt t ht'; omega) _ _ (cells_blk hb7))) ?_
      rintro _ rfl; rw [han]
      refine AtT.kassign ?_
      refine AtT.done ?_
      refine At.nrm ?_
      refine At.condT rfl rfl ?_
      refine At.nrm ?_
      refine At.ktext (.q 0 .done) ?_
      refine AtT.kassign ?_
      refine AtT.done ?_
      refine At.nrm ?_
      exact At.ret1 rfl (.tmp rfl) (by rw [ccR_boil h0 h1 h2 h3])
    | true =>
      rw [h3] at han
      refine At.ktext (.q 0 (.q 1 (.q 2 (.q 3 (.q 4 (.n false 5 (.q 6 .done))))))) ?_
      refine AtT.kmove ?_
      refine AtT.knil ?_
      first | refine AtT.kfieldO fo92_2 ?_ | with_reducible refine AtT.kfield2 fo92_2 ?_ | refine AtT.kfield fo92_2 ?_
      first | refine AtT.kloadO tk61 ?_ | refine AtT.kload tk61 ?_
      refine AtT.kfn ?_
      refine AtT.kcallP rfl rfl ok61 (contains_s 62 [.pointer (some ⟨b7, 0, none⟩)] (fun t => !mtB (btL l) t) _ _ (lsL ts) hsl ok62 (fun t ht' => miss_f (btL l) t (by omega) (by have := hlt t ht'; omega) _ _ (cells_blk hb7))) ?_
      rintro _ rfl; rw [han]
      refine AtT.kassign ?_
      refine AtT.done ?_
      refine At.nrm ?_
      refine At.condF rfl rfl ?_
      refine At.nrm ?_
      refine At.ktext (.q 0 .done) ?_
      refine AtT.kassign ?_
      refine AtT.done ?_
      refine At.nrm ?_
      exact At.ret1 rfl (.tmp rfl) (by rw [ccR_ok h0 h1 h2 h3])
theorem unclear_f (ts : List Tq) (V : View) (v : Value) (hs : Sl V tqe 4 v ts) : Fnc Tryz.prog 30 [v] V fun r _ => r = .tuple #[iv (unR ts).1, iv (unR ts).2] := by
  refine fn_of Tryz.func30 rfl Tryz.ntmps30 (Nat.le_of_ble_eq_true rfl) ?_
  intro w0 hw0
  refine At.nrm ?_
  refine At.ktext (.q 0 (.q 1 .done)) ?_
  refine AtT.kassign ?_
  refine AtT.kassign ?_
  refine AtT.done ?_
  refine At.nrm ?_
  by_cases h0 : trE ts = 0
  rotate_left
  · refine At.ktext (.q 0 (.n false 1 (.q 2 (.q 3 (.q 4 (.q 5 (.q 6 .done))))))) ?_
    refine AtT.kmove ?_
    refine AtT.kcallP rfl rfl ok57 (open_bad ts h0 _ _ hs) ?_
    rintro _ rfl
    refine AtT.kmove ?_
    refine AtT.kextract ?_
    refine AtT.kextract ?_
    refine AtT.kassign ?_
    refine AtT.kassign ?_
    refine AtT.done ?_
    refine At.nrm ?_
    refine At.ktext (.q 0 (.q 1 .done)) ?_
    refine AtT.kmove ?_
    refine AtT.kneI ?_
    refine AtT.done ?_
    refine At.nrm ?_
    refine At.condT rfl (decide_eq_true h0) ?_
    refine At.nrm ?_
    refine At.ktext (.q 0 (.q 1 (.q 2 .done))) ?_
    refine AtT.kmove ?_
    refine AtT.kassign ?_
    refine AtT.kassign ?_
    refine AtT.done ?_
    refine At.nrm ?_
    exact At.ret2 rfl (.tmp rfl) (.tmp rfl) (by rw [unR_tr h0])
  refine At.ktext (.q 0 (.n false 1 (.q 2 (.q 3 (.q 4 (.q 5 (.q 6 .done))))))) ?_
  refine AtT.kmove ?_
  refine AtT.kcall rfl rfl ok57 (open_ok ts h0 _ _ hs) ?_
  rintro _ V1 hV1 ⟨p, rfl, hb⟩
  refine AtT.kmove ?_
  refine AtT.kextract ?_
  refine AtT.kextract ?_
  refine AtT.kassign ?_
  refine AtT.kassign ?_
  refine AtT.done ?_
  refine At.nrm ?_
  refine At.ktext (.q 0 (.q 1 .done)) ?_
  refine AtT.kmove ?_
  refine AtT.kneI ?_
  refine AtT.done ?_
  refine At.nrm ?_
  refine At.condF rfl (decide_eq_false (by simp)) ?_
  obtain ⟨a2, c2, hc18, hsl⟩ := bc_left hb
  obtain ⟨a1, c1, hc26, hfl⟩ := bc_failed hb
  have hll := (fl_ls (clA ts) ts ts.length).1
  refine At.nrm ?_
  rcases un_same ts with ⟨h1, h2⟩ | ⟨n, m, h1, h2, h3, h4, h5⟩
  · refine At.ktext (.q 0 (.q 1 (.q 2 (.q 3 (.q 4 (.n false 5 (.q 6 .done))))))) ?_
    refine AtT.kmove ?_
    refine AtT.knil ?_
    first | refine AtT.kfieldO fo92_2 ?_ | with_reducible refine AtT.kfield2 fo92_2 ?_ | refine AtT.kfield fo92_2 ?_
    first | refine AtT.kloadO tk61 ?_ | refine AtT.kload tk61 ?_
    refine AtT.kbuild (bd86) ?_
    refine AtT.kcallP rfl rfl ok68 (indexS_f (lsL ts) 0 _ _ hsl) ?_
    rintro _ rfl; rw [h1]
    refine AtT.kassign ?_
    refine AtT.done ?_
    refine At.nrm ?_
    refine At.ktext (.q 0 (.q 1 .done)) ?_
    refine AtT.kmove ?_
    refine AtT.klss ?_
    refine AtT.done ?_
    refine At.nrm ?_
    refine At.condT rfl (decide_eq_true (by simp [ixI])) ?_
    refine At.nrm ?_
    refine At.ktext (.q 0 (.q 1 .done)) ?_
    refine AtT.kassign ?_
    refine AtT.kassign ?_
    refine AtT.done ?_
    refine At.nrm ?_
    exact At.ret2 rfl (.tmp rfl) (.tmp rfl) (by rw [unR_none h0 h2])
  · have h4' : n < (flL ts).length := by unfold flL lsL at *; omega
    refine At.ktext (.q 0 (.q 1 (.q 2 (.q 3 (.q 4 (.n false 5 (.q 6 .done))))))) ?_
    refine AtT.kmove ?_
    refine AtT.knil ?_
    first | refine AtT.kfieldO fo92_2 ?_ | with_reducible refine AtT.kfield2 fo92_2 ?_ | refine AtT.kfield fo92_2 ?_
    first | refine AtT.kloadO tk61 ?_ | refine AtT.kload tk61 ?_
    refine AtT.kbuild (bd86) ?_
    refine AtT.kcallP rfl rfl ok68 (indexS_f (lsL ts) 0 _ _ hsl) ?_
    rintro _ rfl; rw [h1]
    refine AtT.kassign ?_
    refine AtT.done ?_
    refine At.nrm ?_
    refine At.ktext (.q 0 (.q 1 .done)) ?_
    refine AtT.kmove ?_
    refine AtT.klss ?_
    refine AtT.done ?_
    refine At.nrm ?_
    refine At.condF rfl (decide_eq_false (by simp only [ixI]; omega)) ?_
    refine At.nrm ?_
    refine At.ktext (.q 0 (.q 1 (.q 2 (.q 3 (.q 4 (.q 5 (.q 6 (.q 7 (.q 8 .done))))))))) ?_
    refine AtT.kmove ?_
    refine AtT.knil ?_
    first | refine AtT.kfieldO fo92_1 ?_ | with_reducible refine AtT.kfield2 fo92_1 ?_ | refine AtT.kfield fo92_1 ?_
    first | refine AtT.kloadO tk38 ?_ | refine AtT.kload tk38 ?_
    refine AtT.kmove ?_
    have hix0 : ixI (some n) = (n : Int) := rfl
    rw [hix0]
    refine AtT.kidx Tryz.underlying38 tk3 ?_
    intro p28 e28 he28 hc28
    obtain rfl : e28 = (m : Int) := by have : (flL ts)[n]? = some e28 := (by simpa using he28); rw [h3] at this; simpa using this.symm
    first | refine AtT.kloadO tk3 ?_ | refine AtT.kload tk3 ?_
    refine AtT.kassign ?_
    refine AtT.kassign ?_
    refine AtT.done ?_
    refine At.nrm ?_
    exact At.ret2 rfl (.tmp rfl) (.tmp rfl) (by rw [unR_some h0 h2])
end Go.Proofs.YtfcpmblmklibjaaGreat
set_option linter.unusedVariables false
namespace Go.Proofs.YtfcpmblmklibjaaGreat
open Go.Lw Go.Gl Go.Bl Go.RowKit Go.Sort

theorem swo : SWO (ltOf cfS) := by
  have key : ∀ x y, ltOf cfS x y = decide (rvI (IntKind.u64.wrap (y : Int)) < rvI (IntKind.u64.wrap (x : Int))) := fun x y => by
    unfold ltOf cfS cpI
    rw [decide_eq_decide]
    split
    · simp [*]
    · split
      · simp; omega
      · simp; omega
  refine ⟨fun x => ?_, fun x y z h1 h2 => ?_, fun x y z h1 h2 => ?_⟩
  · rw [key]; simp
  · rw [key] at *; simp at *; omega
  · rw [key] at *; simp at *; omega
theorem flat_ste : ∀ l : List Nat, flat ste l = l.map fun (s : Nat) => iv (s : Int)
  | [] => rfl
  | x :: l => by
    have := flat_ste l
    simp only [flat] at this ⊢
    simp [this]
theorem flatK_ste (d : Array Nat) : flatK ste 1 d = (flat ste d.toList).toArray := by
  rw [flat_ste]
  apply Array.ext
  · simp [flatK]
  · intro t h1 h2
    simp only [flatK, Array.size_map, Array.size_range, Nat.mul_one] at h1
    simp only [flatK, Array.getElem_map, Array.getElem_range, Nat.div_one, Nat.mod_one, List.getElem_toArray, List.getElem_map, Array.getElem_toList]
    rw [getElem!_pos d t h1]
    rfl
/-- Sets that are sorted. -/
def SrtL (l : List Nat) : Prop := ∀ (i j : Nat) (x y : Nat), i < j → l[i]? = some x → l[j]? = some y → ltOf cfS y x = false
theorem sort_f (l : List Nat) (rest : List Value) (b cap : Nat) (w : World) (hb : w.heap[b]? = some (LC (flat ste l ++ rest) 86)) (hl : l.length < 4611686018427387904) :
    Calls Tryz.prog 87 #[.slice (some ⟨b, 0, none⟩) l.length cap, .func (.func 88) #[] #[]] w fun e w' => e = .returned (.tuple #[]) ∧ ∃ l' : List Nat, l'.Perm l ∧ SrtL l' ∧ w'.os = w.os ∧ w'.tape = w.tape ∧ w'.output = w.output ∧ w.heap.size ≤ w'.heap.size ∧ (∀ k, k < w.heap.size → k ≠ b → w'.heap[k]? = w.heap[k]?) ∧ w'.heap[b]? = some (LC (flat ste l' ++ rest) 86) := by
  have hbs : b < w.heap.size := (Array.getElem?_eq_some_iff.1 hb).1
  have eg : ∀ args w, (callFunc 88 args).run Tryz.prog w = .ok (.enter 88 args) w := enters_of Tryz.func88 (by kernel_rfl) rfl
  have hH : HoldsK ste 1 w b 0 l.toArray := by
    unfold HoldsK Holds
    rw [flatK_ste]
    intro j hj
    rw [List.size_toArray] at hj
    have hlen : (flat ste l).length = l.length * 1 := flat_len ste_len l
    refine ⟨?_, ?_⟩
    · rw [Nat.zero_add, cell_blk hb, List.getElem?_append_left hj, getElem!_pos _ _ (by simpa using hj)]
      simp
    · simp [World.frozen?, hb, LC]
  have hcon := AnyQ.slices_SortFunc srt 1 Tryz.isAgg86 Tryz.sizeOf86 ste (fun _ => rfl) (fun x v hv => by simp at hv; subst hv; rfl) cfS swo 88 #[] b 0 cap l.toArray w eg (fun _ _ _ _ x y => closure101 x y _) hH hbs (by simpa using hl)
  refine hcon.mono fun e w' ⟨he, d', n, os, hp, hs, hw⟩ => ?_
  obtain ⟨hp1, _, hp3⟩ := hp
  have hsz : d'.size = l.length := by rw [hp1]; simp
  have hpl : d'.toList.Perm l := by
    have e1 : (d'.extract 0 l.toArray.size) = d' := by rw [← hp1, Array.extract_size]
    have e2 : (l.toArray.extract 0 l.toArray.size) = l.toArray := Array.extract_size
    rw [e1, e2] at hp3
    exact hp3
  have hbw : b < w'.heap.size ∧ True := by
    subst hw; refine ⟨?_, trivial⟩
    show b < ((w.heap.modify b _) ++ os).size
    simp; omega
  refine ⟨he, d'.toList, hpl, fun i j x y hij hx hy => ?_, ?_, ?_, ?_, ?_, fun k hk hkb => ?_, ?_⟩
  · obtain ⟨hi', rfl⟩ := List.getElem?_eq_some_iff.1 hx
    obtain ⟨hj', rfl⟩ := List.getElem?_eq_some_iff.1 hy
    rw [Array.length_toList] at hi' hj'
    have := hs i j (Nat.zero_le _) hij (by simp; omega)
    rw [getElem!_pos d' i hi', getElem!_pos d' j hj'] at this
    exact this
  · subst hw; rfl
  · subst hw; rfl
  · subst hw; rfl
  · subst hw
    show w.heap.size ≤ ((w.heap.modify b _) ++ os).size
    simp
  · subst hw
    show ((w.heap.modify b _) ++ os)[k]? = _
    rw [Array.getElem?_append_left (by simpa using hk), Array.getElem?_modify, if_neg (fun h => hkb h.symm)]
  · subst hw
    show ((w.heap.modify b _) ++ os)[b]? = _
    rw [Array.getElem?_append_left (by simpa using hbs), Array.getElem?_modify, if_pos rfl, hb, flatK_ste]
    simp only [Option.map_some, onCells, LC]
    congr 2
    have hf1 := flat_len ste_len d'.toList
    have hf2 := flat_len ste_len l
    have hll : d'.toList.length = l.length := by simpa using hsz
    apply Array.ext
    · simp [putCells]; omega
    · intro t h1 h2
      simp only [putCells, Array.size_mapIdx, List.size_toArray] at h1
      simp only [putCells, Array.getElem_mapIdx, Nat.zero_le, true_and, Nat.zero_add, List.size_toArray, Nat.sub_zero, id]
      by_cases c : t < (flat ste d'.toList).length
      · rw [if_pos c, getElem!_pos _ _ (by simpa using c)]
        simp only [List.getElem_toArray]
        rw [List.getElem_append_left c]
      · rw [if_neg c]
        simp only [List.getElem_toArray]
        rw [List.getElem_append_right (by omega), List.getElem_append_right (by omega)]
        congr 1; omega
end Go.Proofs.YtfcpmblmklibjaaGreat
set_option linter.unusedVariables false
namespace Go.Proofs.YtfcpmblmklibjaaGreat
open Go.Lw Go.Gl Go.Bl Go.RowKit Go.Sort

theorem key72 : KeyL Tryz.prog 86 (fun s : Nat => stv s) where
  eq a b w := by
    have h := (eqS86 (a : Int) (b : Int)).2 w
    have e : decide ((a : Int) = (b : Int)) = decide (a = b) := by rw [decide_eq_decide]; omega
    rw [e] at h
    exact h
  ck e a w := by
    have u3 := Tryz.underlying3
    have a3 := Tryz.isAgg3
    have z3 := Tryz.sizeOf3
    have ci : ∀ (x : Int) (w : World), (Instr.checkKey e 9999 3 (.int .i64 x)).run Tryz.prog w = .ok () w := fun x w => by
      rw [show (9999 : Nat) = 9998 + 1 from rfl, Instr.checkKey]
      simp [run_underlying u3, Sem.run_bind, Result.andThen_ok, Sem.run_pure]
    rw [show (10000 : Nat) = 9999 + 1 from rfl, Instr.checkKey]
    simp only [Sem.run_bind, run_underlying Tryz.underlying86, Result.andThen_ok]
    rw [← Array.forIn_toList]
    simp only [List.forIn_cons, List.forIn_nil, Sem.run_bind, Sem.run_pure, Result.andThen_ok]
    generalize (9999 : Nat) = q at ci ⊢
    go_simp
  sb a := by simp [Instr.sameBits]
  now := ⟨_, Tryz.underlying86, .inl fun a b => rfl⟩
theorem AtT.sortS {cx : Cx} {n : Nat} {ks : List (Nat × Value)} {O R : List Own} {V : View} {ops : Array Oper} {Qn : Act → World → Prop} {t : Tr} {i d : Nat} {T : TypeId} {pos : String} {after : Array Edge} {gd : Option (Nat × Bool)} {x y : Operand} {ts : Array TypeId} {b cap : Nat} {l : List Nat} {rest : List Value}
    (ho : ops[i]? = some ⟨some d, .call ⟨.value (.func 87), #[x, y], ts⟩, T, pos, after, gd⟩) (hg : Gd ks ops gd) (hx : ev ks x = some (.slice (some ⟨b, 0, none⟩) l.length cap)) (hy : ev ks y = some (.func (.func 88) #[] #[])) (hl : l.length < 4611686018427387904) (hp : Pick (.blk b (LC (flat ste l ++ rest) 86)) O R) (hn : d < n)
    (next : ∀ l' : List Nat, l'.Perm l → SrtL l' → AtT cx n ((d, .tuple #[]) :: ks) (.blk b (LC (flat ste l' ++ rest) 86) :: R) V Tryz.prog ops Qn t) : AtT cx n ks O V Tryz.prog ops Qn (.n true i t) :=
  .x ho hg fun a w hk hm => by
    have hm1 := hm.pick hp
    have e : (#[x, y] : Array Operand).map a.eval = #[.slice (some ⟨b, 0, none⟩) l.length cap, .func (.func 88) #[] #[]] := by simp [hk.ev hx, hk.ev hy]
    have e2 : a.eval (.func 87) = .func (.func 87) #[] #[] := rfl
    simp only [opW, execOp, resolve, e, e2, Deferred.ofValue, Sem.run_bind, Sem.run_pure, Result.andThen_ok, invoke, Array.empty_append, Array.append_empty]
    rw [ok87 _ w]
    refine (sort_f l rest b cap w hm1.blk hl).mono fun e w' ⟨h0, l', h1, h2, h3, h4, h5, h6, h7, h8⟩ => ?_
    subst h0
    have hm2 := hm1.set (w' := w') ⟨h3, h4, h5, h6, fun k hk hne => h7 k hk (fun e => hne (by rw [e]))⟩ h8
    exact ⟨_, _, V, hk.put hn _, hm2, fun h => (by cases h), next l' h1 h2⟩
end Go.Proofs.YtfcpmblmklibjaaGreat
set_option linter.unusedVariables false
namespace Go.Lw
open Go.RowKit

section
variable {cx : Cx} {O R : List Own} {V : View} {w : World}
theorem Mem.rowFacts {a0 : Option Addr} {e : TypeId} {s m c0 : Nat} {xs : List Value} (h : Mem cx (.row (.slice a0 m c0) e s m xs :: O) V w) : m ≤ c0 ∧ c0 ≤ maxLen ∧ xs.length = m * s ∧ (a0 = none → m = 0) := by
  obtain ⟨fp, ⟨f, g, rfl, ⟨rfl, hr⟩, hl⟩, h2, h3⟩ := h.own
  rcases hr.2 with ⟨e1, rfl⟩ | ⟨b, cap, cur, e1, hb, hh, hnc, hcm, hcs, htake⟩
  · cases e1; exact ⟨Nat.le_refl _, Nat.zero_le _, hr.1, fun _ => rfl⟩
  · cases e1; exact ⟨hnc, hcm, hr.1, fun h => by cases h⟩
theorem Mem.rowCells {p : Addr} {e : TypeId} {s m c0 : Nat} {xs : List Value} (h : Mem cx (.row (.slice (some p) m c0) e s m xs :: O) V w) : ∀ j u, xs[j]? = some u → w.cell? (p.add j) = some u := by
  obtain ⟨fp, ⟨f, g, rfl, ⟨rfl, hr⟩, hl⟩, h2, h3⟩ := h.own
  rcases hr.2 with ⟨e1, rfl⟩ | ⟨b, cap, cur, e1, hb, hh, hnc, hcm, hcs, htake⟩
  · cases e1
  · cases e1; exact hr.cells (g := b) rfl
theorem Mem.blkRow {b cap n : Nat} {e : TypeId} {s : Nat} {cs : Array Value} {xs : List Value} (h : Mem cx (.blk b (.cells cs e (0, 0)) :: O) V w) (hx : xs.length = n * s) (hs : cs.size = cap * s) (ht : cs.toList.take (n * s) = xs) (hn : n ≤ cap) (hc : cap ≤ maxLen) :
    Mem cx (.row (.slice (some ⟨b, 0, none⟩) n cap) e s n xs :: O) V w := by
  obtain ⟨fp, ⟨f, g, rfl, ⟨rfl, hb, hh⟩, hl⟩, h2, h3⟩ := h.own
  exact ⟨h.below, h.le0, h.fresh, h.view, [b] ++ g, ⟨[b], g, rfl, ⟨rfl, hx, .inr ⟨b, cap, cs, rfl, hb, hh, hn, hc, hs, ht⟩⟩, hl⟩, h2, h3⟩
theorem Mem.rowBlk2 {v : Value} {e : TypeId} {s n : Nat} {xs : List Value} (h : Mem cx (.row v e s n xs :: O) V w) (hn : n ≠ 0) :
    ∃ b cap rest, v = .slice (some ⟨b, 0, none⟩) n cap ∧ n ≤ cap ∧ cap ≤ maxLen ∧ (xs ++ rest).length = cap * s ∧ Mem cx (.blk b (LC (xs ++ rest) e) :: O) V w := by
  obtain ⟨fp, ⟨f, g, rfl, ⟨rfl, hr⟩, hl⟩, h2, h3⟩ := h.own
  rcases hr.2 with ⟨rfl, hn0⟩ | ⟨b, cap, cur, rfl, hb, hh, hnc, hcm, hcs, htake⟩
  · exact absurd hn0 hn
  · have hcat : xs ++ cur.toList.drop (n * s) = cur.toList := by rw [← htake, List.take_append_drop]
    refine ⟨b, cap, cur.toList.drop (n * s), rfl, hnc, hcm, by rw [hcat]; simpa using hcs, ?_⟩
    have hcur : (LC (xs ++ cur.toList.drop (n * s)) e : Obj) = .cells cur e (0, 0) := by
      show Obj.cells _ e (0, 0) = Obj.cells cur e (0, 0)
      congr 1
      rw [hcat]
    rw [hcur]
    exact ⟨h.below, h.le0, h.fresh, h.view, [b] ++ g, ⟨[b], g, rfl, ⟨rfl, hb, hh⟩, hl⟩, by simpa [Value.ownBlock] using h2, by simpa [Value.ownBlock] using h3⟩
end
section
variable {cx : Cx} {n : Nat} {ks : List (Nat × Value)} {O R : List Own} {V : View} {w : World} {K : Act → World → Prop}
/-- A row of the call's own as a block; and back. -/
theorem At.rowBlk2 {v : Value} {e : TypeId} {s m : Nat} {xs : List Value} (hp : Pick (.row v e s m xs) O R) (hm : m ≠ 0)
    (h : ∀ b cap rest, v = .slice (some ⟨b, 0, none⟩) m cap → m ≤ cap → cap ≤ maxLen → (xs ++ rest).length = cap * s → At cx n ks (.blk b (LC (xs ++ rest) e) :: R) V K) : At cx n ks O V K := fun a w hk hmm => by
  obtain ⟨b, cap, rest, h1, h2, h3, h4, h5⟩ := (hmm.pick hp).rowBlk2 hm
  exact h b cap rest h1 h2 h3 h4 a w hk h5
theorem At.blkRow {b m cap : Nat} {e : TypeId} {s : Nat} {xs rest : List Value} (hp : Pick (.blk b (LC (xs ++ rest) e)) O R) (hl : (xs ++ rest).length = cap * s) (hx : xs.length = m * s) (h1 : m ≤ cap) (h2 : cap ≤ maxLen)
    (h : At cx n ks (.row (.slice (some ⟨b, 0, none⟩) m cap) e s m xs :: R) V K) : At cx n ks O V K := fun a w hk hmm =>
  h a w hk ((hmm.pick hp).blkRow hx (by simpa using hl) (by rw [← hx]; exact List.take_left) h1 h2)
end
section
variable {cx : Cx} {n : Nat} {ks : List (Nat × Value)} {O R : List Own} {V : View} {P : Program} {ops : Array Oper} {Qn : Act → World → Prop} {t : Tr} {i d : Nat} {T : TypeId} {pos : String} {after : Array Edge} {gd : Option (Nat × Bool)} {x y : Operand} {wr : Bool}
/-- x[:len(x):len(x)] of a row of the call's own. -/
theorem AtT.clipR {X E : TypeId} {s m c0 : Nat} {ag : Bool} {a0 : Option Addr} {xs : List Value} {h' m' : Operand} {k k2 : IntKind} {z z2 : Int} (ho : ops[i]? = some ⟨some d, .slice X x none (some h') (some m'), T, pos, after, gd⟩) (hg : Gd ks ops gd) (hX : P.underlying X = some (.slice E)) (hE : tkB P E = some (ag, s))
    (hx : ev ks x = some (.slice a0 m c0)) (hp : Pick (.row (.slice a0 m c0) E s m xs) O R) (hh : ev ks h' = some (.int k z)) (hm' : ev ks m' = some (.int k2 z2)) (hz : z = (m : Int)) (hz2 : z2 = (m : Int)) (hn : d < n)
    (next : AtT cx n ((d, .slice a0 m m) :: ks) O V P ops Qn t) : AtT cx n ks O V P ops Qn (.q i t) := by
  subst hz hz2
  refine .q (v := .slice a0 m m) ho hg rfl hn (fun b w hk hm => ?_) next
  obtain ⟨f1, f2, f3, f4⟩ := (hm.pick hp).rowFacts
  have hX' : P.underlying X = some (.slice (P.elem X)) := by simp [Program.elem, hX]
  have hEl : P.elem X = E := by simp [Program.elem, hX]
  simp only [execOp, hk.ev hx, hk.ev hh, hk.ev hm', Option.map_none, Option.map_some, Sem.run_bind, run_sliceAt_slice w X _ _ _ _ hX']
  rw [run_slice_hm w X a0 m c0 hX' k k2 (m : Int) (m : Int) (Int.natCast_nonneg m) (Int.le_refl _) (by omega), hEl, run_sizeOf hE]
  simp only [Result.andThen_ok, Sem.run_pure, sliced, Int.toNat_natCast, Nat.zero_mul, Nat.sub_zero]
  congr 3
  split
  · rfl
  · cases a0 <;> simp [Addr.add]

/-- append onto a row of the call's own that is clipped: a new row. -/
theorem AtT.appendR {X E : TypeId} {z : Value} {s by_ m c0 k c : Nat} {a0 : Option Addr} {xs news : List Value} {q : Addr} (ho : ops[i]? = some ⟨some d, .call ⟨.builtin .append, #[x, y], #[X, X]⟩, T, pos, after, gd⟩) (hg : Gd ks ops gd) (hX : P.underlying X = some (.slice E)) (hE : rowB P E = some (z, s, by_)) (hzs : z.cells.size = s) (hs : 0 < s)
    (hx : ev ks x = some (.slice a0 m m)) (hy : ev ks y = some (.slice (some q) k c)) (hp : Pick (.row (.slice a0 m c0) E s m xs) O R) (hc : Cells V q news) (hl : news.length = k * s) (h0 : 0 < k) (hb : m + k ≤ maxLen) (hby : (m + k) * by_ ≤ 140737488355328) (hn : d < n)
    (next : ∀ a cap, AtT cx n ((d, .slice a (m + k) cap) :: ks) (.row (.slice a (m + k) cap) E s (m + k) (xs ++ news) :: R) V P ops Qn t) : AtT cx n ks O V P ops Qn (.n true i t) :=
  .x ho hg fun a w hk hm => by
    have hm1 := hm.pick hp
    obtain ⟨f1, f2, f3, f4⟩ := hm1.rowFacts
    obtain ⟨ti, hi, hz, hsz, hbz⟩ := rowB_info hE
    have hlen : (xs ++ news).length = (m + k) * s := by rw [List.length_append, f3, hl, Nat.add_mul]
    have hnews := hc.run hm.view
    have fin : ∀ (cs : Array Value) (cap : Nat), m + k ≤ cap → cap ≤ maxLen → cs.size = cap * s → cs.toList.take ((m + k) * s) = xs ++ news → ∃ ks' O' V', Kn cx n ks' (a.put (some d) (.slice (some ⟨w.heap.size, 0, none⟩) (m + k) cap)) ∧ Mem cx O' V' (w.drew.alloc (.cells cs E)) ∧ (true = false → ∀ u, Mem cx O' V' u → Mem cx O V u) ∧ AtT cx n ks' O' V' P ops Qn t := fun cs cap h1 h2 h3 h4 => by
      have hd : Mem cx R V w.drew := hm1.drop.ext (Below.refl _ w).drew
      have ha := hd.alloc (.cells cs E (0, 0))
      exact ⟨_, _, V, hk.put hn _, ha.blkRow hlen h3 h4 h1 h2, fun h => (by cases h), next _ cap⟩
    simp only [opW, execOp, resolve, invoke, builtin, Sem.run_bind, Sem.run_pure, Result.andThen_ok, List.map_toArray, List.map_cons, List.map_nil, hk.ev hx, hk.ev hy]
    cases a0 with
    | none =>
      obtain rfl := f4 rfl
      obtain rfl : xs = [] := List.eq_nil_of_length_eq_zero (by rw [f3]; simp)
      have hr := run_append_nil (P := P) w X T E ti z hX hi hz q k c news (by rw [hl, hsz]) hnews h0 (by simp only [maxLen] at hb; simp at hb; omega) (by rw [hbz]; simp at hby; omega)
      simp only [hr, Result.andThen_ok]
      have := fin (news.toArray ++ Builtin.zeroCells z.cells (grownCap w k 0 E - k)) (grownCap w k 0 E) (by simpa using grownCap_ge w k 0 E) (grownCap_le_maxLen w _ _ _ (by simpa using hb)) (by
          have hge := grownCap_ge w k 0 E
          simp only [Array.size_append, List.size_toArray, size_zeroCells, hzs, hl, ← Nat.add_mul]
          congr 1; omega) (by
          rw [← hlen, List.nil_append, Array.toList_append]; exact List.take_left)
      simpa using this
    | some p =>
      have hr := run_append_grow (P := P) w X T E ti z hX hi hz p m m xs (by rw [hsz]; exact f3) hm1.rowCells q k c news (by rw [hl, hsz]) hnews (by omega) (by simp only [maxLen] at hb; omega) (growslice_fits (by omega) (by rw [hbz]; exact hby))
      simp only [hr, Result.andThen_ok]
      refine fin _ _ (grownCap_ge w _ _ _) (grownCap_le_maxLen w _ _ _ hb) ?_ ?_
      · have hge := grownCap_ge w (m + k) m E
        simp only [Array.size_append, List.size_toArray, size_zeroCells, hzs, f3, hl, ← Nat.add_mul]
        congr 1; omega
      · rw [← hlen, Array.toList_append, Array.toList_append]; exact List.take_left
end
theorem flat_cut {α : Type} {enc : α → List Value} {s : Nat} (he : ∀ x, (enc x).length = s) : ∀ (l : List α) (i : Nat) (x : α) (rest : List Value), l[i]? = some x → ((flat enc l ++ rest).drop (i * s)).take s = enc x
  | [], _, _, _, h => by simp at h
  | y :: l, 0, x, rest, h => by
    obtain rfl : y = x := by simpa using h
    have e : flat enc (y :: l) ++ rest = enc y ++ (flat enc l ++ rest) := by simp [flat]
    rw [e, Nat.zero_mul, List.drop_zero, ← he y]
    exact List.take_left
  | y :: l, i + 1, x, rest, h => by
    have e : flat enc (y :: l) ++ rest = enc y ++ (flat enc l ++ rest) := by simp [flat]
    have e2 : (i + 1) * s = (enc y).length + i * s := by rw [he y, Nat.add_one_mul]; omega
    rw [e, e2, ← List.drop_drop, List.drop_left]
    exact flat_cut he l i x rest (by simpa using h)
section
variable {cx : Cx} {n : Nat} {ks : List (Nat × Value)} {O R : List Own} {V : View} {P : Program} {ops : Array Oper} {Qn : Act → World → Prop} {t : Tr} {i d : Nat} {T : TypeId} {pos : String} {after : Array Edge} {gd : Option (Nat × Bool)} {x y : Operand} {X Z : TypeId} {p q : Int}
theorem AtT.shrU {A N : Nat} {k : IntKind} (ho : ops[i]? = some ⟨some d, .binOp .shr X x y Z, T, pos, after, gd⟩) (hg : Gd ks ops gd) (hx : ev ks x = some (.int .u64 p)) (hy : ev ks y = some (.int k q)) (hp : p = (A : Int)) (hq : q = (N : Int)) (hN : N ≤ 61) (hn : d < n)
    (next : AtT cx n ((d, .int .u64 ((A >>> N : Nat) : Int)) :: ks) O V P ops Qn t) : AtT cx n ks O V P ops Qn (.q i t) :=
  .q ho hg rfl hn (fun a w hk _ => by
    subst hp hq
    have hr : Op.shift .shr .u64 (A : Int) k (N : Int) = (pure (.int .u64 ((A >>> N : Nat) : Int)) : Sem Value) := by
      unfold Op.shift
      rw [if_neg (by omega)]
      have e : min ((N : Int).toNat) IntKind.u64.bits = N := by show min ((N : Int).toNat) 64 = N; omega
      have e2 : (A : Int).fdiv (2 ^ N) = ((A >>> N : Nat) : Int) := by
        rw [Int.fdiv_eq_ediv_of_nonneg _ (Int.le_of_lt (Int.pow_pos (by decide))), Nat.shiftRight_eq_div_pow, Int.natCast_ediv, Int.natCast_pow]; rfl
      simp only [e, e2]
    simp only [execOp, hk.ev hx, hk.ev hy, eqGuard_shr, binOp_shr, hr, Sem.run_bind, Sem.run_pure, Result.andThen_ok]) next
theorem wrapU {A : Nat} (h : A < 18446744073709551616) : IntKind.u64.wrap (A : Int) = (A : Int) := by
  simp [IntKind.wrap, IntKind.bits, IntKind.signed]; omega
end
/-- An append of nothing. -/
theorem run_append_zero {P : Program} (w : World) (t ty e : TypeId) (i : TypeInfo) (ht : P.underlying t = some (.slice e)) (hi : P.info? e = some i) (base a2 : Option Addr) (n cap c2 : Nat) (hle : n ≤ cap) :
    (Builtin.append_ #[t, t] ty #[.slice base n cap, .slice a2 0 c2]).run P w = .ok (.slice base n cap) w := by
  cases a2 with
  | none => cases base <;> simp [Builtin.append_, run_underlying ht, sizeOf, typeInfo, hi, Builtin.lenOf, Builtin.firstCells, hle, storeCells]
  | some p =>
    have hf := run_firstCells_some (P := P) w i.size 0 p 0 c2 [] (by simp) (by simp)
    cases base <;> simp [Builtin.append_, run_underlying ht, sizeOf, typeInfo, hi, Builtin.lenOf, hf, hle, storeCells]
section
variable {cx : Cx} {n : Nat} {ks : List (Nat × Value)} {O R : List Own} {V : View} {P : Program} {ops : Array Oper} {Qn : Act → World → Prop} {t : Tr} {i d : Nat} {T : TypeId} {pos : String} {after : Array Edge} {gd : Option (Nat × Bool)} {x y : Operand} {wr : Bool}
/-- A new row of nothing, that is not nil. -/
theorem AtT.bsliceR0 {X E : TypeId} {s : Nat} {ps : List (Nat × Operand)} {vs : List (Nat × Value)} (ho : ops[i]? = some ⟨some d, .buildSlice X 0 ps.toArray, T, pos, after, gd⟩) (hg : Gd ks ops gd) (hp : evp ks ps = some vs)
    (hr : ∀ w, (Instr.buildSlice X 0 vs.toArray).run P w = .ok (.slice (some ⟨w.heap.size, 0, none⟩) 0 0) (w.alloc (LC [] E))) (hn : d < n)
    (next : ∀ b, AtT cx n ((d, .slice (some ⟨b, 0, none⟩) 0 0) :: ks) (.row (.slice (some ⟨b, 0, none⟩) 0 0) E s 0 [] :: O) V P ops Qn t) : AtT cx n ks O V P ops Qn (.n wr i t) :=
  .x ho hg fun a w hk hm => by
    have e : (ps.toArray.map fun (j, o) => (j, a.eval o)) = vs.toArray := by rw [← evp_map hk ps vs hp]; simp
    simp only [opW, execOp, e, Sem.run_bind, hr, Result.andThen_ok, Sem.run_pure]
    have ha := hm.alloc (LC [] E)
    exact ⟨_, _, V, hk.put hn _, Mem.blkRow (s := s) (xs := []) (cs := ⟨[]⟩) ha (by simp) (by simp) (by simp) (Nat.le_refl _) (Nat.zero_le _), fun _ u hu => hu.drop, next _⟩
/-- append of a whole slice, that may be empty, onto a row of the call's own. -/
theorem AtT.appendRS {α : Type} {enc : α → List Value} {m : List α} {X E : TypeId} {z : Value} {s by_ n0 c0 : Nat} {a0 : Option Addr} {xs : List Value} {v : Value} (ho : ops[i]? = some ⟨some d, .call ⟨.builtin .append, #[x, y], #[X, X]⟩, T, pos, after, gd⟩) (hg : Gd ks ops gd) (hX : P.underlying X = some (.slice E)) (hE : rowB P E = some (z, s, by_)) (hzs : z.cells.size = s) (hs : 0 < s)
    (hx : ev ks x = some (.slice a0 n0 c0)) (hy : ev ks y = some v) (hp : Pick (.row (.slice a0 n0 c0) E s n0 xs) O R) (hv : Sl V enc s v m) (he : ∀ x, (enc x).length = s) (h1 : ∀ x, (enc x).all Value.oneCell' = true) (hb : n0 + m.length ≤ maxLen) (hby : (n0 + m.length) * by_ ≤ 140737488355328) (hn : d < n)
    (next : ∀ a cap, AtT cx n ((d, .slice a (n0 + m.length) cap) :: ks) (.row (.slice a (n0 + m.length) cap) E s (n0 + m.length) (xs ++ flat enc m) :: R) V P ops Qn t) : AtT cx n ks O V P ops Qn (.n true i t) := by
  have hv' := hv
  obtain ⟨a2, c2, rfl, k1, k2, k3, k4⟩ := hv
  cases m with
  | nil =>
    refine .x ho hg fun a w hk hm => ?_
    have hm1 := hm.pick hp
    obtain ⟨f1, f2, f3, f4⟩ := hm1.rowFacts
    obtain ⟨ti, hi, hz, hsz, hbz⟩ := rowB_info hE
    have hr := run_append_zero (P := P) w X T E ti hX hi a0 a2 n0 c0 c2 f1
    simp only [opW, execOp, resolve, invoke, builtin, Sem.run_bind, Sem.run_pure, Result.andThen_ok, List.map_toArray, List.map_cons, List.map_nil, hk.ev hx, hk.ev hy, List.length_nil, hr]
    have := next a0 c0
    simp only [List.length_nil, Nat.add_zero, flat, List.flatMap_nil, List.append_nil] at this
    exact ⟨_, _, V, hk.put hn _, hm1, fun h => (by cases h), this⟩
  | cons q l =>
    obtain ⟨p2, rfl⟩ : ∃ p, a2 = some p := by
      have := k3 (by simp)
      cases a2 with
      | none => cases this
      | some p => exact ⟨p, rfl⟩
    exact AtT.append ho hg hX hE hzs hs hx hy hp (Sl.cells he hv') (flat_len he _) (flat_all1 h1 _) hb hby hn next
end
end Go.Lw
set_option linter.unusedVariables false
namespace Go.Proofs.YtfcpmblmklibjaaGreat
open Go.Lw Go.Gl Go.Bl Go.RowKit

theorem min_f (l : List Int) (hl : l ≠ []) (V : View) (v : Value) (hs : SlI V v l) : Fnc Tryz.prog 86 [v] V fun r _ => ∃ m, r = iv m ∧ m ∈ l ∧ ∀ x ∈ l, m ≤ x := by
  have hlen := hs.lenLe
  have hpos : 0 < l.length := List.length_pos_iff.2 hl
  obtain ⟨a, c, rfl, k1, k2, _⟩ := id hs
  clear k1 k2
  refine fn_of Tryz.func86 rfl Tryz.ntmps86 (Nat.le_of_ble_eq_true rfl) ?_
  intro w0 hw0
  refine At.nrm ?_
  refine At.ktext (.q 0 .done) ?_
  refine AtT.kassign ?_
  refine AtT.done ?_
  refine At.nrm ?_
  refine At.ktext (.q 0 (.q 1 (.q 2 .done))) ?_
  refine AtT.kmove ?_
  first | refine AtT.klenS Tryz.underlying38 ?_ | refine AtT.klenR Tryz.underlying38 ?_
  refine AtT.klss ?_
  refine AtT.done ?_
  refine At.nrm ?_
  refine At.condF rfl (decide_eq_false (by omega)) ?_
  refine At.nrm ?_
  refine At.ktext (.q 0 (.q 1 (.q 2 (.q 3 .done)))) ?_
  refine AtT.kmove ?_
  refine AtT.kidx Tryz.underlying38 tk3 ?_
  intro p10 e10 he10 hc10
  first | refine AtT.kloadO tk3 ?_ | refine AtT.kload tk3 ?_
  refine AtT.kassign ?_
  refine AtT.done ?_
  refine At.nrm ?_
  have hm0 : e10 ∈ l := List.mem_of_getElem? he10
  have h0 : l[0]? = some e10 := by simpa using he10
  refine At.ktext (.q 0 .done) ?_
  refine AtT.kassign ?_
  refine AtT.done ?_
  refine At.nrm ?_
  refine At.lp (ι := Nat × Int) (KS := fun g => [(0, .slice a l.length c), (3, iv g.2), (4, iv g.1)]) (OS := fun _ => []) (VS := fun g V' => V' = V ∧ g.1 ≤ l.length ∧ g.2 ∈ l ∧ ∀ (j : Nat) (x : Int), j < g.1 → l[j]? = some x → g.2 ≤ x) (μ := fun g => l.length - g.1) (1, e10) ?_ ?_ ?_ ?_
  · exact ⟨rfl, rfl, rfl, trivial⟩
  · exact Pt.auto
  · refine ⟨rfl, hpos, hm0, fun j x hj hx => ?_⟩
    obtain rfl : j = 0 := by dsimp only at hj; omega
    rw [h0] at hx; cases hx; exact Int.le_refl _
  · rintro ⟨k, m⟩ V' ks' O' ⟨rfl, hkl, hm, hok⟩ hk hO hl2
    dsimp only at hkl hm hok hk hO
    subst hk hO
    refine At.nrm ?_
    refine At.ktext (.q 0 (.q 1 (.q 2 (.q 3 .done)))) ?_
    refine AtT.kmove ?_
    refine AtT.kmove ?_
    first | refine AtT.klenS Tryz.underlying38 ?_ | refine AtT.klenR Tryz.underlying38 ?_
    refine AtT.klss ?_
    refine AtT.done ?_
    refine At.nrm ?_
    refine At.condP rfl (fun hp => ?_) (fun hp => ?_)
    · obtain ⟨x, hx⟩ : ∃ x, l[k]? = some x := ⟨_, List.getElem?_eq_getElem (by omega)⟩
      refine At.nrm ?_
      refine At.ktext (.q 0 (.q 1 (.q 2 (.q 3 (.q 4 (.q 5 (.q 6 .done))))))) ?_
      refine AtT.kmove ?_
      refine AtT.kmove ?_
      refine AtT.kmove ?_
      refine AtT.kidx Tryz.underlying38 tk3 ?_
      intro p21 e21 he21 hc21
      obtain rfl : e21 = x := by have : l[k]? = some e21 := (by simpa using he21); rw [hx] at this; simpa using this.symm
      first | refine AtT.kloadO tk3 ?_ | refine AtT.kload tk3 ?_
      refine AtT.kmin2 ?_
      refine AtT.kassign ?_
      refine AtT.done ?_
      refine At.nrm ?_
      refine At.ktext (.q 0 (.q 1 (.q 2 .done))) ?_
      refine AtT.kmove ?_
      first | refine AtT.kadd ?_ | refine AtT.kaddW ?_
      refine AtT.kassign ?_
      refine AtT.done ?_
      refine At.nrm ?_
      refine At.round (k + 1, min m e21) ?_ ?_ ?_ ?_
      · show l.length - (k + 1) < l.length - k; omega
      · refine ⟨rfl, by dsimp only; omega, ?_, fun j y hj hy => ?_⟩
        · show min m e21 ∈ l
          by_cases c : m ≤ e21
          · rw [Int.min_eq_left c]; exact hm
          · rw [Int.min_eq_right (by omega)]; exact List.mem_of_getElem? hx
        · show min m e21 ≤ y
          dsimp only at hj
          by_cases hjk : j = k
          · subst hjk; rw [hx] at hy; cases hy; omega
          · have := hok j y (by omega) hy; omega
      · exact ⟨rfl, rfl, ivs (by dsimp only; omega), trivial⟩
      · exact Pt.auto
    · obtain rfl : k = l.length := by omega
      refine At.nrm ?_
      refine At.ktext (.q 0 (.q 1 .done)) ?_
      refine AtT.kmove ?_
      refine AtT.kassign ?_
      refine AtT.done ?_
      refine At.nrm ?_
      exact At.ret1 rfl (.tmp rfl) ⟨m, rfl, hm, fun x hx => by obtain ⟨j, hj, rfl⟩ := List.getElem_of_mem hx; exact hok j _ hj (List.getElem?_eq_getElem hj)⟩
abbrev mO (M : MM Nat Int) (c : Nat) : Obj := mobj (fun s : Nat => stv s) (fun n : Int => iv n) M c
/-- The smallest explanations. -/
theorem smallest_f (ts : List Tq) (ht : ∀ t ∈ ts, sndB t.p = true) (h16 : ts.length ≤ 16) (hz : (lsL ts).any (· == 0) = false) (V : View) (p : Addr) (hb : BcV V p ts) : Fnc Tryz.prog 77 [.pointer (some p)] V fun r V' => ∃ l, Sl V' ste 1 r l ∧ SmS (lsL ts) SrtL l := by
  obtain ⟨a2, c2, hc26, hsl⟩ := bc_left hb
  have hlt := ls_lt (no := clA ts) ht ts.length
  have hfl := fl_ls (clA ts) ts ts.length
  have hne : ∀ s ∈ lsL ts, s ≠ 0 ∧ s < 32768 := fun s hs => ⟨fun e => by rw [List.any_eq_false] at hz; exact hz s hs (by rw [e]; rfl), hlt s hs⟩
  obtain ⟨ls, hls⟩ : ∃ ls, ls = lsL ts := ⟨_, rfl⟩
  have hln : ls.length ≤ 16 := by rw [hls]; unfold lsL; omega
  rw [← hls] at hc26 hsl hne ⊢
  refine fn_of Tryz.func77 rfl Tryz.ntmps77 (Nat.le_of_ble_eq_true rfl) ?_
  intro w0 hw0
  refine At.nrm ?_
  refine At.ktext (.q 0 .done) ?_
  refine AtT.kassign ?_
  refine AtT.done ?_
  refine At.nrm ?_
  refine At.ktext (.n false 0 (.q 1 (.n true 2 (.q 3 (.q 4 .done))))) ?_
  refine AtT.makeMap rfl trivial (fun s : Nat => stv s) (fun n : Int => iv n) (by decide) ?_
  intro b20
  refine AtT.kbuild (bd86) ?_
  refine AtT.insNew rfl trivial key72 0 (0 : Int) Tryz.underlying113 rfl rfl rfl rfl (by repeat (first | exact Upd.here | apply Upd.there)) ?_
  refine AtT.kmove ?_
  refine AtT.kassign ?_
  refine AtT.done ?_
  refine At.nrm ?_
  refine At.ktext (.q 0 (.q 1 (.q 2 (.q 3 (.q 4 (.q 5 .done)))))) ?_
  refine AtT.kmove ?_
  refine AtT.knil ?_
  first | refine AtT.kfieldO fo92_2 ?_ | with_reducible refine AtT.kfield2 fo92_2 ?_ | refine AtT.kfield fo92_2 ?_
  first | refine AtT.kloadO tk61 ?_ | refine AtT.kload tk61 ?_
  first | refine AtT.klenS Tryz.underlying61 ?_ | refine AtT.klenR Tryz.underlying61 ?_
  refine AtT.kmove ?_
  refine AtT.done ?_
  refine At.nrm ?_
  refine At.lp (ι := Nat × Nat × MM Nat Int × Nat) (KS := fun g => [(3, .map (some g.2.1)), (26, .slice a2 ls.length c2), (27, iv ls.length), (28, iv g.1)]) (OS := fun g => [.blk g.2.1 (mO g.2.2.1 g.2.2.2)])
    (VS := fun g V' => Le V V' ∧ g.1 ≤ ls.length ∧ MI g.2.2.1 g.2.2.2 ∧ ∀ x, mhas x g.2.2.1 = true ↔ GsK ls g.1 x) (μ := fun g => ls.length - g.1) (0, b20, [(0, 0, 0)], 1) ?_ ?_ ?_ ?_
  · exact ⟨rfl, rfl, rfl, rfl, trivial⟩
  · exact Pt.auto
  · refine ⟨Le.refl _, Nat.zero_le _, ⟨fun e h => ?_, by simp, by simp, fun e h => ?_, fun e h => ?_⟩, fun x => ?_⟩
    · rw [List.mem_singleton] at h; subst h; simp
    · rw [List.mem_singleton] at h; subst h; simp [cnt_zero]
    · rw [List.mem_singleton] at h; subst h; simp
    · simp [mhas, GsK]
  rintro ⟨k, b, M, c⟩ V' ks' O' ⟨hVV, hkl, hmi, hmem⟩ hk hO hl2
  dsimp only at hkl hmi hmem hk hO
  subst hk hO
  have hsl1 := hsl.le hVV
  refine At.nrm ?_
  refine At.ktext (.q 0 .done) ?_
  refine AtT.klss ?_
  refine AtT.done ?_
  refine At.nrm ?_
  refine At.condP rfl (fun hp => ?_) (fun hp => ?_)
  · obtain ⟨t, hx⟩ : ∃ t, ls[k]? = some t := ⟨_, List.getElem?_eq_getElem (by omega)⟩
    have hgt : ls.getD k 0 = t := by simp [List.getD, hx]
    have htb := (hne t (List.mem_of_getElem? hx)).2
    refine At.nrm ?_
    refine At.ktext (.q 0 (.q 1 (.n false 2 (.n true 3 .done)))) ?_
    refine AtT.kidx Tryz.underlying61 tk86 ?_
    intro p30 e30 he30 hc30
    obtain rfl : e30 = t := by have : ls[k]? = some e30 := (by simpa using he30); rw [hx] at this; simpa using this.symm
    first | refine AtT.kloadOA tk86 ?_ | refine AtT.kloadA tk86 ?_ | refine AtT.kloadOP tk86 ?_
    refine AtT.kalloc z86 ?_
    intro b5
    refine AtT.kstoreA tk86 ?_
    refine AtT.done ?_
    refine At.nrm ?_
    refine At.ktext (.n false 0 (.q 1 .done)) ?_
    refine AtT.makeMap rfl trivial (fun s : Nat => stv s) (fun n : Int => iv n) (by decide) ?_
    intro b32
    refine AtT.kassign ?_
    refine AtT.done ?_
    refine At.nrm ?_
    refine At.ktext (.q 0 (.q 1 (.q 2 .done))) ?_
    first | refine AtT.kloadOA tk86 ?_ | refine AtT.kloadA tk86 ?_ | refine AtT.kloadOP tk86 ?_
    refine AtT.kfn ?_
    refine AtT.kassign ?_
    refine AtT.done ?_
    refine At.nrm ?_
    refine At.ktext (.q 0 (.n false 1 .done)) ?_
    refine AtT.kmove ?_
    refine AtT.range rfl trivial Tryz.underlying113 rfl Pick.auto (by decide) ?_
    intro b36
    refine AtT.done ?_
    refine At.nrm ?_
    refine At.lp (ι := Array Nat × MM Nat Int × Nat) (KS := fun g => [(3, .map (some b)), (5, .pointer (some ⟨b5, 0, none⟩)), (6, .map (some b32)), (7, .func (.func 60) #[stv e30] #[]), (26, .slice a2 ls.length c2), (27, iv ls.length), (28, iv k), (36, .pointer (some ⟨b36, 0, none⟩))])
      (OS := fun g => [.blk b36 (.mapIter (some b) c g.1 c), .blk b32 (mO g.2.1 g.2.2), .blk b (mO M c), .blk b5 (LC (ste e30) 86)])
      (VS := fun g V'' => Le V' V'' ∧ MI g.2.1 g.2.2 ∧ ∀ x, mhas x g.2.1 = true ↔ ∃ e ∈ M, e.2.2 ∈ g.1 ∧ Stp e30 e.1 x) (μ := fun g => (M.filter fun e => !g.1.contains e.2.2).length) (#[], [], 0) ?_ ?_ ?_ ?_
    · exact ⟨rfl, rfl, rfl, rfl, rfl, rfl, rfl, rfl, trivial⟩
    · exact Pt.auto
    · exact ⟨Le.refl _, mi_nil, fun x => by simp [mhas]⟩
    rintro ⟨seen, M2, c2'⟩ V2 ks' O' ⟨hV2, hmi2, hmem2⟩ hk hO hl3
    dsimp only at hmi2 hmem2 hk hO
    subst hk hO
    refine At.nrm ?_
    refine At.ktext (.n true 0 (.q 1 .done)) ?_
    all_goals (refine AtT.next rfl trivial rfl Pick.auto Pick.auto (fun e he => hmi.born e he) (Nat.le_refl _) (by decide) (fun hall => ?_) (fun e he hns => ?_))
    all_goals (refine AtT.kextract ?_)
    all_goals refine AtT.done ?_
    all_goals (refine At.nrm ?_)
    · refine At.condF rfl rfl ?_
      refine At.nrm ?_
      refine At.ktext (.q 0 (.q 1 .done)) ?_
      refine AtT.kmove ?_
      refine AtT.kassign ?_
      refine AtT.done ?_
      refine At.nrm ?_
      refine At.ktext (.q 0 (.q 1 .done)) ?_
      first | refine AtT.kadd ?_ | refine AtT.kaddW ?_
      refine AtT.kmove ?_
      refine AtT.done ?_
      refine At.nrm ?_
      refine At.round (k + 1, b32, M2, c2') ?_ ?_ ?_ ?_
      · show ls.length - (k + 1) < ls.length - k; omega
      · refine ⟨hVV.trans hV2, by dsimp only; omega, hmi2, fun x => ?_⟩
        show mhas x M2 = true ↔ GsK ls (k + 1) x
        rw [hmem2]
        simp only [GsK, hgt]
        constructor
        · rintro ⟨e, he, _, hst⟩; exact ⟨e.1, (hmem e.1).1 ((mhas_iff e.1 M).2 ⟨e, he, rfl⟩), hst⟩
        · rintro ⟨s, hs, hst⟩
          obtain ⟨e, he, rfl⟩ := (mhas_iff s M).1 ((hmem s).2 hs)
          exact ⟨e, he, hall e he, hst⟩
      · exact ⟨rfl, rfl, rfl, ivs (by dsimp only; omega), trivial⟩
      dsimp only
      · exact Pt.auto
    refine At.condT rfl rfl ?_
    have hun := unseen_lt he hns
    have hev := hmi.val e he
    have hel := hmi.lt e he
    have hci := cntK_le e.1 15
    have hseen : ∀ (e' : Nat × Int × Nat), e' ∈ M → (e'.2.2 ∈ seen.push e.2.2 ↔ e'.2.2 ∈ seen ∨ e' = e) := fun e' he' => by
      rw [Array.mem_push]
      constructor
      · rintro (h | h)
        · exact .inl h
        · exact .inr (inj_of (fun e : Nat × Int × Nat => e.2.2) hmi.nodB he' he h)
      · rintro (h | rfl)
        · exact .inl h
        · exact .inr rfl
    have hsee2 : ∀ x, (∃ e' ∈ M, e'.2.2 ∈ seen.push e.2.2 ∧ Stp e30 e'.1 x) ↔ (∃ e' ∈ M, e'.2.2 ∈ seen ∧ Stp e30 e'.1 x) ∨ Stp e30 e.1 x := fun x => by
      constructor
      · rintro ⟨e', h1, h2, h3⟩
        rcases (hseen e' h1).1 h2 with h | rfl
        · exact .inl ⟨e', h1, h, h3⟩
        · exact .inr h3
      · rintro (⟨e', h1, h2, h3⟩ | h3)
        · exact ⟨e', h1, (hseen e' h1).2 (.inl h2), h3⟩
        · exact ⟨e, he, (hseen e he).2 (.inr rfl), h3⟩
    refine At.nrm ?_
    refine At.ktext (.n false 0 (.q 1 (.q 2 (.n false 3 (.n true 4 (.q 5 .done)))))) ?_
    refine AtT.entry rfl trivial rfl Pick.auto Pick.auto he hmi.nodB (by decide) ?_
    refine AtT.kextract ?_
    refine AtT.kextract ?_
    refine AtT.kalloc z86 ?_
    intro b8
    refine AtT.kstoreA tk86 ?_
    refine AtT.kassign ?_
    refine AtT.done ?_
    refine At.nrm ?_
    have hmeet : Fnc Tryz.prog 60 ([stv e30] ++ [stv e.1] ++ []) V2 fun r _ => r = .bool (mtB e30 e.1) := meets_f e30 e.1 (by omega) (by omega) V2
    cases hmt : mtB e30 e.1 with
    | true =>
      rw [hmt] at hmeet
      refine At.ktext (.q 0 (.q 1 (.n false 2 .done))) ?_
      refine AtT.kmove ?_
      first | refine AtT.kloadOA tk86 ?_ | refine AtT.kloadA tk86 ?_ | refine AtT.kloadOP tk86 ?_
      refine AtT.kcallV rfl rfl rfl ok60 (hmeet) ?_
      rintro _ rfl
      refine AtT.done ?_
      refine At.nrm ?_
      refine At.condT rfl rfl ?_
      refine At.nrm ?_
      have hput : ∀ e' ∈ M2, e'.1 = e.1 → e'.2.1 = e.2.1 := fun e' h1 h2 => by rw [hmi2.val e' h1, h2, hev]
      refine At.ktext (.q 0 (.q 1 (.q 2 (.n true 3 .done)))) ?_
      refine AtT.kmove ?_
      first | refine AtT.kloadOA tk86 ?_ | refine AtT.kloadA tk86 ?_ | refine AtT.kloadOP tk86 ?_
      refine AtT.kmove ?_
      refine AtT.mapPut rfl trivial key72 e.1 e.2.1 Tryz.underlying113 rfl rfl rfl hput (by repeat (first | exact Upd.here | apply Upd.there)) ?_
      refine AtT.done ?_
      refine At.nrm ?_
      refine At.round (seen.push e.2.2, (mIns e.1 e.2.1 M2 c2').1, (mIns e.1 e.2.1 M2 c2').2) ?_ ?_ ?_ ?_
      · exact hun
      · refine ⟨hV2, ?_, fun x => ?_⟩
        · dsimp only; rw [hev]; exact mi_ins hmi2 hel
        · dsimp only
          rw [mi_has, hmem2, hsee2]
          constructor
          · rintro (h | rfl)
            · exact .inl h
            · exact .inr (.inl ⟨hmt, rfl⟩)
          · rintro (h | h)
            · exact .inl h
            · rcases h with ⟨_, rfl⟩ | ⟨h1, _⟩
              · exact .inr rfl
              · rw [hmt] at h1; cases h1
      · exact ⟨rfl, rfl, rfl, rfl, rfl, rfl, rfl, rfl, trivial⟩
      dsimp only
      · exact Pt.auto
    | false =>
      rw [hmt] at hmeet
      refine At.ktext (.q 0 (.q 1 (.n false 2 .done))) ?_
      refine AtT.kmove ?_
      first | refine AtT.kloadOA tk86 ?_ | refine AtT.kloadA tk86 ?_ | refine AtT.kloadOP tk86 ?_
      refine AtT.kcallV rfl rfl rfl ok60 (hmeet) ?_
      rintro _ rfl
      refine AtT.done ?_
      refine At.nrm ?_
      refine At.condF rfl rfl ?_
      refine At.nrm ?_
      refine At.ktext (.q 0 (.n false 1 (.q 2 (.q 3 .done)))) ?_
      first | refine AtT.kloadOA tk86 ?_ | refine AtT.kloadA tk86 ?_ | refine AtT.kloadOP tk86 ?_
      refine AtT.kcall rfl rfl ok67 (list_f e30 (by omega) _) ?_
      rintro v49 V49 hV49 hs49
      first | refine AtT.klenS Tryz.underlying38 ?_ | refine AtT.klenR Tryz.underlying38 ?_
      refine AtT.kmove ?_
      refine AtT.done ?_
      refine At.nrm ?_
      obtain ⟨a9, c9, rfl, _⟩ := id hs49
      have hbl := cntK_le e30 15
      unfold cntK at hbl
      have hcnt : e.2.1 ≤ 15 := by rw [hev]; unfold cnt cntK; unfold cntK at hci; omega
      have hcn0 : 0 ≤ e.2.1 := by rw [hev]; omega
      refine At.lp (ι := Nat × MM Nat Int × Nat) (KS := fun g => [(3, .map (some b)), (5, .pointer (some ⟨b5, 0, none⟩)), (6, .map (some b32)), (7, .func (.func 60) #[stv e30] #[]), (8, .pointer (some ⟨b8, 0, none⟩)), (9, iv e.2.1), (26, .slice a2 ls.length c2), (27, iv ls.length), (28, iv k), (36, .pointer (some ⟨b36, 0, none⟩)), (49, .slice a9 (bitL e30 15).length c9), (50, iv (bitL e30 15).length), (51, iv g.1)])
        (OS := fun g => [.blk b36 (.mapIter (some b) c (seen.push e.2.2) c), .blk b32 (mO g.2.1 g.2.2), .blk b (mO M c), .blk b5 (LC (ste e30) 86), .blk b8 (LC (ste e.1) 86)])
        (VS := fun g V'' => Le V49 V'' ∧ g.1 ≤ (bitL e30 15).length ∧ MI g.2.1 g.2.2 ∧ ∀ x, mhas x g.2.1 = true ↔ mhas x M2 = true ∨ ∃ i : Nat, (i : Int) ∈ (bitL e30 15).take g.1 ∧ x = e.1 ||| 2 ^ i) (μ := fun g => (bitL e30 15).length - g.1) (0, M2, c2') ?_ ?_ ?_ ?_
      · exact ⟨rfl, rfl, rfl, rfl, rfl, rfl, rfl, rfl, rfl, rfl, rfl, rfl, rfl, trivial⟩
      · exact Pt.auto
      · exact ⟨Le.refl _, Nat.zero_le _, hmi2, fun x => by simp⟩
      rintro ⟨j, M3, c3⟩ V3 ks' O' ⟨hV3, hjl, hmi3, hmem3⟩ hk hO hl4
      dsimp only at hjl hmi3 hmem3 hk hO
      subst hk hO
      have hs3 := hs49.le hV3
      refine At.nrm ?_
      refine At.ktext (.q 0 .done) ?_
      refine AtT.klss ?_
      refine AtT.done ?_
      refine At.nrm ?_
      refine At.condP rfl (fun hq => ?_) (fun hq => ?_)
      · obtain ⟨y, hy⟩ : ∃ y, (bitL e30 15)[j]? = some y := ⟨_, List.getElem?_eq_getElem (by omega)⟩
        obtain ⟨i, hi15, rfl, hbit⟩ := bitL_mem.1 (List.mem_of_getElem? hy)
        have hpw : 2 ^ i < 32768 := pow_lt15 (x := (i : Int)) (by omega)
        have hno := mtB_no hmt hbit
        have hcor := cnt_or hno hi15
        have hput : ∀ e' ∈ M3, e'.1 = e.1 ||| 2 ^ i → e'.2.1 = e.2.1 + 1 := fun e' h1 h2 => by rw [hmi3.val e' h1, h2, hcor, hev]; push_cast; rfl
        have hval1 : e.2.1 + 1 = (cnt (e.1 ||| 2 ^ i) : Int) := by rw [hcor, hev]; push_cast; rfl
        refine At.nrm ?_
        refine At.ktext (.q 0 (.q 1 (.q 2 .done))) ?_
        refine AtT.kidx Tryz.underlying38 tk3 ?_
        intro p53 e53 he53 hc53
        obtain rfl : e53 = (i : Int) := by have : (bitL e30 15)[j]? = some e53 := (by simpa using he53); rw [hy] at this; simpa using this.symm
        first | refine AtT.kloadO tk3 ?_ | refine AtT.kload tk3 ?_
        refine AtT.kassign ?_
        refine AtT.done ?_
        refine At.nrm ?_
        refine At.draw (.q 0 (.q 1 (.q 2 (.q 3 (.q 4 (.q 5 (.q 6 (.q 7 (.q 8 (.n true 9 .done)))))))))) ffm (by kernel_rfl) ?_
        refine AtT.kmove ?_
        first | refine AtT.kfieldO fo86_0 ?_ | with_reducible refine AtT.kfield2 fo86_0 ?_ | refine AtT.kfield fo86_0 ?_
        first | refine AtT.kloadO tk3 ?_ | refine AtT.kload tk3 ?_
        refine AtT.kmove ?_
        refine AtT.shlN rfl trivial rfl rfl (N := i) rfl (by omega) (by decide) ?_
        refine AtT.orN rfl trivial rfl rfl rfl rfl (by omega) (by omega) (by decide) (A := e.1) (B := 2 ^ i) ?_
        refine AtT.kbuild (bd86_0 _) ?_
        refine AtT.kmove ?_
        first | refine AtT.kadd ?_ | refine AtT.kaddW ?_
        refine AtT.mapPut rfl trivial key72 (e.1 ||| 2 ^ i) (e.2.1 + 1) Tryz.underlying113 rfl rfl rfl hput (by repeat (first | exact Upd.here | apply Upd.there)) ?_
        refine AtT.done ?_
        refine At.nrm ?_
        refine At.ktext (.q 0 (.q 1 .done)) ?_
        first | refine AtT.kadd ?_ | refine AtT.kaddW ?_
        refine AtT.kmove ?_
        refine AtT.done ?_
        refine At.nrm ?_
        refine At.round (j + 1, (mIns (e.1 ||| 2 ^ i) (e.2.1 + 1) M3 c3).1, (mIns (e.1 ||| 2 ^ i) (e.2.1 + 1) M3 c3).2) ?_ ?_ ?_ ?_
        · show (bitL e30 15).length - (j + 1) < (bitL e30 15).length - j; omega
        · refine ⟨hV3, by dsimp only; omega, ?_, fun x => ?_⟩
          · dsimp only; rw [hval1]; exact mi_ins hmi3 (or_lt15 hel hi15)
          · dsimp only
            rw [mi_has, hmem3, take_snoc' hy]
            constructor
            · rintro ((h | ⟨i', h1, h2⟩) | rfl)
              · exact .inl h
              · exact .inr ⟨i', List.mem_append_left _ h1, h2⟩
              · exact .inr ⟨i, by simp, rfl⟩
            · rintro (h | ⟨i', h1, rfl⟩)
              · exact .inl (.inl h)
              · rcases List.mem_append.1 h1 with h1 | h1
                · exact .inl (.inr ⟨i', h1, rfl⟩)
                · rw [List.mem_singleton] at h1
                  obtain rfl : i' = i := by omega
                  exact .inr rfl
        · exact ⟨rfl, rfl, rfl, rfl, rfl, rfl, rfl, rfl, rfl, rfl, rfl, rfl, ivs (by dsimp only; omega), trivial⟩
        dsimp only
        · exact Pt.auto
      · obtain rfl : j = (bitL e30 15).length := by omega
        rw [List.take_length] at hmem3
        refine At.nrm ?_
        refine At.round (seen.push e.2.2, M3, c3) ?_ ?_ ?_ ?_
        · exact hun
        · refine ⟨(hV2.trans hV49).trans hV3, hmi3, fun x => ?_⟩
          dsimp only
          rw [hmem3, hmem2, hsee2]
          constructor
          · rintro (h | ⟨i, h1, rfl⟩)
            · exact .inl h
            · obtain ⟨i', h2, h3, h4⟩ := bitL_mem.1 h1
              obtain rfl : i = i' := by omega
              exact .inr (.inr ⟨hmt, i, h2, h4, rfl⟩)
          · rintro (h | h)
            · exact .inl h
            · rcases h with ⟨h1, _⟩ | ⟨_, i, h2, h3, rfl⟩
              · rw [hmt] at h1; cases h1
              · exact .inr ⟨i, bitL_mem.2 ⟨i, h2, rfl, h3⟩, rfl⟩
        · exact ⟨rfl, rfl, rfl, rfl, rfl, rfl, rfl, rfl, trivial⟩
        dsimp only
        · exact Pt.auto
  obtain rfl : k = ls.length := by omega
  have hml := mi_len hmi
  obtain ⟨x0, hx0⟩ := gsK_ex hne ls.length (Nat.le_refl _)
  obtain ⟨e0, he0, _⟩ := (mhas_iff x0 M).1 ((hmem x0).2 hx0)
  refine At.nrm ?_
  refine At.ktext (.q 0 .done) ?_
  refine AtT.kassign ?_
  refine AtT.done ?_
  refine At.nrm ?_
  refine At.ktext (.q 0 (.n false 1 .done)) ?_
  refine AtT.kmove ?_
  refine AtT.range rfl trivial Tryz.underlying113 rfl Pick.auto (by decide) ?_
  intro b68
  refine AtT.done ?_
  refine At.nrm ?_
  refine At.newRow 3 1 ?_
  refine At.lp (ι := Array Nat × List Int × Option Addr × Nat) (KS := fun g => [(3, .map (some b)), (12, .slice g.2.2.1 g.2.1.length g.2.2.2), (68, .pointer (some ⟨b68, 0, none⟩))])
    (OS := fun g => [.blk b68 (.mapIter (some b) c g.1 c), .blk b (mO M c), .row (.slice g.2.2.1 g.2.1.length g.2.2.2) 3 1 g.2.1.length (flat ei g.2.1)])
    (VS := fun g V'' => Le V V'' ∧ (∀ v ∈ g.2.1, ∃ e ∈ M, v = e.2.1) ∧ (∀ e ∈ M, e.2.2 ∈ g.1 → e.2.1 ∈ g.2.1) ∧ g.2.1.length + (M.filter fun e => !g.1.contains e.2.2).length ≤ M.length) (μ := fun g => (M.filter fun e => !g.1.contains e.2.2).length) (#[], [], none, 0) ?_ ?_ ?_ ?_
  · exact ⟨rfl, rfl, rfl, trivial⟩
  · exact Pt.auto
  · exact ⟨hVV, fun v h => (by cases h), fun e _ h => (by simp at h), by show 0 + _ ≤ _; rw [Nat.zero_add]; exact List.length_filter_le _ _⟩
  rintro ⟨seen, sz, ao, co⟩ V2 ks' O' ⟨hV2, hz1, hz2, hz3⟩ hk hO hl3
  dsimp only at hz1 hz2 hz3 hk hO
  subst hk hO
  refine At.nrm ?_
  refine At.ktext (.n true 0 (.q 1 .done)) ?_
  all_goals (refine AtT.next rfl trivial rfl Pick.auto Pick.auto (fun e he => hmi.born e he) (Nat.le_refl _) (by decide) (fun hall => ?_) (fun e he hns => ?_))
  all_goals (refine AtT.kextract ?_)
  all_goals refine AtT.done ?_
  all_goals (refine At.nrm ?_)
  rotate_left
  · refine At.condT rfl rfl ?_
    have hun := unseen_lt he hns
    refine At.nrm ?_
    refine At.ktext (.n false 0 (.q 1 (.q 2 .done))) ?_
    refine AtT.entry rfl trivial rfl Pick.auto Pick.auto he hmi.nodB (by decide) ?_
    refine AtT.kextract ?_
    refine AtT.kassign ?_
    refine AtT.done ?_
    refine At.nrm ?_
    refine At.ktext (.q 0 (.q 1 (.n false 2 (.n true 3 (.q 4 .done))))) ?_
    refine AtT.kmove ?_
    refine AtT.kmove ?_
    refine AtT.kbsliceG (bs38_1_0 _) ?_
    intro q75 V75 hV75 hq75
    have g75 : Le V V75 := by first | exact hV75 | exact Le.trans (by assumption) hV75
    first | refine AtT.kappend Tryz.underlying38 rw3 ?_
    intro a76 c76
    refine AtT.kassign ?_
    refine AtT.done ?_
    refine At.nrm ?_
    refine At.round (seen.push e.2.2, sz ++ [e.2.1], a76, c76) ?_ ?_ ?_ ?_
    · exact hun
    · refine ⟨hV2.trans (by first | assumption | exact Le.refl _), fun v hv => ?_, fun e' h1 h2 => ?_, ?_⟩
      · rcases List.mem_append.1 hv with h | h
        · exact hz1 v h
        · rw [List.mem_singleton] at h; exact ⟨e, he, h⟩
      · rcases (seen_push hmi.nodB he h1).1 h2 with h | rfl
        · exact List.mem_append_left _ (hz2 e' h1 h)
        · exact List.mem_append_right _ (List.mem_singleton.2 rfl)
      · dsimp only; rw [List.length_append]; simp only [List.length_cons, List.length_nil]; omega
    · dsimp only; rw [List.length_append]; exact ⟨rfl, rfl, rfl, trivial⟩
    dsimp only
    rw [flat_snoc, List.length_append]
    · exact Pt.auto
  refine At.condF rfl rfl ?_
  have hsn : sz ≠ [] := fun h => by have := hz2 e0 he0 (hall e0 he0); rw [h] at this; cases this
  refine At.nrm ?_
  refine At.giveSl (l := sz) (m := sz.length) Lw.ei_len rfl rfl Pick.auto (fun V3 hV3 hs3 => ?_)
  refine At.ktext (.q 0 (.n false 1 (.q 2 .done))) ?_
  refine AtT.kmove ?_
  refine AtT.kcallP rfl rfl ok86 (min_f sz hsn _ _ hs3) ?_
  rintro _ ⟨few, rfl, hf1, hf2⟩
  refine AtT.kassign ?_
  refine AtT.done ?_
  refine At.nrm ?_
  have hfew : ∀ e ∈ M, few ≤ e.2.1 := fun e he => hf2 _ (hz2 e he (hall e he))
  obtain ⟨e1, he1, hfe1⟩ := hz1 few hf1
  refine At.ktext (.q 0 (.n false 1 .done)) ?_
  refine AtT.kmove ?_
  refine AtT.range rfl trivial Tryz.underlying113 rfl Pick.auto (by decide) ?_
  intro b80
  refine AtT.done ?_
  refine At.nrm ?_
  refine At.lp (ι := Array Nat) (KS := fun _ => [(3, .map (some b)), (15, iv few), (80, .pointer (some ⟨b80, 0, none⟩))])
    (OS := fun seen => [.blk b80 (.mapIter (some b) c seen c), .blk b (mO (left (fun e => decide (¬ few < e.2.1)) M seen) c)])
    (VS := fun _ V'' => Le V3 V'') (μ := fun seen => (M.filter fun e => !seen.contains e.2.2).length) #[] ?_ ?_ ?_ ?_
  · exact ⟨rfl, rfl, rfl, trivial⟩
  · rw [left_nil]
    · exact Pt.auto
  · exact Le.refl _
  rintro seen2 V4 ks' O' hV4 hk hO hl4
  subst hk hO
  have hsub : ∀ e ∈ left (fun e => decide (¬ few < e.2.1)) M seen2, e ∈ M := fun e he => (List.mem_filter.1 he).1
  refine At.nrm ?_
  refine At.ktext (.n true 0 (.q 1 .done)) ?_
  all_goals (refine AtT.next rfl trivial rfl Pick.auto Pick.auto (fun e he => hmi.born e (hsub e he)) (Nat.le_refl _) (by decide) (fun hall2 => ?_) (fun e he hns => ?_))
  all_goals (refine AtT.kextract ?_)
  all_goals refine AtT.done ?_
  all_goals (refine At.nrm ?_)
  rotate_left
  · refine At.condT rfl rfl ?_
    have heM := hsub e he
    have hun := unseen_lt heM hns
    have hnd2 : ((left (fun e => decide (¬ few < e.2.1)) M seen2).map (·.2.2)).Nodup := hmi.nodB.sublist (List.filter_sublist.map _)
    refine At.nrm ?_
    refine At.ktext (.n false 0 (.q 1 (.q 2 (.n false 3 (.n true 4 (.q 5 .done)))))) ?_
    refine AtT.entry rfl trivial rfl Pick.auto Pick.auto he hnd2 (by decide) ?_
    refine AtT.kextract ?_
    refine AtT.kextract ?_
    refine AtT.kalloc z86 ?_
    intro b16
    refine AtT.kstoreA tk86 ?_
    refine AtT.kassign ?_
    refine AtT.done ?_
    refine At.nrm ?_
    refine At.ktext (.q 0 (.q 1 (.q 2 .done))) ?_
    refine AtT.kmove ?_
    refine AtT.kmove ?_
    refine AtT.kgtr ?_
    refine AtT.done ?_
    refine At.nrm ?_
    refine At.condP rfl (fun hm => ?_) (fun hm => ?_)
    · have hg : decide (¬ few < e.2.1) = false := decide_eq_false (fun h => h hm)
      have hdel := left_del (g := fun e : Nat × Int × Nat => decide (¬ few < e.2.1)) (seen := seen2) hmi.nodB hmi.nodK heM hg
      refine At.nrm ?_
      refine At.ktext (.q 0 (.q 1 (.n true 2 .done))) ?_
      refine AtT.kmove ?_
      first | refine AtT.kloadOA tk86 ?_ | refine AtT.kloadA tk86 ?_ | refine AtT.kloadOP tk86 ?_
      refine AtT.mapDel rfl trivial key72 e.1 (fun n : Int => iv n) rfl Tryz.underlying113 rfl rfl (by repeat (first | exact Upd.here | apply Upd.there)) ?_
      refine AtT.done ?_
      refine At.nrm ?_
      refine At.round (seen2.push e.2.2) hun hV4 ⟨rfl, rfl, rfl, trivial⟩ ?_
      rw [hdel]
      · exact Pt.auto
    · have hg : decide (¬ few < e.2.1) = true := decide_eq_true hm
      have hkeep := left_keep (g := fun e : Nat × Int × Nat => decide (¬ few < e.2.1)) (seen := seen2) hmi.nodB heM hg
      refine At.nrm ?_
      refine At.round (seen2.push e.2.2) hun hV4 ⟨rfl, rfl, rfl, trivial⟩ ?_
      rw [hkeep]
      · exact Pt.auto
  refine At.condF rfl rfl ?_
  rw [left_end hall2]
  obtain ⟨N, hN⟩ : ∃ N, N = M.filter fun e => decide (¬ few < e.2.1) := ⟨_, rfl⟩
  rw [← hN]
  have hNs : ∀ e ∈ N, e ∈ M ∧ ¬ few < e.2.1 := fun e he => by rw [hN] at he; have := List.mem_filter.1 he; exact ⟨this.1, by simpa using this.2⟩
  have hNi : ∀ e ∈ M, ¬ few < e.2.1 → e ∈ N := fun e he h => by rw [hN]; exact List.mem_filter.2 ⟨he, by simpa using h⟩
  have hNB : (N.map (·.2.2)).Nodup := by rw [hN]; exact hmi.nodB.sublist (List.filter_sublist.map _)
  have hNK : (N.map (·.1)).Nodup := by rw [hN]; exact hmi.nodK.sublist (List.filter_sublist.map _)
  have hNl : N.length ≤ 32768 := by rw [hN]; exact Nat.le_trans (List.length_filter_le _ _) hml
  refine At.nrm ?_
  refine At.ktext (.q 0 .done) ?_
  refine AtT.kassign ?_
  refine AtT.done ?_
  refine At.nrm ?_
  refine At.ktext (.q 0 (.n false 1 .done)) ?_
  refine AtT.kmove ?_
  refine AtT.range rfl trivial Tryz.underlying113 rfl Pick.auto (by decide) ?_
  intro b92
  refine AtT.done ?_
  refine At.nrm ?_
  refine At.newRow 86 1 ?_
  refine At.lp (ι := Array Nat × List Nat × Option Addr × Nat) (KS := fun g => [(18, .slice g.2.2.1 g.2.1.length g.2.2.2), (92, .pointer (some ⟨b92, 0, none⟩))])
    (OS := fun g => [.blk b92 (.mapIter (some b) c g.1 c), .blk b (mO N c), .row (.slice g.2.2.1 g.2.1.length g.2.2.2) 86 1 g.2.1.length (flat ste g.2.1)])
    (VS := fun g V'' => Le V V'' ∧ g.2.1.Nodup ∧ (∀ x, x ∈ g.2.1 ↔ ∃ e ∈ N, e.2.2 ∈ g.1 ∧ e.1 = x) ∧ g.2.1.length + (N.filter fun e => !g.1.contains e.2.2).length ≤ N.length) (μ := fun g => (N.filter fun e => !g.1.contains e.2.2).length) (#[], [], none, 0) ?_ ?_ ?_ ?_
  · exact ⟨rfl, rfl, trivial⟩
  · exact Pt.auto
  · exact ⟨hV2.trans (hV3.trans hV4), List.nodup_nil, fun x => (by simp), by show 0 + _ ≤ _; rw [Nat.zero_add]; exact List.length_filter_le _ _⟩
  rintro ⟨seen3, out, ao3, co3⟩ V5 ks' O' ⟨hV5, ho1, ho2, ho3⟩ hk hO hl5
  dsimp only at ho1 ho2 ho3 hk hO
  subst hk hO
  refine At.nrm ?_
  refine At.ktext (.n true 0 (.q 1 .done)) ?_
  all_goals (refine AtT.next rfl trivial rfl Pick.auto Pick.auto (fun e he => hmi.born e (hNs e he).1) (Nat.le_refl _) (by decide) (fun hall3 => ?_) (fun e he hns => ?_))
  all_goals (refine AtT.kextract ?_)
  all_goals refine AtT.done ?_
  all_goals (refine At.nrm ?_)
  rotate_left
  · refine At.condT rfl rfl ?_
    have hun := unseen_lt he hns
    have hno : e.1 ∉ out := fun h => by
      obtain ⟨e', h1, h2, h3⟩ := (ho2 e.1).1 h
      have := inj_of (fun e : Nat × Int × Nat => e.1) hNK h1 he h3
      subst this; exact hns h2
    refine At.nrm ?_
    refine At.ktext (.n false 0 (.q 1 (.n false 2 (.n true 3 .done)))) ?_
    refine AtT.entry rfl trivial rfl Pick.auto Pick.auto he hNB (by decide) ?_
    refine AtT.kextract ?_
    refine AtT.kalloc z86 ?_
    intro b19
    refine AtT.kstoreA tk86 ?_
    refine AtT.done ?_
    refine At.nrm ?_
    refine At.ktext (.q 0 (.q 1 (.n false 2 (.n true 3 (.q 4 .done))))) ?_
    refine AtT.kmove ?_
    first | refine AtT.kloadOA tk86 ?_ | refine AtT.kloadA tk86 ?_ | refine AtT.kloadOP tk86 ?_
    refine AtT.kbsliceG (bs61_1_0 _) ?_
    intro q99 V99 hV99 hq99
    have g99 : Le V V99 := by first | exact hV99 | exact Le.trans (by assumption) hV99
    first | refine AtT.kappend Tryz.underlying61 rw86 ?_
    intro a100 c100
    refine AtT.kassign ?_
    refine AtT.done ?_
    refine At.nrm ?_
    refine At.round (seen3.push e.2.2, out ++ [e.1], a100, c100) ?_ ?_ ?_ ?_
    · exact hun
    · refine ⟨hV5.trans (by first | assumption | exact Le.refl _), ?_, fun x => ?_, ?_⟩
      · exact List.nodup_append.2 ⟨ho1, by simp, fun x hx y hy => by rw [List.mem_singleton] at hy; subst hy; intro h; subst h; exact hno hx⟩
      · dsimp only
        rw [List.mem_append, List.mem_singleton, ho2]
        constructor
        · rintro (⟨e', h1, h2, h3⟩ | rfl)
          · exact ⟨e', h1, (seen_push hNB he h1).2 (.inl h2), h3⟩
          · exact ⟨e, he, (seen_push hNB he he).2 (.inr rfl), rfl⟩
        · rintro ⟨e', h1, h2, h3⟩
          rcases (seen_push hNB he h1).1 h2 with h | rfl
          · exact .inl ⟨e', h1, h, h3⟩
          · exact .inr h3.symm
      · dsimp only; rw [List.length_append]; simp only [List.length_cons, List.length_nil]; omega
    · dsimp only; rw [List.length_append]; exact ⟨rfl, rfl, trivial⟩
    dsimp only
    rw [flat_snoc, List.length_append]
    · exact Pt.auto
  refine At.condF rfl rfl ?_
  have hfm : e1.2.1 = few := hfe1.symm
  have hone : e1.1 ∈ out := (ho2 e1.1).2 ⟨e1, hNi e1 he1 (by omega), hall3 e1 (hNi e1 he1 (by omega)), rfl⟩
  have hon0 : out.length ≠ 0 := fun h => by rw [List.eq_nil_of_length_eq_zero h] at hone; cases hone
  refine At.nrm ?_
  refine At.rowBlk2 (v := .slice ao3 out.length co3) Pick.auto hon0 (fun bb cap rest hbb hcap hcm hrl => ?_)
  cases hbb
  refine At.ktext (.q 0 (.n true 1 .done)) ?_
  refine AtT.kmove ?_
  refine AtT.sortS rfl trivial rfl rfl (l := out) (rest := rest) (by omega) Pick.auto (by decide) (fun l' hperm hsrt => ?_)
  refine AtT.done ?_
  refine At.nrm ?_
  have hpl := hperm.length_eq
  refine At.giveB (b := bb) Pick.auto (fun V6 hV6 hb6 => ?_)
  have hs6 := Sl.of_cells (l := l') ste_len (cells_pre hb6) (by rw [hpl]; exact hcap) hcm
  rw [hpl] at hs6
  refine At.ktext (.q 0 (.q 1 .done)) ?_
  refine AtT.kmove ?_
  refine AtT.kassign ?_
  refine AtT.done ?_
  refine At.nrm ?_
  refine At.ret1 rfl (.tmp rfl) ⟨l', hs6, hperm.nodup_iff.2 ho1, hsrt, fun x => ?_⟩
  rw [hperm.mem_iff, ho2]
  constructor
  · rintro ⟨e, h1, _, rfl⟩
    obtain ⟨h2, h3⟩ := hNs e h1
    refine ⟨(hmem e.1).1 ((mhas_iff e.1 M).2 ⟨e, h2, rfl⟩), fun y hy => ?_⟩
    obtain ⟨e', h4, h5⟩ := (mhas_iff y M).1 ((hmem y).2 hy)
    have a1 := hfew e' h4
    have a2' := hmi.val e' h4
    have a3 := hmi.val e h2
    rw [h5] at a2'
    omega
  · rintro ⟨h1, h2⟩
    obtain ⟨e, h3, h4⟩ := (mhas_iff x M).1 ((hmem x).2 h1)
    have a1 := h2 e1.1 ((hmem e1.1).1 ((mhas_iff e1.1 M).2 ⟨e1, he1, rfl⟩))
    have a2' := hmi.val e h3
    have a3 := hmi.val e1 he1
    rw [h4] at a2'
    have : e ∈ N := hNi e h3 (by omega)
    exact ⟨e, this, hall3 e this, h4⟩
end Go.Proofs.YtfcpmblmklibjaaGreat
set_option linter.unusedVariables false
namespace Go.Proofs.YtfcpmblmklibjaaGreat
open Go.Lw Go.Gl Go.Bl Go.RowKit

theorem explained_bad (ts : List Tq) (h : alE ts ≠ 0) (V : View) (v : Value) (hs : Sl V tqe 4 v ts) : Fnc Tryz.prog 38 [v] V fun r _ => r = .tuple #[.pointer none, .slice none 0 0, iv (alE ts)] := by
  refine fn_of Tryz.func38 rfl Tryz.ntmps38 (Nat.le_of_ble_eq_true rfl) ?_
  intro w0 hw0
  refine At.nrm ?_
  refine At.ktext (.q 0 (.q 1 (.q 2 .done))) ?_
  refine AtT.kassign ?_
  refine AtT.kassign ?_
  refine AtT.kassign ?_
  refine AtT.done ?_
  refine At.nrm ?_
  by_cases h0 : trE ts = 0
  rotate_left
  · refine At.ktext (.q 0 (.n false 1 (.q 2 (.q 3 (.q 4 (.q 5 (.q 6 .done))))))) ?_
    refine AtT.kmove ?_
    refine AtT.kcallP rfl rfl ok57 (open_bad ts h0 _ _ hs) ?_
    rintro _ rfl
    refine AtT.kmove ?_
    refine AtT.kextract ?_
    refine AtT.kextract ?_
    refine AtT.kassign ?_
    refine AtT.kassign ?_
    refine AtT.done ?_
    refine At.nrm ?_
    refine At.ktext (.q 0 (.q 1 (.q 2 .done))) ?_
    refine AtT.kmove ?_
    refine AtT.kneI ?_
    refine AtT.kassign ?_
    refine AtT.done ?_
    refine At.nrm ?_
    refine At.condT rfl (decide_eq_true h0) ?_
    refine At.nrm ?_
    refine At.ktext (.q 0 (.q 1 (.q 2 (.q 3 .done)))) ?_
    refine AtT.kmove ?_
    refine AtT.kassign ?_
    refine AtT.kassign ?_
    refine AtT.kassign ?_
    refine AtT.done ?_
    refine At.nrm ?_
    exact At.ret3 rfl (.tmp rfl) (.tmp rfl) (.tmp rfl) (by rw [alE_tr h0])
  have hz : (lsL ts).any (· == 0) = true := by
    cases c : (lsL ts).any (· == 0) with
    | true => rfl
    | false => exact absurd (alE_ok h0 c) h
  refine At.ktext (.q 0 (.n false 1 (.q 2 (.q 3 (.q 4 (.q 5 (.q 6 .done))))))) ?_
  refine AtT.kmove ?_
  refine AtT.kcall rfl rfl ok57 (open_ok ts h0 _ _ hs) ?_
  rintro _ V1 hV1 ⟨p, rfl, hb⟩
  refine AtT.kmove ?_
  refine AtT.kextract ?_
  refine AtT.kextract ?_
  refine AtT.kassign ?_
  refine AtT.kassign ?_
  refine AtT.done ?_
  refine At.nrm ?_
  refine At.ktext (.q 0 (.q 1 (.q 2 .done))) ?_
  refine AtT.kmove ?_
  refine AtT.kneI ?_
  refine AtT.kassign ?_
  refine AtT.done ?_
  refine At.nrm ?_
  refine At.condF rfl (decide_eq_false (by simp)) ?_
  obtain ⟨a2, c2, hc20, hsl⟩ := bc_left hb
  refine At.nrm ?_
  refine At.ktext (.q 0 (.q 1 (.q 2 (.q 3 (.q 4 (.n false 5 (.q 6 .done))))))) ?_
  refine AtT.kmove ?_
  refine AtT.knil ?_
  first | refine AtT.kfieldO fo92_2 ?_ | with_reducible refine AtT.kfield2 fo92_2 ?_ | refine AtT.kfield fo92_2 ?_
  first | refine AtT.kloadO tk61 ?_ | refine AtT.kload tk61 ?_
  refine AtT.kbuild (bd86) ?_
  refine AtT.kcallP rfl rfl ok76 (containsS_f (lsL ts) _ _ hsl) ?_
  rintro _ rfl; rw [hz]
  refine AtT.kassign ?_
  refine AtT.done ?_
  refine At.nrm ?_
  refine At.condT rfl rfl ?_
  refine At.nrm ?_
  refine At.ktext (.q 0 (.q 1 (.q 2 .done))) ?_
  refine AtT.kassign ?_
  refine AtT.kassign ?_
  refine AtT.kassign ?_
  refine AtT.done ?_
  refine At.nrm ?_
  exact At.ret3 rfl (.tmp rfl) (.tmp rfl) (.tmp rfl) (by rw [alE_z h0 hz])
theorem alE_zero {ts : List Tq} (h : alE ts = 0) : trE ts = 0 ∧ (lsL ts).any (· == 0) = false := by
  have h0 : trE ts = 0 := by
    by_cases c : trE ts = 0
    · exact c
    · rw [alE_tr c] at h; exact absurd h c
  refine ⟨h0, ?_⟩
  cases c : (lsL ts).any (· == 0) with
  | false => rfl
  | true => rw [alE_z h0 c] at h; cases h
theorem explained_ok (ts : List Tq) (h : alE ts = 0) (V : View) (v : Value) (hs : Sl V tqe 4 v ts) : Fnc Tryz.prog 38 [v] V fun r V' => ∃ p u l, r = .tuple #[.pointer (some p), u, iv 0] ∧ BcV V' p ts ∧ Sl V' ste 1 u l ∧ SmS (lsL ts) SrtL l := by
  obtain ⟨h0, hz⟩ := alE_zero h
  obtain ⟨h16, ht⟩ := trE_ok h0
  refine fn_of Tryz.func38 rfl Tryz.ntmps38 (Nat.le_of_ble_eq_true rfl) ?_
  intro w0 hw0
  refine At.nrm ?_
  refine At.ktext (.q 0 (.q 1 (.q 2 .done))) ?_
  refine AtT.kassign ?_
  refine AtT.kassign ?_
  refine AtT.kassign ?_
  refine AtT.done ?_
  refine At.nrm ?_
  refine At.ktext (.q 0 (.n false 1 (.q 2 (.q 3 (.q 4 (.q 5 (.q 6 .done))))))) ?_
  refine AtT.kmove ?_
  refine AtT.kcall rfl rfl ok57 (open_ok ts h0 _ _ hs) ?_
  rintro _ V1 hV1 ⟨p, rfl, hb⟩
  refine AtT.kmove ?_
  refine AtT.kextract ?_
  refine AtT.kextract ?_
  refine AtT.kassign ?_
  refine AtT.kassign ?_
  refine AtT.done ?_
  refine At.nrm ?_
  refine At.ktext (.q 0 (.q 1 (.q 2 .done))) ?_
  refine AtT.kmove ?_
  refine AtT.kneI ?_
  refine AtT.kassign ?_
  refine AtT.done ?_
  refine At.nrm ?_
  refine At.condF rfl (decide_eq_false (by simp)) ?_
  obtain ⟨a2, c2, hc20, hsl⟩ := bc_left hb
  refine At.nrm ?_
  refine At.ktext (.q 0 (.q 1 (.q 2 (.q 3 (.q 4 (.n false 5 (.q 6 .done))))))) ?_
  refine AtT.kmove ?_
  refine AtT.knil ?_
  first | refine AtT.kfieldO fo92_2 ?_ | with_reducible refine AtT.kfield2 fo92_2 ?_ | refine AtT.kfield fo92_2 ?_
  first | refine AtT.kloadO tk61 ?_ | refine AtT.kload tk61 ?_
  refine AtT.kbuild (bd86) ?_
  refine AtT.kcallP rfl rfl ok76 (containsS_f (lsL ts) _ _ hsl) ?_
  rintro _ rfl; rw [hz]
  refine AtT.kassign ?_
  refine AtT.done ?_
  refine At.nrm ?_
  refine At.condF rfl rfl ?_
  refine At.nrm ?_
  refine At.ktext (.q 0 (.q 1 (.n false 2 (.q 3 (.q 4 (.q 5 .done)))))) ?_
  refine AtT.kmove ?_
  refine AtT.kmove ?_
  refine AtT.kcall rfl rfl ok77 (smallest_f ts ht h16 hz _ p hb) ?_
  rintro v25 V25 hV25 ⟨l, hl, hsm⟩
  refine AtT.kassign ?_
  refine AtT.kassign ?_
  refine AtT.kassign ?_
  refine AtT.done ?_
  refine At.nrm ?_
  exact At.ret3 rfl (.tmp rfl) (.tmp rfl) (.tmp rfl) ⟨p, v25, l, rfl, hb.le hV25, hl, hsm⟩
theorem count_f (A : Nat) (hA : A < 9223372036854775808) (V : View) : Fnc Tryz.prog 78 [iv A] V fun r _ => r = iv (cnt A) := by
  refine fn_of Tryz.func78 rfl Tryz.ntmps78 (Nat.le_of_ble_eq_true rfl) ?_
  intro w0 hw0
  refine At.nrm ?_
  refine At.ktext (.q 0 .done) ?_
  refine AtT.kassign ?_
  refine AtT.done ?_
  refine At.nrm ?_
  refine At.ktext (.q 0 (.n false 1 (.q 2 (.q 3 .done)))) ?_
  refine AtT.kmove ?_
  refine AtT.kcall rfl rfl ok64 (bits_f A 15 hA (by decide) _) ?_
  rintro v4 V4 hV4 hs4; obtain ⟨a4, c4, rfl, _⟩ := id hs4
  first | refine AtT.klenS Tryz.underlying38 ?_ | refine AtT.klenR Tryz.underlying38 ?_
  refine AtT.kassign ?_
  refine AtT.done ?_
  refine At.nrm ?_
  exact At.ret1 rfl (.tmp rfl) rfl
/-- What Fewest answers. -/
theorem fewest_bad (ts : List Tq) (h : alE ts ≠ 0) (V : View) (v : Value) (hs : Sl V tqe 4 v ts) : Fnc Tryz.prog 28 [v] V fun r _ => r = .tuple #[iv 0, iv (alE ts)] := by
  refine fn_of Tryz.func28 rfl Tryz.ntmps28 (Nat.le_of_ble_eq_true rfl) ?_
  intro w0 hw0
  refine At.nrm ?_
  refine At.ktext (.q 0 (.q 1 .done)) ?_
  refine AtT.kassign ?_
  refine AtT.kassign ?_
  refine AtT.done ?_
  refine At.nrm ?_
  refine At.ktext (.q 0 (.n false 1 (.q 2 (.q 3 (.q 4 (.q 5 (.q 6 (.q 7 (.q 8 .done))))))))) ?_
  refine AtT.kmove ?_
  refine AtT.kcallP rfl rfl ok38 (explained_bad ts h _ _ hs) ?_
  rintro _ rfl
  refine AtT.kmove ?_
  refine AtT.kextract ?_
  refine AtT.kextract ?_
  refine AtT.kextract ?_
  refine AtT.kassign ?_
  refine AtT.kassign ?_
  refine AtT.kassign ?_
  refine AtT.done ?_
  refine At.nrm ?_
  refine At.ktext (.q 0 (.q 1 .done)) ?_
  refine AtT.kmove ?_
  refine AtT.kneI ?_
  refine AtT.done ?_
  refine At.nrm ?_
  refine At.condT rfl (decide_eq_true h) ?_
  refine At.nrm ?_
  refine At.ktext (.q 0 (.q 1 (.q 2 .done))) ?_
  refine AtT.kmove ?_
  refine AtT.kassign ?_
  refine AtT.kassign ?_
  refine AtT.done ?_
  refine At.nrm ?_
  exact At.ret2 rfl (.tmp rfl) (.tmp rfl) rfl
theorem sms_ne {ts : List Tq} {l : List Nat} (h : alE ts = 0) (hs : SmS (lsL ts) SrtL l) : l ≠ [] ∧ ∀ x ∈ l, x < 32768 := by
  obtain ⟨h0, hz⟩ := alE_zero h
  obtain ⟨h16, ht⟩ := trE_ok h0
  have hlt := ls_lt (no := clA ts) ht ts.length
  have hne : ∀ s ∈ lsL ts, s ≠ 0 ∧ s < 32768 := fun s hs => ⟨fun e => by rw [List.any_eq_false] at hz; exact hz s hs (by rw [e]; rfl), hlt s hs⟩
  refine ⟨fun e => ?_, fun x hx => gsK_lt ((hs.mem x).1 hx).1⟩
  obtain ⟨x0, hx0⟩ := gsK_ex hne _ (Nat.le_refl _)
  -- some set is least
  have : ∃ x, GsK (lsL ts) (lsL ts).length x ∧ ∀ y, GsK (lsL ts) (lsL ts).length y → cnt x ≤ cnt y := by
    have key : ∀ n x, cnt x ≤ n → GsK (lsL ts) (lsL ts).length x → ∃ x, GsK (lsL ts) (lsL ts).length x ∧ ∀ y, GsK (lsL ts) (lsL ts).length y → cnt x ≤ cnt y := by
      intro n
      induction n with
      | zero => intro x h1 h2; exact ⟨x, h2, fun y _ => by omega⟩
      | succ n ih =>
        intro x h1 h2
        by_cases c : ∃ y, GsK (lsL ts) (lsL ts).length y ∧ cnt y < cnt x
        · obtain ⟨y, h3, h4⟩ := c; exact ih y (by omega) h3
        · exact ⟨x, h2, fun y hy => by
            apply Classical.byContradiction
            intro hc; exact c ⟨y, hy, by omega⟩⟩
    exact key _ x0 (Nat.le_refl _) hx0
  obtain ⟨x, hx1, hx2⟩ := this
  have := (hs.mem x).2 ⟨hx1, hx2⟩
  rw [e] at this; cases this
theorem fewest_ok (ts : List Tq) (h : alE ts = 0) (V : View) (v : Value) (hs : Sl V tqe 4 v ts) : Fnc Tryz.prog 28 [v] V fun r _ => ∃ l x, SmS (lsL ts) SrtL l ∧ l[0]? = some x ∧ r = .tuple #[iv (cnt x), iv 0] := by
  refine fn_of Tryz.func28 rfl Tryz.ntmps28 (Nat.le_of_ble_eq_true rfl) ?_
  intro w0 hw0
  refine At.nrm ?_
  refine At.ktext (.q 0 (.q 1 .done)) ?_
  refine AtT.kassign ?_
  refine AtT.kassign ?_
  refine AtT.done ?_
  refine At.nrm ?_
  refine At.ktext (.q 0 (.n false 1 (.q 2 (.q 3 (.q 4 (.q 5 (.q 6 (.q 7 (.q 8 .done))))))))) ?_
  refine AtT.kmove ?_
  refine AtT.kcall rfl rfl ok38 (explained_ok ts h _ _ hs) ?_
  rintro _ V1 hV1 ⟨p, u, l, rfl, hb, hl, hsm⟩
  refine AtT.kmove ?_
  refine AtT.kextract ?_
  refine AtT.kextract ?_
  refine AtT.kextract ?_
  refine AtT.kassign ?_
  refine AtT.kassign ?_
  refine AtT.kassign ?_
  refine AtT.done ?_
  refine At.nrm ?_
  obtain ⟨hne, hlt⟩ := sms_ne h hsm
  have hpos : 0 < l.length := List.length_pos_iff.2 hne
  obtain ⟨a, c, rfl, _⟩ := id hl
  refine At.ktext (.q 0 (.q 1 .done)) ?_
  refine AtT.kmove ?_
  refine AtT.kneI ?_
  refine AtT.done ?_
  refine At.nrm ?_
  refine At.condF rfl (decide_eq_false (by simp)) ?_
  obtain ⟨x, hx⟩ : ∃ x, l[0]? = some x := ⟨_, List.getElem?_eq_getElem hpos⟩
  have hxl := hlt x (List.mem_of_getElem? hx)
  refine At.nrm ?_
  refine At.ktext (.q 0 (.q 1 (.q 2 (.n false 3 (.q 4 (.q 5 (.q 6 .done))))))) ?_
  refine AtT.kmove ?_
  refine AtT.kidx Tryz.underlying61 tk86 ?_
  intro p17 e17 he17 hc17
  obtain rfl : e17 = x := by have : l[0]? = some e17 := (by simpa using he17); rw [hx] at this; simpa using this.symm
  first | refine AtT.kloadOA tk86 ?_ | refine AtT.kloadA tk86 ?_ | refine AtT.kloadOP tk86 ?_
  refine AtT.kcall rfl rfl ok67 (list_f e17 (by omega) _) ?_
  rintro v19 V19 hV19 hs19; obtain ⟨a9, c9, rfl, _⟩ := id hs19
  first | refine AtT.klenS Tryz.underlying38 ?_ | refine AtT.klenR Tryz.underlying38 ?_
  refine AtT.kassign ?_
  refine AtT.kassign ?_
  refine AtT.done ?_
  refine At.nrm ?_
  exact At.ret2 rfl (.tmp rfl) (.tmp rfl) ⟨l, e17, hsm, hx, rfl⟩
end Go.Proofs.YtfcpmblmklibjaaGreat
set_option linter.unusedVariables false
namespace Go.Proofs.YtfcpmblmklibjaaGreat
open Go.Lw Go.Gl Go.Bl Go.RowKit

abbrev sle (q : Option Addr × Nat × Nat) : List Value := [.slice q.1 q.2.1 q.2.2]
theorem sle_len (q : Option Addr × Nat × Nat) : (sle q).length = 1 := rfl
/-- A list of lists in memory. -/
def SL (V : View) (v : Value) (ll : List (List Int)) : Prop := ∃ qs : List (Option Addr × Nat × Nat), Sl V sle 1 v qs ∧ qs.length = ll.length ∧ ∀ (i : Nat) (q : Option Addr × Nat × Nat) (l : List Int), qs[i]? = some q → ll[i]? = some l → SlI V (.slice q.1 q.2.1 q.2.2) l
theorem SL.le {V V' : View} {v : Value} {ll : List (List Int)} (h : SL V v ll) (hl : Le V V') : SL V' v ll := by
  obtain ⟨qs, h1, h2, h3⟩ := h
  exact ⟨qs, h1.le hl, h2, fun i q l a b => (h3 i q l a b).le hl⟩
theorem SL.nil (V : View) : SL V (.slice none 0 0) [] := ⟨[], Sl.nil _ _ _, rfl, fun i q l h => by simp at h⟩
theorem all_bad (ts : List Tq) (h : alE ts ≠ 0) (V : View) (v : Value) (hs : Sl V tqe 4 v ts) : Fnc Tryz.prog 29 [v] V fun r _ => r = .tuple #[.slice none 0 0, iv (alE ts)] := by
  refine fn_of Tryz.func29 rfl Tryz.ntmps29 (Nat.le_of_ble_eq_true rfl) ?_
  intro w0 hw0
  refine At.nrm ?_
  refine At.ktext (.q 0 (.q 1 .done)) ?_
  refine AtT.kassign ?_
  refine AtT.kassign ?_
  refine AtT.done ?_
  refine At.nrm ?_
  refine At.ktext (.q 0 (.n false 1 (.q 2 (.q 3 (.q 4 (.q 5 (.q 6 (.q 7 (.q 8 .done))))))))) ?_
  refine AtT.kmove ?_
  refine AtT.kcallP rfl rfl ok38 (explained_bad ts h _ _ hs) ?_
  rintro _ rfl
  refine AtT.kmove ?_
  refine AtT.kextract ?_
  refine AtT.kextract ?_
  refine AtT.kextract ?_
  refine AtT.kassign ?_
  refine AtT.kassign ?_
  refine AtT.kassign ?_
  refine AtT.done ?_
  refine At.nrm ?_
  refine At.ktext (.q 0 .done) ?_
  refine AtT.kassign ?_
  refine AtT.done ?_
  refine At.nrm ?_
  refine At.ktext (.q 0 (.q 1 (.q 2 .done))) ?_
  refine AtT.kmove ?_
  first | refine AtT.klenS Tryz.underlying61 ?_ | refine AtT.klenR Tryz.underlying61 ?_
  refine AtT.kmove ?_
  refine AtT.done ?_
  refine At.nrm ?_
  refine At.lp (ι := Unit) (KS := fun _ => [(6, iv (alE ts)), (7, .slice none 0 0), (16, .slice none 0 0), (17, iv 0), (18, iv 0)]) (OS := fun _ => []) (VS := fun _ V' => Le V V') (μ := fun _ => 0) () ?_ ?_ ?_ ?_
  · exact ⟨rfl, rfl, rfl, rfl, rfl, trivial⟩
  · exact Pt.auto
  · exact Le.refl _
  rintro _ V' ks' O' hVV hk hO hl
  subst hk hO
  refine At.nrm ?_
  refine At.ktext (.q 0 .done) ?_
  refine AtT.klss ?_
  refine AtT.done ?_
  refine At.nrm ?_
  refine At.condF rfl (decide_eq_false (by simp)) ?_
  refine At.nrm ?_
  refine At.ktext (.q 0 (.q 1 (.q 2 (.q 3 .done)))) ?_
  refine AtT.kmove ?_
  refine AtT.kmove ?_
  refine AtT.kassign ?_
  refine AtT.kassign ?_
  refine AtT.done ?_
  refine At.nrm ?_
  exact At.ret2 rfl (.tmp rfl) (.tmp rfl) rfl
theorem all_ok (ts : List Tq) (h : alE ts = 0) (V : View) (v : Value) (hs : Sl V tqe 4 v ts) : Fnc Tryz.prog 29 [v] V fun r V' => ∃ u l, r = .tuple #[u, iv 0] ∧ SmS (lsL ts) SrtL l ∧ SL V' u (l.map fun s => bitL s 15) := by
  refine fn_of Tryz.func29 rfl Tryz.ntmps29 (Nat.le_of_ble_eq_true rfl) ?_
  intro w0 hw0
  refine At.nrm ?_
  refine At.ktext (.q 0 (.q 1 .done)) ?_
  refine AtT.kassign ?_
  refine AtT.kassign ?_
  refine AtT.done ?_
  refine At.nrm ?_
  refine At.ktext (.q 0 (.n false 1 (.q 2 (.q 3 (.q 4 (.q 5 (.q 6 (.q 7 (.q 8 .done))))))))) ?_
  refine AtT.kmove ?_
  refine AtT.kcall rfl rfl ok38 (explained_ok ts h _ _ hs) ?_
  rintro _ V1 hV1 ⟨p, u, l, rfl, hb, hl, hsm⟩
  refine AtT.kmove ?_
  refine AtT.kextract ?_
  refine AtT.kextract ?_
  refine AtT.kextract ?_
  refine AtT.kassign ?_
  refine AtT.kassign ?_
  refine AtT.kassign ?_
  refine AtT.done ?_
  refine At.nrm ?_
  obtain ⟨hne, hlt⟩ := sms_ne h hsm
  have hlen : l.length ≤ 32768 := pigeonN hsm.nod hlt
  obtain ⟨a, c, rfl, _⟩ := id hl
  refine At.ktext (.q 0 .done) ?_
  refine AtT.kassign ?_
  refine AtT.done ?_
  refine At.nrm ?_
  refine At.newRow 38 1 ?_
  refine At.ktext (.q 0 (.q 1 (.q 2 .done))) ?_
  refine AtT.kmove ?_
  first | refine AtT.klenS Tryz.underlying61 ?_ | refine AtT.klenR Tryz.underlying61 ?_
  refine AtT.kmove ?_
  refine AtT.done ?_
  refine At.nrm ?_
  refine At.lp (ι := Nat × List (Option Addr × Nat × Nat) × Option Addr × Nat) (KS := fun g => [(6, iv 0), (7, .slice g.2.2.1 g.2.1.length g.2.2.2), (16, .slice a l.length c), (17, iv l.length), (18, iv g.1)])
    (OS := fun g => [.row (.slice g.2.2.1 g.2.1.length g.2.2.2) 38 1 g.2.1.length (flat sle g.2.1)])
    (VS := fun g V' => Le V1 V' ∧ g.1 ≤ l.length ∧ g.2.1.length = g.1 ∧ ∀ (i : Nat) (q : Option Addr × Nat × Nat) (x : Nat), g.2.1[i]? = some q → l[i]? = some x → SlI V' (.slice q.1 q.2.1 q.2.2) (bitL x 15)) (μ := fun g => l.length - g.1) (0, [], none, 0) ?_ ?_ ?_ ?_
  · exact ⟨rfl, rfl, rfl, rfl, rfl, trivial⟩
  · exact Pt.auto
  · exact ⟨Le.refl _, Nat.zero_le _, rfl, fun i q x h => (by simp at h)⟩
  rintro ⟨k, qs, ao, co⟩ V' ks' O' ⟨hVV, hkl, hql, hqs⟩ hk hO hl2
  dsimp only at hkl hql hqs hk hO
  subst hk hO
  have hl' := hl.le hVV
  have hV0 := hV1.trans hVV
  refine At.nrm ?_
  refine At.ktext (.q 0 .done) ?_
  refine AtT.klss ?_
  refine AtT.done ?_
  refine At.nrm ?_
  refine At.condP rfl (fun hp => ?_) (fun hp => ?_)
  · obtain ⟨x, hx⟩ : ∃ x, l[k]? = some x := ⟨_, List.getElem?_eq_getElem (by omega)⟩
    have hxl := hlt x (List.mem_of_getElem? hx)
    refine At.nrm ?_
    refine At.ktext (.q 0 (.q 1 (.n false 2 (.n true 3 .done)))) ?_
    refine AtT.kidx Tryz.underlying61 tk86 ?_
    intro p20 e20 he20 hc20
    obtain rfl : e20 = x := by have : l[k]? = some e20 := (by simpa using he20); rw [hx] at this; simpa using this.symm
    first | refine AtT.kloadOA tk86 ?_ | refine AtT.kloadA tk86 ?_ | refine AtT.kloadOP tk86 ?_
    refine AtT.kalloc z86 ?_
    intro b9
    refine AtT.kstoreA tk86 ?_
    refine AtT.done ?_
    refine At.nrm ?_
    refine At.cutG (ι := Option Addr × Nat × Option Addr × Nat × Nat) (fun g => [(6, iv 0), (7, .slice g.1 (qs.length + 1) g.2.1), (16, .slice a l.length c), (17, iv l.length), (18, iv k)])
      (fun g => [.row (.slice g.1 (qs.length + 1) g.2.1) 38 1 (qs.length + 1) (flat sle qs ++ [.slice g.2.2.1 g.2.2.2.1 g.2.2.2.2])]) (fun g V'' => Le V' V'' ∧ SlI V'' (.slice g.2.2.1 g.2.2.2.1 g.2.2.2.2) (bitL e20 15)) ?_ ?_
    · refine At.draw (.q 0 (.q 1 (.q 2 (.q 3 (.q 4 (.q 5 (.q 6 (.n false 7 (.n false 8 (.n true 9 (.q 10 .done))))))))))) ffm (by kernel_rfl) ?_
      refine AtT.kmove ?_
      refine AtT.kmove ?_
      first | refine AtT.klenS Tryz.underlying35 ?_ | refine AtT.klenR Tryz.underlying35 ?_
      refine AtT.kmove ?_
      first | refine AtT.klenS Tryz.underlying35 ?_ | refine AtT.klenR Tryz.underlying35 ?_
      refine AtT.clipR rfl trivial Tryz.underlying35 tk38 rfl Pick.auto rfl rfl rfl rfl (by decide) ?_
      first | refine AtT.kloadOA tk86 ?_ | refine AtT.kloadA tk86 ?_ | refine AtT.kloadOP tk86 ?_
      refine AtT.kcall rfl rfl ok67 (list_f e20 (by omega) _) ?_
      rintro v29 V29 hV29 hs29; obtain ⟨a9, c9, rfl, _⟩ := id hs29; have hV029 := hV0.trans hV29
      refine AtT.kbsliceG (bs35_1_0 _ _ _) ?_
      intro q30 V30 hV30 hq30
      have g30 : Le V V30 := by first | exact hV30 | exact Le.trans (by assumption) hV30
      refine AtT.appendR rfl trivial Tryz.underlying35 rw38 rfl (by decide) rfl rfl Pick.auto hq30 rfl (by decide) (by unfold maxLen; omega) (by omega) (by decide) (fun a31 c31 => ?_)
      refine AtT.kassign ?_
      refine AtT.done ?_
      refine At.nrm ?_
      all_goals (exact At.meetG (a31, c31, a9, (bitL e20 15).length, c9) ⟨by first | exact hV29.trans (by assumption) | exact hV29, hs29.le (by first | assumption | exact Le.refl _)⟩ ⟨rfl, rfl, rfl, rfl, rfl, trivial⟩ Pt.auto)
    rintro ⟨a31, c31, a9, n9, c9⟩ V3 ks' O' ⟨hV3, hs9⟩ hk hO hl3
    dsimp only at hs9 hk hO
    subst hk hO
    refine At.nrm ?_
    refine At.ktext (.q 0 (.q 1 .done)) ?_
    first | refine AtT.kadd ?_ | refine AtT.kaddW ?_
    refine AtT.kmove ?_
    refine AtT.done ?_
    refine At.nrm ?_
    refine At.round (k + 1, qs ++ [(a9, n9, c9)], a31, c31) ?_ ?_ ?_ ?_
    · show l.length - (k + 1) < l.length - k; omega
    · refine ⟨hVV.trans hV3, by dsimp only; omega, by dsimp only; rw [List.length_append]; simp only [List.length_cons, List.length_nil]; omega, fun i q x hq hx' => ?_⟩
      by_cases hi : i < qs.length
      · rw [List.getElem?_append_left hi] at hq
        exact (hqs i q x hq hx').le hV3
      · rw [List.getElem?_append_right (by omega)] at hq
        have hii : i - qs.length = 0 := by
          have := (List.getElem?_eq_some_iff.1 hq).1
          simp only [List.length_cons, List.length_nil] at this; omega
        rw [hii] at hq
        simp at hq
        subst hq
        obtain rfl : i = k := by omega
        rw [hx] at hx'; cases hx'
        exact hs9
    · dsimp only; rw [List.length_append]; exact ⟨rfl, rfl, rfl, rfl, ivs (by omega), trivial⟩
    dsimp only
    rw [flat_snoc, List.length_append]
    · exact Pt.auto
  · obtain rfl : k = l.length := by omega
    refine At.nrm ?_
    refine At.giveSl (l := qs) (m := qs.length) sle_len rfl rfl Pick.auto (fun V3 hV3 hs3 => ?_)
    refine At.ktext (.q 0 (.q 1 (.q 2 (.q 3 .done)))) ?_
    refine AtT.kmove ?_
    refine AtT.kmove ?_
    refine AtT.kassign ?_
    refine AtT.kassign ?_
    refine AtT.done ?_
    refine At.nrm ?_
    exact At.ret2 rfl (.tmp rfl) (.tmp rfl) ⟨_, l, rfl, hsm, qs, hs3, by rw [List.length_map]; exact hql, fun i q l' hq hl'' => by
      rw [List.getElem?_map] at hl''
      obtain ⟨x, hx, rfl⟩ := Option.map_eq_some_iff.1 hl''
      exact (hqs i q x hq hx).le hV3⟩
end Go.Proofs.YtfcpmblmklibjaaGreat
set_option linter.unusedVariables false
namespace Go.Bl
open Go.Gl Go.Lw Go.Sort
/-- The steps of the reversal on natural numbers. -/
def stN (n k m : Nat) : Nat := ((n / 2 ^ k) &&& m) ||| (((n &&& m) * 2 ^ k) % 2 ^ 64)
theorem bits_andU {A B : Nat} (hA : A < 2 ^ 64) (hB : B < 2 ^ 64) : Go.bits .and .u64 (A : Int) (B : Int) = ((A &&& B : Nat) : Int) := by
  show IntKind.u64.wrap (((BitVec.ofInt 64 (A : Int) &&& BitVec.ofInt 64 (B : Int)).toNat : Nat) : Int) = _
  rw [BitVec.toNat_and, ofInt_u64 A hA, ofInt_u64 B hB, wrapU (Nat.lt_of_le_of_lt Nat.and_le_left hA)]
theorem bits_orU {A B : Nat} (hA : A < 2 ^ 64) (hB : B < 2 ^ 64) : Go.bits .or .u64 (A : Int) (B : Int) = ((A ||| B : Nat) : Int) := by
  show IntKind.u64.wrap (((BitVec.ofInt 64 (A : Int) ||| BitVec.ofInt 64 (B : Int)).toNat : Nat) : Int) = _
  rw [BitVec.toNat_or, ofInt_u64 A hA, ofInt_u64 B hB, wrapU (Nat.or_lt_two_pow hA hB)]
theorem wrapM (A : Nat) : IntKind.u64.wrap (A : Int) = ((A % 2 ^ 64 : Nat) : Int) := by
  simp [IntKind.wrap, IntKind.bits, IntKind.signed]
theorem stN_lt {n k m : Nat} (hm : m < 2 ^ 64) : stN n k m < 2 ^ 64 := Nat.or_lt_two_pow (Nat.lt_of_le_of_lt Nat.and_le_right hm) (Nat.mod_lt _ (by decide))
theorem st_nat {n k m : Nat} (hn : n < 2 ^ 64) (hm : m < 2 ^ 64) : stI (n : Int) ((2 ^ k : Nat) : Int) (m : Int) = ((stN n k m : Nat) : Int) := by
  unfold stI
  rw [show ((n : Int) / ((2 ^ k : Nat) : Int)) = ((n / 2 ^ k : Nat) : Int) from rfl, bits_andU (Nat.lt_of_le_of_lt (Nat.div_le_self _ _) hn) hm, bits_andU hn hm, ← Int.natCast_mul, wrapM,
    bits_orU (Nat.lt_of_le_of_lt Nat.and_le_right hm) (Nat.mod_lt _ (by decide))]
  rfl
theorem or_mod (a b n : Nat) : (a ||| b) % 2 ^ n = a % 2 ^ n ||| b % 2 ^ n := by
  refine Nat.eq_of_testBit_eq fun i => ?_
  rw [Nat.testBit_or, Nat.testBit_mod_two_pow, Nat.testBit_mod_two_pow, Nat.testBit_mod_two_pow, Nat.testBit_or, Bool.and_or_distrib_left]
theorem or_div (a b k : Nat) : (a ||| b) / 2 ^ k = a / 2 ^ k ||| b / 2 ^ k := by
  rw [← Nat.shiftRight_eq_div_pow, ← Nat.shiftRight_eq_div_pow, ← Nat.shiftRight_eq_div_pow, Nat.shiftRight_or_distrib]
theorem or_mul (a b k : Nat) : (a ||| b) * 2 ^ k = a * 2 ^ k ||| b * 2 ^ k := by
  rw [← Nat.shiftLeft_eq, ← Nat.shiftLeft_eq, ← Nat.shiftLeft_eq, Nat.shiftLeft_or_distrib]
theorem or_and (a b m : Nat) : (a ||| b) &&& m = a &&& m ||| b &&& m := Nat.and_or_distrib_right a b m
theorem or_four (a b c d : Nat) : (a ||| b) ||| (c ||| d) = (a ||| c) ||| (b ||| d) := by
  refine Nat.eq_of_testBit_eq fun i => ?_
  simp only [Nat.testBit_or]
  cases a.testBit i <;> cases b.testBit i <;> cases c.testBit i <;> cases d.testBit i <;> rfl
theorem stN_or (a b k m : Nat) : stN (a ||| b) k m = stN a k m ||| stN b k m := by
  unfold stN
  rw [or_div, or_and, or_and, or_mul, or_mod, or_four]
def rvN (n : Nat) : Nat :=
  let x := stN (stN (stN (stN (stN n 1 6148914691236517205) 2 3689348814741910323) 4 1085102592571150095) 8 71777214294589695) 16 281470681808895
  (x / 2 ^ 32) ||| ((x * 2 ^ 32) % 2 ^ 64)
theorem rvN_or (a b : Nat) : rvN (a ||| b) = rvN a ||| rvN b := by
  unfold rvN
  simp only [stN_or]
  rw [or_div, or_mul, or_mod, or_four]
theorem rv_nat {n : Nat} (hn : n < 2 ^ 64) : rvI (n : Int) = ((rvN n : Nat) : Int) := by
  have h1 := stN_lt (n := n) (k := 1) (m := 6148914691236517205) (by decide)
  have e1 := st_nat (n := n) (k := 1) (m := 6148914691236517205) hn (by decide)
  have h2 := stN_lt (n := stN n 1 6148914691236517205) (k := 2) (m := 3689348814741910323) (by decide)
  have e2 := st_nat (k := 2) (m := 3689348814741910323) h1 (by decide)
  have h3 := stN_lt (n := stN (stN n 1 6148914691236517205) 2 3689348814741910323) (k := 4) (m := 1085102592571150095) (by decide)
  have e3 := st_nat (k := 4) (m := 1085102592571150095) h2 (by decide)
  have h4 := stN_lt (n := stN (stN (stN n 1 6148914691236517205) 2 3689348814741910323) 4 1085102592571150095) (k := 8) (m := 71777214294589695) (by decide)
  have e4 := st_nat (k := 8) (m := 71777214294589695) h3 (by decide)
  have h5 := stN_lt (n := stN (stN (stN (stN n 1 6148914691236517205) 2 3689348814741910323) 4 1085102592571150095) 8 71777214294589695) (k := 16) (m := 281470681808895) (by decide)
  have e5 := st_nat (k := 16) (m := 281470681808895) h4 (by decide)
  unfold rvI rbI
  rw [show (2 : Int) = ((2 ^ 1 : Nat) : Int) from rfl, show (6148914691236517205 : Int) = ((6148914691236517205 : Nat) : Int) from rfl, e1, show (4 : Int) = ((2 ^ 2 : Nat) : Int) from rfl, show (3689348814741910323 : Int) = ((3689348814741910323 : Nat) : Int) from rfl, e2,
    show (16 : Int) = ((2 ^ 4 : Nat) : Int) from rfl, show (1085102592571150095 : Int) = ((1085102592571150095 : Nat) : Int) from rfl, e3, show (256 : Int) = ((2 ^ 8 : Nat) : Int) from rfl, show (71777214294589695 : Int) = ((71777214294589695 : Nat) : Int) from rfl, e4,
    show (65536 : Int) = ((2 ^ 16 : Nat) : Int) from rfl, show (281470681808895 : Int) = ((281470681808895 : Nat) : Int) from rfl, e5]
  rw [show (4294967296 : Int) = ((2 ^ 32 : Nat) : Int) from rfl, ← Int.natCast_mul, wrapM]
  show Go.bits .or .u64 ((_ / 2 ^ 32 : Nat) : Int) _ = _
  rw [bits_orU (Nat.lt_of_le_of_lt (Nat.div_le_self _ _) h5) (Nat.mod_lt _ (by decide))]
  rfl
/-- What is reversed of a set's first causes. -/
def rvM (q : Nat → Bool) : Nat → Nat
  | 0 => 0
  | k + 1 => if q k = true then rvM q k ||| 2 ^ (63 - k) else rvM q k
theorem rvM_bit (q : Nat → Bool) : ∀ n, n ≤ 15 → ∀ j, (rvM q n).testBit j = (decide (63 < j + n ∧ j ≤ 63) && q (63 - j))
  | 0, _, j => by simp [rvM]; omega
  | n + 1, h, j => by
    have ih := rvM_bit q n (by omega) j
    simp only [rvM]
    by_cases c : j = 63 - n
    · subst c
      have e : 63 - (63 - n) = n := by omega
      rw [e] at ih ⊢
      have d1 : decide (63 < 63 - n + (n + 1) ∧ 63 - n ≤ 63) = true := decide_eq_true (by omega)
      rw [d1, Bool.true_and]
      cases hq : q n with
      | true => rw [if_pos rfl, Nat.testBit_or, Nat.testBit_two_pow]; simp
      | false => rw [if_neg (by simp), ih, hq, Bool.and_false]
    · have d1 : decide (63 < j + (n + 1) ∧ j ≤ 63) = decide (63 < j + n ∧ j ≤ 63) := by rw [decide_eq_decide]; omega
      rw [d1, ← ih]
      split
      · rw [Nat.testBit_or, Nat.testBit_two_pow, decide_eq_false (fun e => c e.symm), Bool.or_false]
      · rfl
theorem rvN_pow : ∀ k, k < 15 → rvN (2 ^ k) = 2 ^ (63 - k) := by decide +kernel
theorem rvN_0 : rvN 0 = 0 := by decide +kernel
theorem rvN_M (q : Nat → Bool) : ∀ n, n ≤ 15 → rvN (mkM q n) = rvM q n
  | 0, _ => rvN_0
  | n + 1, h => by
    have ih := rvN_M q n (by omega)
    simp only [mkM, rvM]
    split
    · rw [rvN_or, ih, rvN_pow n (by omega)]
    · exact ih
theorem mkM_self {A : Nat} (h : A < 32768) : mkM A.testBit 15 = A := by
  refine Nat.eq_of_testBit_eq fun i => ?_
  rw [mkM_bit]
  by_cases c : i < 15
  · rw [decide_eq_true c, Bool.true_and]
  · rw [decide_eq_false c, Bool.false_and, Nat.testBit_lt_two_pow (Nat.lt_of_lt_of_le (show A < 2 ^ 15 by omega) (Nat.pow_le_pow_right (by decide) (by omega)))]
theorem rv_bit {A : Nat} (h : A < 32768) (j : Nat) : (rvN A).testBit j = (decide (63 < j + 15 ∧ j ≤ 63) && A.testBit (63 - j)) := by
  have := rvN_M A.testBit 15 (Nat.le_refl _)
  rw [mkM_self h] at this
  rw [this, rvM_bit _ _ (Nat.le_refl _)]
theorem lt_bit {x y i : Nat} (h1 : x.testBit i = false) (h2 : y.testBit i = true) (h3 : ∀ j, i < j → x.testBit j = y.testBit j) : x < y := by
  have e : x / 2 ^ (i + 1) = y / 2 ^ (i + 1) := by
    rw [← Nat.shiftRight_eq_div_pow, ← Nat.shiftRight_eq_div_pow]
    refine Nat.eq_of_testBit_eq fun j => ?_
    rw [Nat.testBit_shiftRight, Nat.testBit_shiftRight]
    exact h3 _ (by omega)
  have a : x % 2 ^ (i + 1) < 2 ^ i := Nat.lt_pow_two_of_testBit _ fun j hj => by
    rw [Nat.testBit_mod_two_pow]
    by_cases c : j = i
    · subst c; rw [h1, Bool.and_false]
    · rw [decide_eq_false (by omega)]; rfl
  have b : 2 ^ i ≤ y % 2 ^ (i + 1) := Nat.ge_two_pow_of_testBit (by rw [Nat.testBit_mod_two_pow, h2, decide_eq_true (by omega)]; rfl)
  have c := Nat.div_add_mod x (2 ^ (i + 1))
  have d := Nat.div_add_mod y (2 ^ (i + 1))
  rw [e] at c
  omega
theorem lex_rv {A B : Nat} (hA : A < 32768) (hB : B < 32768) (h : LexB A B) : rvN B < rvN A := by
  obtain ⟨i, h1, h2, h3⟩ := h
  have hi := lt15_bit hA h1
  refine lt_bit (i := 63 - i) ?_ ?_ fun j hj => ?_
  · rw [rv_bit hB, show 63 - (63 - i) = i by omega, h2, Bool.and_false]
  · rw [rv_bit hA, show 63 - (63 - i) = i by omega, h1, decide_eq_true (by omega)]; rfl
  · rw [rv_bit hA, rv_bit hB]
    by_cases c : 63 < j + 15 ∧ j ≤ 63
    · rw [decide_eq_true c, Bool.true_and, Bool.true_and, h3 (63 - j) (by omega)]
    · rw [decide_eq_false c]; rfl
end Go.Bl
namespace Go.Proofs.YtfcpmblmklibjaaGreat
open Go.Lw Go.Gl Go.Bl Go.RowKit Go.Sort
theorem lt_lex {s t : Nat} (hs : s < 32768) (ht : t < 32768) : ltOf cfS s t = true ↔ LexB s t := by
  have key : ltOf cfS s t = decide (rvN t < rvN s) := by
    unfold ltOf cfS
    rw [wrapM, wrapM, Nat.mod_eq_of_lt (by omega), Nat.mod_eq_of_lt (by omega), rv_nat (by omega), rv_nat (by omega)]
    unfold cpI
    rw [decide_eq_decide]
    split
    · simp; omega
    · split
      · simp; omega
      · simp; omega
  rw [key, decide_eq_true_eq]
  constructor
  · intro h
    by_cases c : s = t
    · subst c; omega
    · rcases lex_tot c with h1 | h1
      · exact h1
      · have := lex_rv ht hs h1; omega
  · exact lex_rv hs ht
/-- The list of the smallest sets is ordered. -/
theorem srt_lex {l : List Nat} (hl : ∀ x ∈ l, x < 32768) (hn : l.Nodup) (h : SrtL l) : l.Pairwise LexB := by
  rw [List.pairwise_iff_getElem]
  intro i j hi hj hij
  have h1 := h i j _ _ hij (List.getElem?_eq_getElem hi) (List.getElem?_eq_getElem hj)
  have hne : l[i] ≠ l[j] := fun e => by
    have := (List.nodup_iff_pairwise_ne.1 hn)
    rw [List.pairwise_iff_getElem] at this
    exact this i j hi hj hij e
  rcases lex_tot hne with h2 | h2
  · exact h2
  · rw [(lt_lex (hl _ (List.getElem_mem hj)) (hl _ (List.getElem_mem hi))).2 h2] at h1; cases h1
end Go.Proofs.YtfcpmblmklibjaaGreat
set_option linter.unusedVariables false
namespace Go.Proofs.YtfcpmblmklibjaaGreat
open Go.Lw Go.Gl Go.Bl Go.RowKit

theorem ls_no {ts : List Tq} (ht : ∀ t ∈ ts, sndB t.p = true) : ∀ s ∈ lsL ts, mtB s (clA ts) = false := fun s hs => by
  rw [lsL_map] at hs
  obtain ⟨t, h1, rfl⟩ := List.mem_map.1 hs
  have h2 := cbN_lt (ht t (List.mem_filter.1 h1).1)
  have h3 : clA ts < 32768 := clN_lt ht _
  cases c : mtB (clrB (cbN t.p) (clA ts)) (clA ts) with
  | false => rfl
  | true =>
    obtain ⟨i, a, b⟩ := (mtB_iff _ _).1 c
    rw [clrB_bit _ _ _ (by omega) (by omega), b] at a
    simp at a
theorem ex_iff (ts : List Tq) {A : Nat} (hA : A < 32768) : (mtB A (clA ts) = false ∧ exB (lfL ts) A = true) ↔ Ex (clA ts) (lsL ts) A := by
  unfold Ex
  rw [ex_ls, List.all_eq_true]
  constructor
  · rintro ⟨a, b⟩; exact ⟨hA, a, b⟩
  · rintro ⟨_, a, b⟩; exact ⟨a, b⟩
/-- All smallest explanations, as the definitions say. -/
theorem allOf_f (ts : List Tq) (h : alE ts = 0) (V : View) (v : Value) (hs : Sl V tqe 4 v ts) : Fnc Tryz.prog 42 [v] V fun r V' => ∃ L : List Nat, SlI V' r (ic L) ∧ L.Nodup ∧ L.Pairwise LexB ∧ ∀ x, x ∈ L ↔ Ex (clA ts) (lsL ts) x ∧ ∀ y, Ex (clA ts) (lsL ts) y → cnt x ≤ cnt y := by
  obtain ⟨h0, hz⟩ := alE_zero h
  obtain ⟨h16, ht⟩ := trE_ok h0
  have hcl : clA ts < 32768 := clN_lt ht _
  have hlt := ls_lt (no := clA ts) ht ts.length
  have hne : ∀ s ∈ lsL ts, s ≠ 0 ∧ s < 32768 := fun s hs => ⟨fun e => by rw [List.any_eq_false] at hz; exact hz s hs (by rw [e]; rfl), hlt s hs⟩
  obtain ⟨x0, hx0⟩ := gsK_ex hne _ (Nat.le_refl _)
  have hx0e := gs_ex (ls_no ht) hx0
  refine fn_of Tryz.func42 rfl Tryz.ntmps42 (Nat.le_of_ble_eq_true rfl) ?_
  intro w0 hw0
  refine At.nrm ?_
  refine At.ktext (.q 0 .done) ?_
  refine AtT.kassign ?_
  refine AtT.done ?_
  refine At.nrm ?_
  refine At.ktext (.q 0 (.n false 1 (.q 2 (.n false 3 (.q 4 (.q 5 .done)))))) ?_
  refine AtT.kmove ?_
  refine AtT.kcall rfl rfl ok15 (left_f ts ht (by omega) _ _ hs) ?_
  rintro v11 V11 hV11 hs11; obtain ⟨a1, c1, rfl, _⟩ := id hs11
  refine AtT.kmove ?_
  refine AtT.kcallP rfl rfl ok54 (clearOf_f ts ht _ _ (hs.le hV11)) ?_
  rintro _ rfl
  refine AtT.kassign ?_
  refine AtT.kassign ?_
  refine AtT.done ?_
  refine At.nrm ?_
  refine At.ktext (.q 0 .done) ?_
  refine AtT.kassign ?_
  refine AtT.done ?_
  refine At.nrm ?_
  refine At.ktext (.q 0 .done) ?_
  refine AtT.kassign ?_
  refine AtT.done ?_
  refine At.nrm ?_
  refine At.ktext (.q 0 .done) ?_
  refine AtT.kassign ?_
  refine AtT.done ?_
  refine At.nrm ?_
  refine At.newRow 3 1 ?_
  refine At.lp (ι := Nat × Nat × List Nat × Option Addr × Nat) (KS := fun g => [(3, .slice a1 (lfL ts).length c1), (4, iv (clA ts)), (5, .slice g.2.2.2.1 g.2.2.1.length g.2.2.2.2), (6, iv g.2.1), (7, iv g.1)])
    (OS := fun g => [.row (.slice g.2.2.2.1 g.2.2.1.length g.2.2.2.2) 3 1 g.2.2.1.length (flat ei (ic g.2.2.1))]) (VS := fun g V' => Le V11 V' ∧ g.1 ≤ 32768 ∧ AlI (clA ts) (lfL ts) g.1 g.2.1 g.2.2.1) (μ := fun g => 32768 - g.1) (0, 15, [], none, 0) ?_ ?_ ?_ ?_
  · exact ⟨rfl, rfl, rfl, rfl, rfl, trivial⟩
  · exact Pt.auto
  · exact ⟨Le.refl _, Nat.zero_le _, alI_0 _ _⟩
  rintro ⟨k, few, out, ao, co⟩ V' ks' O' ⟨hVV, hkl, hal⟩ hk hO hl2
  dsimp only at hkl hal hk hO
  subst hk hO
  have hsl' := hs11.le hVV
  have hV0 := hV11.trans hVV
  have hol := alI_len hal
  have hf15 := hal.f15
  refine At.nrm ?_
  refine At.ktext (.q 0 (.q 1 .done)) ?_
  refine AtT.kmove ?_
  refine AtT.klss ?_
  refine AtT.done ?_
  refine At.nrm ?_
  refine At.condP rfl (fun hp => ?_) (fun hp => ?_)
  · have hk15 : k < 32768 := by omega
    have hck := cntK_le k 15
    have hnx : ∀ (out' : List Nat) (few' : Nat) (a' : Option Addr) (c' : Nat), 32768 - (k + 1) < 32768 - k := fun _ _ _ _ => by omega
    refine At.nrm ?_
    by_cases d1 : k &&& clA ts = 0
    rotate_left
    · have hm : mtB k (clA ts) = true := by unfold mtB; exact decide_eq_true d1
      refine At.ktext (.q 0 (.q 1 (.q 2 (.q 3 (.q 4 (.q 5 (.q 6 (.n false 7 (.q 8 (.q 9 (.q 10 (.q 11 (.n false 12 (.q 13 (.q 14 (.q 15 .done)))))))))))))))) ?_
      refine AtT.kmove ?_
      refine AtT.kmove ?_
      refine AtT.andN rfl trivial rfl rfl rfl rfl (by omega) (by omega) (by decide) (A := k) (B := clA ts) ?_
      refine AtT.kneI ?_
      refine AtT.setT (d := 21) rfl ((by omega)) ?_
      refine AtT.kmove ?_
      all_goals (first | refine AtT.kL 22 ?_ | refine AtT.pcase (d := 22) rfl (fun hg22 => ?_) (fun hg22 => ?_) | refine AtT.bcase (d := 22) rfl (fun hg22 => ?_) (fun hg22 => ?_))
      all_goals (first | refine AtT.kpass ?_ | refine AtT.kpassU ?_ | ((refine AtT.kmove ?_)))
      all_goals (first | refine AtT.kpass ?_ | refine AtT.kpassU ?_ | ((refine AtT.kmove ?_)))
      all_goals (first | refine AtT.kpassN ?_ | refine AtT.kpassNU ?_ | ((fail)))
      all_goals (first | refine AtT.kpass ?_ | refine AtT.kpassU ?_ | ((refine AtT.knot ?_)))
      all_goals (refine AtT.kpick ?_)
      all_goals (refine AtT.kmove ?_)
      all_goals (first | refine AtT.kL 28 ?_ | refine AtT.pcase (d := 28) rfl (fun hg28 => ?_) (fun hg28 => ?_) | refine AtT.bcase (d := 28) rfl (fun hg28 => ?_) (fun hg28 => ?_))
      all_goals (first | refine AtT.kpass ?_ | refine AtT.kpassU ?_ | ((refine AtT.kmove ?_)))
      all_goals (first | refine AtT.kpassN ?_ | refine AtT.kpassNU ?_ | ((fail)))
      all_goals (first | refine AtT.kpass ?_ | refine AtT.kpassU ?_ | ((refine AtT.kmove ?_)))
      all_goals (first | refine AtT.kpass ?_ | refine AtT.kpassU ?_ | ((refine AtT.kgtr ?_)))
      all_goals (refine AtT.kpick ?_)
      all_goals refine AtT.done ?_
      all_goals (refine At.nrm ?_)
      refine At.condT rfl rfl ?_
      refine At.nrm ?_
      refine At.ktext (.q 0 (.q 1 (.q 2 .done))) ?_
      refine AtT.kmove ?_
      first | refine AtT.kadd ?_ | refine AtT.kaddW ?_
      refine AtT.kassign ?_
      refine AtT.done ?_
      refine At.nrm ?_
      refine At.round (k + 1, few, out, ao, co) ?_ ?_ ?_ ?_
      · show 32768 - (k + 1) < 32768 - k; omega
      · exact ⟨hVV, by dsimp only; omega, alI_skip hal (.inl fun hh => by rw [hm] at hh; cases hh.1)⟩
      · exact ⟨rfl, rfl, rfl, rfl, ivs (by dsimp only; omega), trivial⟩
      dsimp only
      · exact Pt.auto
    have hm : mtB k (clA ts) = false := by unfold mtB; exact decide_eq_false (fun hh => hh d1)
    cases d2 : exB (lfL ts) k with
    | false =>
      refine At.ktext (.q 0 (.q 1 (.q 2 (.q 3 (.q 4 (.q 5 (.q 6 (.n false 7 (.q 8 (.q 9 (.q 10 (.q 11 (.n false 12 (.q 13 (.q 14 (.q 15 .done)))))))))))))))) ?_
      refine AtT.kmove ?_
      refine AtT.kmove ?_
      refine AtT.andN rfl trivial rfl rfl rfl rfl (by omega) (by omega) (by decide) (A := k) (B := clA ts) ?_
      refine AtT.kneI ?_
      refine AtT.setF (d := 21) rfl ((by omega)) ?_
      refine AtT.kmove ?_
      all_goals (first | refine AtT.kL 22 ?_ | refine AtT.pcase (d := 22) rfl (fun hg22 => ?_) (fun hg22 => ?_) | refine AtT.bcase (d := 22) rfl (fun hg22 => ?_) (fun hg22 => ?_))
      all_goals (first | refine AtT.kpass ?_ | refine AtT.kpassU ?_ | ((refine AtT.kmove ?_)))
      all_goals (first | refine AtT.kpass ?_ | refine AtT.kpassU ?_ | ((refine AtT.kmove ?_)))
      all_goals (first | refine AtT.kpassN ?_ | refine AtT.kpassNU ?_ | ((refine AtT.kcallP rfl rfl ok56 (explains_f (lfL ts) k (lf_bd ht) (by omega) _ _ hsl') ?_) ; (rintro _ rfl; rw [d2])))
      all_goals (first | refine AtT.kpass ?_ | refine AtT.kpassU ?_ | ((refine AtT.knot ?_)))
      all_goals (refine AtT.setB (d := 26) rfl ((show (!false) = true from rfl)) ?_)
      all_goals (refine AtT.kpick ?_)
      all_goals (refine AtT.kmove ?_)
      all_goals (first | refine AtT.kL 28 ?_ | refine AtT.pcase (d := 28) rfl (fun hg28 => ?_) (fun hg28 => ?_) | refine AtT.bcase (d := 28) rfl (fun hg28 => ?_) (fun hg28 => ?_))
      all_goals (first | refine AtT.kpass ?_ | refine AtT.kpassU ?_ | ((refine AtT.kmove ?_)))
      all_goals (first | refine AtT.kpassN ?_ | refine AtT.kpassNU ?_ | ((fail)))
      all_goals (first | refine AtT.kpass ?_ | refine AtT.kpassU ?_ | ((refine AtT.kmove ?_)))
      all_goals (first | refine AtT.kpass ?_ | refine AtT.kpassU ?_ | ((refine AtT.kgtr ?_)))
      all_goals (refine AtT.kpick ?_)
      all_goals refine AtT.done ?_
      all_goals (refine At.nrm ?_)
      refine At.condT rfl rfl ?_
      refine At.nrm ?_
      refine At.ktext (.q 0 (.q 1 (.q 2 .done))) ?_
      refine AtT.kmove ?_
      first | refine AtT.kadd ?_ | refine AtT.kaddW ?_
      refine AtT.kassign ?_
      refine AtT.done ?_
      refine At.nrm ?_
      refine At.round (k + 1, few, out, ao, co) ?_ ?_ ?_ ?_
      · show 32768 - (k + 1) < 32768 - k; omega
      · exact ⟨hVV, by dsimp only; omega, alI_skip hal (.inl fun hh => by rw [d2] at hh; cases hh.2)⟩
      · exact ⟨rfl, rfl, rfl, rfl, ivs (by dsimp only; omega), trivial⟩
      dsimp only
      · exact Pt.auto
    | true =>
      by_cases d3 : (few : Int) < (cnt k : Int)
      · refine At.ktext (.q 0 (.q 1 (.q 2 (.q 3 (.q 4 (.q 5 (.q 6 (.n false 7 (.q 8 (.q 9 (.q 10 (.q 11 (.n false 12 (.q 13 (.q 14 (.q 15 .done)))))))))))))))) ?_
        refine AtT.kmove ?_
        refine AtT.kmove ?_
        refine AtT.andN rfl trivial rfl rfl rfl rfl (by omega) (by omega) (by decide) (A := k) (B := clA ts) ?_
        refine AtT.kneI ?_
        refine AtT.setF (d := 21) rfl ((by omega)) ?_
        refine AtT.kmove ?_
        all_goals (first | refine AtT.kL 22 ?_ | refine AtT.pcase (d := 22) rfl (fun hg22 => ?_) (fun hg22 => ?_) | refine AtT.bcase (d := 22) rfl (fun hg22 => ?_) (fun hg22 => ?_))
        all_goals (first | refine AtT.kpass ?_ | refine AtT.kpassU ?_ | ((refine AtT.kmove ?_)))
        all_goals (first | refine AtT.kpass ?_ | refine AtT.kpassU ?_ | ((refine AtT.kmove ?_)))
        all_goals (first | refine AtT.kpassN ?_ | refine AtT.kpassNU ?_ | ((refine AtT.kcallP rfl rfl ok56 (explains_f (lfL ts) k (lf_bd ht) (by omega) _ _ hsl') ?_) ; (rintro _ rfl; rw [d2])))
        all_goals (first | refine AtT.kpass ?_ | refine AtT.kpassU ?_ | ((refine AtT.knot ?_)))
        all_goals (refine AtT.setB (d := 26) rfl ((show (!true) = false from rfl)) ?_)
        all_goals (refine AtT.kpick ?_)
        all_goals (refine AtT.kmove ?_)
        all_goals (first | refine AtT.kL 28 ?_ | refine AtT.pcase (d := 28) rfl (fun hg28 => ?_) (fun hg28 => ?_) | refine AtT.bcase (d := 28) rfl (fun hg28 => ?_) (fun hg28 => ?_))
        all_goals (first | refine AtT.kpass ?_ | refine AtT.kpassU ?_ | ((refine AtT.kmove ?_)))
        all_goals (first | refine AtT.kpassN ?_ | refine AtT.kpassNU ?_ | ((refine AtT.kcallP rfl rfl ok78 (count_f k (by omega) _) ?_) ; (rintro _ rfl)))
        all_goals (first | refine AtT.kpass ?_ | refine AtT.kpassU ?_ | ((refine AtT.kmove ?_)))
        all_goals (first | refine AtT.kpass ?_ | refine AtT.kpassU ?_ | ((refine AtT.kgtr ?_)))
        all_goals (refine AtT.setT (d := 32) rfl (d3) ?_)
        all_goals (refine AtT.kpick ?_)
        all_goals refine AtT.done ?_
        all_goals (refine At.nrm ?_)
        refine At.condT rfl rfl ?_
        refine At.nrm ?_
        refine At.ktext (.q 0 (.q 1 (.q 2 .done))) ?_
        refine AtT.kmove ?_
        first | refine AtT.kadd ?_ | refine AtT.kaddW ?_
        refine AtT.kassign ?_
        refine AtT.done ?_
        refine At.nrm ?_
        refine At.round (k + 1, few, out, ao, co) ?_ ?_ ?_ ?_
        · show 32768 - (k + 1) < 32768 - k; omega
        · exact ⟨hVV, by dsimp only; omega, by dsimp only; exact alI_skip hal (.inr (by omega))⟩
        · exact ⟨rfl, rfl, rfl, rfl, ivs (by dsimp only; omega), trivial⟩
        dsimp only
        · exact Pt.auto
      refine At.ktext (.q 0 (.q 1 (.q 2 (.q 3 (.q 4 (.q 5 (.q 6 (.n false 7 (.q 8 (.q 9 (.q 10 (.q 11 (.n false 12 (.q 13 (.q 14 (.q 15 .done)))))))))))))))) ?_
      refine AtT.kmove ?_
      refine AtT.kmove ?_
      refine AtT.andN rfl trivial rfl rfl rfl rfl (by omega) (by omega) (by decide) (A := k) (B := clA ts) ?_
      refine AtT.kneI ?_
      refine AtT.setF (d := 21) rfl ((by omega)) ?_
      refine AtT.kmove ?_
      all_goals (first | refine AtT.kL 22 ?_ | refine AtT.pcase (d := 22) rfl (fun hg22 => ?_) (fun hg22 => ?_) | refine AtT.bcase (d := 22) rfl (fun hg22 => ?_) (fun hg22 => ?_))
      all_goals (first | refine AtT.kpass ?_ | refine AtT.kpassU ?_ | ((refine AtT.kmove ?_)))
      all_goals (first | refine AtT.kpass ?_ | refine AtT.kpassU ?_ | ((refine AtT.kmove ?_)))
      all_goals (first | refine AtT.kpassN ?_ | refine AtT.kpassNU ?_ | ((refine AtT.kcallP rfl rfl ok56 (explains_f (lfL ts) k (lf_bd ht) (by omega) _ _ hsl') ?_) ; (rintro _ rfl; rw [d2])))
      all_goals (first | refine AtT.kpass ?_ | refine AtT.kpassU ?_ | ((refine AtT.knot ?_)))
      all_goals (refine AtT.setB (d := 26) rfl ((show (!true) = false from rfl)) ?_)
      all_goals (refine AtT.kpick ?_)
      all_goals (refine AtT.kmove ?_)
      all_goals (first | refine AtT.kL 28 ?_ | refine AtT.pcase (d := 28) rfl (fun hg28 => ?_) (fun hg28 => ?_) | refine AtT.bcase (d := 28) rfl (fun hg28 => ?_) (fun hg28 => ?_))
      all_goals (first | refine AtT.kpass ?_ | refine AtT.kpassU ?_ | ((refine AtT.kmove ?_)))
      all_goals (first | refine AtT.kpassN ?_ | refine AtT.kpassNU ?_ | ((refine AtT.kcallP rfl rfl ok78 (count_f k (by omega) _) ?_) ; (rintro _ rfl)))
      all_goals (first | refine AtT.kpass ?_ | refine AtT.kpassU ?_ | ((refine AtT.kmove ?_)))
      all_goals (first | refine AtT.kpass ?_ | refine AtT.kpassU ?_ | ((refine AtT.kgtr ?_)))
      all_goals (refine AtT.setF (d := 32) rfl (d3) ?_)
      all_goals (refine AtT.kpick ?_)
      all_goals refine AtT.done ?_
      all_goals (refine At.nrm ?_)
      refine At.condF rfl rfl ?_
      refine At.nrm ?_
      refine At.ktext (.q 0 (.n false 1 (.q 2 (.q 3 .done)))) ?_
      refine AtT.kmove ?_
      refine AtT.kcallP rfl rfl ok78 (count_f k (by omega) _) ?_
      rintro _ rfl
      refine AtT.kmove ?_
      refine AtT.klss ?_
      refine AtT.done ?_
      refine At.nrm ?_
      refine At.condP rfl (fun d4 => ?_) (fun d4 => ?_)
      · refine At.nrm ?_
        refine At.ktext (.q 0 (.n false 1 (.q 2 (.q 3 .done)))) ?_
        refine AtT.kmove ?_
        refine AtT.kcallP rfl rfl ok78 (count_f k (by omega) _) ?_
        rintro _ rfl
        refine AtT.kassign ?_
        refine AtT.kassign ?_
        refine AtT.done ?_
        refine At.nrm ?_
        refine At.newRow 3 1 ?_
        refine At.ktext (.q 0 (.q 1 (.n false 2 (.n true 3 (.q 4 .done))))) ?_
        refine AtT.kmove ?_
        refine AtT.kmove ?_
        refine AtT.kbsliceG (bs38_1_0 _) ?_
        intro q42 V42 hV42 hq42
        have g42 : Le V V42 := by first | exact hV42 | exact Le.trans (by assumption) hV42
        first | refine AtT.kappend Tryz.underlying38 rw3 ?_
        intro a43 c43
        refine AtT.kassign ?_
        refine AtT.done ?_
        refine At.nrm ?_
        refine At.ktext (.q 0 (.q 1 (.q 2 .done))) ?_
        refine AtT.kmove ?_
        first | refine AtT.kadd ?_ | refine AtT.kaddW ?_
        refine AtT.kassign ?_
        refine AtT.done ?_
        refine At.nrm ?_
        refine At.round (k + 1, cnt k, [k], a43, c43) ?_ ?_ ?_ ?_
        · show 32768 - (k + 1) < 32768 - k; omega
        · exact ⟨hVV.trans (by first | assumption | exact Le.refl _), by dsimp only; omega, by dsimp only; exact alI_new hal ⟨hm, d2⟩ (by omega)⟩
        · exact ⟨rfl, rfl, rfl, rfl, ivs (by dsimp only; omega), trivial⟩
        dsimp only
        · exact Pt.auto
      · refine At.nrm ?_
        refine At.ktext (.q 0 (.q 1 (.n false 2 (.n true 3 (.q 4 .done))))) ?_
        refine AtT.kmove ?_
        refine AtT.kmove ?_
        refine AtT.kbsliceG (bs38_1_0 _) ?_
        intro q42 V42 hV42 hq42
        have g42 : Le V V42 := by first | exact hV42 | exact Le.trans (by assumption) hV42
        first | refine AtT.kappend Tryz.underlying38 rw3 ?_
        intro a43 c43
        refine AtT.kassign ?_
        refine AtT.done ?_
        refine At.nrm ?_
        refine At.ktext (.q 0 (.q 1 (.q 2 .done))) ?_
        refine AtT.kmove ?_
        first | refine AtT.kadd ?_ | refine AtT.kaddW ?_
        refine AtT.kassign ?_
        refine AtT.done ?_
        refine At.nrm ?_
        refine At.round (k + 1, few, out ++ [k], a43, c43) ?_ ?_ ?_ ?_
        · show 32768 - (k + 1) < 32768 - k; omega
        · exact ⟨hVV.trans (by first | assumption | exact Le.refl _), by dsimp only; omega, by dsimp only; exact alI_add hal ⟨hm, d2⟩ (by omega)⟩
        · dsimp only; rw [List.length_append]; exact ⟨rfl, rfl, rfl, rfl, ivs (by omega), trivial⟩
        dsimp only
        rw [ic_app, flat_snoc, List.length_append]
        · exact Pt.auto
  obtain rfl : k = 32768 := by omega
  have hex0 := (ex_iff ts hx0e.1).2 hx0e
  have hcx0 := cntK_le x0 15
  obtain ⟨e0, he0⟩ : ∃ x, x ∈ out := by
    rcases hal.ne with hf | hf
    · refine ⟨x0, (hal.mem x0).2 ⟨hx0e.1, hex0, ?_⟩⟩
      have := hal.low x0 hx0e.1 hex0
      have e : cnt x0 = cntK x0 15 := rfl
      omega
    · exact hf
  have hpos : 0 < out.length := List.length_pos_iff.2 (List.ne_nil_of_mem he0)
  have hmem : ∀ x, x ∈ out ↔ Ex (clA ts) (lsL ts) x ∧ ∀ y, Ex (clA ts) (lsL ts) y → cnt x ≤ cnt y := fun x => by
    rw [hal.mem]
    constructor
    · rintro ⟨a, b, c⟩
      refine ⟨(ex_iff ts a).1 b, fun y hy => ?_⟩
      have := hal.low y hy.1 ((ex_iff ts hy.1).2 hy); omega
    · rintro ⟨a, b⟩
      have a' := (ex_iff ts a.1).2 a
      obtain ⟨c1', c2', c3'⟩ := (hal.mem e0).1 he0
      have h1 := b e0 ((ex_iff ts c1').1 c2')
      have h2 := hal.low x a.1 a'
      exact ⟨a.1, a', by omega⟩
  have hlt15 : ∀ x ∈ out, x < 32768 := fun x hx => ((hal.mem x).1 hx).1
  have hceq : ∀ x ∈ out, cnt x = few := fun x hx => ((hal.mem x).1 hx).2.2
  refine At.nrm ?_
  refine At.rowBlk2 (v := .slice ao out.length co) Pick.auto (by omega) (fun bb cap rest hbb hcap hcm hrl => ?_)
  cases hbb
  refine At.ktext (.q 0 .done) ?_
  refine AtT.kassign ?_
  refine AtT.done ?_
  refine At.nrm ?_
  refine At.lp (ι := Nat × List Nat) (KS := fun g => [(5, .slice (some ⟨bb, 0, none⟩) out.length co), (8, iv g.1)]) (OS := fun g => [.blk bb (LC (flat ei (ic g.2) ++ rest) 3)])
    (VS := fun g V'' => Le V V'' ∧ 1 ≤ g.1 ∧ g.1 ≤ out.length ∧ g.2.Perm out ∧ (g.2.take g.1).Pairwise LexB) (μ := fun g => out.length - g.1) (1, out) ?_ ?_ ?_ ?_
  · exact ⟨rfl, rfl, trivial⟩
  · exact Pt.auto
  · refine ⟨hV0, Nat.le_refl _, hpos, List.Perm.refl _, ?_⟩
    match out, hpos with
    | x :: out, _ => simp
  rintro ⟨i, L⟩ V2 ks' O' ⟨hV2, hi1, hin, hperm, hpw⟩ hk hO hl3
  dsimp only at hi1 hin hperm hpw hk hO
  subst hk hO
  have hLl := hperm.length_eq
  refine At.nrm ?_
  refine At.ktext (.q 0 (.q 1 (.q 2 (.q 3 .done)))) ?_
  refine AtT.kmove ?_
  refine AtT.kmove ?_
  first | refine AtT.klenS Tryz.underlying38 ?_ | refine AtT.klenR Tryz.underlying38 ?_
  refine AtT.klss ?_
  refine AtT.done ?_
  refine At.nrm ?_
  refine At.condP rfl (fun hp2 => ?_) (fun hp2 => ?_)
  rotate_left
  · have hil : i = L.length := by omega
    rw [hil, List.take_length] at hpw
    refine At.nrm ?_
    refine At.giveB (b := bb) Pick.auto (fun V6 hV6 hb6 => ?_)
    have hs6 := Sl.of_cells (l := ic L) Lw.ei_len (cells_pre hb6) (by rw [ic_len, hLl]; exact hcap) hcm
    rw [ic_len, hLl] at hs6
    refine At.ktext (.q 0 (.q 1 .done)) ?_
    refine AtT.kmove ?_
    refine AtT.kassign ?_
    refine AtT.done ?_
    refine At.nrm ?_
    exact At.ret1 rfl (.tmp rfl) ⟨L, hs6, hperm.nodup_iff.2 hal.nod, hpw, fun x => by rw [hperm.mem_iff, hmem]⟩
  have hiL : i < L.length := by omega
  refine At.nrm ?_
  refine At.ktext (.q 0 (.q 1 .done)) ?_
  refine AtT.kmove ?_
  refine AtT.kassign ?_
  refine AtT.done ?_
  refine At.nrm ?_
  refine At.lp (ι := Nat × List Nat) (KS := fun g => [(5, .slice (some ⟨bb, 0, none⟩) out.length co), (8, iv i), (9, iv g.1)]) (OS := fun g => [.blk bb (LC (flat ei (ic g.2) ++ rest) 3)])
    (VS := fun g V'' => Le V V'' ∧ g.1 ≤ i ∧ g.2.Perm out ∧ InsI g.2 i g.1) (μ := fun g => g.1) (i, L) ?_ ?_ ?_ ?_
  · exact ⟨rfl, rfl, rfl, trivial⟩
  · exact Pt.auto
  · exact ⟨hV2, Nat.le_refl _, hperm, ins_start hpw⟩
  rintro ⟨k, L2⟩ V3 ks' O' ⟨hV3, hki, hperm2, hins⟩ hk hO hl4
  dsimp only at hki hperm2 hins hk hO
  subst hk hO
  have hL2 := hperm2.length_eq
  have hend : ∀ (hp : k = 0 ∨ ∀ x y, L2[k - 1]? = some x → L2[k]? = some y → LexB x y), (L2.take (i + 1)).Pairwise LexB := fun hp => ins_end hki (by omega) hins hp (fun x y z => lex_trans)
  refine At.nrm ?_
  by_cases d1 : 0 < (k : Int)
  rotate_left
  · refine At.draw (.q 0 (.q 1 (.q 2 (.q 3 (.q 4 (.q 5 (.q 6 (.q 8 (.q 9 (.q 10 (.q 11 (.q 12 (.n false 7 (.n false 13 (.n false 14 (.q 15 .done)))))))))))))))) ffm (by kernel_rfl) ?_
    refine AtT.kmove ?_
    refine AtT.kgtr ?_
    refine AtT.setF (d := 52) rfl (d1) ?_
    refine AtT.kmove ?_
    all_goals (first | refine AtT.kL 53 ?_ | refine AtT.pcase (d := 53) rfl (fun hg53 => ?_) (fun hg53 => ?_) | refine AtT.bcase (d := 53) rfl (fun hg53 => ?_) (fun hg53 => ?_))
    all_goals (first | refine AtT.kpass ?_ | refine AtT.kpassU ?_ | ((refine AtT.kmove ?_)))
    all_goals (first | refine AtT.kpass ?_ | refine AtT.kpassU ?_ | ((refine AtT.kmove ?_)))
    all_goals (first | refine AtT.kpass ?_ | refine AtT.kpassU ?_ | ((refine AtT.kidx Tryz.underlying38 tk3 ?_) ; (intro p56 e56 he56 hc56)))
    all_goals (first | refine AtT.kpass ?_ | refine AtT.kpassU ?_ | ((first | refine AtT.kloadO tk3 ?_ | refine AtT.kload tk3 ?_)))
    all_goals (first | refine AtT.kpass ?_ | refine AtT.kpassU ?_ | ((refine AtT.kmove ?_)))
    all_goals (first | refine AtT.kpass ?_ | refine AtT.kpassU ?_ | ((refine AtT.kmove ?_)))
    all_goals (first | refine AtT.kpass ?_ | refine AtT.kpassU ?_ | ((first | refine AtT.ksubt ?_ | refine AtT.ksubW ?_)))
    all_goals (first | refine AtT.kpass ?_ | refine AtT.kpassU ?_ | ((refine AtT.kidx Tryz.underlying38 tk3 ?_) ; (intro p62 e62 he62 hc62)))
    all_goals (first | refine AtT.kpass ?_ | refine AtT.kpassU ?_ | ((first | refine AtT.kloadO tk3 ?_ | refine AtT.kload tk3 ?_)))
    all_goals (first | refine AtT.kpassN ?_ | refine AtT.kpassNU ?_ | ((fail)))
    all_goals (first | refine AtT.kpassN ?_ | refine AtT.kpassNU ?_ | ((fail)))
    all_goals (first | refine AtT.kpassN ?_ | refine AtT.kpassNU ?_ | ((fail)))
    all_goals (refine AtT.kpick ?_)
    all_goals refine AtT.done ?_
    all_goals (refine At.nrm ?_)
    refine At.condF rfl rfl ?_
    refine At.nrm ?_
    refine At.ktext (.q 0 (.q 1 (.q 2 .done))) ?_
    refine AtT.kmove ?_
    first | refine AtT.kadd ?_ | refine AtT.kaddW ?_
    refine AtT.kassign ?_
    refine AtT.done ?_
    refine At.nrm ?_
    refine At.round (i + 1, L2) ?_ ?_ ?_ ?_
    · show out.length - (i + 1) < out.length - i; omega
    · exact ⟨hV3, by dsimp only; omega, by dsimp only; omega, hperm2, hend (.inl (by omega))⟩
    · exact ⟨rfl, ivs (by dsimp only; omega), trivial⟩
    · exact Pt.auto
  obtain ⟨y, hy⟩ : ∃ y, L2[k]? = some y := ⟨_, List.getElem?_eq_getElem (by omega)⟩
  obtain ⟨x, hx⟩ : ∃ x, L2[k - 1]? = some x := ⟨_, List.getElem?_eq_getElem (by omega)⟩
  have hyo := (hperm2.mem_iff).1 (List.mem_of_getElem? hy)
  have hxo := (hperm2.mem_iff).1 (List.mem_of_getElem? hx)
  have hy15 := hlt15 y hyo
  have hx15 := hlt15 x hxo
  have hbl := bef_lex hy15 hx15 ((hceq y hyo).trans (hceq x hxo).symm)
  have hk1 : (k : Int) - 1 = ((k - 1 : Nat) : Int) := by omega
  have hfl : (flat ei (ic L2)).length = L2.length := by rw [flat_len Lw.ei_len, ic_len, Nat.mul_one]
  have hat : ∀ (j z : Nat), L2[j]? = some z → (flat ei (ic L2) ++ rest)[j * 1]? = some (iv (z : Int)) := fun j z hz => by
    have hj := (List.getElem?_eq_some_iff.1 hz).1
    rw [Nat.mul_one, List.getElem?_append_left (by omega), flat_ei, List.getElem?_map, ic_at hz]; rfl
  have hyk := hat k y hy
  have hxk := hat (k - 1) x hx
  have hfull : (flat ei (ic L2) ++ rest).length = co * 1 := by
    rw [← hrl, List.length_append, List.length_append, flat_len Lw.ei_len, flat_len Lw.ei_len, ic_len, ic_len, hL2]
  refine At.cutG (ι := Bool) (fun q => [(5, .slice (some ⟨bb, 0, none⟩) out.length co), (8, iv i), (9, iv k), (66, .bool q)]) (fun _ => [.blk bb (LC (flat ei (ic L2) ++ rest) 3)]) (fun q V'' => Le V3 V'' ∧ q = befB (bitL y 15) (bitL x 15)) ?_ ?_
  · refine At.draw (.q 0 (.q 1 (.q 2 (.q 3 (.q 4 (.q 5 (.q 6 (.q 8 (.q 9 (.q 10 (.q 11 (.q 12 (.n false 7 (.n false 13 (.n false 14 (.q 15 .done)))))))))))))))) ffm (by kernel_rfl) ?_
    refine AtT.kmove ?_
    refine AtT.kgtr ?_
    refine AtT.setT (d := 52) rfl (d1) ?_
    refine AtT.kmove ?_
    all_goals (first | refine AtT.kL 53 ?_ | refine AtT.pcase (d := 53) rfl (fun hg53 => ?_) (fun hg53 => ?_) | refine AtT.bcase (d := 53) rfl (fun hg53 => ?_) (fun hg53 => ?_))
    all_goals (first | refine AtT.kpass ?_ | refine AtT.kpassU ?_ | ((refine AtT.kmove ?_)))
    all_goals (first | refine AtT.kpass ?_ | refine AtT.kpassU ?_ | ((refine AtT.kmove ?_)))
    all_goals (first | refine AtT.kpass ?_ | refine AtT.kpassU ?_ | ((refine AtT.idxZ rfl ⟨_, _, rfl, rfl, rfl⟩ Tryz.underlying38 tk3 rfl rfl (by omega) (by decide) ?_)))
    all_goals (first | refine AtT.kpass ?_ | refine AtT.kpassU ?_ | ((refine AtT.loadO rfl ⟨_, _, rfl, rfl, rfl⟩ rfl tk3 Pick.auto hyk (by decide) ?_)))
    all_goals (first | refine AtT.kpass ?_ | refine AtT.kpassU ?_ | ((refine AtT.kmove ?_)))
    all_goals (first | refine AtT.kpass ?_ | refine AtT.kpassU ?_ | ((refine AtT.kmove ?_)))
    all_goals (first | refine AtT.kpass ?_ | refine AtT.kpassU ?_ | ((first | refine AtT.ksubt ?_ | refine AtT.ksubW ?_)))
    all_goals (rw [hk1])
    all_goals (first | refine AtT.kpass ?_ | refine AtT.kpassU ?_ | ((refine AtT.idxZ rfl ⟨_, _, rfl, rfl, rfl⟩ Tryz.underlying38 tk3 rfl rfl (by omega) (by decide) ?_)))
    all_goals (first | refine AtT.kpass ?_ | refine AtT.kpassU ?_ | ((refine AtT.loadO rfl ⟨_, _, rfl, rfl, rfl⟩ rfl tk3 Pick.auto hxk (by decide) ?_)))
    all_goals (first | refine AtT.kpassN ?_ | refine AtT.kpassNU ?_ | ((refine AtT.kcall rfl rfl ok64 (bits_f y 15 (by omega) (by decide) _) ?_) ; (rintro v58 V58 hV58 hs58)))
    all_goals (first | refine AtT.kpassN ?_ | refine AtT.kpassNU ?_ | ((refine AtT.kcall rfl rfl ok64 (bits_f x 15 (by omega) (by decide) _) ?_) ; (rintro v64 V64 hV64 hs64)))
    all_goals (first | refine AtT.kpassN ?_ | refine AtT.kpassNU ?_ | ((refine AtT.kcallP rfl rfl ok79 (before_f (bitL y 15) (bitL x 15) _ _ _ (by first | exact hs58 | exact hs58.le hV64) (by first | exact hs64 | exact hs64.le hV58)) ?_) ; (rintro _ rfl)))
    all_goals (refine AtT.kpick ?_)
    all_goals refine AtT.done ?_
    all_goals (refine At.nrm ?_)
    all_goals (exact At.meetG (befB (bitL y 15) (bitL x 15)) ⟨by first | exact hV58.trans hV64 | exact hV64.trans hV58, rfl⟩ ⟨rfl, rfl, rfl, rfl, trivial⟩ Pt.auto)
  rintro q V4 ks' O' ⟨hV4, hq⟩ hk hO hl5
  subst hk hO
  refine At.cond rfl (fun hc => ?_) (fun hc => ?_)
  rotate_left
  · have hnl : ¬ LexB y x := fun hh => by rw [hq, hbl.2 hh] at hc; cases hc
    have hne : x ≠ y := fun e => by
      subst e
      have hnd := hperm2.nodup_iff.2 hal.nod
      obtain ⟨p1, e1⟩ := List.getElem?_eq_some_iff.1 hx
      obtain ⟨p2, e2⟩ := List.getElem?_eq_some_iff.1 hy
      have := (List.nodup_iff_pairwise_ne.1 hnd)
      rw [List.pairwise_iff_getElem] at this
      exact this (k - 1) k p1 p2 (by omega) (by rw [e1, e2])
    have hxy : LexB x y := (lex_tot hne).resolve_right hnl
    refine At.nrm ?_
    refine At.ktext (.q 0 (.q 1 (.q 2 .done))) ?_
    refine AtT.kmove ?_
    first | refine AtT.kadd ?_ | refine AtT.kaddW ?_
    refine AtT.kassign ?_
    refine AtT.done ?_
    refine At.nrm ?_
    refine At.round (i + 1, L2) ?_ ?_ ?_ ?_
    · show out.length - (i + 1) < out.length - i; omega
    · exact ⟨hV3.trans hV4, by dsimp only; omega, by dsimp only; omega, hperm2, hend (.inr fun x' y' h1 h2 => by rw [hx] at h1; rw [hy] at h2; cases h1; cases h2; exact hxy)⟩
    · exact ⟨rfl, ivs (by dsimp only; omega), trivial⟩
    · exact Pt.auto
  have hyx : LexB y x := hbl.1 (by rw [← hq]; exact hc)
  have hs1 := flat_setR Lw.ei_len (ic L2) k (x : Int) rest (by rw [ic_len]; omega)
  rw [ic_set] at hs1
  have hs2 := flat_setR Lw.ei_len (ic (L2.set k x)) (k - 1) (y : Int) rest (by rw [ic_len, List.length_set]; omega)
  rw [ic_set] at hs2
  have hin2 := ins_swap (by omega) hki (by omega) hins hx hy hyx
  have hpe2 := swap_perm (by omega) hx hy
  have hb1 : k * 1 + 1 ≤ (flat ei (ic L2) ++ rest).length := by rw [List.length_append, hfl]; omega
  have hb2 : (k - 1) * 1 + 1 ≤ (flat ei (ic (L2.set k x)) ++ rest).length := by rw [List.length_append, flat_len Lw.ei_len, ic_len, List.length_set]; omega
  refine At.nrm ?_
  refine At.cutG (ι := Unit) (fun _ => [(5, .slice (some ⟨bb, 0, none⟩) out.length co), (8, iv i), (9, iv k)]) (fun _ => [.blk bb (LC (flat ei (ic ((L2.set k x).set (k - 1) y)) ++ rest) 3)]) (fun _ V'' => Le V4 V'') ?_ ?_
  · refine At.drawC [] (.q 0 (.q 1 (.q 2 (.q 3 (.q 4 (.q 5 (.q 6 (.q 7 (.q 8 (.q 10 (.q 11 (.q 12 (.two 9 (.n false 13 (.q 14 (.n false 15 (.q 16 (.n false 17 .done))))) 13 (.n false 9 (.q 14 (.n false 15 (.q 16 (.n false 17 .done)))))))))))))))))) ffm (by kernel_rfl) Pt.auto ?_
    refine AtC.pre (fun hle0 => ?_)
    refine AtC.kq (by (refine AtT.kmove ?_); exact At.knows) ?_
    refine AtC.kq (by (refine AtT.kmove ?_); exact At.knows) ?_
    refine AtC.kq (by (refine AtT.kmove ?_); exact At.knows) ?_
    refine AtC.kq (by (refine AtT.kmove ?_); exact At.knows) ?_
    refine AtC.kq (by (first | refine AtT.ksubt ?_ | refine AtT.ksubW ?_); exact At.knows) ?_
    rw [hk1]
    refine AtC.kq (by (refine AtT.kmove ?_); exact At.knows) ?_
    refine AtC.kq (by (refine AtT.kmove ?_); exact At.knows) ?_
    refine AtC.kq (by (first | refine AtT.ksubt ?_ | refine AtT.ksubW ?_); exact At.knows) ?_
    rw [hk1]
    refine AtC.kq (by (refine AtT.idxZ rfl trivial Tryz.underlying38 tk3 rfl rfl (by omega) (by decide) ?_); exact At.knows) ?_
    refine AtC.kq (by (refine AtT.kmove ?_); exact At.knows) ?_
    refine AtC.kq (by (refine AtT.kmove ?_); exact At.knows) ?_
    refine AtC.kq (by (refine AtT.idxZ rfl trivial Tryz.underlying38 tk3 rfl rfl (by omega) (by decide) ?_); exact At.knows) ?_
    refine AtC.two ?_ ?_
    focus
      refine AtC.nz ?_
      refine AtT.loud ?_
      refine AtT.loadO rfl trivial rfl tk3 Pick.auto hxk (by decide) ?_
      refine AtC.kgo ?_
      refine AtC.nz ?_
      refine AtT.loud ?_
      refine AtT.loadO rfl trivial rfl tk3 Pick.auto hyk (by decide) ?_
      refine AtC.kgo ?_
      refine AtC.kq (by (refine AtT.idxZ rfl trivial Tryz.underlying38 tk3 rfl rfl (by omega) (by decide) ?_); exact At.knows) ?_
      refine AtC.nz ?_
      refine AtT.store rfl trivial rfl rfl tk3 rfl rfl hb1 rfl hs1 (by repeat (first | exact Upd.here | apply Upd.there)) ?_
      refine AtC.kgo ?_
      refine AtC.kq (by (refine AtT.idxZ rfl trivial Tryz.underlying38 tk3 rfl rfl (by omega) (by decide) ?_); exact At.knows) ?_
      refine AtC.nz ?_
      refine AtT.store rfl trivial rfl rfl tk3 rfl rfl hb2 rfl hs2 (by repeat (first | exact Upd.here | apply Upd.there)) ?_
      refine AtC.kgo ?_
      refine AtC.done ?_
    rotate_right
    focus
      refine AtC.nz ?_
      refine AtT.loud ?_
      refine AtT.loadO rfl trivial rfl tk3 Pick.auto hyk (by decide) ?_
      refine AtC.kgo ?_
      refine AtC.nz ?_
      refine AtT.loud ?_
      refine AtT.loadO rfl trivial rfl tk3 Pick.auto hxk (by decide) ?_
      refine AtC.kgo ?_
      refine AtC.kq (by (refine AtT.idxZ rfl trivial Tryz.underlying38 tk3 rfl rfl (by omega) (by decide) ?_); exact At.knows) ?_
      refine AtC.nz ?_
      refine AtT.store rfl trivial rfl rfl tk3 rfl rfl hb1 rfl hs1 (by repeat (first | exact Upd.here | apply Upd.there)) ?_
      refine AtC.kgo ?_
      refine AtC.kq (by (refine AtT.idxZ rfl trivial Tryz.underlying38 tk3 rfl rfl (by omega) (by decide) ?_); exact At.knows) ?_
      refine AtC.nz ?_
      refine AtT.store rfl trivial rfl rfl tk3 rfl rfl hb2 rfl hs2 (by repeat (first | exact Upd.here | apply Upd.there)) ?_
      refine AtC.kgo ?_
      refine AtC.done ?_
    all_goals (refine At.nrm ?_)
    all_goals (exact At.meetG () (Le.refl _) ⟨rfl, rfl, rfl, trivial⟩ Pt.auto)
  rintro _ V5 ks' O' hV5 hk hO hl6
  subst hk hO
  refine At.nrm ?_
  refine At.ktext (.q 0 (.q 1 (.q 2 .done))) ?_
  refine AtT.kmove ?_
  first | refine AtT.ksubt ?_ | refine AtT.ksubW ?_
  refine AtT.kassign ?_
  refine AtT.done ?_
  refine At.nrm ?_
  refine At.round (k - 1, (L2.set k x).set (k - 1) y) ?_ ?_ ?_ ?_
  · show k - 1 < k; omega
  · exact ⟨(hV3.trans hV4).trans hV5, by dsimp only; omega, hpe2.trans hperm2, hin2⟩
  · exact ⟨rfl, rfl, ivs (by dsimp only; omega), trivial⟩
  · exact Pt.auto
end Go.Proofs.YtfcpmblmklibjaaGreat
set_option linter.unusedVariables false
namespace Go.Proofs.YtfcpmblmklibjaaGreat
open Go.Lw Go.Gl Go.Bl Go.RowKit

/-- The smallest explanations, in their order. -/
structure AlS (ts : List Tq) (L : List Nat) : Prop where
  nod : L.Nodup
  ord : L.Pairwise LexB
  mem : ∀ x, x ∈ L ↔ Ex (clA ts) (lsL ts) x ∧ ∀ y, Ex (clA ts) (lsL ts) y → cnt x ≤ cnt y
theorem alS_uniq {ts : List Tq} {L M : List Nat} (h : AlS ts L) (k : AlS ts M) : L = M := lex_ext h.ord k.ord fun x => by rw [h.mem, k.mem]
theorem sms_als {ts : List Tq} {l : List Nat} (h : alE ts = 0) (hs : SmS (lsL ts) SrtL l) : AlS ts l := by
  obtain ⟨h0, _⟩ := alE_zero h
  obtain ⟨_, ht⟩ := trE_ok h0
  obtain ⟨_, hlt⟩ := sms_ne h hs
  exact ⟨hs.nod, srt_lex hlt hs.nod hs.srt, fun x => by rw [hs.mem, gs_min (ls_no ht)]⟩
theorem als_lt {ts : List Tq} {L : List Nat} (h : AlS ts L) : ∀ x ∈ L, x < 32768 := fun x hx => ((h.mem x).1 hx).1.1
theorem als_ne {ts : List Tq} {L : List Nat} (h0 : alE ts = 0) (h : AlS ts L) : L ≠ [] := by
  obtain ⟨h1, hz⟩ := alE_zero h0
  obtain ⟨_, ht⟩ := trE_ok h1
  have hlt := ls_lt (no := clA ts) ht ts.length
  have hne : ∀ s ∈ lsL ts, s ≠ 0 ∧ s < 32768 := fun s hs => ⟨fun e => by rw [List.any_eq_false] at hz; exact hz s hs (by rw [e]; rfl), hlt s hs⟩
  obtain ⟨x0, hx0⟩ := gsK_ex hne _ (Nat.le_refl _)
  have hx0e := gs_ex (ls_no ht) hx0
  intro e
  have key : ∀ n x, cnt x ≤ n → Ex (clA ts) (lsL ts) x → ∃ x, Ex (clA ts) (lsL ts) x ∧ ∀ y, Ex (clA ts) (lsL ts) y → cnt x ≤ cnt y := by
    intro n
    induction n with
    | zero => intro x h1 h2; exact ⟨x, h2, fun y _ => by omega⟩
    | succ n ih =>
      intro x h1 h2
      by_cases c : ∃ y, Ex (clA ts) (lsL ts) y ∧ cnt y < cnt x
      · obtain ⟨y, h3, h4⟩ := c; exact ih y (by omega) h3
      · exact ⟨x, h2, fun y hy => by
          apply Classical.byContradiction
          intro hc; exact c ⟨y, hy, by omega⟩⟩
  obtain ⟨x, hx1, hx2⟩ := key _ x0 (Nat.le_refl _) hx0e
  have := (h.mem x).2 ⟨hx1, hx2⟩
  rw [e] at this; cases this
theorem als_len {ts : List Tq} {L : List Nat} (h : AlS ts L) : L.length ≤ 32768 := pigeonN h.nod (als_lt h)
theorem als_cnt {ts : List Tq} {L : List Nat} (h : AlS ts L) {x y : Nat} (hx : x ∈ L) (hy : y ∈ L) : cnt x = cnt y := by
  have a := ((h.mem x).1 hx).2 y ((h.mem y).1 hy).1
  have b := ((h.mem y).1 hy).2 x ((h.mem x).1 hx).1
  omega
theorem fewestA (ts : List Tq) (h : alE ts = 0) (V : View) (v : Value) (hs : Sl V tqe 4 v ts) : Fnc Tryz.prog 28 [v] V fun r _ => ∃ L x, AlS ts L ∧ L[0]? = some x ∧ r = .tuple #[iv (cnt x), iv 0] :=
  (fewest_ok ts h V v hs).mono fun r V' _ ⟨l, x, h1, h2, h3⟩ => ⟨l, x, sms_als h h1, h2, h3⟩
theorem allA (ts : List Tq) (h : alE ts = 0) (V : View) (v : Value) (hs : Sl V tqe 4 v ts) : Fnc Tryz.prog 29 [v] V fun r V' => ∃ u L, r = .tuple #[u, iv 0] ∧ AlS ts L ∧ SL V' u (L.map fun s => bitL s 15) :=
  (all_ok ts h V v hs).mono fun r V' _ ⟨u, l, h1, h2, h3⟩ => ⟨u, l, h1, sms_als h h2, h3⟩
theorem explainedA (ts : List Tq) (h : alE ts = 0) (V : View) (v : Value) (hs : Sl V tqe 4 v ts) : Fnc Tryz.prog 38 [v] V fun r V' => ∃ p u L, r = .tuple #[.pointer (some p), u, iv 0] ∧ BcV V' p ts ∧ Sl V' ste 1 u L ∧ AlS ts L :=
  (explained_ok ts h V v hs).mono fun r V' _ ⟨p, u, l, h1, h2, h3, h4⟩ => ⟨p, u, l, h1, h2, h3, sms_als h h4⟩
theorem allOfA (ts : List Tq) (h : alE ts = 0) (V : View) (v : Value) (hs : Sl V tqe 4 v ts) : Fnc Tryz.prog 42 [v] V fun r V' => ∃ L : List Nat, SlI V' r (ic L) ∧ AlS ts L :=
  (allOf_f ts h V v hs).mono fun r V' _ ⟨L, h1, h2, h3, h4⟩ => ⟨L, h1, h2, h3, h4⟩
end Go.Proofs.YtfcpmblmklibjaaGreat
set_option linter.unusedVariables false
namespace Go.Proofs.YtfcpmblmklibjaaGreat
open Go.Lw Go.Gl Go.Bl Go.RowKit

theorem lists_eq_f (ll mm : List (List Int)) (V : View) (v u : Value) (hv : SL V v ll) (hu : SL V u mm) : Fnc Tryz.prog 34 [v, u] V fun r _ => r = .bool (decide (ll = mm)) := by
  obtain ⟨qs, hq, hql, hqs⟩ := hv
  obtain ⟨ps, hp, hpl, hps⟩ := hu
  have hlen := hq.lenLe
  have hlen2 := hp.lenLe
  obtain ⟨a, c, rfl, k1, k2, _⟩ := id hq
  obtain ⟨a', c', rfl, k3, k4, _⟩ := id hp
  clear k1 k2 k3 k4
  refine fn_of Tryz.func34 rfl Tryz.ntmps34 (Nat.le_of_ble_eq_true rfl) ?_
  intro w0 hw0
  refine At.nrm ?_
  refine At.ktext (.q 0 .done) ?_
  refine AtT.kassign ?_
  refine AtT.done ?_
  refine At.nrm ?_
  refine At.ktext (.q 0 (.q 1 (.q 2 (.q 3 (.q 4 .done))))) ?_
  refine AtT.kmove ?_
  first | refine AtT.klenS Tryz.underlying35 ?_ | refine AtT.klenR Tryz.underlying35 ?_
  refine AtT.kmove ?_
  first | refine AtT.klenS Tryz.underlying35 ?_ | refine AtT.klenR Tryz.underlying35 ?_
  refine AtT.kneI ?_
  refine AtT.done ?_
  refine At.nrm ?_
  refine At.condP rfl (fun hb => ?_) (fun hb => ?_)
  · refine At.nrm ?_
    refine At.ktext (.q 0 .done) ?_
    refine AtT.kassign ?_
    refine AtT.done ?_
    refine At.nrm ?_
    refine At.ret1 rfl (.tmp rfl) ?_
    rw [decide_eq_false]
    rintro rfl
    exact hb (by omega)
  have hlm : ll.length = mm.length := by omega
  refine At.nrm ?_
  refine At.ktext (.q 0 .done) ?_
  refine AtT.kassign ?_
  refine AtT.done ?_
  refine At.nrm ?_
  refine At.lp (ι := Nat) (KS := fun k => [(0, .slice a qs.length c), (1, .slice a' ps.length c'), (5, iv k)]) (OS := fun _ => []) (VS := fun k V' => V' = V ∧ k ≤ ll.length ∧ ∀ j, j < k → ll[j]? = mm[j]?) (μ := fun k => ll.length - k) 0 ?_ ?_ ?_ ?_
  · exact ⟨rfl, rfl, rfl, trivial⟩
  · exact Pt.auto
  · exact ⟨rfl, Nat.zero_le _, fun j hj => absurd hj (Nat.not_lt_zero j)⟩
  · rintro k V' ks' O' ⟨rfl, hkl, hok⟩ hk hO hl2
    subst hk hO
    refine At.nrm ?_
    refine At.ktext (.q 0 (.q 1 (.q 2 (.q 3 .done)))) ?_
    refine AtT.kmove ?_
    refine AtT.kmove ?_
    first | refine AtT.klenS Tryz.underlying35 ?_ | refine AtT.klenR Tryz.underlying35 ?_
    refine AtT.klss ?_
    refine AtT.done ?_
    refine At.nrm ?_
    refine At.condP rfl (fun hp' => ?_) (fun hp' => ?_)
    · have hk1 : k < ll.length := by omega
      obtain ⟨x, hx⟩ : ∃ x, qs[k]? = some x := ⟨_, List.getElem?_eq_getElem (by omega)⟩
      obtain ⟨y, hy⟩ : ∃ y, ps[k]? = some y := ⟨_, List.getElem?_eq_getElem (by omega)⟩
      obtain ⟨l, hl⟩ : ∃ l, ll[k]? = some l := ⟨_, List.getElem?_eq_getElem (by omega)⟩
      obtain ⟨m, hm⟩ : ∃ m, mm[k]? = some m := ⟨_, List.getElem?_eq_getElem (by omega)⟩
      have hs1 := hqs k x l hx hl
      have hs2 := hps k y m hy hm
      refine At.nrm ?_
      by_cases hlme : l = m
      · refine At.draw (.q 0 (.q 1 (.q 2 (.q 3 (.q 4 (.q 5 (.q 6 (.q 7 (.n false 8 (.q 9 .done)))))))))) ffm (by kernel_rfl) ?_
        refine AtT.kmove ?_
        refine AtT.kmove ?_
        refine AtT.kidx Tryz.underlying35 tk38 ?_
        intro p19 e19 he19 hc19
        obtain rfl : e19 = x := by have : qs[k]? = some e19 := (by simpa using he19); rw [hx] at this; simpa using this.symm
        first | refine AtT.kloadO tk38 ?_ | refine AtT.kload tk38 ?_
        refine AtT.kmove ?_
        refine AtT.kmove ?_
        refine AtT.kidx Tryz.underlying35 tk38 ?_
        intro p23 e23 he23 hc23
        obtain rfl : e23 = y := by have : ps[k]? = some e23 := (by simpa using he23); rw [hy] at this; simpa using this.symm
        first | refine AtT.kloadO tk38 ?_ | refine AtT.kload tk38 ?_
        refine AtT.kcallP rfl rfl ok33 (ints_f l m _ _ _ hs1 hs2) ?_
        rintro _ rfl
        refine AtT.setT (d := 25) rfl (hlme) ?_
        refine AtT.knot ?_
        refine AtT.setB (d := 26) rfl ((show (!true) = false from rfl)) ?_
        refine AtT.done ?_
        refine At.nrm ?_
        refine At.condF rfl rfl ?_
        refine At.nrm ?_
        refine At.ktext (.q 0 (.q 1 (.q 2 .done))) ?_
        refine AtT.kmove ?_
        first | refine AtT.kadd ?_ | refine AtT.kaddW ?_
        refine AtT.kassign ?_
        refine AtT.done ?_
        refine At.nrm ?_
        refine At.round (k + 1) ?_ ?_ ?_ ?_
        · show ll.length - (k + 1) < ll.length - k; omega
        · refine ⟨rfl, by omega, fun j hj => ?_⟩
          by_cases hjk : j = k
          · subst hjk; rw [hl, hm, hlme]
          · exact hok j (by omega)
        · exact ⟨rfl, rfl, ivs (by omega), trivial⟩
        · exact Pt.auto
      · refine At.draw (.q 0 (.q 1 (.q 2 (.q 3 (.q 4 (.q 5 (.q 6 (.q 7 (.n false 8 (.q 9 .done)))))))))) ffm (by kernel_rfl) ?_
        refine AtT.kmove ?_
        refine AtT.kmove ?_
        refine AtT.kidx Tryz.underlying35 tk38 ?_
        intro p19 e19 he19 hc19
        obtain rfl : e19 = x := by have : qs[k]? = some e19 := (by simpa using he19); rw [hx] at this; simpa using this.symm
        first | refine AtT.kloadO tk38 ?_ | refine AtT.kload tk38 ?_
        refine AtT.kmove ?_
        refine AtT.kmove ?_
        refine AtT.kidx Tryz.underlying35 tk38 ?_
        intro p23 e23 he23 hc23
        obtain rfl : e23 = y := by have : ps[k]? = some e23 := (by simpa using he23); rw [hy] at this; simpa using this.symm
        first | refine AtT.kloadO tk38 ?_ | refine AtT.kload tk38 ?_
        refine AtT.kcallP rfl rfl ok33 (ints_f l m _ _ _ hs1 hs2) ?_
        rintro _ rfl
        refine AtT.setF (d := 25) rfl (hlme) ?_
        refine AtT.knot ?_
        refine AtT.setB (d := 26) rfl ((show (!false) = true from rfl)) ?_
        refine AtT.done ?_
        refine At.nrm ?_
        refine At.condT rfl rfl ?_
        refine At.nrm ?_
        refine At.ktext (.q 0 .done) ?_
        refine AtT.kassign ?_
        refine AtT.done ?_
        refine At.nrm ?_
        refine At.ret1 rfl (.tmp rfl) ?_
        rw [decide_eq_false]
        rintro rfl
        rw [hl] at hm; cases hm
        exact hlme rfl
    · have hlm2 : ll = mm := List.ext_getElem? fun j => by
        by_cases hj : j < ll.length
        · exact hok j (by omega)
        · rw [List.getElem?_eq_none (by omega), List.getElem?_eq_none (by omega)]
      refine At.nrm ?_
      refine At.ktext (.q 0 .done) ?_
      refine AtT.kassign ?_
      refine AtT.done ?_
      refine At.nrm ?_
      exact At.ret1 rfl (.tmp rfl) (by rw [decide_eq_true hlm2])
end Go.Proofs.YtfcpmblmklibjaaGreat
set_option linter.unusedVariables false
namespace Go.Proofs.YtfcpmblmklibjaaGreat
open Go.Lw Go.Gl Go.Bl Go.RowKit

theorem among_f (ll : List (List Int)) (m : List Int) (V : View) (v u : Value) (hv : SL V v ll) (hu : SlI V u m) : Fnc Tryz.prog 20 [v, u] V fun r _ => r = .bool (decide (m ∈ ll)) := by
  obtain ⟨qs, hq, hql, hqs⟩ := hv
  have hlen := hq.lenLe
  obtain ⟨a, c, rfl, k1, k2, _⟩ := id hq
  obtain ⟨a', c', rfl, k3, k4, _⟩ := id hu
  clear k1 k2 k3 k4
  refine fn_of Tryz.func20 rfl Tryz.ntmps20 (Nat.le_of_ble_eq_true rfl) ?_
  intro w0 hw0
  refine At.nrm ?_
  refine At.ktext (.q 0 .done) ?_
  refine AtT.kassign ?_
  refine AtT.done ?_
  refine At.nrm ?_
  refine At.ktext (.q 0 .done) ?_
  refine AtT.kassign ?_
  refine AtT.done ?_
  refine At.nrm ?_
  refine At.lp (ι := Nat) (KS := fun k => [(0, .slice a qs.length c), (1, .slice a' m.length c'), (5, iv k)]) (OS := fun _ => []) (VS := fun k V' => V' = V ∧ k ≤ ll.length ∧ ∀ j, j < k → ll[j]? ≠ some m) (μ := fun k => ll.length - k) 0 ?_ ?_ ?_ ?_
  · exact ⟨rfl, rfl, rfl, trivial⟩
  · exact Pt.auto
  · exact ⟨rfl, Nat.zero_le _, fun j hj => absurd hj (Nat.not_lt_zero j)⟩
  rintro k V' ks' O' ⟨rfl, hkl, hok⟩ hk hO hl2
  subst hk hO
  refine At.nrm ?_
  refine At.ktext (.q 0 (.q 1 (.q 2 (.q 3 .done)))) ?_
  refine AtT.kmove ?_
  refine AtT.kmove ?_
  first | refine AtT.klenS Tryz.underlying35 ?_ | refine AtT.klenR Tryz.underlying35 ?_
  refine AtT.klss ?_
  refine AtT.done ?_
  refine At.nrm ?_
  refine At.condP rfl (fun hp' => ?_) (fun hp' => ?_)
  · have hk1 : k < ll.length := by omega
    obtain ⟨x, hx⟩ : ∃ x, qs[k]? = some x := ⟨_, List.getElem?_eq_getElem (by omega)⟩
    obtain ⟨l, hl⟩ : ∃ l, ll[k]? = some l := ⟨_, List.getElem?_eq_getElem (by omega)⟩
    have hs1 := hqs k x l hx hl
    refine At.nrm ?_
    refine At.ktext (.q 0 (.q 1 (.q 2 (.q 3 (.q 4 (.n false 5 .done)))))) ?_
    refine AtT.kmove ?_
    refine AtT.kmove ?_
    refine AtT.kidx Tryz.underlying35 tk38 ?_
    intro p14 e14 he14 hc14
    obtain rfl : e14 = x := by have : qs[k]? = some e14 := (by simpa using he14); rw [hx] at this; simpa using this.symm
    first | refine AtT.kloadO tk38 ?_ | refine AtT.kload tk38 ?_
    refine AtT.kmove ?_
    refine AtT.kcallP rfl rfl ok33 (ints_f l m _ _ _ hs1 hu) ?_
    rintro _ rfl
    refine AtT.done ?_
    refine At.nrm ?_
    refine At.condP rfl (fun hp3 => ?_) (fun hp3 => ?_)
    · refine At.nrm ?_
      refine At.ktext (.q 0 .done) ?_
      refine AtT.kassign ?_
      refine AtT.done ?_
      refine At.nrm ?_
      exact At.ret1 rfl (.tmp rfl) (by rw [decide_eq_true]; exact hp3 ▸ List.mem_of_getElem? hl)
    · refine At.nrm ?_
      refine At.ktext (.q 0 (.q 1 (.q 2 .done))) ?_
      refine AtT.kmove ?_
      first | refine AtT.kadd ?_ | refine AtT.kaddW ?_
      refine AtT.kassign ?_
      refine AtT.done ?_
      refine At.nrm ?_
      refine At.round (k + 1) ?_ ?_ ?_ ?_
      · show ll.length - (k + 1) < ll.length - k; omega
      · refine ⟨rfl, by omega, fun j hj => ?_⟩
        by_cases hjk : j = k
        · subst hjk; rw [hl]; simpa using hp3
        · exact hok j (by omega)
      · exact ⟨rfl, rfl, ivs (by omega), trivial⟩
      · exact Pt.auto
  · have hno : m ∉ ll := fun hm => by
      obtain ⟨j, hj⟩ := List.mem_iff_getElem?.1 hm
      exact hok j (by have := (List.getElem?_eq_some_iff.1 hj).1; omega) hj
    refine At.nrm ?_
    refine At.ktext (.q 0 .done) ?_
    refine AtT.kassign ?_
    refine AtT.done ?_
    refine At.nrm ?_
    exact At.ret1 rfl (.tmp rfl) (by rw [decide_eq_false hno])

/-- A list of sets, as lists. -/
def bL (L : List Nat) : List (List Int) := L.map fun s => bitL s 15
theorem bL_len (L : List Nat) : (bL L).length = L.length := List.length_map _
theorem bL_at {L : List Nat} {k x : Nat} (h : L[k]? = some x) : (bL L)[k]? = some (bitL x 15) := by simp [bL, h]
theorem ear_bef : ∀ a b : List Int, a.length = b.length → earB a b = befB a b
  | [], [], _ => rfl
  | x :: a, y :: b, h => by
    simp only [earB, befB]
    rw [ear_bef a b (by simpa using h)]
theorem lex_ear {A B : Nat} (hA : A < 32768) (hB : B < 32768) (hc : cnt A = cnt B) (h : LexB A B) : earB (bitL A 15) (bitL B 15) = true := by
  cases c : earB (bitL A 15) (bitL B 15) with
  | true => rfl
  | false =>
    rw [ear_bef _ _ (show (bitL A 15).length = (bitL B 15).length from hc), (bef_lex hA hB hc).2 h] at c; cases c

theorem sets_no (ts : List Tq) (ht : trE ts = 0) (h : alE ts ≠ 0) (V : View) (v : Value) (hs : Sl V tqe 4 v ts) : Fnc Tryz.prog 14 [v] V fun r _ => r = .tuple #[.slice none 0 0, .bool false, .bool true] := by
  have h26 : alE ts = 26 := by
    cases c : (lsL ts).any (· == 0) with
    | true => exact alE_z ht c
    | false => exact absurd (alE_ok ht c) h
  refine fn_of Tryz.func14 rfl Tryz.ntmps14 (Nat.le_of_ble_eq_true rfl) ?_
  intro w0 hw0
  refine At.nrm ?_
  refine At.ktext (.q 0 (.q 1 (.q 2 .done))) ?_
  refine AtT.kassign ?_
  refine AtT.kassign ?_
  refine AtT.kassign ?_
  refine AtT.done ?_
  refine At.nrm ?_
  refine At.ktext (.q 0 (.n false 1 (.q 2 (.q 3 (.q 4 (.q 5 (.q 6 .done))))))) ?_
  refine AtT.kmove ?_
  refine AtT.kcallP rfl rfl ok28 (fewest_bad ts h _ _ hs) ?_
  rintro _ rfl; rw [h26]
  refine AtT.kmove ?_
  refine AtT.kextract ?_
  refine AtT.kextract ?_
  refine AtT.kassign ?_
  refine AtT.kassign ?_
  refine AtT.done ?_
  refine At.nrm ?_
  refine At.ktext (.q 0 (.n false 1 (.q 2 (.q 3 (.q 4 (.q 5 (.q 6 .done))))))) ?_
  refine AtT.kmove ?_
  refine AtT.kcallP rfl rfl ok29 (all_bad ts h _ _ hs) ?_
  rintro _ rfl; rw [h26]
  refine AtT.kmove ?_
  refine AtT.kextract ?_
  refine AtT.kextract ?_
  refine AtT.kassign ?_
  refine AtT.kassign ?_
  refine AtT.done ?_
  refine At.nrm ?_
  refine At.ktext (.q 0 (.q 1 (.q 2 (.q 3 (.q 4 (.q 5 (.q 6 .done))))))) ?_
  refine AtT.kmove ?_
  refine AtT.kmove ?_
  refine AtT.kneI ?_
  refine AtT.setF (d := 22) rfl ((by simp)) ?_
  refine AtT.kmove ?_
  all_goals (first | refine AtT.kL 23 ?_ | refine AtT.pcase (d := 23) rfl (fun hg23 => ?_) (fun hg23 => ?_) | refine AtT.bcase (d := 23) rfl (fun hg23 => ?_) (fun hg23 => ?_))
  all_goals (first | refine AtT.kpass ?_ | refine AtT.kpassU ?_ | ((refine AtT.kmove ?_)))
  all_goals (first | refine AtT.kpass ?_ | refine AtT.kpassU ?_ | ((refine AtT.keqI ?_)))
  all_goals (refine AtT.setT (d := 25) rfl ((by rfl)) ?_)
  all_goals (refine AtT.kpick ?_)
  all_goals refine AtT.done ?_
  all_goals (refine At.nrm ?_)
  refine At.condT rfl rfl ?_
  refine At.nrm ?_
  refine At.ktext (.q 0 (.q 1 (.q 2 (.q 3 (.q 4 (.q 5 (.q 6 (.q 7 (.q 8 (.q 9 (.q 10 (.q 11 (.q 12 (.q 13 (.q 14 .done))))))))))))))) ?_
  refine AtT.kmove ?_
  refine AtT.kmove ?_
  refine AtT.keqI ?_
  refine AtT.setT (d := 29) rfl ((by rfl)) ?_
  refine AtT.kmove ?_
  all_goals (first | refine AtT.kL 30 ?_ | refine AtT.pcase (d := 30) rfl (fun hg30 => ?_) (fun hg30 => ?_) | refine AtT.bcase (d := 30) rfl (fun hg30 => ?_) (fun hg30 => ?_))
  all_goals (first | refine AtT.kpass ?_ | refine AtT.kpassU ?_ | ((refine AtT.kmove ?_)))
  all_goals (first | refine AtT.kpass ?_ | refine AtT.kpassU ?_ | ((refine AtT.keqI ?_)))
  all_goals (refine AtT.setT (d := 32) rfl ((by rfl)) ?_)
  all_goals (refine AtT.kpick ?_)
  all_goals (refine AtT.kmove ?_)
  all_goals (first | refine AtT.kL 34 ?_ | refine AtT.pcase (d := 34) rfl (fun hg34 => ?_) (fun hg34 => ?_) | refine AtT.bcase (d := 34) rfl (fun hg34 => ?_) (fun hg34 => ?_))
  all_goals (first | refine AtT.kpass ?_ | refine AtT.kpassU ?_ | ((refine AtT.kmove ?_)))
  all_goals (first | refine AtT.kpass ?_ | refine AtT.kpassU ?_ | ((first | refine AtT.klenS Tryz.underlying35 ?_ | refine AtT.klenR Tryz.underlying35 ?_)))
  all_goals (first | refine AtT.kpass ?_ | refine AtT.kpassU ?_ | ((refine AtT.keqI ?_)))
  all_goals (refine AtT.setT (d := 37) rfl ((by rfl)) ?_)
  all_goals (refine AtT.kpick ?_)
  all_goals (refine AtT.kassign ?_)
  all_goals (refine AtT.kassign ?_)
  all_goals (refine AtT.kassign ?_)
  all_goals refine AtT.done ?_
  all_goals (refine At.nrm ?_)
  exact At.ret3 rfl (.tmp rfl) (.tmp rfl) (.tmp rfl) rfl

theorem sets_ok (ts : List Tq) (h : alE ts = 0) (V : View) (v : Value) (hs : Sl V tqe 4 v ts) : Fnc Tryz.prog 14 [v] V fun r V' => ∃ u L, r = .tuple #[u, .bool true, .bool true] ∧ AlS ts L ∧ SL V' u (bL L) := by
  refine fn_of Tryz.func14 rfl Tryz.ntmps14 (Nat.le_of_ble_eq_true rfl) ?_
  intro w0 hw0
  refine At.nrm ?_
  refine At.ktext (.q 0 (.q 1 (.q 2 .done))) ?_
  refine AtT.kassign ?_
  refine AtT.kassign ?_
  refine AtT.kassign ?_
  refine AtT.done ?_
  refine At.nrm ?_
  refine At.ktext (.q 0 (.n false 1 (.q 2 (.q 3 (.q 4 (.q 5 (.q 6 .done))))))) ?_
  refine AtT.kmove ?_
  refine AtT.kcallP rfl rfl ok28 (fewestA ts h _ _ hs) ?_
  rintro _ ⟨L, x0, hal, hx0, rfl⟩
  refine AtT.kmove ?_
  refine AtT.kextract ?_
  refine AtT.kextract ?_
  refine AtT.kassign ?_
  refine AtT.kassign ?_
  refine AtT.done ?_
  refine At.nrm ?_
  refine At.ktext (.q 0 (.n false 1 (.q 2 (.q 3 (.q 4 (.q 5 (.q 6 .done))))))) ?_
  refine AtT.kmove ?_
  refine AtT.kcall rfl rfl ok29 (allA ts h _ _ hs) ?_
  rintro v17 V17 hV17 ⟨u, L', rfl, hal', hsl⟩; obtain rfl := alS_uniq hal hal'
  refine AtT.kmove ?_
  refine AtT.kextract ?_
  refine AtT.kextract ?_
  refine AtT.kassign ?_
  refine AtT.kassign ?_
  refine AtT.done ?_
  refine At.nrm ?_
  obtain ⟨qs, hq, hql, hqs⟩ := id hsl
  have hlt := als_lt hal
  have hlen := als_len hal
  have hpos : 0 < L.length := by have := (List.getElem?_eq_some_iff.1 hx0).1; omega
  have hqL : qs.length = L.length := by rw [hql, List.length_map]
  obtain ⟨a, c, rfl, k1, k2, _⟩ := id hq
  clear k1 k2
  refine At.ktext (.q 0 (.q 1 (.q 2 (.q 3 (.q 4 (.q 5 (.q 6 .done))))))) ?_
  refine AtT.kmove ?_
  refine AtT.kmove ?_
  refine AtT.kneI ?_
  refine AtT.setF (d := 22) rfl ((by simp)) ?_
  refine AtT.kmove ?_
  all_goals (first | refine AtT.kL 23 ?_ | refine AtT.pcase (d := 23) rfl (fun hg23 => ?_) (fun hg23 => ?_) | refine AtT.bcase (d := 23) rfl (fun hg23 => ?_) (fun hg23 => ?_))
  all_goals (first | refine AtT.kpass ?_ | refine AtT.kpassU ?_ | ((refine AtT.kmove ?_)))
  all_goals (first | refine AtT.kpass ?_ | refine AtT.kpassU ?_ | ((refine AtT.keqI ?_)))
  all_goals (refine AtT.setF (d := 25) rfl ((by decide)) ?_)
  all_goals (refine AtT.kpick ?_)
  all_goals refine AtT.done ?_
  all_goals (refine At.nrm ?_)
  refine At.condF rfl rfl ?_
  refine At.nrm ?_
  refine At.ktext (.q 0 (.q 1 (.q 2 (.q 3 (.q 4 (.q 5 (.q 6 (.q 7 (.q 8 (.q 9 (.q 10 (.q 11 .done)))))))))))) ?_
  refine AtT.kmove ?_
  refine AtT.kneI ?_
  refine AtT.setF (d := 40) rfl ((by simp)) ?_
  refine AtT.kmove ?_
  all_goals (first | refine AtT.kL 41 ?_ | refine AtT.pcase (d := 41) rfl (fun hg41 => ?_) (fun hg41 => ?_) | refine AtT.bcase (d := 41) rfl (fun hg41 => ?_) (fun hg41 => ?_))
  all_goals (first | refine AtT.kpass ?_ | refine AtT.kpassU ?_ | ((refine AtT.kmove ?_)))
  all_goals (first | refine AtT.kpass ?_ | refine AtT.kpassU ?_ | ((first | refine AtT.klenS Tryz.underlying35 ?_ | refine AtT.klenR Tryz.underlying35 ?_)))
  all_goals (first | refine AtT.kpass ?_ | refine AtT.kpassU ?_ | ((refine AtT.klss ?_)))
  all_goals (refine AtT.setF (d := 44) rfl ((by omega)) ?_)
  all_goals (refine AtT.kpick ?_)
  all_goals (refine AtT.kmove ?_)
  all_goals (first | refine AtT.kL 46 ?_ | refine AtT.pcase (d := 46) rfl (fun hg46 => ?_) (fun hg46 => ?_) | refine AtT.bcase (d := 46) rfl (fun hg46 => ?_) (fun hg46 => ?_))
  all_goals (first | refine AtT.kpass ?_ | refine AtT.kpassU ?_ | ((refine AtT.kmove ?_)))
  all_goals (first | refine AtT.kpass ?_ | refine AtT.kpassU ?_ | ((first | refine AtT.klenS Tryz.underlying35 ?_ | refine AtT.klenR Tryz.underlying35 ?_)))
  all_goals (first | refine AtT.kpass ?_ | refine AtT.kpassU ?_ | ((refine AtT.kgtr ?_)))
  all_goals (refine AtT.setF (d := 49) rfl ((by omega)) ?_)
  all_goals (refine AtT.kpick ?_)
  all_goals refine AtT.done ?_
  all_goals (refine At.nrm ?_)
  refine At.condF rfl rfl ?_
  refine At.nrm ?_
  refine At.ktext (.q 0 .done) ?_
  refine AtT.kassign ?_
  refine AtT.done ?_
  refine At.nrm ?_
  refine At.lp (ι := Nat) (KS := fun k => [(5, iv (cnt x0)), (7, .slice a qs.length c), (9, iv k)]) (OS := fun _ => []) (VS := fun k V' => V' = V17 ∧ k ≤ L.length) (μ := fun k => L.length - k) 0 ?_ ?_ ?_ ?_
  · exact ⟨rfl, rfl, rfl, trivial⟩
  · exact Pt.auto
  · exact ⟨rfl, Nat.zero_le _⟩
  rintro k V' ks' O' ⟨rfl, hkl⟩ hk hO hl2
  subst hk hO
  refine At.nrm ?_
  refine At.ktext (.q 0 (.q 1 (.q 2 (.q 3 .done)))) ?_
  refine AtT.kmove ?_
  refine AtT.kmove ?_
  first | refine AtT.klenS Tryz.underlying35 ?_ | refine AtT.klenR Tryz.underlying35 ?_
  refine AtT.klss ?_
  refine AtT.done ?_
  refine At.nrm ?_
  refine At.condP rfl (fun hp' => ?_) (fun hp' => ?_)
  · have hk1 : k < L.length := by omega
    obtain ⟨q, hqk⟩ : ∃ x, qs[k]? = some x := ⟨_, List.getElem?_eq_getElem (by omega)⟩
    obtain ⟨x, hx⟩ : ∃ l, L[k]? = some l := ⟨_, List.getElem?_eq_getElem (by omega)⟩
    have hs1 := hqs k q _ hqk (bL_at hx)
    have hxl := hlt x (List.mem_of_getElem? hx)
    have hc0 : cnt x = cnt x0 := als_cnt hal (List.mem_of_getElem? hx) (List.mem_of_getElem? hx0)
    have hq2 : ((bitL x 15).length : Int) = (cnt x0 : Int) := congrArg (fun n : Nat => (n : Int)) hc0
    refine At.nrm ?_
    by_cases d1 : 0 < (k : Int)
    · obtain ⟨y, hy⟩ : ∃ l, L[k - 1]? = some l := ⟨_, List.getElem?_eq_getElem (by omega)⟩
      obtain ⟨q', hqk'⟩ : ∃ x, qs[k - 1]? = some x := ⟨_, List.getElem?_eq_getElem (by omega)⟩
      have hs2 := hqs (k - 1) q' _ hqk' (bL_at hy)
      have hyl := hlt y (List.mem_of_getElem? hy)
      have hk2 : (k : Int) - 1 = ((k - 1 : Nat) : Int) := by omega
      have hyx : LexB y x := by
        have hw := hal.ord
        rw [List.pairwise_iff_getElem] at hw
        obtain ⟨p1, e1⟩ := List.getElem?_eq_some_iff.1 hy
        obtain ⟨p2, e2⟩ := List.getElem?_eq_some_iff.1 hx
        have := hw (k - 1) k p1 p2 (by omega)
        rwa [e1, e2] at this
      have he := lex_ear hyl hxl (als_cnt hal (List.mem_of_getElem? hy) (List.mem_of_getElem? hx)) hyx
      refine At.cutG (ι := Unit) (fun _ => [(5, iv (cnt x0)), (7, .slice a qs.length c), (9, iv k), (88, .bool false)]) (fun _ => []) (fun _ V'' => V'' = V') ?_ ?_
      · refine At.draw (.q 0 (.q 1 (.q 2 (.q 3 (.q 4 (.q 5 (.q 6 (.q 7 (.q 8 (.q 9 (.q 10 (.q 11 (.n false 12 (.q 13 (.q 14 (.q 15 (.q 16 (.q 17 (.q 18 (.q 19 (.q 20 (.q 21 (.q 22 (.q 23 (.q 24 (.q 25 (.q 26 (.q 27 (.n false 28 (.q 29 (.q 30 (.q 31 .done)))))))))))))))))))))))))))))))) ffm (by kernel_rfl) ?_
        refine AtT.kmove ?_
        refine AtT.kmove ?_
        refine AtT.kidx Tryz.underlying35 tk38 ?_
        intro p59 e59 he59 hc59
        obtain rfl : q = e59 := by have : qs[k]? = some e59 := (by simpa using he59); rw [hqk] at this; simpa using this
        first | refine AtT.kloadO tk38 ?_ | refine AtT.kload tk38 ?_
        first | refine AtT.klenS Tryz.underlying38 ?_ | refine AtT.klenR Tryz.underlying38 ?_
        refine AtT.kmove ?_
        refine AtT.kneI ?_
        refine AtT.setF (d := 63) rfl ((fun hh => hh hq2)) ?_
        refine AtT.kmove ?_
        all_goals (first | refine AtT.kL 64 ?_ | refine AtT.pcase (d := 64) rfl (fun hg64 => ?_) (fun hg64 => ?_) | refine AtT.bcase (d := 64) rfl (fun hg64 => ?_) (fun hg64 => ?_))
        all_goals (first | refine AtT.kpass ?_ | refine AtT.kpassU ?_ | ((refine AtT.kmove ?_)))
        all_goals (first | refine AtT.kpass ?_ | refine AtT.kpassU ?_ | ((refine AtT.kmove ?_)))
        all_goals (first | refine AtT.kpass ?_ | refine AtT.kpassU ?_ | ((refine AtT.kidx Tryz.underlying35 tk38 ?_) ; (intro p67 e67 he67 hc67)))
        all_goals (obtain rfl : q = e67 := by have : qs[k]? = some e67 := (by simpa using he67); rw [hqk] at this; simpa using this)
        all_goals (first | refine AtT.kpass ?_ | refine AtT.kpassU ?_ | ((first | refine AtT.kloadO tk38 ?_ | refine AtT.kload tk38 ?_)))
        all_goals (first | refine AtT.kpassN ?_ | refine AtT.kpassNU ?_ | ((refine AtT.kcallP rfl rfl ok52 (isList_f (bitL x 15) 15 _ _ hs1) ?_) ; (rintro _ rfl; rw [show lstB (bitL x 15) 15 = true from bit_lst x 15])))
        all_goals (first | refine AtT.kpass ?_ | refine AtT.kpassU ?_ | ((refine AtT.knot ?_)))
        all_goals (refine AtT.setB (d := 70) rfl ((show (!true) = false from rfl)) ?_)
        all_goals (refine AtT.kpick ?_)
        all_goals (refine AtT.kmove ?_)
        all_goals (first | refine AtT.kL 72 ?_ | refine AtT.pcase (d := 72) rfl (fun hg72 => ?_) (fun hg72 => ?_) | refine AtT.bcase (d := 72) rfl (fun hg72 => ?_) (fun hg72 => ?_))
        all_goals (first | refine AtT.kpass ?_ | refine AtT.kpassU ?_ | ((refine AtT.kmove ?_)))
        all_goals (first | refine AtT.kpass ?_ | refine AtT.kpassU ?_ | ((refine AtT.kgtr ?_)))
        all_goals (refine AtT.setT (d := 74) rfl (d1) ?_)
        all_goals (first | refine AtT.kpass ?_ | refine AtT.kpassU ?_ | ((refine AtT.kmove ?_)))
        all_goals (first | refine AtT.kL 75 ?_ | refine AtT.pcase (d := 75) rfl (fun hg75 => ?_) (fun hg75 => ?_) | refine AtT.bcase (d := 75) rfl (fun hg75 => ?_) (fun hg75 => ?_))
        all_goals (first | refine AtT.kpass ?_ | refine AtT.kpassU ?_ | ((refine AtT.kmove ?_)))
        all_goals (first | refine AtT.kpass ?_ | refine AtT.kpassU ?_ | ((refine AtT.kmove ?_)))
        all_goals (first | refine AtT.kpass ?_ | refine AtT.kpassU ?_ | ((first | refine AtT.ksubt ?_ | refine AtT.ksubW ?_)))
        all_goals (rw [hk2])
        all_goals (first | refine AtT.kpass ?_ | refine AtT.kpassU ?_ | ((refine AtT.kidx Tryz.underlying35 tk38 ?_) ; (intro p79 e79 he79 hc79)))
        all_goals (obtain rfl : q' = e79 := by have : qs[k - 1]? = some e79 := (by simpa using he79); rw [hqk'] at this; simpa using this)
        all_goals (first | refine AtT.kpass ?_ | refine AtT.kpassU ?_ | ((first | refine AtT.kloadO tk38 ?_ | refine AtT.kload tk38 ?_)))
        all_goals (first | refine AtT.kpass ?_ | refine AtT.kpassU ?_ | ((refine AtT.kmove ?_)))
        all_goals (first | refine AtT.kpass ?_ | refine AtT.kpassU ?_ | ((refine AtT.kmove ?_)))
        all_goals (first | refine AtT.kpass ?_ | refine AtT.kpassU ?_ | ((refine AtT.kidx Tryz.underlying35 tk38 ?_) ; (intro p83 e83 he83 hc83)))
        all_goals (obtain rfl : q = e83 := by have : qs[k]? = some e83 := (by simpa using he83); rw [hqk] at this; simpa using this)
        all_goals (first | refine AtT.kpass ?_ | refine AtT.kpassU ?_ | ((first | refine AtT.kloadO tk38 ?_ | refine AtT.kload tk38 ?_)))
        all_goals (first | refine AtT.kpassN ?_ | refine AtT.kpassNU ?_ | ((refine AtT.kcallP rfl rfl ok53 (earlier_f (bitL y 15) (bitL x 15) _ _ _ hs2 hs1) ?_) ; (rintro _ rfl; rw [he])))
        all_goals (first | refine AtT.kpass ?_ | refine AtT.kpassU ?_ | ((refine AtT.knot ?_)))
        all_goals (refine AtT.setB (d := 86) rfl ((show (!true) = false from rfl)) ?_)
        all_goals (first | refine AtT.kpass ?_ | refine AtT.kpassU ?_ | ((refine AtT.kpick ?_)))
        all_goals (refine AtT.kpick ?_)
        all_goals refine AtT.done ?_
        all_goals (refine At.nrm ?_)
        all_goals (exact At.meetG () rfl ⟨rfl, rfl, rfl, rfl, trivial⟩ Pt.auto)
      rintro _ V3 ks' O' rfl hk hO hl4
      subst hk hO
      refine At.condF rfl rfl ?_
      refine At.nrm ?_
      refine At.ktext (.q 0 (.q 1 (.q 2 .done))) ?_
      refine AtT.kmove ?_
      first | refine AtT.kadd ?_ | refine AtT.kaddW ?_
      refine AtT.kassign ?_
      refine AtT.done ?_
      refine At.nrm ?_
      refine At.round (k + 1) ?_ ?_ ?_ ?_
      · show L.length - (k + 1) < L.length - k; omega
      · exact ⟨rfl, by omega⟩
      · exact ⟨rfl, rfl, ivs (by omega), trivial⟩
      · exact Pt.auto
    · refine At.cutG (ι := Unit) (fun _ => [(5, iv (cnt x0)), (7, .slice a qs.length c), (9, iv k), (88, .bool false)]) (fun _ => []) (fun _ V'' => V'' = V') ?_ ?_
      · refine At.draw (.q 0 (.q 1 (.q 2 (.q 3 (.q 4 (.q 5 (.q 6 (.q 7 (.q 8 (.q 9 (.q 10 (.q 11 (.n false 12 (.q 13 (.q 14 (.q 15 (.q 16 (.q 17 (.q 18 (.q 19 (.q 20 (.q 21 (.q 22 (.q 23 (.q 24 (.q 25 (.q 26 (.q 27 (.n false 28 (.q 29 (.q 30 (.q 31 .done)))))))))))))))))))))))))))))))) ffm (by kernel_rfl) ?_
        refine AtT.kmove ?_
        refine AtT.kmove ?_
        refine AtT.kidx Tryz.underlying35 tk38 ?_
        intro p59 e59 he59 hc59
        obtain rfl : q = e59 := by have : qs[k]? = some e59 := (by simpa using he59); rw [hqk] at this; simpa using this
        first | refine AtT.kloadO tk38 ?_ | refine AtT.kload tk38 ?_
        first | refine AtT.klenS Tryz.underlying38 ?_ | refine AtT.klenR Tryz.underlying38 ?_
        refine AtT.kmove ?_
        refine AtT.kneI ?_
        refine AtT.setF (d := 63) rfl ((fun hh => hh hq2)) ?_
        refine AtT.kmove ?_
        all_goals (first | refine AtT.kL 64 ?_ | refine AtT.pcase (d := 64) rfl (fun hg64 => ?_) (fun hg64 => ?_) | refine AtT.bcase (d := 64) rfl (fun hg64 => ?_) (fun hg64 => ?_))
        all_goals (first | refine AtT.kpass ?_ | refine AtT.kpassU ?_ | ((refine AtT.kmove ?_)))
        all_goals (first | refine AtT.kpass ?_ | refine AtT.kpassU ?_ | ((refine AtT.kmove ?_)))
        all_goals (first | refine AtT.kpass ?_ | refine AtT.kpassU ?_ | ((refine AtT.kidx Tryz.underlying35 tk38 ?_) ; (intro p67 e67 he67 hc67)))
        all_goals (obtain rfl : q = e67 := by have : qs[k]? = some e67 := (by simpa using he67); rw [hqk] at this; simpa using this)
        all_goals (first | refine AtT.kpass ?_ | refine AtT.kpassU ?_ | ((first | refine AtT.kloadO tk38 ?_ | refine AtT.kload tk38 ?_)))
        all_goals (first | refine AtT.kpassN ?_ | refine AtT.kpassNU ?_ | ((refine AtT.kcallP rfl rfl ok52 (isList_f (bitL x 15) 15 _ _ hs1) ?_) ; (rintro _ rfl; rw [show lstB (bitL x 15) 15 = true from bit_lst x 15])))
        all_goals (first | refine AtT.kpass ?_ | refine AtT.kpassU ?_ | ((refine AtT.knot ?_)))
        all_goals (refine AtT.setB (d := 70) rfl ((show (!true) = false from rfl)) ?_)
        all_goals (refine AtT.kpick ?_)
        all_goals (refine AtT.kmove ?_)
        all_goals (first | refine AtT.kL 72 ?_ | refine AtT.pcase (d := 72) rfl (fun hg72 => ?_) (fun hg72 => ?_) | refine AtT.bcase (d := 72) rfl (fun hg72 => ?_) (fun hg72 => ?_))
        all_goals (first | refine AtT.kpass ?_ | refine AtT.kpassU ?_ | ((refine AtT.kmove ?_)))
        all_goals (first | refine AtT.kpass ?_ | refine AtT.kpassU ?_ | ((refine AtT.kgtr ?_)))
        all_goals (refine AtT.setF (d := 74) rfl (d1) ?_)
        all_goals (first | refine AtT.kpass ?_ | refine AtT.kpassU ?_ | ((refine AtT.kmove ?_)))
        all_goals (first | refine AtT.kL 75 ?_ | refine AtT.pcase (d := 75) rfl (fun hg75 => ?_) (fun hg75 => ?_) | refine AtT.bcase (d := 75) rfl (fun hg75 => ?_) (fun hg75 => ?_))
        all_goals (first | refine AtT.kpass ?_ | refine AtT.kpassU ?_ | ((refine AtT.kmove ?_)))
        all_goals (first | refine AtT.kpass ?_ | refine AtT.kpassU ?_ | ((refine AtT.kmove ?_)))
        all_goals (first | refine AtT.kpass ?_ | refine AtT.kpassU ?_ | ((first | refine AtT.ksubt ?_ | refine AtT.ksubW ?_)))
        all_goals (first | refine AtT.kpass ?_ | refine AtT.kpassU ?_ | ((refine AtT.kidx Tryz.underlying35 tk38 ?_) ; (intro p79 e79 he79 hc79)))
        all_goals (first | refine AtT.kpass ?_ | refine AtT.kpassU ?_ | ((first | refine AtT.kloadO tk38 ?_ | refine AtT.kload tk38 ?_)))
        all_goals (first | refine AtT.kpass ?_ | refine AtT.kpassU ?_ | ((refine AtT.kmove ?_)))
        all_goals (first | refine AtT.kpass ?_ | refine AtT.kpassU ?_ | ((refine AtT.kmove ?_)))
        all_goals (first | refine AtT.kpass ?_ | refine AtT.kpassU ?_ | ((refine AtT.kidx Tryz.underlying35 tk38 ?_) ; (intro p83 e83 he83 hc83)))
        all_goals (first | refine AtT.kpass ?_ | refine AtT.kpassU ?_ | ((first | refine AtT.kloadO tk38 ?_ | refine AtT.kload tk38 ?_)))
        all_goals (first | refine AtT.kpassN ?_ | refine AtT.kpassNU ?_ | ((fail)))
        all_goals (first | refine AtT.kpass ?_ | refine AtT.kpassU ?_ | ((refine AtT.knot ?_)))
        all_goals (first | refine AtT.kpass ?_ | refine AtT.kpassU ?_ | ((refine AtT.kpick ?_)))
        all_goals (refine AtT.kpick ?_)
        all_goals refine AtT.done ?_
        all_goals (refine At.nrm ?_)
        all_goals (exact At.meetG () rfl ⟨rfl, rfl, rfl, rfl, trivial⟩ Pt.auto)
      rintro _ V3 ks' O' rfl hk hO hl4
      subst hk hO
      refine At.condF rfl rfl ?_
      refine At.nrm ?_
      refine At.ktext (.q 0 (.q 1 (.q 2 .done))) ?_
      refine AtT.kmove ?_
      first | refine AtT.kadd ?_ | refine AtT.kaddW ?_
      refine AtT.kassign ?_
      refine AtT.done ?_
      refine At.nrm ?_
      refine At.round (k + 1) ?_ ?_ ?_ ?_
      · show L.length - (k + 1) < L.length - k; omega
      · exact ⟨rfl, by omega⟩
      · exact ⟨rfl, rfl, ivs (by omega), trivial⟩
      · exact Pt.auto
  · refine At.nrm ?_
    refine At.ktext (.q 0 (.q 1 (.q 2 (.q 3 .done)))) ?_
    refine AtT.kmove ?_
    refine AtT.kassign ?_
    refine AtT.kassign ?_
    refine AtT.kassign ?_
    refine AtT.done ?_
    refine At.nrm ?_
    exact At.ret3 rfl (.tmp rfl) (.tmp rfl) (.tmp rfl) ⟨_, L, rfl, hal, hsl⟩
end Go.Proofs.YtfcpmblmklibjaaGreat
set_option linter.unusedVariables false
namespace Go.Lw
open Go.RowKit

section
variable {cx : Cx} {n : Nat} {ks : List (Nat × Value)} {O R : List Own} {V : View} {w : World} {K : Act → World → Prop}
/-- What is owned is handed over, and was not known when the call began. -/
theorem At.giveN {b : Nat} {o : Obj} (hp : Pick (.blk b o) O R) (h : ∀ V', Le V V' → V' b = some o → cx.V0 b = none → At cx n ks R V' K) : At cx n ks O V K := fun a w hk hm => by
  have hm1 := hm.pick hp
  have h0 : cx.V0 b = none := by
    obtain ⟨fp, ⟨f, g, rfl, ⟨rfl, hB, hb⟩, hl⟩, h2, h3⟩ := hm1.own
    have hv := h3 b (by simp)
    cases hc : cx.V0 b with
    | none => rfl
    | some o' => rw [hm1.le0 b o' hc] at hv; cases hv
  obtain ⟨V', h1, h2, h3⟩ := hm1.give
  exact h V' h1 h2 h0 a w hk h3
/-- What is known, and was not known when the call began, is owned; it is no longer known. -/
theorem Mem.reclaim {b : Nat} {o : Obj} (h : Mem cx O V w) (hb : V b = some o) (h0 : cx.V0 b = none) : Mem cx (.blk b o :: O) (fun k => if k = b then none else V k) w := by
  obtain ⟨fp, h1, h2, h3⟩ := h.own
  have hlow : cx.w0.heap.size ≤ b := by
    rcases h.fresh b o hb with h4 | h4
    · rw [h0] at h4; cases h4
    · exact h4
  refine ⟨h.below, fun k o2 hk => ?_, fun k o2 hk => ?_, fun k o2 hk => ?_, b :: fp, ⟨[b], fp, rfl, ⟨rfl, hlow, h.view b o hb⟩, h1⟩, List.nodup_cons.2 ⟨fun hm => ?_, h2⟩, fun k hk => ?_⟩
  · by_cases e : k = b
    · subst e; rw [h0] at hk; cases hk
    · simp [e, h.le0 k o2 hk]
  · by_cases e : k = b
    · subst e; simp at hk
    · simp [e] at hk; exact h.fresh k o2 hk
  · by_cases e : k = b
    · subst e; simp at hk
    · simp [e] at hk; exact h.view k o2 hk
  · rw [h3 b hm] at hb; cases hb
  · rcases List.mem_cons.1 hk with rfl | hk
    · simp
    · simp [h3 k hk]
theorem At.reclaim {b : Nat} {o : Obj} (hb : V b = some o) (h0 : cx.V0 b = none) (h : ∀ V'', (∀ W, Le W V → W b = none → Le W V'') → At cx n ks (.blk b o :: O) V'' K) : At cx n ks O V K := fun a w hk hm =>
  h _ (fun W hW hWb k o2 hk => by
    by_cases e : k = b
    · subst e; rw [hWb] at hk; cases hk
    · simp [e, hW k o2 hk]) a w hk (hm.reclaim hb h0)
/-- A row is nil, or a block. -/
theorem At.rowSplit {v : Value} {e : TypeId} {s m : Nat} {xs : List Value} (hp : Pick (.row v e s m xs) O R) (h0 : v = .slice none 0 0 → m = 0 → xs = [] → At cx n ks R V K)
    (h : ∀ b cap rest, v = .slice (some ⟨b, 0, none⟩) m cap → m ≤ cap → cap ≤ maxLen → (xs ++ rest).length = cap * s → At cx n ks (.blk b (LC (xs ++ rest) e) :: R) V K) : At cx n ks O V K := fun a w hk hmm => by
  have hm1 := hmm.pick hp
  obtain ⟨fp, ⟨f, g, rfl, ⟨rfl, hr⟩, hl⟩, h2, h3⟩ := hm1.own
  rcases hr.2 with ⟨rfl, hn0⟩ | ⟨b, cap, cur, rfl, hb, hh, hnc, hcm, hcs, htake⟩
  · refine h0 rfl hn0 ?_ a w hk hm1.drop
    have := hr.1
    rw [hn0] at this
    exact List.eq_nil_of_length_eq_zero (by simpa using this)
  · have hcat : xs ++ cur.toList.drop (m * s) = cur.toList := by rw [← htake, List.take_append_drop]
    have hcur : (LC (xs ++ cur.toList.drop (m * s)) e : Obj) = .cells cur e (0, 0) := by
      show Obj.cells _ e (0, 0) = Obj.cells cur e (0, 0)
      congr 1
      rw [hcat]
    refine h b cap (cur.toList.drop (m * s)) rfl hnc hcm (by rw [hcat]; simpa using hcs) a w hk ?_
    rw [hcur]
    exact ⟨hm1.below, hm1.le0, hm1.fresh, hm1.view, [b] ++ g, ⟨[b], g, rfl, ⟨rfl, hb, hh⟩, hl⟩, by simpa [Value.ownBlock] using h2, by simpa [Value.ownBlock] using h3⟩
/-- A row is lent to what stays as it is; it will be owned again. -/
def Lent (V V2 : View) (ao : Option Addr) (co : Nat) (e : TypeId) (s m : Nat) (xs : List Value) : Prop :=
  (ao = none ∧ m = 0 ∧ co = 0 ∧ xs = []) ∨ ∃ b rest, ao = some ⟨b, 0, none⟩ ∧ m ≤ co ∧ co ≤ maxLen ∧ (xs ++ rest).length = co * s ∧ xs.length = m * s ∧ V b = none ∧ V2 b = some (LC (xs ++ rest) e)
theorem At.giveM {b : Nat} {o : Obj} (hp : Pick (.blk b o) O R) (h : ∀ V', Le V V' → V' b = some o → V b = none → At cx n ks R V' K) : At cx n ks O V K := fun a w hk hm => by
  have hm1 := hm.pick hp
  have h0 : V b = none := by
    obtain ⟨fp, ⟨f, g, rfl, ⟨rfl, hB, hb⟩, hl⟩, h2, h3⟩ := hm1.own
    exact h3 b (by simp)
  obtain ⟨V', h1, h2, h3⟩ := hm1.give
  exact h V' h1 h2 h0 a w hk h3
theorem At.lend {ao : Option Addr} {co : Nat} {e : TypeId} {s m : Nat} {xs : List Value} (hp : Pick (.row (.slice ao m co) e s m xs) O R) (h : ∀ V2, Le V V2 → Lent V V2 ao co e s m xs → At cx n ks R V2 K) : At cx n ks O V K := fun a w hk hm => by
  have hm1 := hm.pick hp
  obtain ⟨f1, f2, f3, f4⟩ := hm1.rowFacts
  refine At.rowSplit (O := .row (.slice ao m co) e s m xs :: R) Pick.here (fun hv hm0 hx => ?_) (fun b cap rest hv h1 h2 h3 => ?_) a w hk hm1
  · cases hv
    exact h V (Le.refl _) (.inl ⟨rfl, rfl, rfl, hx⟩)
  · cases hv
    exact At.giveM Pick.here fun V' hV hb h0 => h V' hV (.inr ⟨b, rest, rfl, h1, h2, h3, f3, h0, hb⟩)
theorem At.regain {V3 V1 : View} {ao : Option Addr} {co : Nat} {e : TypeId} {s m : Nat} {xs : List Value} (hL : Lent V1 V ao co e s m xs) (hV1 : Le V1 V) (hV : Le V V3) (h0 : Le cx.V0 V1)
    (h : ∀ V4, Le V1 V4 → At cx n ks (.row (.slice ao m co) e s m xs :: O) V4 K) : At cx n ks O V3 K := by
  rcases hL with ⟨rfl, rfl, rfl, rfl⟩ | ⟨b, rest, rfl, h1, h2, h3, h4, h5, h6⟩
  · exact At.newRow e s (h V3 (hV1.trans hV))
  · have hcx : cx.V0 b = none := by
      cases hc : cx.V0 b with
      | none => rfl
      | some o => rw [h0 b o hc] at h5; cases h5
    refine At.reclaim (hV b _ h6) hcx fun V4 hV4 => ?_
    exact At.blkRow Pick.here h3 h4 h1 h2 (h V4 (hV4 V1 (hV1.trans hV) h5))
theorem Lent.sl {α : Type} {enc : α → List Value} {V1 V2 : View} {ao : Option Addr} {co : Nat} {e : TypeId} {s : Nat} {l : List α} (he : ∀ x, (enc x).length = s) (h : Lent V1 V2 ao co e s l.length (flat enc l)) : Sl V2 enc s (.slice ao l.length co) l := by
  rcases h with ⟨rfl, h1, rfl, h2⟩ | ⟨b, rest, rfl, h1, h2, h3, h4, h5, h6⟩
  · obtain rfl : l = [] := List.eq_nil_of_length_eq_zero h1
    exact Sl.nil _ _ _
  · exact Sl.of_cells he (cells_pre h6) h1 h2
theorem none_of {V W : View} {b : Nat} (h : Le W V) (hb : V b = none) : W b = none := by
  cases c : W b with
  | none => rfl
  | some o => rw [h b o c] at hb; cases hb
end
section
variable {cx : Cx} {n : Nat} {ks : List (Nat × Value)} {O R : List Own} {V : View} {P : Program} {ops : Array Oper} {Qn : Act → World → Prop} {t : Tr} {i d : Nat} {T X Y E : TypeId} {pos : String} {after : Array Edge} {gd : Option (Nat × Bool)} {x y : Operand}
theorem AtT.eqNil {a : Option Addr} {m c : Nat} (ho : ops[i]? = some ⟨some d, .binOp .eql X x y Y, T, pos, after, gd⟩) (hg : Gd ks ops gd) (hX : P.underlying X = some (.slice E)) (hx : ev ks x = some (.slice a m c)) (hy : ev ks y = some (.slice none 0 0)) (hn : d < n)
    (next : AtT cx n ((d, .bool a.isNone) :: ks) O V P ops Qn t) : AtT cx n ks O V P ops Qn (.q i t) :=
  .q ho hg rfl hn (fun q w hk _ => by simp only [execOp, hk.ev hx, hk.ev hy, eqGuard_at_slice, Sem.run_bind, Sem.run_pure, Result.andThen_ok, Go.Lib.run_eql_slice_nil w X E a m c 0 0 hX]) next
end
end Go.Lw
namespace Go.Lw
section
variable {cx : Cx} {n : Nat} {ks : List (Nat × Value)} {O R O1 : List Own} {V V1 : View} {P : Program} {ops : Array Oper} {Qn : Act → World → Prop} {t : Tr}
theorem AtC.giveSl {α : Type} {enc : α → List Value} {v : Value} {e : TypeId} {s m : Nat} {xs : List Value} {l : List α} (he : ∀ x, (enc x).length = s) (hx : xs = flat enc l) (hm : m = l.length) (hp : Pick (.row v e s m xs) O R)
    (h : ∀ V', Le V V' → Sl V' enc s v l → AtC cx n ks R V' O1 V1 P ops Qn t) : AtC cx n ks O V O1 V1 P ops Qn t := fun h0 a w hk hw => by
  obtain ⟨V', a', cap, h1, h2, h3, h4, h5, h6, h7, h8⟩ := (hw.pick hp).giveRow
  subst hx; subst hm; subst h3
  refine h V' h1 ?_ h0 a w hk h2
  cases a' with
  | none =>
    have hl : l = [] := by cases l with | nil => rfl | cons _ _ => exact absurd (h7 (by simp)) (by simp)
    subst hl
    exact ⟨none, cap, rfl, h4, h5, fun h => absurd rfl h, fun _ h => by cases h⟩
  | some q => exact Sl.of_cells he (h8 q rfl) h4 h5
end
theorem Lent.entry {V V1 V2 : View} {ao : Option Addr} {co : Nat} {e : TypeId} {s m : Nat} {xs : List Value} (hl : Le V V1) (h : Lent V1 V2 ao co e s m xs) : Lent V V2 ao co e s m xs := by
  rcases h with h | ⟨b, rest, h1, h2, h3, h4, h5, h6, h7⟩
  · exact .inl h
  · exact .inr ⟨b, rest, h1, h2, h3, h4, h5, none_of hl h6, h7⟩
section
variable {cx : Cx} {n : Nat} {ks : List (Nat × Value)} {O R : List Own} {V : View} {P : Program} {ops : Array Oper} {Qn : Act → World → Prop} {t : Tr} {i d : Nat} {T : TypeId} {pos : String} {after : Array Edge} {gd : Option (Nat × Bool)} {wr : Bool}
/-- A call whose result is a row that the caller owns from then on. -/
theorem AtT.callR {f : FuncId} {args : List Operand} {ts : Array TypeId} {vs : List Value} {e : TypeId} {s m : Nat} {xs : List Value} (ho : ops[i]? = some ⟨some d, .call ⟨.value (.func f), args.toArray, ts⟩, T, pos, after, gd⟩) (hg : Gd ks ops gd) (ha : evs ks args = some vs) (hf : CallOk P f) (hn : d < n)
    (hc : Fnc P f vs V fun r V' => ∃ ao co, r = .slice ao m co ∧ Lent V V' ao co e s m xs) (next : ∀ ao co, AtT cx n ((d, .slice ao m co) :: ks) (.row (.slice ao m co) e s m xs :: O) V P ops Qn t) : AtT cx n ks O V P ops Qn (.n wr i t) :=
  .x ho hg fun a w hk hm => by
    have e' : args.toArray.map a.eval = vs.toArray := by rw [← evs_map hk args vs ha]; simp
    have e2 : a.eval (.func f) = .func (.func f) #[] #[] := rfl
    simp only [opW, execOp, resolve, e', e2, Deferred.ofValue, Sem.run_bind, Sem.run_pure, Result.andThen_ok, invoke, Array.empty_append, Array.append_empty]
    rw [hf vs.toArray w]
    refine (hc w hm.view).mono fun e w' ⟨v, V', h1, h2, h3, h4, h5, ao, co, hv, hL⟩ => ?_
    subst h1
    subst hv
    have hm' := hm.more h2 h3 h4 h5
    refine ⟨_, _, V, hk.put hn _, ?_, fun _ u hu => hu.drop, next ao co⟩
    rcases hL with ⟨rfl, rfl, rfl, rfl⟩ | ⟨b, rest, rfl, k1, k2, k3, k4, k5, k6⟩
    · exact (hm'.less hm.le0 h3).rowNew _ _
    · have hcx : cx.V0 b = none := none_of hm.le0 k5
      have hr := hm'.reclaim k6 hcx
      have hr2 := hr.less hm.le0 (fun k o2 hk2 => by
        by_cases e : k = b
        · subst e; rw [k5] at hk2; cases hk2
        · simp [e, h3 k o2 hk2])
      exact hr2.blkRow k4 (by simpa using k3) (by rw [← k4]; exact List.take_left) k1 k2
end
end Go.Lw
set_option linter.unusedVariables false
namespace Go.Proofs.YtfcpmblmklibjaaGreat
open Go.Lw Go.Gl Go.Bl Go.RowKit

theorem apart_f (ts : List Tq) (ht : ∀ t ∈ ts, sndB t.p = true) (h16 : ts.length ≤ 16) : ∀ (t n : Nat) (begun : List Int) (had : Nat) (V : View) (p : Addr) (vb : Value), (flL ts).length - n = t → n ≤ (flL ts).length → begun.length ≤ n → had < 32768 → BcV V p ts → SlI V vb begun →
    Fnc Tryz.prog 69 [.pointer (some p), vb, stv had, iv n] V fun r V' => SlI V' r (aG ((prP ts).drop n) begun begun had) := by
  intro t
  induction t using Nat.strongRecOn with
  | _ t ih =>
  intro n begun had V p vb hnt hn hbn hhad hb hs
  have hfl := fl_ls (clA ts) ts ts.length
  have hfl1 : (flL ts).length = (lsL ts).length := hfl.1
  have hfl2 : (flL ts).length ≤ 16 := by have : (flL ts).length ≤ ts.length := hfl.2; omega
  have hpl := prP_len ts
  have hlt := ls_lt (no := clA ts) ht ts.length
  obtain ⟨a, c, rfl, k1, k2, _⟩ := id hs
  clear k1 k2
  obtain ⟨a1, c1, hc1, hs1⟩ := bc_failed hb
  obtain ⟨a2, c2, hc2, hs2⟩ := bc_left hb
  refine fn_of Tryz.func69 rfl Tryz.ntmps69 (Nat.le_of_ble_eq_true rfl) ?_
  intro w0 hw0
  refine At.nrm ?_
  refine At.ktext (.n false 0 (.q 1 .done)) ?_
  refine AtT.kbox ?_
  intro b6
  refine AtT.kassign ?_
  refine AtT.done ?_
  refine At.nrm ?_
  refine At.ktext (.q 0 (.q 1 .done)) ?_
  refine AtT.kmove ?_
  refine AtT.kassign ?_
  refine AtT.done ?_
  refine At.nrm ?_
  refine At.ktext (.q 0 (.q 1 .done)) ?_
  refine AtT.kmove ?_
  refine AtT.kassign ?_
  refine AtT.done ?_
  refine At.nrm ?_
  refine At.lp (ι := Nat × List Int × Option Addr × Nat) (KS := fun g => [(0, .pointer (some p)), (1, .slice a begun.length c), (6, .pointer (some ⟨b6, 0, none⟩)), (9, .slice g.2.2.1 g.2.1.length g.2.2.2), (10, iv g.1)])
    (OS := fun g => [.blk b6 (LC (ste had) 86)])
    (VS := fun g V' => Le V V' ∧ n ≤ g.1 ∧ g.1 ≤ (flL ts).length ∧ SlI V' (.slice g.2.2.1 g.2.1.length g.2.2.2) g.2.1 ∧ aG ((prP ts).drop g.1) begun g.2.1 had = aG ((prP ts).drop n) begun begun had ∧ g.2.1.length ≤ 16) (μ := fun g => (flL ts).length - g.1) (n, begun, a, c) ?_ ?_ ?_ ?_
  · exact ⟨rfl, rfl, rfl, rfl, rfl, trivial⟩
  · exact Pt.auto
  · exact ⟨Le.refl _, Nat.le_refl _, hn, hs, rfl, by dsimp only; omega⟩
  rintro ⟨k, out, ao, co⟩ V' ks' O' ⟨hVV, hnk, hkl, hso, heq, hol⟩ hk2 hO hl3
  dsimp only at hnk hkl hso heq hk2 hO hol
  subst hk2 hO
  have hb' := hb.le hVV
  have hcc1 := hc1.le hVV
  have hss1 := hs1.le hVV
  have hcc2 := hc2.le hVV
  have hss2 := hs2.le hVV
  have hsv := hs.le hVV
  refine At.nrm ?_
  refine At.ktext (.q 0 (.q 1 (.q 2 (.q 3 (.q 4 (.q 5 (.q 6 .done))))))) ?_
  refine AtT.kmove ?_
  refine AtT.kmove ?_
  refine AtT.knil ?_
  first | refine AtT.kfieldO fo92_1 ?_ | with_reducible refine AtT.kfield2 fo92_1 ?_ | refine AtT.kfield fo92_1 ?_
  first | refine AtT.kloadO tk38 ?_ | refine AtT.kload tk38 ?_
  first | refine AtT.klenS Tryz.underlying38 ?_ | refine AtT.klenR Tryz.underlying38 ?_
  refine AtT.klss ?_
  refine AtT.done ?_
  refine At.nrm ?_
  refine At.condP rfl (fun hp => ?_) (fun hp => ?_)
  rotate_left
  · obtain rfl : k = (flL ts).length := by omega
    refine At.nrm ?_
    refine At.ktext (.q 0 (.q 1 .done)) ?_
    refine AtT.kmove ?_
    refine AtT.kassign ?_
    refine AtT.done ?_
    refine At.nrm ?_
    refine At.ret1 rfl (.tmp rfl) ?_
    rw [← heq, List.drop_eq_nil_of_le (by omega)]; exact hso
  have hk1 : k < (flL ts).length := by omega
  obtain ⟨f, hf⟩ : ∃ x, (flL ts)[k]? = some x := ⟨_, List.getElem?_eq_getElem hk1⟩
  obtain ⟨s, hs3⟩ : ∃ x, (lsL ts)[k]? = some x := ⟨_, List.getElem?_eq_getElem (by omega)⟩
  have hslt := hlt s (List.mem_of_getElem? hs3)
  rw [prP_at hf hs3] at heq
  have hnl : (begun ++ [f]).length = begun.length + 1 := by simp
  have hdl : ((prP ts).drop (k + 1)).length = (flL ts).length - (k + 1) := by rw [List.length_drop, hpl]
  have hap := aG_len ((prP ts).drop (k + 1)) (begun ++ [f]) (begun ++ [f]) (had ||| s) 16 (by omega) (by omega)
  have hor : had ||| s < 32768 := Nat.or_lt_two_pow (n := 15) hhad hslt
  refine At.nrmB ?_
  refine At.cutG (ι := List Int × Option Addr × Nat) (fun g => [(0, .pointer (some p)), (1, .slice a begun.length c), (6, .pointer (some ⟨b6, 0, none⟩)), (9, .slice g.2.1 g.1.length g.2.2), (10, iv k)]) (fun _ => [.blk b6 (LC (ste had) 86)])
    (fun g V'' => Le V' V'' ∧ SlI V'' (.slice g.2.1 g.1.length g.2.2) g.1 ∧ aG ((prP ts).drop (k + 1)) begun g.1 had = aG ((prP ts).drop n) begun begun had ∧ g.1.length ≤ 16) ?_ ?_
  · refine At.nrm ?_
    cases hm : mtB s had with
    | true =>
      rw [aG_meet hm] at heq
      refine At.draw (.q 0 (.q 1 (.q 2 (.q 3 (.q 4 (.q 5 (.q 6 (.q 7 (.n false 8 .done))))))))) ffm (by kernel_rfl) ?_
      refine AtT.kmove ?_
      refine AtT.knil ?_
      first | refine AtT.kfieldO fo92_2 ?_ | with_reducible refine AtT.kfield2 fo92_2 ?_ | refine AtT.kfield fo92_2 ?_
      first | refine AtT.kloadO tk61 ?_ | refine AtT.kload tk61 ?_
      refine AtT.kmove ?_
      refine AtT.kidx Tryz.underlying61 tk86 ?_
      intro p28 e28 he28 hc28
      obtain rfl : s = e28 := by have : (lsL ts)[k]? = some e28 := (by simpa using he28); rw [hs3] at this; simpa using this
      first | refine AtT.kloadOA tk86 ?_ | refine AtT.kloadA tk86 ?_ | refine AtT.kloadOP tk86 ?_
      first | refine AtT.kloadOA tk86 ?_ | refine AtT.kloadA tk86 ?_ | refine AtT.kloadOP tk86 ?_
      refine AtT.kcallP rfl rfl ok60 (meets_f s had (by omega) (by omega) _) ?_
      rintro _ rfl; rw [hm]
      refine AtT.done ?_
      refine At.nrm ?_
      refine At.condT rfl rfl ?_
      refine At.nrm ?_
      exact At.meetG (out, ao, co) ⟨Le.refl _, hso, heq, hol⟩ ⟨rfl, rfl, rfl, rfl, rfl, trivial⟩ Pt.auto
    | false =>
      refine At.draw (.q 0 (.q 1 (.q 2 (.q 3 (.q 4 (.q 5 (.q 6 (.q 7 (.n false 8 .done))))))))) ffm (by kernel_rfl) ?_
      refine AtT.kmove ?_
      refine AtT.knil ?_
      first | refine AtT.kfieldO fo92_2 ?_ | with_reducible refine AtT.kfield2 fo92_2 ?_ | refine AtT.kfield fo92_2 ?_
      first | refine AtT.kloadO tk61 ?_ | refine AtT.kload tk61 ?_
      refine AtT.kmove ?_
      refine AtT.kidx Tryz.underlying61 tk86 ?_
      intro p28 e28 he28 hc28
      obtain rfl : s = e28 := by have : (lsL ts)[k]? = some e28 := (by simpa using he28); rw [hs3] at this; simpa using this
      first | refine AtT.kloadOA tk86 ?_ | refine AtT.kloadA tk86 ?_ | refine AtT.kloadOP tk86 ?_
      first | refine AtT.kloadOA tk86 ?_ | refine AtT.kloadA tk86 ?_ | refine AtT.kloadOP tk86 ?_
      refine AtT.kcallP rfl rfl ok60 (meets_f s had (by omega) (by omega) _) ?_
      rintro _ rfl; rw [hm]
      refine AtT.done ?_
      refine At.nrm ?_
      refine At.condF rfl rfl ?_
      refine At.nrm ?_
      refine At.draw (.q 0 (.q 1 (.q 2 (.q 3 (.q 4 (.q 5 (.q 6 (.q 7 (.q 8 (.q 9 (.q 10 (.q 11 (.q 12 (.q 13 (.q 16 (.q 17 (.q 18 (.q 19 (.q 20 (.q 21 (.q 22 (.q 23 (.q 24 (.q 25 (.q 26 (.q 27 (.q 28 (.q 29 (.n false 14 (.n false 15 (.n false 30 (.q 31 .done)))))))))))))))))))))))))))))))) ffm (by kernel_rfl) ?_
      refine AtT.kmove ?_
      refine AtT.kmove ?_
      refine AtT.kmove ?_
      first | refine AtT.klenS Tryz.underlying38 ?_ | refine AtT.klenR Tryz.underlying38 ?_
      refine AtT.kmove ?_
      first | refine AtT.klenS Tryz.underlying38 ?_ | refine AtT.klenR Tryz.underlying38 ?_
      first | refine AtT.kclipAll Tryz.underlying38 tk3 ?_ | refine AtT.kclip Tryz.underlying38 tk3 ?_
      intro a38 hs38
      refine AtT.kmove ?_
      refine AtT.knil ?_
      first | refine AtT.kfieldO fo92_1 ?_ | with_reducible refine AtT.kfield2 fo92_1 ?_ | refine AtT.kfield fo92_1 ?_
      first | refine AtT.kloadO tk38 ?_ | refine AtT.kload tk38 ?_
      refine AtT.kmove ?_
      refine AtT.kidx Tryz.underlying38 tk3 ?_
      intro p44 e44 he44 hc44
      obtain rfl : f = e44 := by have : (flL ts)[k]? = some e44 := (by simpa using he44); rw [hf] at this; simpa using this
      first | refine AtT.kloadO tk3 ?_ | refine AtT.kload tk3 ?_
      first | refine AtT.kfieldO fo86_0 ?_ | with_reducible refine AtT.kfield2 fo86_0 ?_ | refine AtT.kfield fo86_0 ?_
      first | refine AtT.kloadO tk3 ?_ | refine AtT.kload tk3 ?_
      refine AtT.kmove ?_
      refine AtT.knil ?_
      first | refine AtT.kfieldO fo92_2 ?_ | with_reducible refine AtT.kfield2 fo92_2 ?_ | refine AtT.kfield fo92_2 ?_
      first | refine AtT.kloadO tk61 ?_ | refine AtT.kload tk61 ?_
      refine AtT.kmove ?_
      refine AtT.kidx Tryz.underlying61 tk86 ?_
      intro p55 e55 he55 hc55
      obtain rfl : s = e55 := by have : (lsL ts)[k]? = some e55 := (by simpa using he55); rw [hs3] at this; simpa using this
      first | refine AtT.kfieldO fo86_0 ?_ | with_reducible refine AtT.kfield2 fo86_0 ?_ | refine AtT.kfield fo86_0 ?_
      first | refine AtT.kloadO tk3 ?_ | refine AtT.kload tk3 ?_
      refine AtT.orN rfl trivial rfl rfl rfl rfl (by omega) (by omega) (by decide) (A := had) (B := s) ?_
      refine AtT.kbuild (bd86_0 _) ?_
      refine AtT.kmove ?_
      first | refine AtT.kadd ?_ | refine AtT.kaddW ?_
      refine AtT.kbsliceG (bs38_1_0 _) ?_
      intro q46 V46 hV46 hq46
      have g46 : Le V V46 := by first | exact hV46 | exact Le.trans (by assumption) hV46
      refine AtT.appendC rfl trivial Tryz.underlying38 rw3 rfl (by decide) rfl (by first | assumption | exact Sl.le (by assumption) (by assumption)) rfl rfl (by first | assumption | exact Cells.le (by assumption) (by assumption)) (fun _ => rfl) (by simp) (by unfold maxLen; simp only [List.length_cons, List.length_nil]; omega) (by simp only [List.length_cons, List.length_nil]; omega) (by decide) (enc := ei) (m := [f]) ?_
      intro a47 c47 V47 hV47 hs47
      have g47 : Le V V47 := by first | exact hV47 | exact Le.trans (by assumption) hV47
      refine AtT.kcall rfl rfl ok69 (ih ((flL ts).length - (k + 1)) (by omega) (k + 1) (begun ++ [f]) (had ||| s) _ p _ rfl (by omega) (by omega) hor (hb'.le (hV46.trans hV47)) hs47) ?_
      rintro v62 V62 hV62 hs62
      refine AtT.kassign ?_
      refine AtT.done ?_
      refine At.nrm ?_
      obtain ⟨a62, c62, rfl, _⟩ := id hs62
      have hVV2 := (hV46.trans hV47).trans hV62
      have hso3 := hso.le hVV2
      refine At.ktext (.q 0 (.q 1 (.q 2 (.q 3 (.q 4 .done))))) ?_
      refine AtT.kmove ?_
      first | refine AtT.klenS Tryz.underlying38 ?_ | refine AtT.klenR Tryz.underlying38 ?_
      refine AtT.kmove ?_
      first | refine AtT.klenS Tryz.underlying38 ?_ | refine AtT.klenR Tryz.underlying38 ?_
      refine AtT.kgtr ?_
      refine AtT.done ?_
      refine At.nrm ?_
      refine At.condP rfl (fun hq => ?_) (fun hq => ?_)
      · rw [aG_more hm (by omega)] at heq
        refine At.nrm ?_
        refine At.ktext (.q 0 (.q 1 .done)) ?_
        refine AtT.kmove ?_
        refine AtT.kassign ?_
        refine AtT.done ?_
        refine At.nrm ?_
        exact At.meetG (aG ((prP ts).drop (k + 1)) (begun ++ [f]) (begun ++ [f]) (had ||| s), a62, c62) ⟨hVV2, hs62, heq, hap⟩ ⟨rfl, rfl, rfl, rfl, rfl, trivial⟩ Pt.auto
      · rw [aG_same hm (by omega)] at heq
        refine At.nrm ?_
        exact At.meetG (out, ao, co) ⟨hVV2, hso3, heq, hol⟩ ⟨rfl, rfl, rfl, rfl, rfl, trivial⟩ Pt.auto
  rintro ⟨out2, ao2, co2⟩ V3 ks' O' ⟨hV3, hso3, heq3, hol3⟩ hk2 hO hl4
  dsimp only at hk2 hO hso3 heq3 hol3
  subst hk2 hO
  refine At.nrm ?_
  refine At.ktext (.q 0 (.q 1 (.q 2 .done))) ?_
  refine AtT.kmove ?_
  first | refine AtT.kadd ?_ | refine AtT.kaddW ?_
  refine AtT.kassign ?_
  refine AtT.done ?_
  refine At.nrm ?_
  refine At.round (k + 1, out2, ao2, co2) ?_ ?_ ?_ ?_
  · show (flL ts).length - (k + 1) < (flL ts).length - k; omega
  · exact ⟨hVV.trans hV3, by dsimp only; omega, by dsimp only; omega, hso3, heq3, hol3⟩
  · exact ⟨rfl, rfl, rfl, rfl, ivs (by dsimp only; omega), trivial⟩
  · exact Pt.auto
/-- Which trials are apart: the answer, or the error. -/
def apR (ts : List Tq) : List Int := if trE ts = 0 then aG (prP ts) [] [] 0 else []
theorem apF_f (ts : List Tq) (V : View) (v : Value) (hs : Sl V tqe 4 v ts) : Fnc Tryz.prog 31 [v] V fun r V' => ∃ u, r = .tuple #[u, iv (trE ts)] ∧ SlI V' u (apR ts) := by
  refine fn_of Tryz.func31 rfl Tryz.ntmps31 (Nat.le_of_ble_eq_true rfl) ?_
  intro w0 hw0
  refine At.nrm ?_
  refine At.ktext (.q 0 (.q 1 .done)) ?_
  refine AtT.kassign ?_
  refine AtT.kassign ?_
  refine AtT.done ?_
  refine At.nrm ?_
  by_cases he : trE ts = 0
  rotate_left
  · refine At.ktext (.q 0 (.n false 1 (.q 2 (.q 3 (.q 4 (.q 5 (.q 6 .done))))))) ?_
    refine AtT.kmove ?_
    refine AtT.kcallP rfl rfl ok57 (open_bad ts he _ _ hs) ?_
    rintro _ rfl
    refine AtT.kmove ?_
    refine AtT.kextract ?_
    refine AtT.kextract ?_
    refine AtT.kassign ?_
    refine AtT.kassign ?_
    refine AtT.done ?_
    refine At.nrm ?_
    refine At.ktext (.q 0 (.q 1 .done)) ?_
    refine AtT.kmove ?_
    refine AtT.kneI ?_
    refine AtT.done ?_
    refine At.nrm ?_
    refine At.condT rfl (decide_eq_true he) ?_
    refine At.nrm ?_
    refine At.ktext (.q 0 (.q 1 (.q 2 .done))) ?_
    refine AtT.kmove ?_
    refine AtT.kassign ?_
    refine AtT.kassign ?_
    refine AtT.done ?_
    refine At.nrm ?_
    exact At.ret2 rfl (.tmp rfl) (.tmp rfl) ⟨_, rfl, by unfold apR; rw [if_neg he]; exact Sl.nil _ _ _⟩
  obtain ⟨h16, ht⟩ := trE_ok he
  have hfl2 : (flL ts).length ≤ 16 := by have : (flL ts).length ≤ ts.length := (fl_ls (clA ts) ts ts.length).2; omega
  have hpl := prP_len ts
  have hap := aG_len (prP ts) [] [] 0 16 (by simp) (by simp; omega)
  refine At.ktext (.q 0 (.n false 1 (.q 2 (.q 3 (.q 4 (.q 5 (.q 6 .done))))))) ?_
  refine AtT.kmove ?_
  refine AtT.kcall rfl rfl ok57 (open_ok ts he _ _ hs) ?_
  rintro _ V1 hV1 ⟨p, rfl, hpb⟩
  refine AtT.kmove ?_
  refine AtT.kextract ?_
  refine AtT.kextract ?_
  refine AtT.kassign ?_
  refine AtT.kassign ?_
  refine AtT.done ?_
  refine At.nrm ?_
  refine At.ktext (.q 0 (.q 1 .done)) ?_
  refine AtT.kmove ?_
  refine AtT.kneI ?_
  refine AtT.done ?_
  refine At.nrm ?_
  refine At.condF rfl (decide_eq_false (by simp)) ?_
  refine At.nrm ?_
  refine At.ktext (.q 0 (.q 1 (.n false 2 (.q 3 .done)))) ?_
  refine AtT.kmove ?_
  refine AtT.kbuild (bd86) ?_
  refine AtT.kcall rfl rfl ok69 (apart_f ts ht h16 _ 0 [] 0 _ p _ rfl (by omega) (by simp) (by omega) hpb (Sl.nil _ _ _)) ?_
  rintro v18 V18 hV18 hs18
  refine AtT.kassign ?_
  refine AtT.done ?_
  refine At.nrm ?_
  rw [List.drop_zero] at hs18
  obtain ⟨ms, hms⟩ : ∃ ms, ms = aG (prP ts) [] [] 0 := ⟨_, rfl⟩
  rw [← hms] at hs18 hap
  have hlen0 : (flat ei (List.replicate ms.length (0 : Int))).length = ms.length * 1 := by rw [flat_len Lw.ei_len]; simp
  obtain ⟨a18, c18, rfl, q1, q2, _⟩ := id hs18
  clear q1 q2
  refine At.ktext (.q 0 (.q 1 (.n false 2 (.q 3 .done)))) ?_
  refine AtT.kmove ?_
  first | refine AtT.klenS Tryz.underlying38 ?_ | refine AtT.klenR Tryz.underlying38 ?_
  refine AtT.makeSl rfl trivial ei rfl Tryz.underlying38 rw3 rfl rfl (by decide) rfl rfl (by omega) (by omega) (by decide) (za := (0 : Int)) ?_
  intro b21
  refine AtT.kassign ?_
  refine AtT.done ?_
  refine At.nrm ?_
  refine At.ktext (.q 0 (.q 1 (.n true 2 .done))) ?_
  refine AtT.kmove ?_
  refine AtT.kmove ?_
  refine AtT.copyO rfl trivial Tryz.underlying38 tk3 rfl rfl hs18 Lw.ei_len (fun _ => rfl) hlen0 (by repeat (first | exact Upd.here | apply Upd.there)) (by decide) ?_
  refine AtT.done ?_
  refine At.nrm ?_
  refine At.ktext (.q 0 (.q 1 (.q 2 .done))) ?_
  refine AtT.kmove ?_
  refine AtT.kassign ?_
  refine AtT.kassign ?_
  refine AtT.done ?_
  refine At.nrm ?_
  refine At.giveB (b := b21) Pick.auto (fun V3 hV3 hb3 => ?_)
  refine At.ret2 rfl (.tmp rfl) (.tmp rfl) ⟨_, by rw [he], ?_⟩
  unfold apR
  rw [if_pos he, ← hms]
  exact Sl.of_cells Lw.ei_len (cells_blk hb3) (Nat.le_refl _) (by unfold maxLen; omega)
end Go.Proofs.YtfcpmblmklibjaaGreat
set_option linter.unusedVariables false
namespace Go.Proofs.YtfcpmblmklibjaaGreat
open Go.Lw Go.Gl Go.Bl Go.RowKit

/-- The place of a number. -/
theorem indexI_f (l : List Int) (s : Int) (V : View) (v : Value) (hs : SlI V v l) : Fnc Tryz.prog 72 [v, iv s] V fun r _ => r = iv (ixI (l.findIdx? (· == s))) := by
  have hlen := hs.lenLe
  obtain ⟨a, c, rfl, k1, k2, _⟩ := id hs
  clear k1 k2
  refine fn_of Tryz.func72 rfl Tryz.ntmps72 (Nat.le_of_ble_eq_true rfl) ?_
  intro w0 hw0
  refine At.nrm ?_
  refine At.ktext (.q 0 .done) ?_
  refine AtT.kassign ?_
  refine AtT.done ?_
  refine At.nrm ?_
  refine At.ktext (.q 0 (.q 1 (.q 2 .done))) ?_
  refine AtT.kmove ?_
  first | refine AtT.klenS Tryz.underlying38 ?_ | refine AtT.klenR Tryz.underlying38 ?_
  refine AtT.kmove ?_
  refine AtT.done ?_
  refine At.nrm ?_
  refine At.lp (ι := Nat) (KS := fun k => [(0, .slice a l.length c), (1, iv s), (7, iv l.length), (8, iv k)]) (OS := fun _ => []) (VS := fun k V' => V' = V ∧ k ≤ l.length ∧ ∀ (j : Nat) (y : Int), j < k → l[j]? = some y → (y == s) = false) (μ := fun k => l.length - k) 0 ?_ ?_ ?_ ?_
  · exact ⟨rfl, rfl, rfl, rfl, trivial⟩
  · exact Pt.auto
  · exact ⟨rfl, Nat.zero_le _, fun j y hj => absurd hj (Nat.not_lt_zero j)⟩
  rintro k V' ks' O' ⟨rfl, hkl, hok⟩ hk hO hl2
  subst hk hO
  refine At.nrm ?_
  refine At.ktext (.q 0 .done) ?_
  refine AtT.klss ?_
  refine AtT.done ?_
  refine At.nrm ?_
  refine At.condP rfl (fun hp => ?_) (fun hp => ?_)
  · obtain ⟨x, hx⟩ : ∃ x, l[k]? = some x := ⟨_, List.getElem?_eq_getElem (by omega)⟩
    refine At.nrm ?_
    refine At.ktext (.q 0 (.q 1 .done)) ?_
    refine AtT.kmove ?_
    refine AtT.kassign ?_
    refine AtT.done ?_
    refine At.nrm ?_
    refine At.ktext (.q 0 (.q 1 (.q 2 (.q 3 (.q 4 (.q 5 .done)))))) ?_
    refine AtT.kmove ?_
    refine AtT.kmove ?_
    refine AtT.kmove ?_
    refine AtT.kidx Tryz.underlying38 tk3 ?_
    intro p14 e14 he14 hc14
    obtain rfl : x = e14 := by have : l[k]? = some e14 := (by simpa using he14); rw [hx] at this; simpa using this
    first | refine AtT.kloadO tk3 ?_ | refine AtT.kload tk3 ?_
    refine AtT.keqI ?_
    refine AtT.done ?_
    refine At.nrm ?_
    refine At.condP rfl (fun hc => ?_) (fun hc => ?_)
    · refine At.nrm ?_
      refine At.ktext (.q 0 (.q 1 .done)) ?_
      refine AtT.kmove ?_
      refine AtT.kassign ?_
      refine AtT.done ?_
      refine At.nrm ?_
      exact At.ret1 rfl (.tmp rfl) (by rw [fi_hit hx (by simp [hc]) hok]; rfl)
    · refine At.nrm ?_
      refine At.ktext (.q 0 (.q 1 .done)) ?_
      first | refine AtT.kadd ?_ | refine AtT.kaddW ?_
      refine AtT.kmove ?_
      refine AtT.done ?_
      refine At.nrm ?_
      refine At.round (k + 1) ?_ ?_ ?_ ?_
      · show l.length - (k + 1) < l.length - k; omega
      · refine ⟨rfl, by omega, fun j y hj hy => ?_⟩
        by_cases hjk : j = k
        · subst hjk; rw [hx] at hy; cases hy; exact beq_false_of_ne (fun e => hc e.symm)
        · exact hok j y (by omega) hy
      · exact ⟨rfl, rfl, rfl, ivs (by omega), trivial⟩
      · exact Pt.auto
  · refine At.nrm ?_
    refine At.ktext (.q 0 .done) ?_
    refine AtT.kassign ?_
    refine AtT.done ?_
    refine At.nrm ?_
    exact At.ret1 rfl (.tmp rfl) (by rw [fi_none fun j y hj hy => hok j y (by omega) hy]; rfl)
end Go.Proofs.YtfcpmblmklibjaaGreat
