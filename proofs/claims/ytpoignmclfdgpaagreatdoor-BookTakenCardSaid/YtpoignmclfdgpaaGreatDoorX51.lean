/- Texts that the last one of this claim imports. -/
import Derived.Test.YtpoignmclfdgpaaGreatDoorB6
set_option linter.unusedVariables false
set_option linter.unusedSimpArgs false
set_option linter.unusedSectionVars false

set_option linter.unusedVariables false
namespace Go.Bk
open Go.Lw Go.Gl
theorem goneK_congr {es es' : List En} {first : Nat} (h : ∀ i, i < first → enA es i = enA es' i) : ∀ {k : Nat} {s : Nat}, k ≤ first → qW es first k s = qW es' first k s
 | 0, s, _ => rfl
 | k + 1, s, hk => by
  simp only [qW]
  rw [goneK_congr h (k := k) (s := s) (by omega), goneK_congr h (k := k) (s := first - 1 - k) (by omega), h (first - 1 - k) (by omega)]
theorem cntS_congr {es es' : List En} {first : Nat} (h : ∀ i, i < first → enA es i = enA es' i) : cntS es first = cntS es' first := by
 unfold cntS gone
 exact List.filter_congr fun i _ => by rw [goneK_congr h (Nat.le_refl _)]
theorem runS_congr {rs : List Rc} {es es' : List En} {first : Nat} (h : ∀ i, i < first → enA es i = enA es' i) (day : Int) : runS rs es first day = runS rs es' first day := by
 unfold runS
 rw [cntS_congr h, List.map_congr_left fun i hi => h i (cntS_lt hi)]
theorem enA_app {es l : List En} {i : Nat} (h : i < es.length) : enA (es ++ l) i = enA es i := by
 unfold enA List.getD; rw [List.getElem?_append_left h]
theorem enA_last {es : List En} {e : En} : enA (es ++ [e]) es.length = e := by simp [enA, List.getD]
theorem enA_take {es : List En} {i n : Nat} (h : i < n) : enA (es.take n) i = enA es i := by
 unfold enA List.getD; rw [List.getElem?_take, if_pos h]
def lastD (last : Int) : List En → Int
 | [] => last
 | e :: es => lastD e.d es
theorem lastD_snoc {e : En} : ∀ {es : List En} {last : Int}, lastD last (es ++ [e]) = e.d
 | [], _ => rfl
 | x :: es, _ => lastD_snoc (es := es)
theorem ens_take {rs : List Rc} : ∀ {es : List En} {index last : Int} (n : Nat), EnsOk rs index last es → EnsOk rs index last (es.take n)
 | [], _, _, n, h => by rw [List.take_nil]; exact h
 | e :: es, _, _, 0, h => .nil _ _
 | e :: es, _, _, n + 1, h => by
  cases h with
  | cons h1 h2 => exact .cons h1 (ens_take n h2)
theorem ens_snoc {rs : List Rc} {e : En} : ∀ {es : List En} {index last : Int}, EnsOk rs index last es → EnOk rs e (index + es.length) (lastD last es) → EnsOk rs index last (es ++ [e])
 | [], index, last, _, h => .cons (by simpa [lastD] using h) (.nil _ _)
 | x :: es, index, last, h, he => by
  cases h with
  | cons h1 h2 =>
   refine .cons h1 (ens_snoc h2 ?_)
   have e1 : index + 1 + (es.length : Int) = index + ((x :: es).length : Int) := by rw [List.length_cons]; push_cast; omega
   rw [e1]; exact he
theorem lastD_bd {rs : List Rc} : ∀ {es : List En} {index last : Int}, EnsOk rs index last es → (0 ≤ last ∧ last ≤ 999) → 0 ≤ lastD last es ∧ lastD last es ≤ 999
 | [], _, _, _, h => h
 | e :: es, _, _, h, hl => by
  cases h with
  | cons h1 h2 => show 0 ≤ lastD e.d es ∧ lastD e.d es ≤ 999; exact lastD_bd h2 h1.d
theorem Right.ens {b : Bo} (h : Right b) : EnsOk b.rs 0 0 b.es := entsE_iff.1 h.en
theorem Right.last {b : Bo} (h : Right b) : 0 ≤ lastD 0 b.es ∧ lastD 0 b.es ≤ 999 := lastD_bd h.ens (by decide)
theorem Right.take {b : Bo} (h : Right b) (n : Nat) : Right ⟨b.rs, b.es.take n⟩ := by
 refine ⟨h.cr, ?_, entsE_iff.2 (ens_take n h.ens), fun k hk => ?_⟩
 ·have := h.len; simp only [List.length_take]; omega
 ·simp only [List.length_take] at hk
  show (runS b.rs (b.es.take n) (k + 1) 999).isSome = true
  rw [runS_congr (es' := b.es) (fun i hi => enA_take (by omega))]
  exact h.run k (by omega)
theorem right_snoc {b : Bo} {e : En} (h : Right b) (hl : b.es.length + 1 ≤ 24) (he : EnOk b.rs e b.es.length (lastD 0 b.es)) (hr : (runS b.rs (b.es ++ [e]) (b.es.length + 1) 999).isSome = true) : Right ⟨b.rs, b.es ++ [e]⟩ := by
 refine ⟨h.cr, ?_, entsE_iff.2 (ens_snoc h.ens (by rw [Int.zero_add]; exact he)), fun k hk => ?_⟩
 ·simp only [List.length_append, List.length_singleton]; omega
 ·simp only [List.length_append, List.length_singleton] at hk
  by_cases c : k < b.es.length
  ·show (runS b.rs (b.es ++ [e]) (k + 1) 999).isSome = true
   rw [runS_congr (es' := b.es) (fun i hi => enA_app (by omega))]
   exact h.run k c
  ·obtain rfl : k = b.es.length := by omega
   exact hr
theorem gone_out {es : List En} {first : Nat} (hv : BkOk es first) {s : Nat} (h : first ≤ s + 1) : gone es first s = false := by
 cases hg : gone es first s with
 | false => rfl
 | true =>
  obtain ⟨k, h1, h2, _⟩ := (gone_iff hv).1 hg
  omega
theorem goneK_succ {es : List En} {first k s : Nat} : qW es first (k + 1) s = (qW es first k s || (decide ((enA es (first - 1 - k)).k = 4) && !qW es first k (first - 1 - k) && decide (s = (enA es (first - 1 - k)).t.toNat))) := rfl
theorem goneK_back {es : List En} {first : Nat} (h4 : (enA es (first + 1)).k = 4) (ht : (enA es (first + 1)).t = (first : Int)) : ∀ {k s : Nat}, k ≤ first → qW es (first + 2) (k + 2) s = (qW es first k s || decide (s = first))
 | 0, s, _ => by
  simp only [qW]
  rw [show first + 2 - 1 - 0 = first + 1 by omega, show first + 2 - 1 - (0 + 1) = first by omega, decide_eq_true h4, ht, Int.toNat_natCast]
  simp
 | k + 1, s, hk => by
  have ih1 := goneK_back h4 ht (k := k) (s := s) (by omega)
  have ih2 := goneK_back h4 ht (k := k) (s := first - 1 - k) (by omega)
  have hne : decide (first - 1 - k = first) = false := decide_eq_false (by omega)
  rw [goneK_succ (first := first + 2) (k := k + 2), goneK_succ (first := first) (k := k), ih1, show first + 2 - 1 - (k + 2) = first - 1 - k by omega, ih2, hne, Bool.or_false]
  cases qW es first k s <;> cases decide (s = first) <;> simp
theorem cnt_back {es : List En} {first : Nat} (hv : BkOk es first) (h4 : (enA es (first + 1)).k = 4) (ht : (enA es (first + 1)).t = (first : Int)) : cntS es (first + 2) = cntS es first ++ [first + 1] := by
 have hg : ∀ s, gone es (first + 2) s = (gone es first s || decide (s = first)) := fun s => goneK_back h4 ht (Nat.le_refl _)
 unfold cntS
 rw [List.range_succ, List.range_succ, List.filter_append, List.filter_append]
 have e1 : gone es (first + 2) first = true := by rw [hg]; simp
 have e2 : gone es (first + 2) (first + 1) = false := by
  rw [hg, gone_out hv (by omega)]; simp
 have e3 : (List.range first).filter (fun i => !gone es (first + 2) i) = (List.range first).filter (fun i => !gone es first i) := List.filter_congr fun i hi => by
  have := List.mem_range.1 hi
  rw [hg, decide_eq_false (by omega : ¬ i = first), Bool.or_false]
 rw [e3]
 simp [e1, e2]
theorem runL_app {rs : List Rc} {day : Int} : ∀ {l l' : List En} {f : Nat → Int}, runL rs day (l ++ l') f = (runL rs day l f).bind (runL rs day l')
 | [], l', f => rfl
 | e :: l, l', f => by
  rw [List.cons_append, runL_step, runL_step]
  split
  ·exact runL_app
  ·split
   ·exact runL_app
   ·rfl
theorem runL_bk {rs : List Rc} {day : Int} {e : En} (h4 : e.k = 4) {st : Nat → Int} (hn : ∀ s, s < 8 → 0 ≤ st s) : runL rs day [e] st = some st := by
 have hl := less_no (rs := rs) (e := e) (by omega) (by omega)
 have hm := more_no (e := e) (by omega)
 rw [runL_step]
 split
 ·rfl
 ·rw [if_pos]
  ·simp only [runL]
   congr 1
   funext s
   unfold stB; rw [hl, hm]; simp
  ·unfold okS
   rw [List.all_eq_true]
   intro s hs
   rw [hl]
   exact decide_eq_true (hn s (List.mem_range.1 hs))
theorem runS_back {rs : List Rc} {es : List En} {first : Nat} (hv : BkOk es first) (h4 : (enA es (first + 1)).k = 4) (ht : (enA es (first + 1)).t = (first : Int)) {day : Int} {st : Nat → Int} (hst : runS rs es first day = some st) (hn : ∀ s, s < 8 → 0 ≤ st s) : runS rs es (first + 2) day = some st := by
 unfold runS at hst ⊢
 rw [cnt_back hv h4 ht, List.map_append, runL_app, hst]
 exact runL_bk h4 hn
theorem right_back {b : Bo} (h : Right b) {n : Nat} (hn : b.es.length = n + 1) (hl : n + 2 ≤ 24) {d : Int} (hd : lastD 0 b.es ≤ d ∧ d ≤ 999) :
  Right ⟨b.rs, b.es ++ [⟨d, 4, n, 0⟩]⟩ ∧ ∀ day, runS b.rs (b.es ++ [⟨d, 4, n, 0⟩]) (n + 2) day = runS b.rs b.es n day := by
 have hlast : enA (b.es ++ [⟨d, 4, n, 0⟩]) (n + 1) = ⟨d, 4, n, 0⟩ := by rw [← hn]; exact enA_last
 have hpre : ∀ i, i < n → enA (b.es ++ [⟨d, 4, n, 0⟩]) i = enA b.es i := fun i hi => enA_app (by omega)
 have hv : BkOk (b.es ++ [⟨d, 4, n, 0⟩]) n := fun k hk h4 => by
  rw [hpre k hk] at h4 ⊢
  exact h.bk (first := n) (by omega) k hk h4
 have key : ∀ day, runS b.rs (b.es ++ [⟨d, 4, n, 0⟩]) (n + 2) day = runS b.rs b.es n day := fun day => by
  obtain ⟨st, hst⟩ := h.st (first := n) (by omega) day
  have hst' : runS b.rs (b.es ++ [⟨d, 4, n, 0⟩]) n day = some st := by rw [runS_congr hpre]; exact hst
  rw [hst, runS_back hv (by rw [hlast]) (by rw [hlast]) hst' fun s hs => (runS_nn h.bog (by omega) hst s hs).1]
 have hld := h.last
 refine ⟨right_snoc h (by omega) ⟨?_, ?_, fun _ => ?_, fun hk => ?_, ?_, fun hk => ?_⟩ ?_, key⟩
 ·exact ⟨by show 0 ≤ d; omega, hd.2⟩
 ·exact ⟨by show (1 : Int) ≤ 4; decide, by show (4 : Int) ≤ 4; decide⟩
 ·refine ⟨?_, ?_, rfl⟩
  ·show (0 : Int) ≤ n; omega
  ·show (n : Int) < _; omega
 ·exact absurd rfl hk
 ·exact hd.1
 ·exact absurd hk (by show ¬ (4 : Int) = 3; decide)
 ·rw [show b.es.length + 1 = n + 2 by omega, key]
  obtain ⟨st, hst⟩ := h.st (first := n) (by omega) 999
  rw [hst]; rfl
theorem taken_all {b : Bo} {e : En} (hb : Right b) (hx : Right ⟨b.rs, b.es ++ [e]⟩) (hl : b.es.length ≤ 21) :
  Right ⟨b.rs, b.es ++ [e] ++ [⟨e.d, 4, b.es.length, 0⟩]⟩ ∧ Right ⟨b.rs, b.es ++ [e] ++ [⟨e.d, 4, b.es.length, 0⟩] ++ [⟨e.d, 4, (b.es.length + 1 : Nat), 0⟩]⟩ ∧
  (∀ day, runS b.rs (b.es ++ [e] ++ [⟨e.d, 4, b.es.length, 0⟩]) (b.es.length + 2) day = runS b.rs b.es b.es.length day) ∧
  (∀ day, runS b.rs (b.es ++ [e] ++ [⟨e.d, 4, b.es.length, 0⟩] ++ [⟨e.d, 4, (b.es.length + 1 : Nat), 0⟩]) (b.es.length + 3) day = runS b.rs (b.es ++ [e]) (b.es.length + 1) day) ∧
  (∀ day, runS b.rs (b.es ++ [e] ++ [⟨e.d, 4, b.es.length, 0⟩] ++ [⟨e.d, 4, (b.es.length + 1 : Nat), 0⟩]) b.es.length day = runS b.rs b.es b.es.length day) ∧
  (∀ day, runS b.rs (b.es ++ [e] ++ [⟨e.d, 4, b.es.length, 0⟩] ++ [⟨e.d, 4, (b.es.length + 1 : Nat), 0⟩]) (b.es.length + 2) day = runS b.rs b.es b.es.length day) := by
 have hd9 := hx.last
 have hld : lastD 0 (b.es ++ [e]) = e.d := lastD_snoc
 obtain ⟨y1, y2⟩ := right_back hx (n := b.es.length) (by simp) (by omega) (d := e.d) ⟨by show lastD 0 (b.es ++ [e]) ≤ _; rw [hld]; exact Int.le_refl _, by simp only [hld] at hd9; exact hd9.2⟩
 have hly : lastD 0 (b.es ++ [e] ++ [⟨e.d, 4, b.es.length, 0⟩]) = e.d := lastD_snoc
 obtain ⟨z1, z2⟩ := right_back y1 (n := b.es.length + 1) (by simp) (by omega) (d := e.d) ⟨by show lastD 0 (b.es ++ [e] ++ [⟨e.d, 4, b.es.length, 0⟩]) ≤ _; rw [hly]; exact Int.le_refl _, by simp only [hld] at hd9; exact hd9.2⟩
 have c1 : ∀ day, runS b.rs (b.es ++ [e]) b.es.length day = runS b.rs b.es b.es.length day := fun day => runS_congr (fun i hi => enA_app hi) day
 refine ⟨y1, z1, fun day => ?_, fun day => ?_, fun day => ?_, fun day => ?_⟩
 ·rw [y2, c1]
 ·rw [show b.es.length + 3 = b.es.length + 1 + 2 by omega]
  have := z2 day
  rw [this]
  exact runS_congr (fun i hi => enA_app (by simp; omega)) day
 ·refine runS_congr (fun i hi => ?_) day
  rw [List.append_assoc, List.append_assoc]; exact enA_app hi
 ·rw [← c1, ← y2]
  refine runS_congr (fun i hi => ?_) day
  exact enA_app (by simp; omega)
end Go.Bk
set_option linter.unusedVariables false
namespace Go.Bk
open Go.Lw Go.Gl
def netR (rs : List Rc) (day : Int) (y : Int) (e : En) : Int := if day < e.d then 0 else if e.k = 1 then e.n * ja rs e.t y else if e.k = 2 then - (e.n * ja rs e.t y) else 0
theorem kept {b : Bo} (hb : Right b) {first : Nat} (hf : first ≤ b.es.length) {day : Int} {st : Nat → Int} (hst : runS b.rs b.es first day = some st) (y : Nat) :
  ji st (fun s => ja b.rs s y) 8 = ((cntS b.es first).map fun i => netR b.rs day y (enA b.es i)).sum := by
 have hg := hb.bog
 have hin : ∀ e ∈ (cntS b.es first).map (enA b.es), ∃ k l, EnOk b.rs e k l := fun e he => by
  obtain ⟨i, hi, rfl⟩ := List.mem_map.1 he
  have hx := List.getElem?_eq_getElem (l := b.es) (i := i) (by have := cntS_lt hi; omega)
  rw [enA_at hx]
  obtain ⟨l, h1, _⟩ := ensOk_at hb.ens hx
  exact ⟨_, l, h1⟩
 unfold runS at hst
 rw [run_dot hg.rs (r := fun s => ja b.rs s y) (fun e he h4 => by
  obtain ⟨k, l, h⟩ := hin e he
  exact ⟨(h.th h4).1, (h.th h4).2.1⟩) hst, dot_zero, Int.zero_add, List.map_map]
 refine sum_congr fun i hi => ?_
 obtain ⟨k, l, h⟩ := hin _ (List.mem_map.2 ⟨i, hi, rfl⟩)
 show (if day < (enA b.es i).d then 0 else addR (enA b.es i) (fun s => ja b.rs s y) - takeR b.rs (enA b.es i) (fun s => ja b.rs s y)) = netR b.rs day y (enA b.es i)
 generalize enA b.es i = e at h
 show (if day < e.d then 0 else addR e (fun s => ja b.rs s y) - takeR b.rs e (fun s => ja b.rs s y)) = netR b.rs day y e
 unfold netR addR takeR
 have hk := h.k
 by_cases hd : day < e.d
 ·rw [if_pos hd, if_pos hd]
 rw [if_neg hd, if_neg hd]
 have ht : e.k ≠ 4 → ((e.t.toNat : Nat) : Int) = e.t := fun h4 => Int.toNat_of_nonneg (h.th h4).1
 by_cases k1 : e.k = 1
 ·rw [if_pos (.inl k1), if_neg (by omega), if_neg (by omega), if_pos k1]
  dsimp only
  rw [ht (by omega)]; omega
 by_cases k2 : e.k = 2
 ·rw [if_neg (by omega), if_pos k2, if_neg k1, if_pos k2]
  dsimp only
  rw [ht (by omega)]; omega
 by_cases k3 : e.k = 3
 ·rw [if_pos (.inr k3), if_neg k2, if_pos k3, if_neg k1, if_neg k2]
  dsimp only
  rw [ht (by omega), rawO_made hg.rs (h.th (by omega)).2.1 (h.made k3)]
  have e1 : ((partsOf b.rs e.t).map fun p => e.n * p.n * ja b.rs (p.t.toNat : Int) y).sum = ((partsOf b.rs e.t).map fun p => e.n * (p.n * ja b.rs p.t y)).sum := sum_congr fun p hp => by
   have := qj hg.rs hp
   rw [Int.toNat_of_nonneg this.1, Int.mul_assoc]
  rw [e1, sum_mul]; omega
 ·rw [if_neg (by omega), if_neg k2, if_neg k3, if_neg k1, if_neg k2]; rfl
end Go.Bk
set_option linter.unusedVariables false
namespace Go.Proofs.YtpoignmclfdgpaaGreatDoor
open Go.Lw Go.Gl Go.Bk Go.RowKit
theorem add_ok {b : Bo} {e : En} (h1 : bkE b = 0) (h2 : bkE (withB b e) = 0) : addE b e = 0 ∧ addB b e = withB b e := by
 have h : addE b e = 0 := by unfold addE; rw [if_neg (by rw [h1]; simp)]; exact h2
 exact ⟨h, by unfold addB; rw [if_neg (by rw [h]; simp)]⟩
theorem add_err {b : Bo} {e : En} (h1 : bkE b = 0) : addE b e = bkE (withB b e) := by unfold addE; rw [if_neg (by rw [h1]; simp)]
theorem stk_ok {b : Bo} (hR : Right b) {n : Nat} (hn : n ≤ b.es.length) {d : Int} (hd : 0 ≤ d ∧ d ≤ 999) : kg b n d = 0 ∧ jZ b n d = stL (stkF b n d) := by
 have h : kg b n d = 0 := by unfold kg; rw [if_neg (by rw [jA.2 hR]; simp), if_neg (by omega), if_neg (by omega)]
 exact ⟨h, by unfold jZ; rw [if_neg (by rw [h]; simp), Int.toNat_natCast]⟩
theorem stk_same {b b' : Bo} (hR : Right b) (hR' : Right b') {n n' : Nat} (hn : n ≤ b.es.length) (hn' : n' ≤ b'.es.length) {d d' : Int} (hd : 0 ≤ d ∧ d ≤ 999) (hd' : 0 ≤ d' ∧ d' ≤ 999) (h : runS b.rs b.es n d = runS b'.rs b'.es n' d') : jZ b n d = jZ b' n' d' := by
 rw [(stk_ok hR hn hd).2, (stk_ok hR' hn' hd').2]
 unfold stkF; rw [h]
theorem fine_ok {b : Bo} (h : (!grB b && decide (bkE b = 0)) = true) : grB b = false ∧ bkE b = 0 := by
 simpa using h
abbrev bX (b : Bo) (e : En) : Bo := withB b e
abbrev bY (b : Bo) (e : En) : Bo := withB (bX b e) ⟨e.d, 4, b.es.length, 0⟩
abbrev bZ (b : Bo) (e : En) : Bo := withB (bY b e) ⟨e.d, 4, (b.es.length : Int) + 1, 0⟩
theorem lenX (b : Bo) (e : En) : (bX b e).es.length = b.es.length + 1 := by simp [withB]
theorem lenY (b : Bo) (e : En) : (bY b e).es.length = b.es.length + 2 := by simp [withB]
theorem lenZ (b : Bo) (e : En) : (bZ b e).es.length = b.es.length + 3 := by simp [withB]
structure TkL (b : Bo) (e : En) (d : Int) : Prop where
 y : bkE (bY b e) = 0
 z : bkE (bZ b e) = 0
 k1 : kg b b.es.length d = 0
 k2 : kg (bX b e) ((b.es.length : Int) + 1) d = 0
 k3 : kg (bY b e) ((b.es.length : Int) + 2) d = 0
 k4 : kg (bZ b e) ((b.es.length : Int) + 3) d = 0
 k5 : kg (bZ b e) b.es.length d = 0
 k6 : kg (bZ b e) ((b.es.length : Int) + 2) d = 0
 l1 : jZ b b.es.length d = jZ (bY b e) ((b.es.length : Int) + 2) d
 l2 : jZ (bX b e) ((b.es.length : Int) + 1) d = jZ (bZ b e) ((b.es.length : Int) + 3) d
 l3 : jZ b b.es.length d = jZ (bZ b e) b.es.length d
 l4 : jZ (bZ b e) ((b.es.length : Int) + 2) d = jZ (bY b e) ((b.es.length : Int) + 2) d
theorem tkL {b : Bo} {e : En} (hb : bkE b = 0) (hx : bkE (withB b e) = 0) (hl : b.es.length ≤ 21) {d : Int} (hd : 0 ≤ d ∧ d ≤ 999) : TkL b e d := by
 have hR := jA.1 hb
 have hX : Right (bX b e) := jA.1 hx
 obtain ⟨y, z, r1, r2, r3, r4⟩ := taken_all hR hX hl
 have hY : Right (bY b e) := y
 have hZ : Right (bZ b e) := z
 have x1 := lenX b e; have x2 := lenY b e; have x3 := lenZ b e
 have s1 := stk_ok hR (Nat.le_refl b.es.length) hd
 have s2 := stk_ok hX (n := b.es.length + 1) (by omega) hd
 have s3 := stk_ok hY (n := b.es.length + 2) (by omega) hd
 have s4 := stk_ok hZ (n := b.es.length + 3) (by omega) hd
 have s5 := stk_ok hZ (n := b.es.length) (by omega) hd
 have s6 := stk_ok hZ (n := b.es.length + 2) (by omega) hd
 refine ⟨jA.2 hY, jA.2 hZ, s1.1, s2.1, s3.1, s4.1, s5.1, s6.1, ?_, ?_, ?_, ?_⟩
 ·exact stk_same hR hY (n' := b.es.length + 2) (Nat.le_refl _) (by omega) hd hd (r1 d).symm
 ·exact stk_same hX hZ (n := b.es.length + 1) (n' := b.es.length + 3) (by omega) (by omega) hd hd (r2 d).symm
 ·exact stk_same hR hZ (Nat.le_refl _) (by omega) hd hd (r3 d).symm
 ·exact stk_same hZ hY (n := b.es.length + 2) (n' := b.es.length + 2) (by omega) (by omega) hd hd ((r4 d).trans (r1 d).symm)
set_option maxHeartbeats 1600000 in
theorem bookTaken_f (b : Bo) (e : En) (x : Int) (hx16 : 0 ≤ x ∧ x ≤ 65535) (V : View) (hg : GvV V) (v : Value) (hv : BoV V v b) : Fnc Tryz.prog 7 [v, env e, .int .u16 x] V fun r _ => r = .bool true := by
 obtain ⟨w0, a0, c0, rfl, ⟨q0, z0, y0, e0, rfl, i0, j0⟩, s0⟩ := id hv
 clear e0 i0 j0 s0
 refine qh Tryz.func7 rfl Tryz.ntmps7 (Nat.le_of_ble_eq_true rfl) ?_
 intro w0 hw0
 refine At.nrm ?_
 refine At.zh (.n false 0 (.n false 1 (.q 2 .done))) ?_
 refine AtT.jd ?_
 intro b3
 refine AtT.jd ?_
 intro b4
 refine AtT.ze ?_
 refine AtT.done ?_
 refine At.nrm ?_
 refine At.zh (.q 0 (.q 1 (.q 2 (.q 3 .done)))) ?_
 first | refine AtT.zk zu ?_ | with_reducible refine AtT.zl zu ?_ | refine AtT.zn zu ?_
 first | refine AtT.zm qo ?_ | refine AtT.zo qo ?_
 first | refine AtT.zR Tryz.underlying24 ?_ | refine AtT.zN Tryz.underlying24 ?_
 refine AtT.ze ?_
 refine AtT.done ?_
 refine At.nrm ?_
 cases hfine : (!grB b && decide (bkE b = 0)) with
 | false =>
  refine At.zh (.q 0 (.n false 1 (.q 2 (.q 3 (.q 4 (.q 5 (.q 6 .done))))))) ?_
  first | refine AtT.zD zK ?_ | refine AtT.zI zK ?_ | refine AtT.zC zK ?_
  refine AtT.zG rfl rfl ok41 (fine_f b _ _ hv) ?_
  rintro _ rfl
  refine AtT.qM (d := 31) rfl (hfine) ?_
  refine AtT.qF ?_
  refine AtT.qM (d := 32) rfl ((show (!false) = true from rfl)) ?_
  refine AtT.zf ?_
  all_goals (first | refine AtT.kL 33 ?_ | refine AtT.zA (d := 33) rfl (fun hg33 => ?_) (fun hg33 => ?_) | refine AtT.zz (d := 33) rfl (fun hg33 => ?_) (fun hg33 => ?_))
  all_goals first|refine AtT.zi ?_|refine AtT.zg ?_|(refine AtT.zf ?_)
  all_goals first|refine AtT.zi ?_|refine AtT.zg ?_|(refine AtT.qJ ?_)
  all_goals (refine AtT.zB ?_)
  all_goals refine AtT.done ?_
  all_goals (refine At.nrm ?_)
  all_goals refine At.qb rfl rfl ?_
  refine At.nrm ?_
  refine At.zh (.n false 0 (.q 1 .done)) ?_
  refine AtT.zG rfl rfl ok17 (works_f _ hg) ?_
  rintro _ rfl
  refine AtT.ze ?_
  refine AtT.done ?_
  refine At.nrm ?_
  exact At.qi rfl (.tmp rfl) rfl
 | true =>
 by_cases hl : 21 < (b.es.length : Int)
 ·refine At.zh (.q 0 (.n false 1 (.q 2 (.q 3 (.q 4 (.q 5 (.q 6 .done))))))) ?_
  first | refine AtT.zD zK ?_ | refine AtT.zI zK ?_ | refine AtT.zC zK ?_
  refine AtT.zG rfl rfl ok41 (fine_f b _ _ hv) ?_
  rintro _ rfl
  refine AtT.qM (d := 31) rfl (hfine) ?_
  refine AtT.qF ?_
  refine AtT.qM (d := 32) rfl ((show (!true) = false from rfl)) ?_
  refine AtT.zf ?_
  all_goals (first | refine AtT.kL 33 ?_ | refine AtT.zA (d := 33) rfl (fun hg33 => ?_) (fun hg33 => ?_) | refine AtT.zz (d := 33) rfl (fun hg33 => ?_) (fun hg33 => ?_))
  all_goals first|refine AtT.zi ?_|refine AtT.zg ?_|(refine AtT.zf ?_)
  all_goals first|refine AtT.zi ?_|refine AtT.zg ?_|(refine AtT.qJ ?_)
  all_goals (refine AtT.qm (d := 35) rfl (hl) ?_)
  all_goals (refine AtT.zB ?_)
  all_goals refine AtT.done ?_
  all_goals (refine At.nrm ?_)
  all_goals refine At.qb rfl rfl ?_
  refine At.nrm ?_
  refine At.zh (.n false 0 (.q 1 .done)) ?_
  refine AtT.zG rfl rfl ok17 (works_f _ hg) ?_
  rintro _ rfl
  refine AtT.ze ?_
  refine AtT.done ?_
  refine At.nrm ?_
  exact At.qi rfl (.tmp rfl) rfl
 refine At.zh (.q 0 (.n false 1 (.q 2 (.q 3 (.q 4 (.q 5 (.q 6 .done))))))) ?_
 first | refine AtT.zD zK ?_ | refine AtT.zI zK ?_ | refine AtT.zC zK ?_
 refine AtT.zG rfl rfl ok41 (fine_f b _ _ hv) ?_
 rintro _ rfl
 refine AtT.qM (d := 31) rfl (hfine) ?_
 refine AtT.qF ?_
 refine AtT.qM (d := 32) rfl ((show (!true) = false from rfl)) ?_
 refine AtT.zf ?_
 all_goals (first | refine AtT.kL 33 ?_ | refine AtT.zA (d := 33) rfl (fun hg33 => ?_) (fun hg33 => ?_) | refine AtT.zz (d := 33) rfl (fun hg33 => ?_) (fun hg33 => ?_))
 all_goals first|refine AtT.zi ?_|refine AtT.zg ?_|(refine AtT.zf ?_)
 all_goals first|refine AtT.zi ?_|refine AtT.zg ?_|(refine AtT.qJ ?_)
 all_goals (refine AtT.zU (d := 35) rfl (hl) ?_)
 all_goals (refine AtT.zB ?_)
 all_goals refine AtT.done ?_
 all_goals (refine At.nrm ?_)
 all_goals refine At.qf rfl rfl ?_
 refine At.nrm ?_
 obtain ⟨hgr, hb0⟩ := fine_ok hfine
 have hR := jA.1 hb0
 have hrs := hR.bog.rs
 have hr8 := rcsOk_len hrs
 have hl21 : b.es.length ≤ 21 := by omega
 by_cases hx : bkE (withB b e) = 0
 rotate_left
 ·refine At.zh (.q 0 (.q 1 (.n false 2 (.q 3 (.q 4 (.q 5 (.n false 6 (.n true 7 (.q 8 .done))))))))) ?_
  first | refine AtT.zD zK ?_ | refine AtT.zI zK ?_ | refine AtT.zC zK ?_
  first | refine AtT.zD qD ?_ | refine AtT.zI qD ?_ | refine AtT.zC qD ?_
  refine AtT.qa rfl rfl ok25 (kr b e _ _ hv) ?_
  rintro _ V41 hV41 ⟨u41, rfl, h41⟩; obtain ⟨w41, a41, c41, rfl, ⟨q41, z41, y41, e41, rfl, i41, j41⟩, s41⟩ := id h41; clear e41 i41 j41 s41; replace hg := hg.le hV41; replace hv := hv.le hV41
  refine AtT.zf ?_
  refine AtT.zt ?_
  refine AtT.zt ?_
  refine AtT.zT z26 ?_
  intro b8
  refine AtT.zF zK ?_
  refine AtT.ze ?_
  refine AtT.done ?_
  refine At.nrm ?_
  refine At.zh (.q 0 (.q 1 (.q 2 (.n false 3 (.n false 4 (.q 5 .done)))))) ?_
  refine AtT.zf ?_
  first | refine AtT.zD zK ?_ | refine AtT.zI zK ?_ | refine AtT.zC zK ?_
  first | refine AtT.zD qD ?_ | refine AtT.zI qD ?_ | refine AtT.zC qD ?_
  refine AtT.qa rfl rfl ok42 (rwith_f b hrs (by omega) (by omega) e _ _ hv) ?_
  rintro v47 V47 hV47 h47; replace hg := hg.le hV47
  refine AtT.zG rfl rfl ok28 (qU (withB b e) _ _ h47) ?_
  rintro _ rfl
  refine AtT.qH ?_
  refine AtT.zU (d := 49) rfl ((fun h => h (add_err hb0))) ?_
  refine AtT.done ?_
  refine At.nrm ?_
  refine At.qf rfl rfl ?_
  refine At.nrm ?_
  refine At.zh (.q 0 (.q 1 .done)) ?_
  refine AtT.zf ?_
  refine AtT.qH ?_
  refine AtT.qm (d := 51) rfl ((by rw [add_err hb0]; exact hx)) ?_
  refine AtT.done ?_
  refine At.nrm ?_
  refine At.qb rfl rfl ?_
  refine At.nrm ?_
  refine At.zh (.n false 0 (.q 1 .done)) ?_
  refine AtT.zG rfl rfl ok17 (works_f _ hg) ?_
  rintro _ rfl
  refine AtT.ze ?_
  refine AtT.done ?_
  refine At.nrm ?_
  exact At.qi rfl (.tmp rfl) rfl
 obtain ⟨hA, hB⟩ := add_ok hb0 hx
 have hrX : qE (-1) (bX b e).rs := hrs
 have hrY : qE (-1) (bY b e).rs := hrs
 have hdy := tkL hb0 hx hl21 (d := x % 1000) (by omega)
 obtain ⟨hAy, hBy⟩ := add_ok hx hdy.y
 obtain ⟨hAz, hBz⟩ := add_ok hdy.y hdy.z
 have lx := lenX b e; have ly := lenY b e; have lz := lenZ b e
 refine At.zh (.q 0 (.q 1 (.n false 2 (.q 3 (.q 4 (.q 5 (.n false 6 (.n true 7 (.q 8 .done))))))))) ?_
 first | refine AtT.zD zK ?_ | refine AtT.zI zK ?_ | refine AtT.zC zK ?_
 first | refine AtT.zD qD ?_ | refine AtT.zI qD ?_ | refine AtT.zC qD ?_
 refine AtT.qa rfl rfl ok25 (kr b e _ _ hv) ?_
 rintro _ V41 hV41 ⟨u41, rfl, h41⟩; rw [hA]; rw [hB] at h41; obtain ⟨w41, a41, c41, rfl, ⟨q41, z41, y41, e41, rfl, i41, j41⟩, s41⟩ := id h41; clear e41 i41 j41 s41; replace hg := hg.le hV41; replace hv := hv.le hV41
 refine AtT.zf ?_
 refine AtT.zt ?_
 refine AtT.zt ?_
 refine AtT.zT z26 ?_
 intro b8
 refine AtT.zF zK ?_
 refine AtT.ze ?_
 refine AtT.done ?_
 refine At.nrm ?_
 refine At.zh (.q 0 (.q 1 (.q 2 (.n false 3 (.n false 4 (.q 5 .done)))))) ?_
 refine AtT.zf ?_
 first | refine AtT.zD zK ?_ | refine AtT.zI zK ?_ | refine AtT.zC zK ?_
 first | refine AtT.zD qD ?_ | refine AtT.zI qD ?_ | refine AtT.zC qD ?_
 refine AtT.qa rfl rfl ok42 (rwith_f b hrs (by omega) (by omega) e _ _ hv) ?_
 rintro v47 V47 hV47 h47; replace hg := hg.le hV47; replace hv := hv.le hV47; replace h41 := h41.le hV47
 refine AtT.zG rfl rfl ok28 (qU (withB b e) _ _ h47) ?_
 rintro _ rfl; rw [hx]
 refine AtT.qH ?_
 refine AtT.zU (d := 49) rfl ((fun h => h rfl)) ?_
 refine AtT.done ?_
 refine At.nrm ?_
 refine At.qf rfl rfl ?_
 refine At.nrm ?_
 refine At.zh (.q 0 (.q 1 .done)) ?_
 refine AtT.zf ?_
 refine AtT.qH ?_
 refine AtT.zU (d := 51) rfl ((fun h => h rfl)) ?_
 refine AtT.done ?_
 refine At.nrm ?_
 refine At.qf rfl rfl ?_
 refine At.nrm ?_
 refine At.draw (.q 0 (.q 1 (.q 2 (.n false 3 (.n false 4 (.q 5 .done)))))) ffm (by kernel_rfl) ?_
 first | refine AtT.zD zK ?_ | refine AtT.zI zK ?_ | refine AtT.zC zK ?_
 first | refine AtT.zD zK ?_ | refine AtT.zI zK ?_ | refine AtT.zC zK ?_
 first | refine AtT.zD qD ?_ | refine AtT.zI qD ?_ | refine AtT.zC qD ?_
 refine AtT.qa rfl rfl ok42 (rwith_f b hrs (by omega) (by omega) e _ _ hv) ?_
 rintro v56 V56 hV56 h56; replace hg := hg.le hV56; replace hv := hv.le hV56; replace h41 := h41.le hV56
 refine AtT.zG rfl rfl ok30 (same_f (bX b e) (bX b e) _ _ _ h41 h56) ?_
 rintro _ rfl
 refine AtT.qm (d := 57) rfl (rfl) ?_
 refine AtT.qF ?_
 refine AtT.qM (d := 58) rfl ((show (!true) = false from rfl)) ?_
 refine AtT.done ?_
 refine At.nrm ?_
 all_goals refine At.qf rfl rfl ?_
 refine At.nrm ?_
 refine At.zh (.q 0 (.n false 1 (.q 2 .done))) ?_
 refine AtT.zf ?_
 refine AtT.zG rfl rfl ok43 (day_f x hx16 _) ?_
 rintro _ rfl
 refine AtT.ze ?_
 refine AtT.done ?_
 refine At.nrm ?_
 refine At.cutG (ι := Nat × Option Addr × Nat × Nat × Option Addr × Nat) (fun g => [(3, .pointer (some ⟨b3, 0, none⟩)), (4, .pointer (some ⟨b4, 0, none⟩)), (7, iv b.es.length), (8, .pointer (some ⟨b8, 0, none⟩)), (10, iv (x % 1000)), (11, .pointer (some ⟨g.1, 0, none⟩)), (12, iv 0)]) (fun g => [.blk b3 (LC [.slice z0 q0.length y0, .slice a0 b.es.length c0] 26), .blk b4 (LC [iv e.d, iv e.k, iv e.t, iv e.n] 36), .blk b8 (LC [.slice z41 q41.length y41, .slice a41 (bX b e).es.length c41] 26), .blk g.1 (LC [.slice g.2.1 g.2.2.1 g.2.2.2.1, .slice g.2.2.2.2.1 (bY b e).es.length g.2.2.2.2.2] 26)]) (fun g V'' => GvV V'' ∧ BoV V'' (.agg #[.slice z0 q0.length y0, .slice a0 b.es.length c0]) b ∧ BoV V'' (.agg #[.slice z41 q41.length y41, .slice a41 (bX b e).es.length c41]) (bX b e) ∧ BoV V'' (.agg #[.slice g.2.1 g.2.2.1 g.2.2.2.1, .slice g.2.2.2.2.1 (bY b e).es.length g.2.2.2.2.2]) (bY b e)) ?_ ?_
 ·refine At.draw (.q 0 (.q 1 (.q 2 (.q 3 (.two 4 (.two 5 (.q 6 (.q 7 (.q 8 (.n false 9 (.n false 10 (.q 11 .done)))))) 9 (.n false 5 (.q 6 (.q 7 (.q 8 (.n false 10 (.q 11 .done))))))) 9 (.n false 4 (.n false 5 (.q 6 (.q 7 (.q 8 (.n false 10 (.q 11 .done)))))))))))) ffm (by kernel_rfl) ?_
  refine AtC.start ?_
  refine AtC.pre (fun hle0 => ?_)
  refine AtC.kq (by (first | refine AtT.zD zK ?_ | refine AtT.zI zK ?_ | refine AtT.zC zK ?_); exact At.knows) ?_
  refine AtC.kq (by (first | refine AtT.zk qd ?_ | with_reducible refine AtT.zl qd ?_ | refine AtT.zn qd ?_); exact At.knows) ?_
  refine AtC.kq (by (first | refine AtT.zm tk3 ?_ | refine AtT.zo tk3 ?_); exact At.knows) ?_
  refine AtC.kq (by (refine AtT.zf ?_); exact At.knows) ?_
  refine AtC.two ?_ ?_
  focus
   refine AtC.nz ?_
   refine AtT.zG rfl rfl ok44 (jy e.d 4 b.es.length 0 _) ?_
   rintro _ rfl
   refine AtC.kgo ?_
   refine AtC.two ?_ ?_
   focus
    refine AtC.nz ?_
    refine AtT.qa rfl rfl ok25 (kr (bX b e) ⟨e.d, 4, b.es.length, 0⟩ _ _ h41) ?_
    rintro _ V67 hV67 ⟨u67, rfl, h67⟩; rw [hAy]; rw [hBy] at h67; obtain ⟨w67, a67, c67, rfl, ⟨q67, z67, y67, e67, rfl, i67, j67⟩, s67⟩ := id h67; clear e67 i67 j67 s67; replace hg := hg.le hV67; replace hv := hv.le hV67; replace h41 := h41.le hV67
    refine AtC.kgo ?_
    refine AtC.kq (by (refine AtT.zf ?_); exact At.knows) ?_
    refine AtC.kq (by (refine AtT.zt ?_); exact At.knows) ?_
    refine AtC.kq (by (refine AtT.zt ?_); exact At.knows) ?_
    refine AtC.nz ?_
    refine AtT.zT z26 ?_
    intro b11
    refine AtC.kgo ?_
    refine AtC.nz ?_
    refine AtT.zF zK ?_
    refine AtC.kgo ?_
    refine AtC.kq (by (refine AtT.ze ?_); exact At.knows) ?_
    refine AtC.done ?_
   rotate_right
   focus
    refine AtC.nz ?_
    refine AtT.zT z26 ?_
    intro b11
    refine AtC.kgo ?_
    refine AtC.nz ?_
    refine AtT.qa rfl rfl ok25 (kr (bX b e) ⟨e.d, 4, b.es.length, 0⟩ _ _ h41) ?_
    rintro _ V67 hV67 ⟨u67, rfl, h67⟩; rw [hAy]; rw [hBy] at h67; obtain ⟨w67, a67, c67, rfl, ⟨q67, z67, y67, e67, rfl, i67, j67⟩, s67⟩ := id h67; clear e67 i67 j67 s67; replace hg := hg.le hV67; replace hv := hv.le hV67; replace h41 := h41.le hV67
    refine AtC.kgo ?_
    refine AtC.kq (by (refine AtT.zf ?_); exact At.knows) ?_
    refine AtC.kq (by (refine AtT.zt ?_); exact At.knows) ?_
    refine AtC.kq (by (refine AtT.zt ?_); exact At.knows) ?_
    refine AtC.nz ?_
    refine AtT.zF zK ?_
    refine AtC.kgo ?_
    refine AtC.kq (by (refine AtT.ze ?_); exact At.knows) ?_
    refine AtC.done ?_
  rotate_right
  focus
   refine AtC.nz ?_
   refine AtT.zT z26 ?_
   intro b11
   refine AtC.kgo ?_
   refine AtC.nz ?_
   refine AtT.zG rfl rfl ok44 (jy e.d 4 b.es.length 0 _) ?_
   rintro _ rfl
   refine AtC.kgo ?_
   refine AtC.nz ?_
   refine AtT.qa rfl rfl ok25 (kr (bX b e) ⟨e.d, 4, b.es.length, 0⟩ _ _ h41) ?_
   rintro _ V67 hV67 ⟨u67, rfl, h67⟩; rw [hAy]; rw [hBy] at h67; obtain ⟨w67, a67, c67, rfl, ⟨q67, z67, y67, e67, rfl, i67, j67⟩, s67⟩ := id h67; clear e67 i67 j67 s67; replace hg := hg.le hV67; replace hv := hv.le hV67; replace h41 := h41.le hV67
   refine AtC.kgo ?_
   refine AtC.kq (by (refine AtT.zf ?_); exact At.knows) ?_
   refine AtC.kq (by (refine AtT.zt ?_); exact At.knows) ?_
   refine AtC.kq (by (refine AtT.zt ?_); exact At.knows) ?_
   refine AtC.nz ?_
   refine AtT.zF zK ?_
   refine AtC.kgo ?_
   refine AtC.kq (by (refine AtT.ze ?_); exact At.knows) ?_
   refine AtC.done ?_
  all_goals (refine At.nrm ?_)
  all_goals exact At.kC (b11, z67, q67.length, y67, a67, c67) ⟨hg, hv, h41, h67⟩ ⟨rfl, rfl, rfl, rfl, rfl, rfl, rfl, trivial⟩ Pt.zH
 rintro ⟨b11, z67, n67, y67, a67, c67⟩ Vc12 ks' O' ⟨hg, hv, h41, h67⟩ hk hO hl12
 dsimp only at hk hO h67
 subst hk hO
 refine At.nrm ?_
 refine At.draw (.q 0 (.q 1 (.q 2 (.q 3 (.q 4 (.q 5 (.q 6 (.q 7 (.n false 8 (.n false 9 (.n false 10 (.q 11 (.q 12 .done))))))))))))) ffm (by kernel_rfl) ?_
 refine AtT.zf ?_
 refine AtT.qH ?_
 refine AtT.zU (d := 71) rfl ((fun h => h rfl)) ?_
 refine AtT.zf ?_
 all_goals (first | refine AtT.kL 72 ?_ | refine AtT.zA (d := 72) rfl (fun hg72 => ?_) (fun hg72 => ?_) | refine AtT.zz (d := 72) rfl (fun hg72 => ?_) (fun hg72 => ?_))
 all_goals first|refine AtT.zi ?_|refine AtT.zg ?_|(first | refine AtT.zD zK ?_ | refine AtT.zI zK ?_ | refine AtT.zC zK ?_)
 all_goals first|refine AtT.zi ?_|refine AtT.zg ?_|(first | refine AtT.zD zK ?_ | refine AtT.zI zK ?_ | refine AtT.zC zK ?_)
 all_goals first|refine AtT.zi ?_|refine AtT.zg ?_|(first | refine AtT.zk qd ?_ | with_reducible refine AtT.zl qd ?_ | refine AtT.zn qd ?_)
 all_goals first|refine AtT.zi ?_|refine AtT.zg ?_|(first | refine AtT.zm tk3 ?_ | refine AtT.zo tk3 ?_)
 all_goals first|refine AtT.zi ?_|refine AtT.zg ?_|(refine AtT.zf ?_)
 all_goals first|refine AtT.qg ?_|refine AtT.zW ?_|((refine AtT.zG rfl rfl ok44 (jy e.d 4 b.es.length 0 _) ?_) ; (rintro _ rfl))
 all_goals first|refine AtT.qg ?_|refine AtT.zW ?_|((refine AtT.qa rfl rfl ok42 (rwith_f (bX b e) hrX (by show b.rs.length ≤ 100; omega) (by rw [lx]; omega) ⟨e.d, 4, b.es.length, 0⟩ _ _ h41) ?_) ; (rintro v79 V79 hV79 h79; replace hg := hg.le hV79; replace hv := hv.le hV79; replace h41 := h41.le hV79; replace h67 := h67.le hV79))
 all_goals first|refine AtT.qg ?_|refine AtT.zW ?_|((refine AtT.zG rfl rfl ok30 (same_f (bY b e) (bY b e) _ _ _ h67 h79) ?_) ; (rintro _ rfl))
 all_goals (refine AtT.qm (d := 80) rfl (rfl) ?_)
 all_goals first|refine AtT.zi ?_|refine AtT.zg ?_|(refine AtT.qF ?_)
 all_goals (refine AtT.qM (d := 81) rfl ((show (!true) = false from rfl)) ?_)
 all_goals (refine AtT.zB ?_)
 all_goals refine AtT.done ?_
 all_goals (refine At.nrm ?_)
 all_goals refine At.qf rfl rfl ?_
 refine At.nrm ?_
 refine At.cutG (ι := Nat × Option Addr × Nat × Nat × Option Addr × Nat) (fun g => [(3, .pointer (some ⟨b3, 0, none⟩)), (4, .pointer (some ⟨b4, 0, none⟩)), (7, iv b.es.length), (8, .pointer (some ⟨b8, 0, none⟩)), (10, iv (x % 1000)), (11, .pointer (some ⟨b11, 0, none⟩)), (12, iv 0), (13, .pointer (some ⟨g.1, 0, none⟩)), (14, iv 0)]) (fun g => [.blk b3 (LC [.slice z0 q0.length y0, .slice a0 b.es.length c0] 26), .blk b4 (LC [iv e.d, iv e.k, iv e.t, iv e.n] 36), .blk b8 (LC [.slice z41 q41.length y41, .slice a41 (bX b e).es.length c41] 26), .blk b11 (LC [.slice z67 n67 y67, .slice a67 (bY b e).es.length c67] 26), .blk g.1 (LC [.slice g.2.1 g.2.2.1 g.2.2.2.1, .slice g.2.2.2.2.1 (bZ b e).es.length g.2.2.2.2.2] 26)]) (fun g V'' => GvV V'' ∧ BoV V'' (.agg #[.slice z0 q0.length y0, .slice a0 b.es.length c0]) b ∧ BoV V'' (.agg #[.slice z41 q41.length y41, .slice a41 (bX b e).es.length c41]) (bX b e) ∧ BoV V'' (.agg #[.slice z67 n67 y67, .slice a67 (bY b e).es.length c67]) (bY b e) ∧ BoV V'' (.agg #[.slice g.2.1 g.2.2.1 g.2.2.2.1, .slice g.2.2.2.2.1 (bZ b e).es.length g.2.2.2.2.2]) (bZ b e)) ?_ ?_
 ·refine At.draw (.q 0 (.q 1 (.q 2 (.q 3 (.q 4 (.two 5 (.two 6 (.q 7 (.q 8 (.q 9 (.n false 10 (.n false 11 (.q 12 .done)))))) 10 (.n false 6 (.q 7 (.q 8 (.q 9 (.n false 11 (.q 12 .done))))))) 10 (.n false 5 (.n false 6 (.q 7 (.q 8 (.q 9 (.n false 11 (.q 12 .done))))))))))))) ffm (by kernel_rfl) ?_
  refine AtC.start ?_
  refine AtC.pre (fun hle0 => ?_)
  refine AtC.kq (by (first | refine AtT.zD zK ?_ | refine AtT.zI zK ?_ | refine AtT.zC zK ?_); exact At.knows) ?_
  refine AtC.kq (by (first | refine AtT.zk qd ?_ | with_reducible refine AtT.zl qd ?_ | refine AtT.zn qd ?_); exact At.knows) ?_
  refine AtC.kq (by (first | refine AtT.zm tk3 ?_ | refine AtT.zo tk3 ?_); exact At.knows) ?_
  refine AtC.kq (by (refine AtT.zf ?_); exact At.knows) ?_
  refine AtC.kq (by (first | refine AtT.qI ?_ | refine AtT.ql ?_); exact At.knows) ?_
  refine AtC.two ?_ ?_
  focus
   refine AtC.nz ?_
   refine AtT.zG rfl rfl ok44 (jy e.d 4 ((b.es.length : Int) + 1) 0 _) ?_
   rintro _ rfl
   refine AtC.kgo ?_
   refine AtC.two ?_ ?_
   focus
    refine AtC.nz ?_
    refine AtT.qa rfl rfl ok25 (kr (bY b e) ⟨e.d, 4, (b.es.length : Int) + 1, 0⟩ _ _ h67) ?_
    rintro _ V90 hV90 ⟨u90, rfl, h90⟩; rw [hAz]; rw [hBz] at h90; obtain ⟨w90, a90, c90, rfl, ⟨q90, z90, y90, e90, rfl, i90, j90⟩, s90⟩ := id h90; clear e90 i90 j90 s90; replace hg := hg.le hV90; replace hv := hv.le hV90; replace h41 := h41.le hV90; replace h67 := h67.le hV90
    refine AtC.kgo ?_
    refine AtC.kq (by (refine AtT.zf ?_); exact At.knows) ?_
    refine AtC.kq (by (refine AtT.zt ?_); exact At.knows) ?_
    refine AtC.kq (by (refine AtT.zt ?_); exact At.knows) ?_
    refine AtC.nz ?_
    refine AtT.zT z26 ?_
    intro b13
    refine AtC.kgo ?_
    refine AtC.nz ?_
    refine AtT.zF zK ?_
    refine AtC.kgo ?_
    refine AtC.kq (by (refine AtT.ze ?_); exact At.knows) ?_
    refine AtC.done ?_
   rotate_right
   focus
    refine AtC.nz ?_
    refine AtT.zT z26 ?_
    intro b13
    refine AtC.kgo ?_
    refine AtC.nz ?_
    refine AtT.qa rfl rfl ok25 (kr (bY b e) ⟨e.d, 4, (b.es.length : Int) + 1, 0⟩ _ _ h67) ?_
    rintro _ V90 hV90 ⟨u90, rfl, h90⟩; rw [hAz]; rw [hBz] at h90; obtain ⟨w90, a90, c90, rfl, ⟨q90, z90, y90, e90, rfl, i90, j90⟩, s90⟩ := id h90; clear e90 i90 j90 s90; replace hg := hg.le hV90; replace hv := hv.le hV90; replace h41 := h41.le hV90; replace h67 := h67.le hV90
    refine AtC.kgo ?_
    refine AtC.kq (by (refine AtT.zf ?_); exact At.knows) ?_
    refine AtC.kq (by (refine AtT.zt ?_); exact At.knows) ?_
    refine AtC.kq (by (refine AtT.zt ?_); exact At.knows) ?_
    refine AtC.nz ?_
    refine AtT.zF zK ?_
    refine AtC.kgo ?_
    refine AtC.kq (by (refine AtT.ze ?_); exact At.knows) ?_
    refine AtC.done ?_
  rotate_right
  focus
   refine AtC.nz ?_
   refine AtT.zT z26 ?_
   intro b13
   refine AtC.kgo ?_
   refine AtC.nz ?_
   refine AtT.zG rfl rfl ok44 (jy e.d 4 ((b.es.length : Int) + 1) 0 _) ?_
   rintro _ rfl
   refine AtC.kgo ?_
   refine AtC.nz ?_
   refine AtT.qa rfl rfl ok25 (kr (bY b e) ⟨e.d, 4, (b.es.length : Int) + 1, 0⟩ _ _ h67) ?_
   rintro _ V90 hV90 ⟨u90, rfl, h90⟩; rw [hAz]; rw [hBz] at h90; obtain ⟨w90, a90, c90, rfl, ⟨q90, z90, y90, e90, rfl, i90, j90⟩, s90⟩ := id h90; clear e90 i90 j90 s90; replace hg := hg.le hV90; replace hv := hv.le hV90; replace h41 := h41.le hV90; replace h67 := h67.le hV90
   refine AtC.kgo ?_
   refine AtC.kq (by (refine AtT.zf ?_); exact At.knows) ?_
   refine AtC.kq (by (refine AtT.zt ?_); exact At.knows) ?_
   refine AtC.kq (by (refine AtT.zt ?_); exact At.knows) ?_
   refine AtC.nz ?_
   refine AtT.zF zK ?_
   refine AtC.kgo ?_
   refine AtC.kq (by (refine AtT.ze ?_); exact At.knows) ?_
   refine AtC.done ?_
  all_goals (refine At.nrm ?_)
  all_goals exact At.kC (b13, z90, q90.length, y90, a90, c90) ⟨hg, hv, h41, h67, h90⟩ ⟨rfl, rfl, rfl, rfl, rfl, rfl, rfl, rfl, rfl, trivial⟩ Pt.zH
 rintro ⟨b13, z90, n90, y90, a90, c90⟩ Vc15 ks' O' ⟨hg, hv, h41, h67, h90⟩ hk hO hl15
 dsimp only at hk hO h90
 subst hk hO
 refine At.nrm ?_
 refine At.draw (.q 0 (.q 1 (.q 2 (.q 3 (.q 4 (.q 5 (.q 6 (.q 7 (.q 8 (.n false 9 (.n false 10 (.n false 11 (.q 12 (.q 13 .done)))))))))))))) ffm (by kernel_rfl) ?_
 refine AtT.zf ?_
 refine AtT.qH ?_
 refine AtT.zU (d := 94) rfl ((fun h => h rfl)) ?_
 refine AtT.zf ?_
 all_goals (first | refine AtT.kL 95 ?_ | refine AtT.zA (d := 95) rfl (fun hg95 => ?_) (fun hg95 => ?_) | refine AtT.zz (d := 95) rfl (fun hg95 => ?_) (fun hg95 => ?_))
 all_goals first|refine AtT.zi ?_|refine AtT.zg ?_|(first | refine AtT.zD zK ?_ | refine AtT.zI zK ?_ | refine AtT.zC zK ?_)
 all_goals first|refine AtT.zi ?_|refine AtT.zg ?_|(first | refine AtT.zD zK ?_ | refine AtT.zI zK ?_ | refine AtT.zC zK ?_)
 all_goals first|refine AtT.zi ?_|refine AtT.zg ?_|(first | refine AtT.zk qd ?_ | with_reducible refine AtT.zl qd ?_ | refine AtT.zn qd ?_)
 all_goals first|refine AtT.zi ?_|refine AtT.zg ?_|(first | refine AtT.zm tk3 ?_ | refine AtT.zo tk3 ?_)
 all_goals first|refine AtT.zi ?_|refine AtT.zg ?_|(refine AtT.zf ?_)
 all_goals first|refine AtT.zi ?_|refine AtT.zg ?_|(first | refine AtT.qI ?_ | refine AtT.ql ?_)
 all_goals first|refine AtT.qg ?_|refine AtT.zW ?_|((refine AtT.zG rfl rfl ok44 (jy e.d 4 ((b.es.length : Int) + 1) 0 _) ?_) ; (rintro _ rfl))
 all_goals first|refine AtT.qg ?_|refine AtT.zW ?_|((refine AtT.qa rfl rfl ok42 (rwith_f (bY b e) hrY (by show b.rs.length ≤ 100; omega) (by rw [ly]; omega) ⟨e.d, 4, (b.es.length : Int) + 1, 0⟩ _ _ h67) ?_) ; (rintro v103 V103 hV103 h103; replace hg := hg.le hV103; replace hv := hv.le hV103; replace h41 := h41.le hV103; replace h67 := h67.le hV103; replace h90 := h90.le hV103))
 all_goals first|refine AtT.qg ?_|refine AtT.zW ?_|((refine AtT.zG rfl rfl ok30 (same_f (bZ b e) (bZ b e) _ _ _ h90 h103) ?_) ; (rintro _ rfl))
 all_goals (refine AtT.qm (d := 104) rfl (rfl) ?_)
 all_goals first|refine AtT.zi ?_|refine AtT.zg ?_|(refine AtT.qF ?_)
 all_goals (refine AtT.qM (d := 105) rfl ((show (!true) = false from rfl)) ?_)
 all_goals (refine AtT.zB ?_)
 all_goals refine AtT.done ?_
 all_goals (refine At.nrm ?_)
 all_goals refine At.qf rfl rfl ?_
 refine At.nrm ?_
 refine At.zh (.q 0 (.q 1 (.q 2 (.n false 3 (.q 4 (.q 5 (.q 6 (.q 7 (.q 8 .done))))))))) ?_
 first | refine AtT.zD zK ?_ | refine AtT.zI zK ?_ | refine AtT.zC zK ?_
 refine AtT.zf ?_
 refine AtT.zf ?_
 refine AtT.qa rfl rfl ok45 (stock_f b b.es.length (x % 1000) _ _ hv) ?_
 rintro _ V111 hV111 ⟨u111, rfl, h111⟩; rw [decide_eq_true hdy.k1]
 refine AtT.zf ?_
 refine AtT.zt ?_
 refine AtT.zt ?_
 refine AtT.ze ?_
 refine AtT.ze ?_
 refine AtT.done ?_
 refine At.nrm ?_
 replace hg := hg.le hV111
 replace hv := hv.le hV111
 replace h41 := h41.le hV111
 replace h67 := h67.le hV111
 replace h90 := h90.le hV111
 refine At.zh (.q 0 (.q 1 (.q 2 (.q 3 (.n false 4 (.q 5 (.q 6 (.q 7 (.q 8 (.q 9 .done)))))))))) ?_
 first | refine AtT.zD zK ?_ | refine AtT.zI zK ?_ | refine AtT.zC zK ?_
 refine AtT.zf ?_
 first | refine AtT.qI ?_ | refine AtT.ql ?_
 refine AtT.zf ?_
 refine AtT.qa rfl rfl ok45 (stock_f (bX b e) ((b.es.length : Int) + 1) (x % 1000) _ _ h41) ?_
 rintro _ V119 hV119 ⟨u119, rfl, h119⟩; rw [decide_eq_true hdy.k2]
 refine AtT.zf ?_
 refine AtT.zt ?_
 refine AtT.zt ?_
 refine AtT.ze ?_
 refine AtT.ze ?_
 refine AtT.done ?_
 refine At.nrm ?_
 replace hg := hg.le hV119
 replace hv := hv.le hV119
 replace h41 := h41.le hV119
 replace h67 := h67.le hV119
 replace h90 := h90.le hV119
 replace h111 := h111.le hV119
 refine At.zh (.q 0 (.q 1 (.q 2 (.q 3 (.n false 4 (.q 5 (.q 6 (.q 7 (.q 8 (.q 9 .done)))))))))) ?_
 first | refine AtT.zD zK ?_ | refine AtT.zI zK ?_ | refine AtT.zC zK ?_
 refine AtT.zf ?_
 first | refine AtT.qI ?_ | refine AtT.ql ?_
 refine AtT.zf ?_
 refine AtT.qa rfl rfl ok45 (stock_f (bY b e) ((b.es.length : Int) + 2) (x % 1000) _ _ h67) ?_
 rintro _ V127 hV127 ⟨u127, rfl, h127⟩; rw [decide_eq_true hdy.k3]
 refine AtT.zf ?_
 refine AtT.zt ?_
 refine AtT.zt ?_
 refine AtT.ze ?_
 refine AtT.ze ?_
 refine AtT.done ?_
 refine At.nrm ?_
 replace hg := hg.le hV127
 replace hv := hv.le hV127
 replace h41 := h41.le hV127
 replace h67 := h67.le hV127
 replace h90 := h90.le hV127
 replace h111 := h111.le hV127
 replace h119 := h119.le hV127
 refine At.zh (.q 0 (.q 1 (.q 2 (.q 3 (.n false 4 (.q 5 (.q 6 (.q 7 (.q 8 (.q 9 .done)))))))))) ?_
 first | refine AtT.zD zK ?_ | refine AtT.zI zK ?_ | refine AtT.zC zK ?_
 refine AtT.zf ?_
 first | refine AtT.qI ?_ | refine AtT.ql ?_
 refine AtT.zf ?_
 refine AtT.qa rfl rfl ok45 (stock_f (bZ b e) ((b.es.length : Int) + 3) (x % 1000) _ _ h90) ?_
 rintro _ V135 hV135 ⟨u135, rfl, h135⟩; rw [decide_eq_true hdy.k4]
 refine AtT.zf ?_
 refine AtT.zt ?_
 refine AtT.zt ?_
 refine AtT.ze ?_
 refine AtT.ze ?_
 refine AtT.done ?_
 refine At.nrm ?_
 replace hg := hg.le hV135
 replace hv := hv.le hV135
 replace h41 := h41.le hV135
 replace h67 := h67.le hV135
 replace h90 := h90.le hV135
 replace h111 := h111.le hV135
 replace h119 := h119.le hV135
 replace h127 := h127.le hV135
 refine At.zh (.q 0 (.q 1 (.q 2 (.n false 3 (.q 4 (.q 5 (.q 6 (.q 7 (.q 8 .done))))))))) ?_
 first | refine AtT.zD zK ?_ | refine AtT.zI zK ?_ | refine AtT.zC zK ?_
 refine AtT.zf ?_
 refine AtT.zf ?_
 refine AtT.qa rfl rfl ok45 (stock_f (bZ b e) b.es.length (x % 1000) _ _ h90) ?_
 rintro _ V142 hV142 ⟨u142, rfl, h142⟩; rw [decide_eq_true hdy.k5]
 refine AtT.zf ?_
 refine AtT.zt ?_
 refine AtT.zt ?_
 refine AtT.ze ?_
 refine AtT.ze ?_
 refine AtT.done ?_
 refine At.nrm ?_
 replace hg := hg.le hV142
 replace hv := hv.le hV142
 replace h41 := h41.le hV142
 replace h67 := h67.le hV142
 replace h90 := h90.le hV142
 replace h111 := h111.le hV142
 replace h119 := h119.le hV142
 replace h127 := h127.le hV142
 replace h135 := h135.le hV142
 refine At.zh (.q 0 (.q 1 (.q 2 (.q 3 (.n false 4 (.q 5 (.q 6 (.q 7 (.q 8 (.q 9 .done)))))))))) ?_
 first | refine AtT.zD zK ?_ | refine AtT.zI zK ?_ | refine AtT.zC zK ?_
 refine AtT.zf ?_
 first | refine AtT.qI ?_ | refine AtT.ql ?_
 refine AtT.zf ?_
 refine AtT.qa rfl rfl ok45 (stock_f (bZ b e) ((b.es.length : Int) + 2) (x % 1000) _ _ h90) ?_
 rintro _ V150 hV150 ⟨u150, rfl, h150⟩; rw [decide_eq_true hdy.k6]
 refine AtT.zf ?_
 refine AtT.zt ?_
 refine AtT.zt ?_
 refine AtT.ze ?_
 refine AtT.ze ?_
 refine AtT.done ?_
 refine At.nrm ?_
 replace hg := hg.le hV150
 replace hv := hv.le hV150
 replace h41 := h41.le hV150
 replace h67 := h67.le hV150
 replace h90 := h90.le hV150
 replace h111 := h111.le hV150
 replace h119 := h119.le hV150
 replace h127 := h127.le hV150
 replace h135 := h135.le hV150
 replace h142 := h142.le hV150
 refine At.zh (.q 0 (.q 1 (.q 2 (.q 3 (.q 4 (.q 5 (.q 6 (.q 7 (.q 8 (.q 9 (.q 10 (.q 11 (.q 12 (.q 13 (.q 14 (.q 15 (.q 16 (.q 17 (.q 18 (.n false 19 (.q 20 (.q 21 (.q 22 (.q 23 (.n false 24 (.q 25 (.q 26 (.q 27 (.q 28 (.n false 29 (.q 30 (.q 31 (.q 32 (.q 33 (.n false 34 (.q 35 (.q 36 (.n false 37 (.q 38 (.q 39 .done)))))))))))))))))))))))))))))))))))))))) ?_
 refine AtT.zf ?_
 refine AtT.zf ?_
 all_goals (first | refine AtT.kL 154 ?_ | refine AtT.zA (d := 154) rfl (fun hg154 => ?_) (fun hg154 => ?_) | refine AtT.zz (d := 154) rfl (fun hg154 => ?_) (fun hg154 => ?_))
 all_goals first|refine AtT.zi ?_|refine AtT.zg ?_|(refine AtT.zf ?_)
 all_goals (refine AtT.zB ?_)
 all_goals (refine AtT.zf ?_)
 all_goals (first | refine AtT.kL 157 ?_ | refine AtT.zA (d := 157) rfl (fun hg157 => ?_) (fun hg157 => ?_) | refine AtT.zz (d := 157) rfl (fun hg157 => ?_) (fun hg157 => ?_))
 all_goals first|refine AtT.zi ?_|refine AtT.zg ?_|(refine AtT.zf ?_)
 all_goals (refine AtT.zB ?_)
 all_goals (refine AtT.zf ?_)
 all_goals (first | refine AtT.kL 160 ?_ | refine AtT.zA (d := 160) rfl (fun hg160 => ?_) (fun hg160 => ?_) | refine AtT.zz (d := 160) rfl (fun hg160 => ?_) (fun hg160 => ?_))
 all_goals first|refine AtT.zi ?_|refine AtT.zg ?_|(refine AtT.zf ?_)
 all_goals (refine AtT.zB ?_)
 all_goals (refine AtT.zf ?_)
 all_goals (first | refine AtT.kL 163 ?_ | refine AtT.zA (d := 163) rfl (fun hg163 => ?_) (fun hg163 => ?_) | refine AtT.zz (d := 163) rfl (fun hg163 => ?_) (fun hg163 => ?_))
 all_goals first|refine AtT.zi ?_|refine AtT.zg ?_|(refine AtT.zf ?_)
 all_goals (refine AtT.zB ?_)
 all_goals (refine AtT.zf ?_)
 all_goals (first | refine AtT.kL 166 ?_ | refine AtT.zA (d := 166) rfl (fun hg166 => ?_) (fun hg166 => ?_) | refine AtT.zz (d := 166) rfl (fun hg166 => ?_) (fun hg166 => ?_))
 all_goals first|refine AtT.zi ?_|refine AtT.zg ?_|(refine AtT.zf ?_)
 all_goals (refine AtT.zB ?_)
 all_goals (refine AtT.zf ?_)
 all_goals (first | refine AtT.kL 169 ?_ | refine AtT.zA (d := 169) rfl (fun hg169 => ?_) (fun hg169 => ?_) | refine AtT.zz (d := 169) rfl (fun hg169 => ?_) (fun hg169 => ?_))
 all_goals first|refine AtT.zi ?_|refine AtT.zg ?_|(refine AtT.zf ?_)
 all_goals first|refine AtT.zi ?_|refine AtT.zg ?_|(refine AtT.zf ?_)
 all_goals first|refine AtT.qg ?_|refine AtT.zW ?_|((refine AtT.zG rfl rfl ok22 (longs_f _ _ _ _ _ h111 h127) ?_) ; (rintro _ rfl))
 all_goals (refine AtT.qm (d := 172) rfl (hdy.l1) ?_)
 all_goals (refine AtT.zB ?_)
 all_goals (refine AtT.zf ?_)
 all_goals (first | refine AtT.kL 174 ?_ | refine AtT.zA (d := 174) rfl (fun hg174 => ?_) (fun hg174 => ?_) | refine AtT.zz (d := 174) rfl (fun hg174 => ?_) (fun hg174 => ?_))
 all_goals first|refine AtT.zi ?_|refine AtT.zg ?_|(refine AtT.zf ?_)
 all_goals first|refine AtT.zi ?_|refine AtT.zg ?_|(refine AtT.zf ?_)
 all_goals first|refine AtT.qg ?_|refine AtT.zW ?_|((refine AtT.zG rfl rfl ok22 (longs_f _ _ _ _ _ h119 h135) ?_) ; (rintro _ rfl))
 all_goals (refine AtT.qm (d := 177) rfl (hdy.l2) ?_)
 all_goals (refine AtT.zB ?_)
 all_goals (refine AtT.zf ?_)
 all_goals (first | refine AtT.kL 179 ?_ | refine AtT.zA (d := 179) rfl (fun hg179 => ?_) (fun hg179 => ?_) | refine AtT.zz (d := 179) rfl (fun hg179 => ?_) (fun hg179 => ?_))
 all_goals first|refine AtT.zi ?_|refine AtT.zg ?_|(refine AtT.zf ?_)
 all_goals first|refine AtT.zi ?_|refine AtT.zg ?_|(refine AtT.zf ?_)
 all_goals first|refine AtT.qg ?_|refine AtT.zW ?_|((refine AtT.zG rfl rfl ok22 (longs_f _ _ _ _ _ h111 h142) ?_) ; (rintro _ rfl))
 all_goals (refine AtT.qm (d := 182) rfl (hdy.l3) ?_)
 all_goals (refine AtT.zB ?_)
 all_goals (refine AtT.zf ?_)
 all_goals (first | refine AtT.kL 184 ?_ | refine AtT.zA (d := 184) rfl (fun hg184 => ?_) (fun hg184 => ?_) | refine AtT.zz (d := 184) rfl (fun hg184 => ?_) (fun hg184 => ?_))
 all_goals first|refine AtT.zi ?_|refine AtT.zg ?_|(refine AtT.zf ?_)
 all_goals first|refine AtT.zi ?_|refine AtT.zg ?_|(refine AtT.zf ?_)
 all_goals first|refine AtT.qg ?_|refine AtT.zW ?_|((refine AtT.zG rfl rfl ok22 (longs_f _ _ _ _ _ h150 h127) ?_) ; (rintro _ rfl))
 all_goals (refine AtT.qm (d := 187) rfl (hdy.l4) ?_)
 all_goals (refine AtT.zB ?_)
 all_goals (refine AtT.zf ?_)
 all_goals (first | refine AtT.kL 189 ?_ | refine AtT.zA (d := 189) rfl (fun hg189 => ?_) (fun hg189 => ?_) | refine AtT.zz (d := 189) rfl (fun hg189 => ?_) (fun hg189 => ?_))
 all_goals first|refine AtT.qg ?_|refine AtT.zW ?_|((refine AtT.zG rfl rfl ok17 (works_f _ hg) ?_) ; (rintro _ rfl))
 all_goals (refine AtT.zB ?_)
 all_goals (refine AtT.ze ?_)
 all_goals refine AtT.done ?_
 all_goals (refine At.nrm ?_)
 all_goals (exact At.qi rfl (.tmp rfl) rfl)
end Go.Proofs.YtpoignmclfdgpaaGreatDoor
