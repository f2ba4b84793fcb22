/- Texts that the last one of this claim imports. -/
import Derived.Test.YtpoignmclfdgpaaGreatDoorB5
set_option linter.unusedVariables false
set_option linter.unusedSimpArgs false
set_option linter.unusedSectionVars false

set_option linter.unusedVariables false
namespace Go.Bk
open Go.Lw Go.Gl
theorem goneK_congr {es es' : List En} {first : Nat} (h : ∀ i, i < first → enA es i = enA es' i) : ∀ {k : Nat} {s : Nat}, k ≤ first → qR es first k s = qR es' first k s
 | 0, s, _ => rfl
 | k + 1, s, hk => by
  simp only [qR]
  rw [goneK_congr h (k := k) (s := s) (by omega), goneK_congr h (k := k) (s := first - 1 - k) (by omega), h (first - 1 - k) (by omega)]
theorem cntS_congr {es es' : List En} {first : Nat} (h : ∀ i, i < first → enA es i = enA es' i) : cntS es first = cntS es' first := by
 unfold cntS gone
 exact List.filter_congr fun i _ => by rw [goneK_congr h (Nat.le_refl _)]
theorem runS_congr {rs : List Rc} {es es' : List En} {first : Nat} (h : ∀ i, i < first → enA es i = enA es' i) (day : Int) : runS rs es first day = runS rs es' first day := by
 unfold runS
 rw [cntS_congr h, List.map_congr_left fun i hi => h i (cntS_lt hi)]
theorem enA_app {es l : List En} {i : Nat} (h : i < es.length) : enA (es ++ l) i = enA es i := by
 unfold enA List.getD; rw [List.getElem?_append_left h]
theorem enA_take {es : List En} {i n : Nat} (h : i < n) : enA (es.take n) i = enA es i := by
 unfold enA List.getD; rw [List.getElem?_take, if_pos h]
def lastD (last : Int) : List En → Int
 | [] => last
 | e :: es => lastD e.d es
theorem ens_take {rs : List Rc} : ∀ {es : List En} {index last : Int} (n : Nat), EnsOk rs index last es → EnsOk rs index last (es.take n)
 | [], _, _, n, h => by rw [List.take_nil]; exact h
 | e :: es, _, _, 0, h => .nil _ _
 | e :: es, _, _, n + 1, h => by
  cases h with
  | cons h1 h2 => exact .cons h1 (ens_take n h2)
theorem ens_snoc {rs : List Rc} {e : En} : ∀ {es : List En} {index last : Int}, EnsOk rs index last es → EnOk rs e (index + es.length) (lastD last es) → EnsOk rs index last (es ++ [e])
 | [], index, last, _, h => .cons (by simpa [lastD] using h) (.nil _ _)
 | x :: es, index, last, h, he => by
  cases h with
  | cons h1 h2 =>
   refine .cons h1 (ens_snoc h2 ?_)
   have e1 : index + 1 + (es.length : Int) = index + ((x :: es).length : Int) := by rw [List.length_cons]; push_cast; omega
   rw [e1]; exact he
theorem lastD_bd {rs : List Rc} : ∀ {es : List En} {index last : Int}, EnsOk rs index last es → (0 ≤ last ∧ last ≤ 999) → 0 ≤ lastD last es ∧ lastD last es ≤ 999
 | [], _, _, _, h => h
 | e :: es, _, _, h, hl => by
  cases h with
  | cons h1 h2 => show 0 ≤ lastD e.d es ∧ lastD e.d es ≤ 999; exact lastD_bd h2 h1.d
theorem Right.ens {b : Bo} (h : Right b) : EnsOk b.rs 0 0 b.es := entsE_iff.1 h.en
theorem Right.last {b : Bo} (h : Right b) : 0 ≤ lastD 0 b.es ∧ lastD 0 b.es ≤ 999 := lastD_bd h.ens (by decide)
theorem Right.take {b : Bo} (h : Right b) (n : Nat) : Right ⟨b.rs, b.es.take n⟩ := by
 refine ⟨h.cr, ?_, entsE_iff.2 (ens_take n h.ens), fun k hk => ?_⟩
 ·have := h.len; simp only [List.length_take]; omega
 ·simp only [List.length_take] at hk
  show (runS b.rs (b.es.take n) (k + 1) 999).isSome = true
  rw [runS_congr (es' := b.es) (fun i hi => enA_take (by omega))]
  exact h.run k (by omega)
theorem right_snoc {b : Bo} {e : En} (h : Right b) (hl : b.es.length + 1 ≤ 24) (he : EnOk b.rs e b.es.length (lastD 0 b.es)) (hr : (runS b.rs (b.es ++ [e]) (b.es.length + 1) 999).isSome = true) : Right ⟨b.rs, b.es ++ [e]⟩ := by
 refine ⟨h.cr, ?_, entsE_iff.2 (ens_snoc h.ens (by rw [Int.zero_add]; exact he)), fun k hk => ?_⟩
 ·simp only [List.length_append, List.length_singleton]; omega
 ·simp only [List.length_append, List.length_singleton] at hk
  by_cases c : k < b.es.length
  ·show (runS b.rs (b.es ++ [e]) (k + 1) 999).isSome = true
   rw [runS_congr (es' := b.es) (fun i hi => enA_app (by omega))]
   exact h.run k c
  ·obtain rfl : k = b.es.length := by omega
   exact hr
theorem gone_out {es : List En} {first : Nat} (hv : BkOk es first) {s : Nat} (h : first ≤ s + 1) : gone es first s = false := by
 cases hg : gone es first s with
 | false => rfl
 | true =>
  obtain ⟨k, h1, h2, _⟩ := (gone_iff hv).1 hg
  omega
theorem goneK_succ {es : List En} {first k s : Nat} : qR es first (k + 1) s = (qR es first k s || (decide ((enA es (first - 1 - k)).k = 4) && !qR es first k (first - 1 - k) && decide (s = (enA es (first - 1 - k)).t.toNat))) := rfl
theorem goneK_shift {es : List En} {first : Nat} (h : (enA es first).k ≠ 4) : ∀ {k s : Nat}, qR es (first + 1) (k + 1) s = qR es first k s
 | 0, s => by
  simp only [qR]
  rw [show first + 1 - 1 - 0 = first by omega, decide_eq_false h]; rfl
 | k + 1, s => by
  have ih1 := goneK_shift h (k := k) (s := s)
  have ih2 := goneK_shift h (k := k) (s := first - 1 - k)
  rw [goneK_succ (first := first + 1) (k := k + 1), goneK_succ (first := first) (k := k), ih1, show first + 1 - 1 - (k + 1) = first - 1 - k by omega, ih2]
theorem cnt_add {es : List En} {first : Nat} (hv : BkOk es first) (h : (enA es first).k ≠ 4) : cntS es (first + 1) = cntS es first ++ [first] := by
 unfold cntS
 rw [List.range_succ, List.filter_append]
 congr 1
 ·exact List.filter_congr fun i _ => by unfold gone; rw [goneK_shift h]
 ·have : gone es (first + 1) first = false := by
   have := gone_out hv (s := first) (by omega)
   unfold gone at this ⊢; rw [goneK_shift h]; exact this
  simp [this]
theorem runL_app {rs : List Rc} {day : Int} : ∀ {l l' : List En} {f : Nat → Int}, runL rs day (l ++ l') f = (runL rs day l f).bind (runL rs day l')
 | [], l', f => rfl
 | e :: l, l', f => by
  rw [List.cons_append, runL_step, runL_step]
  split
  ·exact runL_app
  ·split
   ·exact runL_app
   ·rfl
theorem runS_add {rs : List Rc} {es : List En} {first : Nat} (hv : BkOk es first) (h : (enA es first).k ≠ 4) (day : Int) : runS rs es (first + 1) day = (runS rs es first day).bind (runL rs day [enA es first]) := by
 unfold runS
 rw [cnt_add hv h, List.map_append, runL_app]; rfl
end Go.Bk
set_option linter.unusedVariables false
namespace Go.Bk
open Go.Lw Go.Gl
def netR (rs : List Rc) (day : Int) (y : Int) (e : En) : Int := if day < e.d then 0 else if e.k = 1 then e.n * jG rs e.t y else if e.k = 2 then - (e.n * jG rs e.t y) else 0
theorem kept {b : Bo} (hb : Right b) {first : Nat} (hf : first ≤ b.es.length) {day : Int} {st : Nat → Int} (hst : runS b.rs b.es first day = some st) (y : Nat) :
  jb st (fun s => jG b.rs s y) 8 = ((cntS b.es first).map fun i => netR b.rs day y (enA b.es i)).sum := by
 have hg := hb.bog
 have hin : ∀ e ∈ (cntS b.es first).map (enA b.es), ∃ k l, EnOk b.rs e k l := fun e he => by
  obtain ⟨i, hi, rfl⟩ := List.mem_map.1 he
  have hx := List.getElem?_eq_getElem (l := b.es) (i := i) (by have := cntS_lt hi; omega)
  rw [enA_at hx]
  obtain ⟨l, h1, _⟩ := ensOk_at hb.ens hx
  exact ⟨_, l, h1⟩
 unfold runS at hst
 rw [run_dot hg.rs (r := fun s => jG b.rs s y) (fun e he h4 => by
  obtain ⟨k, l, h⟩ := hin e he
  exact ⟨(h.th h4).1, (h.th h4).2.1⟩) hst, dot_zero, Int.zero_add, List.map_map]
 refine sum_congr fun i hi => ?_
 obtain ⟨k, l, h⟩ := hin _ (List.mem_map.2 ⟨i, hi, rfl⟩)
 show (if day < (enA b.es i).d then 0 else addR (enA b.es i) (fun s => jG b.rs s y) - takeR b.rs (enA b.es i) (fun s => jG b.rs s y)) = netR b.rs day y (enA b.es i)
 generalize enA b.es i = e at h
 show (if day < e.d then 0 else addR e (fun s => jG b.rs s y) - takeR b.rs e (fun s => jG b.rs s y)) = netR b.rs day y e
 unfold netR addR takeR
 have hk := h.k
 by_cases hd : day < e.d
 ·rw [if_pos hd, if_pos hd]
 rw [if_neg hd, if_neg hd]
 have ht : e.k ≠ 4 → ((e.t.toNat : Nat) : Int) = e.t := fun h4 => Int.toNat_of_nonneg (h.th h4).1
 by_cases k1 : e.k = 1
 ·rw [if_pos (.inl k1), if_neg (by omega), if_neg (by omega), if_pos k1]
  dsimp only
  rw [ht (by omega)]; omega
 by_cases k2 : e.k = 2
 ·rw [if_neg (by omega), if_pos k2, if_neg k1, if_pos k2]
  dsimp only
  rw [ht (by omega)]; omega
 by_cases k3 : e.k = 3
 ·rw [if_pos (.inr k3), if_neg k2, if_pos k3, if_neg k1, if_neg k2]
  dsimp only
  rw [ht (by omega), rawO_made hg.rs (h.th (by omega)).2.1 (h.made k3)]
  have e1 : ((partsOf b.rs e.t).map fun p => e.n * p.n * jG b.rs (p.t.toNat : Int) y).sum = ((partsOf b.rs e.t).map fun p => e.n * (p.n * jG b.rs p.t y)).sum := sum_congr fun p hp => by
   have := qz hg.rs hp
   rw [Int.toNat_of_nonneg this.1, Int.mul_assoc]
  rw [e1, sum_mul]; omega
 ·rw [if_neg (by omega), if_neg k2, if_neg k3, if_neg k1, if_neg k2]; rfl
/-! ### What can be made -/
theorem wantAll_eq {c : Int} : ∀ {ps : List Pt} {W : Nat → Int} (s : Nat), qG c ps W s = W s + (ps.map fun p => if s = p.t.toNat then c * p.n else 0).sum
 | [], W, s => by simp [qG]
 | p :: ps, W, s => by
  simp only [qG, List.map_cons, List.sum_cons]
  rw [wantAll_eq s, jm]
  by_cases e : s = p.t.toNat
  ·subst e; rw [if_pos rfl, if_pos rfl]; omega
  ·rw [if_neg e, if_neg e]; omega
theorem canW_dot {rs : List Rc} (h : qD (-1) rs) {l : Nat → Int} {y : Int} : ∀ {t : Nat} {W : Nat → Int}, t ≤ 8 → canW rs l t W = true → jb W (fun s => jG rs s y) t ≤ jb l (fun s => jG rs s y) t
 | 0, W, _, _ => Int.le_refl _
 | t + 1, W, h8, hc => by
  have hr := rawO_nn h (g := (t : Int)) (by omega) y
  simp only [canW] at hc
  simp only [jb]
  by_cases c : W t - l t ≤ 0
  ·rw [if_pos c] at hc
   have ih := canW_dot h (y := y) (by omega) hc
   have := Int.mul_le_mul_of_nonneg_right (show W t ≤ l t by omega) hr
   omega
  ·rw [if_neg c] at hc
   by_cases e : partsOf rs t = []
   ·rw [if_pos e] at hc; cases hc
   rw [if_neg e] at hc
   have ih := canW_dot h (y := y) (by omega) hc
   rw [want_dot fun p hp => by have := qz h hp; omega] at ih
   have e1 : ((partsOf rs t).map fun p => p.n * jG rs (p.t.toNat : Int) y).sum = ((partsOf rs t).map fun p => p.n * jG rs p.t y).sum := sum_congr fun p hp => by
    have := qz h hp
    rw [Int.toNat_of_nonneg this.1]
   rw [e1, ← rawO_made h (by omega) e, Int.sub_mul] at ih
   omega
theorem dot_le {A r : Nat → Int} (hA : ∀ s, 0 ≤ A s) (hr : ∀ s, s < 8 → 0 ≤ r s) : ∀ {n m : Nat}, n ≤ m → m ≤ 8 → jb A r n ≤ jb A r m
 | n, 0, h, _ => by
   obtain rfl : n = 0 := by omega
   exact Int.le_refl _
 | n, m + 1, h, h8 => by
  by_cases e : n = m + 1
  ·subst e; exact Int.le_refl _
  ·have := dot_le hA hr (n := n) (m := m) (by omega) (by omega)
   have := Int.mul_nonneg (hA m) (hr m (by omega))
   simp only [jb]; omega
theorem canS_dot {rs : List Rc} (h : qD (-1) rs) {l : Nat → Int} (hl : ∀ s, 0 ≤ l s) {g : Nat} (hg : g < 8) {c : Int} (hc : canS rs l g c = true) (y : Int) : c * jG rs g y ≤ jb (upd l g 0) (fun s => jG rs s y) 8 := by
 have h1 := canW_dot h (y := y) (by omega) hc
 rw [dot_one (by omega : g < g + 1)] at h1
 refine Int.le_trans h1 (dot_le (fun s => ?_) (fun s hs => rawO_nn h (by omega) y) (by omega) (Nat.le_refl _))
 rw [jm]; split
 ·exact Int.le_refl _
 ·exact hl s
def todoW (rs : List Rc) (l : Nat → Int) : Nat → (Nat → Int) → List (Nat × Int)
 | 0, _ => []
 | t + 1, W => if W t - l t ≤ 0 then todoW rs l t W else (t, W t - l t) :: todoW rs l t (qG (W t - l t) (partsOf rs t) W)
def mkE (x : Nat × Int) : En := ⟨999, 3, x.1, x.2⟩
theorem todo_in {rs : List Rc} {l : Nat → Int} : ∀ {t : Nat} {W : Nat → Int}, canW rs l t W = true → ∀ x ∈ todoW rs l t W, x.1 < t ∧ 1 ≤ x.2 ∧ partsOf rs x.1 ≠ []
 | 0, W, _, x, hx => by cases hx
 | t + 1, W, hc, x, hx => by
  simp only [canW] at hc
  simp only [todoW] at hx
  by_cases c : W t - l t ≤ 0
  ·rw [if_pos c] at hc hx
   have := todo_in hc x hx
   exact ⟨by omega, this.2⟩
  ·rw [if_neg c] at hc hx
   by_cases e : partsOf rs t = []
   ·rw [if_pos e] at hc; cases hc
   rw [if_neg e] at hc
   rcases List.mem_cons.1 hx with rfl | hx
   ·exact ⟨by dsimp only; omega, by dsimp only; omega, e⟩
   ·have := todo_in hc x hx
    exact ⟨by omega, this.2⟩
theorem makes_run {rs : List Rc} (h : qD (-1) rs) {l : Nat → Int} : ∀ {t : Nat} {W : Nat → Int} {st : Nat → Int}, t ≤ 8 → canW rs l t W = true → (∀ s, 0 ≤ W s) → (∀ s, s < t → l s ≤ st s) → (∀ s, s < 8 → 0 ≤ st s) →
  ∃ st', runL rs 999 ((todoW rs l t W).reverse.map mkE) st = some st' ∧ (∀ s, t ≤ s → st' s = st s) ∧ (∀ s, s < t → W s ≤ st' s) ∧ ∀ s, s < 8 → 0 ≤ st' s
 | 0, W, st, _, _, _, _, h0 => ⟨st, rfl, fun s _ => rfl, fun s hs => absurd hs (Nat.not_lt_zero s), h0⟩
 | t + 1, W, st, h8, hc, hW, hl, h0 => by
  simp only [canW] at hc
  simp only [todoW]
  by_cases c : W t - l t ≤ 0
  ·rw [if_pos c] at hc ⊢
   obtain ⟨st', r1, r2, r3, r4⟩ := makes_run h (by omega) hc hW (fun s hs => hl s (by omega)) h0
   refine ⟨st', r1, fun s hs => r2 s (by omega), fun s hs => ?_, r4⟩
   by_cases e : s = t
   ·subst e; rw [r2 s (Nat.le_refl _)]; have := hl s (by omega); omega
   ·exact r3 s (by omega)
  ·rw [if_neg c] at hc ⊢
   by_cases e : partsOf rs t = []
   ·rw [if_pos e] at hc; cases hc
   rw [if_neg e] at hc
   have hn : ∀ p ∈ partsOf rs t, 0 ≤ p.n := fun p hp => by have := qz h hp; omega
   obtain ⟨st', r1, r2, r3, r4⟩ := makes_run h (by omega) hc (fun s => Int.le_trans (hW s) (want_ge (by omega) hn s)) (fun s hs => hl s (by omega)) h0
   have hlt := hl t (by omega)
   have hless : ∀ s, less rs (mkE (t, W t - l t)) s = ((partsOf rs t).map fun p => if s = p.t.toNat then (W t - l t) * p.n else 0).sum := fun s => by
    unfold less mkE
    rw [if_neg (by show ¬ (3 : Int) = 2; decide), if_pos rfl]
   have hout : ∀ s, t ≤ s → less rs (mkE (t, W t - l t)) s = 0 := fun s hs => by
    rw [hless]
    exact lessS_zero (c := W t - l t) fun p hp => by have := qz h hp; omega
   have hin : ∀ s, s < t → W s + less rs (mkE (t, W t - l t)) s ≤ st' s := fun s hs => by
    have := r3 s hs
    rw [wantAll_eq] at this
    rw [hless]; exact this
   have hmore : ∀ s, more (mkE (t, W t - l t)) s = if s = t then W t - l t else 0 := fun s => by
    unfold more mkE
    rw [if_pos (.inr rfl)]
    dsimp only
    rw [Int.toNat_natCast]
   have hok : okS rs (mkE (t, W t - l t)) st' = true := by
    unfold okS
    rw [List.all_eq_true]
    intro s hs
    have hs8 := List.mem_range.1 hs
    refine decide_eq_true ?_
    by_cases e2 : s < t
    ·have := hin s e2; have := hW s; omega
    ·rw [hout s (by omega)]; exact r4 s hs8
   refine ⟨stB rs (mkE (t, W t - l t)) st', ?_, fun s hs => ?_, fun s hs => ?_, fun s hs => ?_⟩
   ·rw [List.reverse_cons, List.map_append, runL_app, r1]
    show runL rs 999 [mkE (t, W t - l t)] st' = _
    rw [runL_step, if_neg (by show ¬ (999 : Int) < 999; decide), if_pos hok]; rfl
   ·unfold stB
    rw [hmore, hout s (by omega), if_neg (by omega), r2 s (by omega)]; omega
   ·unfold stB
    rw [hmore]
    by_cases e2 : s = t
    ·subst e2; rw [if_pos rfl, hout s (Nat.le_refl _), r2 s (Nat.le_refl _)]; omega
    ·rw [if_neg e2]; have := hin s (by omega); omega
   ·unfold stB
    rw [hmore]
    by_cases e2 : s < t
    ·rw [if_neg (by omega)]; have := hin s e2; have := hW s; omega
    ·rw [hout s (by omega)]; have := r4 s hs; split <;> omega
theorem enA_right {es l : List En} {i : Nat} : enA (es ++ l) (es.length + i) = enA l i := by
 unfold enA List.getD; rw [List.getElem?_append_right (by omega), Nat.add_sub_cancel_left]
theorem bk_app {b : Bo} (h : Right b) {l : List En} (hl : ∀ e ∈ l, e.k ≠ 4) {first : Nat} (hf : first ≤ b.es.length + l.length) : BkOk (b.es ++ l) first := fun k hk h4 => by
 by_cases c : k < b.es.length
 ·rw [enA_app c] at h4 ⊢
  exact h.bk (Nat.le_refl _) k c h4
 ·exfalso
  obtain ⟨j, rfl⟩ : ∃ j, k = b.es.length + j := ⟨k - b.es.length, by omega⟩
  rw [enA_right] at h4
  exact hl _ (enA_mem (by omega)) h4
theorem runS_many {b : Bo} (h : Right b) (day : Int) : ∀ {l : List En}, (∀ e ∈ l, e.k ≠ 4) → ∀ {j : Nat}, j ≤ l.length → runS b.rs (b.es ++ l) (b.es.length + j) day = (runS b.rs b.es b.es.length day).bind (runL b.rs day (l.take j))
 | l, hl, 0, _ => by
  rw [Nat.add_zero, runS_congr (es' := b.es) fun i hi => enA_app hi]
  cases runS b.rs b.es b.es.length day <;> rfl
 | l, hl, j + 1, hj => by
  have hx : l[j]? = some l[j] := List.getElem?_eq_getElem (by omega)
  have he : enA (b.es ++ l) (b.es.length + j) = l[j] := by rw [enA_right]; exact enA_at hx
  rw [← Nat.add_assoc, runS_add (bk_app h hl (by omega)) (by rw [he]; exact hl _ (List.getElem_mem _)), runS_many h day hl (j := j) (by omega), he, List.take_add_one, hx]
  cases runS b.rs b.es b.es.length day with
  | none => rfl
  | some st =>
   show (runL b.rs day (l.take j) st).bind _ = runL b.rs day (l.take j ++ [l[j]]) st
   rw [runL_app]
theorem makes_right {b : Bo} (h : Right b) {ms : List En} (hm : ∀ e ∈ ms, e.d = 999 ∧ e.k = 3 ∧ (0 ≤ e.t ∧ e.t ≤ 7) ∧ (1 ≤ e.n ∧ e.n ≤ 1000) ∧ partsOf b.rs e.t ≠ []) {st st' : Nat → Int} (hst : runS b.rs b.es b.es.length 999 = some st) (hr : runL b.rs 999 ms st = some st') :
  ∀ {j : Nat}, j ≤ ms.length → b.es.length + j ≤ 24 → Right ⟨b.rs, b.es ++ ms.take j⟩
 | 0, _, _ => by rw [List.take_zero, List.append_nil]; exact h
 | j + 1, hj, hl => by
  have ih := makes_right h hm hst hr (j := j) (by omega) (by omega)
  have hx : ms[j]? = some ms[j] := List.getElem?_eq_getElem (by omega)
  have he := hm ms[j] (List.getElem_mem _)
  have hk : ∀ e ∈ ms, e.k ≠ 4 := fun e he => by have := (hm e he).2.1; omega
  have hlast := ih.last
  rw [List.take_add_one, hx, Option.toList_some, ← List.append_assoc]
  have htl : (ms.take j).length = j := by rw [List.length_take]; omega
  refine right_snoc ih (by simp only [List.length_append, htl]; omega) ⟨by omega, by omega, fun h4 => by omega, fun _ => by omega, by dsimp only at hlast ⊢; omega, fun _ => he.2.2.2.2⟩ ?_
  show (runS b.rs (b.es ++ ms.take j ++ [ms[j]]) ((b.es ++ ms.take j).length + 1) 999).isSome = true
  have e2 : b.es ++ ms.take j ++ [ms[j]] = b.es ++ ms.take (j + 1) := by rw [List.take_add_one, hx, List.append_assoc]; rfl
  rw [e2, List.length_append, htl, Nat.add_assoc, runS_many h 999 (fun e he => hk e (List.mem_of_mem_take he)) (by rw [List.length_take]; omega), hst, List.take_take, Nat.min_self]
  show (runL b.rs 999 (ms.take (j + 1)) st).isSome = true
  have e3 : runL b.rs 999 (ms.take (j + 1) ++ ms.drop (j + 1)) st = some st' := by rw [List.take_append_drop]; exact hr
  rw [runL_app] at e3
  cases hz : runL b.rs 999 (ms.take (j + 1)) st with
  | none => rw [hz] at e3; cases e3
  | some z => rfl
theorem in_right {b : Bo} (h : Right b) (hl : b.es.length + 1 ≤ 24) {e : En} (hd : e.d = 999) (hk : e.k = 1) (ht : 0 ≤ e.t ∧ e.t ≤ 7) (hn : 1 ≤ e.n ∧ e.n ≤ 1000) {st : Nat → Int} (hst : runS b.rs b.es b.es.length 999 = some st) :
  Right ⟨b.rs, b.es ++ [e]⟩ ∧ runS b.rs (b.es ++ [e]) (b.es.length + 1) 999 = some (stB b.rs e st) ∧ ∀ s, st s ≤ stB b.rs e st s := by
 have hnn := runS_nn h.bog (Nat.le_refl _) hst
 have hless := less_no (rs := b.rs) (e := e) (by omega) (by omega)
 have hok : okS b.rs e st = true := by
  unfold okS
  rw [List.all_eq_true]
  intro s hs
  rw [hless]
  exact decide_eq_true (hnn s (List.mem_range.1 hs)).1
 have hr : runS b.rs (b.es ++ [e]) (b.es.length + 1) 999 = some (stB b.rs e st) := by
  rw [runS_many h 999 (l := [e]) (fun x hx => by obtain rfl := List.mem_singleton.1 hx; omega) (j := 1) (Nat.le_refl _), hst]
  show runL b.rs 999 [e] st = _
  rw [runL_step, if_neg (by omega), if_pos hok]; rfl
 have hlast := h.last
 refine ⟨right_snoc h hl ⟨by omega, by omega, fun h4 => by omega, fun _ => by omega, by omega, fun h3 => by omega⟩ (by rw [hr]; rfl), hr, fun s => ?_⟩
 unfold stB
 rw [hless]
 dsimp only
 have := more_nn (e := e) (fun _ => hn.1) s
 omega
theorem most_mono {rs : List Rc} (h : qD (-1) rs) {l l' : Nat → Int} (hl : ∀ s, l' s ≤ l s) {g : Nat} : mostS rs l' g ≤ mostS rs l g := by
 unfold mostS
 obtain ⟨a1, a2, a3⟩ := mxC_spec (fun c => canS rs l' g c) 24000
 obtain ⟨b1, b2, b3⟩ := mxC_spec (fun c => canS rs l g c) 24000
 rcases a2 with a2 | a2
 ·omega
 ·have h1 : canS rs l g (mxC (fun c => canS rs l' g c) 24000 : Nat) = true := canS_mono h hl (Int.le_refl _) a2
  rcases Nat.lt_or_ge (mxC (fun c => canS rs l g c) 24000) (mxC (fun c => canS rs l' g c) 24000) with c | c
  ·have := b3 _ c a1
   rw [this] at h1; cases h1
  ·exact c
theorem most_can {rs : List Rc} {l : Nat → Int} {g : Nat} : mostS rs l g ≤ 24000 ∧ (mostS rs l g = 0 ∨ canS rs l g (mostS rs l g) = true) := by
 obtain ⟨a1, a2, _⟩ := mxC_spec (fun c => canS rs l g c) 24000
 exact ⟨a1, a2⟩
end Go.Bk
set_option linter.unusedVariables false
namespace Go.Proofs.YtpoignmclfdgpaaGreatDoor
open Go.Lw Go.Gl Go.Bk Go.RowKit
theorem add_ok {b : Bo} {e : En} (h1 : bkE b = 0) (h2 : bkE (withB b e) = 0) : addE b e = 0 ∧ addB b e = withB b e := by
 have h : addE b e = 0 := by unfold addE; rw [if_neg (by rw [h1]; simp)]; exact h2
 exact ⟨h, by unfold addB; rw [if_neg (by rw [h]; simp)]⟩
theorem stk_ok {b : Bo} (hR : Right b) {n : Nat} (hn : n ≤ b.es.length) {d : Int} (hd : 0 ≤ d ∧ d ≤ 999) : stkE b n d = 0 ∧ stkL b n d = stL (stkF b n d) := by
 have h : stkE b n d = 0 := by unfold stkE; rw [if_neg (by rw [jZ.2 hR]; simp), if_neg (by omega), if_neg (by omega)]
 exact ⟨h, by unfold stkL; rw [if_neg (by rw [h]; simp), Int.toNat_natCast]⟩
theorem fine_ok {b : Bo} (h : (!grB b && decide (bkE b = 0)) = true) : grB b = false ∧ bkE b = 0 := by
 simpa using h
abbrev bX (b : Bo) (e : En) : Bo := withB b e
abbrev bY (b : Bo) (e : En) : Bo := withB (bX b e) ⟨e.d, 4, b.es.length, 0⟩
abbrev bZ (b : Bo) (e : En) : Bo := withB (bY b e) ⟨e.d, 4, (b.es.length : Int) + 1, 0⟩
structure TkL (b : Bo) (e : En) (d : Int) : Prop where
 y : bkE (bY b e) = 0
 z : bkE (bZ b e) = 0
 k1 : stkE b b.es.length d = 0
 k2 : stkE (bX b e) ((b.es.length : Int) + 1) d = 0
 k3 : stkE (bY b e) ((b.es.length : Int) + 2) d = 0
 k4 : stkE (bZ b e) ((b.es.length : Int) + 3) d = 0
 k5 : stkE (bZ b e) b.es.length d = 0
 k6 : stkE (bZ b e) ((b.es.length : Int) + 2) d = 0
 l1 : stkL b b.es.length d = stkL (bY b e) ((b.es.length : Int) + 2) d
 l2 : stkL (bX b e) ((b.es.length : Int) + 1) d = stkL (bZ b e) ((b.es.length : Int) + 3) d
 l3 : stkL b b.es.length d = stkL (bZ b e) b.es.length d
 l4 : stkL (bZ b e) ((b.es.length : Int) + 2) d = stkL (bY b e) ((b.es.length : Int) + 2) d
end Go.Proofs.YtpoignmclfdgpaaGreatDoor
set_option linter.unusedVariables false
namespace Go.Proofs.YtpoignmclfdgpaaGreatDoor
open Go.Lw Go.Gl Go.Bk Go.RowKit
theorem first_of {x : Int} (h : 0 ≤ x ∧ x ≤ 255) (n : Nat) : ∃ f : Nat, f ≤ n ∧ x.tmod ((n : Int) + 1) = (f : Int) := by
 have h1 := Int.emod_nonneg x (show ((n : Int) + 1) ≠ 0 by omega)
 have h2 := Int.emod_lt_of_pos x (show 0 < ((n : Int) + 1) by omega)
 exact ⟨(x % ((n : Int) + 1)).toNat, by omega, by rw [Int.tmod_eq_emod_of_nonneg h.1, Int.toNat_of_nonneg h1]⟩
theorem wrap_u8 {x : Int} (h : 0 ≤ x ∧ x ≤ 255) : IntKind.i64.wrap x = x := wrap_fit (Fit.of (by omega) (by omega))
end Go.Proofs.YtpoignmclfdgpaaGreatDoor


set_option linter.unusedVariables false
namespace Go.Bk
open Go.Lw Go.Gl
def mixK (A B : Nat → Int) (k : Nat) : Nat → Int := fun y => if y < k then B y else A y
theorem mix_zero (A B : Nat → Int) : mixK A B 0 = A := by funext y; simp [mixK]
theorem mix_all (A B : Nat → Int) : stC (mixK A B 8) = stC B := stC_ext fun s hs => by unfold mixK; rw [if_pos hs]
theorem mix_at (A B : Nat → Int) (k : Nat) : mixK A B k k = A k := by unfold mixK; rw [if_neg (Nat.lt_irrefl k)]
theorem mix_cell (A B : Nat → Int) {k : Nat} (h : k < 8) : (stC (mixK A B k))[k * 1]? = some (iv (A k)) := by rw [Nat.mul_one, stC_at _ h, mix_at]
theorem mix_set (A B : Nat → Int) {k : Nat} (h : k < 8) : (stC (mixK A B k)).set (k * 1) (iv (B k)) = stC (mixK A B (k + 1)) := by
 rw [Nat.mul_one, stC_set _ _ h]
 refine stC_ext fun s hs => ?_
 rw [jm]
 unfold mixK
 by_cases e : s = k
 ·subst e; simp
 ·rw [if_neg e]
  by_cases c : s < k
  ·rw [if_pos c, if_pos (by omega)]
  ·rw [if_neg c, if_neg (by omega)]
theorem stC_len (f : Nat → Int) : (stC f).length = 8 := rfl
def rowJ (rs : List Rc) (st : Nat → Int) (i : Nat) : Nat → Int := fun y => jb st (fun s => jG rs s y) i
theorem rowJ_zero (rs : List Rc) (st : Nat → Int) : rowJ rs st 0 = fun _ => 0 := rfl
theorem rowJ_step (rs : List Rc) (st : Nat → Int) (i y : Nat) : rowJ rs st (i + 1) y = rowJ rs st i y + st i * jG rs i y := rfl
theorem prod_bd {rs : List Rc} (h : qD (-1) rs) {a m : Int} (ha : 0 ≤ a ∧ a ≤ m) (hm : 0 ≤ m) {g : Int} (hg : g ≤ 7) (y : Int) : 0 ≤ a * jG rs g y ∧ a * jG rs g y ≤ m * 10460353203 := by
 have hr := rawO_bd h hg y
 exact ⟨Int.mul_nonneg ha.1 hr.1, Int.mul_le_mul ha.2 hr.2 hr.1 hm⟩
theorem rowJ_bd {rs : List Rc} (h : qD (-1) rs) {st : Nat → Int} (hs : ∀ s, s < 8 → 0 ≤ st s ∧ st s ≤ 24000) : ∀ {i : Nat} (y : Nat), i ≤ 8 → 0 ≤ rowJ rs st i y ∧ rowJ rs st i y ≤ 251048476872000 * (i : Int)
 | 0, y, _ => ⟨Int.le_refl _, Int.le_refl _⟩
 | i + 1, y, hi => by
  have ih := rowJ_bd h hs (i := i) y (by omega)
  have h1 := prod_bd h (hs i (by omega)) (by decide) (g := (i : Int)) (by omega) (y : Int)
  rw [rowJ_step]
  push_cast
  omega
end Go.Bk
set_option linter.unusedVariables false
namespace Go.Proofs.YtpoignmclfdgpaaGreatDoor
open Go.Lw Go.Gl Go.Bk Go.RowKit
theorem raw_ok {rs : List Rc} (h : crE rs = 0) {g c : Int} (hg : 0 ≤ g ∧ g ≤ 7) (hc : 0 ≤ c ∧ c ≤ 1000) : rawE rs g c = 0 ∧ rawL rs g c = stL fun y => c * jG rs g y := by
 have hE : rawE rs g c = 0 := by unfold rawE; rw [if_neg (by rw [h]; simp), if_neg (by omega), if_neg (by omega)]
 exact ⟨hE, by unfold rawL; rw [if_neg (by rw [hE]; simp)]⟩
theorem stL_len (f : Nat → Int) : (Bk.stL f).length = 8 := rfl
end Go.Proofs.YtpoignmclfdgpaaGreatDoor
set_option linter.unusedVariables false
namespace Go.Proofs.YtpoignmclfdgpaaGreatDoor
open Go.Lw Go.Gl Go.Bk Go.RowKit
theorem u16_of {o m : Int} (ho : 0 ≤ o ∧ o ≤ 65535) (hm : 1 ≤ m) : ∃ a : Int, (0 ≤ a ∧ a ≤ m - 1) ∧ o.tmod m = a := by
 have h1 := Int.emod_nonneg o (show m ≠ 0 by omega)
 have h2 := Int.emod_lt_of_pos o (show 0 < m by omega)
 exact ⟨o.tmod m, by rw [Int.tmod_eq_emod_of_nonneg ho.1]; omega, rfl⟩
end Go.Proofs.YtpoignmclfdgpaaGreatDoor
set_option linter.unusedVariables false
namespace Go.Bk
open Go.Lw Go.Gl
theorem todoW_congr {rs : List Rc} {l : Nat → Int} : ∀ {t : Nat} {W W' : Nat → Int}, (∀ s, s < t → W s = W' s) → todoW rs l t W = todoW rs l t W'
 | 0, W, W', _ => rfl
 | t + 1, W, W', h => by
  simp only [todoW]
  rw [h t (by omega)]
  have h' : ∀ s, s < t → W s = W' s := fun s hs => h s (by omega)
  split
  ·exact todoW_congr h'
  ·rw [todoW_congr (want_congr h')]
theorem want_zero {ps : List Pt} {W : Nat → Int} (s : Nat) : qG 0 ps W s = W s := by
 rw [wantAll_eq]
 have e : (ps.map fun p => if s = p.t.toNat then (0 : Int) * p.n else 0).sum = (ps.map fun p => (0 : Int) * p.n).sum := sum_congr fun p _ => by split <;> simp
 rw [e, sum_mul, Int.zero_mul, Int.add_zero]
def nwL (t : Nat) (n : Int) : List (Nat × Int) := if 0 < n then [(t, n)] else []
theorem can_step {rs : List Rc} {L : Nat → Int} {t : Nat} {W : Nat → Int} (hc : canW rs L (t + 1) W = true) {n : Int} (hn : n = max 0 (W t - L t)) :
  (0 < n → partsOf rs t ≠ []) ∧ canW rs L t (qG n (partsOf rs t) W) = true ∧ todoW rs L (t + 1) W = nwL t n ++ todoW rs L t (qG n (partsOf rs t) W) := by
 simp only [canW] at hc
 simp only [todoW]
 unfold nwL
 by_cases c : W t - L t ≤ 0
 ·obtain rfl : n = 0 := by omega
  rw [if_pos c] at hc ⊢
  have e : ∀ s, s < t → W s = qG 0 (partsOf rs t) W s := fun s _ => (want_zero s).symm
  refine ⟨fun h => absurd h (by decide), ?_, ?_⟩
  ·rw [← canW_congr e]; exact hc
  ·rw [todoW_congr e]; simp
 ·obtain rfl : n = W t - L t := by omega
  rw [if_neg c] at hc ⊢
  by_cases e : partsOf rs t = []
  ·rw [if_pos e] at hc; cases hc
  rw [if_neg e] at hc
  exact ⟨fun _ => e, hc, by rw [if_pos (by omega)]; rfl⟩
theorem want_upd {rs : List Rc} (h : qD (-1) rs) {t g : Nat} (ht : t ≤ g) (n : Int) (W : Nat → Int) : qG n (partsOf rs t) (upd W g 0) = upd (qG n (partsOf rs t) W) g 0 := by
 funext s
 rw [wantAll_eq, jm, jm]
 by_cases e : s = g
 ·subst e
  rw [if_pos rfl, if_pos rfl]
  have := lessS_zero (c := n) (s := s) (ps := partsOf rs t) fun p hp => by have := qz h hp; omega
  unfold lessS at this
  rw [this]; rfl
 ·rw [if_neg e, if_neg e, wantAll_eq]
theorem want_bd {n : Int} (hn : 0 ≤ n ∧ n ≤ 1000) {B : Int} : ∀ {ps : List Pt} {W : Nat → Int}, (∀ p ∈ ps, 1 ≤ p.n ∧ p.n ≤ 9) → (∀ s, 0 ≤ W s ∧ W s ≤ B) → ∀ s, 0 ≤ qG n ps W s ∧ qG n ps W s ≤ B + 9000 * (ps.length : Int)
 | [], W, _, h, s => by have := h s; simp only [qG, List.length_nil]; omega
 | p :: ps, W, hp, h, s => by
  have hp1 := hp p List.mem_cons_self
  have h1 : 0 ≤ n * p.n := Int.mul_nonneg hn.1 (by omega)
  have h2 : n * p.n ≤ 1000 * 9 := Int.mul_le_mul hn.2 hp1.2 (by omega) (by decide)
  have h3 : ∀ s, 0 ≤ upd W p.t.toNat (W p.t.toNat + n * p.n) s ∧ upd W p.t.toNat (W p.t.toNat + n * p.n) s ≤ B + 9000 := fun s => by
   rw [jm]
   have := h s
   have := h p.t.toNat
   split <;> omega
  have ih := want_bd hn (B := B + 9000) (ps := ps) (fun q hq => hp q (List.mem_cons_of_mem _ hq)) h3 s
  simp only [qG, List.length_cons]
  push_cast
  omega
theorem take_rev {α : Type} {M : List α} {j : Nat} (hj : j < M.length) {x : α} (hx : M[j]? = some x) : M.reverse[M.length - (j + 1)]? = some x := by
 rw [List.getElem?_reverse (by omega), show M.length - 1 - (M.length - (j + 1)) = j by omega, hx]
theorem mkE_in {rs : List Rc} {l : Nat → Int} {g : Nat} (hg : g < 8) {W : Nat → Int} (hc : canW rs l (g + 1) W = true) {M : List (Nat × Int)} (hM : M = todoW rs l (g + 1) W) (h1 : ∀ x ∈ M, x.2 ≤ 1000) :
  ∀ e ∈ M.reverse.map mkE, e.d = 999 ∧ e.k = 3 ∧ (0 ≤ e.t ∧ e.t ≤ 7) ∧ (1 ≤ e.n ∧ e.n ≤ 1000) ∧ partsOf rs e.t ≠ [] := fun e he => by
 obtain ⟨x, hx, rfl⟩ := List.mem_map.1 he
 have hx := List.mem_reverse.1 hx
 have h2 := h1 x hx
 rw [hM] at hx
 have h3 := todo_in hc x hx
 exact ⟨rfl, rfl, ⟨by show (0 : Int) ≤ (x.1 : Int); omega, by show (x.1 : Int) ≤ 7; omega⟩, ⟨h3.2.1, h2⟩, h3.2.2⟩
end Go.Bk
set_option linter.unusedVariables false
namespace Go.Proofs.YtpoignmclfdgpaaGreatDoor
open Go.Lw Go.Gl Go.Bk Go.RowKit
abbrev todoR (b : Bo) (st : Nat → Int) (g : Nat) (c : Int) : List (Nat × Int) := todoW b.rs (upd (cutS st) g 0) (g + 1) (upd (fun _ => 0) g c)
structure EnS (b : Bo) (st : Nat → Int) (g : Nat) (c : Int) (j : Nat) (W : Nat → Int) (acc : List (Nat × Int)) : Prop where
 jle : j ≤ g + 1
 can : canW b.rs (upd (cutS st) g 0) j W = true
 todo : todoR b st g c = acc ++ todoW b.rs (upd (cutS st) g 0) j W
 top : j = g + 1 → W g = c
 bd : ∀ s, 0 ≤ upd W g 0 s ∧ upd W g 0 s ≤ 27000 * (8 - (j : Int))
 small : ∀ x ∈ acc, x.2 ≤ 1000
 accl : acc.length + j ≤ 8
theorem enS_start {b : Bo} {st : Nat → Int} {g : Nat} (hg : g < 8) {c : Int} (hc : canS b.rs (cutS st) g c = true) : EnS b st g c (g + 1) (upd (fun _ => 0) g c) [] := by
 refine ⟨Nat.le_refl _, hc, rfl, fun _ => by rw [jm, if_pos rfl], fun s => ?_, fun x hx => (by cases hx), (by show 0 + (g + 1) ≤ 8; omega)⟩
 have : upd (upd (fun _ => (0 : Int)) g c) g 0 s = 0 := by rw [jm]; split; rfl; rw [jm]; rename_i h; rw [if_neg h]
 rw [this]; omega
theorem enS_n {b : Bo} {st : Nat → Int} {g : Nat} {c : Int} (hc1 : 0 < c) {t : Nat} {W : Nat → Int} {acc : List (Nat × Int)} (h : EnS b st g c (t + 1) W acc) (hg : g < 8) :
  max 0 (W t - upd (cutS st) g 0 t) = if t = g then c else max 0 (upd W g 0 t - st t) := by
 have := h.jle
 by_cases e : t = g
 ·subst e
  rw [if_pos rfl, jm, if_pos rfl, h.top rfl]; omega
 ·rw [if_neg e, jm, if_neg e, jm, if_neg e]
  unfold cutS; rw [if_pos (by omega)]
theorem enS_next {b : Bo} (hrs : qD (-1) b.rs) {st : Nat → Int} {g : Nat} {c : Int} {t : Nat} {W : Nat → Int} {acc : List (Nat × Int)} (h : EnS b st g c (t + 1) W acc) {n : Int} (hn : n = max 0 (W t - upd (cutS st) g 0 t)) (h1 : n ≤ 1000) :
  EnS b st g c t (qG n (partsOf b.rs t) W) (acc ++ nwL t n) := by
 obtain ⟨a1, a2, a3⟩ := can_step h.can hn
 have hj := h.jle
 refine ⟨by omega, a2, by rw [h.todo, a3, List.append_assoc], fun e => by omega, fun s => ?_, fun x hx => ?_, ?_⟩
 ·rw [← want_upd hrs (by omega)]
  have h2 := want_bd (n := n) ⟨by omega, h1⟩ (ps := partsOf b.rs t) (fun p hp => by have := qz hrs hp; omega) h.bd s
  have h3 := partsOf_len hrs (t : Int)
  push_cast at h2
  omega
 ·rcases List.mem_append.1 hx with hx | hx
  ·exact h.small x hx
  ·unfold nwL at hx
   split at hx
   ·obtain rfl := List.mem_singleton.1 hx; exact h1
   ·cases hx
 ·have := h.accl
  rw [List.length_append]
  unfold nwL
  split
  ·simp; omega
  ·simp; omega
abbrev bK (b : Bo) (M : List (Nat × Int)) (k : Nat) : Bo := ⟨b.rs, b.es ++ (M.reverse.map mkE).take k⟩
set_option maxHeartbeats 3200000 in
theorem enough_f (b : Bo) (hR : Right b) (g : Nat) (hg8 : g < 8) (c : Int) (hc1 : 0 < c ∧ c ≤ 24000) (st : Nat → Int) (hst : runS b.rs b.es b.es.length 999 = some st) (hcan : canS b.rs (cutS st) g c = true) (V : View) (v : Value) (hv : BoV V v b) : Fnc Tryz.prog 49 [v, iv g, iv c] V fun r _ => r = .bool true := by
 obtain ⟨w0, a0, c0, rfl, ⟨q0, z0, y0, e0, rfl, i0, j0⟩, s0⟩ := id hv
 have hvr : RsV V (.slice z0 q0.length y0) b.rs := ⟨q0, z0, y0, e0, rfl, i0, j0⟩
 clear e0 i0 j0 s0
 have hrs := hR.bog.rs
 have hlen := hR.len
 have hsb := runS_nn hR.bog (Nat.le_refl _) hst
 refine qm Tryz.func49 rfl Tryz.ntmps49 (Nat.le_of_ble_eq_true rfl) ?_
 intro w0 hw0
 refine At.nrm ?_
 refine At.zh (.n false 0 (.q 1 .done)) ?_
 refine AtT.jh ?_
 intro b3
 refine AtT.zf ?_
 refine AtT.done ?_
 refine At.nrm ?_
 refine At.zh (.q 0 (.q 1 (.q 2 (.q 3 (.n false 4 (.q 5 .done)))))) ?_
 first | refine AtT.zG zQ ?_ | refine AtT.zK zQ ?_ | refine AtT.zF zQ ?_
 first | refine AtT.zk zw ?_ | with_reducible refine AtT.zl zw ?_ | refine AtT.zn zw ?_
 first | refine AtT.zm qx ?_ | refine AtT.zo qx ?_
 first | refine AtT.zS Tryz.underlying24 ?_ | refine AtT.zR Tryz.underlying24 ?_
 refine AtT.qa rfl rfl ok69 (rstockOf_f b hR.bog b.es.length (Nat.le_refl _) (hR.bk (Nat.le_refl _)) 999 st hst _ _ hv) ?_
 rintro v22 V22 hV22 h22
 refine AtT.zf ?_
 refine AtT.done ?_
 refine At.nrm ?_
 obtain ⟨a22, c22, rfl, _, _, _, _⟩ := id h22
 replace hv := hv.le hV22
 replace hvr := hvr.le hV22
 refine At.zh (.n false 0 (.q 1 .done)) ?_
 refine AtT.makeSl rfl trivial ei rfl Tryz.underlying28 rw2 rfl rfl (by decide) rfl rfl (by omega) (by omega) (by decide) (m := 8) (za := (0 : Int)) ?_
 intro b23
 refine AtT.zf ?_
 refine AtT.done ?_
 refine At.nrm ?_
 refine At.zh (.q 0 .done) ?_
 refine AtT.zf ?_
 refine AtT.done ?_
 refine At.nrm ?_
 refine At.newRow 36 4 ?_
 refine At.zh (.q 0 (.q 1 .done)) ?_
 refine AtT.zg ?_
 refine AtT.zf ?_
 refine AtT.done ?_
 refine At.nrm ?_
 have hstart := enS_start hg8 hcan
 have hz : flat ei (List.replicate 8 0) = stC (upd (upd (fun _ => (0 : Int)) g c) g 0) := by
  show stC (fun _ => 0) = _
  exact stC_ext fun s _ => by rw [jm]; split; rfl; rw [jm]; rename_i h; rw [if_neg h]
 rw [hz]
 refine At.lp (ι := Nat × (Nat → Int) × List (Nat × Int) × Option Addr × Nat) (KS := fun z => [(1, iv g), (2, iv c), (3, .pointer (some ⟨b3, 0, none⟩)), (7, .slice a22 (Bk.stL st).length c22), (8, .slice (some ⟨b23, 0, none⟩) 8 8), (9, .slice z.2.2.2.1 (z.2.2.1.map mkE).length z.2.2.2.2), (10, iv ((z.1 : Int) - 1))])
  (OS := fun z => [.row (.slice z.2.2.2.1 (z.2.2.1.map mkE).length z.2.2.2.2) 36 4 (z.2.2.1.map mkE).length (flat ene (z.2.2.1.map mkE)), .blk b23 (LC (stC (upd z.2.1 g 0)) 2), .blk b3 (LC [.slice z0 q0.length y0, .slice a0 b.es.length c0] 26)])
  (VS := fun z V' => Le V22 V' ∧ EnS b st g c z.1 z.2.1 z.2.2.1) (μ := fun z => z.1) (g + 1, upd (fun _ => 0) g c, [], none, 0) ?_ ?_ ?_ ?_
 ·exact ⟨rfl, rfl, rfl, rfl, rfl, rfl, ivs (by dsimp only; omega), trivial⟩
 ·exact Pt.zJ
 ·exact ⟨Le.refl _, hstart⟩
 rintro ⟨j, W, acc, at_, ct⟩ V1 ks' O' ⟨hVV, hE⟩ hk hO hl1
 dsimp only at hk hO hE
 subst hk hO
 have hvr' := hvr.le hVV
 have h22' := h22.le hVV
 refine At.nrm ?_
 refine At.zh (.q 0 (.q 1 .done)) ?_
 refine AtT.zg ?_
 refine AtT.kgeq ?_
 refine AtT.done ?_
 refine At.nrm ?_
 refine At.qf rfl (fun hp => ?_) (fun hp => ?_)
 ·obtain ⟨t, rfl⟩ : ∃ t, j = t + 1 := ⟨j - 1, by omega⟩
  have hjt : (((t + 1 : Nat) : Int) - 1) = (t : Int) := by omega
  rw [hjt]
  have hj := hE.jle
  have ht8 : t < 8 := by omega
  have hnE := enS_n hc1.1 hE hg8
  obtain ⟨n, hn⟩ : ∃ n, n = max 0 (W t - upd (cutS st) g 0 t) := ⟨_, rfl⟩
  obtain ⟨s1, s2, s3⟩ := can_step hE.can hn
  rw [← hn] at hnE
  have hcell : (stC (upd W g 0))[t * 1]? = some (iv (upd W g 0 t)) := by rw [Nat.mul_one, stC_at _ ht8]
  have hS : ∀ e, (Bk.stL st)[(t : Int).toNat]? = some e → st t = e := fun e he => by rw [Int.toNat_natCast, stL_at _ ht8] at he; exact Option.some.inj he
  have hb1 := hE.bd t
  have hb2 := hsb t ht8
  refine At.nrm ?_
  refine At.draw (.q 0 (.q 1 (.q 2 (.q 3 (.q 4 (.q 5 (.q 6 (.q 7 (.q 8 (.q 9 (.q 10 .done))))))))))) ffm (by kernel_rfl) ?_
  refine AtT.zg ?_
  refine AtT.zg ?_
  refine AtT.idxZ rfl trivial Tryz.underlying28 tk2 rfl rfl ht8 (by decide) ?_
  refine AtT.jK rfl trivial rfl tk2 zP.zJ hcell (by decide) ?_
  refine AtT.zg ?_
  refine AtT.zg ?_
  refine AtT.idx rfl trivial Tryz.underlying28 tk2 rfl h22' rfl (by omega) (by rw [stL_len]; omega) (by decide) ?_
  intro p35 e35 he35 hc35
  obtain rfl := hS _ he35
  first | refine AtT.zm tk2 ?_ | refine AtT.zo tk2 ?_
  refine AtT.subt rfl trivial rfl rfl (by decide) (Fit.of (by omega) (by omega)) ?_
  refine AtT.kmax2 ?_
  refine AtT.zf ?_
  refine AtT.done ?_
  refine At.nrm ?_
  refine At.nrm ?_
  refine At.zh (.q 0 (.q 1 (.q 2 .done))) ?_
  refine AtT.zg ?_
  refine AtT.zg ?_
  refine AtT.qL ?_
  refine AtT.done ?_
  refine At.nrm ?_
  refine At.cutG (ι := Unit) (fun _ => [(1, iv g), (2, iv c), (3, .pointer (some ⟨b3, 0, none⟩)), (7, .slice a22 (Bk.stL st).length c22), (8, .slice (some ⟨b23, 0, none⟩) 8 8), (9, .slice at_ (acc.map mkE).length ct), (10, iv t), (11, iv n)]) (fun _ => [.row (.slice at_ (acc.map mkE).length ct) 36 4 (acc.map mkE).length (flat ene (acc.map mkE)), .blk b23 (LC (stC (upd W g 0)) 2), .blk b3 (LC [.slice z0 q0.length y0, .slice a0 b.es.length c0] 26)]) (fun _ V'' => V'' = V1) ?_ ?_
  ·refine At.qf rfl (fun htg => ?_) (fun htg => ?_)
   ·rw [if_pos (by omega)] at hnE
    subst hnE
    refine At.nrm ?_
    refine At.zh (.q 0 (.q 1 .done)) ?_
    refine AtT.zg ?_
    refine AtT.zf ?_
    refine AtT.done ?_
    refine At.nrm ?_
    exact At.meetG () rfl ⟨rfl, rfl, rfl, rfl, rfl, rfl, rfl, rfl, trivial⟩ Pt.zJ
   ·rw [if_neg (by omega)] at hnE
    rw [← hnE]
    refine At.nrm ?_
    exact At.meetG () rfl ⟨rfl, rfl, rfl, rfl, rfl, rfl, rfl, rfl, trivial⟩ Pt.zJ
  rintro - Vc ks' O' rfl hk hO hlc
  subst hk hO
  refine At.nrm ?_
  refine At.zh (.q 0 (.q 1 (.q 2 (.n false 3 (.q 4 .done))))) ?_
  first | refine AtT.zk zy ?_ | with_reducible refine AtT.zl zy ?_ | refine AtT.zn zy ?_
  first | refine AtT.zm qy ?_ | refine AtT.zo qy ?_
  refine AtT.zg ?_
  refine AtT.qa rfl rfl ok48 (partsOf_f b.rs t _ _ hvr') ?_
  rintro _ V46 hV46 ⟨a46, c46, rfl, h46⟩
  refine AtT.zf ?_
  refine AtT.done ?_
  refine At.nrm ?_
  replace h46 := h46.le hV46
  have hpos : 0 < n → ¬ ((partsOf b.rs (t : Int)).length : Int) = 0 := fun h0 h => s1 h0 (List.length_eq_zero_iff.1 (by omega))
  refine At.cutG (ι := Unit) (fun _ => [(1, iv g), (2, iv c), (3, .pointer (some ⟨b3, 0, none⟩)), (7, .slice a22 (Bk.stL st).length c22), (8, .slice (some ⟨b23, 0, none⟩) 8 8), (9, .slice at_ (acc.map mkE).length ct), (10, iv t), (11, iv n), (12, .slice a46 (partsOf b.rs (t : Int)).length c46), (53, .bool false)]) (fun _ => [.row (.slice at_ (acc.map mkE).length ct) 36 4 (acc.map mkE).length (flat ene (acc.map mkE)), .blk b23 (LC (stC (upd W g 0)) 2), .blk b3 (LC [.slice z0 q0.length y0, .slice a0 b.es.length c0] 26)]) (fun _ V'' => V'' = V46) ?_ ?_
  ·by_cases h0 : n > 0
   ·refine At.zh (.q 0 (.q 1 (.q 2 (.q 3 (.q 4 (.q 5 (.q 6 .done))))))) ?_
    refine AtT.zg ?_
    refine AtT.qM ?_
    refine AtT.ql (d := 48) rfl (h0) ?_
    refine AtT.zg ?_
    all_goals (first | refine AtT.kL 49 ?_ | refine AtT.zB (d := 49) rfl (fun hg49 => ?_) (fun hg49 => ?_) | refine AtT.zA (d := 49) rfl (fun hg49 => ?_) (fun hg49 => ?_))
    all_goals first|refine AtT.zi ?_|refine AtT.ze ?_|(refine AtT.zg ?_)
    all_goals first|refine AtT.zi ?_|refine AtT.ze ?_|(first | refine AtT.zS Tryz.underlying66 ?_ | refine AtT.zR Tryz.underlying66 ?_)
    all_goals first|refine AtT.zi ?_|refine AtT.ze ?_|(refine AtT.qL ?_)
    all_goals (refine AtT.zW (d := 52) rfl ((hpos h0)) ?_)
    all_goals (refine AtT.zC ?_)
    all_goals refine AtT.done ?_
    all_goals (refine At.nrm ?_)
    all_goals exact At.meetG () rfl ⟨rfl, rfl, rfl, rfl, rfl, rfl, rfl, rfl, rfl, rfl, trivial⟩ Pt.zJ
   ·refine At.zh (.q 0 (.q 1 (.q 2 (.q 3 (.q 4 (.q 5 (.q 6 .done))))))) ?_
    refine AtT.zg ?_
    refine AtT.qM ?_
    refine AtT.zW (d := 48) rfl (h0) ?_
    refine AtT.zg ?_
    all_goals (first | refine AtT.kL 49 ?_ | refine AtT.zB (d := 49) rfl (fun hg49 => ?_) (fun hg49 => ?_) | refine AtT.zA (d := 49) rfl (fun hg49 => ?_) (fun hg49 => ?_))
    all_goals first|refine AtT.zi ?_|refine AtT.ze ?_|(refine AtT.zg ?_)
    all_goals first|refine AtT.zi ?_|refine AtT.ze ?_|(first | refine AtT.zS Tryz.underlying66 ?_ | refine AtT.zR Tryz.underlying66 ?_)
    all_goals first|refine AtT.zi ?_|refine AtT.ze ?_|(refine AtT.qL ?_)
    all_goals (refine AtT.zC ?_)
    all_goals refine AtT.done ?_
    all_goals (refine At.nrm ?_)
    all_goals exact At.meetG () rfl ⟨rfl, rfl, rfl, rfl, rfl, rfl, rfl, rfl, rfl, rfl, trivial⟩ Pt.zJ
  rintro - Vc ks' O' rfl hk hO hlc2
  subst hk hO
  refine At.nrm ?_
  refine At.qd rfl rfl ?_
  refine At.nrm ?_
  by_cases hbig : n > 1000
  ·refine At.zh (.q 0 (.q 1 .done)) ?_
   refine AtT.zg ?_
   refine AtT.qM ?_
   refine AtT.ql (d := 55) rfl (hbig) ?_
   refine AtT.done ?_
   refine At.nrm ?_
   refine At.qb rfl rfl ?_
   refine At.nrm ?_
   refine At.zh (.q 0 .done) ?_
   refine AtT.zf ?_
   refine AtT.done ?_
   refine At.nrm ?_
   exact At.qi rfl (.tmp rfl) rfl
  refine At.zh (.q 0 (.q 1 .done)) ?_
  refine AtT.zg ?_
  refine AtT.qM ?_
  refine AtT.zW (d := 55) rfl (hbig) ?_
  refine AtT.done ?_
  refine At.nrm ?_
  refine At.qd rfl rfl ?_
  refine At.nrm ?_
  have hnext := enS_next hrs hE hn (by omega)
  refine At.zh (.q 0 (.q 1 .done)) ?_
  refine AtT.zg ?_
  refine AtT.qM ?_
  refine AtT.done ?_
  refine At.nrm ?_
  refine At.cutG (ι := Option Addr × Nat) (fun z => [(1, iv g), (2, iv c), (3, .pointer (some ⟨b3, 0, none⟩)), (7, .slice a22 (Bk.stL st).length c22), (8, .slice (some ⟨b23, 0, none⟩) 8 8), (9, .slice z.1 ((acc ++ nwL t n).map mkE).length z.2), (10, iv t), (11, iv n), (12, .slice a46 (partsOf b.rs (t : Int)).length c46)]) (fun z => [.row (.slice z.1 ((acc ++ nwL t n).map mkE).length z.2) 36 4 ((acc ++ nwL t n).map mkE).length (flat ene ((acc ++ nwL t n).map mkE)), .blk b23 (LC (stC (upd W g 0)) 2), .blk b3 (LC [.slice z0 q0.length y0, .slice a0 b.es.length c0] 26)]) (fun _ V'' => Le Vc V'') ?_ ?_
  ·refine At.qf rfl (fun h0 => ?_) (fun h0 => ?_)
   ·have hacc : (acc ++ nwL t n).map mkE = acc.map mkE ++ [mkE (t, n)] := by unfold nwL; rw [if_pos h0, List.map_append]; rfl
    have hal : ((acc ++ nwL t n).map mkE).length = (acc.map mkE).length + 1 := by rw [hacc, List.length_append]; rfl
    have hfl : flat ene ((acc ++ nwL t n).map mkE) = flat ene (acc.map mkE) ++ ene (mkE (t, n)) := by rw [hacc]; simp [flat]
    have hacl : (acc.map mkE).length ≤ 8 := by have := hE.accl; rw [List.length_map]; omega
    refine At.nrm ?_
    refine At.zh (.q 0 (.q 1 (.q 2 (.n false 3 (.n false 4 (.n true 5 (.q 6 .done))))))) ?_
    refine AtT.zg ?_
    refine AtT.zg ?_
    refine AtT.zg ?_
    refine AtT.zI rfl rfl ok44 (ji 999 3 t n _) ?_
    rintro _ rfl
    refine AtT.zO (bs24_1_0 _ _ _ _) ?_
    intro q62 V62 hV62 hq62
    first | refine AtT.jq Tryz.underlying24 rw36 ?_
    intro a63 c63
    refine AtT.zf ?_
    refine AtT.done ?_
    refine At.nrm ?_
    rw [hal, hfl]
    exact At.meetG (a63, c63) hV62 ⟨rfl, rfl, rfl, rfl, rfl, rfl, rfl, rfl, rfl, trivial⟩ Pt.zJ
   ·have hacc : acc ++ nwL t n = acc := by unfold nwL; rw [if_neg h0, List.append_nil]
    rw [hacc]
    refine At.nrm ?_
    exact At.meetG (at_, ct) (Le.refl _) ⟨rfl, rfl, rfl, rfl, rfl, rfl, rfl, rfl, rfl, trivial⟩ Pt.zJ
  rintro ⟨at2, ct2⟩ Vd ks' O' hVd hk hO hlc3
  dsimp only at hk hO
  subst hk hO
  replace h46 := h46.le hVd
  refine At.nrm ?_
  refine At.zh (.q 0 .done) ?_
  refine AtT.zf ?_
  refine AtT.done ?_
  refine At.nrm ?_
  have hpl := partsOf_len hrs (t : Int)
  refine At.lp (ι := Nat) (KS := fun i => [(1, iv g), (2, iv c), (3, .pointer (some ⟨b3, 0, none⟩)), (7, .slice a22 (Bk.stL st).length c22), (8, .slice (some ⟨b23, 0, none⟩) 8 8), (9, .slice at2 ((acc ++ nwL t n).map mkE).length ct2), (10, iv t), (11, iv n), (12, .slice a46 (partsOf b.rs (t : Int)).length c46), (13, iv i)]) (OS := fun i => [.row (.slice at2 ((acc ++ nwL t n).map mkE).length ct2) 36 4 ((acc ++ nwL t n).map mkE).length (flat ene ((acc ++ nwL t n).map mkE)), .blk b23 (LC (stC (qG n ((partsOf b.rs (t : Int)).take i) (upd W g 0))) 2), .blk b3 (LC [.slice z0 q0.length y0, .slice a0 b.es.length c0] 26)]) (VS := fun i V' => V' = Vd ∧ i ≤ (partsOf b.rs (t : Int)).length) (μ := fun i => (partsOf b.rs (t : Int)).length - i) 0 ?_ ?_ ?_ ?_
  ·exact ⟨rfl, rfl, rfl, rfl, rfl, rfl, rfl, rfl, rfl, rfl, trivial⟩
  ·rw [List.take_zero]; exact Pt.zJ
  ·exact ⟨rfl, Nat.zero_le _⟩
  rintro i V2 ks' O' ⟨rfl, hil⟩ hk hO hl2
  subst hk hO
  refine At.nrm ?_
  refine At.zh (.q 0 (.q 1 (.q 2 (.q 3 .done)))) ?_
  refine AtT.zg ?_
  refine AtT.zg ?_
  first | refine AtT.zS Tryz.underlying66 ?_ | refine AtT.zR Tryz.underlying66 ?_
  refine AtT.qB ?_
  refine AtT.done ?_
  refine At.nrm ?_
  refine At.qf rfl (fun hp2 => ?_) (fun hp2 => ?_)
  ·obtain ⟨p, hpi⟩ : ∃ p, (partsOf b.rs (t : Int))[i]? = some p := ⟨_, List.getElem?_eq_getElem (by omega)⟩
   have hpin := qz hrs (List.mem_of_getElem? hpi)
   have htk := take_snoc2 hpi
   have hP : ∀ e, (partsOf b.rs (t : Int))[(i : Int).toNat]? = some e → p = e := fun e he => by rw [Int.toNat_natCast, hpi] at he; exact Option.some.inj he
   obtain ⟨T, hT⟩ : ∃ T : Nat, p.t = (T : Int) := ⟨p.t.toNat, by omega⟩
   have hT8 : T < 8 := by omega
   have hwb := want_bd (n := n) ⟨by omega, by omega⟩ (ps := (partsOf b.rs (t : Int)).take i) (fun q hq => by have := qz hrs (List.mem_of_mem_take hq); omega) hE.bd T
   have htl : ((partsOf b.rs (t : Int)).take i).length = i := by rw [List.length_take]; omega
   rw [htl] at hwb
   push_cast at hwb
   have hi3 : (i : Int) ≤ 3 := by omega
   have hm1 : 0 ≤ n * p.n := Int.mul_nonneg (by omega) (by omega)
   have hm2 : n * p.n ≤ 1000 * 9 := Int.mul_le_mul (by omega) (by omega) (by omega) (by decide)
   have hat : (stC (qG n ((partsOf b.rs (t : Int)).take i) (upd W g 0)))[T * 1]? = some (iv (qG n ((partsOf b.rs (t : Int)).take i) (upd W g 0) T)) := by rw [Nat.mul_one, stC_at _ hT8]
   have hset : (stC (qG n ((partsOf b.rs (t : Int)).take i) (upd W g 0))).set (T * 1) (iv (qG n ((partsOf b.rs (t : Int)).take i) (upd W g 0) T + n * p.n)) = stC (qG n ((partsOf b.rs (t : Int)).take (i + 1)) (upd W g 0)) := by
    rw [Nat.mul_one, stC_set _ _ hT8, htk, want_snoc, hT, Int.toNat_natCast]
   refine At.nrm ?_
   refine At.draw (.q 0 (.q 1 (.q 2 (.q 3 (.q 4 (.q 5 (.q 6 (.q 7 (.q 8 (.q 9 (.q 10 (.q 11 (.q 12 (.q 13 (.q 14 (.q 15 (.q 16 (.n true 17 .done)))))))))))))))))) ffm (by kernel_rfl) ?_
   refine AtT.zg ?_
   refine AtT.zg ?_
   refine AtT.zg ?_
   refine AtT.qC Tryz.underlying66 qY ?_
   intro p73 e73 he73 hc73
   obtain rfl := hP _ he73
   first | refine AtT.zk zY ?_ | with_reducible refine AtT.zl zY ?_ | refine AtT.zn zY ?_
   first | refine AtT.zm tk3 ?_ | refine AtT.zo tk3 ?_
   rw [hT]
   refine AtT.idxZ rfl trivial Tryz.underlying28 tk2 rfl rfl hT8 (by decide) ?_
   refine AtT.jK rfl trivial rfl tk2 zP.zJ hat (by decide) ?_
   refine AtT.zg ?_
   refine AtT.zg ?_
   refine AtT.zg ?_
   refine AtT.qC Tryz.underlying66 qY ?_
   intro p81 e81 he81 hc81
   obtain rfl := hP _ he81
   first | refine AtT.zk qg ?_ | with_reducible refine AtT.zl qg ?_ | refine AtT.zn qg ?_
   first | refine AtT.zm tk2 ?_ | refine AtT.zo tk2 ?_
   refine AtT.mul rfl trivial rfl rfl (by decide) (Fit.of (by omega) (by omega)) ?_
   refine AtT.add rfl trivial rfl rfl (by decide) (Fit.of (by omega) (by omega)) ?_
   refine AtT.idxZ rfl trivial Tryz.underlying28 tk2 rfl rfl hT8 (by decide) ?_
   refine AtT.jC rfl trivial rfl rfl tk2 rfl rfl (by repeat first|exact Upd.here|apply Upd.there) (qU (by rw [stC_len]; omega) hset) ?_
   refine AtT.done ?_
   refine At.nrm ?_
   refine At.nrm ?_
   refine At.zh (.q 0 (.q 1 (.q 2 .done))) ?_
   refine AtT.zg ?_
   first | refine AtT.qN ?_ | refine AtT.qw ?_
   refine AtT.zf ?_
   refine AtT.done ?_
   refine At.nrm ?_
   refine At.round (i + 1) ?_ ?_ ?_ ?_
   ·show (partsOf b.rs (t : Int)).length - (i + 1) < (partsOf b.rs (t : Int)).length - i; omega
   ·exact ⟨rfl, by omega⟩
   ·exact ⟨rfl, rfl, rfl, rfl, rfl, rfl, rfl, rfl, rfl, ivs (by omega), trivial⟩
   ·exact Pt.zJ
  obtain rfl : i = (partsOf b.rs (t : Int)).length := by omega
  rw [List.take_length, want_upd hrs (by omega)]
  refine At.nrm ?_
  refine At.zh (.q 0 (.q 1 (.q 2 .done))) ?_
  refine AtT.zg ?_
  first | refine AtT.jf ?_ | refine AtT.jg ?_
  refine AtT.zf ?_
  refine AtT.done ?_
  refine At.nrm ?_
  refine At.round (t, qG n (partsOf b.rs (t : Int)) W, acc ++ nwL t n, at2, ct2) ?_ ?_ ?_ ?_
  ·show t < t + 1; omega
  ·exact ⟨(hVV.trans hV46).trans hVd, hnext⟩
  ·exact ⟨rfl, rfl, rfl, rfl, rfl, rfl, ivs (by dsimp only), trivial⟩
  ·exact Pt.zJ
 obtain rfl : j = 0 := by omega
 have hM : acc = todoR b st g c := by rw [hE.todo]; simp [todoW]
 have hin := mkE_in hg8 hcan hM hE.small
 have hl0 : ∀ s, s < g + 1 → upd (cutS st) g 0 s ≤ st s := fun s hs => by
  rw [jm]; split
  ·exact (hsb s (by omega)).1
  ·unfold cutS; rw [if_pos (by omega)]; exact Int.le_refl _
 obtain ⟨st', hr', _, _, _⟩ := makes_run hrs (l := upd (cutS st) g 0) (t := g + 1) (W := upd (fun _ => 0) g c) (st := st) (by omega) hcan (fun s => by rw [jm]; split <;> omega) hl0 (fun s hs => (hsb s hs).1)
 have hr2 : runL b.rs 999 (acc.reverse.map mkE) st = some st' := by rw [hM]; exact hr'
 have hmr : ∀ {k : Nat}, k ≤ (acc.reverse.map mkE).length → b.es.length + k ≤ 24 → Right (bK b acc k) := fun h1 h2 => makes_right hR hin hst hr2 h1 h2
 have hrl : (acc.reverse.map mkE).length = acc.length := by simp
 have hml : (acc.map mkE).length = acc.length := by simp
 have hacl8 : acc.length ≤ 8 := by have := hE.accl; omega
 refine At.jW (l := acc.map mkE) ene_len rfl rfl zP.zJ (fun V4 hV4 hsT => ?_)
 have hv4 := (hv.le hVV).le hV4
 refine At.nrm ?_
 refine At.zh (.q 0 (.n false 1 (.n true 2 .done))) ?_
 first | refine AtT.zG zQ ?_ | refine AtT.zK zQ ?_ | refine AtT.zF zQ ?_
 refine AtT.zT z26 ?_
 intro b14
 refine AtT.zD zQ ?_
 refine AtT.done ?_
 refine At.nrm ?_
 refine At.zh (.q 0 (.q 1 (.q 2 (.q 3 .done)))) ?_
 refine AtT.zg ?_
 first | refine AtT.zS Tryz.underlying24 ?_ | refine AtT.zR Tryz.underlying24 ?_
 first | refine AtT.jf ?_ | refine AtT.jg ?_
 refine AtT.zf ?_
 refine AtT.done ?_
 refine At.nrm ?_
 refine At.lp (ι := Nat × Nat × Option Addr × Nat × Nat × Option Addr × Nat) (KS := fun z => [(9, .slice at_ (acc.map mkE).length ct), (14, .pointer (some ⟨b14, 0, none⟩)), (15, iv ((z.1 : Int) - 1))])
  (OS := fun z => [.blk b14 (LC [.slice z.2.2.1 z.2.2.2.1 z.2.2.2.2.1, .slice z.2.2.2.2.2.1 (bK b acc z.2.1).es.length z.2.2.2.2.2.2] 26)])
  (VS := fun z V' => Le V4 V' ∧ z.1 + z.2.1 = acc.length ∧ b.es.length + z.2.1 ≤ 24 ∧ BoV V' (.agg #[.slice z.2.2.1 z.2.2.2.1 z.2.2.2.2.1, .slice z.2.2.2.2.2.1 (bK b acc z.2.1).es.length z.2.2.2.2.2.2]) (bK b acc z.2.1)) (μ := fun z => z.1) (acc.length, 0, z0, q0.length, y0, a0, c0) ?_ ?_ ?_ ?_
 ·exact ⟨rfl, rfl, ivs (by dsimp only; rw [hml]), trivial⟩
 ·rw [show (bK b acc 0).es.length = b.es.length by simp]; exact Pt.zJ
 ·refine ⟨Le.refl _, by dsimp only; omega, by dsimp only; omega, ?_⟩
  have e : bK b acc 0 = b := by simp [bK]
  show BoV V4 (.agg #[.slice z0 q0.length y0, .slice a0 (bK b acc 0).es.length c0]) (bK b acc 0)
  rw [e]; exact hv4
 rintro ⟨j, k, zx, nx, yx, ax, cx⟩ V5 ks' O' ⟨hV5, hjk, hk24, hvx⟩ hk hO hl5
 dsimp only at hk hO hvx hjk hk24
 subst hk hO
 have hsT' := hsT.le hV5
 have hxl : (bK b acc k).es.length = b.es.length + k := by
  show (b.es ++ (acc.reverse.map mkE).take k).length = _
  rw [List.length_append, List.length_take, hrl]; omega
 have hRx : Right (bK b acc k) := hmr (by omega) hk24
 refine At.nrm ?_
 refine At.zh (.q 0 (.q 1 .done)) ?_
 refine AtT.zg ?_
 refine AtT.kgeq ?_
 refine AtT.done ?_
 refine At.nrm ?_
 refine At.qf rfl (fun hp => ?_) (fun hp => ?_)
 rotate_left
 ·refine At.nrm ?_
  refine At.zh (.q 0 .done) ?_
  refine AtT.zf ?_
  refine AtT.done ?_
  refine At.nrm ?_
  exact At.qi rfl (.tmp rfl) rfl
 obtain ⟨i, rfl⟩ : ∃ i, j = i + 1 := ⟨j - 1, by omega⟩
 have hi8 : i + 1 ≤ 8 := by omega
 rw [show (((i + 1 : Nat) : Int) - 1) = (i : Int) by omega]
 refine At.nrm ?_
 by_cases hfull : ((bK b acc k).es.length : Int) ≥ 24
 ·refine At.zh (.q 0 (.q 1 (.q 2 (.q 3 .done)))) ?_
  first | refine AtT.zk zw ?_ | with_reducible refine AtT.zl zw ?_ | refine AtT.zn zw ?_
  first | refine AtT.zm qx ?_ | refine AtT.zo qx ?_
  first | refine AtT.zS Tryz.underlying24 ?_ | refine AtT.zR Tryz.underlying24 ?_
  refine AtT.kgeq ?_
  refine AtT.ql (d := 98) rfl (hfull) ?_
  refine AtT.done ?_
  refine At.nrm ?_
  refine At.qb rfl rfl ?_
  refine At.nrm ?_
  refine At.zh (.q 0 .done) ?_
  refine AtT.zf ?_
  refine AtT.done ?_
  refine At.nrm ?_
  exact At.qi rfl (.tmp rfl) rfl
 refine At.zh (.q 0 (.q 1 (.q 2 (.q 3 .done)))) ?_
 first | refine AtT.zk zw ?_ | with_reducible refine AtT.zl zw ?_ | refine AtT.zn zw ?_
 first | refine AtT.zm qx ?_ | refine AtT.zo qx ?_
 first | refine AtT.zS Tryz.underlying24 ?_ | refine AtT.zR Tryz.underlying24 ?_
 refine AtT.kgeq ?_
 refine AtT.zW (d := 98) rfl (hfull) ?_
 refine AtT.done ?_
 refine At.nrm ?_
 refine At.qd rfl rfl ?_
 refine At.nrm ?_
 obtain ⟨y, hy⟩ : ∃ y, acc[i]? = some y := ⟨_, List.getElem?_eq_getElem (by omega)⟩
 have hyr := take_rev (by omega) hy
 have hmy : (acc.map mkE)[i]? = some (mkE y) := by rw [List.getElem?_map, hy]; rfl
 have hP : ∀ e, (acc.map mkE)[(i : Int).toNat]? = some e → mkE y = e := fun e he => by rw [Int.toNat_natCast, hmy] at he; exact Option.some.inj he
 have hstep : withB (bK b acc k) (mkE y) = bK b acc (k + 1) := by
  unfold withB bK
  dsimp only
  rw [List.append_assoc, List.take_add_one, List.getElem?_map, show k = acc.length - (i + 1) by omega, hyr]; rfl
 have hRy : Right (bK b acc (k + 1)) := hmr (by omega) (by omega)
 obtain ⟨hA, hB⟩ := add_ok (jZ.2 hRx) (e := mkE y) (by rw [hstep]; exact jZ.2 hRy)
 rw [hstep] at hB
 refine At.cutG (ι := Nat × Option Addr × Nat × Nat × Option Addr × Nat) (fun z => [(9, .slice at_ (acc.map mkE).length ct), (14, .pointer (some ⟨b14, 0, none⟩)), (15, iv i), (16, .pointer (some ⟨z.1, 0, none⟩)), (17, iv 0)]) (fun z => [.blk b14 (LC [.slice zx nx yx, .slice ax (bK b acc k).es.length cx] 26), .blk z.1 (LC [.slice z.2.1 z.2.2.1 z.2.2.2.1, .slice z.2.2.2.2.1 (bK b acc (k + 1)).es.length z.2.2.2.2.2] 26)]) (fun z V'' => Le V5 V'' ∧ BoV V'' (.agg #[.slice z.2.1 z.2.2.1 z.2.2.2.1, .slice z.2.2.2.2.1 (bK b acc (k + 1)).es.length z.2.2.2.2.2]) (bK b acc (k + 1))) ?_ ?_
 ·refine At.draw (.q 0 (.q 1 (.q 2 (.q 3 (.q 4 (.two 5 (.q 6 (.q 7 (.q 8 (.n false 9 (.n false 10 (.q 11 .done)))))) 9 (.n false 5 (.q 6 (.q 7 (.q 8 (.n false 10 (.q 11 .done)))))))))))) ffm (by kernel_rfl) ?_
  refine AtC.start ?_
  refine AtC.pre (fun hle0 => ?_)
  refine AtC.kq (by (first | refine AtT.zG zQ ?_ | refine AtT.zK zQ ?_ | refine AtT.zF zQ ?_); exact At.knows) ?_
  refine AtC.kq (by (refine AtT.zg ?_); exact At.knows) ?_
  refine AtC.kq (by (refine AtT.zg ?_); exact At.knows) ?_
  refine AtC.qC Tryz.underlying24 qI ?_
  intro p103 e103 he103 hc103
  obtain rfl := hP _ he103
  refine AtC.kq (by (first | refine AtT.zG qI ?_ | refine AtT.zK qI ?_ | refine AtT.zF qI ?_); exact At.knows) ?_
  refine AtC.two ?_ ?_
  focus
   refine AtC.nz ?_
   refine AtT.qa rfl rfl ok25 (jP (bK b acc k) (mkE y) _ _ hvx) ?_
   rintro _ V105 hV105 ⟨u105, rfl, h105⟩; rw [hA]; rw [hB] at h105; obtain ⟨w105, a105, c105, rfl, ⟨q105, z105, y105, e105, rfl, i105, j105⟩, s105⟩ := id h105; clear e105 i105 j105 s105
   refine AtC.kgo ?_
   refine AtC.kq (by (refine AtT.zg ?_); exact At.knows) ?_
   refine AtC.kq (by (refine AtT.zt ?_); exact At.knows) ?_
   refine AtC.kq (by (refine AtT.zt ?_); exact At.knows) ?_
   refine AtC.nz ?_
   refine AtT.zT z26 ?_
   intro b16
   refine AtC.kgo ?_
   refine AtC.nz ?_
   refine AtT.zD zQ ?_
   refine AtC.kgo ?_
   refine AtC.kq (by (refine AtT.zf ?_); exact At.knows) ?_
   refine AtC.done ?_
  rotate_right
  focus
   refine AtC.nz ?_
   refine AtT.zT z26 ?_
   intro b16
   refine AtC.kgo ?_
   refine AtC.nz ?_
   refine AtT.qa rfl rfl ok25 (jP (bK b acc k) (mkE y) _ _ hvx) ?_
   rintro _ V105 hV105 ⟨u105, rfl, h105⟩; rw [hA]; rw [hB] at h105; obtain ⟨w105, a105, c105, rfl, ⟨q105, z105, y105, e105, rfl, i105, j105⟩, s105⟩ := id h105; clear e105 i105 j105 s105
   refine AtC.kgo ?_
   refine AtC.kq (by (refine AtT.zg ?_); exact At.knows) ?_
   refine AtC.kq (by (refine AtT.zt ?_); exact At.knows) ?_
   refine AtC.kq (by (refine AtT.zt ?_); exact At.knows) ?_
   refine AtC.nz ?_
   refine AtT.zD zQ ?_
   refine AtC.kgo ?_
   refine AtC.kq (by (refine AtT.zf ?_); exact At.knows) ?_
   refine AtC.done ?_
  all_goals (refine At.nrm ?_)
  all_goals exact At.meetG (b16, z105, q105.length, y105, a105, c105) ⟨hV105, h105⟩ ⟨rfl, rfl, rfl, rfl, rfl, trivial⟩ Pt.zJ
 rintro ⟨b16, z16, n16, y16, a16, c16⟩ V6 ks' O' ⟨hV6, h105⟩ hk hO hl6
 dsimp only at hk hO h105
 subst hk hO
 replace hsT' := hsT'.le hV6
 replace hvx := hvx.le hV6
 have hxr : (bK b acc k).rs.length ≤ 100 := by have := rcsOk_len hrs; show b.rs.length ≤ 100; omega
 refine At.nrm ?_
 refine At.draw (.q 0 (.q 1 (.q 2 (.q 3 (.q 4 (.q 5 (.q 6 (.q 7 (.q 8 (.n false 9 (.n false 10 (.q 11 (.q 12 .done))))))))))))) ffm (by kernel_rfl) ?_
 refine AtT.zg ?_
 refine AtT.qH ?_
 refine AtT.zW (d := 109) rfl ((fun h => h rfl)) ?_
 refine AtT.zg ?_
 all_goals (first | refine AtT.kL 110 ?_ | refine AtT.zB (d := 110) rfl (fun hg110 => ?_) (fun hg110 => ?_) | refine AtT.zA (d := 110) rfl (fun hg110 => ?_) (fun hg110 => ?_))
 all_goals first|refine AtT.zi ?_|refine AtT.ze ?_|(first | refine AtT.zG zQ ?_ | refine AtT.zK zQ ?_ | refine AtT.zF zQ ?_)
 all_goals first|refine AtT.zi ?_|refine AtT.ze ?_|(first | refine AtT.zG zQ ?_ | refine AtT.zK zQ ?_ | refine AtT.zF zQ ?_)
 all_goals first|refine AtT.zi ?_|refine AtT.ze ?_|(refine AtT.zg ?_)
 all_goals first|refine AtT.zi ?_|refine AtT.ze ?_|(refine AtT.zg ?_)
 all_goals first|refine AtT.zi ?_|refine AtT.ze ?_|(refine AtT.qC Tryz.underlying24 qI ?_) ; (intro p115 e115 he115 hc115)
 all_goals (obtain rfl := hP _ he115)
 all_goals first|refine AtT.zi ?_|refine AtT.ze ?_|(first | refine AtT.zG qI ?_ | refine AtT.zK qI ?_ | refine AtT.zF qI ?_)
 all_goals first|refine AtT.qc ?_|refine AtT.zU ?_|((refine AtT.qa rfl rfl ok42 (rwith_f (bK b acc k) hrs hxr (by rw [hxl]; omega) (mkE y) _ _ hvx) ?_) ; (rintro v117 V117 hV117 h117; rw [hstep] at h117; replace h105 := h105.le hV117))
 all_goals first|refine AtT.qc ?_|refine AtT.zU ?_|((refine AtT.zI rfl rfl ok30 (same_f (bK b acc (k + 1)) (bK b acc (k + 1)) _ _ _ h105 h117) ?_) ; (rintro _ rfl))
 all_goals (refine AtT.ql (d := 118) rfl (rfl) ?_)
 all_goals first|refine AtT.zi ?_|refine AtT.ze ?_|(refine AtT.qE ?_)
 all_goals (refine AtT.qJ (d := 119) rfl ((show (!true) = false from rfl)) ?_)
 all_goals (refine AtT.zC ?_)
 all_goals refine AtT.done ?_
 all_goals (refine At.nrm ?_)
 all_goals refine At.qd rfl rfl ?_
 refine At.nrm ?_
 refine At.zh (.q 0 (.n true 1 .done)) ?_
 first | refine AtT.zG zQ ?_ | refine AtT.zK zQ ?_ | refine AtT.zF zQ ?_
 refine AtT.zD zQ ?_
 refine AtT.done ?_
 refine At.nrm ?_
 refine At.zh (.q 0 (.q 1 (.q 2 .done))) ?_
 refine AtT.zg ?_
 first | refine AtT.jf ?_ | refine AtT.jg ?_
 refine AtT.zf ?_
 refine AtT.done ?_
 refine At.nrm ?_
 refine At.round (i, k + 1, z16, n16, y16, a16, c16) ?_ ?_ ?_ ?_
 ·show i < i + 1; omega
 ·exact ⟨(hV5.trans hV6).trans hV117, by dsimp only; omega, by dsimp only; omega, h105⟩
 ·exact ⟨rfl, rfl, rfl, trivial⟩
 ·exact Pt.zJ
end Go.Proofs.YtpoignmclfdgpaaGreatDoor
set_option linter.unusedVariables false
namespace Go.Proofs.YtpoignmclfdgpaaGreatDoor
open Go.Lw Go.Gl Go.Bk Go.RowKit
theorem upd_st (st : Nat → Int) (g : Nat) {i : Nat} (h : i ≠ g) : upd st g 0 i = st i := by rw [jm, if_neg h]
theorem dot8_congr {A B r : Nat → Int} (h : ∀ s, s < 8 → A s = B s) : ∀ {n : Nat}, n ≤ 8 → jb A r n = jb B r n
 | 0, _ => rfl
 | n + 1, hn => by
  simp only [jb]
  rw [dot8_congr h (n := n) (by omega), h n (by omega)]
theorem most_row {b : Bo} (hR : Right b) {st : Nat → Int} (hsb : ∀ s, s < 8 → 0 ≤ st s ∧ st s ≤ 24000) {g : Nat} (hg : g < 8) {N : Nat} (hN : N = 0 ∨ canS b.rs (cutS st) g N = true) (k : Nat) : (N : Int) * jG b.rs g k ≤ rowJ b.rs (upd st g 0) 8 k := by
 have hrs := hR.bog.rs
 rcases hN with rfl | hN
 ·have := (rowJ_bd hrs (st := upd st g 0) (fun s hs => by rw [jm]; split; omega; exact hsb s hs) (i := 8) k (Nat.le_refl _)).1
  simpa using this
 ·have h1 := canS_dot hrs (l := cutS st) (fun s => by unfold cutS; split; rename_i h; exact (hsb s h).1; exact Int.le_refl _) hg hN (k : Int)
  have e : jb (upd (cutS st) g 0) (fun s => jG b.rs s k) 8 = rowJ b.rs (upd st g 0) 8 k := dot8_congr (fun s hs => by
   rw [jm, jm]; split
   ·rfl
   ·unfold cutS; rw [if_pos hs]) (Nat.le_refl _)
  rw [e] at h1; exact h1
set_option maxHeartbeats 3200000 in
theorem bookMost_f (b : Bo) (x8 y8 x : Int) (hx8 : 0 ≤ x8 ∧ x8 ≤ 255) (hy8 : 0 ≤ y8 ∧ y8 ≤ 255) (hx16 : 0 ≤ x ∧ x ≤ 65535) (V : View) (hg : GvV V) (v : Value) (hv : BoV V v b) : Fnc Tryz.prog 12 [v, .int .u8 x8, .int .u8 y8, .int .u16 x] V fun r _ => r = .bool true := by
 obtain ⟨w0, a0, c0, rfl, ⟨q0, z0, y0, e0, rfl, i0, j0⟩, s0⟩ := id hv
 have hvr : RsV V (.slice z0 q0.length y0) b.rs := ⟨q0, z0, y0, e0, rfl, i0, j0⟩
 clear e0 i0 j0 s0
 refine qm Tryz.func12 rfl Tryz.ntmps12 (Nat.le_of_ble_eq_true rfl) ?_
 intro w0 hw0
 refine At.nrm ?_
 refine At.zh (.n false 0 (.q 1 .done)) ?_
 refine AtT.jh ?_
 intro b4
 refine AtT.zf ?_
 refine AtT.done ?_
 refine At.nrm ?_
 cases hfine : (!grB b && decide (bkE b = 0)) with
 | false =>
  refine At.zh (.q 0 (.n false 1 (.q 2 (.q 3 (.q 4 (.q 5 (.q 6 (.q 7 (.q 8 .done))))))))) ?_
  first | refine AtT.zG zQ ?_ | refine AtT.zK zQ ?_ | refine AtT.zF zQ ?_
  refine AtT.zI rfl rfl ok41 (fine_f b _ _ hv) ?_
  rintro _ rfl
  refine AtT.qJ (d := 25) rfl (hfine) ?_
  refine AtT.qE ?_
  refine AtT.qJ (d := 26) rfl ((show (!false) = true from rfl)) ?_
  refine AtT.zg ?_
  all_goals (first | refine AtT.kL 27 ?_ | refine AtT.zB (d := 27) rfl (fun hg27 => ?_) (fun hg27 => ?_) | refine AtT.zA (d := 27) rfl (fun hg27 => ?_) (fun hg27 => ?_))
  all_goals first|refine AtT.zi ?_|refine AtT.ze ?_|(first | refine AtT.zk zw ?_ | with_reducible refine AtT.zl zw ?_ | refine AtT.zn zw ?_)
  all_goals first|refine AtT.zi ?_|refine AtT.ze ?_|(first | refine AtT.zm qx ?_ | refine AtT.zo qx ?_)
  all_goals first|refine AtT.zi ?_|refine AtT.ze ?_|(first | refine AtT.zS Tryz.underlying24 ?_ | refine AtT.zR Tryz.underlying24 ?_)
  all_goals first|refine AtT.zi ?_|refine AtT.ze ?_|(refine AtT.qM ?_)
  all_goals (refine AtT.zC ?_)
  all_goals refine AtT.done ?_
  all_goals (refine At.nrm ?_)
  all_goals refine At.qb rfl rfl ?_
  refine At.nrm ?_
  refine At.zh (.n false 0 (.q 1 .done)) ?_
  refine AtT.zI rfl rfl ok17 (works_f _ hg) ?_
  rintro _ rfl
  refine AtT.zf ?_
  refine AtT.done ?_
  refine At.nrm ?_
  exact At.qi rfl (.tmp rfl) rfl
 | true =>
 by_cases hl : (b.es.length : Int) > 20
 ·refine At.zh (.q 0 (.n false 1 (.q 2 (.q 3 (.q 4 (.q 5 (.q 6 (.q 7 (.q 8 .done))))))))) ?_
  first | refine AtT.zG zQ ?_ | refine AtT.zK zQ ?_ | refine AtT.zF zQ ?_
  refine AtT.zI rfl rfl ok41 (fine_f b _ _ hv) ?_
  rintro _ rfl
  refine AtT.qJ (d := 25) rfl (hfine) ?_
  refine AtT.qE ?_
  refine AtT.qJ (d := 26) rfl ((show (!true) = false from rfl)) ?_
  refine AtT.zg ?_
  all_goals (first | refine AtT.kL 27 ?_ | refine AtT.zB (d := 27) rfl (fun hg27 => ?_) (fun hg27 => ?_) | refine AtT.zA (d := 27) rfl (fun hg27 => ?_) (fun hg27 => ?_))
  all_goals first|refine AtT.zi ?_|refine AtT.ze ?_|(first | refine AtT.zk zw ?_ | with_reducible refine AtT.zl zw ?_ | refine AtT.zn zw ?_)
  all_goals first|refine AtT.zi ?_|refine AtT.ze ?_|(first | refine AtT.zm qx ?_ | refine AtT.zo qx ?_)
  all_goals first|refine AtT.zi ?_|refine AtT.ze ?_|(first | refine AtT.zS Tryz.underlying24 ?_ | refine AtT.zR Tryz.underlying24 ?_)
  all_goals first|refine AtT.zi ?_|refine AtT.ze ?_|(refine AtT.qM ?_)
  all_goals (refine AtT.ql (d := 31) rfl (hl) ?_)
  all_goals (refine AtT.zC ?_)
  all_goals refine AtT.done ?_
  all_goals (refine At.nrm ?_)
  all_goals refine At.qb rfl rfl ?_
  refine At.nrm ?_
  refine At.zh (.n false 0 (.q 1 .done)) ?_
  refine AtT.zI rfl rfl ok17 (works_f _ hg) ?_
  rintro _ rfl
  refine AtT.zf ?_
  refine AtT.done ?_
  refine At.nrm ?_
  exact At.qi rfl (.tmp rfl) rfl
 refine At.zh (.q 0 (.n false 1 (.q 2 (.q 3 (.q 4 (.q 5 (.q 6 (.q 7 (.q 8 .done))))))))) ?_
 first | refine AtT.zG zQ ?_ | refine AtT.zK zQ ?_ | refine AtT.zF zQ ?_
 refine AtT.zI rfl rfl ok41 (fine_f b _ _ hv) ?_
 rintro _ rfl
 refine AtT.qJ (d := 25) rfl (hfine) ?_
 refine AtT.qE ?_
 refine AtT.qJ (d := 26) rfl ((show (!true) = false from rfl)) ?_
 refine AtT.zg ?_
 all_goals (first | refine AtT.kL 27 ?_ | refine AtT.zB (d := 27) rfl (fun hg27 => ?_) (fun hg27 => ?_) | refine AtT.zA (d := 27) rfl (fun hg27 => ?_) (fun hg27 => ?_))
 all_goals first|refine AtT.zi ?_|refine AtT.ze ?_|(first | refine AtT.zk zw ?_ | with_reducible refine AtT.zl zw ?_ | refine AtT.zn zw ?_)
 all_goals first|refine AtT.zi ?_|refine AtT.ze ?_|(first | refine AtT.zm qx ?_ | refine AtT.zo qx ?_)
 all_goals first|refine AtT.zi ?_|refine AtT.ze ?_|(first | refine AtT.zS Tryz.underlying24 ?_ | refine AtT.zR Tryz.underlying24 ?_)
 all_goals first|refine AtT.zi ?_|refine AtT.ze ?_|(refine AtT.qM ?_)
 all_goals (refine AtT.zW (d := 31) rfl (hl) ?_)
 all_goals (refine AtT.zC ?_)
 all_goals refine AtT.done ?_
 all_goals (refine At.nrm ?_)
 all_goals refine At.qd rfl rfl ?_
 refine At.nrm ?_
 obtain ⟨hgr, hb0⟩ := fine_ok hfine
 have hR := jZ.1 hb0
 have hrs := hR.bog.rs
 have hlen := hR.len
 obtain ⟨g, hg8', hge⟩ := first_of hx8 7
 have hge' : x8.tmod 8 = (g : Int) := hge
 have hg8 : g < 8 := by omega
 have hw8 := wrap_u8 hx8
 obtain ⟨st, hst⟩ := hR.st (Nat.le_refl b.es.length) 999
 have hF : stkF b b.es.length 999 = st := stkF_some hst
 have hsb := runS_nn hR.bog (Nat.le_refl _) hst
 refine At.zh (.q 0 (.q 1 (.q 2 (.q 3 .done)))) ?_
 refine AtT.zg ?_
 refine AtT.kconv un5 Tryz.underlying3 ?_
 rw [hw8]
 refine AtT.krem ?_
 rw [hge']
 refine AtT.zf ?_
 refine AtT.done ?_
 refine At.nrm ?_
 refine At.zh (.q 0 (.q 1 (.n false 2 (.q 3 (.q 4 (.q 5 (.q 6 (.q 7 .done)))))))) ?_
 first | refine AtT.zG zQ ?_ | refine AtT.zK zQ ?_ | refine AtT.zF zQ ?_
 refine AtT.zg ?_
 refine AtT.zI rfl rfl ok33 (pmost_f b g _ _ hv) ?_
 rintro _ rfl
 refine AtT.zg ?_
 refine AtT.zt ?_
 refine AtT.zt ?_
 refine AtT.zf ?_
 refine AtT.zf ?_
 refine AtT.done ?_
 refine At.nrm ?_
 by_cases hp0 : partsOf b.rs (g : Int) = []
 ·have hE : mostE b g = 16 := by unfold mostE; rw [if_neg (by rw [hb0]; simp), if_neg (by omega), if_pos hp0]
  have hV0 : mostV b g = 0 := by unfold mostV; rw [if_pos (by rw [hE]; decide)]
  refine At.zh (.q 0 (.q 1 (.q 2 (.n false 3 (.q 4 (.q 5 .done)))))) ?_
  first | refine AtT.zk zy ?_ | with_reducible refine AtT.zl zy ?_ | refine AtT.zn zy ?_
  first | refine AtT.zm qy ?_ | refine AtT.zo qy ?_
  refine AtT.zg ?_
  refine AtT.qa rfl rfl ok48 (partsOf_f b.rs g _ _ hvr) ?_
  rintro _ V46 hV46 ⟨a46, c46, rfl, h46⟩
  first | refine AtT.zS Tryz.underlying66 ?_ | refine AtT.zR Tryz.underlying66 ?_
  refine AtT.qL ?_
  refine AtT.ql (d := 48) rfl ((by rw [hp0]; rfl)) ?_
  refine AtT.done ?_
  refine At.nrm ?_
  refine At.qb rfl rfl ?_
  refine At.nrm ?_
  refine At.zh (.q 0 (.q 1 (.q 2 (.q 3 (.q 4 (.q 5 (.q 6 (.n false 7 (.q 8 (.q 9 .done)))))))))) ?_
  refine AtT.zg ?_
  refine AtT.qL ?_
  refine AtT.ql (d := 50) rfl (hE) ?_
  refine AtT.zg ?_
  all_goals (first | refine AtT.kL 51 ?_ | refine AtT.zB (d := 51) rfl (fun hg51 => ?_) (fun hg51 => ?_) | refine AtT.zA (d := 51) rfl (fun hg51 => ?_) (fun hg51 => ?_))
  all_goals first|refine AtT.zi ?_|refine AtT.ze ?_|(refine AtT.zg ?_)
  all_goals first|refine AtT.zi ?_|refine AtT.ze ?_|(refine AtT.qL ?_)
  all_goals (refine AtT.ql (d := 53) rfl (hV0) ?_)
  all_goals (refine AtT.zC ?_)
  all_goals (refine AtT.zg ?_)
  all_goals (first | refine AtT.kL 55 ?_ | refine AtT.zB (d := 55) rfl (fun hg55 => ?_) (fun hg55 => ?_) | refine AtT.zA (d := 55) rfl (fun hg55 => ?_) (fun hg55 => ?_))
  all_goals first|refine AtT.qc ?_|refine AtT.zU ?_|((refine AtT.zI rfl rfl ok17 (works_f _ (hg.le hV46)) ?_) ; (rintro _ rfl))
  all_goals (refine AtT.zC ?_)
  all_goals (refine AtT.zf ?_)
  all_goals refine AtT.done ?_
  all_goals (refine At.nrm ?_)
  all_goals (exact At.qi rfl (.tmp rfl) rfl)
 have hE : mostE b g = 0 := by unfold mostE; rw [if_neg (by rw [hb0]; simp), if_neg (by omega), if_neg hp0]
 have hMV : mostV b g = (mostS b.rs (cutS st) g : Int) := by unfold mostV; rw [if_neg (by rw [hE]; decide), hF, Int.toNat_natCast]
 obtain ⟨hN1, hN2⟩ := most_can (rs := b.rs) (l := cutS st) (g := g)
 rw [hMV, hE]
 have hlen0 : ¬ ((partsOf b.rs (g : Int)).length : Int) = 0 := fun h => hp0 (List.length_eq_zero_iff.1 (by omega))
 have hmono : ∀ l : Nat → Int, (∀ s, cutS st s ≤ l s) → mostS b.rs (cutS st) g ≤ mostS b.rs l g := fun l h => most_mono hrs h
 have hrow := most_row hR hsb hg8 hN2
 generalize mostS b.rs (cutS st) g = N at hN1 hN2 hmono hrow
 refine At.zh (.q 0 (.q 1 (.q 2 (.n false 3 (.q 4 (.q 5 .done)))))) ?_
 first | refine AtT.zk zy ?_ | with_reducible refine AtT.zl zy ?_ | refine AtT.zn zy ?_
 first | refine AtT.zm qy ?_ | refine AtT.zo qy ?_
 refine AtT.zg ?_
 refine AtT.qa rfl rfl ok48 (partsOf_f b.rs g _ _ hvr) ?_
 rintro _ V46 hV46 ⟨a46, c46, rfl, h46⟩
 first | refine AtT.zS Tryz.underlying66 ?_ | refine AtT.zR Tryz.underlying66 ?_
 refine AtT.qL ?_
 refine AtT.zW (d := 48) rfl (hlen0) ?_
 refine AtT.done ?_
 refine At.nrm ?_
 replace hg := hg.le hV46
 replace hv := hv.le hV46
 replace hvr := hvr.le hV46
 clear h46
 refine At.qd rfl rfl ?_
 refine At.nrm ?_
 obtain ⟨k1, k2⟩ := stk_ok hR (Nat.le_refl b.es.length) (d := 999) (by decide)
 rw [hF] at k2
 obtain ⟨m1, m2⟩ := raw_ok hR.cr (g := (g : Int)) (c := 1) (by omega) (by decide)
 refine At.zh (.q 0 (.q 1 (.q 2 (.q 3 (.n false 4 (.q 5 (.q 6 (.q 7 (.q 8 (.q 9 .done)))))))))) ?_
 first | refine AtT.zG zQ ?_ | refine AtT.zK zQ ?_ | refine AtT.zF zQ ?_
 first | refine AtT.zk zw ?_ | with_reducible refine AtT.zl zw ?_ | refine AtT.zn zw ?_
 first | refine AtT.zm qx ?_ | refine AtT.zo qx ?_
 first | refine AtT.zS Tryz.underlying24 ?_ | refine AtT.zR Tryz.underlying24 ?_
 refine AtT.qa rfl rfl ok45 (stock_f b b.es.length 999 _ _ hv) ?_
 rintro _ V63 hV63 ⟨u63, rfl, h63⟩; rw [decide_eq_true k1]; rw [k2] at h63
 refine AtT.zg ?_
 refine AtT.zt ?_
 refine AtT.zt ?_
 refine AtT.zf ?_
 refine AtT.zf ?_
 refine AtT.done ?_
 refine At.nrm ?_
 obtain ⟨a63, c63, rfl, _, _, _, _⟩ := id h63
 replace hg := hg.le hV63
 replace hv := hv.le hV63
 replace hvr := hvr.le hV63
 refine At.zh (.q 0 (.q 1 (.q 2 (.n false 3 (.q 4 (.q 5 (.q 6 (.q 7 (.q 8 .done))))))))) ?_
 first | refine AtT.zk zy ?_ | with_reducible refine AtT.zl zy ?_ | refine AtT.zn zy ?_
 first | refine AtT.zm qy ?_ | refine AtT.zo qy ?_
 refine AtT.zg ?_
 refine AtT.qa rfl rfl ok47 (made_f b.rs g 1 _ _ hvr) ?_
 rintro _ V70 hV70 ⟨u70, rfl, h70⟩; rw [decide_eq_true m1]; rw [m2] at h70
 refine AtT.zg ?_
 refine AtT.zt ?_
 refine AtT.zt ?_
 refine AtT.zf ?_
 refine AtT.zf ?_
 refine AtT.done ?_
 refine At.nrm ?_
 obtain ⟨a70, c70, rfl, _, _, _, _⟩ := id h70
 replace hg := hg.le hV70
 replace hv := hv.le hV70
 replace hvr := hvr.le hV70
 replace h63 := h63.le hV70
 refine At.zh (.q 0 (.q 1 (.q 2 (.q 3 (.q 4 (.q 5 (.q 6 (.q 7 (.q 8 (.q 9 (.q 10 (.q 11 (.q 12 (.q 13 (.q 14 (.q 15 (.q 16 (.q 17 .done)))))))))))))))))) ?_
 refine AtT.zg ?_
 refine AtT.qH ?_
 refine AtT.zW (d := 74) rfl ((fun h => h rfl)) ?_
 refine AtT.zg ?_
 all_goals (first | refine AtT.kL 75 ?_ | refine AtT.zB (d := 75) rfl (fun hg75 => ?_) (fun hg75 => ?_) | refine AtT.zA (d := 75) rfl (fun hg75 => ?_) (fun hg75 => ?_))
 all_goals first|refine AtT.zi ?_|refine AtT.ze ?_|(refine AtT.zg ?_)
 all_goals first|refine AtT.zi ?_|refine AtT.ze ?_|(refine AtT.qB ?_)
 all_goals (refine AtT.zW (d := 77) rfl ((by omega)) ?_)
 all_goals (refine AtT.zC ?_)
 all_goals (refine AtT.zg ?_)
 all_goals (first | refine AtT.kL 79 ?_ | refine AtT.zB (d := 79) rfl (fun hg79 => ?_) (fun hg79 => ?_) | refine AtT.zA (d := 79) rfl (fun hg79 => ?_) (fun hg79 => ?_))
 all_goals first|refine AtT.zi ?_|refine AtT.ze ?_|(refine AtT.zg ?_)
 all_goals first|refine AtT.zi ?_|refine AtT.ze ?_|(refine AtT.qM ?_)
 all_goals (refine AtT.zW (d := 81) rfl ((by omega)) ?_)
 all_goals (refine AtT.zC ?_)
 all_goals (refine AtT.zg ?_)
 all_goals (first | refine AtT.kL 83 ?_ | refine AtT.zB (d := 83) rfl (fun hg83 => ?_) (fun hg83 => ?_) | refine AtT.zA (d := 83) rfl (fun hg83 => ?_) (fun hg83 => ?_))
 all_goals first|refine AtT.zi ?_|refine AtT.ze ?_|(refine AtT.zg ?_)
 all_goals first|refine AtT.zi ?_|refine AtT.ze ?_|(refine AtT.qE ?_)
 all_goals (refine AtT.qJ (d := 85) rfl ((show (!true) = false from rfl)) ?_)
 all_goals (refine AtT.zC ?_)
 all_goals (refine AtT.zg ?_)
 all_goals (first | refine AtT.kL 87 ?_ | refine AtT.zB (d := 87) rfl (fun hg87 => ?_) (fun hg87 => ?_) | refine AtT.zA (d := 87) rfl (fun hg87 => ?_) (fun hg87 => ?_))
 all_goals first|refine AtT.zi ?_|refine AtT.ze ?_|(refine AtT.zg ?_)
 all_goals first|refine AtT.zi ?_|refine AtT.ze ?_|(refine AtT.qE ?_)
 all_goals (refine AtT.qJ (d := 89) rfl ((show (!true) = false from rfl)) ?_)
 all_goals (refine AtT.zC ?_)
 all_goals refine AtT.done ?_
 all_goals (refine At.nrm ?_)
 all_goals refine At.qd rfl rfl ?_
 refine At.nrm ?_
 refine At.zh (.n false 0 (.q 1 .done)) ?_
 refine AtT.makeSl rfl trivial ei rfl Tryz.underlying28 rw2 rfl rfl (by decide) rfl rfl (by omega) (by omega) (by decide) (m := 8) (za := (0 : Int)) ?_
 intro b91
 refine AtT.zf ?_
 refine AtT.done ?_
 refine At.nrm ?_
 refine At.zh (.q 0 .done) ?_
 refine AtT.zf ?_
 refine AtT.done ?_
 refine At.nrm ?_
 have hub : ∀ s, s < 8 → 0 ≤ upd st g 0 s ∧ upd st g 0 s ≤ 24000 := fun s hs => by rw [jm]; split; omega; exact hsb s hs
 refine At.lp (ι := Nat) (KS := fun i => [(2, .int .u8 y8), (3, .int .u16 x), (4, .pointer (some ⟨b4, 0, none⟩)), (9, iv g), (10, iv N), (12, .slice a63 (Bk.stL st).length c63), (14, .slice a70 (Bk.stL fun y => 1 * jG b.rs g y).length c70), (16, .slice (some ⟨b91, 0, none⟩) 8 8), (17, iv i)]) (OS := fun i => [.blk b4 (LC [.slice z0 q0.length y0, .slice a0 b.es.length c0] 26), .blk b91 (LC (stC (rowJ b.rs (upd st g 0) i)) 2)]) (VS := fun i V' => Le V70 V' ∧ i ≤ 8) (μ := fun i => 8 - i) 0 ?_ ?_ ?_ ?_
 ·exact ⟨rfl, rfl, rfl, rfl, rfl, rfl, rfl, rfl, rfl, trivial⟩
 ·rw [rowJ_zero]; exact Pt.zJ
 ·exact ⟨Le.refl _, Nat.zero_le _⟩
 rintro i V1 ks' O' ⟨hVV, hi⟩ hk hO hl1
 subst hk hO
 refine At.nrm ?_
 refine At.zh (.q 0 (.q 1 (.q 2 (.q 3 .done)))) ?_
 refine AtT.zg ?_
 refine AtT.zg ?_
 refine AtT.zR Tryz.underlying28 ?_
 refine AtT.qB ?_
 rw [stL_len]
 refine AtT.done ?_
 refine At.nrm ?_
 refine At.qf rfl (fun hp => ?_) (fun hp => ?_)
 ·have hi8 : i < 8 := by omega
  obtain ⟨o1, o2⟩ := raw_ok hR.cr (g := (i : Int)) (c := 1) (by omega) (by decide)
  refine At.nrm ?_
  refine At.zh (.q 0 (.q 1 (.q 2 (.n false 3 (.q 4 (.q 5 (.q 6 (.q 7 (.q 8 .done))))))))) ?_
  first | refine AtT.zk zy ?_ | with_reducible refine AtT.zl zy ?_ | refine AtT.zn zy ?_
  first | refine AtT.zm qy ?_ | refine AtT.zo qy ?_
  refine AtT.zg ?_
  refine AtT.qa rfl rfl ok47 (made_f b.rs i 1 _ _ (hvr.le hVV)) ?_
  rintro _ V102 hV102 ⟨u102, rfl, h102⟩; rw [decide_eq_true o1]; rw [o2] at h102
  refine AtT.zg ?_
  refine AtT.zt ?_
  refine AtT.zt ?_
  refine AtT.zf ?_
  refine AtT.zf ?_
  refine AtT.done ?_
  refine At.nrm ?_
  obtain ⟨a102, c102, rfl, _, _, _, _⟩ := id h102
  have h63' := (h63.le hVV).le hV102
  refine At.zh (.q 0 (.q 1 .done)) ?_
  refine AtT.zg ?_
  refine AtT.qE ?_
  refine AtT.qJ (d := 106) rfl ((show (!true) = false from rfl)) ?_
  refine AtT.done ?_
  refine At.nrm ?_
  refine At.qd rfl rfl ?_
  refine At.nrm ?_
  refine At.zh (.q 0 .done) ?_
  refine AtT.zf ?_
  refine AtT.done ?_
  refine At.nrm ?_
  by_cases hig : (i : Int) = g
  ·have hsame : rowJ b.rs (upd st g 0) (i + 1) = rowJ b.rs (upd st g 0) i := funext fun y => by
    rw [rowJ_step, show i = g by omega, jm, if_pos rfl, Int.zero_mul, Int.add_zero]
   refine At.lp (ι := Unit) (KS := fun _ => [(2, .int .u8 y8), (3, .int .u16 x), (4, .pointer (some ⟨b4, 0, none⟩)), (9, iv g), (10, iv N), (12, .slice a63 (Bk.stL st).length c63), (14, .slice a70 (Bk.stL fun y => 1 * jG b.rs g y).length c70), (16, .slice (some ⟨b91, 0, none⟩) 8 8), (17, iv i)]) (OS := fun _ => [.blk b4 (LC [.slice z0 q0.length y0, .slice a0 b.es.length c0] 26), .blk b91 (LC (stC (rowJ b.rs (upd st g 0) i)) 2)]) (VS := fun _ V' => V' = V102) (μ := fun _ => 0) () ?_ ?_ ?_ ?_
   ·exact ⟨rfl, rfl, rfl, rfl, rfl, rfl, rfl, rfl, rfl, trivial⟩
   ·exact Pt.zJ
   ·exact rfl
   rintro - V2 ks' O' rfl hk hO hl2
   subst hk hO
   refine At.nrm ?_
   refine At.zh (.q 0 (.q 1 (.q 2 (.q 3 (.q 4 (.q 5 (.q 6 (.q 7 (.q 8 .done))))))))) ?_
   refine AtT.zg ?_
   refine AtT.zg ?_
   refine AtT.qH ?_
   refine AtT.zW (d := 109) rfl ((fun h => h hig)) ?_
   refine AtT.zg ?_
   all_goals (first | refine AtT.kL 110 ?_ | refine AtT.zB (d := 110) rfl (fun hg110 => ?_) (fun hg110 => ?_) | refine AtT.zA (d := 110) rfl (fun hg110 => ?_) (fun hg110 => ?_))
   all_goals first|refine AtT.zi ?_|refine AtT.ze ?_|(refine AtT.zg ?_)
   all_goals first|refine AtT.zi ?_|refine AtT.ze ?_|(refine AtT.zg ?_)
   all_goals first|refine AtT.zi ?_|refine AtT.ze ?_|(first | refine AtT.zS Tryz.underlying28 ?_ | refine AtT.zR Tryz.underlying28 ?_)
   all_goals first|refine AtT.zi ?_|refine AtT.ze ?_|(refine AtT.qB ?_)
   all_goals (refine AtT.zC ?_)
   all_goals refine AtT.done ?_
   all_goals (refine At.nrm ?_)
   all_goals refine At.qd rfl rfl ?_
   refine At.nrm ?_
   refine At.zh (.q 0 (.q 1 (.q 2 .done))) ?_
   refine AtT.zg ?_
   first | refine AtT.qN ?_ | refine AtT.qw ?_
   refine AtT.zf ?_
   refine AtT.done ?_
   refine At.nrm ?_
   refine At.round (i + 1) ?_ ?_ ?_ ?_
   ·show 8 - (i + 1) < 8 - i; omega
   ·exact ⟨hVV.trans hV102, by omega⟩
   ·exact ⟨rfl, rfl, rfl, rfl, rfl, rfl, rfl, rfl, ivs (by omega), trivial⟩
   ·rw [hsame]; exact Pt.zJ
  have hui : upd st g 0 i = st i := upd_st st g (by omega)
  refine At.lp (ι := Nat) (KS := fun k => [(2, .int .u8 y8), (3, .int .u16 x), (4, .pointer (some ⟨b4, 0, none⟩)), (9, iv g), (10, iv N), (12, .slice a63 (Bk.stL st).length c63), (14, .slice a70 (Bk.stL fun y => 1 * jG b.rs g y).length c70), (16, .slice (some ⟨b91, 0, none⟩) 8 8), (17, iv i), (18, .slice a102 (Bk.stL fun y => 1 * jG b.rs i y).length c102), (20, iv k)]) (OS := fun k => [.blk b4 (LC [.slice z0 q0.length y0, .slice a0 b.es.length c0] 26), .blk b91 (LC (stC (mixK (rowJ b.rs (upd st g 0) i) (rowJ b.rs (upd st g 0) (i + 1)) k)) 2)]) (VS := fun k V' => V' = V102 ∧ k ≤ 8) (μ := fun k => 8 - k) 0 ?_ ?_ ?_ ?_
  ·exact ⟨rfl, rfl, rfl, rfl, rfl, rfl, rfl, rfl, rfl, rfl, rfl, trivial⟩
  ·rw [mix_zero]; exact Pt.zJ
  ·exact ⟨rfl, Nat.zero_le _⟩
  rintro k V2 ks' O' ⟨rfl, hkl⟩ hk hO hl2
  subst hk hO
  refine At.nrm ?_
  by_cases hk8 : k < 8
  ·have hat := mix_cell (rowJ b.rs (upd st g 0) i) (rowJ b.rs (upd st g 0) (i + 1)) hk8
   have hset := mix_set (rowJ b.rs (upd st g 0) i) (rowJ b.rs (upd st g 0) (i + 1)) hk8
   rw [rowJ_step, hui] at hset
   have d1 := rowJ_bd hrs hub (i := i) k (by omega)
   have d2 := prod_bd hrs (hsb i hi8) (by decide) (g := (i : Int)) (by omega) (k : Int)
   have hS : ∀ e, (Bk.stL st)[(i : Int).toNat]? = some e → st i = e := fun e he => by rw [Int.toNat_natCast, stL_at _ hi8] at he; exact Option.some.inj he
   have hQ : ∀ e, (Bk.stL fun y => 1 * jG b.rs i y)[(k : Int).toNat]? = some e → jG b.rs i k = e := fun e he => by rw [Int.toNat_natCast, stL_at _ hk8, Int.one_mul] at he; exact Option.some.inj he
   refine At.zh (.q 0 (.q 1 (.q 2 (.q 3 (.q 4 (.q 5 (.q 6 (.q 7 (.q 8 .done))))))))) ?_
   refine AtT.zg ?_
   refine AtT.zg ?_
   refine AtT.qH ?_
   refine AtT.ql (d := 109) rfl (hig) ?_
   refine AtT.zg ?_
   all_goals (first | refine AtT.kL 110 ?_ | refine AtT.zB (d := 110) rfl (fun hg110 => ?_) (fun hg110 => ?_) | refine AtT.zA (d := 110) rfl (fun hg110 => ?_) (fun hg110 => ?_))
   all_goals first|refine AtT.zi ?_|refine AtT.ze ?_|(refine AtT.zg ?_)
   all_goals first|refine AtT.zi ?_|refine AtT.ze ?_|(refine AtT.zg ?_)
   all_goals first|refine AtT.zi ?_|refine AtT.ze ?_|(refine AtT.zR Tryz.underlying28 ?_)
   all_goals first|refine AtT.zi ?_|refine AtT.ze ?_|(refine AtT.qB ?_)
   all_goals (refine AtT.ql (d := 114) rfl ((by omega)) ?_)
   all_goals (refine AtT.zC ?_)
   all_goals refine AtT.done ?_
   all_goals (refine At.nrm ?_)
   all_goals refine At.qb rfl rfl ?_
   refine At.nrm ?_
   refine At.draw (.q 0 (.q 1 (.q 2 (.q 3 (.q 4 (.q 5 (.q 6 (.q 7 (.q 8 (.q 9 (.q 10 (.q 11 (.q 12 (.q 13 (.q 14 (.n true 15 .done)))))))))))))))) ffm (by kernel_rfl) ?_
   refine AtT.zg ?_
   refine AtT.zg ?_
   refine AtT.idxZ rfl trivial Tryz.underlying28 tk2 rfl rfl hk8 (by decide) ?_
   refine AtT.jK rfl trivial rfl tk2 zP.zJ hat (by decide) ?_
   refine AtT.zg ?_
   refine AtT.zg ?_
   refine AtT.idx rfl trivial Tryz.underlying28 tk2 rfl h63' rfl (by omega) (by rw [stL_len]; omega) (by decide) ?_
   intro p124 e124 he124 hc124
   obtain rfl := hS _ he124
   first | refine AtT.zm tk2 ?_ | refine AtT.zo tk2 ?_
   refine AtT.zg ?_
   refine AtT.zg ?_
   refine AtT.idx rfl trivial Tryz.underlying28 tk2 rfl h102 rfl (by omega) (by rw [stL_len]; omega) (by decide) ?_
   intro p128 e128 he128 hc128
   obtain rfl := hQ _ he128
   first | refine AtT.zm tk2 ?_ | refine AtT.zo tk2 ?_
   refine AtT.mul rfl trivial rfl rfl (by decide) (Fit.of (by omega) (by omega)) ?_
   refine AtT.add rfl trivial rfl rfl (by decide) (Fit.of (by omega) (by omega)) ?_
   refine AtT.idxZ rfl trivial Tryz.underlying28 tk2 rfl rfl hk8 (by decide) ?_
   refine AtT.jC rfl trivial rfl rfl tk2 rfl rfl (by repeat first|exact Upd.here|apply Upd.there) (qU (by rw [stC_len]; omega) hset) ?_
   refine AtT.done ?_
   refine At.nrm ?_
   refine At.nrm ?_
   refine At.zh (.q 0 (.q 1 (.q 2 .done))) ?_
   refine AtT.zg ?_
   first | refine AtT.qN ?_ | refine AtT.qw ?_
   refine AtT.zf ?_
   refine AtT.done ?_
   refine At.nrm ?_
   refine At.round (k + 1) ?_ ?_ ?_ ?_
   ·show 8 - (k + 1) < 8 - k; omega
   ·exact ⟨rfl, by omega⟩
   ·exact ⟨rfl, rfl, rfl, rfl, rfl, rfl, rfl, rfl, rfl, rfl, ivs (by omega), trivial⟩
   ·exact Pt.zJ
  obtain rfl : k = 8 := by omega
  rw [mix_all]
  refine At.zh (.q 0 (.q 1 (.q 2 (.q 3 (.q 4 (.q 5 (.q 6 (.q 7 (.q 8 .done))))))))) ?_
  refine AtT.zg ?_
  refine AtT.zg ?_
  refine AtT.qH ?_
  refine AtT.ql (d := 109) rfl (hig) ?_
  refine AtT.zg ?_
  all_goals (first | refine AtT.kL 110 ?_ | refine AtT.zB (d := 110) rfl (fun hg110 => ?_) (fun hg110 => ?_) | refine AtT.zA (d := 110) rfl (fun hg110 => ?_) (fun hg110 => ?_))
  all_goals first|refine AtT.zi ?_|refine AtT.ze ?_|(refine AtT.zg ?_)
  all_goals first|refine AtT.zi ?_|refine AtT.ze ?_|(refine AtT.zg ?_)
  all_goals first|refine AtT.zi ?_|refine AtT.ze ?_|(refine AtT.zR Tryz.underlying28 ?_)
  all_goals first|refine AtT.zi ?_|refine AtT.ze ?_|(refine AtT.qB ?_)
  all_goals (refine AtT.zW (d := 114) rfl ((by omega)) ?_)
  all_goals (refine AtT.zC ?_)
  all_goals refine AtT.done ?_
  all_goals (refine At.nrm ?_)
  all_goals refine At.qd rfl rfl ?_
  refine At.nrm ?_
  refine At.zh (.q 0 (.q 1 (.q 2 .done))) ?_
  refine AtT.zg ?_
  first | refine AtT.qN ?_ | refine AtT.qw ?_
  refine AtT.zf ?_
  refine AtT.done ?_
  refine At.nrm ?_
  refine At.round (i + 1) ?_ ?_ ?_ ?_
  ·show 8 - (i + 1) < 8 - i; omega
  ·exact ⟨hVV.trans hV102, by omega⟩
  ·exact ⟨rfl, rfl, rfl, rfl, rfl, rfl, rfl, rfl, ivs (by omega), trivial⟩
  ·exact Pt.zJ
 obtain rfl : i = 8 := by omega
 have h70' := h70.le hVV
 have hv' := hv.le hVV
 have hg' := hg.le hVV
 refine At.nrm ?_
 refine At.zh (.q 0 .done) ?_
 refine AtT.zf ?_
 refine AtT.done ?_
 refine At.nrm ?_
 refine At.lp (ι := Nat) (KS := fun k => [(2, .int .u8 y8), (3, .int .u16 x), (4, .pointer (some ⟨b4, 0, none⟩)), (9, iv g), (10, iv N), (14, .slice a70 (Bk.stL fun y => 1 * jG b.rs g y).length c70), (16, .slice (some ⟨b91, 0, none⟩) 8 8), (21, iv k)]) (OS := fun k => [.blk b4 (LC [.slice z0 q0.length y0, .slice a0 b.es.length c0] 26), .blk b91 (LC (stC (rowJ b.rs (upd st g 0) 8)) 2)]) (VS := fun k V' => V' = V1 ∧ k ≤ 8) (μ := fun k => 8 - k) 0 ?_ ?_ ?_ ?_
 ·exact ⟨rfl, rfl, rfl, rfl, rfl, rfl, rfl, rfl, trivial⟩
 ·exact Pt.zJ
 ·exact ⟨rfl, Nat.zero_le _⟩
 rintro k V2 ks' O' ⟨rfl, hkl⟩ hk hO hl2
 subst hk hO
 refine At.nrm ?_
 refine At.zh (.q 0 (.q 1 (.q 2 (.q 3 .done)))) ?_
 refine AtT.zg ?_
 refine AtT.zg ?_
 refine AtT.zR Tryz.underlying28 ?_
 refine AtT.qB ?_
 refine AtT.done ?_
 refine At.nrm ?_
 refine At.qf rfl (fun hp2 => ?_) (fun hp2 => ?_)
 ·have hk8 : k < 8 := by omega
  have hat : (stC (rowJ b.rs (upd st g 0) 8))[k * 1]? = some (iv (rowJ b.rs (upd st g 0) 8 k)) := by rw [Nat.mul_one, stC_at _ hk8]
  have hQ : ∀ e, (Bk.stL fun y => 1 * jG b.rs g y)[(k : Int).toNat]? = some e → jG b.rs g k = e := fun e he => by rw [Int.toNat_natCast, stL_at _ hk8, Int.one_mul] at he; exact Option.some.inj he
  have d2 := prod_bd hrs (a := (N : Int)) (m := 24000) (by omega) (by decide) (g := (g : Int)) (by omega) (k : Int)
  have d3 := hrow k
  refine At.nrm ?_
  refine At.draw (.q 0 (.q 1 (.q 2 (.q 3 (.q 4 (.q 5 (.q 6 (.q 7 (.q 8 (.q 9 (.q 10 .done))))))))))) ffm (by kernel_rfl) ?_
  refine AtT.zg ?_
  refine AtT.zg ?_
  refine AtT.zg ?_
  refine AtT.idx rfl trivial Tryz.underlying28 tk2 rfl h70' rfl (by omega) (by rw [stL_len]; omega) (by decide) ?_
  intro p142 e142 he142 hc142
  obtain rfl := hQ _ he142
  first | refine AtT.zm tk2 ?_ | refine AtT.zo tk2 ?_
  refine AtT.mul rfl trivial rfl rfl (by decide) (Fit.of (by omega) (by omega)) ?_
  refine AtT.zg ?_
  refine AtT.zg ?_
  refine AtT.idxZ rfl trivial Tryz.underlying28 tk2 rfl rfl hk8 (by decide) ?_
  refine AtT.jK rfl trivial rfl tk2 zP.zJ hat (by decide) ?_
  refine AtT.qM ?_
  refine AtT.zW (d := 149) rfl ((by omega)) ?_
  refine AtT.done ?_
  refine At.nrm ?_
  all_goals refine At.qd rfl rfl ?_
  refine At.nrm ?_
  refine At.zh (.q 0 (.q 1 (.q 2 .done))) ?_
  refine AtT.zg ?_
  first | refine AtT.qN ?_ | refine AtT.qw ?_
  refine AtT.zf ?_
  refine AtT.done ?_
  refine At.nrm ?_
  refine At.round (k + 1) ?_ ?_ ?_ ?_
  ·show 8 - (k + 1) < 8 - k; omega
  ·exact ⟨rfl, by omega⟩
  ·exact ⟨rfl, rfl, rfl, rfl, rfl, rfl, rfl, ivs (by omega), trivial⟩
  ·exact Pt.zJ
 refine At.nrm ?_
 refine At.cutG (ι := Unit) (fun _ => [(2, .int .u8 y8), (3, .int .u16 x), (4, .pointer (some ⟨b4, 0, none⟩)), (9, iv g), (10, iv N), (158, .bool false)]) (fun _ => [.blk b4 (LC [.slice z0 q0.length y0, .slice a0 b.es.length c0] 26)]) (fun _ V'' => Le V2 V'') ?_ ?_
 ·by_cases hN0 : (N : Int) > 0
  ·have hcan : canS b.rs (cutS st) g (N : Int) = true := by
    rcases hN2 with h | h
    ·omega
    ·exact h
   refine At.zh (.q 0 (.q 1 (.q 2 (.q 3 (.q 4 (.q 5 (.n false 6 (.q 7 (.q 8 .done))))))))) ?_
   refine AtT.zg ?_
   refine AtT.qM ?_
   refine AtT.ql (d := 151) rfl (hN0) ?_
   refine AtT.zg ?_
   all_goals (first | refine AtT.kL 152 ?_ | refine AtT.zB (d := 152) rfl (fun hg152 => ?_) (fun hg152 => ?_) | refine AtT.zA (d := 152) rfl (fun hg152 => ?_) (fun hg152 => ?_))
   all_goals first|refine AtT.zi ?_|refine AtT.ze ?_|(first | refine AtT.zG zQ ?_ | refine AtT.zK zQ ?_ | refine AtT.zF zQ ?_)
   all_goals first|refine AtT.zi ?_|refine AtT.ze ?_|(refine AtT.zg ?_)
   all_goals first|refine AtT.zi ?_|refine AtT.ze ?_|(refine AtT.zg ?_)
   all_goals first|refine AtT.qc ?_|refine AtT.zU ?_|((refine AtT.zI rfl rfl ok49 (enough_f b hR g hg8 N (by omega) st hst hcan _ _ hv') ?_) ; (rintro _ rfl))
   all_goals first|refine AtT.zi ?_|refine AtT.ze ?_|(refine AtT.qE ?_)
   all_goals (refine AtT.qJ (d := 157) rfl ((show (!true) = false from rfl)) ?_)
   all_goals (refine AtT.zC ?_)
   all_goals refine AtT.done ?_
   all_goals (refine At.nrm ?_)
   all_goals exact At.meetG () (Le.refl _) ⟨rfl, rfl, rfl, rfl, rfl, rfl, trivial⟩ Pt.zJ
  ·refine At.zh (.q 0 (.q 1 (.q 2 (.q 3 (.q 4 (.q 5 (.n false 6 (.q 7 (.q 8 .done))))))))) ?_
   refine AtT.zg ?_
   refine AtT.qM ?_
   refine AtT.zW (d := 151) rfl (hN0) ?_
   refine AtT.zg ?_
   all_goals (first | refine AtT.kL 152 ?_ | refine AtT.zB (d := 152) rfl (fun hg152 => ?_) (fun hg152 => ?_) | refine AtT.zA (d := 152) rfl (fun hg152 => ?_) (fun hg152 => ?_))
   all_goals first|refine AtT.zi ?_|refine AtT.ze ?_|(first | refine AtT.zG zQ ?_ | refine AtT.zK zQ ?_ | refine AtT.zF zQ ?_)
   all_goals first|refine AtT.zi ?_|refine AtT.ze ?_|(refine AtT.zg ?_)
   all_goals first|refine AtT.zi ?_|refine AtT.ze ?_|(refine AtT.zg ?_)
   all_goals first|refine AtT.qc ?_|refine AtT.zU ?_|((fail))
   all_goals first|refine AtT.zi ?_|refine AtT.ze ?_|(refine AtT.qE ?_)
   all_goals (refine AtT.zC ?_)
   all_goals refine AtT.done ?_
   all_goals (refine At.nrm ?_)
   all_goals exact At.meetG () (Le.refl _) ⟨rfl, rfl, rfl, rfl, rfl, rfl, trivial⟩ Pt.zJ
 rintro - V3 ks' O' hV3 hk hO hl3
 subst hk hO
 replace hv' := hv'.le hV3
 replace hg' := hg'.le hV3
 refine At.nrm ?_
 refine At.qd rfl rfl ?_
 refine At.nrm ?_
 obtain ⟨g2, hg28, hg2e⟩ := first_of hy8 7
 have hg2e' : y8.tmod 8 = (g2 : Int) := hg2e
 have hwy := wrap_u8 hy8
 obtain ⟨a, ha, hae⟩ := u16_of hx16 (m := 1000) (by decide)
 have hwa : IntKind.i64.wrap a = a := wrap_fit (Fit.of (by omega) (by omega))
 obtain ⟨hRx, hrx, hge2⟩ := in_right hR (e := ⟨999, 1, g2, 1 + a⟩) (by omega) rfl rfl (by dsimp only; omega) (by dsimp only; omega) hst
 have hx0 : bkE (withB b ⟨999, 1, g2, 1 + a⟩) = 0 := jZ.2 hRx
 obtain ⟨hA, hB⟩ := add_ok hb0 hx0
 refine At.cutG (ι := Nat × Option Addr × Nat × Nat × Option Addr × Nat) (fun z => [(9, iv g), (10, iv N), (11, iv 0), (22, .pointer (some ⟨z.1, 0, none⟩))]) (fun z => [.blk z.1 (LC [.slice z.2.1 z.2.2.1 z.2.2.2.1, .slice z.2.2.2.2.1 (withB b ⟨999, 1, g2, 1 + a⟩).es.length z.2.2.2.2.2] 26)]) (fun z V'' => Le V3 V'' ∧ BoV V'' (.agg #[.slice z.2.1 z.2.2.1 z.2.2.2.1, .slice z.2.2.2.2.1 (withB b ⟨999, 1, g2, 1 + a⟩).es.length z.2.2.2.2.2]) (withB b ⟨999, 1, g2, 1 + a⟩)) ?_ ?_
 ·refine At.draw (.q 0 (.q 1 (.q 2 (.q 3 (.q 4 (.q 5 (.q 6 (.q 7 (.two 8 (.two 9 (.q 10 (.q 11 (.q 12 (.n false 13 (.n false 14 (.q 15 .done)))))) 13 (.n false 9 (.q 10 (.q 11 (.q 12 (.n false 14 (.q 15 .done))))))) 13 (.n false 8 (.n false 9 (.q 10 (.q 11 (.q 12 (.n false 14 (.q 15 .done)))))))))))))))) ffm (by kernel_rfl) ?_
  refine AtC.start ?_
  refine AtC.pre (fun hle0 => ?_)
  refine AtC.kq (by (first | refine AtT.zG zQ ?_ | refine AtT.zK zQ ?_ | refine AtT.zF zQ ?_); exact At.knows) ?_
  refine AtC.kq (by (refine AtT.zg ?_); exact At.knows) ?_
  refine AtC.kq (by (refine AtT.kconv un5 Tryz.underlying3 ?_); exact At.knows) ?_
  rw [hwy]
  refine AtC.kq (by (refine AtT.krem ?_); exact At.knows) ?_
  rw [hg2e']
  refine AtC.kq (by (refine AtT.zg ?_); exact At.knows) ?_
  refine AtC.kq (by (refine AtT.krem ?_); exact At.knows) ?_
  rw [hae]
  refine AtC.kq (by (refine AtT.kconv un55 Tryz.underlying2 ?_); exact At.knows) ?_
  rw [hwa]
  refine AtC.kq (by (first | refine AtT.qN ?_ | refine AtT.qw ?_); exact At.knows) ?_
  refine AtC.two ?_ ?_
  focus
   refine AtC.nz ?_
   refine AtT.zI rfl rfl ok44 (ji 999 1 g2 (1 + a) _) ?_
   rintro _ rfl
   refine AtC.kgo ?_
   refine AtC.two ?_ ?_
   focus
    refine AtC.nz ?_
    refine AtT.qa rfl rfl ok25 (jP b ⟨999, 1, g2, 1 + a⟩ _ _ hv') ?_
    rintro _ V169 hV169 ⟨u169, rfl, h169⟩; rw [hA]; rw [hB] at h169; obtain ⟨w169, a169, c169, rfl, ⟨q169, z169, y169, e169, rfl, i169, j169⟩, s169⟩ := id h169; clear e169 i169 j169 s169
    refine AtC.kgo ?_
    refine AtC.kq (by (refine AtT.zg ?_); exact At.knows) ?_
    refine AtC.kq (by (refine AtT.zt ?_); exact At.knows) ?_
    refine AtC.kq (by (refine AtT.zt ?_); exact At.knows) ?_
    refine AtC.nz ?_
    refine AtT.zT z26 ?_
    intro b22
    refine AtC.kgo ?_
    refine AtC.nz ?_
    refine AtT.zD zQ ?_
    refine AtC.kgo ?_
    refine AtC.kq (by (refine AtT.zf ?_); exact At.knows) ?_
    refine AtC.done ?_
   rotate_right
   focus
    refine AtC.nz ?_
    refine AtT.zT z26 ?_
    intro b22
    refine AtC.kgo ?_
    refine AtC.nz ?_
    refine AtT.qa rfl rfl ok25 (jP b ⟨999, 1, g2, 1 + a⟩ _ _ hv') ?_
    rintro _ V169 hV169 ⟨u169, rfl, h169⟩; rw [hA]; rw [hB] at h169; obtain ⟨w169, a169, c169, rfl, ⟨q169, z169, y169, e169, rfl, i169, j169⟩, s169⟩ := id h169; clear e169 i169 j169 s169
    refine AtC.kgo ?_
    refine AtC.kq (by (refine AtT.zg ?_); exact At.knows) ?_
    refine AtC.kq (by (refine AtT.zt ?_); exact At.knows) ?_
    refine AtC.kq (by (refine AtT.zt ?_); exact At.knows) ?_
    refine AtC.nz ?_
    refine AtT.zD zQ ?_
    refine AtC.kgo ?_
    refine AtC.kq (by (refine AtT.zf ?_); exact At.knows) ?_
    refine AtC.done ?_
  rotate_right
  focus
   refine AtC.nz ?_
   refine AtT.zT z26 ?_
   intro b22
   refine AtC.kgo ?_
   refine AtC.nz ?_
   refine AtT.zI rfl rfl ok44 (ji 999 1 g2 (1 + a) _) ?_
   rintro _ rfl
   refine AtC.kgo ?_
   refine AtC.nz ?_
   refine AtT.qa rfl rfl ok25 (jP b ⟨999, 1, g2, 1 + a⟩ _ _ hv') ?_
   rintro _ V169 hV169 ⟨u169, rfl, h169⟩; rw [hA]; rw [hB] at h169; obtain ⟨w169, a169, c169, rfl, ⟨q169, z169, y169, e169, rfl, i169, j169⟩, s169⟩ := id h169; clear e169 i169 j169 s169
   refine AtC.kgo ?_
   refine AtC.kq (by (refine AtT.zg ?_); exact At.knows) ?_
   refine AtC.kq (by (refine AtT.zt ?_); exact At.knows) ?_
   refine AtC.kq (by (refine AtT.zt ?_); exact At.knows) ?_
   refine AtC.nz ?_
   refine AtT.zD zQ ?_
   refine AtC.kgo ?_
   refine AtC.kq (by (refine AtT.zf ?_); exact At.knows) ?_
   refine AtC.done ?_
  all_goals (refine At.nrm ?_)
  all_goals exact At.meetG (b22, z169, q169.length, y169, a169, c169) ⟨hV169, h169⟩ ⟨rfl, rfl, rfl, rfl, trivial⟩ Pt.zJ
 rintro ⟨b22, z22, n22, y22, a22, c22⟩ V4 ks' O' ⟨hV4, h169⟩ hk hO hl4
 dsimp only at hk hO h169
 subst hk hO
 replace hg' := hg'.le hV4
 refine At.nrm ?_
 refine At.zh (.q 0 (.q 1 (.q 2 (.q 3 (.n false 4 (.q 5 (.q 6 .done))))))) ?_
 refine AtT.zg ?_
 refine AtT.qH ?_
 refine AtT.zW (d := 173) rfl ((fun h => h rfl)) ?_
 refine AtT.zg ?_
 all_goals (first | refine AtT.kL 174 ?_ | refine AtT.zB (d := 174) rfl (fun hg174 => ?_) (fun hg174 => ?_) | refine AtT.zA (d := 174) rfl (fun hg174 => ?_) (fun hg174 => ?_))
 all_goals first|refine AtT.zi ?_|refine AtT.ze ?_|(first | refine AtT.zG zQ ?_ | refine AtT.zK zQ ?_ | refine AtT.zF zQ ?_)
 all_goals first|refine AtT.qc ?_|refine AtT.zU ?_|((refine AtT.zI rfl rfl ok28 (rcheckBook_f (withB b ⟨999, 1, g2, 1 + a⟩) _ _ h169) ?_) ; (rintro _ rfl; rw [hx0]))
 all_goals first|refine AtT.zi ?_|refine AtT.ze ?_|(refine AtT.qH ?_)
 all_goals (refine AtT.zW (d := 177) rfl ((fun h => h rfl)) ?_)
 all_goals (refine AtT.zC ?_)
 all_goals refine AtT.done ?_
 all_goals (refine At.nrm ?_)
 all_goals refine At.qd rfl rfl ?_
 refine At.nrm ?_
 have hpx : partsOf (withB b ⟨999, 1, g2, 1 + a⟩).rs (g : Int) ≠ [] := hp0
 have hEx : mostE (withB b ⟨999, 1, g2, 1 + a⟩) g = 0 := by unfold mostE; rw [if_neg (by rw [hx0]; simp), if_neg (by omega), if_neg hpx]
 have hFx : stkF (withB b ⟨999, 1, g2, 1 + a⟩) (withB b ⟨999, 1, g2, 1 + a⟩).es.length 999 = stB b.rs ⟨999, 1, g2, 1 + a⟩ st := stkF_some (by
  rw [show (withB b ⟨999, 1, g2, 1 + a⟩).es.length = b.es.length + 1 by simp [withB]]; exact hrx)
 have hMx : mostV (withB b ⟨999, 1, g2, 1 + a⟩) g = (mostS b.rs (cutS (stB b.rs ⟨999, 1, g2, 1 + a⟩ st)) g : Int) := by unfold mostV; rw [if_neg (by rw [hEx]; decide), hFx, Int.toNat_natCast]; rfl
 have hNx := hmono (cutS (stB b.rs ⟨999, 1, g2, 1 + a⟩ st)) (fun s => by
  unfold cutS; split
  ·exact hge2 s
  ·exact Int.le_refl _)
 refine At.zh (.q 0 (.q 1 (.n false 2 (.q 3 (.q 4 (.q 5 (.q 6 (.q 7 .done)))))))) ?_
 first | refine AtT.zG zQ ?_ | refine AtT.zK zQ ?_ | refine AtT.zF zQ ?_
 refine AtT.zg ?_
 refine AtT.zI rfl rfl ok33 (pmost_f (withB b ⟨999, 1, g2, 1 + a⟩) g _ _ h169) ?_
 rintro _ rfl; rw [hMx, hEx]
 refine AtT.zg ?_
 refine AtT.zt ?_
 refine AtT.zt ?_
 refine AtT.zf ?_
 refine AtT.zf ?_
 refine AtT.done ?_
 refine At.nrm ?_
 refine At.zh (.q 0 (.q 1 (.q 2 (.q 3 (.q 4 (.q 5 (.q 6 (.q 7 (.n false 8 (.q 9 (.q 10 .done))))))))))) ?_
 refine AtT.zg ?_
 refine AtT.qL ?_
 refine AtT.ql (d := 186) rfl (rfl) ?_
 refine AtT.zg ?_
 all_goals (first | refine AtT.kL 187 ?_ | refine AtT.zB (d := 187) rfl (fun hg187 => ?_) (fun hg187 => ?_) | refine AtT.zA (d := 187) rfl (fun hg187 => ?_) (fun hg187 => ?_))
 all_goals first|refine AtT.zi ?_|refine AtT.ze ?_|(refine AtT.zg ?_)
 all_goals first|refine AtT.zi ?_|refine AtT.ze ?_|(refine AtT.zg ?_)
 all_goals first|refine AtT.zi ?_|refine AtT.ze ?_|(refine AtT.kgeq ?_)
 all_goals (refine AtT.ql (d := 190) rfl ((by omega)) ?_)
 all_goals (refine AtT.zC ?_)
 all_goals (refine AtT.zg ?_)
 all_goals (first | refine AtT.kL 192 ?_ | refine AtT.zB (d := 192) rfl (fun hg192 => ?_) (fun hg192 => ?_) | refine AtT.zA (d := 192) rfl (fun hg192 => ?_) (fun hg192 => ?_))
 all_goals first|refine AtT.qc ?_|refine AtT.zU ?_|((refine AtT.zI rfl rfl ok17 (works_f _ hg') ?_) ; (rintro _ rfl))
 all_goals (refine AtT.zC ?_)
 all_goals (refine AtT.zf ?_)
 all_goals refine AtT.done ?_
 all_goals (refine At.nrm ?_)
 all_goals (exact At.qi rfl (.tmp rfl) rfl)
end Go.Proofs.YtpoignmclfdgpaaGreatDoor
