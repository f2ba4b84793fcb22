/- Texts that the last one of this claim imports. -/
import Derived.Test.YtpoignmclfdgpaaGreatDoorB6
set_option linter.unusedVariables false
set_option linter.unusedSimpArgs false
set_option linter.unusedSectionVars false

set_option linter.unusedVariables false
namespace Go.Bk
open Go.Lw Go.Gl
theorem goneK_congr {es es' : List En} {first : Nat} (h : ∀ i, i < first → enA es i = enA es' i) : ∀ {k : Nat} {s : Nat}, k ≤ first → qW es first k s = qW es' first k s
 | 0, s, _ => rfl
 | k + 1, s, hk => by
  simp only [qW]
  rw [goneK_congr h (k := k) (s := s) (by omega), goneK_congr h (k := k) (s := first - 1 - k) (by omega), h (first - 1 - k) (by omega)]
theorem cntS_congr {es es' : List En} {first : Nat} (h : ∀ i, i < first → enA es i = enA es' i) : cntS es first = cntS es' first := by
 unfold cntS gone
 exact List.filter_congr fun i _ => by rw [goneK_congr h (Nat.le_refl _)]
theorem runS_congr {rs : List Rc} {es es' : List En} {first : Nat} (h : ∀ i, i < first → enA es i = enA es' i) (day : Int) : runS rs es first day = runS rs es' first day := by
 unfold runS
 rw [cntS_congr h, List.map_congr_left fun i hi => h i (cntS_lt hi)]
theorem enA_take {es : List En} {i n : Nat} (h : i < n) : enA (es.take n) i = enA es i := by
 unfold enA List.getD; rw [List.getElem?_take, if_pos h]
def lastD (last : Int) : List En → Int
 | [] => last
 | e :: es => lastD e.d es
theorem ens_take {rs : List Rc} : ∀ {es : List En} {index last : Int} (n : Nat), EnsOk rs index last es → EnsOk rs index last (es.take n)
 | [], _, _, n, h => by rw [List.take_nil]; exact h
 | e :: es, _, _, 0, h => .nil _ _
 | e :: es, _, _, n + 1, h => by
  cases h with
  | cons h1 h2 => exact .cons h1 (ens_take n h2)
theorem lastD_bd {rs : List Rc} : ∀ {es : List En} {index last : Int}, EnsOk rs index last es → (0 ≤ last ∧ last ≤ 999) → 0 ≤ lastD last es ∧ lastD last es ≤ 999
 | [], _, _, _, h => h
 | e :: es, _, _, h, hl => by
  cases h with
  | cons h1 h2 => show 0 ≤ lastD e.d es ∧ lastD e.d es ≤ 999; exact lastD_bd h2 h1.d
theorem Right.ens {b : Bo} (h : Right b) : EnsOk b.rs 0 0 b.es := entsE_iff.1 h.en
theorem Right.last {b : Bo} (h : Right b) : 0 ≤ lastD 0 b.es ∧ lastD 0 b.es ≤ 999 := lastD_bd h.ens (by decide)
theorem Right.take {b : Bo} (h : Right b) (n : Nat) : Right ⟨b.rs, b.es.take n⟩ := by
 refine ⟨h.cr, ?_, entsE_iff.2 (ens_take n h.ens), fun k hk => ?_⟩
 ·have := h.len; simp only [List.length_take]; omega
 ·simp only [List.length_take] at hk
  show (runS b.rs (b.es.take n) (k + 1) 999).isSome = true
  rw [runS_congr (es' := b.es) (fun i hi => enA_take (by omega))]
  exact h.run k (by omega)
end Go.Bk
set_option linter.unusedVariables false
namespace Go.Bk
open Go.Lw Go.Gl
def netR (rs : List Rc) (day : Int) (y : Int) (e : En) : Int := if day < e.d then 0 else if e.k = 1 then e.n * ja rs e.t y else if e.k = 2 then - (e.n * ja rs e.t y) else 0
theorem kept {b : Bo} (hb : Right b) {first : Nat} (hf : first ≤ b.es.length) {day : Int} {st : Nat → Int} (hst : runS b.rs b.es first day = some st) (y : Nat) :
  ji st (fun s => ja b.rs s y) 8 = ((cntS b.es first).map fun i => netR b.rs day y (enA b.es i)).sum := by
 have hg := hb.bog
 have hin : ∀ e ∈ (cntS b.es first).map (enA b.es), ∃ k l, EnOk b.rs e k l := fun e he => by
  obtain ⟨i, hi, rfl⟩ := List.mem_map.1 he
  have hx := List.getElem?_eq_getElem (l := b.es) (i := i) (by have := cntS_lt hi; omega)
  rw [enA_at hx]
  obtain ⟨l, h1, _⟩ := ensOk_at hb.ens hx
  exact ⟨_, l, h1⟩
 unfold runS at hst
 rw [run_dot hg.rs (r := fun s => ja b.rs s y) (fun e he h4 => by
  obtain ⟨k, l, h⟩ := hin e he
  exact ⟨(h.th h4).1, (h.th h4).2.1⟩) hst, dot_zero, Int.zero_add, List.map_map]
 refine sum_congr fun i hi => ?_
 obtain ⟨k, l, h⟩ := hin _ (List.mem_map.2 ⟨i, hi, rfl⟩)
 show (if day < (enA b.es i).d then 0 else addR (enA b.es i) (fun s => ja b.rs s y) - takeR b.rs (enA b.es i) (fun s => ja b.rs s y)) = netR b.rs day y (enA b.es i)
 generalize enA b.es i = e at h
 show (if day < e.d then 0 else addR e (fun s => ja b.rs s y) - takeR b.rs e (fun s => ja b.rs s y)) = netR b.rs day y e
 unfold netR addR takeR
 have hk := h.k
 by_cases hd : day < e.d
 ·rw [if_pos hd, if_pos hd]
 rw [if_neg hd, if_neg hd]
 have ht : e.k ≠ 4 → ((e.t.toNat : Nat) : Int) = e.t := fun h4 => Int.toNat_of_nonneg (h.th h4).1
 by_cases k1 : e.k = 1
 ·rw [if_pos (.inl k1), if_neg (by omega), if_neg (by omega), if_pos k1]
  dsimp only
  rw [ht (by omega)]; omega
 by_cases k2 : e.k = 2
 ·rw [if_neg (by omega), if_pos k2, if_neg k1, if_pos k2]
  dsimp only
  rw [ht (by omega)]; omega
 by_cases k3 : e.k = 3
 ·rw [if_pos (.inr k3), if_neg k2, if_pos k3, if_neg k1, if_neg k2]
  dsimp only
  rw [ht (by omega), rawO_made hg.rs (h.th (by omega)).2.1 (h.made k3)]
  have e1 : ((partsOf b.rs e.t).map fun p => e.n * p.n * ja b.rs (p.t.toNat : Int) y).sum = ((partsOf b.rs e.t).map fun p => e.n * (p.n * ja b.rs p.t y)).sum := sum_congr fun p hp => by
   have := qj hg.rs hp
   rw [Int.toNat_of_nonneg this.1, Int.mul_assoc]
  rw [e1, sum_mul]; omega
 ·rw [if_neg (by omega), if_neg k2, if_neg k3, if_neg k1, if_neg k2]; rfl
end Go.Bk
set_option linter.unusedVariables false
namespace Go.Proofs.YtpoignmclfdgpaaGreatDoor
open Go.Lw Go.Gl Go.Bk Go.RowKit
theorem fine_ok {b : Bo} (h : (!grB b && decide (bkE b = 0)) = true) : grB b = false ∧ bkE b = 0 := by
 simpa using h
abbrev bX (b : Bo) (e : En) : Bo := withB b e
abbrev bY (b : Bo) (e : En) : Bo := withB (bX b e) ⟨e.d, 4, b.es.length, 0⟩
abbrev bZ (b : Bo) (e : En) : Bo := withB (bY b e) ⟨e.d, 4, (b.es.length : Int) + 1, 0⟩
structure TkL (b : Bo) (e : En) (d : Int) : Prop where
 y : bkE (bY b e) = 0
 z : bkE (bZ b e) = 0
 k1 : kg b b.es.length d = 0
 k2 : kg (bX b e) ((b.es.length : Int) + 1) d = 0
 k3 : kg (bY b e) ((b.es.length : Int) + 2) d = 0
 k4 : kg (bZ b e) ((b.es.length : Int) + 3) d = 0
 k5 : kg (bZ b e) b.es.length d = 0
 k6 : kg (bZ b e) ((b.es.length : Int) + 2) d = 0
 l1 : jZ b b.es.length d = jZ (bY b e) ((b.es.length : Int) + 2) d
 l2 : jZ (bX b e) ((b.es.length : Int) + 1) d = jZ (bZ b e) ((b.es.length : Int) + 3) d
 l3 : jZ b b.es.length d = jZ (bZ b e) b.es.length d
 l4 : jZ (bZ b e) ((b.es.length : Int) + 2) d = jZ (bY b e) ((b.es.length : Int) + 2) d
end Go.Proofs.YtpoignmclfdgpaaGreatDoor

set_option linter.unusedVariables false
namespace Go.Proofs.YtpoignmclfdgpaaGreatDoor
open Go.Lw Go.Gl Go.Bk Go.RowKit
theorem first_of {x : Int} (h : 0 ≤ x ∧ x ≤ 255) (n : Nat) : ∃ f : Nat, f ≤ n ∧ x.tmod ((n : Int) + 1) = (f : Int) := by
 have h1 := Int.emod_nonneg x (show ((n : Int) + 1) ≠ 0 by omega)
 have h2 := Int.emod_lt_of_pos x (show 0 < ((n : Int) + 1) by omega)
 exact ⟨(x % ((n : Int) + 1)).toNat, by omega, by rw [Int.tmod_eq_emod_of_nonneg h.1, Int.toNat_of_nonneg h1]⟩
end Go.Proofs.YtpoignmclfdgpaaGreatDoor




set_option linter.unusedVariables false
namespace Go.Bk
open Go.Lib
theorem read_tail {B T : List UInt8} (hT : T.length = 15) (h : (loadR (B ++ T)).2 = 0) : T = tailT B := by
 obtain ⟨h1, _, _⟩ := load_print h
 unfold kJ at h1
 have hl := congrArg List.length h1
 rw [List.length_append, List.length_append, tailT_len, hT] at hl
 obtain ⟨e1, e2⟩ := List.append_inj h1 (by omega)
 rw [← e1]; exact e2.symm
theorem tail_inj {s t : List UInt8} (h : tailT s = tailT t) : chk s = chk t := by
 unfold tailT at h
 have h1 := List.append_cancel_right h
 exact List.append_cancel_left h1
theorem byte_at {l : List UInt8} {i : Nat} (h : i < l.length) : l = l.take i ++ l[i] :: l.drop (i + 1) := by
 rw [← List.drop_eq_getElem_cons h, List.take_append_drop]
def oneT (f : List UInt8) (i : Nat) (w : UInt8) : List UInt8 := f.take i ++ w :: f.drop (i + 1)
theorem one_bad {B : List UInt8} {i : Nat} (hi : i < (B ++ tailT B).length) {w : UInt8} (hne : oneT (B ++ tailT B) i w ≠ B ++ tailT B) : (loadR (oneT (B ++ tailT B) i w)).2 ≠ 0 := fun h => by
 by_cases c : i < B.length
 ·have e : oneT (B ++ tailT B) i w = (B.take i ++ w :: B.drop (i + 1)) ++ tailT B := by
   unfold oneT
   rw [List.take_append_of_le_length (by omega), List.drop_append_of_le_length (by omega), List.append_assoc]; rfl
  rw [e] at h hne
  have h1 := tail_inj (read_tail (tailT_len _) h)
  have hb := byte_at c
  by_cases e2 : B[i] = w
  ·apply hne; rw [← e2, ← hb]
  ·have h2 := chk_byte (u := B.take i) (v := B.drop (i + 1)) e2
   rw [← hb] at h2
   exact h2 h1
 ·have hl : (tailT B).length = 15 := tailT_len _
  rw [List.length_append] at hi
  have e : oneT (B ++ tailT B) i w = B ++ ((tailT B).take (i - B.length) ++ w :: (tailT B).drop (i - B.length + 1)) := by
   unfold oneT
   rw [List.take_append, List.drop_append, List.take_of_length_le (by omega), List.drop_eq_nil_of_le (by omega), show i + 1 - B.length = i - B.length + 1 by omega, List.append_assoc]; rfl
  rw [e] at h hne
  have h1 := read_tail (by rw [List.length_append, List.length_cons, List.length_take, List.length_drop]; omega) h
  apply hne
  rw [h1]
def twoT (f : List UInt8) (i : Nat) (a b : UInt8) : List UInt8 := f.take i ++ b :: a :: f.drop (i + 2)
theorem pair_at {l : List UInt8} {i : Nat} (h : i + 1 < l.length) : l = l.take i ++ l[i] :: l[i + 1] :: l.drop (i + 2) := by
 rw [← List.drop_eq_getElem_cons h, ← List.drop_eq_getElem_cons (by omega : i < l.length), List.take_append_drop]
theorem tailT_head (s : List UInt8) : ∃ r, tailT s = 99 :: r := ⟨_, rfl⟩
theorem two_bad {b : Bo} {B : List UInt8} (hB : ∀ x xs, B = xs ++ [x] → x = 10) {i : Nat} {x y : UInt8} (hx : (B ++ tailT B)[i]? = some x) (hy : (B ++ tailT B)[i + 1]? = some y) (hne : x ≠ y) : (loadR (twoT (B ++ tailT B) i x y)).2 ≠ 0 := fun h => by
 have hl : (tailT B).length = 15 := tailT_len _
 have hi : i + 1 < (B ++ tailT B).length := (List.getElem?_eq_some_iff.1 hy).1
 rw [List.length_append] at hi
 by_cases c : i + 1 < B.length
 ·rw [List.getElem?_append_left (by omega), List.getElem?_eq_getElem (by omega)] at hx hy
  have hx := Option.some.inj hx
  have hy := Option.some.inj hy
  have e : twoT (B ++ tailT B) i x y = (B.take i ++ y :: x :: B.drop (i + 2)) ++ tailT B := by
   unfold twoT
   rw [List.take_append_of_le_length (by omega), List.drop_append_of_le_length (by omega), List.append_assoc]; rfl
  rw [e] at h
  have h1 := tail_inj (read_tail (tailT_len _) h)
  have hb := pair_at c
  rw [hx, hy] at hb
  have h2 := chk_swap (u := B.take i) (v := B.drop (i + 2)) hne
  rw [← hb] at h2
  exact h2 h1
 by_cases c2 : i < B.length
 ·-- the last byte of the lines, and the first of the check
  have hiB : i + 1 = B.length := by omega
  rw [List.getElem?_append_left (by omega), List.getElem?_eq_getElem (by omega)] at hx
  have hx := Option.some.inj hx
  obtain ⟨r, hr⟩ := tailT_head B
  have hBx : B = B.take i ++ [x] := by
   have := byte_at c2
   rw [hx, hiB, List.drop_length] at this; exact this
  have hx10 : x = 10 := hB _ _ hBx
  have e : twoT (B ++ tailT B) i x y = (B.take i ++ [y]) ++ (x :: (tailT B).drop 1) := by
   unfold twoT
   rw [List.take_append_of_le_length (by omega), List.drop_append, List.drop_eq_nil_of_le (by omega), show i + 2 - B.length = 1 by omega, List.append_assoc]; rfl
  rw [e] at h
  have h1 := read_tail (by rw [List.length_cons, List.length_drop, hl]) h
  obtain ⟨r2, hr2⟩ := tailT_head (B.take i ++ [y])
  rw [hr2] at h1
  have := (List.cons.inj h1).1
  rw [hx10] at this
  exact absurd this (by decide)
 ·rw [List.getElem?_append_right (by omega), List.getElem?_eq_getElem (by omega)] at hx hy
  have hx := Option.some.inj hx
  have hy := Option.some.inj hy
  have e : twoT (B ++ tailT B) i x y = B ++ ((tailT B).take (i - B.length) ++ y :: x :: (tailT B).drop (i - B.length + 2)) := by
   unfold twoT
   rw [List.take_append, List.drop_append, List.take_of_length_le (by omega), List.drop_eq_nil_of_le (by omega), show i + 2 - B.length = i - B.length + 2 by omega, List.append_assoc]; rfl
  rw [e] at h
  have h1 := read_tail (by rw [List.length_append, List.length_cons, List.length_cons, List.length_take, List.length_drop]; omega) h
  have h2 := congrArg (·[i - B.length]?) h1
  rw [List.getElem?_append_right (by rw [List.length_take]; omega), List.length_take, Nat.min_eq_left (by omega), Nat.sub_self, List.getElem?_cons_zero, List.getElem?_eq_getElem (by omega), hx] at h2
  exact hne (Option.some.inj h2).symm
theorem nlT_last : ∀ (ls : List (List UInt8)) (x : UInt8) (xs : List UInt8), nlT ls = xs ++ [x] → x = 10 := fun ls x xs h => by
 rcases List.eq_nil_or_concat ls with rfl | ⟨l, a, rfl⟩
 ·simp [nlT] at h
 ·have e : nlT (l.concat a) = (nlT l ++ a) ++ [10] := by simp [nlT]
  rw [e] at h
  have := (List.append_inj_right' h rfl)
  simpa using this.symm
theorem one_chk {f : List UInt8} {i : Nat} (hi : i < f.length) {w : UInt8} : chk f = chk (oneT f i w) ↔ oneT f i w = f := by
 have hb := byte_at hi
 constructor
 ·intro h
  by_cases e : f[i] = w
  ·unfold oneT; rw [← e, ← hb]
  ·have := chk_byte (u := f.take i) (v := f.drop (i + 1)) e
   rw [← hb] at this
   exact absurd h this
 ·intro h; rw [h]
theorem two_chk {f : List UInt8} {i : Nat} {x y : UInt8} (hx : f[i]? = some x) (hy : f[i + 1]? = some y) (hne : x ≠ y) : chk f ≠ chk (twoT f i x y) := by
 have hi : i + 1 < f.length := (List.getElem?_eq_some_iff.1 hy).1
 rw [List.getElem?_eq_getElem (by omega)] at hx hy
 have hx := Option.some.inj hx
 have hy := Option.some.inj hy
 have hb := pair_at hi
 rw [hx, hy] at hb
 have := chk_swap (u := f.take i) (v := f.drop (i + 2)) hne
 rw [← hb] at this
 exact this
theorem one_len {f : List UInt8} {i : Nat} (hi : i < f.length) {w : UInt8} : (oneT f i w).length = f.length := by
 unfold oneT; simp; omega
theorem two_len {f : List UInt8} {i : Nat} (hi : i + 1 < f.length) {x y : UInt8} : (twoT f i x y).length = f.length := by
 unfold twoT; simp; omega
theorem two_same {f : List UInt8} {i : Nat} {x y : UInt8} (hx : f[i]? = some x) (hy : f[i + 1]? = some y) : twoT f i x y = f ↔ x = y := by
 have hi : i + 1 < f.length := (List.getElem?_eq_some_iff.1 hy).1
 rw [List.getElem?_eq_getElem (by omega)] at hx hy
 have hx := Option.some.inj hx
 have hy := Option.some.inj hy
 have hb := pair_at hi
 rw [hx, hy] at hb
 constructor
 ·intro h
  unfold twoT at h
  conv at h => rhs; rw [hb]
  have := List.append_cancel_left h
  exact (List.cons.inj this).1.symm
 ·rintro rfl
  unfold twoT; rw [← hb]
end Go.Bk
set_option linter.unusedVariables false
namespace Go.Proofs.YtpoignmclfdgpaaGreatDoor
open Go.Lw Go.Gl Go.Bk Go.RowKit
theorem one_eq (f : List UInt8) (i : Nat) (w : UInt8) : f.take i ++ [w] ++ f.drop (i + 1) = oneT f i w := by unfold oneT; simp
theorem two_eq {f : List UInt8} {i : Nat} {x y : UInt8} (hx : f[i]? = some x) (hy : f[i + 1]? = some y) : f.take i ++ (f.take (i + 2)).drop (i + 1) ++ (f.take (i + 1)).drop i ++ f.drop (i + 2) = twoT f i x y := by
 have h1 : (f.take (i + 2)).drop (i + 1) = [y] := by
  rw [List.take_add_one, List.drop_append, hy]
  have hi : i + 1 < f.length := (List.getElem?_eq_some_iff.1 hy).1
  rw [List.drop_eq_nil_of_le (by rw [List.length_take]; omega), List.length_take, Nat.min_eq_left (by omega), Nat.sub_self]; rfl
 have h2 : (f.take (i + 1)).drop i = [x] := by
  have hi : i < f.length := (List.getElem?_eq_some_iff.1 hx).1
  rw [List.take_add_one, List.drop_append, hx]
  rw [List.drop_eq_nil_of_le (by rw [List.length_take]; omega), List.length_take, Nat.min_eq_left (by omega), Nat.sub_self]; rfl
 rw [h1, h2]; unfold twoT; simp
theorem place_of {x : Int} (h : 0 ≤ x ∧ x ≤ 65535) {L : Nat} (hL : 1 ≤ L) : ∃ i : Nat, i < L ∧ x.tmod (L : Int) = (i : Int) := by
 have h1 := Int.emod_nonneg x (show (L : Int) ≠ 0 by omega)
 have h2 := Int.emod_lt_of_pos x (show 0 < (L : Int) by omega)
 exact ⟨(x % (L : Int)).toNat, by omega, by rw [Int.tmod_eq_emod_of_nonneg h.1, Int.toNat_of_nonneg h1]⟩
set_option maxHeartbeats 1600000 in
theorem bookChanged_f (b : Bo) (x x8 : Int) (hx16 : 0 ≤ x ∧ x ≤ 65535) (hx8 : 0 ≤ x8 ∧ x8 ≤ 255) (V : View) (hg : GvV V) (v : Value) (hv : BoV V v b) : Fnc Tryz.prog 14 [v, .int .u16 x, .int .u8 x8] V fun r _ => r = .bool true := by
 obtain ⟨w0, a0, c0, rfl, ⟨q0, z0, y0, e0, rfl, i0, j0⟩, s0⟩ := id hv
 clear e0 i0 j0 s0
 refine qh Tryz.func14 rfl Tryz.ntmps14 (Nat.le_of_ble_eq_true rfl) ?_
 intro w0 hw0
 refine At.nrm ?_
 refine At.zh (.n false 0 (.q 1 .done)) ?_
 refine AtT.jd ?_
 intro b3
 refine AtT.ze ?_
 refine AtT.done ?_
 refine At.nrm ?_
 cases hfine : (!grB b && decide (bkE b = 0)) with
 | false =>
  refine At.zh (.q 0 (.n false 1 (.q 2 .done))) ?_
  first | refine AtT.zD zK ?_ | refine AtT.zI zK ?_ | refine AtT.zC zK ?_
  refine AtT.zG rfl rfl ok41 (fine_f b _ _ hv) ?_
  rintro _ rfl
  refine AtT.qM (d := 21) rfl (hfine) ?_
  refine AtT.qF ?_
  refine AtT.qM (d := 22) rfl ((show (!false) = true from rfl)) ?_
  refine AtT.done ?_
  refine At.nrm ?_
  all_goals refine At.qb rfl rfl ?_
  refine At.nrm ?_
  refine At.zh (.n false 0 (.q 1 .done)) ?_
  refine AtT.zG rfl rfl ok17 (works_f _ hg) ?_
  rintro _ rfl
  refine AtT.ze ?_
  refine AtT.done ?_
  refine At.nrm ?_
  exact At.qi rfl (.tmp rfl) rfl
 | true =>
 refine At.zh (.q 0 (.n false 1 (.q 2 .done))) ?_
 first | refine AtT.zD zK ?_ | refine AtT.zI zK ?_ | refine AtT.zC zK ?_
 refine AtT.zG rfl rfl ok41 (fine_f b _ _ hv) ?_
 rintro _ rfl
 refine AtT.qM (d := 21) rfl (hfine) ?_
 refine AtT.qF ?_
 refine AtT.qM (d := 22) rfl ((show (!true) = false from rfl)) ?_
 refine AtT.done ?_
 refine At.nrm ?_
 all_goals refine At.qf rfl rfl ?_
 refine At.nrm ?_
 obtain ⟨hgr, hb0⟩ := fine_ok hfine
 have hR := jA.1 hb0
 have hfl := hR.file_len
 have hf0 : kJ b = jg b ++ tailT (jg b) := rfl
 have hf15 : 15 ≤ (kJ b).length := by rw [hf0, List.length_append, tailT_len]; omega
 have hlast : ∀ x xs, jg b = xs ++ [x] → x = 10 := nlT_last _
 refine At.zh (.q 0 (.n false 1 (.q 2 (.q 3 (.q 4 (.q 5 (.q 6 .done))))))) ?_
 first | refine AtT.zD zK ?_ | refine AtT.zI zK ?_ | refine AtT.zC zK ?_
 refine AtT.zG rfl rfl ok37 (file_f b _ hg _ hv) ?_
 rintro _ rfl; rw [hb0, if_pos rfl]
 refine AtT.zf ?_
 refine AtT.zt ?_
 refine AtT.zt ?_
 refine AtT.ze ?_
 refine AtT.ze ?_
 refine AtT.done ?_
 refine At.nrm ?_
 refine At.zh (.q 0 (.q 1 (.q 2 (.q 3 (.q 4 (.n false 5 (.q 6 (.q 7 .done)))))))) ?_
 refine AtT.zf ?_
 refine AtT.qH ?_
 refine AtT.zU (d := 30) rfl ((fun h => h rfl)) ?_
 refine AtT.zf ?_
 all_goals (first | refine AtT.kL 31 ?_ | refine AtT.zA (d := 31) rfl (fun hg31 => ?_) (fun hg31 => ?_) | refine AtT.zz (d := 31) rfl (fun hg31 => ?_) (fun hg31 => ?_))
 all_goals first|refine AtT.zi ?_|refine AtT.zg ?_|(refine AtT.zf ?_)
 all_goals first|refine AtT.zi ?_|refine AtT.zg ?_|(first | refine AtT.zD zK ?_ | refine AtT.zI zK ?_ | refine AtT.zC zK ?_)
 all_goals first|refine AtT.qg ?_|refine AtT.zW ?_|((refine AtT.zG rfl rfl ok50 (rfileOf_f b hR _ hg _ hv) ?_) ; (rintro _ rfl))
 all_goals first|refine AtT.zi ?_|refine AtT.zg ?_|(refine AtT.neT rfl ⟨_, _, rfl, rfl, rfl⟩ rfl rfl (by decide) ?_)
 all_goals (refine AtT.zU (d := 35) rfl ((fun h => h rfl)) ?_)
 all_goals (refine AtT.zB ?_)
 all_goals refine AtT.done ?_
 all_goals (refine At.nrm ?_)
 all_goals refine At.qf rfl rfl ?_
 refine At.nrm ?_
 generalize kJ b = f at hf0 hf15 hfl
 obtain ⟨i, hi, hie⟩ := place_of hx16 (L := f.length) (by omega)
 have hw : IntKind.i64.wrap x = x := wrap_fit (Fit.of (by omega) (by omega))
 obtain ⟨w, hw8⟩ : ∃ w : UInt8, x8 = (w.toNat : Int) := ⟨UInt8.ofNat x8.toNat, by rw [UInt8.toNat_ofNat']; omega⟩
 subst hw8
 refine At.zh (.q 0 (.q 1 (.q 2 (.q 3 (.q 4 (.q 5 .done)))))) ?_
 refine AtT.zf ?_
 refine AtT.kconv un55 Tryz.underlying3 ?_
 rw [hw]
 refine AtT.zf ?_
 refine AtT.lenT rfl trivial Tryz.underlying9 rfl (by decide) ?_
 refine AtT.krem ?_
 rw [hie]
 refine AtT.ze ?_
 refine AtT.done ?_
 refine At.nrm ?_
 refine At.draw (.q 0 (.q 1 (.q 2 (.q 3 (.q 7 (.q 8 (.q 9 (.q 10 (.n false 4 (.n false 5 (.q 6 (.q 11 (.q 12 .done))))))))))))) ffm (by kernel_rfl) ?_
 refine AtT.zf ?_
 refine AtT.zf ?_
 refine AtT.subHT rfl trivial Tryz.underlying9 rfl rfl (by omega) (by omega) (by decide) ?_
 refine AtT.zf ?_
 refine AtT.zf ?_
 refine AtT.zf ?_
 first | refine AtT.qI ?_ | refine AtT.ql ?_
 refine AtT.subLT rfl trivial Tryz.underlying9 rfl rfl (by omega) (by omega) (by decide) ?_
 refine AtT.kbslice (bs74_1_0 _) ?_
 intro b46
 refine AtT.strB rfl trivial Tryz.underlying74 Tryz.underlying5 Tryz.underlying9 rfl zP.zH (l := [w]) (fun j hj => by obtain rfl : j = 0 := (by simp at hj; omega); rfl) (by decide) ?_
 refine AtT.catT rfl trivial rfl rfl (by simp; omega) (by decide) ?_
 refine AtT.catT rfl trivial rfl rfl (by simp; omega) (by decide) ?_
 rw [show (i : Int).toNat = i from Int.toNat_natCast i, show ((i : Int) + 1).toNat = i + 1 by omega, one_eq]
 refine AtT.ze ?_
 refine AtT.done ?_
 refine At.nrm ?_
 all_goals skip
 refine At.nrm ?_
 have h1l := one_len hi (w := w)
 have hbad1 : oneT f i w ≠ f → (loadR (oneT f i w)).2 ≠ 0 := fun h => by
  subst hf0
  exact one_bad hi h
 have hck1 : chk f = chk (oneT f i w) ↔ oneT f i w = f := one_chk hi
 generalize oneT f i w = f1 at h1l hbad1 hck1
 refine At.zh (.q 0 (.q 1 (.q 2 .done))) ?_
 refine AtT.zf ?_
 refine AtT.zf ?_
 refine AtT.neT rfl trivial rfl rfl (by decide) ?_
 refine AtT.done ?_
 refine At.nrm ?_
 refine At.cutG (ι := Unit) (fun _ => [(7, sT f), (9, iv i), (10, sT f1)]) (fun _ => []) (fun _ V'' => GvV V'') ?_ ?_
 ·refine At.zX rfl (fun hne => ?_) (fun hne => ?_)
  ·refine At.nrm ?_
   refine At.zh (.q 0 (.n false 1 (.q 2 (.q 3 (.q 4 (.n false 5 (.n true 6 (.q 7 .done)))))))) ?_
   refine AtT.zf ?_
   refine AtT.qa rfl rfl ok39 (load_f f1 (by omega) _ hg) ?_
   rintro _ V59 hV59 ⟨u59, rfl, h59⟩; obtain ⟨w59, a59, c59, rfl, ⟨q59, z59, y59, e59, rfl, i59, j59⟩, s59⟩ := id h59; clear e59 i59 j59 s59
   refine AtT.zf ?_
   refine AtT.zt ?_
   refine AtT.zt ?_
   refine AtT.zT z26 ?_
   intro b11
   refine AtT.zF zK ?_
   refine AtT.ze ?_
   refine AtT.done ?_
   refine At.nrm ?_
   refine At.zh (.q 0 (.q 1 .done)) ?_
   refine AtT.zf ?_
   refine AtT.qK ?_
   refine AtT.zU (d := 63) rfl ((hbad1 hne)) ?_
   refine AtT.done ?_
   refine At.nrm ?_
   refine At.qf rfl rfl ?_
   refine At.nrm ?_
   exact At.kC () (hg.le hV59) ⟨rfl, rfl, rfl, trivial⟩ Pt.zH
  ·refine At.nrm ?_
   exact At.kC () hg ⟨rfl, rfl, rfl, trivial⟩ Pt.zH
 rintro - Vc ks' O' hg hk hO hlc
 subst hk hO
 refine At.nrm ?_
 by_cases hend : (i : Int) + 1 = f.length
 ·refine At.zh (.q 0 (.q 1 (.q 2 (.q 3 (.q 4 .done))))) ?_
  refine AtT.zf ?_
  first | refine AtT.qI ?_ | refine AtT.ql ?_
  refine AtT.zf ?_
  refine AtT.lenT rfl trivial Tryz.underlying9 rfl (by decide) ?_
  refine AtT.qK ?_
  refine AtT.qm (d := 68) rfl (hend) ?_
  refine AtT.done ?_
  refine At.nrm ?_
  refine At.qb rfl rfl ?_
  refine At.nrm ?_
  refine At.zh (.n false 0 (.q 1 .done)) ?_
  refine AtT.zG rfl rfl ok17 (works_f _ hg) ?_
  rintro _ rfl
  refine AtT.ze ?_
  refine AtT.done ?_
  refine At.nrm ?_
  exact At.qi rfl (.tmp rfl) rfl
 refine At.zh (.q 0 (.q 1 (.q 2 (.q 3 (.q 4 .done))))) ?_
 refine AtT.zf ?_
 first | refine AtT.qI ?_ | refine AtT.ql ?_
 refine AtT.zf ?_
 refine AtT.lenT rfl trivial Tryz.underlying9 rfl (by decide) ?_
 refine AtT.qK ?_
 refine AtT.zU (d := 68) rfl (hend) ?_
 refine AtT.done ?_
 refine At.nrm ?_
 refine At.qf rfl rfl ?_
 refine At.nrm ?_
 obtain ⟨c, hc⟩ : ∃ c, f[i]? = some c := ⟨_, List.getElem?_eq_getElem hi⟩
 obtain ⟨d, hd⟩ : ∃ d, f[i + 1]? = some d := ⟨_, List.getElem?_eq_getElem (by omega)⟩
 refine At.draw (.q 0 (.q 1 (.q 2 (.q 3 (.q 4 (.q 5 (.q 6 (.q 7 (.q 8 (.q 9 (.q 10 (.q 11 (.q 12 (.q 13 (.q 14 (.q 15 (.q 16 (.q 17 (.q 18 (.q 19 (.q 20 (.q 21 .done)))))))))))))))))))))) ffm (by kernel_rfl) ?_
 refine AtT.zf ?_
 refine AtT.zf ?_
 refine AtT.subHT rfl trivial Tryz.underlying9 rfl rfl (by omega) (by omega) (by decide) ?_
 refine AtT.zf ?_
 refine AtT.zf ?_
 first | refine AtT.qI ?_ | refine AtT.ql ?_
 refine AtT.zf ?_
 first | refine AtT.qI ?_ | refine AtT.ql ?_
 refine AtT.subT rfl trivial Tryz.underlying9 rfl rfl rfl (by omega) (by omega) (by omega) (by decide) ?_
 refine AtT.catT rfl trivial rfl rfl (by simp; omega) (by decide) ?_
 refine AtT.zf ?_
 refine AtT.zf ?_
 refine AtT.zf ?_
 first | refine AtT.qI ?_ | refine AtT.ql ?_
 refine AtT.subT rfl trivial Tryz.underlying9 rfl rfl rfl (by omega) (by omega) (by omega) (by decide) ?_
 refine AtT.catT rfl trivial rfl rfl (by simp; omega) (by decide) ?_
 refine AtT.zf ?_
 refine AtT.zf ?_
 first | refine AtT.qI ?_ | refine AtT.ql ?_
 refine AtT.subLT rfl trivial Tryz.underlying9 rfl rfl (by omega) (by omega) (by decide) ?_
 refine AtT.catT rfl trivial rfl rfl (by simp; omega) (by decide) ?_
 rw [show (i : Int).toNat = i from Int.toNat_natCast i, show ((i : Int) + 1).toNat = i + 1 by omega, show ((i : Int) + 2).toNat = i + 2 by omega, two_eq hc hd]
 refine AtT.ze ?_
 refine AtT.done ?_
 refine At.nrm ?_
 all_goals skip
 refine At.nrm ?_
 have h2l := two_len (f := f) (i := i) (by omega) (x := c) (y := d)
 have h2s := two_same hc hd
 have hbad2 : twoT f i c d ≠ f → (loadR (twoT f i c d)).2 ≠ 0 := fun h => by
  have hcd : c ≠ d := fun e => h (h2s.2 e)
  subst hf0
  exact two_bad (b := b) hlast hc hd hcd
 have hck2 : twoT f i c d ≠ f → chk f ≠ chk (twoT f i c d) := fun h => two_chk hc hd fun e => h (h2s.2 e)
 generalize twoT f i c d = f2 at h2l h2s hbad2 hck2
 by_cases h2f : f2 = f
 ·refine At.zh (.q 0 (.q 1 (.q 2 .done))) ?_
  refine AtT.zf ?_
  refine AtT.zf ?_
  refine AtT.eqT rfl trivial rfl rfl (by decide) ?_
  refine AtT.qm (d := 93) rfl (h2f) ?_
  refine AtT.done ?_
  refine At.nrm ?_
  refine At.qb rfl rfl ?_
  refine At.nrm ?_
  refine At.zh (.n false 0 (.q 1 .done)) ?_
  refine AtT.zG rfl rfl ok17 (works_f _ hg) ?_
  rintro _ rfl
  refine AtT.ze ?_
  refine AtT.done ?_
  refine At.nrm ?_
  exact At.qi rfl (.tmp rfl) rfl
 refine At.zh (.q 0 (.q 1 (.q 2 .done))) ?_
 refine AtT.zf ?_
 refine AtT.zf ?_
 refine AtT.eqT rfl trivial rfl rfl (by decide) ?_
 refine AtT.zU (d := 93) rfl (h2f) ?_
 refine AtT.done ?_
 refine At.nrm ?_
 refine At.qf rfl rfl ?_
 refine At.nrm ?_
 refine At.zh (.q 0 (.n false 1 (.q 2 (.q 3 (.q 4 (.q 5 .done)))))) ?_
 refine AtT.zf ?_
 refine AtT.qa rfl rfl ok39 (load_f f2 (by omega) _ hg) ?_
 rintro _ V97 hV97 ⟨u97, rfl, h97⟩
 refine AtT.zf ?_
 refine AtT.zt ?_
 refine AtT.zt ?_
 refine AtT.ze ?_
 refine AtT.done ?_
 refine At.nrm ?_
 replace hg := hg.le hV97
 refine At.zh (.q 0 (.n false 1 (.q 2 (.q 3 (.q 4 (.q 5 (.q 6 .done))))))) ?_
 refine AtT.zf ?_
 refine AtT.zG rfl rfl ok35 (pcheck_f f (by omega) _ hg) ?_
 rintro _ rfl; rw [if_neg (by omega), if_neg (by omega)]
 refine AtT.zf ?_
 refine AtT.zt ?_
 refine AtT.zt ?_
 refine AtT.ze ?_
 refine AtT.ze ?_
 refine AtT.done ?_
 refine At.nrm ?_
 refine At.zh (.q 0 (.n false 1 (.q 2 (.q 3 (.q 4 (.q 5 (.q 6 .done))))))) ?_
 refine AtT.zf ?_
 refine AtT.zG rfl rfl ok35 (pcheck_f f2 (by omega) _ hg) ?_
 rintro _ rfl; rw [if_neg (by omega), if_neg (by omega)]
 refine AtT.zf ?_
 refine AtT.zt ?_
 refine AtT.zt ?_
 refine AtT.ze ?_
 refine AtT.ze ?_
 refine AtT.done ?_
 refine At.nrm ?_
 refine At.zh (.q 0 (.n false 1 (.q 2 (.q 3 (.q 4 (.q 5 (.q 6 .done))))))) ?_
 refine AtT.zf ?_
 refine AtT.zG rfl rfl ok35 (pcheck_f f1 (by omega) _ hg) ?_
 rintro _ rfl; rw [if_neg (by omega), if_neg (by omega)]
 refine AtT.zf ?_
 refine AtT.zt ?_
 refine AtT.zt ?_
 refine AtT.ze ?_
 refine AtT.ze ?_
 refine AtT.done ?_
 refine At.nrm ?_
 refine At.zh (.q 0 (.q 1 (.q 2 (.q 3 (.q 4 (.q 5 (.q 6 (.q 7 (.q 8 (.q 9 (.q 10 (.q 11 (.q 12 (.q 13 (.q 14 (.q 15 (.q 16 (.q 17 (.q 18 (.q 19 (.q 20 (.q 21 (.q 22 (.q 23 (.q 24 (.q 25 (.q 26 (.q 27 (.q 28 (.n false 29 (.q 30 (.q 31 .done)))))))))))))))))))))))))))))))) ?_
 refine AtT.zf ?_
 refine AtT.qH ?_
 refine AtT.qm (d := 116) rfl ((hbad2 h2f)) ?_
 refine AtT.zf ?_
 all_goals (first | refine AtT.kL 117 ?_ | refine AtT.zA (d := 117) rfl (fun hg117 => ?_) (fun hg117 => ?_) | refine AtT.zz (d := 117) rfl (fun hg117 => ?_) (fun hg117 => ?_))
 all_goals first|refine AtT.zi ?_|refine AtT.zg ?_|(refine AtT.zf ?_)
 all_goals first|refine AtT.zi ?_|refine AtT.zg ?_|(refine AtT.qK ?_)
 all_goals (refine AtT.qm (d := 119) rfl (rfl) ?_)
 all_goals (refine AtT.zB ?_)
 all_goals (refine AtT.zf ?_)
 all_goals (first | refine AtT.kL 121 ?_ | refine AtT.zA (d := 121) rfl (fun hg121 => ?_) (fun hg121 => ?_) | refine AtT.zz (d := 121) rfl (fun hg121 => ?_) (fun hg121 => ?_))
 all_goals first|refine AtT.zi ?_|refine AtT.zg ?_|(refine AtT.zf ?_)
 all_goals first|refine AtT.zi ?_|refine AtT.zg ?_|(refine AtT.qK ?_)
 all_goals (refine AtT.qm (d := 123) rfl (rfl) ?_)
 all_goals (refine AtT.zB ?_)
 all_goals (refine AtT.zf ?_)
 all_goals (first | refine AtT.kL 125 ?_ | refine AtT.zA (d := 125) rfl (fun hg125 => ?_) (fun hg125 => ?_) | refine AtT.zz (d := 125) rfl (fun hg125 => ?_) (fun hg125 => ?_))
 all_goals first|refine AtT.zi ?_|refine AtT.zg ?_|(refine AtT.zf ?_)
 all_goals first|refine AtT.zi ?_|refine AtT.zg ?_|(refine AtT.qK ?_)
 all_goals (refine AtT.qm (d := 127) rfl (rfl) ?_)
 all_goals (refine AtT.zB ?_)
 all_goals (refine AtT.zf ?_)
 all_goals (first | refine AtT.kL 129 ?_ | refine AtT.zA (d := 129) rfl (fun hg129 => ?_) (fun hg129 => ?_) | refine AtT.zz (d := 129) rfl (fun hg129 => ?_) (fun hg129 => ?_))
 all_goals first|refine AtT.zi ?_|refine AtT.zg ?_|(refine AtT.zf ?_)
 all_goals first|refine AtT.zi ?_|refine AtT.zg ?_|(refine AtT.zf ?_)
 all_goals first|refine AtT.zi ?_|refine AtT.zg ?_|(refine AtT.neT rfl ⟨_, _, rfl, rfl, rfl⟩ rfl rfl (by decide) ?_)
 all_goals (refine AtT.qm (d := 132) rfl ((hck2 h2f)) ?_)
 all_goals (refine AtT.zB ?_)
 all_goals (refine AtT.zf ?_)
 all_goals (first | refine AtT.kL 134 ?_ | refine AtT.zA (d := 134) rfl (fun hg134 => ?_) (fun hg134 => ?_) | refine AtT.zz (d := 134) rfl (fun hg134 => ?_) (fun hg134 => ?_))
 all_goals first|refine AtT.zi ?_|refine AtT.zg ?_|(refine AtT.zf ?_)
 all_goals first|refine AtT.zi ?_|refine AtT.zg ?_|(refine AtT.zf ?_)
 all_goals first|refine AtT.zi ?_|refine AtT.zg ?_|(refine AtT.neT rfl ⟨_, _, rfl, rfl, rfl⟩ rfl rfl (by decide) ?_)
 all_goals first|refine AtT.zi ?_|refine AtT.zg ?_|(refine AtT.zf ?_)
 all_goals first|refine AtT.zi ?_|refine AtT.zg ?_|(refine AtT.zf ?_)
 all_goals first|refine AtT.zi ?_|refine AtT.zg ?_|(refine AtT.neT rfl ⟨_, _, rfl, rfl, rfl⟩ rfl rfl (by decide) ?_)
 all_goals first|refine AtT.zi ?_|refine AtT.zg ?_|(refine AtT.keqB Tryz.underlying4 ?_)
 all_goals (refine AtT.qM (d := 141) rfl ((show (decide (chk f ≠ chk f1) == decide (f1 ≠ f)) = true by rw [show decide (chk f ≠ chk f1) = decide (f1 ≠ f) from decide_eq_decide.2 (not_congr hck1)]; exact beq_self_eq_true _)) ?_)
 all_goals (refine AtT.zB ?_)
 all_goals (refine AtT.zf ?_)
 all_goals (first | refine AtT.kL 143 ?_ | refine AtT.zA (d := 143) rfl (fun hg143 => ?_) (fun hg143 => ?_) | refine AtT.zz (d := 143) rfl (fun hg143 => ?_) (fun hg143 => ?_))
 all_goals first|refine AtT.qg ?_|refine AtT.zW ?_|((refine AtT.zG rfl rfl ok17 (works_f _ hg) ?_) ; (rintro _ rfl))
 all_goals (refine AtT.zB ?_)
 all_goals (refine AtT.ze ?_)
 all_goals refine AtT.done ?_
 all_goals (refine At.nrm ?_)
 all_goals (exact At.qi rfl (.tmp rfl) rfl)
end Go.Proofs.YtpoignmclfdgpaaGreatDoor
