/- Texts that the last one of this claim imports. -/
import Derived.Lib.QuoteBits
import Derived.Lib.SliceRun
import Derived.ChangeKeysEq
import Derived.Test.YtadbifpalpdocaaGreatDoorQ2
set_option linter.unusedVariables false
set_option linter.unusedSimpArgs false
set_option linter.unusedSectionVars false
section
set_option linter.unusedVariables false
namespace Go.Lw
open Go.RowKit
def clrB (a b : Nat) : Nat := a &&& (18446744073709551615 - b)
theorem clrB_le (a b : Nat) : clrB a b ≤ a := Nat.and_le_left
theorem clrB_bit (a b i : Nat) (hb : b < 18446744073709551616) (ha : a < 18446744073709551616) : (clrB a b).testBit i = (a.testBit i && !b.testBit i) := by
 unfold clrB
 rw [Nat.testBit_and]
 cases hi : a.testBit i with
 | false => rfl
 | true =>
  have hlt : i < 64 := by
   apply Classical.byContradiction
   intro hc
   have : a < 2 ^ i := Nat.lt_of_lt_of_le ha (by rw [show 18446744073709551616 = 2 ^ 64 from rfl]; exact Nat.pow_le_pow_right (by decide) (by omega))
   rw [Nat.testBit_lt_two_pow this] at hi; cases hi
  have := Nat.testBit_two_pow_sub_succ (x := b) (n := 64) (by simpa using hb) i
  rw [show 18446744073709551615 - b = 2 ^ 64 - (b + 1) from by omega, this]
  simp [hlt]
section
variable {cx : Cx} {n : Nat} {ks : List (Nat × Value)} {O : List Own} {V : View} {P : Program} {ops : Array Oper} {Qn : Act → World → Prop} {t : Tr} {i d : Nat} {T : TypeId} {pos : String} {after : Array Edge} {gd : Option (Nat × Bool)} {x y : Operand} {p q : Int} {X Z : TypeId}
theorem AtT.andN {A B : Nat} (ho : ops[i]? = some ⟨some d, .binOp .and X x y Z, T, pos, after, gd⟩) (hg : Gd ks ops gd) (hx : ev ks x = some (.int .i64 p)) (hy : ev ks y = some (.int .i64 q)) (hp : p = (A : Int)) (hq : q = (B : Int)) (hA : A < 9223372036854775808) (hB : B < 9223372036854775808) (hn : d < n)
  (next : AtT cx n ((d, .int .i64 ((A &&& B : Nat) : Int)) :: ks) O V P ops Qn t) : AtT cx n ks O V P ops Qn (.q i t) :=
 .q ho hg rfl hn (fun a w hk _ => by
  subst hp hq
  have hr : Op.intBits .and .i64 (A : Int) (B : Int) = (pure (.int .i64 ((A &&& B : Nat) : Int)) : Sem Value) := by
   show (pure (Value.int .i64 (IntKind.i64.wrap ((BitVec.ofInt 64 (A : Int) &&& BitVec.ofInt 64 (B : Int)).toNat : Int))) : Sem Value) = _
   rw [BitVec.toNat_and, ofInt_u64 A (by omega), ofInt_u64 B (by omega), Go.Lib.wrap_i64_small _ (Nat.lt_of_le_of_lt Nat.and_le_left hA)]
  simp [execOp, hk.ev hx, hk.ev hy, eqGuard_and, binOp_and, hr]) next
theorem AtT.clrN {A B : Nat} (ho : ops[i]? = some ⟨some d, .binOp .andNot X x y Z, T, pos, after, gd⟩) (hg : Gd ks ops gd) (hx : ev ks x = some (.int .i64 p)) (hy : ev ks y = some (.int .i64 q)) (hp : p = (A : Int)) (hq : q = (B : Int)) (hA : A < 9223372036854775808) (hB : B < 9223372036854775808) (hn : d < n)
  (next : AtT cx n ((d, .int .i64 ((clrB A B : Nat) : Int)) :: ks) O V P ops Qn t) : AtT cx n ks O V P ops Qn (.q i t) :=
 .q ho hg rfl hn (fun a w hk _ => by
  subst hp hq
  have hr : Op.intBits .andNot .i64 (A : Int) (B : Int) = (pure (.int .i64 ((clrB A B : Nat) : Int)) : Sem Value) := by
   show (pure (Value.int .i64 (IntKind.i64.wrap ((BitVec.ofInt 64 (A : Int) &&& ~~~BitVec.ofInt 64 (B : Int)).toNat : Int))) : Sem Value) = _
   rw [BitVec.toNat_and, BitVec.toNat_not, ofInt_u64 A (by omega), ofInt_u64 B (by omega)]
   show pure (Value.int .i64 (IntKind.i64.wrap ((clrB A B : Nat) : Int))) = _
   rw [Go.Lib.wrap_i64_small _ (Nat.lt_of_le_of_lt (clrB_le A B) hA)]
  simp [execOp, hk.ev hx, hk.ev hy, eqGuard_andNot, binOp_andNot, hr]) next
theorem AtT.shlN {N : Nat} {k : IntKind} (ho : ops[i]? = some ⟨some d, .binOp .shl X x y Z, T, pos, after, gd⟩) (hg : Gd ks ops gd) (hx : ev ks x = some (.int .i64 1)) (hy : ev ks y = some (.int k q)) (hq : q = (N : Int)) (hN : N ≤ 61) (hn : d < n)
  (next : AtT cx n ((d, .int .i64 ((2 ^ N : Nat) : Int)) :: ks) O V P ops Qn t) : AtT cx n ks O V P ops Qn (.q i t) :=
 .q ho hg rfl hn (fun a w hk _ => by
  subst hq
  have hlt : 2 ^ N < 9223372036854775808 := Nat.lt_of_le_of_lt (Nat.pow_le_pow_right (by decide) hN) (by decide)
  have hr : Op.shift .shl .i64 1 k (N : Int) = (pure (.int .i64 ((2 ^ N : Nat) : Int)) : Sem Value) := by
   unfold Op.shift
   rw [if_neg (by omega)]
   have e : min ((N : Int).toNat) IntKind.i64.bits = N := by show min ((N : Int).toNat) 64 = N; omega
   have e2 : (1 : Int) * 2 ^ N = ((2 ^ N : Nat) : Int) := by rw [Int.one_mul, Int.natCast_pow]; rfl
   simp only [e, e2, Go.Lib.wrap_i64_small _ hlt]
  simp only [execOp, hk.ev hx, hk.ev hy, eqGuard_shl, binOp_shl, hr, Sem.run_bind, Sem.run_pure, Result.andThen_ok]) next
theorem AtT.shrN {A N : Nat} {k : IntKind} (ho : ops[i]? = some ⟨some d, .binOp .shr X x y Z, T, pos, after, gd⟩) (hg : Gd ks ops gd) (hx : ev ks x = some (.int .i64 p)) (hy : ev ks y = some (.int k q)) (hp : p = (A : Int)) (hq : q = (N : Int)) (hN : N ≤ 61) (hn : d < n)
  (next : AtT cx n ((d, .int .i64 ((A >>> N : Nat) : Int)) :: ks) O V P ops Qn t) : AtT cx n ks O V P ops Qn (.q i t) :=
 .q ho hg rfl hn (fun a w hk _ => by
  subst hp hq
  have hr : Op.shift .shr .i64 (A : Int) k (N : Int) = (pure (.int .i64 ((A >>> N : Nat) : Int)) : Sem Value) := by
   unfold Op.shift
   rw [if_neg (by omega)]
   have e : min ((N : Int).toNat) IntKind.i64.bits = N := by show min ((N : Int).toNat) 64 = N; omega
   have e2 : (A : Int).fdiv (2 ^ N) = ((A >>> N : Nat) : Int) := by
    rw [Int.fdiv_eq_ediv_of_nonneg _ (Int.le_of_lt (Int.pow_pos (by decide))), Nat.shiftRight_eq_div_pow, Int.natCast_ediv, Int.natCast_pow]; rfl
   simp only [e, e2]
  simp only [execOp, hk.ev hx, hk.ev hy, eqGuard_shr, binOp_shr, hr, Sem.run_bind, Sem.run_pure, Result.andThen_ok]) next
end
end Go.Lw
end
section
namespace Go.Gl
open Go.Lw
def GdS (B : Bn) (S : Nat) (f : Nat → Nat) (m : Nat) : Prop := (∀ i, i < B.each.length → S.testBit i = true → f i < m) ∧ ∀ k, fitE B (sm B (fun i => S.testBit i && decide (f i = k)) B.each.length) = 0
structure Lst (B : Bn) (S : Nat) (v : Int) : Prop where
 nn : 0 ≤ v
 can : ∃ f, GdS B S f v.toNat
 least : ∀ f m, GdS B S f m → v ≤ (m : Int)
def mkM (q : Nat → Bool) : Nat → Nat
 | 0 => 0
 | k + 1 => if q k = true then mkM q k ||| 2 ^ k else mkM q k
theorem mkM_bit (q : Nat → Bool) : ∀ n i, (mkM q n).testBit i = (decide (i < n) && q i)
 | 0, i => by simp [mkM]
 | n + 1, i => by
  have ih := mkM_bit q n i
  simp only [mkM]
  by_cases c : q n = true
  ·rw [if_pos c, Nat.testBit_or, ih, Nat.testBit_two_pow]
   by_cases d : n = i
   ·subst d; simp [c]
   ·have : decide (i < n + 1) = decide (i < n) := by rw [decide_eq_decide]; omega
    simp [d, this]
  ·rw [if_neg c, ih]
   by_cases d : n = i
   ·subst d; simp [c]
   ·have : decide (i < n + 1) = decide (i < n) := by rw [decide_eq_decide]; omega
    rw [this]
end Go.Gl
end
section
namespace Go.Gl
open Go.Lw
def Ap2 (B : Bn) (a b : Int) : Prop := fitE B (jr B [a, b]) ≠ 0
def Ap (B : Bn) (l : List Int) : Prop := l.Pairwise (fun a b => a < b ∧ Ap2 B a b) ∧ ∀ x ∈ l, 0 ≤ x ∧ x < (B.each.length : Int)
theorem jQ {A : Nat} : ∀ {n : Nat} {x : Int}, x ∈ zX A n ↔ ∃ i : Nat, i < n ∧ x = (i : Int) ∧ A.testBit i = true
 | 0, x => by simp [zX]
 | n + 1, x => by
  have ih := jQ (A := A) (n := n) (x := x)
  simp only [zX]
  by_cases c : A.testBit n = true
  ·rw [if_pos c, List.mem_append, ih, List.mem_singleton]
   constructor
   ·rintro (⟨i, h1, h2, h3⟩ | h)
    ·exact ⟨i, by omega, h2, h3⟩
    ·exact ⟨n, by omega, h, c⟩
   ·rintro ⟨i, h1, h2, h3⟩
    by_cases d : i = n
    ·subst d; exact .inr h2
    ·exact .inl ⟨i, by omega, h2, h3⟩
  ·rw [if_neg c, ih]
   constructor
   ·rintro ⟨i, h1, h2, h3⟩; exact ⟨i, by omega, h2, h3⟩
   ·rintro ⟨i, h1, h2, h3⟩
    have : i ≠ n := fun h => c (by rw [← h]; exact h3)
    exact ⟨i, by omega, h2, h3⟩
theorem bitL_lt (A : Nat) : ∀ n, (zX A n).Pairwise (· < ·)
 | 0 => List.Pairwise.nil
 | n + 1 => by
  have ih := bitL_lt A n
  simp only [zX]
  split
  ·refine List.pairwise_append.2 ⟨ih, List.pairwise_singleton _ _, fun a ha b hb => ?_⟩
   rw [List.mem_singleton] at hb
   obtain ⟨i, h1, h2, _⟩ := jQ.1 ha
   omega
  ·exact ih
end Go.Gl
end
section
set_option linter.unusedVariables false
namespace Go.Bl
open Go.Gl Go.Lw
structure Pq where
 m : Int
 o : Int
 h : Int
 deriving DecidableEq
structure Tq where
 p : Pq
 f : Bool
abbrev pqv (p : Pq) : Value := .agg #[iv p.m, iv p.o, iv p.h]
abbrev tqe (t : Tq) : List Value := [iv t.p.m, iv t.p.o, iv t.p.h, .bool t.f]
abbrev tqv (t : Tq) : Value := .agg #[iv t.p.m, iv t.p.o, iv t.p.h, .bool t.f]
abbrev ste (s : Nat) : List Value := [iv (s : Int)]
abbrev stv (s : Nat) : Value := .agg #[iv (s : Int)]
theorem tqe_len (p : Tq) : (tqe p).length = 4 := rfl
theorem ste_len (s : Nat) : (ste s).length = 1 := rfl
def kF (p : Pq) : Bool := decide (0 ≤ p.m ∧ p.m ≤ 4 ∧ 0 ≤ p.o ∧ p.o ≤ 4 ∧ 0 ≤ p.h ∧ p.h ≤ 4)
theorem wi_pq (p : Pq) : wi 0 4 [p.m, p.o, p.h] = kF p := by
 unfold wi kF outB
 rw [Bool.eq_iff_iff]
 simp only [List.any_cons, List.any_nil, Bool.or_false, Bool.not_eq_true', Bool.or_eq_false_iff, decide_eq_false_iff_not, decide_eq_true_eq]
 omega
def badT (t : Tq) : Bool := !kF t.p
def trE (ts : List Tq) : Int := if 16 < ts.length then 6 else if ts.any badT then 3 else 0
theorem trE_ok {ts : List Tq} (h : trE ts = 0) : ts.length ≤ 16 ∧ ∀ t ∈ ts, kF t.p = true := by
 unfold trE at h
 split at h
 ·cases h
 ·split at h
  ·cases h
  ·rename_i h1 h2
   refine ⟨by omega, fun t ht => ?_⟩
   cases c : kF t.p with
   | true => rfl
   | false => exact absurd (List.any_eq_true.2 ⟨t, ht, by simp [badT, c]⟩) h2
def caL (p : Pq) : List Int := [p.m, 5 + p.o, 10 + p.h]
def btL (l : List Int) : Nat := l.foldl (fun n i => n ||| 2 ^ i.toNat) 0
theorem btL_snoc (l : List Int) (i : Int) : btL (l ++ [i]) = btL l ||| 2 ^ i.toNat := by simp [btL, List.foldl_append]
theorem btF_bit {i : Nat} : ∀ (l : List Int) (n : Nat), (∀ x ∈ l, 0 ≤ x) → ((l.foldl (fun n i => n ||| 2 ^ i.toNat) n).testBit i = true ↔ n.testBit i = true ∨ (i : Int) ∈ l)
 | [], n, _ => by simp
 | x :: l, n, h => by
  have h0 := h x List.mem_cons_self
  rw [List.foldl_cons, btF_bit l _ fun y hy => h y (List.mem_cons_of_mem _ hy), Nat.testBit_or, Bool.or_eq_true, Nat.testBit_two_pow, decide_eq_true_eq, List.mem_cons]
  constructor
  ·rintro ((h1 | h1) | h1)
   ·exact .inl h1
   ·exact .inr (.inl (by omega))
   ·exact .inr (.inr h1)
  ·rintro (h1 | h1 | h1)
   ·exact .inl (.inl h1)
   ·exact .inl (.inr (by omega))
   ·exact .inr h1
theorem btL_bit {l : List Int} {i : Nat} (h : ∀ x ∈ l, 0 ≤ x) : (btL l).testBit i = true ↔ (i : Int) ∈ l := by
 unfold btL; rw [btF_bit l 0 h]; simp
theorem btL_lt {l : List Int} {n : Nat} (h : ∀ x ∈ l, 0 ≤ x ∧ x < (n : Int)) : btL l < 2 ^ n := by
 refine Nat.lt_pow_two_of_testBit _ fun i hi => ?_
 cases c : (btL l).testBit i with
 | false => rfl
 | true =>
  have := (btL_bit fun x hx => (h x hx).1).1 c
  have := h _ this; omega
def cbN (p : Pq) : Nat := btL (caL p)
theorem caL_in {p : Pq} (h : kF p = true) : ∀ x ∈ caL p, 0 ≤ x ∧ x < 15 := by
 unfold kF at h
 rw [decide_eq_true_eq] at h
 intro x hx
 simp only [caL, List.mem_cons, List.not_mem_nil, or_false] at hx
 omega
theorem cbN_lt {p : Pq} (h : kF p = true) : cbN p < 32768 := btL_lt (n := 15) fun x hx => by have := caL_in h x hx; omega
def clN : List Tq → Nat → Nat
 | _, 0 => 0
 | ts, k + 1 => match ts[k]? with
  | some t => if t.f = false then clN ts k ||| cbN t.p else clN ts k
  | none => clN ts k
def clA (ts : List Tq) : Nat := clN ts ts.length
theorem clN_at {ts : List Tq} {k : Nat} {t : Tq} (h : ts[k]? = some t) : clN ts (k + 1) = if t.f = false then clN ts k ||| cbN t.p else clN ts k := by
 simp only [clN, h]
theorem or_lt {a b n : Nat} (ha : a < 2 ^ n) (hb : b < 2 ^ n) : a ||| b < 2 ^ n := Nat.or_lt_two_pow ha hb
theorem clN_lt {ts : List Tq} (h : ∀ t ∈ ts, kF t.p = true) : ∀ k, clN ts k < 32768
 | 0 => by simp [clN]
 | k + 1 => by
  have ih := clN_lt h k
  cases c : ts[k]? with
  | none => simp only [clN, c]; exact ih
  | some t =>
   rw [clN_at c]
   split
   ·exact or_lt (n := 15) ih (cbN_lt (h t (List.mem_of_getElem? c)))
   ·exact ih
end Go.Bl
end
section
set_option linter.unusedVariables false
namespace Go.Gl
theorem bitL_len (A : Nat) : ∀ k, (zX A k).length ≤ k
 | 0 => Nat.le_refl 0
 | k + 1 => by
  have := bitL_len A k
  simp only [zX]; split
  ·simp; omega
  ·omega
theorem bit_iff (A k : Nat) : ((A >>> k &&& 1 : Nat) : Int) = 1 ↔ A.testBit k = true := by
 rw [Nat.and_one_is_mod, Nat.shiftRight_eq_div_pow, Nat.testBit_eq_decide_div_mod_eq, decide_eq_true_eq]
 omega
end Go.Gl
namespace Go.Proofs.YtadbifpalpdocaaGreatDoor
open Go.Lw Go.Gl Go.Bl Go.RowKit
theorem index_n (g : FuncId) (cap : List Value) (p : Int → Bool) (V : View) (vl : Value) (l : List Int) (hs : Sl V ei 1 vl l) (hok : zB Tryz.prog g)
  (hc : ∀ x, x ∈ l → Fnc Tryz.prog g ([] ++ [iv x] ++ cap) V (fun v _ => v = .bool (p x))) :
  Fnc Tryz.prog 145 [vl, .func (.func g) #[] cap.toArray] V fun v _ => ∃ j : Int, v = iv j ∧ (decide (0 ≤ j)) = l.any p := by
 have hlen := hs.lenLe
 refine zT Tryz.func145 rfl Tryz.ntmps145 (Nat.le_of_ble_eq_true rfl) ?_
 intro w0 hw0
 refine At.nrm ?_
 refine At.zg (.q 0 .done) ?_
 refine AtT.zf ?_
 refine AtT.done ?_
 refine At.nrm ?_
 refine At.zg (.q 0 (.q 1 (.q 2 .done))) ?_
 refine AtT.ze ?_
 first | refine AtT.zP Tryz.underlying31 ?_ | refine AtT.zQ Tryz.underlying31 ?_
 refine AtT.ze ?_
 refine AtT.done ?_
 refine At.nrm ?_
 refine At.lp (ι := Nat) (KS := fun k => [(0, vl), (1, .func (.func g) #[] cap.toArray), (4, iv 0), (7, iv l.length), (8, iv k)]) (OS := fun _ => [])
  (VS := fun k V' => V' = V ∧ k ≤ l.length ∧ (l.take k).any p = false) (μ := fun k => l.length - k) 0 ?_ ?_ ?_ ?_
 ·exact ⟨rfl, rfl, rfl, rfl, rfl, trivial⟩
 ·exact Pt.zy
 ·exact ⟨rfl, Nat.zero_le _, rfl⟩
 ·rintro k V' ks' O' ⟨rfl, hkl, hany⟩ hk hO hl
  subst hk hO
  refine At.nrm ?_
  refine At.zg (.q 0 .done) ?_
  refine AtT.qW ?_
  refine AtT.done ?_
  refine At.nrm ?_
  refine At.zW rfl (fun hp => ?_) (fun hp => ?_)
  ·refine At.nrm ?_
   refine At.zg (.q 0 (.q 1 .done)) ?_
   refine AtT.ze ?_
   refine AtT.zf ?_
   refine AtT.done ?_
   refine At.nrm ?_
   refine At.zg (.q 0 (.q 1 (.q 2 (.q 3 (.q 4 (.n false 5 .done)))))) ?_
   refine AtT.ze ?_
   refine AtT.ze ?_
   refine AtT.ze ?_
   refine AtT.qK Tryz.underlying31 tk3 ?_
   intro p14 e14 he14 hc14
   first | refine AtT.zu tk3 ?_ | refine AtT.zF tk3 ?_
   refine AtT.kcallV rfl rfl rfl hok (hc e14 (List.mem_of_getElem? he14)) ?_
   rintro _ rfl
   refine AtT.done ?_
   refine At.nrm ?_
   have hee : l[k]? = some e14 := by simpa using he14
   have hnx : l.take (k + 1) = l.take k ++ [e14] := by
    rw [List.take_succ_eq_append_getElem (by omega)]; congr 1; rw [List.getElem?_eq_getElem (by omega)] at hee; simpa using hee
   refine At.cond rfl (fun hb => ?_) (fun hb => ?_)
   ·refine At.nrm ?_
    refine At.zg (.q 0 (.q 1 .done)) ?_
    refine AtT.ze ?_
    refine AtT.zf ?_
    refine AtT.done ?_
    refine At.nrm ?_
    refine At.zV rfl (.tmp rfl) ⟨k, rfl, ?_⟩
    have : l.any p = true := List.any_eq_true.2 ⟨e14, List.mem_of_getElem? hee, hb⟩
    rw [this]; simp
   ·refine At.nrm ?_
    refine At.zg (.q 0 (.q 1 .done)) ?_
    first | refine AtT.qo ?_ | refine AtT.zS ?_
    refine AtT.ze ?_
    refine AtT.done ?_
    refine At.nrm ?_
    refine At.round (k + 1) ?_ ?_ ?_ ?_
    ·show l.length - (k + 1) < l.length - k; omega
    ·refine ⟨rfl, by omega, ?_⟩
     rw [hnx, List.any_append, hany]; simp [hb]
    ·exact ⟨rfl, rfl, rfl, rfl, rfl, trivial⟩
    ·exact Pt.zy
  ·have hkk : k = l.length := by omega
   subst hkk
   rw [List.take_length] at hany
   refine At.nrm ?_
   refine At.zg (.q 0 .done) ?_
   refine AtT.zf ?_
   refine AtT.done ?_
   refine At.nrm ?_
   refine At.zV rfl (.tmp rfl) ⟨-1, rfl, ?_⟩
   rw [hany]; rfl
theorem contains_n (g : FuncId) (cap : List Value) (p : Int → Bool) (V : View) (vl : Value) (l : List Int) (hs : Sl V ei 1 vl l) (hok : zB Tryz.prog g)
  (hc : ∀ x, x ∈ l → Fnc Tryz.prog g ([] ++ [iv x] ++ cap) V (fun v _ => v = .bool (p x))) :
  Fnc Tryz.prog 83 [vl, .func (.func g) #[] cap.toArray] V fun v _ => v = .bool (l.any p) := by
 refine zT Tryz.func83 rfl Tryz.ntmps83 (Nat.le_of_ble_eq_true rfl) ?_
 intro w0 hw0
 refine At.nrm ?_
 refine At.zg (.q 0 .done) ?_
 refine AtT.zf ?_
 refine AtT.done ?_
 refine At.nrm ?_
 refine At.zg (.q 0 (.q 1 (.n false 2 (.q 3 (.q 4 .done))))) ?_
 refine AtT.ze ?_
 refine AtT.ze ?_
 refine AtT.zC rfl rfl ok145 (index_n g cap p V vl l hs hok hc) ?_
 rintro _ ⟨j, rfl, hj⟩
 refine AtT.kgeq ?_
 refine AtT.zf ?_
 refine AtT.done ?_
 refine At.nrm ?_
 refine At.zV rfl (.tmp rfl) ?_
 rw [hj]
theorem index_t (g : FuncId) (cap : List Value) (p : Tq → Bool) (V : View) (vl : Value) (l : List Tq) (hs : Sl V tqe 4 vl l) (hok : zB Tryz.prog g)
  (hc : ∀ x, x ∈ l → Fnc Tryz.prog g ([] ++ [tqv x] ++ cap) V (fun v _ => v = .bool (p x))) :
  Fnc Tryz.prog 91 [vl, .func (.func g) #[] cap.toArray] V fun v _ => ∃ j : Int, v = iv j ∧ (decide (0 ≤ j)) = l.any p := by
 have hlen := hs.lenLe
 refine zT Tryz.func91 rfl Tryz.ntmps91 (Nat.le_of_ble_eq_true rfl) ?_
 intro w0 hw0
 refine At.nrm ?_
 refine At.zg (.q 0 .done) ?_
 refine AtT.zf ?_
 refine AtT.done ?_
 refine At.nrm ?_
 refine At.zg (.q 0 (.q 1 (.q 2 .done))) ?_
 refine AtT.ze ?_
 first | refine AtT.zP Tryz.underlying34 ?_ | refine AtT.zQ Tryz.underlying34 ?_
 refine AtT.ze ?_
 refine AtT.done ?_
 refine At.nrm ?_
 refine At.lp (ι := Nat) (KS := fun k => [(0, vl), (1, .func (.func g) #[] cap.toArray), (4, iv 0), (7, iv l.length), (8, iv k)]) (OS := fun _ => [])
  (VS := fun k V' => V' = V ∧ k ≤ l.length ∧ (l.take k).any p = false) (μ := fun k => l.length - k) 0 ?_ ?_ ?_ ?_
 ·exact ⟨rfl, rfl, rfl, rfl, rfl, trivial⟩
 ·exact Pt.zy
 ·exact ⟨rfl, Nat.zero_le _, rfl⟩
 ·rintro k V' ks' O' ⟨rfl, hkl, hany⟩ hk hO hl
  subst hk hO
  refine At.nrm ?_
  refine At.zg (.q 0 .done) ?_
  refine AtT.qW ?_
  refine AtT.done ?_
  refine At.nrm ?_
  refine At.zW rfl (fun hp => ?_) (fun hp => ?_)
  ·refine At.nrm ?_
   refine At.zg (.q 0 (.q 1 .done)) ?_
   refine AtT.ze ?_
   refine AtT.zf ?_
   refine AtT.done ?_
   refine At.nrm ?_
   refine At.zg (.q 0 (.q 1 (.q 2 (.q 3 (.q 4 (.n false 5 .done)))))) ?_
   refine AtT.ze ?_
   refine AtT.ze ?_
   refine AtT.ze ?_
   refine AtT.qK Tryz.underlying34 tk38 ?_
   intro p14 e14 he14 hc14
   first | refine AtT.zx tk38 ?_ | refine AtT.zD tk38 ?_ | refine AtT.zw tk38 ?_
   refine AtT.kcallV rfl rfl rfl hok (hc e14 (List.mem_of_getElem? he14)) ?_
   rintro _ rfl
   refine AtT.done ?_
   refine At.nrm ?_
   have hee : l[k]? = some e14 := by simpa using he14
   have hnx : l.take (k + 1) = l.take k ++ [e14] := by
    rw [List.take_succ_eq_append_getElem (by omega)]; congr 1; rw [List.getElem?_eq_getElem (by omega)] at hee; simpa using hee
   refine At.cond rfl (fun hb => ?_) (fun hb => ?_)
   ·refine At.nrm ?_
    refine At.zg (.q 0 (.q 1 .done)) ?_
    refine AtT.ze ?_
    refine AtT.zf ?_
    refine AtT.done ?_
    refine At.nrm ?_
    refine At.zV rfl (.tmp rfl) ⟨k, rfl, ?_⟩
    have : l.any p = true := List.any_eq_true.2 ⟨e14, List.mem_of_getElem? hee, hb⟩
    rw [this]; simp
   ·refine At.nrm ?_
    refine At.zg (.q 0 (.q 1 .done)) ?_
    first | refine AtT.qo ?_ | refine AtT.zS ?_
    refine AtT.ze ?_
    refine AtT.done ?_
    refine At.nrm ?_
    refine At.round (k + 1) ?_ ?_ ?_ ?_
    ·show l.length - (k + 1) < l.length - k; omega
    ·refine ⟨rfl, by omega, ?_⟩
     rw [hnx, List.any_append, hany]; simp [hb]
    ·exact ⟨rfl, rfl, rfl, rfl, rfl, trivial⟩
    ·exact Pt.zy
  ·have hkk : k = l.length := by omega
   subst hkk
   rw [List.take_length] at hany
   refine At.nrm ?_
   refine At.zg (.q 0 .done) ?_
   refine AtT.zf ?_
   refine AtT.done ?_
   refine At.nrm ?_
   refine At.zV rfl (.tmp rfl) ⟨-1, rfl, ?_⟩
   rw [hany]; rfl
theorem contains_t (g : FuncId) (cap : List Value) (p : Tq → Bool) (V : View) (vl : Value) (l : List Tq) (hs : Sl V tqe 4 vl l) (hok : zB Tryz.prog g)
  (hc : ∀ x, x ∈ l → Fnc Tryz.prog g ([] ++ [tqv x] ++ cap) V (fun v _ => v = .bool (p x))) :
  Fnc Tryz.prog 44 [vl, .func (.func g) #[] cap.toArray] V fun v _ => v = .bool (l.any p) := by
 refine zT Tryz.func44 rfl Tryz.ntmps44 (Nat.le_of_ble_eq_true rfl) ?_
 intro w0 hw0
 refine At.nrm ?_
 refine At.zg (.q 0 .done) ?_
 refine AtT.zf ?_
 refine AtT.done ?_
 refine At.nrm ?_
 refine At.zg (.q 0 (.q 1 (.n false 2 (.q 3 (.q 4 .done))))) ?_
 refine AtT.ze ?_
 refine AtT.ze ?_
 refine AtT.zC rfl rfl ok91 (index_t g cap p V vl l hs hok hc) ?_
 rintro _ ⟨j, rfl, hj⟩
 refine AtT.kgeq ?_
 refine AtT.zf ?_
 refine AtT.done ?_
 refine At.nrm ?_
 refine At.zV rfl (.tmp rfl) ?_
 rw [hj]
theorem index_s (g : FuncId) (cap : List Value) (p : Nat → Bool) (V : View) (vl : Value) (l : List Nat) (hs : Sl V ste 1 vl l) (hok : zB Tryz.prog g)
  (hc : ∀ x, x ∈ l → Fnc Tryz.prog g ([] ++ [stv x] ++ cap) V (fun v _ => v = .bool (p x))) :
  Fnc Tryz.prog 99 [vl, .func (.func g) #[] cap.toArray] V fun v _ => ∃ j : Int, v = iv j ∧ (decide (0 ≤ j)) = l.any p := by
 have hlen := hs.lenLe
 refine zT Tryz.func99 rfl Tryz.ntmps99 (Nat.le_of_ble_eq_true rfl) ?_
 intro w0 hw0
 refine At.nrm ?_
 refine At.zg (.q 0 .done) ?_
 refine AtT.zf ?_
 refine AtT.done ?_
 refine At.nrm ?_
 refine At.zg (.q 0 (.q 1 (.q 2 .done))) ?_
 refine AtT.ze ?_
 first | refine AtT.zP Tryz.underlying51 ?_ | refine AtT.zQ Tryz.underlying51 ?_
 refine AtT.ze ?_
 refine AtT.done ?_
 refine At.nrm ?_
 refine At.lp (ι := Nat) (KS := fun k => [(0, vl), (1, .func (.func g) #[] cap.toArray), (4, iv 0), (7, iv l.length), (8, iv k)]) (OS := fun _ => [])
  (VS := fun k V' => V' = V ∧ k ≤ l.length ∧ (l.take k).any p = false) (μ := fun k => l.length - k) 0 ?_ ?_ ?_ ?_
 ·exact ⟨rfl, rfl, rfl, rfl, rfl, trivial⟩
 ·exact Pt.zy
 ·exact ⟨rfl, Nat.zero_le _, rfl⟩
 ·rintro k V' ks' O' ⟨rfl, hkl, hany⟩ hk hO hl
  subst hk hO
  refine At.nrm ?_
  refine At.zg (.q 0 .done) ?_
  refine AtT.qW ?_
  refine AtT.done ?_
  refine At.nrm ?_
  refine At.zW rfl (fun hp => ?_) (fun hp => ?_)
  ·refine At.nrm ?_
   refine At.zg (.q 0 (.q 1 .done)) ?_
   refine AtT.ze ?_
   refine AtT.zf ?_
   refine AtT.done ?_
   refine At.nrm ?_
   refine At.zg (.q 0 (.q 1 (.q 2 (.q 3 (.q 4 (.n false 5 .done)))))) ?_
   refine AtT.ze ?_
   refine AtT.ze ?_
   refine AtT.ze ?_
   refine AtT.qK Tryz.underlying51 zO ?_
   intro p14 e14 he14 hc14
   first | refine AtT.zx zO ?_ | refine AtT.zD zO ?_ | refine AtT.zw zO ?_
   refine AtT.kcallV rfl rfl rfl hok (hc e14 (List.mem_of_getElem? he14)) ?_
   rintro _ rfl
   refine AtT.done ?_
   refine At.nrm ?_
   have hee : l[k]? = some e14 := by simpa using he14
   have hnx : l.take (k + 1) = l.take k ++ [e14] := by
    rw [List.take_succ_eq_append_getElem (by omega)]; congr 1; rw [List.getElem?_eq_getElem (by omega)] at hee; simpa using hee
   refine At.cond rfl (fun hb => ?_) (fun hb => ?_)
   ·refine At.nrm ?_
    refine At.zg (.q 0 (.q 1 .done)) ?_
    refine AtT.ze ?_
    refine AtT.zf ?_
    refine AtT.done ?_
    refine At.nrm ?_
    refine At.zV rfl (.tmp rfl) ⟨k, rfl, ?_⟩
    have : l.any p = true := List.any_eq_true.2 ⟨e14, List.mem_of_getElem? hee, hb⟩
    rw [this]; simp
   ·refine At.nrm ?_
    refine At.zg (.q 0 (.q 1 .done)) ?_
    first | refine AtT.qo ?_ | refine AtT.zS ?_
    refine AtT.ze ?_
    refine AtT.done ?_
    refine At.nrm ?_
    refine At.round (k + 1) ?_ ?_ ?_ ?_
    ·show l.length - (k + 1) < l.length - k; omega
    ·refine ⟨rfl, by omega, ?_⟩
     rw [hnx, List.any_append, hany]; simp [hb]
    ·exact ⟨rfl, rfl, rfl, rfl, rfl, trivial⟩
    ·exact Pt.zy
  ·have hkk : k = l.length := by omega
   subst hkk
   rw [List.take_length] at hany
   refine At.nrm ?_
   refine At.zg (.q 0 .done) ?_
   refine AtT.zf ?_
   refine AtT.done ?_
   refine At.nrm ?_
   refine At.zV rfl (.tmp rfl) ⟨-1, rfl, ?_⟩
   rw [hany]; rfl
theorem contains_s (g : FuncId) (cap : List Value) (p : Nat → Bool) (V : View) (vl : Value) (l : List Nat) (hs : Sl V ste 1 vl l) (hok : zB Tryz.prog g)
  (hc : ∀ x, x ∈ l → Fnc Tryz.prog g ([] ++ [stv x] ++ cap) V (fun v _ => v = .bool (p x))) :
  Fnc Tryz.prog 56 [vl, .func (.func g) #[] cap.toArray] V fun v _ => v = .bool (l.any p) := by
 refine zT Tryz.func56 rfl Tryz.ntmps56 (Nat.le_of_ble_eq_true rfl) ?_
 intro w0 hw0
 refine At.nrm ?_
 refine At.zg (.q 0 .done) ?_
 refine AtT.zf ?_
 refine AtT.done ?_
 refine At.nrm ?_
 refine At.zg (.q 0 (.q 1 (.n false 2 (.q 3 (.q 4 .done))))) ?_
 refine AtT.ze ?_
 refine AtT.ze ?_
 refine AtT.zC rfl rfl ok99 (index_s g cap p V vl l hs hok hc) ?_
 rintro _ ⟨j, rfl, hj⟩
 refine AtT.kgeq ?_
 refine AtT.zf ?_
 refine AtT.done ?_
 refine At.nrm ?_
 refine At.zV rfl (.tmp rfl) ?_
 rw [hj]
theorem within1_f (n lo hi : Int) (V : View) (p1 p2 : Addr) (h1 : Cells V p1 [iv lo]) (h2 : Cells V p2 [iv hi]) :
  Fnc Tryz.prog 92 [iv n, .pointer (some p1), .pointer (some p2)] V fun v _ => v = .bool (outB lo hi n) := by
 refine zT Tryz.func92 rfl Tryz.ntmps92 (Nat.le_of_ble_eq_true rfl) ?_
 intro w0 hw0
 refine At.nrm ?_
 refine At.zg (.q 0 .done) ?_
 refine AtT.zf ?_
 refine AtT.done ?_
 refine At.nrm ?_
 refine At.zg (.q 0 (.q 1 (.q 2 (.q 3 (.q 4 (.q 5 (.q 6 (.q 7 (.q 8 .done))))))))) ?_
 refine AtT.ze ?_
 first | refine AtT.zu tk3 ?_ | refine AtT.zF tk3 ?_
 refine AtT.qW ?_
 refine AtT.ze ?_
 all_goals (first | refine AtT.kL 8 ?_ | refine AtT.zL (d := 8) rfl (fun hg8 => ?_) (fun hg8 => ?_) | refine AtT.zK (d := 8) rfl (fun hg8 => ?_) (fun hg8 => ?_))
 all_goals first|refine AtT.zi ?_|refine AtT.zh ?_|(refine AtT.ze ?_)
 all_goals first|refine AtT.zi ?_|refine AtT.zh ?_|(first | refine AtT.zu tk3 ?_ | refine AtT.zF tk3 ?_)
 all_goals first|refine AtT.zi ?_|refine AtT.zh ?_|(refine AtT.jv ?_)
 all_goals (refine AtT.zM ?_)
 all_goals (refine AtT.zf ?_)
 all_goals refine AtT.done ?_
 all_goals (refine At.nrm ?_)
 ·exact At.zV rfl (.tmp rfl) (by simp [outB, hg8])
 ·exact At.zV rfl (.tmp rfl) (by simp [outB, hg8])
theorem within_f (lo hi : Int) (l : List Int) (V : View) (vl : Value) (hs : SlI V vl l) :
  Fnc Tryz.prog 46 [iv lo, iv hi, vl] V fun v _ => v = .bool (wi lo hi l) := by
 refine zT Tryz.func46 rfl Tryz.ntmps46 (Nat.le_of_ble_eq_true rfl) ?_
 intro w0 hw0
 refine At.nrm ?_
 refine At.zg (.n false 0 (.n false 1 (.q 2 .done))) ?_
 refine AtT.kbox ?_
 intro b3
 refine AtT.kbox ?_
 intro b4
 refine AtT.zf ?_
 refine AtT.done ?_
 refine At.nrm ?_
 refine At.giveB (b := b3) zJ.zy ?_
 intro V3 hV3 hb3
 refine At.giveB (b := b4) zJ.zy ?_
 intro V4 hV4 hb4
 have hs4 := hs.le (hV3.trans hV4)
 have hc3 := (jf hb3).le hV4
 have hc4 := jf hb4
 refine At.zg (.q 0 (.q 1 (.n false 2 (.q 3 (.q 4 .done))))) ?_
 refine AtT.ze ?_
 refine AtT.kfn ?_
 refine AtT.zC rfl rfl ok83 (contains_n 92 [.pointer (some ⟨b3, 0, none⟩), .pointer (some ⟨b4, 0, none⟩)] (outB lo hi) V4 vl l hs4 ok92 (fun x _ => within1_f x lo hi V4 _ _ hc3 hc4)) ?_
 rintro _ rfl
 refine AtT.knot ?_
 refine AtT.zf ?_
 refine AtT.done ?_
 refine At.nrm ?_
 exact At.zV rfl (.tmp rfl) rfl
theorem ints_f (l m : List Int) (V : View) (v u : Value) (hs : SlI V v l) (hu : SlI V u m) : Fnc Tryz.prog 24 [v, u] V fun r _ => r = .bool (decide (l = m)) := by
 have hlen := hs.lenLe
 obtain ⟨a, c, rfl, k1, k2, _⟩ := id hs
 obtain ⟨a', c', rfl, k3, k4, _⟩ := id hu
 clear k1 k2 k3 k4
 refine zT Tryz.func24 rfl Tryz.ntmps24 (Nat.le_of_ble_eq_true rfl) ?_
 intro w0 hw0
 refine At.nrm ?_
 refine At.zg (.q 0 .done) ?_
 refine AtT.zf ?_
 refine AtT.done ?_
 refine At.nrm ?_
 refine At.zg (.q 0 (.q 1 (.q 2 (.q 3 (.q 4 .done))))) ?_
 refine AtT.ze ?_
 first | refine AtT.zP Tryz.underlying31 ?_ | refine AtT.zQ Tryz.underlying31 ?_
 refine AtT.ze ?_
 first | refine AtT.zP Tryz.underlying31 ?_ | refine AtT.zQ Tryz.underlying31 ?_
 refine AtT.kneI ?_
 refine AtT.done ?_
 refine At.nrm ?_
 refine At.zW rfl (fun hb => ?_) (fun hb => ?_)
 ·refine At.nrm ?_
  refine At.zg (.q 0 .done) ?_
  refine AtT.zf ?_
  refine AtT.done ?_
  refine At.nrm ?_
  refine At.zV rfl (.tmp rfl) ?_
  rw [decide_eq_false]
  rintro rfl
  exact hb rfl
 have hlm : l.length = m.length := by omega
 refine At.nrm ?_
 refine At.zg (.q 0 .done) ?_
 refine AtT.zf ?_
 refine AtT.done ?_
 refine At.nrm ?_
 refine At.lp (ι := Nat) (KS := fun k => [(0, .slice a l.length c), (1, .slice a' m.length c'), (5, iv k)]) (OS := fun _ => []) (VS := fun k V' => V' = V ∧ k ≤ l.length ∧ ∀ j, j < k → l[j]? = m[j]?) (μ := fun k => l.length - k) 0 ?_ ?_ ?_ ?_
 ·exact ⟨rfl, rfl, rfl, trivial⟩
 ·exact Pt.zy
 ·exact ⟨rfl, Nat.zero_le _, fun j hj => absurd hj (Nat.not_lt_zero j)⟩
 ·rintro k V' ks' O' ⟨rfl, hkl, hok⟩ hk hO hl2
  subst hk hO
  refine At.nrm ?_
  refine At.zg (.q 0 (.q 1 (.q 2 (.q 3 .done)))) ?_
  refine AtT.ze ?_
  refine AtT.ze ?_
  first | refine AtT.zP Tryz.underlying31 ?_ | refine AtT.zQ Tryz.underlying31 ?_
  refine AtT.qW ?_
  refine AtT.done ?_
  refine At.nrm ?_
  refine At.zW rfl (fun hp => ?_) (fun hp => ?_)
  ·obtain ⟨x, hx⟩ : ∃ x, l[k]? = some x := ⟨_, List.getElem?_eq_getElem (by omega)⟩
   obtain ⟨y, hy⟩ : ∃ y, m[k]? = some y := ⟨_, List.getElem?_eq_getElem (by omega)⟩
   refine At.nrm ?_
   refine At.draw (.q 0 (.q 1 (.q 2 (.q 3 (.q 4 (.q 5 (.q 6 (.q 7 (.q 8 .done))))))))) ffm (by kernel_rfl) ?_
   refine AtT.ze ?_
   refine AtT.ze ?_
   refine AtT.qK Tryz.underlying31 tk3 ?_
   intro p19 e19 he19 hc19
   obtain rfl : e19 = x := by have : l[k]? = some e19 := (by simpa using he19); rw [hx] at this; simpa using this.symm
   first | refine AtT.zu tk3 ?_ | refine AtT.zF tk3 ?_
   refine AtT.ze ?_
   refine AtT.ze ?_
   refine AtT.qK Tryz.underlying31 tk3 ?_
   intro p23 e23 he23 hc23
   obtain rfl : e23 = y := by have : m[k]? = some e23 := (by simpa using he23); rw [hy] at this; simpa using this.symm
   first | refine AtT.zu tk3 ?_ | refine AtT.zF tk3 ?_
   refine AtT.kneI ?_
   refine AtT.done ?_
   refine At.nrm ?_
   refine At.zW rfl (fun hc => ?_) (fun hc => ?_)
   ·refine At.nrm ?_
    refine At.zg (.q 0 .done) ?_
    refine AtT.zf ?_
    refine AtT.done ?_
    refine At.nrm ?_
    refine At.zV rfl (.tmp rfl) ?_
    rw [decide_eq_false]
    rintro rfl
    rw [hx] at hy
    cases hy
    exact hc rfl
   ·have hxy : l[k]? = m[k]? := by rw [hx, hy, Decidable.not_not.1 hc]
    refine At.nrm ?_
    refine At.zg (.q 0 (.q 1 (.q 2 .done))) ?_
    refine AtT.ze ?_
    first | refine AtT.qo ?_ | refine AtT.zS ?_
    refine AtT.zf ?_
    refine AtT.done ?_
    refine At.nrm ?_
    refine At.round (k + 1) ?_ ?_ ?_ ?_
    ·show l.length - (k + 1) < l.length - k; omega
    ·refine ⟨rfl, by omega, fun j hj => ?_⟩
     by_cases hjk : j = k
     ·subst hjk; exact hxy
     ·exact hok j (by omega)
    ·exact ⟨rfl, rfl, ivs (by omega), trivial⟩
    ·exact Pt.zy
  ·obtain rfl : k = l.length := by omega
   have hlm2 : l = m := List.ext_getElem? fun j => by
    by_cases hj : j < l.length
    ·exact hok j hj
    ·rw [List.getElem?_eq_none (by omega), List.getElem?_eq_none (by omega)]
   refine At.nrm ?_
   refine At.zg (.q 0 .done) ?_
   refine AtT.zf ?_
   refine AtT.done ?_
   refine At.nrm ?_
   exact At.zV rfl (.tmp rfl) (by rw [decide_eq_true hlm2])
end Go.Proofs.YtadbifpalpdocaaGreatDoor
end
section
set_option linter.unusedVariables false
set_option linter.unusedSimpArgs false
namespace Go.Proofs.YtadbifpalpdocaaGreatDoor
open Go.Lw Go.RowKit
theorem eqS83 (x1 : Int) (x2 : Int) : EqS Tryz.prog 83 [(.int .i64 x1)] [(.int .i64 x2)] (decide (x1 = x2)) := by
 refine ⟨by first | exact Tryz.eqGuardType83 | kernel_rfl, fun w => ?_⟩
 have u3 := Tryz.underlying3
 have a3 := Tryz.isAgg3
 have z3 := Tryz.sizeOf3
 have hS : Tryz.prog.underlying 83 = some (.struct (Tryz.prog.fieldsOf 83)) := by kernel_rfl
 have hp : Tryz.prog.stoodInHeld 83 = false := by kernel_rfl
 rw [show (10000 : Nat) = 9999 + 1 from rfl, run_equalIn_agg w 9999 83 _ _ hS hp]
 simp only [Program.fieldsOf, Tryz.underlying83]
 go_simp
 by_cases h0 : x1 = x2 <;> simp [*]
theorem eqS355 (x1 : Int) (x2 : Int) (x3 : Int) (x4 : Int) : EqS Tryz.prog 355 [(.int .i64 x1), (.int .i64 x2)] [(.int .i64 x3), (.int .i64 x4)] (decide (x1 = x3 ∧ x2 = x4)) := by
 refine ⟨by first | exact Tryz.eqGuardType355 | kernel_rfl, fun w => ?_⟩
 have u2 := Tryz.underlying2
 have a2 := Tryz.isAgg2
 have z2 := Tryz.sizeOf2
 have hS : Tryz.prog.underlying 355 = some (.struct (Tryz.prog.fieldsOf 355)) := by kernel_rfl
 have hp : Tryz.prog.stoodInHeld 355 = false := by kernel_rfl
 rw [show (10000 : Nat) = 9999 + 1 from rfl, run_equalIn_agg w 9999 355 _ _ hS hp]
 simp only [Program.fieldsOf, Tryz.underlying355]
 go_simp
 by_cases h0 : x1 = x3 <;> by_cases h1 : x2 = x4 <;> simp [*]
theorem fl83_0 (x1 : Int) (w : World) : (Instr.field 83 (.agg #[(.int .i64 x1)]) 0).run Tryz.prog w = .ok (.int .i64 x1) w := by kernel_rfl
end Go.Proofs.YtadbifpalpdocaaGreatDoor
end
section
set_option linter.unusedVariables false
namespace Go.Lw
open Go.RowKit
section
variable {cx : Cx} {n : Nat} {ks : List (Nat × Value)} {O : List Own} {V : View} {P : Program} {ops : Array Oper} {Qn : Act → World → Prop} {t : Tr} {i d : Nat} {T : TypeId} {pos : String} {after : Array Edge} {gd : Option (Nat × Bool)} {x y : Operand} {p q : Int} {X Z : TypeId}
theorem or_lt63 {A B : Nat} (hA : A < 9223372036854775808) (hB : B < 9223372036854775808) : A ||| B < 9223372036854775808 := Nat.or_lt_two_pow (n := 63) hA hB
theorem AtT.orN {A B : Nat} (ho : ops[i]? = some ⟨some d, .binOp .or X x y Z, T, pos, after, gd⟩) (hg : Gd ks ops gd) (hx : ev ks x = some (.int .i64 p)) (hy : ev ks y = some (.int .i64 q)) (hp : p = (A : Int)) (hq : q = (B : Int)) (hA : A < 9223372036854775808) (hB : B < 9223372036854775808) (hn : d < n)
  (next : AtT cx n ((d, .int .i64 ((A ||| B : Nat) : Int)) :: ks) O V P ops Qn t) : AtT cx n ks O V P ops Qn (.q i t) :=
 .q ho hg rfl hn (fun a w hk _ => by
  subst hp hq
  have hr : Op.intBits .or .i64 (A : Int) (B : Int) = (pure (.int .i64 ((A ||| B : Nat) : Int)) : Sem Value) := by
   show (pure (Value.int .i64 (IntKind.i64.wrap ((BitVec.ofInt 64 (A : Int) ||| BitVec.ofInt 64 (B : Int)).toNat : Int))) : Sem Value) = _
   rw [BitVec.toNat_or, ofInt_u64 A (by omega), ofInt_u64 B (by omega), Go.Lib.wrap_i64_small _ (or_lt63 hA hB)]
  simp [execOp, hk.ev hx, hk.ev hy, eqGuard_or, binOp_or, hr]) next
end
end Go.Lw
end
section
set_option linter.unusedVariables false
namespace Go.Proofs.YtadbifpalpdocaaGreatDoor
open Go.Lw Go.Gl Go.Bl Go.RowKit
theorem sound_f (p : Pq) (V : View) : Fnc Tryz.prog 18 [pqv p] V fun r _ => r = .bool (kF p) := by
 refine zT Tryz.func18 rfl Tryz.ntmps18 (Nat.le_of_ble_eq_true rfl) ?_
 intro w0 hw0
 refine At.nrm ?_
 refine At.zg (.n false 0 (.q 1 .done)) ?_
 refine AtT.kbox ?_
 intro b1
 refine AtT.zf ?_
 refine AtT.done ?_
 refine At.nrm ?_
 refine At.zg (.q 0 (.q 1 (.q 2 (.q 3 (.q 4 (.q 5 (.n false 6 (.n false 7 (.q 8 .done))))))))) ?_
 first | refine AtT.zk fo36_0 ?_ | with_reducible refine AtT.zm fo36_0 ?_ | refine AtT.zo fo36_0 ?_
 first | refine AtT.zu tk3 ?_ | refine AtT.zF tk3 ?_
 first | refine AtT.zk fo36_1 ?_ | with_reducible refine AtT.zm fo36_1 ?_ | refine AtT.zo fo36_1 ?_
 first | refine AtT.zu tk3 ?_ | refine AtT.zF tk3 ?_
 first | refine AtT.zk fo36_2 ?_ | with_reducible refine AtT.zm fo36_2 ?_ | refine AtT.zo fo36_2 ?_
 first | refine AtT.zu tk3 ?_ | refine AtT.zF tk3 ?_
 refine AtT.qb (bs31_3_0_1_2 _ _ _) ?_
 intro q9 V9 hV9 hq9
 refine AtT.zC rfl rfl ok46 (within_f 0 4 [p.m, p.o, p.h] _ _ (Sl.lit hq9 rfl (by simp))) ?_
 rintro _ rfl; rw [wi_pq]
 refine AtT.zf ?_
 refine AtT.done ?_
 refine At.nrm ?_
 exact At.zV rfl (.tmp rfl) rfl
theorem bad_f (t : Tq) (V : View) : Fnc Tryz.prog 45 ([] ++ [tqv t] ++ []) V fun r _ => r = .bool (badT t) := by
 refine zT Tryz.func45 rfl Tryz.ntmps45 (Nat.le_of_ble_eq_true rfl) ?_
 intro w0 hw0
 refine At.nrm ?_
 refine At.zg (.n false 0 (.q 1 .done)) ?_
 refine AtT.kbox ?_
 intro b1
 refine AtT.zf ?_
 refine AtT.done ?_
 refine At.nrm ?_
 refine At.zg (.q 0 (.q 1 (.n false 2 (.q 3 (.q 4 .done))))) ?_
 first | refine AtT.zk fo38_0 ?_ | with_reducible refine AtT.zm fo38_0 ?_ | refine AtT.zo fo38_0 ?_
 first | refine AtT.zx tk36 ?_ | refine AtT.zD tk36 ?_ | refine AtT.zw tk36 ?_
 refine AtT.zC rfl rfl ok18 (sound_f t.p _) ?_
 rintro _ rfl
 refine AtT.knot ?_
 refine AtT.zf ?_
 refine AtT.done ?_
 refine At.nrm ?_
 exact At.zV rfl (.tmp rfl) rfl
theorem trials_f (ts : List Tq) (V : View) (v : Value) (hs : Sl V tqe 4 v ts) : Fnc Tryz.prog 17 [v] V fun r _ => r = iv (trE ts) := by
 have hs' := hs
 obtain ⟨a, c, rfl, k1, k2, _⟩ := id hs
 clear k1 k2
 refine zT Tryz.func17 rfl Tryz.ntmps17 (Nat.le_of_ble_eq_true rfl) ?_
 intro w0 hw0
 refine At.nrm ?_
 refine At.zg (.q 0 .done) ?_
 refine AtT.zf ?_
 refine AtT.done ?_
 refine At.nrm ?_
 refine At.zg (.q 0 (.q 1 (.q 2 (.q 3 .done)))) ?_
 refine AtT.ze ?_
 first | refine AtT.zP Tryz.underlying34 ?_ | refine AtT.zQ Tryz.underlying34 ?_
 refine AtT.jv ?_
 refine AtT.zf ?_
 refine AtT.done ?_
 refine At.nrm ?_
 refine At.zW rfl (fun hb => ?_) (fun hb => ?_)
 ·refine At.nrm ?_
  refine At.zg (.q 0 .done) ?_
  refine AtT.zf ?_
  refine AtT.done ?_
  refine At.nrm ?_
  refine At.zV rfl (.tmp rfl) ?_
  rw [trE, if_pos (by omega)]
 have hb' : ¬ 16 < ts.length := by omega
 refine At.nrm ?_
 refine At.zg (.q 0 (.n false 1 (.q 2 .done))) ?_
 refine AtT.ze ?_
 refine AtT.zC rfl rfl ok44 (contains_t 45 [] badT _ _ ts hs' ok45 (fun t _ => bad_f t _)) ?_
 rintro _ rfl
 refine AtT.zf ?_
 refine AtT.done ?_
 refine At.nrm ?_
 refine At.cond rfl (fun hc => ?_) (fun hc => ?_)
 ·refine At.nrm ?_
  refine At.zg (.q 0 .done) ?_
  refine AtT.zf ?_
  refine AtT.done ?_
  refine At.nrm ?_
  refine At.zV rfl (.tmp rfl) ?_
  rw [trE, if_neg hb', if_pos hc]
 refine At.nrm ?_
 refine At.zg (.q 0 .done) ?_
 refine AtT.zf ?_
 refine AtT.done ?_
 refine At.nrm ?_
 refine At.zV rfl (.tmp rfl) ?_
 rw [trE, if_neg hb', if_neg (by rw [hc]; simp)]
theorem panel_f (m o h : Int) (V : View) : Fnc Tryz.prog 10 [iv m, iv o, iv h] V fun r _ => r = pqv ⟨m, o, h⟩ := by
 refine zT Tryz.func10 rfl Tryz.ntmps10 (Nat.le_of_ble_eq_true rfl) ?_
 intro w0 hw0
 refine At.nrm ?_
 refine At.zg (.n false 0 .done) ?_
 refine AtT.qD z36 ?_
 intro b6
 refine AtT.done ?_
 refine At.nrm ?_
 refine At.zg (.q 0 (.q 1 (.q 2 (.q 3 (.n true 4 .done))))) ?_
 refine AtT.ze ?_
 refine AtT.ze ?_
 refine AtT.ze ?_
 refine AtT.jK (bd36_0_1_2 _ _ _) ?_
 refine AtT.zY tk36 ?_
 refine AtT.done ?_
 refine At.nrm ?_
 exact At.zV rfl (.agg rfl tk36 zJ.zy rfl) rfl
theorem trial_f (m o h : Int) (f : Bool) (V : View) : Fnc Tryz.prog 8 [iv m, iv o, iv h, .bool f] V fun r _ => r = tqv ⟨⟨m, o, h⟩, f⟩ := by
 refine zT Tryz.func8 rfl Tryz.ntmps8 (Nat.le_of_ble_eq_true rfl) ?_
 intro w0 hw0
 refine At.nrm ?_
 refine At.zg (.n false 0 .done) ?_
 refine AtT.qD z38 ?_
 intro b8
 refine AtT.done ?_
 refine At.nrm ?_
 refine At.zg (.q 0 (.q 1 (.q 2 (.n false 3 (.q 4 (.q 5 (.n true 6 .done))))))) ?_
 refine AtT.ze ?_
 refine AtT.ze ?_
 refine AtT.ze ?_
 refine AtT.zC rfl rfl ok10 (panel_f _ _ _ _) ?_
 rintro _ rfl
 refine AtT.ze ?_
 refine AtT.jK (bd38_0_1 _ _ _ _) ?_
 refine AtT.zY tk38 ?_
 refine AtT.done ?_
 refine At.nrm ?_
 exact At.zV rfl (.agg rfl tk38 zJ.zy rfl) rfl
theorem of_f (v : Value) (V : View) : Fnc Tryz.prog 37 [v] V fun r _ => r = v := by
 refine zT Tryz.func37 rfl Tryz.ntmps37 (Nat.le_of_ble_eq_true rfl) ?_
 intro w0 hw0
 refine At.nrm ?_
 refine At.zg (.q 0 .done) ?_
 refine AtT.zf ?_
 refine AtT.done ?_
 refine At.nrm ?_
 refine At.zg (.q 0 (.q 1 .done)) ?_
 refine AtT.ze ?_
 refine AtT.zf ?_
 refine AtT.done ?_
 refine At.nrm ?_
 exact At.zV rfl (.tmp rfl) rfl
end Go.Proofs.YtadbifpalpdocaaGreatDoor
end
section
set_option linter.unusedVariables false
namespace Go.Bl
open Go.Gl Go.Lw
theorem btL_take {l : List Int} {k : Nat} {x : Int} (h : l[k]? = some x) : btL (l.take (k + 1)) = btL (l.take k) ||| 2 ^ x.toNat := by rw [take_snoc' h, btL_snoc]
theorem btT_lt {l : List Int} (h : ∀ x ∈ l, 0 ≤ x ∧ x < 15) (k : Nat) : btL (l.take k) < 32768 := btL_lt (n := 15) fun x hx => by have := h x (List.mem_of_mem_take hx); omega
theorem pow_lt15 {x : Int} (h : 0 ≤ x ∧ x < 15) : 2 ^ x.toNat < 32768 := by
 have := Nat.pow_le_pow_right (n := 2) (by decide) (show x.toNat ≤ 14 by omega)
 omega
def mtB (A B : Nat) : Bool := decide (A &&& B ≠ 0)
theorem mt_pos (A B : Nat) : decide ((0 : Int) < ((A &&& B : Nat) : Int)) = mtB A B := by
 unfold mtB; rw [decide_eq_decide]; omega
def lfI (no : Nat) (t : Tq) : Int := if t.f = true then ((clrB (cbN t.p) no : Nat) : Int) else -1
def lfL (ts : List Tq) : List Int := ts.map (lfI (clA ts))
def exI (A : Nat) (x : Int) : Bool := !decide (0 ≤ x ∧ x.toNat &&& A = 0)
def exB (left : List Int) (A : Nat) : Bool := left.all (exI A)
def ccR (ts : List Tq) (l : List Int) : Int :=
 if trE ts ≠ 0 then trE ts else if lstB l 15 = false then 2 else if btL l &&& clA ts ≠ 0 then 16 else if exB (lfL ts) (btL l) = false then 26 else 0
theorem ccR_tr {ts : List Tq} {l : List Int} (h : trE ts ≠ 0) : ccR ts l = trE ts := by rw [ccR, if_pos h]
theorem ccR_arg {ts : List Tq} {l : List Int} (h : trE ts = 0) (h1 : lstB l 15 = false) : ccR ts l = 2 := by rw [ccR, if_neg (by simp [h]), if_pos h1]
theorem ccR_rule {ts : List Tq} {l : List Int} (h : trE ts = 0) (h1 : lstB l 15 = true) (h2 : btL l &&& clA ts ≠ 0) : ccR ts l = 16 := by rw [ccR, if_neg (by simp [h]), if_neg (by simp [h1]), if_pos h2]
theorem ccR_boil {ts : List Tq} {l : List Int} (h : trE ts = 0) (h1 : lstB l 15 = true) (h2 : btL l &&& clA ts = 0) (h3 : exB (lfL ts) (btL l) = false) : ccR ts l = 26 := by rw [ccR, if_neg (by simp [h]), if_neg (by simp [h1]), if_neg (by simp [h2]), if_pos h3]
theorem ccR_ok {ts : List Tq} {l : List Int} (h : trE ts = 0) (h1 : lstB l 15 = true) (h2 : btL l &&& clA ts = 0) (h3 : exB (lfL ts) (btL l) = true) : ccR ts l = 0 := by rw [ccR, if_neg (by simp [h]), if_neg (by simp [h1]), if_neg (by simp [h2]), if_neg (by simp [h3])]
theorem btL_bitL {A n : Nat} (h : A < 2 ^ n) : btL (zX A n) = A := by
 refine Nat.eq_of_testBit_eq fun i => ?_
 have := btL_bit (l := zX A n) (i := i) fun x hx => by obtain ⟨j, _, rfl, _⟩ := jQ.1 hx; omega
 rw [jQ] at this
 cases c : A.testBit i with
 | true =>
  rw [this]
  refine ⟨i, ?_, rfl, c⟩
  apply Classical.byContradiction
  intro hc
  rw [Nat.testBit_lt_two_pow (Nat.lt_of_lt_of_le h (Nat.pow_le_pow_right (by decide) (by omega)))] at c; cases c
 | false =>
  cases d : (btL (zX A n)).testBit i with
  | false => rfl
  | true => obtain ⟨j, _, hj, hb⟩ := this.1 d; rw [show j = i by omega] at hb; rw [hb] at c; cases c
end Go.Bl
end
section
set_option linter.unusedVariables false
namespace Go.Proofs.YtadbifpalpdocaaGreatDoor
open Go.Lw Go.Gl Go.Bl Go.RowKit
theorem setOf_f (l : List Int) (hl : ∀ x ∈ l, 0 ≤ x ∧ x < 15) (V : View) (v : Value) (hs : SlI V v l) : Fnc Tryz.prog 55 [v] V fun r _ => r = stv (btL l) := by
 have hlen := hs.lenLe
 obtain ⟨a, c, rfl, k1, k2, _⟩ := id hs
 clear k1 k2
 refine zT Tryz.func55 rfl Tryz.ntmps55 (Nat.le_of_ble_eq_true rfl) ?_
 intro w0 hw0
 refine At.nrm ?_
 refine At.zg (.n false 0 .done) ?_
 refine AtT.qD z83 ?_
 intro b2
 refine AtT.done ?_
 refine At.nrm ?_
 refine At.zg (.q 0 (.n false 1 (.n true 2 .done))) ?_
 refine AtT.jK (bd83) ?_
 refine AtT.qD z83 ?_
 intro b3
 refine AtT.zY zO ?_
 refine AtT.done ?_
 refine At.nrm ?_
 refine At.zg (.q 0 (.q 1 (.q 2 .done))) ?_
 refine AtT.ze ?_
 first | refine AtT.zP Tryz.underlying31 ?_ | refine AtT.zQ Tryz.underlying31 ?_
 refine AtT.ze ?_
 refine AtT.done ?_
 refine At.nrm ?_
 refine At.lp (ι := Nat) (KS := fun k => [(2, .pointer (some ⟨b2, 0, none⟩)), (3, .pointer (some ⟨b3, 0, none⟩)), (7, .slice a l.length c), (8, iv l.length), (9, iv k)]) (OS := fun k => [.blk b2 (LC [iv 0] 83), .blk b3 (LC [iv (btL (l.take k))] 83)]) (VS := fun k V' => V' = V ∧ k ≤ l.length) (μ := fun k => l.length - k) 0 ?_ ?_ ?_ ?_
 ·exact ⟨rfl, rfl, rfl, rfl, rfl, trivial⟩
 ·exact Pt.zy
 ·exact ⟨rfl, Nat.zero_le _⟩
 ·rintro k V' ks' O' ⟨rfl, hkl⟩ hk hO hl2
  subst hk hO
  have hb := btT_lt hl k
  refine At.nrm ?_
  refine At.zg (.q 0 .done) ?_
  refine AtT.qW ?_
  refine AtT.done ?_
  refine At.nrm ?_
  refine At.zW rfl (fun hp => ?_) (fun hp => ?_)
  ·obtain ⟨x, hx⟩ : ∃ x, l[k]? = some x := ⟨_, List.getElem?_eq_getElem (by omega)⟩
   have hx0 := hl x (List.mem_of_getElem? hx)
   have hpw := pow_lt15 hx0
   have hnx := btL_take hx
   refine At.nrm ?_
   refine At.zg (.q 0 (.q 1 (.q 2 .done))) ?_
   refine AtT.qK Tryz.underlying31 tk3 ?_
   intro p11 e11 he11 hc11
   obtain rfl : e11 = x := by have : l[k]? = some e11 := (by simpa using he11); rw [hx] at this; simpa using this.symm
   first | refine AtT.zu tk3 ?_ | refine AtT.zF tk3 ?_
   refine AtT.zf ?_
   refine AtT.done ?_
   refine At.nrm ?_
   refine At.draw (.q 0 (.q 1 (.q 2 (.q 3 (.q 4 (.q 5 (.n true 6 .done))))))) ffm (by kernel_rfl) ?_
   first | refine AtT.zk qF ?_ | with_reducible refine AtT.zm qF ?_ | refine AtT.zo qF ?_
   first | refine AtT.zu tk3 ?_ | refine AtT.zF tk3 ?_
   refine AtT.ze ?_
   refine AtT.shlN rfl trivial rfl rfl (N := e11.toNat) (by omega) (by omega) (by decide) ?_
   refine AtT.orN rfl trivial rfl rfl rfl rfl (by omega) (by omega) (by decide) (A := btL (l.take k)) (B := 2 ^ e11.toNat) ?_
   first | refine AtT.zk qF ?_ | with_reducible refine AtT.zm qF ?_ | refine AtT.zo qF ?_
   first | refine AtT.kstore1 tk3 ?_ | refine AtT.zY tk3 ?_
   refine AtT.done ?_
   refine At.nrm ?_
   refine At.zg (.q 0 (.q 1 .done)) ?_
   first | refine AtT.qo ?_ | refine AtT.zS ?_
   refine AtT.ze ?_
   refine AtT.done ?_
   refine At.nrm ?_
   refine At.round (k + 1) ?_ ?_ ?_ ?_
   ·show l.length - (k + 1) < l.length - k; omega
   ·exact ⟨rfl, by omega⟩
   ·exact ⟨rfl, rfl, rfl, rfl, ivs (by omega), trivial⟩
   rw [hnx]
   ·exact Pt.zy
  ·obtain rfl : k = l.length := by omega
   rw [List.take_length]
   refine At.nrm ?_
   refine At.zg (.q 0 (.n true 1 .done)) ?_
   first | refine AtT.zx zO ?_ | refine AtT.zD zO ?_ | refine AtT.zw zO ?_
   refine AtT.zY zO ?_
   refine AtT.done ?_
   refine At.nrm ?_
   exact At.zV rfl (.agg rfl zO zJ.zy rfl) rfl
theorem meets_f (A B : Nat) (hA : A < 9223372036854775808) (hB : B < 9223372036854775808) (V : View) : Fnc Tryz.prog 52 [stv A, stv B] V fun r _ => r = .bool (mtB A B) := by
 refine zT Tryz.func52 rfl Tryz.ntmps52 (Nat.le_of_ble_eq_true rfl) ?_
 intro w0 hw0
 refine At.nrm ?_
 refine At.zg (.n false 0 (.n false 1 (.q 2 .done))) ?_
 refine AtT.kbox ?_
 intro b2
 refine AtT.kbox ?_
 intro b3
 refine AtT.zf ?_
 refine AtT.done ?_
 refine At.nrm ?_
 refine At.zg (.q 0 (.q 1 (.q 2 (.q 3 (.q 4 (.q 5 (.q 6 .done))))))) ?_
 first | refine AtT.zk qF ?_ | with_reducible refine AtT.zm qF ?_ | refine AtT.zo qF ?_
 first | refine AtT.zu tk3 ?_ | refine AtT.zF tk3 ?_
 first | refine AtT.zk qF ?_ | with_reducible refine AtT.zm qF ?_ | refine AtT.zo qF ?_
 first | refine AtT.zu tk3 ?_ | refine AtT.zF tk3 ?_
 refine AtT.andN rfl trivial rfl rfl rfl rfl hA hB (by decide) (A := A) (B := B) ?_
 refine AtT.jv ?_
 refine AtT.zf ?_
 refine AtT.done ?_
 refine At.nrm ?_
 exact At.zV rfl (.tmp rfl) (by rw [mt_pos])
theorem causes_f (p : Pq) (hp : kF p = true) (V : View) : Fnc Tryz.prog 51 [pqv p] V fun r _ => r = stv (cbN p) := by
 have hs := hp
 unfold kF at hs
 rw [decide_eq_true_eq] at hs
 refine zT Tryz.func51 rfl Tryz.ntmps51 (Nat.le_of_ble_eq_true rfl) ?_
 intro w0 hw0
 refine At.nrm ?_
 refine At.zg (.n false 0 (.n false 1 .done)) ?_
 refine AtT.kbox ?_
 intro b1
 refine AtT.qD z83 ?_
 intro b2
 refine AtT.done ?_
 refine At.nrm ?_
 refine At.zg (.q 0 (.q 1 (.q 2 (.q 3 (.q 4 (.q 5 (.q 6 (.q 7 (.n false 8 (.n false 9 (.n true 10 .done))))))))))) ?_
 first | refine AtT.zk fo36_0 ?_ | with_reducible refine AtT.zm fo36_0 ?_ | refine AtT.zo fo36_0 ?_
 first | refine AtT.zu tk3 ?_ | refine AtT.zF tk3 ?_
 first | refine AtT.zk fo36_1 ?_ | with_reducible refine AtT.zm fo36_1 ?_ | refine AtT.zo fo36_1 ?_
 first | refine AtT.zu tk3 ?_ | refine AtT.zF tk3 ?_
 first | refine AtT.qo ?_ | refine AtT.zS ?_
 first | refine AtT.zk fo36_2 ?_ | with_reducible refine AtT.zm fo36_2 ?_ | refine AtT.zo fo36_2 ?_
 first | refine AtT.zu tk3 ?_ | refine AtT.zF tk3 ?_
 first | refine AtT.qo ?_ | refine AtT.zS ?_
 refine AtT.qb (bs31_3_0_1_2 _ _ _) ?_
 intro q11 V11 hV11 hq11
 refine AtT.zC rfl rfl ok55 (setOf_f (caL p) (caL_in hp) _ _ (Sl.lit hq11 rfl (by simp [caL]))) ?_
 rintro _ rfl
 refine AtT.zY zO ?_
 refine AtT.done ?_
 refine At.nrm ?_
 exact At.zV rfl (.agg rfl zO zJ.zy rfl) rfl
theorem list_f (A : Nat) (hA : A < 9223372036854775808) (V : View) : Fnc Tryz.prog 53 [stv A] V fun r V' => SlI V' r (zX A 15) := by
 refine zT Tryz.func53 rfl Tryz.ntmps53 (Nat.le_of_ble_eq_true rfl) ?_
 intro w0 hw0
 refine At.nrm ?_
 refine At.zg (.n false 0 (.q 1 .done)) ?_
 refine AtT.kbox ?_
 intro b1
 refine AtT.zf ?_
 refine AtT.done ?_
 refine At.nrm ?_
 refine At.zg (.q 0 .done) ?_
 refine AtT.zf ?_
 refine AtT.done ?_
 refine At.nrm ?_
 refine At.zg (.q 0 .done) ?_
 refine AtT.ze ?_
 refine AtT.done ?_
 refine At.nrm ?_
 refine At.newRow 3 1 ?_
 refine At.lp (ι := Nat × Option Addr × Nat) (KS := fun g => [(1, .pointer (some ⟨b1, 0, none⟩)), (3, .slice g.2.1 (zX A g.1).length g.2.2), (5, iv g.1)]) (OS := fun g => [.row (.slice g.2.1 (zX A g.1).length g.2.2) 3 1 (zX A g.1).length (flat ei (zX A g.1)), .blk b1 (LC [iv A] 83)]) (VS := fun g V' => Le V V' ∧ g.1 ≤ 15) (μ := fun g => 15 - g.1) (0, none, 0) ?_ ?_ ?_ ?_
 ·exact ⟨rfl, rfl, rfl, trivial⟩
 ·exact Pt.zy
 ·exact ⟨Le.refl _, Nat.zero_le _⟩
 ·rintro ⟨k, ao, co⟩ V' ks' O' ⟨hVV, hkl⟩ hk hO hl2
  dsimp only at hkl hk hO
  subst hk hO
  have hkn := bitL_len A k
  refine At.nrm ?_
  refine At.zg (.q 0 .done) ?_
  refine AtT.qW ?_
  refine AtT.done ?_
  refine At.nrm ?_
  refine At.zW rfl (fun hp => ?_) (fun hp => ?_)
  ·have hsr : A >>> k < 9223372036854775808 := Nat.lt_of_le_of_lt (by rw [Nat.shiftRight_eq_div_pow]; exact Nat.div_le_self _ _) hA
   refine At.nrm ?_
   refine At.zg (.q 0 (.q 1 .done)) ?_
   refine AtT.ze ?_
   refine AtT.zf ?_
   refine AtT.done ?_
   refine At.nrm ?_
   refine At.zg (.q 0 (.q 1 (.q 2 (.q 3 (.q 4 (.q 5 .done)))))) ?_
   first | refine AtT.zk qF ?_ | with_reducible refine AtT.zm qF ?_ | refine AtT.zo qF ?_
   first | refine AtT.zu tk3 ?_ | refine AtT.zF tk3 ?_
   refine AtT.ze ?_
   refine AtT.shrN rfl trivial rfl rfl rfl rfl (by omega) (by decide) (A := A) (N := k) ?_
   refine AtT.andN rfl trivial rfl rfl rfl rfl hsr (by decide) (by decide) (A := A >>> k) (B := 1) ?_
   refine AtT.jJ ?_
   refine AtT.done ?_
   refine At.nrm ?_
   refine At.zW rfl (fun hc => ?_) (fun hc => ?_)
   ·have hb : A.testBit k = true := (bit_iff A k).1 hc
    have hn2 : zX A (k + 1) = zX A k ++ [(k : Int)] := by simp only [zX, hb, if_true]
    refine At.nrm ?_
    refine At.zg (.q 0 (.q 1 (.n false 2 (.n true 3 (.q 4 .done))))) ?_
    refine AtT.ze ?_
    refine AtT.ze ?_
    refine AtT.qb (qZ _) ?_
    intro q16 V16 hV16 hq16
    have g16 : Le V V16 := by first | exact hV16 | exact Le.trans (by assumption) hV16
    first | refine AtT.kappend Tryz.underlying31 rw3 ?_
    intro a17 c17
    refine AtT.zf ?_
    refine AtT.done ?_
    refine At.nrm ?_
    refine At.zg (.q 0 (.q 1 .done)) ?_
    first | refine AtT.qo ?_ | refine AtT.zS ?_
    refine AtT.ze ?_
    refine AtT.done ?_
    refine At.nrm ?_
    refine At.round (k + 1, a17, c17) ?_ ?_ ?_ ?_
    ·show 15 - (k + 1) < 15 - k; omega
    ·exact ⟨hVV.trans (by assumption), by dsimp only; omega⟩
    ·dsimp only; rw [hn2, List.length_append]; exact ⟨rfl, rfl, ivs (by omega), trivial⟩
    dsimp only
    rw [hn2, je, List.length_append]
    ·exact Pt.zy
   ·have hb : ¬ A.testBit k = true := fun h => hc ((bit_iff A k).2 h)
    have hn2 : zX A (k + 1) = zX A k := by simp only [zX, if_neg hb]
    refine At.nrm ?_
    refine At.zg (.q 0 (.q 1 .done)) ?_
    first | refine AtT.qo ?_ | refine AtT.zS ?_
    refine AtT.ze ?_
    refine AtT.done ?_
    refine At.nrm ?_
    refine At.round (k + 1, ao, co) ?_ ?_ ?_ ?_
    ·show 15 - (k + 1) < 15 - k; omega
    ·exact ⟨hVV, by dsimp only; omega⟩
    ·dsimp only; rw [hn2]; exact ⟨rfl, rfl, ivs (by omega), trivial⟩
    dsimp only
    rw [hn2]
    ·exact Pt.zy
  ·obtain rfl : k = 15 := by omega
   refine At.nrm ?_
   refine At.zg (.q 0 (.q 1 .done)) ?_
   refine AtT.ze ?_
   refine AtT.zf ?_
   refine AtT.done ?_
   refine At.nrm ?_
   refine At.giveSl Lw.ei_len rfl rfl zJ.zy (fun V4 hV4 hs4 => ?_)
   exact At.zV rfl (.tmp rfl) hs4
theorem rising_f (l : List Int) (n : Int) (hn : 0 ≤ n ∧ n ≤ 1000) (V : View) (v : Value) (hs : SlI V v l) : Fnc Tryz.prog 54 [v, iv n] V fun r _ => r = .bool (lstB l n) := by
 have hlen := hs.lenLe
 obtain ⟨a, c, rfl, k1, k2, _⟩ := id hs
 clear k1 k2
 refine zT Tryz.func54 rfl Tryz.ntmps54 (Nat.le_of_ble_eq_true rfl) ?_
 intro w0 hw0
 refine At.nrm ?_
 refine At.zg (.q 0 .done) ?_
 refine AtT.zf ?_
 refine AtT.done ?_
 refine At.nrm ?_
 refine At.zg (.q 0 .done) ?_
 refine AtT.zf ?_
 refine AtT.done ?_
 refine At.nrm ?_
 refine At.zg (.q 0 (.q 1 (.q 2 .done))) ?_
 refine AtT.ze ?_
 first | refine AtT.zP Tryz.underlying31 ?_ | refine AtT.zQ Tryz.underlying31 ?_
 refine AtT.ze ?_
 refine AtT.done ?_
 refine At.nrm ?_
 refine At.lp (ι := Nat) (KS := fun k => [(1, iv n), (5, iv (prevN l k)), (8, .slice a l.length c), (9, iv l.length), (10, iv k)]) (OS := fun _ => []) (VS := fun k V' => Le V V' ∧ k ≤ l.length ∧ (∀ j, j < k → okAt l n j = true)) (μ := fun k => l.length - k) 0 ?_ ?_ ?_ ?_
 ·exact ⟨rfl, rfl, rfl, rfl, rfl, trivial⟩
 ·exact Pt.zy
 ·exact ⟨Le.refl _, Nat.zero_le _, fun j hj => absurd hj (Nat.not_lt_zero j)⟩
 ·rintro k V' ks' O' ⟨hVV, hkl, hok⟩ hk hO hl2
  subst hk hO
  have hp0 := prevN_pos hok
  have hs' := hs.le hVV
  have hpn : prevN l k ≤ 1000 := by
   match k, hok with
   | 0, _ => simp [prevN]
   | m + 1, hok =>
    have := hok m (by omega)
    unfold okAt at this
    rw [decide_eq_true_eq] at this
    simp only [prevN]; omega
  refine At.nrm ?_
  refine At.zg (.q 0 .done) ?_
  refine AtT.qW ?_
  refine AtT.done ?_
  refine At.nrm ?_
  refine At.zW rfl (fun hp => ?_) (fun hp => ?_)
  ·obtain ⟨x, hx⟩ : ∃ x, l[k]? = some x := ⟨_, List.getElem?_eq_getElem (by omega)⟩
   have hgx : l.getD k 0 = x := by simp [List.getD, hx]
   refine At.nrm ?_
   refine At.zg (.q 0 (.q 1 (.q 2 .done))) ?_
   refine AtT.qK Tryz.underlying31 tk3 ?_
   intro p12 e12 he12 hc12
   obtain rfl : e12 = x := by have : l[k]? = some e12 := (by simpa using he12); rw [hx] at this; simpa using this.symm
   first | refine AtT.zu tk3 ?_ | refine AtT.zF tk3 ?_
   refine AtT.zf ?_
   refine AtT.done ?_
   refine At.nrm ?_
   have hw := wi1 (prevN l k) (n - 1) e12
   refine At.zg (.q 0 (.q 1 (.q 2 (.q 3 (.n false 4 (.n false 5 (.q 6 .done))))))) ?_
   refine AtT.ze ?_
   refine AtT.ze ?_
   first | refine AtT.ksubt ?_ | refine AtT.ksubW ?_
   refine AtT.ze ?_
   refine AtT.qb (qZ _) ?_
   intro q18 V18 hV18 hq18
   have g18 : Le V V18 := by first | exact hV18 | exact Le.trans (by assumption) hV18
   refine AtT.zC rfl rfl ok46 (within_f (prevN l k) (n - 1) [e12] _ _ (Sl.lit hq18 rfl (by simp))) ?_
   rintro _ rfl; rw [hw]
   refine AtT.knot ?_
   refine AtT.done ?_
   refine At.nrm ?_
   by_cases c1 : prevN l k ≤ e12 ∧ e12 ≤ n - 1
   ·refine At.qB rfl (by rw [decide_eq_true c1]; rfl) ?_
    refine At.nrm ?_
    refine At.zg (.q 0 (.q 1 (.q 2 .done))) ?_
    refine AtT.ze ?_
    first | refine AtT.qo ?_ | refine AtT.zS ?_
    refine AtT.zf ?_
    refine AtT.done ?_
    refine At.nrm ?_
    refine At.zg (.q 0 (.q 1 .done)) ?_
    first | refine AtT.qo ?_ | refine AtT.zS ?_
    refine AtT.ze ?_
    refine AtT.done ?_
    refine At.nrm ?_
    refine At.round (k + 1) ?_ ?_ ?_ ?_
    ·show l.length - (k + 1) < l.length - k; omega
    ·refine ⟨hVV.trans (by assumption), by omega, fun j hj => ?_⟩
     by_cases hjk : j = k
     ·subst hjk; unfold okAt; rw [hgx]; exact decide_eq_true (by omega)
     ·exact hok j (by omega)
    ·exact ⟨rfl, ivs (by simp only [prevN]; rw [hgx]), rfl, rfl, ivs (by omega), trivial⟩
    ·exact Pt.zy
   ·refine At.qQ rfl (by rw [decide_eq_false c1]; rfl) ?_
    refine At.nrm ?_
    refine At.zg (.q 0 .done) ?_
    refine AtT.zf ?_
    refine AtT.done ?_
    refine At.nrm ?_
    exact At.zV rfl (.tmp rfl) (by rw [lstB_false (k := k) (by omega) (by unfold okAt; rw [hgx]; exact decide_eq_false (by omega))])
  ·obtain rfl : k = l.length := by omega
   refine At.nrm ?_
   refine At.zg (.q 0 .done) ?_
   refine AtT.zf ?_
   refine AtT.done ?_
   refine At.nrm ?_
   exact At.zV rfl (.tmp rfl) (by rw [lstB_true hok])
end Go.Proofs.YtadbifpalpdocaaGreatDoor
end
section
set_option linter.unusedVariables false
namespace Go.Bl
open Go.Gl Go.Lw
def flK (ts : List Tq) : Nat → List Int
 | 0 => []
 | k + 1 => match ts[k]? with
  | some t => if t.f = true then flK ts k ++ [(k : Int)] else flK ts k
  | none => flK ts k
def lsK (no : Nat) (ts : List Tq) : Nat → List Nat
 | 0 => []
 | k + 1 => match ts[k]? with
  | some t => if t.f = true then lsK no ts k ++ [clrB (cbN t.p) no] else lsK no ts k
  | none => lsK no ts k
def flL (ts : List Tq) : List Int := flK ts ts.length
def lsL (ts : List Tq) : List Nat := lsK (clA ts) ts ts.length
theorem flK_t {ts : List Tq} {k : Nat} {t : Tq} (h : ts[k]? = some t) (hf : t.f = true) : flK ts (k + 1) = flK ts k ++ [(k : Int)] := by simp only [flK, h, hf, if_true]
theorem flK_f {ts : List Tq} {k : Nat} {t : Tq} (h : ts[k]? = some t) (hf : t.f = false) : flK ts (k + 1) = flK ts k := by simp [flK, h, hf]
theorem lsK_t {no : Nat} {ts : List Tq} {k : Nat} {t : Tq} (h : ts[k]? = some t) (hf : t.f = true) : lsK no ts (k + 1) = lsK no ts k ++ [clrB (cbN t.p) no] := by simp only [lsK, h, hf, if_true]
theorem lsK_f {no : Nat} {ts : List Tq} {k : Nat} {t : Tq} (h : ts[k]? = some t) (hf : t.f = false) : lsK no ts (k + 1) = lsK no ts k := by simp [lsK, h, hf]
theorem fl_ls (no : Nat) (ts : List Tq) : ∀ k, (flK ts k).length = (lsK no ts k).length ∧ (flK ts k).length ≤ k
 | 0 => ⟨rfl, Nat.le_refl _⟩
 | k + 1 => by
  have ih := fl_ls no ts k
  cases c : ts[k]? with
  | none => simp only [flK, lsK, c]; omega
  | some t =>
   cases d : t.f with
   | true => rw [flK_t c d, lsK_t c d]; simp; omega
   | false => rw [flK_f c d, lsK_f c d]; omega
theorem ls_lt {ts : List Tq} {no : Nat} (h : ∀ t ∈ ts, kF t.p = true) : ∀ k, ∀ s ∈ lsK no ts k, s < 32768
 | 0, s, hs => by cases hs
 | k + 1, s, hs => by
  cases c : ts[k]? with
  | none => simp only [lsK, c] at hs; exact ls_lt h k s hs
  | some t =>
   cases d : t.f with
   | true =>
    rw [lsK_t c d] at hs
    rcases List.mem_append.1 hs with hs | hs
    ·exact ls_lt h k s hs
    ·rw [List.mem_singleton] at hs
     have := clrB_le (cbN t.p) no
     have := cbN_lt (h t (List.mem_of_getElem? c))
     omega
   | false => rw [lsK_f c d] at hs; exact ls_lt h k s hs
theorem ls_map (no : Nat) (ts : List Tq) : ∀ k, k ≤ ts.length → lsK no ts k = ((ts.take k).filter (·.f)).map fun t => clrB (cbN t.p) no
 | 0, _ => by simp [lsK]
 | k + 1, hk => by
  have ih := ls_map no ts k (by omega)
  have c : ts[k]? = some ts[k] := List.getElem?_eq_getElem (by omega)
  rw [take_snoc' c, List.filter_append, List.map_append, ← ih]
  cases d : (ts[k]).f with
  | true => rw [lsK_t c d]; simp [d]
  | false => rw [lsK_f c d]; simp [d]
theorem lsL_map (ts : List Tq) : lsL ts = (ts.filter (·.f)).map fun t => clrB (cbN t.p) (clA ts) := by
 unfold lsL; rw [ls_map _ _ _ (Nat.le_refl _), List.take_length]
theorem ex_ls (ts : List Tq) (A : Nat) : exB (lfL ts) A = (lsL ts).all fun s => mtB A s := by
 rw [lsL_map]
 unfold exB lfL
 rw [List.all_map, List.all_map, List.all_filter]
 refine List.all_congr rfl fun t => ?_
 simp only [Function.comp, lfI, exI, mtB]
 by_cases c : t.f = true
 ·simp [c, Nat.and_comm]
 ·simp [c]
def alE (ts : List Tq) : Int := if trE ts ≠ 0 then trE ts else if (lsL ts).any (· == 0) then 26 else 0
theorem alE_tr {ts : List Tq} (h : trE ts ≠ 0) : alE ts = trE ts := by rw [alE, if_pos h]
theorem alE_z {ts : List Tq} (h : trE ts = 0) (h1 : (lsL ts).any (· == 0) = true) : alE ts = 26 := by rw [alE, if_neg (by simp [h]), if_pos h1]
theorem alE_ok {ts : List Tq} (h : trE ts = 0) (h1 : (lsL ts).any (· == 0) = false) : alE ts = 0 := by rw [alE, if_neg (by simp [h]), if_neg (by simp [h1])]
end Go.Bl
end
section
set_option linter.unusedVariables false
namespace Go.Bl
open Go.Gl Go.Lw
def ixS (l : List Nat) (s : Nat) : Option Nat := l.findIdx? (· == s)
def ixI (o : Option Nat) : Int := match o with
 | some k => (k : Int)
 | none => -1
theorem fi_hit {α : Type} {p : α → Bool} {l : List α} {k : Nat} {x : α} (hx : l[k]? = some x) (hp : p x = true) (h : ∀ (j : Nat) (y : α), j < k → l[j]? = some y → p y = false) : l.findIdx? p = some k := by
 rw [List.findIdx?_eq_some_iff_getElem]
 obtain ⟨hk, rfl⟩ := List.getElem?_eq_some_iff.1 hx
 exact ⟨hk, hp, fun j hj => by rw [h j _ hj (List.getElem?_eq_getElem (by omega))]; simp⟩
theorem fi_none {α : Type} {p : α → Bool} {l : List α} (h : ∀ (j : Nat) (y : α), j < l.length → l[j]? = some y → p y = false) : l.findIdx? p = none := by
 rw [List.findIdx?_eq_none_iff]
 intro x hx
 obtain ⟨j, hj, rfl⟩ := List.getElem_of_mem hx
 exact h j _ hj (List.getElem?_eq_getElem hj)
theorem ix_any (l : List Nat) : decide (0 ≤ ixI (ixS l 0)) = l.any (· == 0) := by
 unfold ixS ixI
 cases c : l.findIdx? (· == 0) with
 | none =>
  rw [List.findIdx?_eq_none_iff] at c
  rw [Bool.eq_iff_iff]
  simp only [List.any_eq_true]
  constructor
  ·intro h; simp at h
  ·rintro ⟨x, hx, h⟩; rw [c x hx] at h; cases h
 | some k =>
  rw [List.findIdx?_eq_some_iff_getElem] at c
  obtain ⟨hk, hp, _⟩ := c
  rw [List.any_eq_true.2 ⟨_, List.getElem_mem hk, hp⟩]; simp
end Go.Bl
end
section
set_option linter.unusedVariables false
namespace Go.Proofs.YtadbifpalpdocaaGreatDoor
open Go.Lw Go.Gl Go.Bl Go.RowKit
theorem indexS_f (l : List Nat) (s : Nat) (V : View) (v : Value) (hs : Sl V ste 1 v l) : Fnc Tryz.prog 81 [v, stv s] V fun r _ => r = iv (ixI (ixS l s)) := by
 have hlen := hs.lenLe
 obtain ⟨a, c, rfl, k1, k2, _⟩ := id hs
 clear k1 k2
 refine zT Tryz.func81 rfl Tryz.ntmps81 (Nat.le_of_ble_eq_true rfl) ?_
 intro w0 hw0
 refine At.nrm ?_
 refine At.zg (.n false 0 (.q 1 .done)) ?_
 refine AtT.kbox ?_
 intro b3
 refine AtT.zf ?_
 refine AtT.done ?_
 refine At.nrm ?_
 refine At.zg (.q 0 (.q 1 (.q 2 .done))) ?_
 refine AtT.ze ?_
 first | refine AtT.zP Tryz.underlying51 ?_ | refine AtT.zQ Tryz.underlying51 ?_
 refine AtT.ze ?_
 refine AtT.done ?_
 refine At.nrm ?_
 refine At.lp (ι := Nat) (KS := fun k => [(0, .slice a l.length c), (3, .pointer (some ⟨b3, 0, none⟩)), (7, iv l.length), (8, iv k)]) (OS := fun _ => [.blk b3 (LC [iv (s : Int)] 83)]) (VS := fun k V' => V' = V ∧ k ≤ l.length ∧ ∀ (j : Nat) (y : Nat), j < k → l[j]? = some y → (y == s) = false) (μ := fun k => l.length - k) 0 ?_ ?_ ?_ ?_
 ·exact ⟨rfl, rfl, rfl, rfl, trivial⟩
 ·exact Pt.zy
 ·exact ⟨rfl, Nat.zero_le _, fun j y hj => absurd hj (Nat.not_lt_zero j)⟩
 ·rintro k V' ks' O' ⟨rfl, hkl, hok⟩ hk hO hl2
  subst hk hO
  refine At.nrm ?_
  refine At.zg (.q 0 .done) ?_
  refine AtT.qW ?_
  refine AtT.done ?_
  refine At.nrm ?_
  refine At.zW rfl (fun hp => ?_) (fun hp => ?_)
  ·obtain ⟨x, hx⟩ : ∃ x, l[k]? = some x := ⟨_, List.getElem?_eq_getElem (by omega)⟩
   refine At.nrm ?_
   refine At.zg (.q 0 (.q 1 .done)) ?_
   refine AtT.ze ?_
   refine AtT.zf ?_
   refine AtT.done ?_
   refine At.nrm ?_
   refine At.draw (.q 0 (.q 1 (.q 2 (.q 3 (.q 4 (.q 5 .done)))))) ffm (by kernel_rfl) ?_
   first | refine AtT.zx zO ?_ | refine AtT.zD zO ?_ | refine AtT.zw zO ?_
   refine AtT.ze ?_
   refine AtT.ze ?_
   refine AtT.qK Tryz.underlying51 zO ?_
   intro p14 e14 he14 hc14
   obtain rfl : e14 = x := by have : l[k]? = some e14 := (by simpa using he14); rw [hx] at this; simpa using this.symm
   first | refine AtT.zx zO ?_ | refine AtT.zD zO ?_ | refine AtT.zw zO ?_
   refine AtT.keqS (eqS83 _ _) ?_
   refine AtT.done ?_
   refine At.nrm ?_
   refine At.zW rfl (fun hc => ?_) (fun hc => ?_)
   ·have hix : ixS l s = some k := fi_hit hx (by rw [beq_iff_eq]; omega) hok
    refine At.nrm ?_
    refine At.zg (.q 0 (.q 1 .done)) ?_
    refine AtT.ze ?_
    refine AtT.zf ?_
    refine AtT.done ?_
    refine At.nrm ?_
    exact At.zV rfl (.tmp rfl) (by rw [hix]; rfl)
   ·refine At.nrm ?_
    refine At.zg (.q 0 (.q 1 .done)) ?_
    first | refine AtT.qo ?_ | refine AtT.zS ?_
    refine AtT.ze ?_
    refine AtT.done ?_
    refine At.nrm ?_
    refine At.round (k + 1) ?_ ?_ ?_ ?_
    ·show l.length - (k + 1) < l.length - k; omega
    ·refine ⟨rfl, by omega, fun j y hj hy => ?_⟩
     by_cases hjk : j = k
     ·subst hjk; rw [hx] at hy; cases hy; rw [beq_eq_false_iff_ne]; omega
     ·exact hok j y (by omega) hy
    ·exact ⟨rfl, rfl, rfl, ivs (by omega), trivial⟩
    ·exact Pt.zy
  ·obtain rfl : k = l.length := by omega
   have hix : ixS l s = none := fi_none fun j y hj hy => hok j y hj hy
   refine At.nrm ?_
   refine At.zg (.q 0 .done) ?_
   refine AtT.zf ?_
   refine AtT.done ?_
   refine At.nrm ?_
   exact At.zV rfl (.tmp rfl) (by rw [hix]; rfl)
theorem containsS_f (l : List Nat) (V : View) (v : Value) (hs : Sl V ste 1 v l) : Fnc Tryz.prog 48 [v, stv 0] V fun r _ => r = .bool (l.any (· == 0)) := by
 refine zT Tryz.func48 rfl Tryz.ntmps48 (Nat.le_of_ble_eq_true rfl) ?_
 intro w0 hw0
 refine At.nrm ?_
 refine At.zg (.n false 0 (.q 1 .done)) ?_
 refine AtT.kbox ?_
 intro b3
 refine AtT.zf ?_
 refine AtT.done ?_
 refine At.nrm ?_
 refine At.zg (.q 0 (.q 1 (.n false 2 (.q 3 (.q 4 .done))))) ?_
 refine AtT.ze ?_
 first | refine AtT.zx zO ?_ | refine AtT.zD zO ?_ | refine AtT.zw zO ?_
 refine AtT.zC rfl rfl ok81 (indexS_f l 0 _ _ hs) ?_
 rintro _ rfl
 refine AtT.kgeq ?_
 refine AtT.zf ?_
 refine AtT.done ?_
 refine At.nrm ?_
 exact At.zV rfl (.tmp rfl) (by rw [ix_any])
end Go.Proofs.YtadbifpalpdocaaGreatDoor
end
section
set_option linter.unusedVariables false
namespace Go.Proofs.YtadbifpalpdocaaGreatDoor
open Go.Lw Go.Gl Go.Bl Go.RowKit
def BcV (V : View) (p : Addr) (ts : List Tq) : Prop := ∃ a c a1 c1 a2 c2, Cells V p [.slice a ts.length c, iv (clA ts), .slice a1 (flL ts).length c1, .slice a2 (lsL ts).length c2] ∧ Sl V tqe 4 (.slice a ts.length c) ts ∧ SlI V (.slice a1 (flL ts).length c1) (flL ts) ∧ Sl V ste 1 (.slice a2 (lsL ts).length c2) (lsL ts)
theorem BcV.le {V V' : View} {p : Addr} {ts : List Tq} (h : BcV V p ts) (hl : Le V V') : BcV V' p ts := by
 obtain ⟨a, c, a1, c1, a2, c2, h1, h2, h3, h4⟩ := h
 exact ⟨a, c, a1, c1, a2, c2, h1.le hl, h2.le hl, h3.le hl, h4.le hl⟩
theorem newBench_f (ts : List Tq) (ht : ∀ t ∈ ts, kF t.p = true) (h16 : ts.length ≤ 16) (V : View) (v : Value) (hs : Sl V tqe 4 v ts) : Fnc Tryz.prog 93 [v] V fun r V' => ∃ p, r = .pointer (some p) ∧ BcV V' p ts := by
 obtain ⟨a, c, rfl, h1, h2, _⟩ := id hs
 clear h1 h2
 have hcA : clA ts < 32768 := clN_lt ht _
 refine zT Tryz.func93 rfl Tryz.ntmps93 (Nat.le_of_ble_eq_true rfl) ?_
 intro w0 hw0
 refine At.nrm ?_
 refine At.zg (.q 0 .done) ?_
 refine AtT.zf ?_
 refine AtT.done ?_
 refine At.nrm ?_
 refine At.zg (.q 0 (.q 1 (.q 2 (.n false 3 (.q 4 .done))))) ?_
 refine AtT.ze ?_
 refine AtT.jK (bd85_0 _ _ _) ?_
 refine AtT.jK (bd87_0 _ _ _ _) ?_
 refine AtT.kbox ?_
 intro b11
 refine AtT.zf ?_
 refine AtT.done ?_
 refine At.nrm ?_
 refine At.zg (.q 0 (.q 1 (.q 2 (.q 3 (.q 4 (.q 5 (.q 6 .done))))))) ?_
 refine AtT.ze ?_
 refine AtT.knil ?_
 first | refine AtT.zk qR ?_ | with_reducible refine AtT.zm qR ?_ | refine AtT.zo qR ?_
 first | refine AtT.zk fo85_0 ?_ | with_reducible refine AtT.zm fo85_0 ?_ | refine AtT.zo fo85_0 ?_
 first | refine AtT.zu tk34 ?_ | refine AtT.zF tk34 ?_
 first | refine AtT.zP Tryz.underlying34 ?_ | refine AtT.zQ Tryz.underlying34 ?_
 refine AtT.ze ?_
 refine AtT.done ?_
 refine At.nrm ?_
 refine At.lp (ι := Nat) (KS := fun k => [(3, .pointer (some ⟨b11, 0, none⟩)), (16, .slice a ts.length c), (17, iv ts.length), (18, iv k)]) (OS := fun k => [.blk b11 (LC [.slice a ts.length c, iv (clN ts k), .slice none 0 0, .slice none 0 0] 87)]) (VS := fun k V' => Le V V' ∧ k ≤ ts.length) (μ := fun k => ts.length - k) 0 ?_ ?_ ?_ ?_
 ·exact ⟨rfl, rfl, rfl, rfl, trivial⟩
 ·exact Pt.zy
 ·exact ⟨Le.refl _, Nat.zero_le _⟩
 ·rintro k V' ks' O' ⟨hVV, hkl⟩ hk hO hl2
  subst hk hO
  replace hs := hs.le hVV
  have hcl := clN_lt ht k
  refine At.nrm ?_
  refine At.zg (.q 0 .done) ?_
  refine AtT.qW ?_
  refine AtT.done ?_
  refine At.nrm ?_
  refine At.zW rfl (fun hp => ?_) (fun hp => ?_)
  ·obtain ⟨x, hx⟩ : ∃ x, ts[k]? = some x := ⟨_, List.getElem?_eq_getElem (by omega)⟩
   have hxs := ht x (List.mem_of_getElem? hx)
   have hnx := clN_at hx
   have hcb := cbN_lt hxs
   refine At.nrm ?_
   refine At.zg (.q 0 (.q 1 (.n false 2 (.n true 3 .done)))) ?_
   refine AtT.qK Tryz.underlying34 tk38 ?_
   intro p20 e20 he20 hc20
   obtain rfl : e20 = x := by have : ts[k]? = some e20 := (by simpa using he20); rw [hx] at this; simpa using this.symm
   first | refine AtT.zx tk38 ?_ | refine AtT.zD tk38 ?_ | refine AtT.zw tk38 ?_
   refine AtT.qD z38 ?_
   intro b5
   refine AtT.zY tk38 ?_
   refine AtT.done ?_
   refine At.nrm ?_
   refine At.zg (.q 0 (.q 1 (.q 2 .done))) ?_
   first | refine AtT.zk fo38_1 ?_ | with_reducible refine AtT.zm fo38_1 ?_ | refine AtT.zo fo38_1 ?_
   first | refine AtT.zu tk4 ?_ | refine AtT.zF tk4 ?_
   refine AtT.knot ?_
   refine AtT.done ?_
   refine At.nrm ?_
   cases hf : e20.f with
   | true =>
    rw [hf, if_neg (by simp)] at hnx
    refine At.qB rfl rfl ?_
    refine At.nrm ?_
    refine At.zg (.q 0 (.q 1 .done)) ?_
    first | refine AtT.qo ?_ | refine AtT.zS ?_
    refine AtT.ze ?_
    refine AtT.done ?_
    refine At.nrm ?_
    refine At.round (k + 1) ?_ ?_ ?_ ?_
    ·show ts.length - (k + 1) < ts.length - k; omega
    ·exact ⟨hVV, by omega⟩
    ·exact ⟨rfl, rfl, rfl, ivs (by omega), trivial⟩
    rw [hnx]
    ·exact Pt.zy
   | false =>
    rw [hf, if_pos rfl] at hnx
    refine At.qQ rfl rfl ?_
    refine At.nrm ?_
    refine At.cutG (ι := Unit) (fun _ => [(3, .pointer (some ⟨b11, 0, none⟩)), (16, .slice a ts.length c), (17, iv ts.length), (18, iv k)]) (fun _ => [.blk b11 (LC [.slice a ts.length c, iv ((clN ts k ||| cbN e20.p : Nat) : Int), .slice none 0 0, .slice none 0 0] 87)]) (fun _ V'' => V'' = V') ?_ ?_
    ·refine At.draw (.q 0 (.q 1 (.q 2 (.q 3 (.q 4 (.q 5 (.q 6 (.q 7 (.q 8 (.n false 9 (.q 10 (.q 11 (.q 12 (.q 13 (.q 14 (.q 15 (.n true 16 .done))))))))))))))))) ffm (by kernel_rfl) ?_
     refine AtT.ze ?_
     refine AtT.ze ?_
     refine AtT.knil ?_
     first | refine AtT.zk qR ?_ | with_reducible refine AtT.zm qR ?_ | refine AtT.zo qR ?_
     first | refine AtT.zk ko ?_ | with_reducible refine AtT.zm ko ?_ | refine AtT.zo ko ?_
     first | refine AtT.zk qF ?_ | with_reducible refine AtT.zm qF ?_ | refine AtT.zo qF ?_
     first | refine AtT.zu tk3 ?_ | refine AtT.zF tk3 ?_
     first | refine AtT.zk fo38_0 ?_ | with_reducible refine AtT.zm fo38_0 ?_ | refine AtT.zo fo38_0 ?_
     first | refine AtT.zx tk36 ?_ | refine AtT.zD tk36 ?_ | refine AtT.zw tk36 ?_
     refine AtT.zC rfl rfl ok51 (causes_f e20.p hxs _) ?_
     rintro _ rfl
     refine AtT.kfld (fl83_0 _) ?_
     refine AtT.orN rfl trivial rfl rfl rfl rfl (by omega) (by omega) (by decide) (A := clN ts k) (B := cbN e20.p) ?_
     refine AtT.jK (bd83_0 _) ?_
     refine AtT.knil ?_
     first | refine AtT.zk qR ?_ | with_reducible refine AtT.zm qR ?_ | refine AtT.zo qR ?_
     first | refine AtT.zk ko ?_ | with_reducible refine AtT.zm ko ?_ | refine AtT.zo ko ?_
     refine AtT.store rfl trivial rfl rfl zO rfl rfl (Nat.le_of_ble_eq_true rfl) rfl rfl (by repeat first|exact Upd.here|apply Upd.there) ?_
     refine AtT.done ?_
     refine At.nrm ?_
     all_goals (exact At.meetG () rfl ⟨rfl, rfl, rfl, rfl, trivial⟩ Pt.zy)
    rintro _ V'' ks' O' rfl hk hO hl3
    subst hk hO
    refine At.nrm ?_
    refine At.zg (.q 0 (.q 1 .done)) ?_
    first | refine AtT.qo ?_ | refine AtT.zS ?_
    refine AtT.ze ?_
    refine AtT.done ?_
    refine At.nrm ?_
    refine At.round (k + 1) ?_ ?_ ?_ ?_
    ·show ts.length - (k + 1) < ts.length - k; omega
    ·exact ⟨hVV, by omega⟩
    ·exact ⟨rfl, rfl, rfl, ivs (by omega), trivial⟩
    rw [hnx]
    ·exact Pt.zy
  ·obtain rfl : k = ts.length := by omega
   refine At.nrm ?_
   refine At.zg (.q 0 (.q 1 (.q 2 (.q 3 (.q 4 (.q 5 (.q 6 .done))))))) ?_
   refine AtT.ze ?_
   refine AtT.knil ?_
   first | refine AtT.zk qR ?_ | with_reducible refine AtT.zm qR ?_ | refine AtT.zo qR ?_
   first | refine AtT.zk fo85_0 ?_ | with_reducible refine AtT.zm fo85_0 ?_ | refine AtT.zo fo85_0 ?_
   first | refine AtT.zu tk34 ?_ | refine AtT.zF tk34 ?_
   first | refine AtT.zP Tryz.underlying34 ?_ | refine AtT.zQ Tryz.underlying34 ?_
   refine AtT.ze ?_
   refine AtT.done ?_
   refine At.nrm ?_
   refine At.newRow 3 1 ?_
   refine At.newRow 83 1 ?_
   refine At.lp (ι := Nat × (Option Addr × Nat) × Option Addr × Nat) (KS := fun g => [(3, .pointer (some ⟨b11, 0, none⟩)), (46, .slice a ts.length c), (47, iv ts.length), (48, iv g.1)])
    (OS := fun g => [.blk b11 (LC [.slice a ts.length c, iv (clA ts), .slice g.2.1.1 (flK ts g.1).length g.2.1.2, .slice g.2.2.1 (lsK (clA ts) ts g.1).length g.2.2.2] 87), .row (.slice g.2.1.1 (flK ts g.1).length g.2.1.2) 3 1 (flK ts g.1).length (flat ei (flK ts g.1)), .row (.slice g.2.2.1 (lsK (clA ts) ts g.1).length g.2.2.2) 83 1 (lsK (clA ts) ts g.1).length (flat ste (lsK (clA ts) ts g.1))])
    (VS := fun g V'' => Le V' V'' ∧ g.1 ≤ ts.length) (μ := fun g => ts.length - g.1) (0, (none, 0), none, 0) ?_ ?_ ?_ ?_
   ·exact ⟨rfl, rfl, rfl, rfl, trivial⟩
   ·exact Pt.zy
   ·exact ⟨Le.refl _, Nat.zero_le _⟩
   rintro ⟨k, ⟨a1, c1⟩, a2, c2⟩ V2 ks' O' ⟨hV2, hkl⟩ hk hO hl3
   dsimp only at hkl hk hO
   subst hk hO
   have hs2 := hs.le hV2
   have hVV2 := hVV.trans hV2
   have hfl := fl_ls (clA ts) ts k
   refine At.nrm ?_
   refine At.zg (.q 0 .done) ?_
   refine AtT.qW ?_
   refine AtT.done ?_
   refine At.nrm ?_
   refine At.zW rfl (fun hp => ?_) (fun hp => ?_)
   rotate_left
   ·obtain rfl : k = ts.length := by omega
    refine At.nrm ?_
    refine At.zg (.q 0 (.q 1 .done)) ?_
    refine AtT.ze ?_
    refine AtT.zf ?_
    refine AtT.done ?_
    refine At.nrm ?_
    refine At.giveSl (l := flL ts) Lw.ei_len rfl rfl zJ.zy (fun V4 hV4 hs4 => ?_)
    refine At.giveSl (l := lsL ts) ste_len rfl rfl zJ.zy (fun V5 hV5 hs5 => ?_)
    refine At.giveB (b := b11) zJ.zy (fun V6 hV6 hb6 => ?_)
    exact At.zV rfl (.tmp rfl) ⟨_, rfl, a, c, a1, c1, a2, c2, jf hb6, ((hs2.le hV4).le hV5).le hV6, (hs4.le hV5).le hV6, hs5.le hV6⟩
   obtain ⟨x, hx⟩ : ∃ x, ts[k]? = some x := ⟨_, List.getElem?_eq_getElem (by omega)⟩
   have hxs := ht x (List.mem_of_getElem? hx)
   have hcb := cbN_lt hxs
   refine At.nrm ?_
   refine At.zg (.q 0 (.q 1 (.q 2 (.n false 3 (.q 4 (.n true 5 .done)))))) ?_
   refine AtT.ze ?_
   refine AtT.qK Tryz.underlying34 tk38 ?_
   intro p51 e51 he51 hc51
   obtain rfl : e51 = x := by have : ts[k]? = some e51 := (by simpa using he51); rw [hx] at this; simpa using this.symm
   first | refine AtT.zx tk38 ?_ | refine AtT.zD tk38 ?_ | refine AtT.zw tk38 ?_
   refine AtT.qD z38 ?_
   intro b7
   refine AtT.zf ?_
   refine AtT.zY tk38 ?_
   refine AtT.done ?_
   refine At.nrm ?_
   refine At.zg (.q 0 (.q 1 .done)) ?_
   first | refine AtT.zk fo38_1 ?_ | with_reducible refine AtT.zm fo38_1 ?_ | refine AtT.zo fo38_1 ?_
   first | refine AtT.zu tk4 ?_ | refine AtT.zF tk4 ?_
   refine AtT.done ?_
   refine At.nrm ?_
   cases hf : e51.f with
   | false =>
    have e1 := flK_f hx hf
    have e2 := lsK_f (no := clA ts) hx hf
    refine At.qB rfl rfl ?_
    refine At.nrm ?_
    refine At.zg (.q 0 (.q 1 .done)) ?_
    first | refine AtT.qo ?_ | refine AtT.zS ?_
    refine AtT.ze ?_
    refine AtT.done ?_
    refine At.nrm ?_
    refine At.round (k + 1, (a1, c1), a2, c2) ?_ ?_ ?_ ?_
    ·show ts.length - (k + 1) < ts.length - k; omega
    ·exact ⟨hV2, by dsimp only; omega⟩
    ·exact ⟨rfl, rfl, rfl, ivs (by dsimp only; omega), trivial⟩
    dsimp only
    rw [e1, e2]
    ·exact Pt.zy
   | true =>
    have e1 := flK_t hx hf
    have e2 := lsK_t (no := clA ts) hx hf
    refine At.qQ rfl rfl ?_
    refine At.nrm ?_
    refine At.zg (.q 0 (.q 1 (.q 2 (.q 3 (.q 4 (.q 5 (.n false 6 (.n true 7 (.q 8 (.q 9 (.n true 10 .done))))))))))) ?_
    refine AtT.ze ?_
    refine AtT.ze ?_
    refine AtT.knil ?_
    first | refine AtT.zk fo87_1 ?_ | with_reducible refine AtT.zm fo87_1 ?_ | refine AtT.zo fo87_1 ?_
    first | refine AtT.zu tk31 ?_ | refine AtT.zF tk31 ?_
    refine AtT.ze ?_
    refine AtT.qb (qZ _) ?_
    intro q61 V61 hV61 hq61
    have g61 : Le V V61 := by first | exact hV61 | exact Le.trans (by assumption) hV61
    first | refine AtT.kappend Tryz.underlying31 rw3 ?_
    intro a62 c62
    refine AtT.knil ?_
    first | refine AtT.zk fo87_1 ?_ | with_reducible refine AtT.zm fo87_1 ?_ | refine AtT.zo fo87_1 ?_
    first | refine AtT.kstore1 tk31 ?_ | refine AtT.zY tk31 ?_
    refine AtT.done ?_
    refine At.nrm ?_
    refine At.cutG (ι := Option Addr × Nat) (fun _ => [(3, .pointer (some ⟨b11, 0, none⟩)), (46, .slice a ts.length c), (47, iv ts.length), (48, iv k)])
     (fun g => [.blk b11 (LC [.slice a ts.length c, iv (clA ts), .slice a62 ((flK ts k).length + 1) c62, .slice g.1 ((lsK (clA ts) ts k).length + 1) g.2] 87), .row (.slice a62 ((flK ts k).length + 1) c62) 3 1 ((flK ts k).length + 1) (flat ei (flK ts k) ++ flat ei [(k : Int)]), .row (.slice g.1 ((lsK (clA ts) ts k).length + 1) g.2) 83 1 ((lsK (clA ts) ts k).length + 1) (flat ste (lsK (clA ts) ts k) ++ flat ste [clrB (cbN e51.p) (clA ts)])])
     (fun _ V'' => Le V2 V'') ?_ ?_
    ·refine At.drawC [.blk b11 (LC [.slice a ts.length c, iv (clA ts), .slice a62 ((flK ts k).length + 1) c62, .slice a2 (lsK (clA ts) ts k).length c2] 87), .blk b7 (LC (tqe e51) 38)] (.q 0 (.q 1 (.q 2 (.q 3 (.q 4 (.q 5 (.q 6 (.q 9 (.q 10 (.q 11 (.q 12 (.q 13 (.q 14 (.n false 7 (.q 8 (.q 15 (.q 16 (.n false 17 (.n false 18 (.q 19 (.q 20 (.n true 21 .done)))))))))))))))))))))) ffm (by kernel_rfl) Pt.zy ?_
     refine AtC.pre (fun hle0 => ?_)
     refine AtC.kq (by (refine AtT.ze ?_); exact At.knows) ?_
     refine AtC.kq (by (refine AtT.ze ?_); exact At.knows) ?_
     refine AtC.kq (by (refine AtT.knil ?_); exact At.knows) ?_
     refine AtC.kq (by (first | refine AtT.zk jh ?_ | with_reducible refine AtT.zm jh ?_ | refine AtT.zo jh ?_); exact At.knows) ?_
     refine AtC.kq (by (first | refine AtT.zu tk51 ?_ | refine AtT.zF tk51 ?_); exact At.knows) ?_
     refine AtC.kq (by (first | refine AtT.zk fo38_0 ?_ | with_reducible refine AtT.zm fo38_0 ?_ | refine AtT.zo fo38_0 ?_); exact At.knows) ?_
     refine AtC.kq (by (first | refine AtT.zx tk36 ?_ | refine AtT.zD tk36 ?_ | refine AtT.zw tk36 ?_); exact At.knows) ?_
     refine AtC.kq (by (refine AtT.ze ?_); exact At.knows) ?_
     refine AtC.kq (by (refine AtT.knil ?_); exact At.knows) ?_
     refine AtC.kq (by (first | refine AtT.zk qR ?_ | with_reducible refine AtT.zm qR ?_ | refine AtT.zo qR ?_); exact At.knows) ?_
     refine AtC.kq (by (first | refine AtT.zk ko ?_ | with_reducible refine AtT.zm ko ?_ | refine AtT.zo ko ?_); exact At.knows) ?_
     refine AtC.kq (by (first | refine AtT.zk qF ?_ | with_reducible refine AtT.zm qF ?_ | refine AtT.zo qF ?_); exact At.knows) ?_
     refine AtC.kq (by (first | refine AtT.zu tk3 ?_ | refine AtT.zF tk3 ?_); exact At.knows) ?_
     refine AtC.nz ?_
     refine AtT.zC rfl rfl ok51 (causes_f e51.p hxs _) ?_
     rintro _ rfl
     refine AtC.kgo ?_
     refine AtC.kq (by (refine AtT.kfld (fl83_0 _) ?_); exact At.knows) ?_
     refine AtC.kq (by (refine AtT.clrN rfl trivial rfl rfl rfl rfl (by omega) (by omega) (by decide) (A := cbN e51.p) (B := clA ts) ?_); exact At.knows) ?_
     refine AtC.kq (by (refine AtT.jK (bd83_0 _) ?_); exact At.knows) ?_
     refine AtC.nz ?_
     refine AtT.qb (bs51_1_0 _) ?_
     intro q82 V82 hV82 hq82
     have g82 : Le V V82 := by first | exact hV82 | exact Le.trans (by assumption) hV82
     refine AtC.kgo ?_
     refine AtC.nz ?_
     first | refine AtT.kappend Tryz.underlying51 rw83 ?_
     intro a83 c83
     refine AtC.kgo ?_
     refine AtC.kq (by (refine AtT.knil ?_); exact At.knows) ?_
     refine AtC.kq (by (first | refine AtT.zk jh ?_ | with_reducible refine AtT.zm jh ?_ | refine AtT.zo jh ?_); exact At.knows) ?_
     refine AtC.toT ?_
     first | refine AtT.kstore1 tk51 ?_ | refine AtT.zY tk51 ?_
     refine AtT.done ?_
     refine At.nrm ?_
     all_goals (exact At.meetG (a83, c83) (by first | exact Le.refl _ | assumption | exact Le.trans (by assumption) (by assumption)) ⟨rfl, rfl, rfl, rfl, trivial⟩ Pt.zy)
    rintro ⟨a83, c83⟩ V3 ks' O' hV3 hk hO hl4
    dsimp only at hk hO
    subst hk hO
    refine At.nrm ?_
    refine At.zg (.q 0 (.q 1 .done)) ?_
    first | refine AtT.qo ?_ | refine AtT.zS ?_
    refine AtT.ze ?_
    refine AtT.done ?_
    refine At.nrm ?_
    refine At.round (k + 1, (a62, c62), a83, c83) ?_ ?_ ?_ ?_
    ·show ts.length - (k + 1) < ts.length - k; omega
    ·exact ⟨hV2.trans hV3, by dsimp only; omega⟩
    ·exact ⟨rfl, rfl, rfl, ivs (by dsimp only; omega), trivial⟩
    dsimp only
    rw [e1, e2, je, je, List.length_append, List.length_append]
    ·exact Pt.zy
end Go.Proofs.YtadbifpalpdocaaGreatDoor
end
section
set_option linter.unusedVariables false
namespace Go.Proofs.YtadbifpalpdocaaGreatDoor
open Go.Lw Go.Gl Go.Bl Go.RowKit
theorem open_bad (ts : List Tq) (h : trE ts ≠ 0) (V : View) (v : Value) (hs : Sl V tqe 4 v ts) : Fnc Tryz.prog 47 [v] V fun r _ => r = .tuple #[.pointer none, iv (trE ts)] := by
 refine zT Tryz.func47 rfl Tryz.ntmps47 (Nat.le_of_ble_eq_true rfl) ?_
 intro w0 hw0
 refine At.nrm ?_
 refine At.zg (.q 0 (.q 1 .done)) ?_
 refine AtT.zf ?_
 refine AtT.zf ?_
 refine AtT.done ?_
 refine At.nrm ?_
 refine At.zg (.q 0 (.n false 1 (.q 2 .done))) ?_
 refine AtT.ze ?_
 refine AtT.zC rfl rfl ok17 (trials_f ts _ _ hs) ?_
 rintro _ rfl
 refine AtT.zf ?_
 refine AtT.done ?_
 refine At.nrm ?_
 refine At.zg (.q 0 (.q 1 .done)) ?_
 refine AtT.ze ?_
 refine AtT.kneI ?_
 refine AtT.done ?_
 refine At.nrm ?_
 refine At.qQ rfl (decide_eq_true h) ?_
 refine At.nrm ?_
 refine At.zg (.q 0 (.q 1 (.q 2 .done))) ?_
 refine AtT.ze ?_
 refine AtT.zf ?_
 refine AtT.zf ?_
 refine AtT.done ?_
 refine At.nrm ?_
 exact At.ret2 rfl (.tmp rfl) (.tmp rfl) rfl
theorem open_ok (ts : List Tq) (h : trE ts = 0) (V : View) (v : Value) (hs : Sl V tqe 4 v ts) : Fnc Tryz.prog 47 [v] V fun r V' => ∃ p, r = .tuple #[.pointer (some p), iv 0] ∧ BcV V' p ts := by
 obtain ⟨h16, ht⟩ := trE_ok h
 refine zT Tryz.func47 rfl Tryz.ntmps47 (Nat.le_of_ble_eq_true rfl) ?_
 intro w0 hw0
 refine At.nrm ?_
 refine At.zg (.q 0 (.q 1 .done)) ?_
 refine AtT.zf ?_
 refine AtT.zf ?_
 refine AtT.done ?_
 refine At.nrm ?_
 refine At.zg (.q 0 (.n false 1 (.q 2 .done))) ?_
 refine AtT.ze ?_
 refine AtT.zC rfl rfl ok17 (trials_f ts _ _ hs) ?_
 rintro _ rfl; rw [h]
 refine AtT.zf ?_
 refine AtT.done ?_
 refine At.nrm ?_
 refine At.zg (.q 0 (.q 1 .done)) ?_
 refine AtT.ze ?_
 refine AtT.kneI ?_
 refine AtT.done ?_
 refine At.nrm ?_
 refine At.qB rfl (decide_eq_false (by simp)) ?_
 refine At.nrm ?_
 refine At.zg (.q 0 (.n false 1 (.q 2 (.q 3 .done)))) ?_
 refine AtT.ze ?_
 refine AtT.kcall rfl rfl ok93 (newBench_f ts ht h16 _ _ hs) ?_
 rintro _ V11 hV11 ⟨p, rfl, hb⟩
 refine AtT.zf ?_
 refine AtT.zf ?_
 refine AtT.done ?_
 refine At.nrm ?_
 exact At.ret2 rfl (.tmp rfl) (.tmp rfl) ⟨p, rfl, hb⟩
theorem bc_clear {V : View} {p : Addr} {ts : List Tq} (h : BcV V p ts) : Cells V ((p.add 0).add 1) [iv (clA ts)] := by
 obtain ⟨a, c, a1, c1, a2, c2, h1, _⟩ := h
 exact h1.at (k := 1) fun j u hj => by
  match j, hj with
  | 0, hj => exact hj
theorem bc_left {V : View} {p : Addr} {ts : List Tq} (h : BcV V p ts) : ∃ a2 c2, Cells V (p.add 3) [.slice a2 (lsL ts).length c2] ∧ Sl V ste 1 (.slice a2 (lsL ts).length c2) (lsL ts) := by
 obtain ⟨a, c, a1, c1, a2, c2, h1, h2, h3, h4⟩ := h
 exact ⟨a2, c2, h1.at (k := 3) fun j u hj => by
  match j, hj with
  | 0, hj => exact hj, h4⟩
theorem miss_f (s t : Nat) (h1 : s < 9223372036854775808) (h2 : t < 9223372036854775808) (V : View) (q : Addr) (hc5 : Cells V q [iv (s : Int)]) : Fnc Tryz.prog 57 ([] ++ [stv t] ++ [.pointer (some q)]) V fun r _ => r = .bool (!mtB s t) := by
 refine zT Tryz.func57 rfl Tryz.ntmps57 (Nat.le_of_ble_eq_true rfl) ?_
 intro w0 hw0
 refine At.nrm ?_
 refine At.zg (.n false 0 (.q 1 .done)) ?_
 refine AtT.kbox ?_
 intro b2
 refine AtT.zf ?_
 refine AtT.done ?_
 refine At.nrm ?_
 refine At.zg (.q 0 (.q 1 (.n false 2 (.q 3 (.q 4 .done))))) ?_
 first | refine AtT.zx zO ?_ | refine AtT.zD zO ?_ | refine AtT.zw zO ?_
 first | refine AtT.zx zO ?_ | refine AtT.zD zO ?_ | refine AtT.zw zO ?_
 refine AtT.zC rfl rfl ok52 (meets_f s t h1 h2 _) ?_
 rintro _ rfl
 refine AtT.knot ?_
 refine AtT.zf ?_
 refine AtT.done ?_
 refine At.nrm ?_
 exact At.zV rfl (.tmp rfl) rfl
theorem any_not {α : Type} (p : α → Bool) : ∀ l : List α, l.any (fun x => !p x) = !l.all p
 | [] => rfl
 | x :: l => by simp only [List.any_cons, List.all_cons, any_not p l, Bool.not_and]
theorem checkCauses_f (ts : List Tq) (l : List Int) (V : View) (v u : Value) (hs : Sl V tqe 4 v ts) (hu : SlI V u l) : Fnc Tryz.prog 25 [v, u] V fun r _ => r = iv (ccR ts l) := by
 refine zT Tryz.func25 rfl Tryz.ntmps25 (Nat.le_of_ble_eq_true rfl) ?_
 intro w0 hw0
 refine At.nrm ?_
 refine At.zg (.q 0 .done) ?_
 refine AtT.zf ?_
 refine AtT.done ?_
 refine At.nrm ?_
 by_cases h0 : trE ts = 0
 rotate_left
 ·refine At.zg (.q 0 (.n false 1 (.q 2 (.q 3 (.q 4 (.q 5 (.q 6 .done))))))) ?_
  refine AtT.ze ?_
  refine AtT.zC rfl rfl ok47 (open_bad ts h0 _ _ hs) ?_
  rintro _ rfl
  refine AtT.ze ?_
  refine AtT.zG ?_
  refine AtT.zG ?_
  refine AtT.zf ?_
  refine AtT.zf ?_
  refine AtT.done ?_
  refine At.nrm ?_
  refine At.zg (.q 0 (.q 1 (.q 2 .done))) ?_
  refine AtT.ze ?_
  refine AtT.kneI ?_
  refine AtT.zf ?_
  refine AtT.done ?_
  refine At.nrm ?_
  refine At.qQ rfl (decide_eq_true h0) ?_
  refine At.nrm ?_
  refine At.zg (.q 0 (.q 1 .done)) ?_
  refine AtT.ze ?_
  refine AtT.zf ?_
  refine AtT.done ?_
  refine At.nrm ?_
  exact At.zV rfl (.tmp rfl) (by rw [ccR_tr h0])
 obtain ⟨h16, ht⟩ := trE_ok h0
 have hcl : clA ts < 32768 := clN_lt ht _
 refine At.zg (.q 0 (.n false 1 (.q 2 (.q 3 (.q 4 (.q 5 (.q 6 .done))))))) ?_
 refine AtT.ze ?_
 refine AtT.kcall rfl rfl ok47 (open_ok ts h0 _ _ hs) ?_
 rintro _ V1 hV1 ⟨p, rfl, hb⟩
 refine AtT.ze ?_
 refine AtT.zG ?_
 refine AtT.zG ?_
 refine AtT.zf ?_
 refine AtT.zf ?_
 refine AtT.done ?_
 refine At.nrm ?_
 have hu1 := hu.le hV1
 refine At.zg (.q 0 (.q 1 (.q 2 .done))) ?_
 refine AtT.ze ?_
 refine AtT.kneI ?_
 refine AtT.zf ?_
 refine AtT.done ?_
 refine At.nrm ?_
 refine At.qB rfl (decide_eq_false (by simp)) ?_
 refine At.nrm ?_
 cases h1 : lstB l 15 with
 | false =>
  refine At.zg (.q 0 (.n false 1 (.q 2 (.q 3 .done)))) ?_
  refine AtT.ze ?_
  refine AtT.zC rfl rfl ok54 (rising_f l 15 (by decide) _ _ hu1) ?_
  rintro _ rfl; rw [h1]
  refine AtT.knot ?_
  refine AtT.zf ?_
  refine AtT.done ?_
  refine At.nrm ?_
  refine At.qQ rfl rfl ?_
  refine At.nrm ?_
  refine At.zg (.q 0 .done) ?_
  refine AtT.zf ?_
  refine AtT.done ?_
  refine At.nrm ?_
  exact At.zV rfl (.tmp rfl) (by rw [ccR_arg h0 h1])
 | true =>
  refine At.zg (.q 0 (.n false 1 (.q 2 (.q 3 .done)))) ?_
  refine AtT.ze ?_
  refine AtT.zC rfl rfl ok54 (rising_f l 15 (by decide) _ _ hu1) ?_
  rintro _ rfl; rw [h1]
  refine AtT.knot ?_
  refine AtT.zf ?_
  refine AtT.done ?_
  refine At.nrm ?_
  refine At.qB rfl rfl ?_
  have hin := lstB_in h1
  have hbl : btL l < 32768 := btL_lt (n := 15) fun x hx => by have := hin x hx; omega
  have hc29 := bc_clear hb
  refine At.nrm ?_
  refine At.zg (.q 0 (.n false 1 (.n false 2 (.n true 3 .done)))) ?_
  refine AtT.ze ?_
  refine AtT.zC rfl rfl ok55 (setOf_f l hin _ _ hu1) ?_
  rintro _ rfl
  refine AtT.qD z83 ?_
  intro b7
  refine AtT.zY zO ?_
  refine AtT.done ?_
  refine At.nrm ?_
  by_cases h2 : btL l &&& clA ts = 0
  rotate_left
  ·refine At.draw (.q 0 (.q 1 (.q 2 (.q 3 (.q 4 (.q 5 (.n false 6 (.q 7 .done)))))))) ffm (by kernel_rfl) ?_
   first | refine AtT.zx zO ?_ | refine AtT.zD zO ?_ | refine AtT.zw zO ?_
   refine AtT.ze ?_
   refine AtT.knil ?_
   first | refine AtT.zk qR ?_ | with_reducible refine AtT.zm qR ?_ | refine AtT.zo qR ?_
   first | refine AtT.zk ko ?_ | with_reducible refine AtT.zm ko ?_ | refine AtT.zo ko ?_
   first | refine AtT.zx zO ?_ | refine AtT.zD zO ?_ | refine AtT.zw zO ?_
   refine AtT.zC rfl rfl ok52 (meets_f (btL l) (clA ts) (by omega) (by omega) _) ?_
   rintro _ rfl
   refine AtT.zf ?_
   refine AtT.done ?_
   refine At.nrm ?_
   refine At.qQ rfl (decide_eq_true h2) ?_
   refine At.nrm ?_
   refine At.zg (.q 0 .done) ?_
   refine AtT.zf ?_
   refine AtT.done ?_
   refine At.nrm ?_
   exact At.zV rfl (.tmp rfl) (by rw [ccR_rule h0 h1 h2])
  refine At.draw (.q 0 (.q 1 (.q 2 (.q 3 (.q 4 (.q 5 (.n false 6 (.q 7 .done)))))))) ffm (by kernel_rfl) ?_
  first | refine AtT.zx zO ?_ | refine AtT.zD zO ?_ | refine AtT.zw zO ?_
  refine AtT.ze ?_
  refine AtT.knil ?_
  first | refine AtT.zk qR ?_ | with_reducible refine AtT.zm qR ?_ | refine AtT.zo qR ?_
  first | refine AtT.zk ko ?_ | with_reducible refine AtT.zm ko ?_ | refine AtT.zo ko ?_
  first | refine AtT.zx zO ?_ | refine AtT.zD zO ?_ | refine AtT.zw zO ?_
  refine AtT.zC rfl rfl ok52 (meets_f (btL l) (clA ts) (by omega) (by omega) _) ?_
  rintro _ rfl
  refine AtT.zf ?_
  refine AtT.done ?_
  refine At.nrm ?_
  refine At.qB rfl (decide_eq_false (by simp [h2])) ?_
  refine At.giveB (b := b7) zJ.zy (fun V2 hV2 hb7 => ?_)
  obtain ⟨a2, c2, hc35, hsl⟩ := bc_left (hb.le hV2)
  have hlt := ls_lt (no := clA ts) ht ts.length
  have hex := ex_ls ts (btL l)
  have han := any_not (fun s => mtB (btL l) s) (lsL ts)
  rw [← hex] at han
  refine At.nrm ?_
  cases h3 : exB (lfL ts) (btL l) with
  | false =>
   rw [h3] at han
   refine At.zg (.q 0 (.q 1 (.q 2 (.q 3 (.q 4 (.n false 5 (.q 6 .done))))))) ?_
   refine AtT.ze ?_
   refine AtT.knil ?_
   first | refine AtT.zk jh ?_ | with_reducible refine AtT.zm jh ?_ | refine AtT.zo jh ?_
   first | refine AtT.zu tk51 ?_ | refine AtT.zF tk51 ?_
   refine AtT.kfn ?_
   refine AtT.zC rfl rfl ok56 (contains_s 57 [.pointer (some ⟨b7, 0, none⟩)] (fun t => !mtB (btL l) t) _ _ (lsL ts) hsl ok57 (fun t ht' => miss_f (btL l) t (by omega) (by have := hlt t ht'; omega) _ _ (jf hb7))) ?_
   rintro _ rfl; rw [han]
   refine AtT.zf ?_
   refine AtT.done ?_
   refine At.nrm ?_
   refine At.qQ rfl rfl ?_
   refine At.nrm ?_
   refine At.zg (.q 0 .done) ?_
   refine AtT.zf ?_
   refine AtT.done ?_
   refine At.nrm ?_
   exact At.zV rfl (.tmp rfl) (by rw [ccR_boil h0 h1 h2 h3])
  | true =>
   rw [h3] at han
   refine At.zg (.q 0 (.q 1 (.q 2 (.q 3 (.q 4 (.n false 5 (.q 6 .done))))))) ?_
   refine AtT.ze ?_
   refine AtT.knil ?_
   first | refine AtT.zk jh ?_ | with_reducible refine AtT.zm jh ?_ | refine AtT.zo jh ?_
   first | refine AtT.zu tk51 ?_ | refine AtT.zF tk51 ?_
   refine AtT.kfn ?_
   refine AtT.zC rfl rfl ok56 (contains_s 57 [.pointer (some ⟨b7, 0, none⟩)] (fun t => !mtB (btL l) t) _ _ (lsL ts) hsl ok57 (fun t ht' => miss_f (btL l) t (by omega) (by have := hlt t ht'; omega) _ _ (jf hb7))) ?_
   rintro _ rfl; rw [han]
   refine AtT.zf ?_
   refine AtT.done ?_
   refine At.nrm ?_
   refine At.qB rfl rfl ?_
   refine At.nrm ?_
   refine At.zg (.q 0 .done) ?_
   refine AtT.zf ?_
   refine AtT.done ?_
   refine At.nrm ?_
   exact At.zV rfl (.tmp rfl) (by rw [ccR_ok h0 h1 h2 h3])
end Go.Proofs.YtadbifpalpdocaaGreatDoor
end
section
set_option linter.unusedSectionVars false
set_option linter.unusedSimpArgs false
set_option linter.unusedVariables false
namespace Go.Lw
open Go.RowKit
section
variable {α β : Type} [DecidableEq α] (f : α → β)
theorem mdel_eq {a : α} : ∀ {M : MM α β}, (M.map (·.1)).Nodup → mdel a M = M.filter fun e => !decide (e.1 = a)
 | [], _ => rfl
 | e :: M, h => by
  simp only [List.map_cons, List.nodup_cons] at h
  by_cases c : a = e.1
  ·have : ∀ e' ∈ M, (!decide (e'.1 = a)) = true := fun e' he => by
    have : e'.1 ≠ a := fun hc => h.1 (by rw [← c, ← hc]; exact List.mem_map_of_mem he)
    simp [this]
   simp only [mdel, c, if_true, List.filter_cons, decide_true, Bool.not_true, Bool.false_eq_true, if_false]
   rw [← c]
   exact (List.filter_eq_self.2 this).symm
  ·have c' : ¬ e.1 = a := fun h => c h.symm
   simp [mdel, c, c', mdel_eq h.2]
end
def left {α β : Type} (g : α × β × Nat → Bool) (M : MM α β) (seen : Array Nat) : MM α β := M.filter fun e => g e || !seen.contains e.2.2
theorem left_nil {α β : Type} (g : α × β × Nat → Bool) (M : MM α β) : left g M #[] = M := by
 unfold left; rw [List.filter_eq_self.2]; intro e _; simp
theorem inj_of {γ δ : Type} (h : γ → δ) : ∀ {l : List γ} {x y : γ}, (l.map h).Nodup → x ∈ l → y ∈ l → h x = h y → x = y
 | b :: l, x, y, hn, hx, hy, e => by
  simp only [List.map_cons, List.nodup_cons] at hn
  rcases List.mem_cons.1 hx with hx' | hx' <;> rcases List.mem_cons.1 hy with hy' | hy'
  ·rw [hx', hy']
  ·exact absurd (by rw [← hx', e]; exact List.mem_map_of_mem hy') hn.1
  ·exact absurd (by rw [← hy', ← e]; exact List.mem_map_of_mem hx') hn.1
  ·exact inj_of h hn.2 hx' hy' e
theorem filter_lt {γ : Type} {p q : γ → Bool} : ∀ {l : List γ} {x : γ}, (∀ y ∈ l, p y = true → q y = true) → x ∈ l → q x = true → p x = false → (l.filter p).length < (l.filter q).length
 | b :: l, x, h, hx, hq, hp => by
  have mono : ∀ l : List γ, (∀ y ∈ l, p y = true → q y = true) → (l.filter p).length ≤ (l.filter q).length := by
   intro l
   induction l with
   | nil => intro _; simp
   | cons b l ih =>
    intro h
    have := ih fun y hy => h y (List.mem_cons_of_mem _ hy)
    by_cases c : p b = true
    ·have d := h b (by simp) c
     simp [List.filter_cons, c, d, this]
    ·simp only [List.filter_cons, c, if_false, Bool.false_eq_true]
     split
     ·simp only [List.length_cons]; omega
     ·exact this
  rcases List.mem_cons.1 hx with rfl | hx
  ·have := mono l fun y hy => h y (List.mem_cons_of_mem _ hy)
   simp only [List.filter_cons, hp, hq, if_true, if_false, Bool.false_eq_true, List.length_cons]; omega
  ·have ih := filter_lt (fun y hy => h y (List.mem_cons_of_mem _ hy)) hx hq hp
   by_cases c : p b = true
   ·have d := h b (by simp) c
    simp only [List.filter_cons, c, d, if_true, List.length_cons]; omega
   ·simp only [List.filter_cons, c, if_false, Bool.false_eq_true]
    split
    ·simp only [List.length_cons]; omega
    ·exact ih
theorem left_keep {α β : Type} {g : α × β × Nat → Bool} {M : MM α β} {seen : Array Nat} {e : α × β × Nat} (hb : (M.map (·.2.2)).Nodup) (he : e ∈ M) (hg : g e = true) : left g M (seen.push e.2.2) = left g M seen := by
 unfold left
 refine List.filter_congr fun x hx => ?_
 by_cases c : x.2.2 = e.2.2
 ·have : x = e := inj_of (fun e : α × β × Nat => e.2.2) hb hx he c
  subst this; simp [hg]
 ·have : ¬ e.2.2 = x.2.2 := fun h => c h.symm
  simp [Array.contains_push, c]
theorem left_del {α β : Type} [DecidableEq α] {g : α × β × Nat → Bool} {M : MM α β} {seen : Array Nat} {e : α × β × Nat} (hb : (M.map (·.2.2)).Nodup) (hk : (M.map (·.1)).Nodup) (he : e ∈ M) (hg : g e = false) :
  mdel e.1 (left g M seen) = left g M (seen.push e.2.2) := by
 have hkl : ((left g M seen).map (·.1)).Nodup := hk.sublist ((List.filter_sublist).map _)
 rw [mdel_eq hkl]
 unfold left
 rw [List.filter_filter]
 refine List.filter_congr fun x hx => ?_
 by_cases c : x.1 = e.1
 ·have : x = e := inj_of (fun e : α × β × Nat => e.1) hk hx he c
  subst this; simp [hg]
 ·have : ¬ x.2.2 = e.2.2 := fun h => c (by rw [inj_of (fun e : α × β × Nat => e.2.2) hb hx he h])
  simp [Array.contains_push, c, this]
theorem kr {α β : Type} {M : MM α β} {seen : Array Nat} {e : α × β × Nat} (he : e ∈ M) (hs : e.2.2 ∉ seen) :
  (M.filter fun x => !(seen.push e.2.2).contains x.2.2).length < (M.filter fun x => !seen.contains x.2.2).length := by
 refine filter_lt (x := e) (fun y _ h => ?_) he (by simpa using hs) (by simp)
 simp at h ⊢
 exact h.1
theorem left_end {α β : Type} {g : α × β × Nat → Bool} {M : MM α β} {seen : Array Nat} (h : ∀ e ∈ left g M seen, e.2.2 ∈ seen) : left g M seen = M.filter g := by
 unfold left at *
 refine List.filter_congr fun x hx => ?_
 cases hg : g x with
 | true => simp
 | false =>
  by_cases c : x.2.2 ∈ seen
  ·simp [c]
  ·have := h x (by rw [List.mem_filter]; exact ⟨hx, by simp [hg, c]⟩)
   exact absurd this c
theorem jc {α β : Type} [DecidableEq α] (a : α) : ∀ (M : MM α β), kN a M = true ↔ ∃ e ∈ M, e.1 = a
 | [] => by simp [kN]
 | e :: M => by
  by_cases c : a = e.1
  ·simp [kN, c]
  ·have c' : ¬ e.1 = a := fun h => c h.symm
   simp [kN, c, c', jc a M]
section
variable {α β : Type} [DecidableEq α] {P : Program} {kt et : TypeId} {ek : α → Value} {ev' : β → Value} {M : MM α β} {b c : Nat}
theorem fk_isSome (a : α) : ∀ (M : MM α β) (i : Nat), (fk a M i).isSome = kN a M
 | [], _ => rfl
 | e :: M, i => by
  simp only [fk, kN]
  by_cases c : a = e.1
  ·simp [c]
  ·simp only [c, if_false]; exact fk_isSome a M (i + 1)
variable {cx : Cx} {n : Nat} {ks : List (Nat × Value)} {O O' R R' : List Own} {V : View} {ops : Array Oper} {Qn : Act → World → Prop} {t : Tr} {i d : Nat} {T : TypeId} {pos : String} {after : Array Edge} {gd : Option (Nat × Bool)} {x y z : Operand}
end
end Go.Lw
end
section
set_option linter.unusedVariables false
set_option linter.unusedSimpArgs false
namespace Go.Lw
open Go.RowKit
section
variable {α β : Type} [DecidableEq α]
def mIns (a : α) (v : β) (M : MM α β) (c : Nat) : MM α β × Nat := if kN a M = true then (M, c) else (M ++ [(a, v, c)], c + 1)
theorem mmod_same {a : α} {v : β} : ∀ {M : MM α β}, (∀ e ∈ M, e.1 = a → e.2.1 = v) → mmod a v M = M
 | [], _ => rfl
 | e :: M, h => by
  simp only [mmod]
  split
  ·rename_i c
   have := h e List.mem_cons_self c.symm
   subst c this
   rfl
  ·rw [mmod_same fun x hx => h x (List.mem_cons_of_mem _ hx)]
theorem mhas_no {a : α} {M : MM α β} (h : ¬ kN a M = true) : fk a M 0 = none := by
 have := fk_isSome a M 0
 cases c : fk a M 0 with
 | none => rfl
 | some p => rw [c] at this; exact absurd this.symm h
theorem mhas_yes {a : α} {M : MM α β} (h : kN a M = true) : ∃ j v, fk a M 0 = some (j, v) := by
 have := fk_isSome a M 0
 rw [h] at this
 obtain ⟨p, hp⟩ := Option.isSome_iff_exists.1 this
 exact ⟨p.1, p.2, hp⟩
theorem fk_at {a : α} : ∀ {M : MM α β} {i j : Nat} {v : β}, fk a M i = some (j, v) → i ≤ j ∧ ∃ e, M[j - i]? = some e ∧ e.1 = a
 | [], _, _, _, h => by cases h
 | e :: M, i, j, v, h => by
  simp only [fk] at h
  split at h
  ·rename_i c
   cases h
   exact ⟨Nat.le_refl _, e, by simp, c.symm⟩
  ·obtain ⟨h1, e', h2, h3⟩ := fk_at h
   refine ⟨by omega, e', ?_, h3⟩
   rw [show j - i = (j - (i + 1)) + 1 by omega]
   simpa using h2
variable {P : Program} {kt et : TypeId} {ek : α → Value} {ev' : β → Value} {M : MM α β} {b c : Nat}
variable {cx : Cx} {n : Nat} {ks : List (Nat × Value)} {O O' R R' : List Own} {V : View} {ops : Array Oper} {Qn : Act → World → Prop} {t : Tr} {i d : Nat} {T : TypeId} {pos : String} {after : Array Edge} {gd : Option (Nat × Bool)} {x y z : Operand}
theorem AtT.mapPut {X : TypeId} (ho : ops[i]? = some ⟨none, .mapUpdate X x y z, T, pos, after, gd⟩) (hg : Gd ks ops gd) (K : KeyL P kt ek) (a : α) (vb : β) (hX : P.underlying X = some (.map kt et)) (hx : ev ks x = some (.map (some b))) (hy : ev ks y = some (ek a)) (hz : ev ks z = some (ev' vb)) (hold : ∀ e ∈ M, e.1 = a → e.2.1 = vb) (hp : Upd (.blk b (qO ek ev' M c)) (.blk b (qO ek ev' (mIns a vb M c).1 (mIns a vb M c).2)) O O')
  (next : AtT cx n ks O' V P ops Qn t) : AtT cx n ks O V P ops Qn (.n true i t) := by
 by_cases h : kN a M = true
 ·obtain ⟨j, v0, hj⟩ := mhas_yes h
  have e : mIns a vb M c = (M, c) := by unfold mIns; rw [if_pos h]
  rw [e] at hp
  refine AtT.mapOld (c := c) ho hg K a vb hX hx hy hz hj (fun e he => ?_) ?_ next
  ·obtain ⟨_, e', h2, h3⟩ := fk_at hj
   rw [Nat.sub_zero, he] at h2
   cases h2; exact h3
  ·rw [mmod_same hold]; exact hp
 ·have e : mIns a vb M c = (M ++ [(a, vb, c)], c + 1) := by unfold mIns; rw [if_neg h]
  rw [e] at hp
  exact AtT.mapNew ho hg K a vb hX hx hy hz (mhas_no h) hp next
theorem AtT.insNew {X : TypeId} (ho : ops[i]? = some ⟨none, .insert X x y z, T, pos, after, gd⟩) (hg : Gd ks ops gd) (K : KeyL P kt ek) (a : α) (vb : β) (hX : P.underlying X = some (.map kt et)) (hx : ev ks x = some (.map (some b))) (hy : ev ks y = some (ek a)) (hz : ev ks z = some (ev' vb)) (hnew : fk a M 0 = none) (hp : Upd (.blk b (qO ek ev' M c)) (.blk b (qO ek ev' (M ++ [(a, vb, c)]) (c + 1))) O O')
  (next : AtT cx n ks O' V P ops Qn t) : AtT cx n ks O V P ops Qn (.n true i t) :=
 .x ho hg fun a' w hk hm => by
  obtain ⟨R, p1, p2⟩ := hp.perm
  have hm1 := hm.perm p1
  simp only [opW, execOp, hk.ev hx, hk.ev hy, hk.ev hz, Instr.mapUpdate, Sem.run_bind, run_underlying hX, Result.andThen_ok, qj hm1.blk, qO, K.ck, K.find a M, List.toList_toArray, hnew, Option.map_none, jY _ hm1.blk, Sem.run_pure]
  refine ⟨ks, O', V, hk, Mem.perm (O := .blk b (qO ek ev' (M ++ [(a, vb, c)]) (c + 1)) :: R) ?_ p2.symm, fun h => (by cases h), next⟩
  have e : (Obj.map ((M.map (mE ek ev')).toArray.push { key := ek a, val := ev' vb, born := c }) (c + 1)) = qO ek ev' (M ++ [(a, vb, c)]) (c + 1) := by simp [qO, mE]
  rw [e]
  exact hm1.put
end
end Go.Lw
end
section
set_option linter.unusedVariables false
namespace Go.Proofs.YtadbifpalpdocaaGreatDoor
open Go.Lw Go.Gl Go.Bl Go.RowKit Go.Sort
theorem swo : SWO (ltOf cfS) := by
 have key : ∀ x y, ltOf cfS x y = decide (rvI (IntKind.u64.wrap (y : Int)) < rvI (IntKind.u64.wrap (x : Int))) := fun x y => by
  unfold ltOf cfS cpI
  rw [decide_eq_decide]
  split
  ·simp [*]
  ·split
   ·simp; omega
   ·simp; omega
 refine ⟨fun x => ?_, fun x y z h1 h2 => ?_, fun x y z h1 h2 => ?_⟩
 ·rw [key]; simp
 ·rw [key] at *; simp at *; omega
 ·rw [key] at *; simp at *; omega
theorem flat_ste : ∀ l : List Nat, flat ste l = l.map fun (s : Nat) => iv (s : Int)
 | [] => rfl
 | x :: l => by
  have := flat_ste l
  simp only [flat] at this ⊢
  simp [this]
theorem flatK_ste (d : Array Nat) : flatK ste 1 d = (flat ste d.toList).toArray := by
 rw [flat_ste]
 apply Array.ext
 ·simp [flatK]
 ·intro t h1 h2
  simp only [flatK, Array.size_map, Array.size_range, Nat.mul_one] at h1
  simp only [flatK, Array.getElem_map, Array.getElem_range, Nat.div_one, Nat.mod_one, List.getElem_toArray, List.getElem_map, Array.getElem_toList]
  rw [getElem!_pos d t h1]
  rfl
def SrtL (l : List Nat) : Prop := ∀ (i j : Nat) (x y : Nat), i < j → l[i]? = some x → l[j]? = some y → ltOf cfS y x = false
theorem sort_f (l : List Nat) (rest : List Value) (b cap : Nat) (w : World) (hb : w.heap[b]? = some (LC (flat ste l ++ rest) 83)) (hl : l.length < 4611686018427387904) :
  Calls Tryz.prog 95 #[.slice (some ⟨b, 0, none⟩) l.length cap, .func (.func 96) #[] #[]] w fun e w' => e = .returned (.tuple #[]) ∧ ∃ l' : List Nat, l'.Perm l ∧ SrtL l' ∧ w'.os = w.os ∧ w'.tape = w.tape ∧ w'.output = w.output ∧ w.heap.size ≤ w'.heap.size ∧ (∀ k, k < w.heap.size → k ≠ b → w'.heap[k]? = w.heap[k]?) ∧ w'.heap[b]? = some (LC (flat ste l' ++ rest) 83) := by
 have hbs : b < w.heap.size := (Array.getElem?_eq_some_iff.1 hb).1
 have eg : ∀ args w, (callFunc 96 args).run Tryz.prog w = .ok (.enter 96 args) w := enters_of Tryz.func96 (by kernel_rfl) rfl
 have hH : HoldsK ste 1 w b 0 l.toArray := by
  unfold HoldsK Holds
  rw [flatK_ste]
  intro j hj
  rw [List.size_toArray] at hj
  have hlen : (flat ste l).length = l.length * 1 := qm ste_len l
  refine ⟨?_, ?_⟩
  ·rw [Nat.zero_add, jd hb, List.getElem?_append_left hj, getElem!_pos _ _ (by simpa using hj)]
   simp
  ·simp [World.frozen?, hb, LC]
 have hcon := AnyQ.slices_SortFunc srt 1 Tryz.isAgg83 Tryz.sizeOf83 ste (fun _ => rfl) (fun x v hv => by simp at hv; subst hv; rfl) cfS swo 96 #[] b 0 cap l.toArray w eg (fun _ _ _ _ x y => closure101 x y _) hH hbs (by simpa using hl)
 refine hcon.mono fun e w' ⟨he, d', n, os, hp, hs, hw⟩ => ?_
 obtain ⟨hp1, _, hp3⟩ := hp
 have hsz : d'.size = l.length := by rw [hp1]; simp
 have hpl : d'.toList.Perm l := by
  have e1 : (d'.extract 0 l.toArray.size) = d' := by rw [← hp1, Array.extract_size]
  have e2 : (l.toArray.extract 0 l.toArray.size) = l.toArray := Array.extract_size
  rw [e1, e2] at hp3
  exact hp3
 have hbw : b < w'.heap.size ∧ True := by
  subst hw; refine ⟨?_, trivial⟩
  show b < ((w.heap.modify b _) ++ os).size
  simp; omega
 refine ⟨he, d'.toList, hpl, fun i j x y hij hx hy => ?_, ?_, ?_, ?_, ?_, fun k hk hkb => ?_, ?_⟩
 ·obtain ⟨hi', rfl⟩ := List.getElem?_eq_some_iff.1 hx
  obtain ⟨hj', rfl⟩ := List.getElem?_eq_some_iff.1 hy
  rw [Array.length_toList] at hi' hj'
  have := hs i j (Nat.zero_le _) hij (by simp; omega)
  rw [getElem!_pos d' i hi', getElem!_pos d' j hj'] at this
  exact this
 ·subst hw; rfl
 ·subst hw; rfl
 ·subst hw; rfl
 ·subst hw
  show w.heap.size ≤ ((w.heap.modify b _) ++ os).size
  simp
 ·subst hw
  show ((w.heap.modify b _) ++ os)[k]? = _
  rw [Array.getElem?_append_left (by simpa using hk), Array.getElem?_modify, if_neg (fun h => hkb h.symm)]
 ·subst hw
  show ((w.heap.modify b _) ++ os)[b]? = _
  rw [Array.getElem?_append_left (by simpa using hbs), Array.getElem?_modify, if_pos rfl, hb, flatK_ste]
  simp only [Option.map_some, onCells, LC]
  congr 2
  have hf1 := qm ste_len d'.toList
  have hf2 := qm ste_len l
  have hll : d'.toList.length = l.length := by simpa using hsz
  apply Array.ext
  ·simp [putCells]; omega
  ·intro t h1 h2
   simp only [putCells, Array.size_mapIdx, List.size_toArray] at h1
   simp only [putCells, Array.getElem_mapIdx, Nat.zero_le, true_and, Nat.zero_add, List.size_toArray, Nat.sub_zero, id]
   by_cases c : t < (flat ste d'.toList).length
   ·rw [if_pos c, getElem!_pos _ _ (by simpa using c)]
    simp only [List.getElem_toArray]
    rw [List.getElem_append_left c]
   ·rw [if_neg c]
    simp only [List.getElem_toArray]
    rw [List.getElem_append_right (by omega), List.getElem_append_right (by omega)]
    congr 1; omega
end Go.Proofs.YtadbifpalpdocaaGreatDoor
end
section
set_option linter.unusedVariables false
namespace Go.Proofs.YtadbifpalpdocaaGreatDoor
open Go.Lw Go.Gl Go.Bl Go.RowKit Go.Sort
theorem key72 : KeyL Tryz.prog 83 (fun s : Nat => stv s) where
 eq a b w := by
  have h := (eqS83 (a : Int) (b : Int)).2 w
  have e : decide ((a : Int) = (b : Int)) = decide (a = b) := by rw [decide_eq_decide]; omega
  rw [e] at h
  exact h
 ck e a w := by
  have u3 := Tryz.underlying3
  have a3 := Tryz.isAgg3
  have z3 := Tryz.sizeOf3
  have ci : ∀ (x : Int) (w : World), (Instr.checkKey e 9999 3 (.int .i64 x)).run Tryz.prog w = .ok () w := fun x w => by
   rw [show (9999 : Nat) = 9998 + 1 from rfl, Instr.checkKey]
   simp [run_underlying u3, Sem.run_bind, Result.andThen_ok, Sem.run_pure]
  rw [show (10000 : Nat) = 9999 + 1 from rfl, Instr.checkKey]
  simp only [Sem.run_bind, run_underlying Tryz.underlying83, Result.andThen_ok]
  rw [← Array.forIn_toList]
  simp only [List.forIn_cons, List.forIn_nil, Sem.run_bind, Sem.run_pure, Result.andThen_ok]
  generalize (9999 : Nat) = q at ci ⊢
  go_simp
 sb a := by simp [Instr.sameBits]
 now := ⟨_, Tryz.underlying83, .inl fun a b => rfl⟩
theorem AtT.sortS {cx : Cx} {n : Nat} {ks : List (Nat × Value)} {O R : List Own} {V : View} {ops : Array Oper} {Qn : Act → World → Prop} {t : Tr} {i d : Nat} {T : TypeId} {pos : String} {after : Array Edge} {gd : Option (Nat × Bool)} {x y : Operand} {ts : Array TypeId} {b cap : Nat} {l : List Nat} {rest : List Value}
  (ho : ops[i]? = some ⟨some d, .call ⟨.value (.func 95), #[x, y], ts⟩, T, pos, after, gd⟩) (hg : Gd ks ops gd) (hx : ev ks x = some (.slice (some ⟨b, 0, none⟩) l.length cap)) (hy : ev ks y = some (.func (.func 96) #[] #[])) (hl : l.length < 4611686018427387904) (hp : zJ (.blk b (LC (flat ste l ++ rest) 83)) O R) (hn : d < n)
  (next : ∀ l' : List Nat, l'.Perm l → SrtL l' → AtT cx n ((d, .tuple #[]) :: ks) (.blk b (LC (flat ste l' ++ rest) 83) :: R) V Tryz.prog ops Qn t) : AtT cx n ks O V Tryz.prog ops Qn (.n true i t) :=
 .x ho hg fun a w hk hm => by
  have hm1 := hm.pick hp
  have e : (#[x, y] : Array Operand).map a.eval = #[.slice (some ⟨b, 0, none⟩) l.length cap, .func (.func 96) #[] #[]] := by simp [hk.ev hx, hk.ev hy]
  have e2 : a.eval (.func 95) = .func (.func 95) #[] #[] := rfl
  simp only [opW, execOp, resolve, e, e2, Deferred.ofValue, Sem.run_bind, Sem.run_pure, Result.andThen_ok, invoke, Array.empty_append, Array.append_empty]
  rw [ok95 _ w]
  refine (sort_f l rest b cap w hm1.blk hl).mono fun e w' ⟨h0, l', h1, h2, h3, h4, h5, h6, h7, h8⟩ => ?_
  subst h0
  have hm2 := hm1.set (w' := w') ⟨h3, h4, h5, h6, fun k hk hne => h7 k hk (fun e => hne (by rw [e]))⟩ h8
  exact ⟨_, _, V, hk.put hn _, hm2, fun h => (by cases h), next l' h1 h2⟩
end Go.Proofs.YtadbifpalpdocaaGreatDoor
end
section
set_option linter.unusedVariables false
namespace Go.Bl
open Go.Gl Go.Lw
def cntK (A : Nat) (n : Nat) : Nat := (zX A n).length
def cnt (A : Nat) : Nat := cntK A 15
theorem cntK_succ (A n : Nat) : cntK A (n + 1) = cntK A n + (if A.testBit n = true then 1 else 0) := by
 unfold cntK; simp only [zX]; split <;> simp
theorem cntK_or {A i : Nat} (hi : A.testBit i = false) : ∀ n, cntK (A ||| 2 ^ i) n = cntK A n + (if i < n then 1 else 0)
 | 0 => by simp [cntK, zX]
 | n + 1 => by
  rw [cntK_succ, cntK_succ, cntK_or hi n, Nat.testBit_or, Nat.testBit_two_pow]
  by_cases c : i = n
  ·subst c; simp [hi]
  ·by_cases d : i < n
   ·have : ¬ i = n := c
    simp [d, this, show i < n + 1 by omega]
    split <;> omega
   ·have : ¬ i < n + 1 := by omega
    simp [d, c, this]
theorem cnt_or {A i : Nat} (hi : A.testBit i = false) (h : i < 15) : cnt (A ||| 2 ^ i) = cnt A + 1 := by
 unfold cnt; rw [cntK_or hi, if_pos h]
theorem cntK_le (A : Nat) : ∀ n, cntK A n ≤ n
 | 0 => by simp [cntK, zX]
 | n + 1 => by rw [cntK_succ]; have := cntK_le A n; split <;> omega
theorem cnt_zero : cnt 0 = 0 := by decide
theorem ql (A B : Nat) : mtB A B = true ↔ ∃ i, A.testBit i = true ∧ B.testBit i = true := by
 unfold mtB
 rw [decide_eq_true_eq]
 constructor
 ·intro h
  obtain ⟨i, hi⟩ := Nat.exists_testBit_of_ne_zero h
  rw [Nat.testBit_and, Bool.and_eq_true] at hi
  exact ⟨i, hi⟩
 ·rintro ⟨i, h1, h2⟩ h
  have : (A &&& B).testBit i = true := by rw [Nat.testBit_and, h1, h2]; rfl
  rw [h] at this; simp at this
theorem mtB_no {A B i : Nat} (h : mtB A B = false) (hi : A.testBit i = true) : B.testBit i = false := by
 cases c : B.testBit i with
 | false => rfl
 | true => rw [(ql A B).2 ⟨i, hi, c⟩] at h; cases h
def Stp (t s x : Nat) : Prop := (mtB t s = true ∧ x = s) ∨ (mtB t s = false ∧ ∃ i, i < 15 ∧ t.testBit i = true ∧ x = s ||| 2 ^ i)
def GsK (ls : List Nat) : Nat → Nat → Prop
 | 0, x => x = 0
 | k + 1, x => ∃ s, GsK ls k s ∧ Stp (ls.getD k 0) s x
structure MI (M : MM Nat Int) (c : Nat) : Prop where
 born : ∀ e ∈ M, e.2.2 < c
 nodB : (M.map (·.2.2)).Nodup
 nodK : (M.map (·.1)).Nodup
 val : ∀ e ∈ M, e.2.1 = (cnt e.1 : Int)
 lt : ∀ e ∈ M, e.1 < 32768
theorem mi_nil : MI [] 0 := ⟨fun e h => (by cases h), List.nodup_nil, List.nodup_nil, fun e h => (by cases h), fun e h => (by cases h)⟩
theorem mi_ins {M : MM Nat Int} {c a : Nat} (h : MI M c) (ha : a < 32768) : MI (mIns a (cnt a : Int) M c).1 (mIns a (cnt a : Int) M c).2 := by
 unfold mIns
 split
 ·exact h
 ·rename_i hn
  have hno : ∀ e ∈ M, e.1 ≠ a := fun e he e1 => hn ((jc a M).2 ⟨e, he, e1⟩)
  refine ⟨fun e he => ?_, ?_, ?_, fun e he => ?_, fun e he => ?_⟩
  ·rcases List.mem_append.1 he with he | he
   ·have := h.born e he; omega
   ·rw [List.mem_singleton] at he; subst he; simp
  ·rw [List.map_append]
   refine List.nodup_append.2 ⟨h.nodB, by simp, fun x hx y hy => ?_⟩
   obtain ⟨e, he, rfl⟩ := List.mem_map.1 hx
   simp at hy; subst hy
   have := h.born e he; omega
  ·rw [List.map_append]
   refine List.nodup_append.2 ⟨h.nodK, by simp, fun x hx y hy => ?_⟩
   obtain ⟨e, he, rfl⟩ := List.mem_map.1 hx
   simp at hy; subst hy
   exact hno e he
  ·rcases List.mem_append.1 he with he | he
   ·exact h.val e he
   ·rw [List.mem_singleton] at he; subst he; rfl
  ·rcases List.mem_append.1 he with he | he
   ·exact h.lt e he
   ·rw [List.mem_singleton] at he; subst he; exact ha
theorem mi_has {M : MM Nat Int} {c a x : Nat} {v : Int} : kN x (mIns a v M c).1 = true ↔ kN x M = true ∨ x = a := by
 unfold mIns
 split
 ·rename_i h
  constructor
  ·exact .inl
  ·rintro (h1 | rfl)
   ·exact h1
   ·exact h
 ·rw [jc, jc]
  constructor
  ·rintro ⟨e, he, rfl⟩
   rcases List.mem_append.1 he with he | he
   ·exact .inl ⟨e, he, rfl⟩
   ·rw [List.mem_singleton] at he; subst he; exact .inr rfl
  ·rintro (⟨e, he, rfl⟩ | rfl)
   ·exact ⟨e, List.mem_append_left _ he, rfl⟩
   ·exact ⟨(x, v, c), by simp, rfl⟩
structure SmS (ls : List Nat) (srt : List Nat → Prop) (l : List Nat) : Prop where
 nod : l.Nodup
 srt : srt l
 mem : ∀ x, x ∈ l ↔ GsK ls ls.length x ∧ ∀ y, GsK ls ls.length y → cnt x ≤ cnt y
theorem or_lt15 {s i : Nat} (hs : s < 32768) (hi : i < 15) : s ||| 2 ^ i < 32768 := Nat.or_lt_two_pow (n := 15) hs (Nat.pow_lt_pow_right (by decide) hi)
theorem gsK_lt {ls : List Nat} : ∀ {k x : Nat}, GsK ls k x → x < 32768
 | 0, x, h => by rw [h]; decide
 | k + 1, x, ⟨s, h1, h2⟩ => by
  have := gsK_lt h1
  rcases h2 with ⟨_, rfl⟩ | ⟨_, i, hi, _, rfl⟩
  ·exact this
  ·exact or_lt15 this hi
theorem gsK_ex {ls : List Nat} (h : ∀ s ∈ ls, s ≠ 0 ∧ s < 32768) : ∀ k, k ≤ ls.length → ∃ x, GsK ls k x
 | 0, _ => ⟨0, rfl⟩
 | k + 1, hk => by
  obtain ⟨s, hs⟩ := gsK_ex h k (by omega)
  have ht := h (ls.getD k 0) (by simp only [List.getD, List.getElem?_eq_getElem (show k < ls.length by omega)]; exact List.getElem_mem _)
  cases c : mtB (ls.getD k 0) s with
  | true => exact ⟨s, s, hs, .inl ⟨c, rfl⟩⟩
  | false =>
   obtain ⟨i, hi⟩ := Nat.exists_testBit_of_ne_zero ht.1
   have hi15 : i < 15 := by
    apply Classical.byContradiction
    intro hc
    rw [Nat.testBit_lt_two_pow (Nat.lt_of_lt_of_le (show ls.getD k 0 < 2 ^ 15 by omega) (Nat.pow_le_pow_right (by decide) (by omega)))] at hi; cases hi
   exact ⟨s ||| 2 ^ i, s, hs, .inr ⟨c, i, hi15, hi, rfl⟩⟩
end Go.Bl
namespace Go.Bl
open Go.Gl Go.Lw
theorem pigeonN : ∀ {n : Nat} {l : List Nat}, l.Nodup → (∀ x ∈ l, x < n) → l.length ≤ n
 | 0, l, _, h => by
  cases l with
  | nil => simp
  | cons x l => have := h x List.mem_cons_self; omega
 | n + 1, l, hd, h => by
  have h1 := pigeonN (n := n) (l := l.erase n) (hd.sublist List.erase_sublist) (fun x hx => by
   have := h x (List.mem_of_mem_erase hx)
   have : x ≠ n := fun e => by subst e; exact (List.Nodup.not_mem_erase hd) hx
   omega)
  by_cases c : n ∈ l
  ·have := List.length_erase_of_mem c; omega
  ·rw [List.erase_of_not_mem c] at h1; omega
theorem mi_len {M : MM Nat Int} {c : Nat} (h : MI M c) : M.length ≤ 32768 := by
 have := pigeonN (n := 32768) h.nodK fun x hx => by obtain ⟨e, he, rfl⟩ := List.mem_map.1 hx; exact h.lt e he
 rw [List.length_map] at this; exact this
theorem seen_push {M : MM Nat Int} {seen : Array Nat} {e : Nat × Int × Nat} (hn : (M.map (·.2.2)).Nodup) (he : e ∈ M) {e' : Nat × Int × Nat} (he' : e' ∈ M) : e'.2.2 ∈ seen.push e.2.2 ↔ e'.2.2 ∈ seen ∨ e' = e := by
 rw [Array.mem_push]
 constructor
 ·rintro (h | h)
  ·exact .inl h
  ·exact .inr (inj_of (fun e : Nat × Int × Nat => e.2.2) hn he' he h)
 ·rintro (h | rfl)
  ·exact .inl h
  ·exact .inr rfl
end Go.Bl
end
section
set_option linter.unusedVariables false
namespace Go.Lw
open Go.RowKit
section
variable {cx : Cx} {n : Nat} {ks : List (Nat × Value)} {O : List Own} {V : View} {P : Program} {ops : Array Oper} {Qn : Act → World → Prop} {t : Tr} {i d : Nat} {T : TypeId} {pos : String} {after : Array Edge} {gd : Option (Nat × Bool)} {x y : Operand}
theorem AtT.idxZ {X E : TypeId} {len cap s j : Nat} {k : IntKind} {b : Nat} {ag : Bool} (ho : ops[i]? = some ⟨some d, .indexAddr X x y, T, pos, after, gd⟩) (hg : Gd ks ops gd) (hX : P.underlying X = some (.slice E)) (hE : tkB P E = some (ag, s))
  (hx : ev ks x = some (.slice (some ⟨b, 0, none⟩) len cap)) (hy : ev ks y = some (.int k (j : Int))) (h1 : j < len) (hn : d < n)
  (next : AtT cx n ((d, .pointer (some ⟨b, j * s, none⟩)) :: ks) O V P ops Qn t) : AtT cx n ks O V P ops Qn (.q i t) :=
 AtT.idxO ho hg hX hE hx hy (Int.natCast_nonneg j) (Int.ofNat_lt.2 h1) hn (by
  have e : 0 + (j : Int).toNat * s = j * s := by simp
  rw [e]; exact next)
end
theorem cells_pre {V : View} {b : Nat} {us rest : List Value} {E : TypeId} {fr : Nat × Nat} (h : V b = some (LC (us ++ rest) E fr)) : Cells V ⟨b, 0, none⟩ us := fun j u hj =>
 jf h j u (by rw [List.getElem?_append_left (List.getElem?_eq_some_iff.1 hj).1]; exact hj)
theorem flat_all1 {α : Type} {enc : α → List Value} (h1 : ∀ x, (enc x).all Value.oneCell' = true) (l : List α) : (flat enc l).all Value.oneCell' = true := by
 rw [List.all_eq_true]
 intro u hu
 simp only [flat, List.mem_flatMap] at hu
 obtain ⟨q, _, hq⟩ := hu
 exact List.all_eq_true.1 (h1 q) u hq
end Go.Lw
end
section
set_option linter.unusedVariables false
namespace Go.Lw
open Go.RowKit
section
variable {cx : Cx} {O R : List Own} {V : View} {w : World}
theorem Mem.rowFacts {a0 : Option Addr} {e : TypeId} {s m c0 : Nat} {xs : List Value} (h : Mem cx (.row (.slice a0 m c0) e s m xs :: O) V w) : m ≤ c0 ∧ c0 ≤ maxLen ∧ xs.length = m * s ∧ (a0 = none → m = 0) := by
 obtain ⟨fp, ⟨f, g, rfl, ⟨rfl, hr⟩, hl⟩, h2, h3⟩ := h.own
 rcases hr.2 with ⟨e1, rfl⟩ | ⟨b, cap, cur, e1, hb, hh, hnc, hcm, hcs, htake⟩
 ·cases e1; exact ⟨Nat.le_refl _, Nat.zero_le _, hr.1, fun _ => rfl⟩
 ·cases e1; exact ⟨hnc, hcm, hr.1, fun h => by cases h⟩
theorem Mem.rowCells {p : Addr} {e : TypeId} {s m c0 : Nat} {xs : List Value} (h : Mem cx (.row (.slice (some p) m c0) e s m xs :: O) V w) : ∀ j u, xs[j]? = some u → w.cell? (p.add j) = some u := by
 obtain ⟨fp, ⟨f, g, rfl, ⟨rfl, hr⟩, hl⟩, h2, h3⟩ := h.own
 rcases hr.2 with ⟨e1, rfl⟩ | ⟨b, cap, cur, e1, hb, hh, hnc, hcm, hcs, htake⟩
 ·cases e1
 ·cases e1; exact hr.cells (g := b) rfl
theorem Mem.blkRow {b cap n : Nat} {e : TypeId} {s : Nat} {cs : Array Value} {xs : List Value} (h : Mem cx (.blk b (.cells cs e (0, 0)) :: O) V w) (hx : xs.length = n * s) (hs : cs.size = cap * s) (ht : cs.toList.take (n * s) = xs) (hn : n ≤ cap) (hc : cap ≤ maxLen) :
  Mem cx (.row (.slice (some ⟨b, 0, none⟩) n cap) e s n xs :: O) V w := by
 obtain ⟨fp, ⟨f, g, rfl, ⟨rfl, hb, hh⟩, hl⟩, h2, h3⟩ := h.own
 exact ⟨h.below, h.le0, h.fresh, h.view, [b] ++ g, ⟨[b], g, rfl, ⟨rfl, hx, .inr ⟨b, cap, cs, rfl, hb, hh, hn, hc, hs, ht⟩⟩, hl⟩, h2, h3⟩
theorem Mem.rowBlk2 {v : Value} {e : TypeId} {s n : Nat} {xs : List Value} (h : Mem cx (.row v e s n xs :: O) V w) (hn : n ≠ 0) :
  ∃ b cap rest, v = .slice (some ⟨b, 0, none⟩) n cap ∧ n ≤ cap ∧ cap ≤ maxLen ∧ (xs ++ rest).length = cap * s ∧ Mem cx (.blk b (LC (xs ++ rest) e) :: O) V w := by
 obtain ⟨fp, ⟨f, g, rfl, ⟨rfl, hr⟩, hl⟩, h2, h3⟩ := h.own
 rcases hr.2 with ⟨rfl, hn0⟩ | ⟨b, cap, cur, rfl, hb, hh, hnc, hcm, hcs, htake⟩
 ·exact absurd hn0 hn
 ·have hcat : xs ++ cur.toList.drop (n * s) = cur.toList := by rw [← htake, List.take_append_drop]
  refine ⟨b, cap, cur.toList.drop (n * s), rfl, hnc, hcm, by rw [hcat]; simpa using hcs, ?_⟩
  have hcur : (LC (xs ++ cur.toList.drop (n * s)) e : Obj) = .cells cur e (0, 0) := by
   show Obj.cells _ e (0, 0) = Obj.cells cur e (0, 0)
   congr 1
   rw [hcat]
  rw [hcur]
  exact ⟨h.below, h.le0, h.fresh, h.view, [b] ++ g, ⟨[b], g, rfl, ⟨rfl, hb, hh⟩, hl⟩, by simpa [Value.ownBlock] using h2, by simpa [Value.ownBlock] using h3⟩
end
section
variable {cx : Cx} {n : Nat} {ks : List (Nat × Value)} {O R : List Own} {V : View} {w : World} {K : Act → World → Prop}
theorem At.rowBlk2 {v : Value} {e : TypeId} {s m : Nat} {xs : List Value} (hp : zJ (.row v e s m xs) O R) (hm : m ≠ 0)
  (h : ∀ b cap rest, v = .slice (some ⟨b, 0, none⟩) m cap → m ≤ cap → cap ≤ maxLen → (xs ++ rest).length = cap * s → At cx n ks (.blk b (LC (xs ++ rest) e) :: R) V K) : At cx n ks O V K := fun a w hk hmm => by
 obtain ⟨b, cap, rest, h1, h2, h3, h4, h5⟩ := (hmm.pick hp).rowBlk2 hm
 exact h b cap rest h1 h2 h3 h4 a w hk h5
theorem At.blkRow {b m cap : Nat} {e : TypeId} {s : Nat} {xs rest : List Value} (hp : zJ (.blk b (LC (xs ++ rest) e)) O R) (hl : (xs ++ rest).length = cap * s) (hx : xs.length = m * s) (h1 : m ≤ cap) (h2 : cap ≤ maxLen)
  (h : At cx n ks (.row (.slice (some ⟨b, 0, none⟩) m cap) e s m xs :: R) V K) : At cx n ks O V K := fun a w hk hmm =>
 h a w hk ((hmm.pick hp).blkRow hx (by simpa using hl) (by rw [← hx]; exact List.take_left) h1 h2)
end
section
variable {cx : Cx} {n : Nat} {ks : List (Nat × Value)} {O R : List Own} {V : View} {P : Program} {ops : Array Oper} {Qn : Act → World → Prop} {t : Tr} {i d : Nat} {T : TypeId} {pos : String} {after : Array Edge} {gd : Option (Nat × Bool)} {x y : Operand} {wr : Bool}
theorem AtT.clipR {X E : TypeId} {s m c0 : Nat} {ag : Bool} {a0 : Option Addr} {xs : List Value} {h' m' : Operand} {k k2 : IntKind} {z z2 : Int} (ho : ops[i]? = some ⟨some d, .slice X x none (some h') (some m'), T, pos, after, gd⟩) (hg : Gd ks ops gd) (hX : P.underlying X = some (.slice E)) (hE : tkB P E = some (ag, s))
  (hx : ev ks x = some (.slice a0 m c0)) (hp : zJ (.row (.slice a0 m c0) E s m xs) O R) (hh : ev ks h' = some (.int k z)) (hm' : ev ks m' = some (.int k2 z2)) (hz : z = (m : Int)) (hz2 : z2 = (m : Int)) (hn : d < n)
  (next : AtT cx n ((d, .slice a0 m m) :: ks) O V P ops Qn t) : AtT cx n ks O V P ops Qn (.q i t) := by
 subst hz hz2
 refine .q (v := .slice a0 m m) ho hg rfl hn (fun b w hk hm => ?_) next
 obtain ⟨f1, f2, f3, f4⟩ := (hm.pick hp).rowFacts
 have hX' : P.underlying X = some (.slice (P.elem X)) := by simp [Program.elem, hX]
 have hEl : P.elem X = E := by simp [Program.elem, hX]
 simp only [execOp, hk.ev hx, hk.ev hh, hk.ev hm', Option.map_none, Option.map_some, Sem.run_bind, run_sliceAt_slice w X _ _ _ _ hX']
 rw [run_slice_hm w X a0 m c0 hX' k k2 (m : Int) (m : Int) (Int.natCast_nonneg m) (Int.le_refl _) (by omega), hEl, run_sizeOf hE]
 simp only [Result.andThen_ok, Sem.run_pure, sliced, Int.toNat_natCast, Nat.zero_mul, Nat.sub_zero]
 congr 3
 split
 ·rfl
 ·cases a0 <;> simp [Addr.add]
theorem AtT.appendR {X E : TypeId} {z : Value} {s by_ m c0 k c : Nat} {a0 : Option Addr} {xs news : List Value} {q : Addr} (ho : ops[i]? = some ⟨some d, .call ⟨.builtin .append, #[x, y], #[X, X]⟩, T, pos, after, gd⟩) (hg : Gd ks ops gd) (hX : P.underlying X = some (.slice E)) (hE : rowB P E = some (z, s, by_)) (hzs : z.cells.size = s) (hs : 0 < s)
  (hx : ev ks x = some (.slice a0 m m)) (hy : ev ks y = some (.slice (some q) k c)) (hp : zJ (.row (.slice a0 m c0) E s m xs) O R) (hc : Cells V q news) (hl : news.length = k * s) (h0 : 0 < k) (hb : m + k ≤ maxLen) (hby : (m + k) * by_ ≤ 140737488355328) (hn : d < n)
  (next : ∀ a cap, AtT cx n ((d, .slice a (m + k) cap) :: ks) (.row (.slice a (m + k) cap) E s (m + k) (xs ++ news) :: R) V P ops Qn t) : AtT cx n ks O V P ops Qn (.n true i t) :=
 .x ho hg fun a w hk hm => by
  have hm1 := hm.pick hp
  obtain ⟨f1, f2, f3, f4⟩ := hm1.rowFacts
  obtain ⟨ti, hi, hz, hsz, hbz⟩ := kw hE
  have hlen : (xs ++ news).length = (m + k) * s := by rw [List.length_append, f3, hl, Nat.add_mul]
  have hnews := hc.run hm.view
  have fin : ∀ (cs : Array Value) (cap : Nat), m + k ≤ cap → cap ≤ maxLen → cs.size = cap * s → cs.toList.take ((m + k) * s) = xs ++ news → ∃ ks' O' V', Kn cx n ks' (a.put (some d) (.slice (some ⟨w.heap.size, 0, none⟩) (m + k) cap)) ∧ Mem cx O' V' (w.drew.alloc (.cells cs E)) ∧ (true = false → ∀ u, Mem cx O' V' u → Mem cx O V u) ∧ AtT cx n ks' O' V' P ops Qn t := fun cs cap h1 h2 h3 h4 => by
   have hd : Mem cx R V w.drew := hm1.drop.ext (Below.refl _ w).drew
   have ha := hd.alloc (.cells cs E (0, 0))
   exact ⟨_, _, V, hk.put hn _, ha.blkRow hlen h3 h4 h1 h2, fun h => (by cases h), next _ cap⟩
  simp only [opW, execOp, resolve, invoke, builtin, Sem.run_bind, Sem.run_pure, Result.andThen_ok, List.map_toArray, List.map_cons, List.map_nil, hk.ev hx, hk.ev hy]
  cases a0 with
  | none =>
   obtain rfl := f4 rfl
   obtain rfl : xs = [] := List.eq_nil_of_length_eq_zero (by rw [f3]; simp)
   have hr := run_append_nil (P := P) w X T E ti z hX hi hz q k c news (by rw [hl, hsz]) hnews h0 (by simp only [maxLen] at hb; simp at hb; omega) (by rw [hbz]; simp at hby; omega)
   simp only [hr, Result.andThen_ok]
   have := fin (news.toArray ++ Builtin.zeroCells z.cells (grownCap w k 0 E - k)) (grownCap w k 0 E) (by simpa using grownCap_ge w k 0 E) (grownCap_le_maxLen w _ _ _ (by simpa using hb)) (by
     have hge := grownCap_ge w k 0 E
     simp only [Array.size_append, List.size_toArray, size_zeroCells, hzs, hl, ← Nat.add_mul]
     congr 1; omega) (by
     rw [← hlen, List.nil_append, Array.toList_append]; exact List.take_left)
   simpa using this
  | some p =>
   have hr := run_append_grow (P := P) w X T E ti z hX hi hz p m m xs (by rw [hsz]; exact f3) hm1.rowCells q k c news (by rw [hl, hsz]) hnews (by omega) (by simp only [maxLen] at hb; omega) (growslice_fits (by omega) (by rw [hbz]; exact hby))
   simp only [hr, Result.andThen_ok]
   refine fin _ _ (grownCap_ge w _ _ _) (grownCap_le_maxLen w _ _ _ hb) ?_ ?_
   ·have hge := grownCap_ge w (m + k) m E
    simp only [Array.size_append, List.size_toArray, size_zeroCells, hzs, f3, hl, ← Nat.add_mul]
    congr 1; omega
   ·rw [← hlen, Array.toList_append, Array.toList_append]; exact List.take_left
end
section
variable {cx : Cx} {n : Nat} {ks : List (Nat × Value)} {O R : List Own} {V : View} {P : Program} {ops : Array Oper} {Qn : Act → World → Prop} {t : Tr} {i d : Nat} {T : TypeId} {pos : String} {after : Array Edge} {gd : Option (Nat × Bool)} {x y : Operand} {X Z : TypeId} {p q : Int}
theorem wrapU {A : Nat} (h : A < 18446744073709551616) : IntKind.u64.wrap (A : Int) = (A : Int) := by
 simp [IntKind.wrap, IntKind.bits, IntKind.signed]; omega
end
theorem run_append_zero {P : Program} (w : World) (t ty e : TypeId) (i : TypeInfo) (ht : P.underlying t = some (.slice e)) (hi : P.info? e = some i) (base a2 : Option Addr) (n cap c2 : Nat) (hle : n ≤ cap) :
  (Builtin.append_ #[t, t] ty #[.slice base n cap, .slice a2 0 c2]).run P w = .ok (.slice base n cap) w := by
 cases a2 with
 | none => cases base <;> simp [Builtin.append_, run_underlying ht, sizeOf, typeInfo, hi, Builtin.lenOf, Builtin.firstCells, hle, storeCells]
 | some p =>
  have hf := run_firstCells_some (P := P) w i.size 0 p 0 c2 [] (by simp) (by simp)
  cases base <;> simp [Builtin.append_, run_underlying ht, sizeOf, typeInfo, hi, Builtin.lenOf, hf, hle, storeCells]
section
variable {cx : Cx} {n : Nat} {ks : List (Nat × Value)} {O R : List Own} {V : View} {P : Program} {ops : Array Oper} {Qn : Act → World → Prop} {t : Tr} {i d : Nat} {T : TypeId} {pos : String} {after : Array Edge} {gd : Option (Nat × Bool)} {x y : Operand} {wr : Bool}
theorem AtT.bsliceR0 {X E : TypeId} {s : Nat} {ps : List (Nat × Operand)} {vs : List (Nat × Value)} (ho : ops[i]? = some ⟨some d, .buildSlice X 0 ps.toArray, T, pos, after, gd⟩) (hg : Gd ks ops gd) (hp : evp ks ps = some vs)
  (hr : ∀ w, (Instr.buildSlice X 0 vs.toArray).run P w = .ok (.slice (some ⟨w.heap.size, 0, none⟩) 0 0) (w.alloc (LC [] E))) (hn : d < n)
  (next : ∀ b, AtT cx n ((d, .slice (some ⟨b, 0, none⟩) 0 0) :: ks) (.row (.slice (some ⟨b, 0, none⟩) 0 0) E s 0 [] :: O) V P ops Qn t) : AtT cx n ks O V P ops Qn (.n wr i t) :=
 .x ho hg fun a w hk hm => by
  have e : (ps.toArray.map fun (j, o) => (j, a.eval o)) = vs.toArray := by rw [← evp_map hk ps vs hp]; simp
  simp only [opW, execOp, e, Sem.run_bind, hr, Result.andThen_ok, Sem.run_pure]
  have ha := hm.alloc (LC [] E)
  exact ⟨_, _, V, hk.put hn _, Mem.blkRow (s := s) (xs := []) (cs := ⟨[]⟩) ha (by simp) (by simp) (by simp) (Nat.le_refl _) (Nat.zero_le _), fun _ u hu => hu.drop, next _⟩
theorem AtT.appendRS {α : Type} {enc : α → List Value} {m : List α} {X E : TypeId} {z : Value} {s by_ n0 c0 : Nat} {a0 : Option Addr} {xs : List Value} {v : Value} (ho : ops[i]? = some ⟨some d, .call ⟨.builtin .append, #[x, y], #[X, X]⟩, T, pos, after, gd⟩) (hg : Gd ks ops gd) (hX : P.underlying X = some (.slice E)) (hE : rowB P E = some (z, s, by_)) (hzs : z.cells.size = s) (hs : 0 < s)
  (hx : ev ks x = some (.slice a0 n0 c0)) (hy : ev ks y = some v) (hp : zJ (.row (.slice a0 n0 c0) E s n0 xs) O R) (hv : Sl V enc s v m) (he : ∀ x, (enc x).length = s) (h1 : ∀ x, (enc x).all Value.oneCell' = true) (hb : n0 + m.length ≤ maxLen) (hby : (n0 + m.length) * by_ ≤ 140737488355328) (hn : d < n)
  (next : ∀ a cap, AtT cx n ((d, .slice a (n0 + m.length) cap) :: ks) (.row (.slice a (n0 + m.length) cap) E s (n0 + m.length) (xs ++ flat enc m) :: R) V P ops Qn t) : AtT cx n ks O V P ops Qn (.n true i t) := by
 have hv' := hv
 obtain ⟨a2, c2, rfl, k1, k2, k3, k4⟩ := hv
 cases m with
 | nil =>
  refine .x ho hg fun a w hk hm => ?_
  have hm1 := hm.pick hp
  obtain ⟨f1, f2, f3, f4⟩ := hm1.rowFacts
  obtain ⟨ti, hi, hz, hsz, hbz⟩ := kw hE
  have hr := run_append_zero (P := P) w X T E ti hX hi a0 a2 n0 c0 c2 f1
  simp only [opW, execOp, resolve, invoke, builtin, Sem.run_bind, Sem.run_pure, Result.andThen_ok, List.map_toArray, List.map_cons, List.map_nil, hk.ev hx, hk.ev hy, List.length_nil, hr]
  have := next a0 c0
  simp only [List.length_nil, Nat.add_zero, flat, List.flatMap_nil, List.append_nil] at this
  exact ⟨_, _, V, hk.put hn _, hm1, fun h => (by cases h), this⟩
 | cons q l =>
  obtain ⟨p2, rfl⟩ : ∃ p, a2 = some p := by
   have := k3 (by simp)
   cases a2 with
   | none => cases this
   | some p => exact ⟨p, rfl⟩
  exact AtT.append ho hg hX hE hzs hs hx hy hp (Sl.cells he hv') (qm he _) (flat_all1 h1 _) hb hby hn next
end
end Go.Lw
end
section
set_option linter.unusedVariables false
set_option linter.unusedSimpArgs false
set_option linter.unusedSectionVars false
namespace Go.Lw
open Go.RowKit
section
variable {α β : Type} [DecidableEq α] {P : Program} {kt et : TypeId} {ek : α → Value} {ev' : β → Value} {M : MM α β} {b c : Nat}
variable {cx : Cx} {n : Nat} {ks : List (Nat × Value)} {O O' R R' : List Own} {V : View} {ops : Array Oper} {Qn : Act → World → Prop} {t : Tr} {i d : Nat} {T : TypeId} {pos : String} {after : Array Edge} {gd : Option (Nat × Bool)} {x y z : Operand} {wr : Bool}
theorem AtT.rangeV {X : TypeId} (ho : ops[i]? = some ⟨some d, .range X x, T, pos, after, gd⟩) (hg : Gd ks ops gd) (hX : P.underlying X = some (.map kt et)) (hx : ev ks x = some (.map (some b))) (hv : V b = some (qO ek ev' M c)) (hn : d < n)
  (next : ∀ r, AtT cx n ((d, .pointer (some ⟨r, 0, none⟩)) :: ks) (.blk r (.mapIter (some b) c #[] c) :: O) V P ops Qn t) : AtT cx n ks O V P ops Qn (.n wr i t) :=
 .x ho hg fun a w hk hm => by
  have hb : w.heap[b]? = some (.map (M.map (mE ek ev')).toArray c) := hm.view _ _ hv
  simp only [opW, execOp, hk.ev hx, Instr.range, Sem.run_bind, run_underlying hX, Result.andThen_ok, qj hb, Sem.run_pure, run_newObj]
  exact ⟨_, .blk w.heap.size (.mapIter (some b) c #[] c) :: O, V, hk.put hn _, hm.alloc _, fun _ u hu => hu.drop, next _⟩
theorem AtT.nextV {r since c0 : Nat} {seen : Array Nat} (ho : ops[i]? = some ⟨some d, .next x false, T, pos, after, gd⟩) (hg : Gd ks ops gd) (hx : ev ks x = some (.pointer (some ⟨r, 0, none⟩))) (hr : zJ (.blk r (.mapIter (some b) since seen c0)) O R) (hv : V b = some (qO ek ev' M c)) (hold : ∀ e ∈ M, e.2.2 < since) (hsc : since ≤ c0) (hn : d < n)
  (next1 : (∀ e ∈ M, e.2.2 ∈ seen) → AtT cx n ((d, .tuple #[.bool false]) :: ks) O V P ops Qn t)
  (next2 : ∀ e ∈ M, e.2.2 ∉ seen → AtT cx n ((d, .tuple #[.bool true, ek e.1, ev' e.2.1]) :: ks) (.blk r (.mapIter (some b) since (seen.push e.2.2) c) :: R) V P ops Qn t) : AtT cx n ks O V P ops Qn (.n true i t) :=
 .x ho hg fun a w hk hm => by
  have hm1 := hm.pick hr
  have hm2 : w.heap[b]? = some (.map (M.map (mE ek ev')).toArray c) := hm.view _ _ hv
  have h := run_next_at (P := P) w T r b since c0 seen _ c hm1.blk hm2 (fun x hx => by
   simp only [List.toList_toArray, List.mem_map] at hx
   obtain ⟨e, he, rfl⟩ := hx
   exact hold e he) hsc
  rcases h with ⟨h0, h1⟩ | ⟨e, he, w1, hw1, h1⟩
  ·simp only [opW, execOp, hk.ev hx, Sem.run_bind, h1, Result.andThen_ok, Sem.run_pure]
   refine ⟨_, O, V, hk.put hn _, hm, fun h => (by cases h), next1 fun e he => ?_⟩
   have h0' := Array.eq_empty_of_size_eq_zero h0
   unfold leftOf at h0'
   rw [Array.filter_eq_empty_iff] at h0'
   have := h0' (mE ek ev' e) (by rw [List.mem_toArray]; exact List.mem_map_of_mem he)
   simpa [mE] using this
  ·simp only [opW, execOp, hk.ev hx, Sem.run_bind, h1, Result.andThen_ok, Sem.run_pure]
   unfold leftOf at he
   simp only [Array.toList_filter, List.mem_filter, List.toList_toArray, List.mem_map] at he
   obtain ⟨⟨q, hq, rfl⟩, hs⟩ := he
   have hmw : Mem cx (.blk r (.mapIter (some b) since seen c0) :: R) V w1 := by
    rcases hw1 with rfl | rfl
    ·exact hm1
    ·exact hm1.ext (Below.refl _ w).drew
   exact ⟨_, .blk r (.mapIter (some b) since (seen.push q.2.2) c) :: R, V, hk.put hn _, hmw.put, fun h => (by cases h), next2 q hq (by simpa [mE] using hs)⟩
theorem AtT.entryV {r since : Nat} {seen : Array Nat} {e : α × β × Nat} (ho : ops[i]? = some ⟨some d, .entry x, T, pos, after, gd⟩) (hg : Gd ks ops gd) (hx : ev ks x = some (.pointer (some ⟨r, 0, none⟩))) (hr : zJ (.blk r (.mapIter (some b) since (seen.push e.2.2) c)) O R) (hv : V b = some (qO ek ev' M c)) (he : e ∈ M) (hnd : (M.map (·.2.2)).Nodup) (hn : d < n)
  (next : AtT cx n ((d, .tuple #[ek e.1, ev' e.2.1]) :: ks) O V P ops Qn t) : AtT cx n ks O V P ops Qn (.n wr i t) :=
 .x ho hg fun a w hk hm => by
  have hm1 := hm.pick hr
  have hm2 : w.heap[b]? = some (.map (M.map (mE ek ev')).toArray c) := hm.view _ _ hv
  have h := run_entry_at (P := P) w r b since seen _ c (mE ek ev' e) hm1.blk hm2 (by rw [List.toList_toArray]; exact List.mem_map_of_mem he) (by simpa [Function.comp_def, mE] using hnd)
  simp only [opW, execOp, hk.ev hx, Sem.run_bind, h, Result.andThen_ok, Sem.run_pure]
  exact ⟨_, O, V, hk.put hn _, hm, fun _ u hu => hu, next⟩
end
section
def RwB {α : Type} (V V' : View) (E : TypeId) (s : Nat) (enc : α → List Value) (v : Value) (L : List α) : Prop :=
 ∃ g cap cs, v = .slice (some ⟨g, 0, none⟩) L.length cap ∧ L.length ≤ cap ∧ cap ≤ maxLen ∧ V g = none ∧ V' g = some (LC cs E) ∧ cs.length = cap * s ∧ cs.take (L.length * s) = flat enc L
theorem RwB.sl {α : Type} {V V' : View} {E : TypeId} {s : Nat} {enc : α → List Value} {v : Value} {L : List α} (he : ∀ x, (enc x).length = s) (h : RwB V V' E s enc v L) : Sl V' enc s v L := by
 obtain ⟨g, cap, cs, rfl, h1, h2, _, h3, h4, h5⟩ := h
 refine Sl.of_cells he (fun j u hj => ?_) h1 h2
 rw [← h5, List.getElem?_take] at hj
 split at hj
 ·exact jf h3 j u hj
 ·cases hj
theorem RwB.le {α : Type} {V V' V2 : View} {E : TypeId} {s : Nat} {enc : α → List Value} {v : Value} {L : List α} (h : RwB V V' E s enc v L) (hl : Le V' V2) : RwB V V2 E s enc v L := by
 obtain ⟨g, cap, cs, h0, h1, h2, h3, h4, h5⟩ := h
 exact ⟨g, cap, cs, h0, h1, h2, h3, hl _ _ h4, h5⟩
theorem RwB.base {α : Type} {V V0 V' : View} {E : TypeId} {s : Nat} {enc : α → List Value} {v : Value} {L : List α} (h : RwB V V' E s enc v L) (hl : Le V0 V) : RwB V0 V' E s enc v L := by
 obtain ⟨g, cap, cs, h0, h1, h2, h3, h4⟩ := h
 refine ⟨g, cap, cs, h0, h1, h2, ?_, h4⟩
 cases hv : V0 g with
 | none => rfl
 | some o => rw [hl _ _ hv] at h3; cases h3
variable {P : Program} {cx : Cx} {n : Nat} {ks : List (Nat × Value)} {O O' R R' : List Own} {V : View} {ops : Array Oper} {Qn : Act → World → Prop} {t : Tr} {i d : Nat} {T : TypeId} {pos : String} {after : Array Edge} {gd : Option (Nat × Bool)} {x y z : Operand} {wr : Bool}
theorem AtT.appendCR {α : Type} {enc : α → List Value} {l m : List α} {X E : TypeId} {z : Value} {s by_ c k : Nat} {a0 : Option Addr} {q : Addr} (ho : ops[i]? = some ⟨some d, .call ⟨.builtin .append, #[x, y], #[X, X]⟩, T, pos, after, gd⟩) (hg : Gd ks ops gd) (hX : P.underlying X = some (.slice E)) (hE : rowB P E = some (z, s, by_)) (hzs : z.cells.size = s) (hs : 0 < s)
  (hx : ev ks x = some (.slice a0 l.length l.length)) (hv : Sl V enc s (.slice a0 l.length l.length) l) (hy : ev ks y = some (.slice (some q) k c)) (hk' : k = m.length) (hc : Cells V q (flat enc m)) (he : ∀ x, (enc x).length = s) (h0 : m ≠ []) (hb : l.length + m.length ≤ maxLen) (hby : (l.length + m.length) * by_ ≤ 140737488355328) (hn : d < n)
  (next : ∀ a cap V', Le V V' → RwB V V' E s enc (.slice a (l ++ m).length cap) (l ++ m) → AtT cx n ((d, .slice a (l ++ m).length cap) :: ks) O V' P ops Qn t) : AtT cx n ks O V P ops Qn (.n wr i t) :=
 .x ho hg fun a w hk hm => by
  subst hk'
  obtain ⟨ti, hi, hz, hsz, hbz⟩ := kw hE
  have hm0 : 0 < m.length := List.length_pos_iff.2 h0
  have hnews := hc.run hm.view
  have fin : ∀ (cs : Array Value) (cap : Nat), l.length + m.length ≤ cap → cap ≤ maxLen → cs.size = cap * s → cs.toList.take ((l ++ m).length * s) = flat enc (l ++ m) → ∃ ks' O' V', Kn cx n ks' (a.put (some d) (.slice (some ⟨w.heap.size, 0, none⟩) (l.length + m.length) cap)) ∧ Mem cx O' V' (w.drew.alloc (.cells cs E)) ∧ (wr = false → ∀ u, Mem cx O' V' u → Mem cx O V u) ∧ AtT cx n ks' O' V' P ops Qn t := fun cs cap h1 h2 h4 h3 => by
   obtain ⟨V', k1, k2, k3⟩ := (hm.ext (Below.refl _ w).drew).allocV (.cells cs E)
   have hS : RwB V V' E s enc (.slice (some ⟨w.heap.size, 0, none⟩) (l ++ m).length cap) (l ++ m) := ⟨w.heap.size, cap, cs.toList, rfl, by simpa using h1, h2, by
    cases hv : V w.heap.size with
    | none => rfl
    | some o => have := hm.view.lt hv; omega, k2, by simpa using h4, h3⟩
   refine ⟨_, O, V', hk.put hn _, k3, fun _ u hu => hu.less hm.le0 k1, ?_⟩
   have := next (some ⟨w.heap.size, 0, none⟩) cap V' k1 hS
   rw [List.length_append] at this; exact this
  simp only [opW, execOp, resolve, invoke, builtin, Sem.run_bind, Sem.run_pure, Result.andThen_ok, List.map_toArray, List.map_cons, List.map_nil, hk.ev hx, hk.ev hy]
  have hflat : (flat enc (l ++ m)).length = (l ++ m).length * s := qm he _
  have happ : flat enc (l ++ m) = flat enc l ++ flat enc m := by simp [flat]
  obtain ⟨a0', cap0, e0, hcc, hc1, hc2, hc3⟩ := hv
  cases e0
  cases a0 with
  | none =>
   have hl : l = [] := by cases l with | nil => rfl | cons _ _ => exact absurd (hc2 (by simp)) (by simp)
   subst hl
   have hr := run_append_nil (P := P) w X T E ti z hX hi hz q m.length c (flat enc m) (by rw [qm he, hsz]) hnews hm0 (by simp only [maxLen] at hb; simp at hb; omega) (by rw [hbz]; simp at hby; omega)
   simp only [List.length_nil, hr, Result.andThen_ok]
   have := fin ((flat enc m).toArray ++ Builtin.zeroCells z.cells (grownCap w m.length 0 E - m.length)) (grownCap w m.length 0 E) (by simpa using grownCap_ge w m.length 0 E) (grownCap_le_maxLen w _ _ _ (by simpa using hb)) (by
    have := grownCap_ge w m.length 0 E
    rw [Array.size_append, size_zeroCells, hzs, List.size_toArray, qm he, ← Nat.add_mul]; congr 1; omega) (by
    simp only [List.nil_append] at hflat ⊢
    rw [← hflat, Array.toList_append]; exact List.take_left)
   simpa using this
  | some p =>
   have hold : ∀ j u, (flat enc l)[j]? = some u → w.cell? (p.add j) = some u := (Sl.cells he (⟨some p, _, rfl, hcc, hc1, hc2, hc3⟩ : Sl V enc s _ l)).run hm.view
   have hr := run_append_grow (P := P) w X T E ti z hX hi hz p l.length l.length (flat enc l) (by rw [qm he, hsz]) hold q m.length c (flat enc m) (by rw [qm he, hsz]) hnews (by omega) (by simp only [maxLen] at hb; omega) (growslice_fits (by omega) (by rw [hbz]; exact hby))
   simp only [hr, Result.andThen_ok]
   exact fin _ _ (grownCap_ge w _ _ _) (grownCap_le_maxLen w _ _ _ hb) (by
    have := grownCap_ge w (l.length + m.length) l.length E
    rw [Array.size_append, Array.size_append, size_zeroCells, hzs, List.size_toArray, List.size_toArray, qm he, qm he, ← Nat.add_mul, ← Nat.add_mul]; congr 1; omega) (by
    rw [← hflat, happ, Array.toList_append, Array.toList_append]; exact List.take_left)
end
end Go.Lw
end
section
set_option linter.unusedVariables false
namespace Go.Lw
open Go.RowKit
section
variable {cx : Cx} {n : Nat} {ks : List (Nat × Value)} {O R : List Own} {V : View} {w : World} {K : Act → World → Prop}
theorem Mem.reclaim {b : Nat} {o : Obj} (h : Mem cx O V w) (hb : V b = some o) (h0 : cx.V0 b = none) : Mem cx (.blk b o :: O) (fun k => if k = b then none else V k) w := by
 obtain ⟨fp, h1, h2, h3⟩ := h.own
 have hlow : cx.w0.heap.size ≤ b := by
  rcases h.fresh b o hb with h4 | h4
  ·rw [h0] at h4; cases h4
  ·exact h4
 refine ⟨h.below, fun k o2 hk => ?_, fun k o2 hk => ?_, fun k o2 hk => ?_, b :: fp, ⟨[b], fp, rfl, ⟨rfl, hlow, h.view b o hb⟩, h1⟩, List.nodup_cons.2 ⟨fun hm => ?_, h2⟩, fun k hk => ?_⟩
 ·by_cases e : k = b
  ·subst e; rw [h0] at hk; cases hk
  ·simp [e, h.le0 k o2 hk]
 ·by_cases e : k = b
  ·subst e; simp at hk
  ·simp [e] at hk; exact h.fresh k o2 hk
 ·by_cases e : k = b
  ·subst e; simp at hk
  ·simp [e] at hk; exact h.view k o2 hk
 ·rw [h3 b hm] at hb; cases hb
 ·rcases List.mem_cons.1 hk with rfl | hk
  ·simp
  ·simp [h3 k hk]
theorem At.reclaim {b : Nat} {o : Obj} (hb : V b = some o) (h0 : cx.V0 b = none) (h : ∀ V'', (∀ W, Le W V → W b = none → Le W V'') → At cx n ks (.blk b o :: O) V'' K) : At cx n ks O V K := fun a w hk hm =>
 h _ (fun W hW hWb k o2 hk => by
  by_cases e : k = b
  ·subst e; rw [hWb] at hk; cases hk
  ·simp [e, hW k o2 hk]) a w hk (hm.reclaim hb h0)
theorem At.rowSplit {v : Value} {e : TypeId} {s m : Nat} {xs : List Value} (hp : zJ (.row v e s m xs) O R) (h0 : v = .slice none 0 0 → m = 0 → xs = [] → At cx n ks R V K)
  (h : ∀ b cap rest, v = .slice (some ⟨b, 0, none⟩) m cap → m ≤ cap → cap ≤ maxLen → (xs ++ rest).length = cap * s → At cx n ks (.blk b (LC (xs ++ rest) e) :: R) V K) : At cx n ks O V K := fun a w hk hmm => by
 have hm1 := hmm.pick hp
 obtain ⟨fp, ⟨f, g, rfl, ⟨rfl, hr⟩, hl⟩, h2, h3⟩ := hm1.own
 rcases hr.2 with ⟨rfl, hn0⟩ | ⟨b, cap, cur, rfl, hb, hh, hnc, hcm, hcs, htake⟩
 ·refine h0 rfl hn0 ?_ a w hk hm1.drop
  have := hr.1
  rw [hn0] at this
  exact List.eq_nil_of_length_eq_zero (by simpa using this)
 ·have hcat : xs ++ cur.toList.drop (m * s) = cur.toList := by rw [← htake, List.take_append_drop]
  have hcur : (LC (xs ++ cur.toList.drop (m * s)) e : Obj) = .cells cur e (0, 0) := by
   show Obj.cells _ e (0, 0) = Obj.cells cur e (0, 0)
   congr 1
   rw [hcat]
  refine h b cap (cur.toList.drop (m * s)) rfl hnc hcm (by rw [hcat]; simpa using hcs) a w hk ?_
  rw [hcur]
  exact ⟨hm1.below, hm1.le0, hm1.fresh, hm1.view, [b] ++ g, ⟨[b], g, rfl, ⟨rfl, hb, hh⟩, hl⟩, by simpa [Value.ownBlock] using h2, by simpa [Value.ownBlock] using h3⟩
def Lent (V V2 : View) (ao : Option Addr) (co : Nat) (e : TypeId) (s m : Nat) (xs : List Value) : Prop :=
 (ao = none ∧ m = 0 ∧ co = 0 ∧ xs = []) ∨ ∃ b rest, ao = some ⟨b, 0, none⟩ ∧ m ≤ co ∧ co ≤ maxLen ∧ (xs ++ rest).length = co * s ∧ xs.length = m * s ∧ V b = none ∧ V2 b = some (LC (xs ++ rest) e)
theorem At.giveM {b : Nat} {o : Obj} (hp : zJ (.blk b o) O R) (h : ∀ V', Le V V' → V' b = some o → V b = none → At cx n ks R V' K) : At cx n ks O V K := fun a w hk hm => by
 have hm1 := hm.pick hp
 have h0 : V b = none := by
  obtain ⟨fp, ⟨f, g, rfl, ⟨rfl, hB, hb⟩, hl⟩, h2, h3⟩ := hm1.own
  exact h3 b (by simp)
 obtain ⟨V', h1, h2, h3⟩ := hm1.give
 exact h V' h1 h2 h0 a w hk h3
theorem At.lend {ao : Option Addr} {co : Nat} {e : TypeId} {s m : Nat} {xs : List Value} (hp : zJ (.row (.slice ao m co) e s m xs) O R) (h : ∀ V2, Le V V2 → Lent V V2 ao co e s m xs → At cx n ks R V2 K) : At cx n ks O V K := fun a w hk hm => by
 have hm1 := hm.pick hp
 obtain ⟨f1, f2, f3, f4⟩ := hm1.rowFacts
 refine At.rowSplit (O := .row (.slice ao m co) e s m xs :: R) zJ.here (fun hv hm0 hx => ?_) (fun b cap rest hv h1 h2 h3 => ?_) a w hk hm1
 ·cases hv
  exact h V (Le.refl _) (.inl ⟨rfl, rfl, rfl, hx⟩)
 ·cases hv
  exact At.giveM zJ.here fun V' hV hb h0 => h V' hV (.inr ⟨b, rest, rfl, h1, h2, h3, f3, h0, hb⟩)
theorem At.regain {V3 V1 : View} {ao : Option Addr} {co : Nat} {e : TypeId} {s m : Nat} {xs : List Value} (hL : Lent V1 V ao co e s m xs) (hV1 : Le V1 V) (hV : Le V V3) (h0 : Le cx.V0 V1)
  (h : ∀ V4, Le V1 V4 → At cx n ks (.row (.slice ao m co) e s m xs :: O) V4 K) : At cx n ks O V3 K := by
 rcases hL with ⟨rfl, rfl, rfl, rfl⟩ | ⟨b, rest, rfl, h1, h2, h3, h4, h5, h6⟩
 ·exact At.newRow e s (h V3 (hV1.trans hV))
 ·have hcx : cx.V0 b = none := by
   cases hc : cx.V0 b with
   | none => rfl
   | some o => rw [h0 b o hc] at h5; cases h5
  refine At.reclaim (hV b _ h6) hcx fun V4 hV4 => ?_
  exact At.blkRow zJ.here h3 h4 h1 h2 (h V4 (hV4 V1 (hV1.trans hV) h5))
theorem Lent.sl {α : Type} {enc : α → List Value} {V1 V2 : View} {ao : Option Addr} {co : Nat} {e : TypeId} {s : Nat} {l : List α} (he : ∀ x, (enc x).length = s) (h : Lent V1 V2 ao co e s l.length (flat enc l)) : Sl V2 enc s (.slice ao l.length co) l := by
 rcases h with ⟨rfl, h1, rfl, h2⟩ | ⟨b, rest, rfl, h1, h2, h3, h4, h5, h6⟩
 ·obtain rfl : l = [] := List.eq_nil_of_length_eq_zero h1
  exact Sl.nil _ _ _
 ·exact Sl.of_cells he (cells_pre h6) h1 h2
theorem none_of {V W : View} {b : Nat} (h : Le W V) (hb : V b = none) : W b = none := by
 cases c : W b with
 | none => rfl
 | some o => rw [h b o c] at hb; cases hb
end
end Go.Lw
end
section
set_option linter.unusedVariables false
namespace Go.Proofs.YtadbifpalpdocaaGreatDoor
open Go.Lw Go.Gl Go.Bl Go.RowKit
theorem min_f (l : List Int) (hl : l ≠ []) (V : View) (v : Value) (hs : SlI V v l) : Fnc Tryz.prog 94 [v] V fun r _ => ∃ m, r = iv m ∧ m ∈ l ∧ ∀ x ∈ l, m ≤ x := by
 have hlen := hs.lenLe
 have hpos : 0 < l.length := List.length_pos_iff.2 hl
 obtain ⟨a, c, rfl, k1, k2, _⟩ := id hs
 clear k1 k2
 refine zT Tryz.func94 rfl Tryz.ntmps94 (Nat.le_of_ble_eq_true rfl) ?_
 intro w0 hw0
 refine At.nrm ?_
 refine At.zg (.q 0 .done) ?_
 refine AtT.zf ?_
 refine AtT.done ?_
 refine At.nrm ?_
 refine At.zg (.q 0 (.q 1 (.q 2 .done))) ?_
 refine AtT.ze ?_
 first | refine AtT.zP Tryz.underlying31 ?_ | refine AtT.zQ Tryz.underlying31 ?_
 refine AtT.qW ?_
 refine AtT.done ?_
 refine At.nrm ?_
 refine At.qB rfl (decide_eq_false (by omega)) ?_
 refine At.nrm ?_
 refine At.zg (.q 0 (.q 1 (.q 2 (.q 3 .done)))) ?_
 refine AtT.ze ?_
 refine AtT.qK Tryz.underlying31 tk3 ?_
 intro p10 e10 he10 hc10
 first | refine AtT.zu tk3 ?_ | refine AtT.zF tk3 ?_
 refine AtT.zf ?_
 refine AtT.done ?_
 refine At.nrm ?_
 have hm0 : e10 ∈ l := List.mem_of_getElem? he10
 have h0 : l[0]? = some e10 := by simpa using he10
 refine At.zg (.q 0 .done) ?_
 refine AtT.zf ?_
 refine AtT.done ?_
 refine At.nrm ?_
 refine At.lp (ι := Nat × Int) (KS := fun g => [(0, .slice a l.length c), (3, iv g.2), (4, iv g.1)]) (OS := fun _ => []) (VS := fun g V' => V' = V ∧ g.1 ≤ l.length ∧ g.2 ∈ l ∧ ∀ (j : Nat) (x : Int), j < g.1 → l[j]? = some x → g.2 ≤ x) (μ := fun g => l.length - g.1) (1, e10) ?_ ?_ ?_ ?_
 ·exact ⟨rfl, rfl, rfl, trivial⟩
 ·exact Pt.zy
 ·refine ⟨rfl, hpos, hm0, fun j x hj hx => ?_⟩
  obtain rfl : j = 0 := by dsimp only at hj; omega
  rw [h0] at hx; cases hx; exact Int.le_refl _
 ·rintro ⟨k, m⟩ V' ks' O' ⟨rfl, hkl, hm, hok⟩ hk hO hl2
  dsimp only at hkl hm hok hk hO
  subst hk hO
  refine At.nrm ?_
  refine At.zg (.q 0 (.q 1 (.q 2 (.q 3 .done)))) ?_
  refine AtT.ze ?_
  refine AtT.ze ?_
  first | refine AtT.zP Tryz.underlying31 ?_ | refine AtT.zQ Tryz.underlying31 ?_
  refine AtT.qW ?_
  refine AtT.done ?_
  refine At.nrm ?_
  refine At.zW rfl (fun hp => ?_) (fun hp => ?_)
  ·obtain ⟨x, hx⟩ : ∃ x, l[k]? = some x := ⟨_, List.getElem?_eq_getElem (by omega)⟩
   refine At.nrm ?_
   refine At.zg (.q 0 (.q 1 (.q 2 (.q 3 (.q 4 (.q 5 (.q 6 .done))))))) ?_
   refine AtT.ze ?_
   refine AtT.ze ?_
   refine AtT.ze ?_
   refine AtT.qK Tryz.underlying31 tk3 ?_
   intro p21 e21 he21 hc21
   obtain rfl : e21 = x := by have : l[k]? = some e21 := (by simpa using he21); rw [hx] at this; simpa using this.symm
   first | refine AtT.zu tk3 ?_ | refine AtT.zF tk3 ?_
   refine AtT.kmin2 ?_
   refine AtT.zf ?_
   refine AtT.done ?_
   refine At.nrm ?_
   refine At.zg (.q 0 (.q 1 (.q 2 .done))) ?_
   refine AtT.ze ?_
   first | refine AtT.qo ?_ | refine AtT.zS ?_
   refine AtT.zf ?_
   refine AtT.done ?_
   refine At.nrm ?_
   refine At.round (k + 1, min m e21) ?_ ?_ ?_ ?_
   ·show l.length - (k + 1) < l.length - k; omega
   ·refine ⟨rfl, by dsimp only; omega, ?_, fun j y hj hy => ?_⟩
    ·show min m e21 ∈ l
     by_cases c : m ≤ e21
     ·rw [Int.min_eq_left c]; exact hm
     ·rw [Int.min_eq_right (by omega)]; exact List.mem_of_getElem? hx
    ·show min m e21 ≤ y
     dsimp only at hj
     by_cases hjk : j = k
     ·subst hjk; rw [hx] at hy; cases hy; omega
     ·have := hok j y (by omega) hy; omega
   ·exact ⟨rfl, rfl, ivs (by dsimp only; omega), trivial⟩
   ·exact Pt.zy
  ·obtain rfl : k = l.length := by omega
   refine At.nrm ?_
   refine At.zg (.q 0 (.q 1 .done)) ?_
   refine AtT.ze ?_
   refine AtT.zf ?_
   refine AtT.done ?_
   refine At.nrm ?_
   exact At.zV rfl (.tmp rfl) ⟨m, rfl, hm, fun x hx => by obtain ⟨j, hj, rfl⟩ := List.getElem_of_mem hx; exact hok j _ hj (List.getElem?_eq_getElem hj)⟩
abbrev mO (M : MM Nat Int) (c : Nat) : Obj := qO (fun s : Nat => stv s) (fun n : Int => iv n) M c
theorem smallest_g (ls : List Nat) (hln : ls.length ≤ 16) (hne : ∀ s ∈ ls, s ≠ 0 ∧ s < 32768) (V : View) (p : Addr) (a2 : Option Addr) (c2 : Nat) (hc26 : Cells V (p.add 3) [.slice a2 ls.length c2]) (hsl : Sl V ste 1 (.slice a2 ls.length c2) ls) : Fnc Tryz.prog 49 [.pointer (some p)] V fun r V' => ∃ l, RwB V V' 83 1 ste r l ∧ SmS ls SrtL l := by
 refine zT Tryz.func49 rfl Tryz.ntmps49 (Nat.le_of_ble_eq_true rfl) ?_
 intro w0 hw0
 refine At.nrm ?_
 refine At.zg (.q 0 .done) ?_
 refine AtT.zf ?_
 refine AtT.done ?_
 refine At.nrm ?_
 refine At.zg (.n false 0 (.q 1 (.n true 2 (.q 3 (.q 4 .done))))) ?_
 refine AtT.makeMap rfl trivial (fun s : Nat => stv s) (fun n : Int => iv n) (by decide) ?_
 intro b20
 refine AtT.jK (bd83) ?_
 refine AtT.insNew rfl trivial key72 0 (0 : Int) Tryz.underlying139 rfl rfl rfl rfl (by repeat first|exact Upd.here|apply Upd.there) ?_
 refine AtT.ze ?_
 refine AtT.zf ?_
 refine AtT.done ?_
 refine At.nrm ?_
 refine At.zg (.q 0 (.q 1 (.q 2 (.q 3 (.q 4 (.q 5 .done)))))) ?_
 refine AtT.ze ?_
 refine AtT.knil ?_
 first | refine AtT.zk jh ?_ | with_reducible refine AtT.zm jh ?_ | refine AtT.zo jh ?_
 first | refine AtT.zu tk51 ?_ | refine AtT.zF tk51 ?_
 first | refine AtT.zP Tryz.underlying51 ?_ | refine AtT.zQ Tryz.underlying51 ?_
 refine AtT.ze ?_
 refine AtT.done ?_
 refine At.nrm ?_
 refine At.lp (ι := Nat × Nat × MM Nat Int × Nat) (KS := fun g => [(3, .map (some g.2.1)), (26, .slice a2 ls.length c2), (27, iv ls.length), (28, iv g.1)]) (OS := fun g => [.blk g.2.1 (mO g.2.2.1 g.2.2.2)])
  (VS := fun g V' => Le V V' ∧ g.1 ≤ ls.length ∧ MI g.2.2.1 g.2.2.2 ∧ ∀ x, kN x g.2.2.1 = true ↔ GsK ls g.1 x) (μ := fun g => ls.length - g.1) (0, b20, [(0, 0, 0)], 1) ?_ ?_ ?_ ?_
 ·exact ⟨rfl, rfl, rfl, rfl, trivial⟩
 ·exact Pt.zy
 ·refine ⟨Le.refl _, Nat.zero_le _, ⟨fun e h => ?_, by simp, by simp, fun e h => ?_, fun e h => ?_⟩, fun x => ?_⟩
  ·rw [List.mem_singleton] at h; subst h; simp
  ·rw [List.mem_singleton] at h; subst h; simp [cnt_zero]
  ·rw [List.mem_singleton] at h; subst h; simp
  ·simp [kN, GsK]
 rintro ⟨k, b, M, c⟩ V' ks' O' ⟨hVV, hkl, hmi, hmem⟩ hk hO hl2
 dsimp only at hkl hmi hmem hk hO
 subst hk hO
 have hsl1 := hsl.le hVV
 refine At.nrm ?_
 refine At.zg (.q 0 .done) ?_
 refine AtT.qW ?_
 refine AtT.done ?_
 refine At.nrm ?_
 refine At.zW rfl (fun hp => ?_) (fun hp => ?_)
 ·obtain ⟨t, hx⟩ : ∃ t, ls[k]? = some t := ⟨_, List.getElem?_eq_getElem (by omega)⟩
  have hgt : ls.getD k 0 = t := by simp [List.getD, hx]
  have htb := (hne t (List.mem_of_getElem? hx)).2
  refine At.nrm ?_
  refine At.zg (.q 0 (.q 1 (.n false 2 (.n true 3 .done)))) ?_
  refine AtT.qK Tryz.underlying51 zO ?_
  intro p30 e30 he30 hc30
  obtain rfl : e30 = t := by have : ls[k]? = some e30 := (by simpa using he30); rw [hx] at this; simpa using this.symm
  first | refine AtT.zx zO ?_ | refine AtT.zD zO ?_ | refine AtT.zw zO ?_
  refine AtT.qD z83 ?_
  intro b5
  refine AtT.zY zO ?_
  refine AtT.done ?_
  refine At.nrm ?_
  refine At.zg (.n false 0 (.q 1 .done)) ?_
  refine AtT.makeMap rfl trivial (fun s : Nat => stv s) (fun n : Int => iv n) (by decide) ?_
  intro b32
  refine AtT.zf ?_
  refine AtT.done ?_
  refine At.nrm ?_
  refine At.zg (.q 0 (.q 1 (.q 2 .done))) ?_
  first | refine AtT.zx zO ?_ | refine AtT.zD zO ?_ | refine AtT.zw zO ?_
  refine AtT.kfn ?_
  refine AtT.zf ?_
  refine AtT.done ?_
  refine At.nrm ?_
  refine At.zg (.q 0 (.n false 1 .done)) ?_
  refine AtT.ze ?_
  refine AtT.range rfl trivial Tryz.underlying139 rfl zJ.zy (by decide) ?_
  intro b36
  refine AtT.done ?_
  refine At.nrm ?_
  refine At.lp (ι := Array Nat × MM Nat Int × Nat) (KS := fun g => [(3, .map (some b)), (5, .pointer (some ⟨b5, 0, none⟩)), (6, .map (some b32)), (7, .func (.func 52) #[stv e30] #[]), (26, .slice a2 ls.length c2), (27, iv ls.length), (28, iv k), (36, .pointer (some ⟨b36, 0, none⟩))])
   (OS := fun g => [.blk b36 (.mapIter (some b) c g.1 c), .blk b32 (mO g.2.1 g.2.2), .blk b (mO M c), .blk b5 (LC (ste e30) 83)])
   (VS := fun g V'' => Le V' V'' ∧ MI g.2.1 g.2.2 ∧ ∀ x, kN x g.2.1 = true ↔ ∃ e ∈ M, e.2.2 ∈ g.1 ∧ Stp e30 e.1 x) (μ := fun g => (M.filter fun e => !g.1.contains e.2.2).length) (#[], [], 0) ?_ ?_ ?_ ?_
  ·exact ⟨rfl, rfl, rfl, rfl, rfl, rfl, rfl, rfl, trivial⟩
  ·exact Pt.zy
  ·exact ⟨Le.refl _, mi_nil, fun x => by simp [kN]⟩
  rintro ⟨seen, M2, c2'⟩ V2 ks' O' ⟨hV2, hmi2, hmem2⟩ hk hO hl3
  dsimp only at hmi2 hmem2 hk hO
  subst hk hO
  refine At.nrm ?_
  refine At.zg (.n true 0 (.q 1 .done)) ?_
  all_goals (refine AtT.next rfl trivial rfl zJ.zy zJ.zy (fun e he => hmi.born e he) (Nat.le_refl _) (by decide) (fun hall => ?_) (fun e he hns => ?_))
  all_goals (refine AtT.zG ?_)
  all_goals refine AtT.done ?_
  all_goals (refine At.nrm ?_)
  ·refine At.qB rfl rfl ?_
   refine At.nrm ?_
   refine At.zg (.q 0 (.q 1 .done)) ?_
   refine AtT.ze ?_
   refine AtT.zf ?_
   refine AtT.done ?_
   refine At.nrm ?_
   refine At.zg (.q 0 (.q 1 .done)) ?_
   first | refine AtT.qo ?_ | refine AtT.zS ?_
   refine AtT.ze ?_
   refine AtT.done ?_
   refine At.nrm ?_
   refine At.round (k + 1, b32, M2, c2') ?_ ?_ ?_ ?_
   ·show ls.length - (k + 1) < ls.length - k; omega
   ·refine ⟨hVV.trans hV2, by dsimp only; omega, hmi2, fun x => ?_⟩
    show kN x M2 = true ↔ GsK ls (k + 1) x
    rw [hmem2]
    simp only [GsK, hgt]
    constructor
    ·rintro ⟨e, he, _, hst⟩; exact ⟨e.1, (hmem e.1).1 ((jc e.1 M).2 ⟨e, he, rfl⟩), hst⟩
    ·rintro ⟨s, hs, hst⟩
     obtain ⟨e, he, rfl⟩ := (jc s M).1 ((hmem s).2 hs)
     exact ⟨e, he, hall e he, hst⟩
   ·exact ⟨rfl, rfl, rfl, ivs (by dsimp only; omega), trivial⟩
   dsimp only
   ·exact Pt.zy
  refine At.qQ rfl rfl ?_
  have hun := kr he hns
  have hev := hmi.val e he
  have hel := hmi.lt e he
  have hci := cntK_le e.1 15
  have hseen : ∀ (e' : Nat × Int × Nat), e' ∈ M → (e'.2.2 ∈ seen.push e.2.2 ↔ e'.2.2 ∈ seen ∨ e' = e) := fun e' he' => by
   rw [Array.mem_push]
   constructor
   ·rintro (h | h)
    ·exact .inl h
    ·exact .inr (inj_of (fun e : Nat × Int × Nat => e.2.2) hmi.nodB he' he h)
   ·rintro (h | rfl)
    ·exact .inl h
    ·exact .inr rfl
  have hsee2 : ∀ x, (∃ e' ∈ M, e'.2.2 ∈ seen.push e.2.2 ∧ Stp e30 e'.1 x) ↔ (∃ e' ∈ M, e'.2.2 ∈ seen ∧ Stp e30 e'.1 x) ∨ Stp e30 e.1 x := fun x => by
   constructor
   ·rintro ⟨e', h1, h2, h3⟩
    rcases (hseen e' h1).1 h2 with h | rfl
    ·exact .inl ⟨e', h1, h, h3⟩
    ·exact .inr h3
   ·rintro (⟨e', h1, h2, h3⟩ | h3)
    ·exact ⟨e', h1, (hseen e' h1).2 (.inl h2), h3⟩
    ·exact ⟨e, he, (hseen e he).2 (.inr rfl), h3⟩
  refine At.nrm ?_
  refine At.zg (.n false 0 (.q 1 (.q 2 (.n false 3 (.n true 4 (.q 5 .done)))))) ?_
  refine AtT.entry rfl trivial rfl zJ.zy zJ.zy he hmi.nodB (by decide) ?_
  refine AtT.zG ?_
  refine AtT.zG ?_
  refine AtT.qD z83 ?_
  intro b8
  refine AtT.zY zO ?_
  refine AtT.zf ?_
  refine AtT.done ?_
  refine At.nrm ?_
  have hmeet : Fnc Tryz.prog 52 ([stv e30] ++ [stv e.1] ++ []) V2 fun r _ => r = .bool (mtB e30 e.1) := meets_f e30 e.1 (by omega) (by omega) V2
  cases hmt : mtB e30 e.1 with
  | true =>
   rw [hmt] at hmeet
   refine At.zg (.q 0 (.q 1 (.n false 2 .done))) ?_
   refine AtT.ze ?_
   first | refine AtT.zx zO ?_ | refine AtT.zD zO ?_ | refine AtT.zw zO ?_
   refine AtT.kcallV rfl rfl rfl ok52 (hmeet) ?_
   rintro _ rfl
   refine AtT.done ?_
   refine At.nrm ?_
   refine At.qQ rfl rfl ?_
   refine At.nrm ?_
   have hput : ∀ e' ∈ M2, e'.1 = e.1 → e'.2.1 = e.2.1 := fun e' h1 h2 => by rw [hmi2.val e' h1, h2, hev]
   refine At.zg (.q 0 (.q 1 (.q 2 (.n true 3 .done)))) ?_
   refine AtT.ze ?_
   first | refine AtT.zx zO ?_ | refine AtT.zD zO ?_ | refine AtT.zw zO ?_
   refine AtT.ze ?_
   refine AtT.mapPut rfl trivial key72 e.1 e.2.1 Tryz.underlying139 rfl rfl rfl hput (by repeat first|exact Upd.here|apply Upd.there) ?_
   refine AtT.done ?_
   refine At.nrm ?_
   refine At.round (seen.push e.2.2, (mIns e.1 e.2.1 M2 c2').1, (mIns e.1 e.2.1 M2 c2').2) ?_ ?_ ?_ ?_
   ·exact hun
   ·refine ⟨hV2, ?_, fun x => ?_⟩
    ·dsimp only; rw [hev]; exact mi_ins hmi2 hel
    ·dsimp only
     rw [mi_has, hmem2, hsee2]
     constructor
     ·rintro (h | rfl)
      ·exact .inl h
      ·exact .inr (.inl ⟨hmt, rfl⟩)
     ·rintro (h | h)
      ·exact .inl h
      ·rcases h with ⟨_, rfl⟩ | ⟨h1, _⟩
       ·exact .inr rfl
       ·rw [hmt] at h1; cases h1
   ·exact ⟨rfl, rfl, rfl, rfl, rfl, rfl, rfl, rfl, trivial⟩
   dsimp only
   ·exact Pt.zy
  | false =>
   rw [hmt] at hmeet
   refine At.zg (.q 0 (.q 1 (.n false 2 .done))) ?_
   refine AtT.ze ?_
   first | refine AtT.zx zO ?_ | refine AtT.zD zO ?_ | refine AtT.zw zO ?_
   refine AtT.kcallV rfl rfl rfl ok52 (hmeet) ?_
   rintro _ rfl
   refine AtT.done ?_
   refine At.nrm ?_
   refine At.qB rfl rfl ?_
   refine At.nrm ?_
   refine At.zg (.q 0 (.n false 1 (.q 2 (.q 3 .done)))) ?_
   first | refine AtT.zx zO ?_ | refine AtT.zD zO ?_ | refine AtT.zw zO ?_
   refine AtT.kcall rfl rfl ok53 (list_f e30 (by omega) _) ?_
   rintro v49 V49 hV49 hs49
   first | refine AtT.zP Tryz.underlying31 ?_ | refine AtT.zQ Tryz.underlying31 ?_
   refine AtT.ze ?_
   refine AtT.done ?_
   refine At.nrm ?_
   obtain ⟨a9, c9, rfl, _⟩ := id hs49
   have hbl := cntK_le e30 15
   unfold cntK at hbl
   have hcnt : e.2.1 ≤ 15 := by rw [hev]; unfold cnt cntK; unfold cntK at hci; omega
   have hcn0 : 0 ≤ e.2.1 := by rw [hev]; omega
   refine At.lp (ι := Nat × MM Nat Int × Nat) (KS := fun g => [(3, .map (some b)), (5, .pointer (some ⟨b5, 0, none⟩)), (6, .map (some b32)), (7, .func (.func 52) #[stv e30] #[]), (8, .pointer (some ⟨b8, 0, none⟩)), (9, iv e.2.1), (26, .slice a2 ls.length c2), (27, iv ls.length), (28, iv k), (36, .pointer (some ⟨b36, 0, none⟩)), (49, .slice a9 (zX e30 15).length c9), (50, iv (zX e30 15).length), (51, iv g.1)])
    (OS := fun g => [.blk b36 (.mapIter (some b) c (seen.push e.2.2) c), .blk b32 (mO g.2.1 g.2.2), .blk b (mO M c), .blk b5 (LC (ste e30) 83), .blk b8 (LC (ste e.1) 83)])
    (VS := fun g V'' => Le V49 V'' ∧ g.1 ≤ (zX e30 15).length ∧ MI g.2.1 g.2.2 ∧ ∀ x, kN x g.2.1 = true ↔ kN x M2 = true ∨ ∃ i : Nat, (i : Int) ∈ (zX e30 15).take g.1 ∧ x = e.1 ||| 2 ^ i) (μ := fun g => (zX e30 15).length - g.1) (0, M2, c2') ?_ ?_ ?_ ?_
   ·exact ⟨rfl, rfl, rfl, rfl, rfl, rfl, rfl, rfl, rfl, rfl, rfl, rfl, rfl, trivial⟩
   ·exact Pt.zy
   ·exact ⟨Le.refl _, Nat.zero_le _, hmi2, fun x => by simp⟩
   rintro ⟨j, M3, c3⟩ V3 ks' O' ⟨hV3, hjl, hmi3, hmem3⟩ hk hO hl4
   dsimp only at hjl hmi3 hmem3 hk hO
   subst hk hO
   have hs3 := hs49.le hV3
   refine At.nrm ?_
   refine At.zg (.q 0 .done) ?_
   refine AtT.qW ?_
   refine AtT.done ?_
   refine At.nrm ?_
   refine At.zW rfl (fun hq => ?_) (fun hq => ?_)
   ·obtain ⟨y, hy⟩ : ∃ y, (zX e30 15)[j]? = some y := ⟨_, List.getElem?_eq_getElem (by omega)⟩
    obtain ⟨i, hi15, rfl, hbit⟩ := jQ.1 (List.mem_of_getElem? hy)
    have hpw : 2 ^ i < 32768 := pow_lt15 (x := (i : Int)) (by omega)
    have hno := mtB_no hmt hbit
    have hcor := cnt_or hno hi15
    have hput : ∀ e' ∈ M3, e'.1 = e.1 ||| 2 ^ i → e'.2.1 = e.2.1 + 1 := fun e' h1 h2 => by rw [hmi3.val e' h1, h2, hcor, hev]; push_cast; rfl
    have hval1 : e.2.1 + 1 = (cnt (e.1 ||| 2 ^ i) : Int) := by rw [hcor, hev]; push_cast; rfl
    refine At.nrm ?_
    refine At.zg (.q 0 (.q 1 (.q 2 .done))) ?_
    refine AtT.qK Tryz.underlying31 tk3 ?_
    intro p53 e53 he53 hc53
    obtain rfl : e53 = (i : Int) := by have : (zX e30 15)[j]? = some e53 := (by simpa using he53); rw [hy] at this; simpa using this.symm
    first | refine AtT.zu tk3 ?_ | refine AtT.zF tk3 ?_
    refine AtT.zf ?_
    refine AtT.done ?_
    refine At.nrm ?_
    refine At.draw (.q 0 (.q 1 (.q 2 (.q 3 (.q 4 (.q 5 (.q 6 (.q 7 (.q 8 (.n true 9 .done)))))))))) ffm (by kernel_rfl) ?_
    refine AtT.ze ?_
    first | refine AtT.zk qF ?_ | with_reducible refine AtT.zm qF ?_ | refine AtT.zo qF ?_
    first | refine AtT.zu tk3 ?_ | refine AtT.zF tk3 ?_
    refine AtT.ze ?_
    refine AtT.shlN rfl trivial rfl rfl (N := i) rfl (by omega) (by decide) ?_
    refine AtT.orN rfl trivial rfl rfl rfl rfl (by omega) (by omega) (by decide) (A := e.1) (B := 2 ^ i) ?_
    refine AtT.jK (bd83_0 _) ?_
    refine AtT.ze ?_
    first | refine AtT.qo ?_ | refine AtT.zS ?_
    refine AtT.mapPut rfl trivial key72 (e.1 ||| 2 ^ i) (e.2.1 + 1) Tryz.underlying139 rfl rfl rfl hput (by repeat first|exact Upd.here|apply Upd.there) ?_
    refine AtT.done ?_
    refine At.nrm ?_
    refine At.zg (.q 0 (.q 1 .done)) ?_
    first | refine AtT.qo ?_ | refine AtT.zS ?_
    refine AtT.ze ?_
    refine AtT.done ?_
    refine At.nrm ?_
    refine At.round (j + 1, (mIns (e.1 ||| 2 ^ i) (e.2.1 + 1) M3 c3).1, (mIns (e.1 ||| 2 ^ i) (e.2.1 + 1) M3 c3).2) ?_ ?_ ?_ ?_
    ·show (zX e30 15).length - (j + 1) < (zX e30 15).length - j; omega
    ·refine ⟨hV3, by dsimp only; omega, ?_, fun x => ?_⟩
     ·dsimp only; rw [hval1]; exact mi_ins hmi3 (or_lt15 hel hi15)
     ·dsimp only
      rw [mi_has, hmem3, take_snoc' hy]
      constructor
      ·rintro ((h | ⟨i', h1, h2⟩) | rfl)
       ·exact .inl h
       ·exact .inr ⟨i', List.mem_append_left _ h1, h2⟩
       ·exact .inr ⟨i, by simp, rfl⟩
      ·rintro (h | ⟨i', h1, rfl⟩)
       ·exact .inl (.inl h)
       ·rcases List.mem_append.1 h1 with h1 | h1
        ·exact .inl (.inr ⟨i', h1, rfl⟩)
        ·rw [List.mem_singleton] at h1
         obtain rfl : i' = i := by omega
         exact .inr rfl
    ·exact ⟨rfl, rfl, rfl, rfl, rfl, rfl, rfl, rfl, rfl, rfl, rfl, rfl, ivs (by dsimp only; omega), trivial⟩
    dsimp only
    ·exact Pt.zy
   ·obtain rfl : j = (zX e30 15).length := by omega
    rw [List.take_length] at hmem3
    refine At.nrm ?_
    refine At.round (seen.push e.2.2, M3, c3) ?_ ?_ ?_ ?_
    ·exact hun
    ·refine ⟨(hV2.trans hV49).trans hV3, hmi3, fun x => ?_⟩
     dsimp only
     rw [hmem3, hmem2, hsee2]
     constructor
     ·rintro (h | ⟨i, h1, rfl⟩)
      ·exact .inl h
      ·obtain ⟨i', h2, h3, h4⟩ := jQ.1 h1
       obtain rfl : i = i' := by omega
       exact .inr (.inr ⟨hmt, i, h2, h4, rfl⟩)
     ·rintro (h | h)
      ·exact .inl h
      ·rcases h with ⟨h1, _⟩ | ⟨_, i, h2, h3, rfl⟩
       ·rw [hmt] at h1; cases h1
       ·exact .inr ⟨i, jQ.2 ⟨i, h2, rfl, h3⟩, rfl⟩
    ·exact ⟨rfl, rfl, rfl, rfl, rfl, rfl, rfl, rfl, trivial⟩
    dsimp only
    ·exact Pt.zy
 obtain rfl : k = ls.length := by omega
 have hml := mi_len hmi
 obtain ⟨x0, hx0⟩ := gsK_ex hne ls.length (Nat.le_refl _)
 obtain ⟨e0, he0, _⟩ := (jc x0 M).1 ((hmem x0).2 hx0)
 refine At.nrm ?_
 refine At.zg (.q 0 .done) ?_
 refine AtT.zf ?_
 refine AtT.done ?_
 refine At.nrm ?_
 refine At.zg (.q 0 (.n false 1 .done)) ?_
 refine AtT.ze ?_
 refine AtT.range rfl trivial Tryz.underlying139 rfl zJ.zy (by decide) ?_
 intro b68
 refine AtT.done ?_
 refine At.nrm ?_
 refine At.newRow 3 1 ?_
 refine At.lp (ι := Array Nat × List Int × Option Addr × Nat) (KS := fun g => [(3, .map (some b)), (12, .slice g.2.2.1 g.2.1.length g.2.2.2), (68, .pointer (some ⟨b68, 0, none⟩))])
  (OS := fun g => [.blk b68 (.mapIter (some b) c g.1 c), .blk b (mO M c), .row (.slice g.2.2.1 g.2.1.length g.2.2.2) 3 1 g.2.1.length (flat ei g.2.1)])
  (VS := fun g V'' => Le V V'' ∧ (∀ v ∈ g.2.1, ∃ e ∈ M, v = e.2.1) ∧ (∀ e ∈ M, e.2.2 ∈ g.1 → e.2.1 ∈ g.2.1) ∧ g.2.1.length + (M.filter fun e => !g.1.contains e.2.2).length ≤ M.length) (μ := fun g => (M.filter fun e => !g.1.contains e.2.2).length) (#[], [], none, 0) ?_ ?_ ?_ ?_
 ·exact ⟨rfl, rfl, rfl, trivial⟩
 ·exact Pt.zy
 ·exact ⟨hVV, fun v h => (by cases h), fun e _ h => (by simp at h), by show 0 + _ ≤ _; rw [Nat.zero_add]; exact List.length_filter_le _ _⟩
 rintro ⟨seen, sz, ao, co⟩ V2 ks' O' ⟨hV2, hz1, hz2, hz3⟩ hk hO hl3
 dsimp only at hz1 hz2 hz3 hk hO
 subst hk hO
 refine At.nrm ?_
 refine At.zg (.n true 0 (.q 1 .done)) ?_
 all_goals (refine AtT.next rfl trivial rfl zJ.zy zJ.zy (fun e he => hmi.born e he) (Nat.le_refl _) (by decide) (fun hall => ?_) (fun e he hns => ?_))
 all_goals (refine AtT.zG ?_)
 all_goals refine AtT.done ?_
 all_goals (refine At.nrm ?_)
 rotate_left
 ·refine At.qQ rfl rfl ?_
  have hun := kr he hns
  refine At.nrm ?_
  refine At.zg (.n false 0 (.q 1 (.q 2 .done))) ?_
  refine AtT.entry rfl trivial rfl zJ.zy zJ.zy he hmi.nodB (by decide) ?_
  refine AtT.zG ?_
  refine AtT.zf ?_
  refine AtT.done ?_
  refine At.nrm ?_
  refine At.zg (.q 0 (.q 1 (.n false 2 (.n true 3 (.q 4 .done))))) ?_
  refine AtT.ze ?_
  refine AtT.ze ?_
  refine AtT.qb (qZ _) ?_
  intro q75 V75 hV75 hq75
  have g75 : Le V V75 := by first | exact hV75 | exact Le.trans (by assumption) hV75
  first | refine AtT.kappend Tryz.underlying31 rw3 ?_
  intro a76 c76
  refine AtT.zf ?_
  refine AtT.done ?_
  refine At.nrm ?_
  refine At.round (seen.push e.2.2, sz ++ [e.2.1], a76, c76) ?_ ?_ ?_ ?_
  ·exact hun
  ·refine ⟨hV2.trans (by first | assumption | exact Le.refl _), fun v hv => ?_, fun e' h1 h2 => ?_, ?_⟩
   ·rcases List.mem_append.1 hv with h | h
    ·exact hz1 v h
    ·rw [List.mem_singleton] at h; exact ⟨e, he, h⟩
   ·rcases (seen_push hmi.nodB he h1).1 h2 with h | rfl
    ·exact List.mem_append_left _ (hz2 e' h1 h)
    ·exact List.mem_append_right _ (List.mem_singleton.2 rfl)
   ·dsimp only; rw [List.length_append]; simp only [List.length_cons, List.length_nil]; omega
  ·dsimp only; rw [List.length_append]; exact ⟨rfl, rfl, rfl, trivial⟩
  dsimp only
  rw [je, List.length_append]
  ·exact Pt.zy
 refine At.qB rfl rfl ?_
 have hsn : sz ≠ [] := fun h => by have := hz2 e0 he0 (hall e0 he0); rw [h] at this; cases this
 refine At.nrm ?_
 refine At.giveSl (l := sz) (m := sz.length) Lw.ei_len rfl rfl zJ.zy (fun V3 hV3 hs3 => ?_)
 refine At.zg (.q 0 (.n false 1 (.q 2 .done))) ?_
 refine AtT.ze ?_
 refine AtT.zC rfl rfl ok94 (min_f sz hsn _ _ hs3) ?_
 rintro _ ⟨few, rfl, hf1, hf2⟩
 refine AtT.zf ?_
 refine AtT.done ?_
 refine At.nrm ?_
 have hfew : ∀ e ∈ M, few ≤ e.2.1 := fun e he => hf2 _ (hz2 e he (hall e he))
 obtain ⟨e1, he1, hfe1⟩ := hz1 few hf1
 refine At.zg (.q 0 (.n false 1 .done)) ?_
 refine AtT.ze ?_
 refine AtT.range rfl trivial Tryz.underlying139 rfl zJ.zy (by decide) ?_
 intro b80
 refine AtT.done ?_
 refine At.nrm ?_
 refine At.lp (ι := Array Nat) (KS := fun _ => [(3, .map (some b)), (15, iv few), (80, .pointer (some ⟨b80, 0, none⟩))])
  (OS := fun seen => [.blk b80 (.mapIter (some b) c seen c), .blk b (mO (left (fun e => decide (¬ few < e.2.1)) M seen) c)])
  (VS := fun _ V'' => Le V3 V'') (μ := fun seen => (M.filter fun e => !seen.contains e.2.2).length) #[] ?_ ?_ ?_ ?_
 ·exact ⟨rfl, rfl, rfl, trivial⟩
 ·rw [left_nil]
  ·exact Pt.zy
 ·exact Le.refl _
 rintro seen2 V4 ks' O' hV4 hk hO hl4
 subst hk hO
 have hsub : ∀ e ∈ left (fun e => decide (¬ few < e.2.1)) M seen2, e ∈ M := fun e he => (List.mem_filter.1 he).1
 refine At.nrm ?_
 refine At.zg (.n true 0 (.q 1 .done)) ?_
 all_goals (refine AtT.next rfl trivial rfl zJ.zy zJ.zy (fun e he => hmi.born e (hsub e he)) (Nat.le_refl _) (by decide) (fun hall2 => ?_) (fun e he hns => ?_))
 all_goals (refine AtT.zG ?_)
 all_goals refine AtT.done ?_
 all_goals (refine At.nrm ?_)
 rotate_left
 ·refine At.qQ rfl rfl ?_
  have heM := hsub e he
  have hun := kr heM hns
  have hnd2 : ((left (fun e => decide (¬ few < e.2.1)) M seen2).map (·.2.2)).Nodup := hmi.nodB.sublist (List.filter_sublist.map _)
  refine At.nrm ?_
  refine At.zg (.n false 0 (.q 1 (.q 2 (.n false 3 (.n true 4 (.q 5 .done)))))) ?_
  refine AtT.entry rfl trivial rfl zJ.zy zJ.zy he hnd2 (by decide) ?_
  refine AtT.zG ?_
  refine AtT.zG ?_
  refine AtT.qD z83 ?_
  intro b16
  refine AtT.zY zO ?_
  refine AtT.zf ?_
  refine AtT.done ?_
  refine At.nrm ?_
  refine At.zg (.q 0 (.q 1 (.q 2 .done))) ?_
  refine AtT.ze ?_
  refine AtT.ze ?_
  refine AtT.jv ?_
  refine AtT.done ?_
  refine At.nrm ?_
  refine At.zW rfl (fun hm => ?_) (fun hm => ?_)
  ·have hg : decide (¬ few < e.2.1) = false := decide_eq_false (fun h => h hm)
   have hdel := left_del (g := fun e : Nat × Int × Nat => decide (¬ few < e.2.1)) (seen := seen2) hmi.nodB hmi.nodK heM hg
   refine At.nrm ?_
   refine At.zg (.q 0 (.q 1 (.n true 2 .done))) ?_
   refine AtT.ze ?_
   first | refine AtT.zx zO ?_ | refine AtT.zD zO ?_ | refine AtT.zw zO ?_
   refine AtT.mapDel rfl trivial key72 e.1 (fun n : Int => iv n) rfl Tryz.underlying139 rfl rfl (by repeat first|exact Upd.here|apply Upd.there) ?_
   refine AtT.done ?_
   refine At.nrm ?_
   refine At.round (seen2.push e.2.2) hun hV4 ⟨rfl, rfl, rfl, trivial⟩ ?_
   rw [hdel]
   ·exact Pt.zy
  ·have hg : decide (¬ few < e.2.1) = true := decide_eq_true hm
   have hkeep := left_keep (g := fun e : Nat × Int × Nat => decide (¬ few < e.2.1)) (seen := seen2) hmi.nodB heM hg
   refine At.nrm ?_
   refine At.round (seen2.push e.2.2) hun hV4 ⟨rfl, rfl, rfl, trivial⟩ ?_
   rw [hkeep]
   ·exact Pt.zy
 refine At.qB rfl rfl ?_
 rw [left_end hall2]
 obtain ⟨N, hN⟩ : ∃ N, N = M.filter fun e => decide (¬ few < e.2.1) := ⟨_, rfl⟩
 rw [← hN]
 have hNs : ∀ e ∈ N, e ∈ M ∧ ¬ few < e.2.1 := fun e he => by rw [hN] at he; have := List.mem_filter.1 he; exact ⟨this.1, by simpa using this.2⟩
 have hNi : ∀ e ∈ M, ¬ few < e.2.1 → e ∈ N := fun e he h => by rw [hN]; exact List.mem_filter.2 ⟨he, by simpa using h⟩
 have hNB : (N.map (·.2.2)).Nodup := by rw [hN]; exact hmi.nodB.sublist (List.filter_sublist.map _)
 have hNK : (N.map (·.1)).Nodup := by rw [hN]; exact hmi.nodK.sublist (List.filter_sublist.map _)
 have hNl : N.length ≤ 32768 := by rw [hN]; exact Nat.le_trans (List.length_filter_le _ _) hml
 refine At.nrm ?_
 refine At.zg (.q 0 .done) ?_
 refine AtT.zf ?_
 refine AtT.done ?_
 refine At.nrm ?_
 refine At.zg (.q 0 (.n false 1 .done)) ?_
 refine AtT.ze ?_
 refine AtT.range rfl trivial Tryz.underlying139 rfl zJ.zy (by decide) ?_
 intro b92
 refine AtT.done ?_
 refine At.nrm ?_
 refine At.newRow 83 1 ?_
 refine At.lp (ι := Array Nat × List Nat × Option Addr × Nat) (KS := fun g => [(18, .slice g.2.2.1 g.2.1.length g.2.2.2), (92, .pointer (some ⟨b92, 0, none⟩))])
  (OS := fun g => [.blk b92 (.mapIter (some b) c g.1 c), .blk b (mO N c), .row (.slice g.2.2.1 g.2.1.length g.2.2.2) 83 1 g.2.1.length (flat ste g.2.1)])
  (VS := fun g V'' => Le V V'' ∧ g.2.1.Nodup ∧ (∀ x, x ∈ g.2.1 ↔ ∃ e ∈ N, e.2.2 ∈ g.1 ∧ e.1 = x) ∧ g.2.1.length + (N.filter fun e => !g.1.contains e.2.2).length ≤ N.length) (μ := fun g => (N.filter fun e => !g.1.contains e.2.2).length) (#[], [], none, 0) ?_ ?_ ?_ ?_
 ·exact ⟨rfl, rfl, trivial⟩
 ·exact Pt.zy
 ·exact ⟨hV2.trans (hV3.trans hV4), List.nodup_nil, fun x => (by simp), by show 0 + _ ≤ _; rw [Nat.zero_add]; exact List.length_filter_le _ _⟩
 rintro ⟨seen3, out, ao3, co3⟩ V5 ks' O' ⟨hV5, ho1, ho2, ho3⟩ hk hO hl5
 dsimp only at ho1 ho2 ho3 hk hO
 subst hk hO
 refine At.nrm ?_
 refine At.zg (.n true 0 (.q 1 .done)) ?_
 all_goals (refine AtT.next rfl trivial rfl zJ.zy zJ.zy (fun e he => hmi.born e (hNs e he).1) (Nat.le_refl _) (by decide) (fun hall3 => ?_) (fun e he hns => ?_))
 all_goals (refine AtT.zG ?_)
 all_goals refine AtT.done ?_
 all_goals (refine At.nrm ?_)
 rotate_left
 ·refine At.qQ rfl rfl ?_
  have hun := kr he hns
  have hno : e.1 ∉ out := fun h => by
   obtain ⟨e', h1, h2, h3⟩ := (ho2 e.1).1 h
   have := inj_of (fun e : Nat × Int × Nat => e.1) hNK h1 he h3
   subst this; exact hns h2
  refine At.nrm ?_
  refine At.zg (.n false 0 (.q 1 (.n false 2 (.n true 3 .done)))) ?_
  refine AtT.entry rfl trivial rfl zJ.zy zJ.zy he hNB (by decide) ?_
  refine AtT.zG ?_
  refine AtT.qD z83 ?_
  intro b19
  refine AtT.zY zO ?_
  refine AtT.done ?_
  refine At.nrm ?_
  refine At.zg (.q 0 (.q 1 (.n false 2 (.n true 3 (.q 4 .done))))) ?_
  refine AtT.ze ?_
  first | refine AtT.zx zO ?_ | refine AtT.zD zO ?_ | refine AtT.zw zO ?_
  refine AtT.qb (bs51_1_0 _) ?_
  intro q99 V99 hV99 hq99
  have g99 : Le V V99 := by first | exact hV99 | exact Le.trans (by assumption) hV99
  first | refine AtT.kappend Tryz.underlying51 rw83 ?_
  intro a100 c100
  refine AtT.zf ?_
  refine AtT.done ?_
  refine At.nrm ?_
  refine At.round (seen3.push e.2.2, out ++ [e.1], a100, c100) ?_ ?_ ?_ ?_
  ·exact hun
  ·refine ⟨hV5.trans (by first | assumption | exact Le.refl _), ?_, fun x => ?_, ?_⟩
   ·exact List.nodup_append.2 ⟨ho1, by simp, fun x hx y hy => by rw [List.mem_singleton] at hy; subst hy; intro h; subst h; exact hno hx⟩
   ·dsimp only
    rw [List.mem_append, List.mem_singleton, ho2]
    constructor
    ·rintro (⟨e', h1, h2, h3⟩ | rfl)
     ·exact ⟨e', h1, (seen_push hNB he h1).2 (.inl h2), h3⟩
     ·exact ⟨e, he, (seen_push hNB he he).2 (.inr rfl), rfl⟩
    ·rintro ⟨e', h1, h2, h3⟩
     rcases (seen_push hNB he h1).1 h2 with h | rfl
     ·exact .inl ⟨e', h1, h, h3⟩
     ·exact .inr h3.symm
   ·dsimp only; rw [List.length_append]; simp only [List.length_cons, List.length_nil]; omega
  ·dsimp only; rw [List.length_append]; exact ⟨rfl, rfl, trivial⟩
  dsimp only
  rw [je, List.length_append]
  ·exact Pt.zy
 refine At.qB rfl rfl ?_
 have hfm : e1.2.1 = few := hfe1.symm
 have hone : e1.1 ∈ out := (ho2 e1.1).2 ⟨e1, hNi e1 he1 (by omega), hall3 e1 (hNi e1 he1 (by omega)), rfl⟩
 have hon0 : out.length ≠ 0 := fun h => by rw [List.eq_nil_of_length_eq_zero h] at hone; cases hone
 refine At.nrm ?_
 refine At.rowBlk2 (v := .slice ao3 out.length co3) zJ.zy hon0 (fun bb cap rest hbb hcap hcm hrl => ?_)
 cases hbb
 refine At.zg (.q 0 (.n true 1 .done)) ?_
 refine AtT.ze ?_
 refine AtT.sortS rfl trivial rfl rfl (l := out) (rest := rest) (by omega) zJ.zy (by decide) (fun l' hperm hsrt => ?_)
 refine AtT.done ?_
 refine At.nrm ?_
 have hpl := hperm.length_eq
 refine At.giveM (b := bb) zJ.zy (fun V6 hV6 hb6 hn6 => ?_)
 have hl6 : (flat ste l').length = l'.length * 1 := qm ste_len _
 have hl7 : (flat ste out).length = out.length * 1 := qm ste_len _
 have hnv : V bb = none := by
  cases hv : V bb with
  | none => rfl
  | some o => rw [hV5 _ _ hv] at hn6; cases hn6
 have hs6 : RwB V V6 83 1 ste (.slice (some ⟨bb, 0, none⟩) l'.length co3) l' := ⟨bb, co3, _, rfl, by rw [hpl]; exact hcap, hcm, hnv, hb6, by rw [← hrl, List.length_append, List.length_append, hl6, hl7, hpl], by rw [← hl6]; exact List.take_left⟩
 rw [hpl] at hs6
 refine At.zg (.q 0 (.q 1 .done)) ?_
 refine AtT.ze ?_
 refine AtT.zf ?_
 refine AtT.done ?_
 refine At.nrm ?_
 refine At.zV rfl (.tmp rfl) ⟨l', hs6, hperm.nodup_iff.2 ho1, hsrt, fun x => ?_⟩
 rw [hperm.mem_iff, ho2]
 constructor
 ·rintro ⟨e, h1, _, rfl⟩
  obtain ⟨h2, h3⟩ := hNs e h1
  refine ⟨(hmem e.1).1 ((jc e.1 M).2 ⟨e, h2, rfl⟩), fun y hy => ?_⟩
  obtain ⟨e', h4, h5⟩ := (jc y M).1 ((hmem y).2 hy)
  have a1 := hfew e' h4
  have a2' := hmi.val e' h4
  have a3 := hmi.val e h2
  rw [h5] at a2'
  omega
 ·rintro ⟨h1, h2⟩
  obtain ⟨e, h3, h4⟩ := (jc x M).1 ((hmem x).2 h1)
  have a1 := h2 e1.1 ((hmem e1.1).1 ((jc e1.1 M).2 ⟨e1, he1, rfl⟩))
  have a2' := hmi.val e h3
  have a3 := hmi.val e1 he1
  rw [h4] at a2'
  have : e ∈ N := hNi e h3 (by omega)
  exact ⟨e, this, hall3 e this, h4⟩
theorem smallest_f (ts : List Tq) (ht : ∀ t ∈ ts, kF t.p = true) (h16 : ts.length ≤ 16) (hz : (lsL ts).any (· == 0) = false) (V : View) (p : Addr) (hb : BcV V p ts) : Fnc Tryz.prog 49 [.pointer (some p)] V fun r V' => ∃ l, Sl V' ste 1 r l ∧ SmS (lsL ts) SrtL l := by
 obtain ⟨a2, c2, hc26, hsl⟩ := bc_left hb
 have hlt := ls_lt (no := clA ts) ht ts.length
 have hfl := fl_ls (clA ts) ts ts.length
 have hne : ∀ s ∈ lsL ts, s ≠ 0 ∧ s < 32768 := fun s hs => ⟨fun e => by rw [List.any_eq_false] at hz; exact hz s hs (by rw [e]; rfl), hlt s hs⟩
 exact (smallest_g (lsL ts) (by unfold lsL; omega) hne V p a2 c2 hc26 hsl).mono fun v V' _ ⟨l, h1, h2⟩ => ⟨l, h1.sl ste_len, h2⟩
end Go.Proofs.YtadbifpalpdocaaGreatDoor
end
section
set_option linter.unusedVariables false
namespace Go.Proofs.YtadbifpalpdocaaGreatDoor
open Go.Lw Go.Gl Go.Bl Go.RowKit
theorem alE_zero {ts : List Tq} (h : alE ts = 0) : trE ts = 0 ∧ (lsL ts).any (· == 0) = false := by
 have h0 : trE ts = 0 := by
  by_cases c : trE ts = 0
  ·exact c
  ·rw [alE_tr c] at h; exact absurd h c
 refine ⟨h0, ?_⟩
 cases c : (lsL ts).any (· == 0) with
 | false => rfl
 | true => rw [alE_z h0 c] at h; cases h
theorem explained_ok (ts : List Tq) (h : alE ts = 0) (V : View) (v : Value) (hs : Sl V tqe 4 v ts) : Fnc Tryz.prog 19 [v] V fun r V' => ∃ p u l, r = .tuple #[.pointer (some p), u, iv 0] ∧ BcV V' p ts ∧ Sl V' ste 1 u l ∧ SmS (lsL ts) SrtL l := by
 obtain ⟨h0, hz⟩ := alE_zero h
 obtain ⟨h16, ht⟩ := trE_ok h0
 refine zT Tryz.func19 rfl Tryz.ntmps19 (Nat.le_of_ble_eq_true rfl) ?_
 intro w0 hw0
 refine At.nrm ?_
 refine At.zg (.q 0 (.q 1 (.q 2 .done))) ?_
 refine AtT.zf ?_
 refine AtT.zf ?_
 refine AtT.zf ?_
 refine AtT.done ?_
 refine At.nrm ?_
 refine At.zg (.q 0 (.n false 1 (.q 2 (.q 3 (.q 4 (.q 5 (.q 6 .done))))))) ?_
 refine AtT.ze ?_
 refine AtT.kcall rfl rfl ok47 (open_ok ts h0 _ _ hs) ?_
 rintro _ V1 hV1 ⟨p, rfl, hb⟩
 refine AtT.ze ?_
 refine AtT.zG ?_
 refine AtT.zG ?_
 refine AtT.zf ?_
 refine AtT.zf ?_
 refine AtT.done ?_
 refine At.nrm ?_
 refine At.zg (.q 0 (.q 1 (.q 2 .done))) ?_
 refine AtT.ze ?_
 refine AtT.kneI ?_
 refine AtT.zf ?_
 refine AtT.done ?_
 refine At.nrm ?_
 refine At.qB rfl (decide_eq_false (by simp)) ?_
 obtain ⟨a2, c2, hc20, hsl⟩ := bc_left hb
 refine At.nrm ?_
 refine At.zg (.q 0 (.q 1 (.q 2 (.q 3 (.q 4 (.n false 5 (.q 6 .done))))))) ?_
 refine AtT.ze ?_
 refine AtT.knil ?_
 first | refine AtT.zk jh ?_ | with_reducible refine AtT.zm jh ?_ | refine AtT.zo jh ?_
 first | refine AtT.zu tk51 ?_ | refine AtT.zF tk51 ?_
 refine AtT.jK (bd83) ?_
 refine AtT.zC rfl rfl ok48 (containsS_f (lsL ts) _ _ hsl) ?_
 rintro _ rfl; rw [hz]
 refine AtT.zf ?_
 refine AtT.done ?_
 refine At.nrm ?_
 refine At.qB rfl rfl ?_
 refine At.nrm ?_
 refine At.zg (.q 0 (.q 1 (.n false 2 (.q 3 (.q 4 (.q 5 .done)))))) ?_
 refine AtT.ze ?_
 refine AtT.ze ?_
 refine AtT.kcall rfl rfl ok49 (smallest_f ts ht h16 hz _ p hb) ?_
 rintro v25 V25 hV25 ⟨l, hl, hsm⟩
 refine AtT.zf ?_
 refine AtT.zf ?_
 refine AtT.zf ?_
 refine AtT.done ?_
 refine At.nrm ?_
 exact At.ret3 rfl (.tmp rfl) (.tmp rfl) (.tmp rfl) ⟨p, v25, l, rfl, hb.le hV25, hl, hsm⟩
theorem sms_ne {ts : List Tq} {l : List Nat} (h : alE ts = 0) (hs : SmS (lsL ts) SrtL l) : l ≠ [] ∧ ∀ x ∈ l, x < 32768 := by
 obtain ⟨h0, hz⟩ := alE_zero h
 obtain ⟨h16, ht⟩ := trE_ok h0
 have hlt := ls_lt (no := clA ts) ht ts.length
 have hne : ∀ s ∈ lsL ts, s ≠ 0 ∧ s < 32768 := fun s hs => ⟨fun e => by rw [List.any_eq_false] at hz; exact hz s hs (by rw [e]; rfl), hlt s hs⟩
 refine ⟨fun e => ?_, fun x hx => gsK_lt ((hs.mem x).1 hx).1⟩
 obtain ⟨x0, hx0⟩ := gsK_ex hne _ (Nat.le_refl _)
 -- some set is least
 have : ∃ x, GsK (lsL ts) (lsL ts).length x ∧ ∀ y, GsK (lsL ts) (lsL ts).length y → cnt x ≤ cnt y := by
  have key : ∀ n x, cnt x ≤ n → GsK (lsL ts) (lsL ts).length x → ∃ x, GsK (lsL ts) (lsL ts).length x ∧ ∀ y, GsK (lsL ts) (lsL ts).length y → cnt x ≤ cnt y := by
   intro n
   induction n with
   | zero => intro x h1 h2; exact ⟨x, h2, fun y _ => by omega⟩
   | succ n ih =>
    intro x h1 h2
    by_cases c : ∃ y, GsK (lsL ts) (lsL ts).length y ∧ cnt y < cnt x
    ·obtain ⟨y, h3, h4⟩ := c; exact ih y (by omega) h3
    ·exact ⟨x, h2, fun y hy => by
      apply Classical.byContradiction
      intro hc; exact c ⟨y, hy, by omega⟩⟩
  exact key _ x0 (Nat.le_refl _) hx0
 obtain ⟨x, hx1, hx2⟩ := this
 have := (hs.mem x).2 ⟨hx1, hx2⟩
 rw [e] at this; cases this
theorem fewest_ok (ts : List Tq) (h : alE ts = 0) (V : View) (v : Value) (hs : Sl V tqe 4 v ts) : Fnc Tryz.prog 21 [v] V fun r _ => ∃ l x, SmS (lsL ts) SrtL l ∧ l[0]? = some x ∧ r = .tuple #[iv (cnt x), iv 0] := by
 refine zT Tryz.func21 rfl Tryz.ntmps21 (Nat.le_of_ble_eq_true rfl) ?_
 intro w0 hw0
 refine At.nrm ?_
 refine At.zg (.q 0 (.q 1 .done)) ?_
 refine AtT.zf ?_
 refine AtT.zf ?_
 refine AtT.done ?_
 refine At.nrm ?_
 refine At.zg (.q 0 (.n false 1 (.q 2 (.q 3 (.q 4 (.q 5 (.q 6 (.q 7 (.q 8 .done))))))))) ?_
 refine AtT.ze ?_
 refine AtT.kcall rfl rfl ok19 (explained_ok ts h _ _ hs) ?_
 rintro _ V1 hV1 ⟨p, u, l, rfl, hb, hl, hsm⟩
 refine AtT.ze ?_
 refine AtT.zG ?_
 refine AtT.zG ?_
 refine AtT.zG ?_
 refine AtT.zf ?_
 refine AtT.zf ?_
 refine AtT.zf ?_
 refine AtT.done ?_
 refine At.nrm ?_
 obtain ⟨hne, hlt⟩ := sms_ne h hsm
 have hpos : 0 < l.length := List.length_pos_iff.2 hne
 obtain ⟨a, c, rfl, _⟩ := id hl
 refine At.zg (.q 0 (.q 1 .done)) ?_
 refine AtT.ze ?_
 refine AtT.kneI ?_
 refine AtT.done ?_
 refine At.nrm ?_
 refine At.qB rfl (decide_eq_false (by simp)) ?_
 obtain ⟨x, hx⟩ : ∃ x, l[0]? = some x := ⟨_, List.getElem?_eq_getElem hpos⟩
 have hxl := hlt x (List.mem_of_getElem? hx)
 refine At.nrm ?_
 refine At.zg (.q 0 (.q 1 (.q 2 (.n false 3 (.q 4 (.q 5 (.q 6 .done))))))) ?_
 refine AtT.ze ?_
 refine AtT.qK Tryz.underlying51 zO ?_
 intro p17 e17 he17 hc17
 obtain rfl : e17 = x := by have : l[0]? = some e17 := (by simpa using he17); rw [hx] at this; simpa using this.symm
 first | refine AtT.zx zO ?_ | refine AtT.zD zO ?_ | refine AtT.zw zO ?_
 refine AtT.kcall rfl rfl ok53 (list_f e17 (by omega) _) ?_
 rintro v19 V19 hV19 hs19; obtain ⟨a9, c9, rfl, _⟩ := id hs19
 first | refine AtT.zP Tryz.underlying31 ?_ | refine AtT.zQ Tryz.underlying31 ?_
 refine AtT.zf ?_
 refine AtT.zf ?_
 refine AtT.done ?_
 refine At.nrm ?_
 exact At.ret2 rfl (.tmp rfl) (.tmp rfl) ⟨l, e17, hsm, hx, rfl⟩
end Go.Proofs.YtadbifpalpdocaaGreatDoor
end
section
set_option linter.unusedVariables false
namespace Go.Proofs.YtadbifpalpdocaaGreatDoor
open Go.Lw Go.Gl Go.Bl Go.RowKit
abbrev sle (q : Option Addr × Nat × Nat) : List Value := [.slice q.1 q.2.1 q.2.2]
theorem sle_len (q : Option Addr × Nat × Nat) : (sle q).length = 1 := rfl
def SL (V : View) (v : Value) (ll : List (List Int)) : Prop := ∃ qs : List (Option Addr × Nat × Nat), Sl V sle 1 v qs ∧ qs.length = ll.length ∧ ∀ (i : Nat) (q : Option Addr × Nat × Nat) (l : List Int), qs[i]? = some q → ll[i]? = some l → SlI V (.slice q.1 q.2.1 q.2.2) l
theorem SL.le {V V' : View} {v : Value} {ll : List (List Int)} (h : SL V v ll) (hl : Le V V') : SL V' v ll := by
 obtain ⟨qs, h1, h2, h3⟩ := h
 exact ⟨qs, h1.le hl, h2, fun i q l a b => (h3 i q l a b).le hl⟩
theorem SL.nil (V : View) : SL V (.slice none 0 0) [] := ⟨[], Sl.nil _ _ _, rfl, fun i q l h => by simp at h⟩
theorem all_ok (ts : List Tq) (h : alE ts = 0) (V : View) (v : Value) (hs : Sl V tqe 4 v ts) : Fnc Tryz.prog 22 [v] V fun r V' => ∃ u l, r = .tuple #[u, iv 0] ∧ SmS (lsL ts) SrtL l ∧ SL V' u (l.map fun s => zX s 15) := by
 refine zT Tryz.func22 rfl Tryz.ntmps22 (Nat.le_of_ble_eq_true rfl) ?_
 intro w0 hw0
 refine At.nrm ?_
 refine At.zg (.q 0 (.q 1 .done)) ?_
 refine AtT.zf ?_
 refine AtT.zf ?_
 refine AtT.done ?_
 refine At.nrm ?_
 refine At.zg (.q 0 (.n false 1 (.q 2 (.q 3 (.q 4 (.q 5 (.q 6 (.q 7 (.q 8 .done))))))))) ?_
 refine AtT.ze ?_
 refine AtT.kcall rfl rfl ok19 (explained_ok ts h _ _ hs) ?_
 rintro _ V1 hV1 ⟨p, u, l, rfl, hb, hl, hsm⟩
 refine AtT.ze ?_
 refine AtT.zG ?_
 refine AtT.zG ?_
 refine AtT.zG ?_
 refine AtT.zf ?_
 refine AtT.zf ?_
 refine AtT.zf ?_
 refine AtT.done ?_
 refine At.nrm ?_
 obtain ⟨hne, hlt⟩ := sms_ne h hsm
 have hlen : l.length ≤ 32768 := pigeonN hsm.nod hlt
 obtain ⟨a, c, rfl, _⟩ := id hl
 refine At.zg (.q 0 .done) ?_
 refine AtT.zf ?_
 refine AtT.done ?_
 refine At.nrm ?_
 refine At.newRow 31 1 ?_
 refine At.zg (.q 0 (.q 1 (.q 2 .done))) ?_
 refine AtT.ze ?_
 first | refine AtT.zP Tryz.underlying51 ?_ | refine AtT.zQ Tryz.underlying51 ?_
 refine AtT.ze ?_
 refine AtT.done ?_
 refine At.nrm ?_
 refine At.lp (ι := Nat × List (Option Addr × Nat × Nat) × Option Addr × Nat) (KS := fun g => [(6, iv 0), (7, .slice g.2.2.1 g.2.1.length g.2.2.2), (16, .slice a l.length c), (17, iv l.length), (18, iv g.1)])
  (OS := fun g => [.row (.slice g.2.2.1 g.2.1.length g.2.2.2) 31 1 g.2.1.length (flat sle g.2.1)])
  (VS := fun g V' => Le V1 V' ∧ g.1 ≤ l.length ∧ g.2.1.length = g.1 ∧ ∀ (i : Nat) (q : Option Addr × Nat × Nat) (x : Nat), g.2.1[i]? = some q → l[i]? = some x → SlI V' (.slice q.1 q.2.1 q.2.2) (zX x 15)) (μ := fun g => l.length - g.1) (0, [], none, 0) ?_ ?_ ?_ ?_
 ·exact ⟨rfl, rfl, rfl, rfl, rfl, trivial⟩
 ·exact Pt.zy
 ·exact ⟨Le.refl _, Nat.zero_le _, rfl, fun i q x h => (by simp at h)⟩
 rintro ⟨k, qs, ao, co⟩ V' ks' O' ⟨hVV, hkl, hql, hqs⟩ hk hO hl2
 dsimp only at hkl hql hqs hk hO
 subst hk hO
 have hl' := hl.le hVV
 have hV0 := hV1.trans hVV
 refine At.nrm ?_
 refine At.zg (.q 0 .done) ?_
 refine AtT.qW ?_
 refine AtT.done ?_
 refine At.nrm ?_
 refine At.zW rfl (fun hp => ?_) (fun hp => ?_)
 ·obtain ⟨x, hx⟩ : ∃ x, l[k]? = some x := ⟨_, List.getElem?_eq_getElem (by omega)⟩
  have hxl := hlt x (List.mem_of_getElem? hx)
  refine At.nrm ?_
  refine At.zg (.q 0 (.q 1 (.n false 2 (.n true 3 .done)))) ?_
  refine AtT.qK Tryz.underlying51 zO ?_
  intro p20 e20 he20 hc20
  obtain rfl : e20 = x := by have : l[k]? = some e20 := (by simpa using he20); rw [hx] at this; simpa using this.symm
  first | refine AtT.zx zO ?_ | refine AtT.zD zO ?_ | refine AtT.zw zO ?_
  refine AtT.qD z83 ?_
  intro b9
  refine AtT.zY zO ?_
  refine AtT.done ?_
  refine At.nrm ?_
  refine At.cutG (ι := Option Addr × Nat × Option Addr × Nat × Nat) (fun g => [(6, iv 0), (7, .slice g.1 (qs.length + 1) g.2.1), (16, .slice a l.length c), (17, iv l.length), (18, iv k)])
   (fun g => [.row (.slice g.1 (qs.length + 1) g.2.1) 31 1 (qs.length + 1) (flat sle qs ++ [.slice g.2.2.1 g.2.2.2.1 g.2.2.2.2])]) (fun g V'' => Le V' V'' ∧ SlI V'' (.slice g.2.2.1 g.2.2.2.1 g.2.2.2.2) (zX e20 15)) ?_ ?_
  ·refine At.draw (.q 0 (.q 1 (.q 2 (.q 3 (.q 4 (.q 5 (.q 6 (.n false 7 (.n false 8 (.n true 9 (.q 10 .done))))))))))) ffm (by kernel_rfl) ?_
   refine AtT.ze ?_
   refine AtT.ze ?_
   first | refine AtT.zP Tryz.underlying56 ?_ | refine AtT.zQ Tryz.underlying56 ?_
   refine AtT.ze ?_
   first | refine AtT.zP Tryz.underlying56 ?_ | refine AtT.zQ Tryz.underlying56 ?_
   refine AtT.clipR rfl trivial Tryz.underlying56 tk31 rfl zJ.zy rfl rfl rfl rfl (by decide) ?_
   first | refine AtT.zx zO ?_ | refine AtT.zD zO ?_ | refine AtT.zw zO ?_
   refine AtT.kcall rfl rfl ok53 (list_f e20 (by omega) _) ?_
   rintro v29 V29 hV29 hs29; obtain ⟨a9, c9, rfl, _⟩ := id hs29; have hV029 := hV0.trans hV29
   refine AtT.qb (bs56_1_0 _ _ _) ?_
   intro q30 V30 hV30 hq30
   have g30 : Le V V30 := by first | exact hV30 | exact Le.trans (by assumption) hV30
   refine AtT.appendR rfl trivial Tryz.underlying56 rw31 rfl (by decide) rfl rfl zJ.zy hq30 rfl (by decide) (by unfold maxLen; omega) (by omega) (by decide) (fun a31 c31 => ?_)
   refine AtT.zf ?_
   refine AtT.done ?_
   refine At.nrm ?_
   all_goals (exact At.meetG (a31, c31, a9, (zX e20 15).length, c9) ⟨by first | exact hV29.trans (by assumption) | exact hV29, hs29.le (by first | assumption | exact Le.refl _)⟩ ⟨rfl, rfl, rfl, rfl, rfl, trivial⟩ Pt.zy)
  rintro ⟨a31, c31, a9, n9, c9⟩ V3 ks' O' ⟨hV3, hs9⟩ hk hO hl3
  dsimp only at hs9 hk hO
  subst hk hO
  refine At.nrm ?_
  refine At.zg (.q 0 (.q 1 .done)) ?_
  first | refine AtT.qo ?_ | refine AtT.zS ?_
  refine AtT.ze ?_
  refine AtT.done ?_
  refine At.nrm ?_
  refine At.round (k + 1, qs ++ [(a9, n9, c9)], a31, c31) ?_ ?_ ?_ ?_
  ·show l.length - (k + 1) < l.length - k; omega
  ·refine ⟨hVV.trans hV3, by dsimp only; omega, by dsimp only; rw [List.length_append]; simp only [List.length_cons, List.length_nil]; omega, fun i q x hq hx' => ?_⟩
   by_cases hi : i < qs.length
   ·rw [List.getElem?_append_left hi] at hq
    exact (hqs i q x hq hx').le hV3
   ·rw [List.getElem?_append_right (by omega)] at hq
    have hii : i - qs.length = 0 := by
     have := (List.getElem?_eq_some_iff.1 hq).1
     simp only [List.length_cons, List.length_nil] at this; omega
    rw [hii] at hq
    simp at hq
    subst hq
    obtain rfl : i = k := by omega
    rw [hx] at hx'; cases hx'
    exact hs9
  ·dsimp only; rw [List.length_append]; exact ⟨rfl, rfl, rfl, rfl, ivs (by omega), trivial⟩
  dsimp only
  rw [je, List.length_append]
  ·exact Pt.zy
 ·obtain rfl : k = l.length := by omega
  refine At.nrm ?_
  refine At.giveSl (l := qs) (m := qs.length) sle_len rfl rfl zJ.zy (fun V3 hV3 hs3 => ?_)
  refine At.zg (.q 0 (.q 1 (.q 2 (.q 3 .done)))) ?_
  refine AtT.ze ?_
  refine AtT.ze ?_
  refine AtT.zf ?_
  refine AtT.zf ?_
  refine AtT.done ?_
  refine At.nrm ?_
  exact At.ret2 rfl (.tmp rfl) (.tmp rfl) ⟨_, l, rfl, hsm, qs, hs3, by rw [List.length_map]; exact hql, fun i q l' hq hl'' => by
   rw [List.getElem?_map] at hl''
   obtain ⟨x, hx, rfl⟩ := Option.map_eq_some_iff.1 hl''
   exact (hqs i q x hq hx).le hV3⟩
end Go.Proofs.YtadbifpalpdocaaGreatDoor
end
section
set_option linter.unusedVariables false
namespace Go.Bl
open Go.Gl Go.Lw
def LexB (A B : Nat) : Prop := ∃ i, A.testBit i = true ∧ B.testBit i = false ∧ ∀ j, j < i → A.testBit j = B.testBit j
theorem lex_irr (A : Nat) : ¬ LexB A A := fun ⟨i, h1, h2, _⟩ => by rw [h1] at h2; cases h2
theorem lex_asym {A B : Nat} (h : LexB A B) : ¬ LexB B A := fun ⟨k, k1, k2, k3⟩ => by
 obtain ⟨i, h1, h2, h3⟩ := h
 rcases Nat.lt_trichotomy i k with c | rfl | c
 ·rw [k3 i c] at h2; rw [h1] at h2; cases h2
 ·rw [h1] at k2; cases k2
 ·rw [h3 k c] at k2; rw [k1] at k2; cases k2
theorem lex_tot {A B : Nat} (h : A ≠ B) : LexB A B ∨ LexB B A := by
 have hex : ∃ i, A.testBit i ≠ B.testBit i := by
  apply Classical.byContradiction
  intro hc
  refine h (Nat.eq_of_testBit_eq fun i => ?_)
  apply Classical.byContradiction
  intro hd; exact hc ⟨i, hd⟩
 have hl : ∃ i, A.testBit i ≠ B.testBit i ∧ ∀ j, j < i → A.testBit j = B.testBit j := by
  obtain ⟨i, hi⟩ := hex
  have key : ∀ n i, i ≤ n → A.testBit i ≠ B.testBit i → ∃ i, A.testBit i ≠ B.testBit i ∧ ∀ j, j < i → A.testBit j = B.testBit j := by
   intro n
   induction n with
   | zero => intro i h1 h2; exact ⟨i, h2, fun j hj => by omega⟩
   | succ n ih =>
    intro i h1 h2
    by_cases c : ∃ j, j < i ∧ A.testBit j ≠ B.testBit j
    ·obtain ⟨j, h3, h4⟩ := c; exact ih j (by omega) h4
    ·exact ⟨i, h2, fun j hj => by
      apply Classical.byContradiction
      intro hd; exact c ⟨j, hj, hd⟩⟩
  exact key i i (Nat.le_refl _) hi
 obtain ⟨i, h1, h2⟩ := hl
 cases a : A.testBit i with
 | true =>
  cases b : B.testBit i with
  | true => rw [a, b] at h1; exact absurd rfl h1
  | false => exact .inl ⟨i, a, b, h2⟩
 | false =>
  cases b : B.testBit i with
  | true => exact .inr ⟨i, b, a, fun j hj => (h2 j hj).symm⟩
  | false => rw [a, b] at h1; exact absurd rfl h1
theorem lt15_bit {A i : Nat} (h : A < 32768) (hi : A.testBit i = true) : i < 15 := by
 apply Classical.byContradiction
 intro hc
 rw [Nat.testBit_lt_two_pow (Nat.lt_of_lt_of_le (show A < 2 ^ 15 by omega) (Nat.pow_le_pow_right (by decide) (by omega)))] at hi; cases hi
theorem lex_ext : ∀ {a b : List Nat}, a.Pairwise LexB → b.Pairwise LexB → (∀ x, x ∈ a ↔ x ∈ b) → a = b
 | [], [], _, _, _ => rfl
 | [], y :: b, _, _, h => by have := (h y).2 List.mem_cons_self; cases this
 | x :: a, [], _, _, h => by have := (h x).1 List.mem_cons_self; cases this
 | x :: a, y :: b, ha, hb, h => by
  rw [List.pairwise_cons] at ha hb
  have e : x = y := by
   rcases List.mem_cons.1 ((h x).1 List.mem_cons_self) with h1 | h1
   ·exact h1
   ·rcases List.mem_cons.1 ((h y).2 List.mem_cons_self) with h2 | h2
    ·exact h2.symm
    ·exact absurd (ha.1 y h2) (lex_asym (hb.1 x h1))
  subst e
  rw [lex_ext ha.2 hb.2 fun z => ?_]
  have := h z
  rw [List.mem_cons, List.mem_cons] at this
  constructor
  ·intro hz
   rcases this.1 (.inr hz) with rfl | h1
   ·exact absurd (ha.1 _ hz) (lex_irr _)
   ·exact h1
  ·intro hz
   rcases this.2 (.inr hz) with rfl | h1
   ·exact absurd (hb.1 _ hz) (lex_irr _)
   ·exact h1
def Sub (A B : Nat) : Prop := ∀ i, A.testBit i = true → B.testBit i = true
theorem sub_cntK {A B : Nat} (h : Sub A B) : ∀ n, cntK A n ≤ cntK B n ∧ (cntK A n = cntK B n → ∀ i, i < n → A.testBit i = B.testBit i)
 | 0 => ⟨by simp [cntK, zX], fun _ i hi => by omega⟩
 | n + 1 => by
  obtain ⟨h1, h2⟩ := sub_cntK h n
  rw [cntK_succ, cntK_succ]
  have hn := h n
  cases a : A.testBit n with
  | true =>
   rw [hn a]
   refine ⟨by simp; omega, fun he i hi => ?_⟩
   simp at he
   by_cases c : i = n
   ·subst c; rw [a, hn a]
   ·exact h2 he i (by omega)
  | false =>
   cases b : B.testBit n with
   | true => exact ⟨by simp; omega, fun he => by simp at he; omega⟩
   | false =>
    refine ⟨by simp; omega, fun he i hi => ?_⟩
    simp at he
    by_cases c : i = n
    ·subst c; rw [a, b]
    ·exact h2 he i (by omega)
theorem sub_eq {A B : Nat} (h : Sub A B) (hA : A < 32768) (hB : B < 32768) (hc : cnt B ≤ cnt A) : A = B := by
 obtain ⟨h1, h2⟩ := sub_cntK h 15
 unfold cnt at hc
 refine Nat.eq_of_testBit_eq fun i => ?_
 by_cases hi : i < 15
 ·exact h2 (by omega) i hi
 ·have p : (2 : Nat) ^ 15 ≤ 2 ^ i := Nat.pow_le_pow_right (by decide) (by omega)
  rw [Nat.testBit_lt_two_pow (by omega), Nat.testBit_lt_two_pow (by omega)]
def Ex (no : Nat) (ls : List Nat) (A : Nat) : Prop := A < 32768 ∧ mtB A no = false ∧ ∀ s ∈ ls, mtB A s = true
theorem stp_sub {t s x : Nat} (h : Stp t s x) : Sub s x := fun i hi => by
 rcases h with ⟨_, rfl⟩ | ⟨_, k, _, _, rfl⟩
 ·exact hi
 ·rw [Nat.testBit_or, hi]; rfl
theorem stp_hit {t s x : Nat} (h : Stp t s x) : mtB x t = true := by
 rcases h with ⟨h1, rfl⟩ | ⟨_, k, _, hk, rfl⟩
 ·obtain ⟨i, a, b⟩ := (ql t x).1 h1
  exact (ql x t).2 ⟨i, b, a⟩
 ·refine (ql _ t).2 ⟨k, ?_, hk⟩
  rw [Nat.testBit_or, Nat.testBit_two_pow]; simp
theorem gsK_ex1 {no : Nat} {ls : List Nat} (hl : ∀ s ∈ ls, mtB s no = false) : ∀ {k x : Nat}, k ≤ ls.length → GsK ls k x → mtB x no = false ∧ ∀ j, j < k → mtB x (ls.getD j 0) = true
 | 0, x, _, h => by
  refine ⟨?_, fun j hj => by omega⟩
  rw [show x = 0 from h]
  unfold mtB; simp
 | k + 1, x, hk, ⟨s, h1, h2⟩ => by
  obtain ⟨a, b⟩ := gsK_ex1 hl (by omega) h1
  refine ⟨?_, fun j hj => ?_⟩
  ·cases c : mtB x no with
   | false => rfl
   | true =>
    obtain ⟨i, hi, hn⟩ := (ql x no).1 c
    rcases h2 with ⟨_, rfl⟩ | ⟨_, q, _, hq, rfl⟩
    ·rw [a] at c; cases c
    ·rw [Nat.testBit_or, Bool.or_eq_true] at hi
     rcases hi with hi | hi
     ·rw [(ql s no).2 ⟨i, hi, hn⟩] at a; cases a
     ·rw [Nat.testBit_two_pow, decide_eq_true_eq] at hi
      subst hi
      have := hl (ls.getD k 0) (by simp only [List.getD, List.getElem?_eq_getElem (show k < ls.length by omega)]; exact List.getElem_mem _)
      rw [(ql _ no).2 ⟨q, hq, hn⟩] at this; cases this
  ·by_cases c : j = k
   ·subst c; exact stp_hit h2
   ·obtain ⟨i, h3, h4⟩ := (ql s _).1 (b j (by omega))
    exact (ql x _).2 ⟨i, stp_sub h2 i h3, h4⟩
theorem gs_ex {no : Nat} {ls : List Nat} (hl : ∀ s ∈ ls, mtB s no = false) {x : Nat} (h : GsK ls ls.length x) : Ex no ls x := by
 obtain ⟨a, b⟩ := gsK_ex1 hl (Nat.le_refl _) h
 refine ⟨gsK_lt h, a, fun s hs => ?_⟩
 obtain ⟨j, hj, rfl⟩ := List.getElem_of_mem hs
 have := b j hj
 rwa [List.getD, List.getElem?_eq_getElem hj] at this
theorem ex_gsK {no : Nat} {ls : List Nat} {y : Nat} (h : Ex no ls y) : ∀ k, k ≤ ls.length → ∃ x, GsK ls k x ∧ Sub x y
 | 0, _ => ⟨0, rfl, fun i hi => by simp at hi⟩
 | k + 1, hk => by
  obtain ⟨s, h1, h2⟩ := ex_gsK h k (by omega)
  have hm := h.2.2 (ls.getD k 0) (by simp only [List.getD, List.getElem?_eq_getElem (show k < ls.length by omega)]; exact List.getElem_mem _)
  cases c : mtB (ls.getD k 0) s with
  | true => exact ⟨s, ⟨s, h1, .inl ⟨c, rfl⟩⟩, h2⟩
  | false =>
   obtain ⟨i, hi, ht⟩ := (ql y _).1 hm
   refine ⟨s ||| 2 ^ i, ⟨s, h1, .inr ⟨c, i, lt15_bit h.1 hi, ht, rfl⟩⟩, fun j hj => ?_⟩
   rw [Nat.testBit_or, Bool.or_eq_true] at hj
   rcases hj with hj | hj
   ·exact h2 j hj
   ·rw [Nat.testBit_two_pow, decide_eq_true_eq] at hj; subst hj; exact hi
theorem gs_min {no : Nat} {ls : List Nat} (hl : ∀ s ∈ ls, mtB s no = false) (x : Nat) : (GsK ls ls.length x ∧ ∀ y, GsK ls ls.length y → cnt x ≤ cnt y) ↔ (Ex no ls x ∧ ∀ y, Ex no ls y → cnt x ≤ cnt y) := by
 constructor
 ·rintro ⟨h1, h2⟩
  refine ⟨gs_ex hl h1, fun y hy => ?_⟩
  obtain ⟨z, h3, h4⟩ := ex_gsK hy _ (Nat.le_refl _)
  have := h2 z h3
  have := (sub_cntK h4 15).1
  unfold cnt at *; omega
 ·rintro ⟨h1, h2⟩
  obtain ⟨z, h3, h4⟩ := ex_gsK h1 _ (Nat.le_refl _)
  have hz := gs_ex hl h3
  have := sub_eq h4 hz.1 h1.1 (h2 z hz)
  subst this
  exact ⟨h3, fun y hy => h2 y (gs_ex hl hy)⟩
end Go.Bl
end
section
set_option linter.unusedVariables false
namespace Go.Bl
open Go.Gl Go.Lw Go.Sort
def stN (n k m : Nat) : Nat := ((n / 2 ^ k) &&& m) ||| (((n &&& m) * 2 ^ k) % 2 ^ 64)
theorem bits_andU {A B : Nat} (hA : A < 2 ^ 64) (hB : B < 2 ^ 64) : Go.bits .and .u64 (A : Int) (B : Int) = ((A &&& B : Nat) : Int) := by
 show IntKind.u64.wrap (((BitVec.ofInt 64 (A : Int) &&& BitVec.ofInt 64 (B : Int)).toNat : Nat) : Int) = _
 rw [BitVec.toNat_and, ofInt_u64 A hA, ofInt_u64 B hB, wrapU (Nat.lt_of_le_of_lt Nat.and_le_left hA)]
theorem bits_orU {A B : Nat} (hA : A < 2 ^ 64) (hB : B < 2 ^ 64) : Go.bits .or .u64 (A : Int) (B : Int) = ((A ||| B : Nat) : Int) := by
 show IntKind.u64.wrap (((BitVec.ofInt 64 (A : Int) ||| BitVec.ofInt 64 (B : Int)).toNat : Nat) : Int) = _
 rw [BitVec.toNat_or, ofInt_u64 A hA, ofInt_u64 B hB, wrapU (Nat.or_lt_two_pow hA hB)]
theorem wrapM (A : Nat) : IntKind.u64.wrap (A : Int) = ((A % 2 ^ 64 : Nat) : Int) := by
 simp [IntKind.wrap, IntKind.bits, IntKind.signed]
theorem stN_lt {n k m : Nat} (hm : m < 2 ^ 64) : stN n k m < 2 ^ 64 := Nat.or_lt_two_pow (Nat.lt_of_le_of_lt Nat.and_le_right hm) (Nat.mod_lt _ (by decide))
theorem st_nat {n k m : Nat} (hn : n < 2 ^ 64) (hm : m < 2 ^ 64) : stI (n : Int) ((2 ^ k : Nat) : Int) (m : Int) = ((stN n k m : Nat) : Int) := by
 unfold stI
 rw [show ((n : Int) / ((2 ^ k : Nat) : Int)) = ((n / 2 ^ k : Nat) : Int) from rfl, bits_andU (Nat.lt_of_le_of_lt (Nat.div_le_self _ _) hn) hm, bits_andU hn hm, ← Int.natCast_mul, wrapM,
  bits_orU (Nat.lt_of_le_of_lt Nat.and_le_right hm) (Nat.mod_lt _ (by decide))]
 rfl
theorem or_mod (a b n : Nat) : (a ||| b) % 2 ^ n = a % 2 ^ n ||| b % 2 ^ n := by
 refine Nat.eq_of_testBit_eq fun i => ?_
 rw [Nat.testBit_or, Nat.testBit_mod_two_pow, Nat.testBit_mod_two_pow, Nat.testBit_mod_two_pow, Nat.testBit_or, Bool.and_or_distrib_left]
theorem or_div (a b k : Nat) : (a ||| b) / 2 ^ k = a / 2 ^ k ||| b / 2 ^ k := by
 rw [← Nat.shiftRight_eq_div_pow, ← Nat.shiftRight_eq_div_pow, ← Nat.shiftRight_eq_div_pow, Nat.shiftRight_or_distrib]
theorem or_mul (a b k : Nat) : (a ||| b) * 2 ^ k = a * 2 ^ k ||| b * 2 ^ k := by
 rw [← Nat.shiftLeft_eq, ← Nat.shiftLeft_eq, ← Nat.shiftLeft_eq, Nat.shiftLeft_or_distrib]
theorem or_and (a b m : Nat) : (a ||| b) &&& m = a &&& m ||| b &&& m := Nat.and_or_distrib_right a b m
theorem or_four (a b c d : Nat) : (a ||| b) ||| (c ||| d) = (a ||| c) ||| (b ||| d) := by
 refine Nat.eq_of_testBit_eq fun i => ?_
 simp only [Nat.testBit_or]
 cases a.testBit i <;> cases b.testBit i <;> cases c.testBit i <;> cases d.testBit i <;> rfl
theorem stN_or (a b k m : Nat) : stN (a ||| b) k m = stN a k m ||| stN b k m := by
 unfold stN
 rw [or_div, or_and, or_and, or_mul, or_mod, or_four]
def rvN (n : Nat) : Nat :=
 let x := stN (stN (stN (stN (stN n 1 6148914691236517205) 2 3689348814741910323) 4 1085102592571150095) 8 71777214294589695) 16 281470681808895
 (x / 2 ^ 32) ||| ((x * 2 ^ 32) % 2 ^ 64)
theorem rvN_or (a b : Nat) : rvN (a ||| b) = rvN a ||| rvN b := by
 unfold rvN
 simp only [stN_or]
 rw [or_div, or_mul, or_mod, or_four]
theorem rv_nat {n : Nat} (hn : n < 2 ^ 64) : rvI (n : Int) = ((rvN n : Nat) : Int) := by
 have h1 := stN_lt (n := n) (k := 1) (m := 6148914691236517205) (by decide)
 have e1 := st_nat (n := n) (k := 1) (m := 6148914691236517205) hn (by decide)
 have h2 := stN_lt (n := stN n 1 6148914691236517205) (k := 2) (m := 3689348814741910323) (by decide)
 have e2 := st_nat (k := 2) (m := 3689348814741910323) h1 (by decide)
 have h3 := stN_lt (n := stN (stN n 1 6148914691236517205) 2 3689348814741910323) (k := 4) (m := 1085102592571150095) (by decide)
 have e3 := st_nat (k := 4) (m := 1085102592571150095) h2 (by decide)
 have h4 := stN_lt (n := stN (stN (stN n 1 6148914691236517205) 2 3689348814741910323) 4 1085102592571150095) (k := 8) (m := 71777214294589695) (by decide)
 have e4 := st_nat (k := 8) (m := 71777214294589695) h3 (by decide)
 have h5 := stN_lt (n := stN (stN (stN (stN n 1 6148914691236517205) 2 3689348814741910323) 4 1085102592571150095) 8 71777214294589695) (k := 16) (m := 281470681808895) (by decide)
 have e5 := st_nat (k := 16) (m := 281470681808895) h4 (by decide)
 unfold rvI rbI
 rw [show (2 : Int) = ((2 ^ 1 : Nat) : Int) from rfl, show (6148914691236517205 : Int) = ((6148914691236517205 : Nat) : Int) from rfl, e1, show (4 : Int) = ((2 ^ 2 : Nat) : Int) from rfl, show (3689348814741910323 : Int) = ((3689348814741910323 : Nat) : Int) from rfl, e2,
  show (16 : Int) = ((2 ^ 4 : Nat) : Int) from rfl, show (1085102592571150095 : Int) = ((1085102592571150095 : Nat) : Int) from rfl, e3, show (256 : Int) = ((2 ^ 8 : Nat) : Int) from rfl, show (71777214294589695 : Int) = ((71777214294589695 : Nat) : Int) from rfl, e4,
  show (65536 : Int) = ((2 ^ 16 : Nat) : Int) from rfl, show (281470681808895 : Int) = ((281470681808895 : Nat) : Int) from rfl, e5]
 rw [show (4294967296 : Int) = ((2 ^ 32 : Nat) : Int) from rfl, ← Int.natCast_mul, wrapM]
 show Go.bits .or .u64 ((_ / 2 ^ 32 : Nat) : Int) _ = _
 rw [bits_orU (Nat.lt_of_le_of_lt (Nat.div_le_self _ _) h5) (Nat.mod_lt _ (by decide))]
 rfl
def rvM (q : Nat → Bool) : Nat → Nat
 | 0 => 0
 | k + 1 => if q k = true then rvM q k ||| 2 ^ (63 - k) else rvM q k
theorem rvM_bit (q : Nat → Bool) : ∀ n, n ≤ 15 → ∀ j, (rvM q n).testBit j = (decide (63 < j + n ∧ j ≤ 63) && q (63 - j))
 | 0, _, j => by simp [rvM]; omega
 | n + 1, h, j => by
  have ih := rvM_bit q n (by omega) j
  simp only [rvM]
  by_cases c : j = 63 - n
  ·subst c
   have e : 63 - (63 - n) = n := by omega
   rw [e] at ih ⊢
   have d1 : decide (63 < 63 - n + (n + 1) ∧ 63 - n ≤ 63) = true := decide_eq_true (by omega)
   rw [d1, Bool.true_and]
   cases hq : q n with
   | true => rw [if_pos rfl, Nat.testBit_or, Nat.testBit_two_pow]; simp
   | false => rw [if_neg (by simp), ih, hq, Bool.and_false]
  ·have d1 : decide (63 < j + (n + 1) ∧ j ≤ 63) = decide (63 < j + n ∧ j ≤ 63) := by rw [decide_eq_decide]; omega
   rw [d1, ← ih]
   split
   ·rw [Nat.testBit_or, Nat.testBit_two_pow, decide_eq_false (fun e => c e.symm), Bool.or_false]
   ·rfl
theorem rvN_pow : ∀ k, k < 15 → rvN (2 ^ k) = 2 ^ (63 - k) := by decide +kernel
theorem rvN_0 : rvN 0 = 0 := by decide +kernel
theorem rvN_M (q : Nat → Bool) : ∀ n, n ≤ 15 → rvN (mkM q n) = rvM q n
 | 0, _ => rvN_0
 | n + 1, h => by
  have ih := rvN_M q n (by omega)
  simp only [mkM, rvM]
  split
  ·rw [rvN_or, ih, rvN_pow n (by omega)]
  ·exact ih
theorem mkM_self {A : Nat} (h : A < 32768) : mkM A.testBit 15 = A := by
 refine Nat.eq_of_testBit_eq fun i => ?_
 rw [mkM_bit]
 by_cases c : i < 15
 ·rw [decide_eq_true c, Bool.true_and]
 ·rw [decide_eq_false c, Bool.false_and, Nat.testBit_lt_two_pow (Nat.lt_of_lt_of_le (show A < 2 ^ 15 by omega) (Nat.pow_le_pow_right (by decide) (by omega)))]
theorem rv_bit {A : Nat} (h : A < 32768) (j : Nat) : (rvN A).testBit j = (decide (63 < j + 15 ∧ j ≤ 63) && A.testBit (63 - j)) := by
 have := rvN_M A.testBit 15 (Nat.le_refl _)
 rw [mkM_self h] at this
 rw [this, rvM_bit _ _ (Nat.le_refl _)]
theorem lt_bit {x y i : Nat} (h1 : x.testBit i = false) (h2 : y.testBit i = true) (h3 : ∀ j, i < j → x.testBit j = y.testBit j) : x < y := by
 have e : x / 2 ^ (i + 1) = y / 2 ^ (i + 1) := by
  rw [← Nat.shiftRight_eq_div_pow, ← Nat.shiftRight_eq_div_pow]
  refine Nat.eq_of_testBit_eq fun j => ?_
  rw [Nat.testBit_shiftRight, Nat.testBit_shiftRight]
  exact h3 _ (by omega)
 have a : x % 2 ^ (i + 1) < 2 ^ i := Nat.lt_pow_two_of_testBit _ fun j hj => by
  rw [Nat.testBit_mod_two_pow]
  by_cases c : j = i
  ·subst c; rw [h1, Bool.and_false]
  ·rw [decide_eq_false (by omega)]; rfl
 have b : 2 ^ i ≤ y % 2 ^ (i + 1) := Nat.ge_two_pow_of_testBit (by rw [Nat.testBit_mod_two_pow, h2, decide_eq_true (by omega)]; rfl)
 have c := Nat.div_add_mod x (2 ^ (i + 1))
 have d := Nat.div_add_mod y (2 ^ (i + 1))
 rw [e] at c
 omega
theorem lex_rv {A B : Nat} (hA : A < 32768) (hB : B < 32768) (h : LexB A B) : rvN B < rvN A := by
 obtain ⟨i, h1, h2, h3⟩ := h
 have hi := lt15_bit hA h1
 refine lt_bit (i := 63 - i) ?_ ?_ fun j hj => ?_
 ·rw [rv_bit hB, show 63 - (63 - i) = i by omega, h2, Bool.and_false]
 ·rw [rv_bit hA, show 63 - (63 - i) = i by omega, h1, decide_eq_true (by omega)]; rfl
 ·rw [rv_bit hA, rv_bit hB]
  by_cases c : 63 < j + 15 ∧ j ≤ 63
  ·rw [decide_eq_true c, Bool.true_and, Bool.true_and, h3 (63 - j) (by omega)]
  ·rw [decide_eq_false c]; rfl
end Go.Bl
namespace Go.Proofs.YtadbifpalpdocaaGreatDoor
open Go.Lw Go.Gl Go.Bl Go.RowKit Go.Sort
theorem lt_lex {s t : Nat} (hs : s < 32768) (ht : t < 32768) : ltOf cfS s t = true ↔ LexB s t := by
 have key : ltOf cfS s t = decide (rvN t < rvN s) := by
  unfold ltOf cfS
  rw [wrapM, wrapM, Nat.mod_eq_of_lt (by omega), Nat.mod_eq_of_lt (by omega), rv_nat (by omega), rv_nat (by omega)]
  unfold cpI
  rw [decide_eq_decide]
  split
  ·simp; omega
  ·split
   ·simp; omega
   ·simp; omega
 rw [key, decide_eq_true_eq]
 constructor
 ·intro h
  by_cases c : s = t
  ·subst c; omega
  ·rcases lex_tot c with h1 | h1
   ·exact h1
   ·have := lex_rv ht hs h1; omega
 ·exact lex_rv hs ht
theorem srt_lex {l : List Nat} (hl : ∀ x ∈ l, x < 32768) (hn : l.Nodup) (h : SrtL l) : l.Pairwise LexB := by
 rw [List.pairwise_iff_getElem]
 intro i j hi hj hij
 have h1 := h i j _ _ hij (List.getElem?_eq_getElem hi) (List.getElem?_eq_getElem hj)
 have hne : l[i] ≠ l[j] := fun e => by
  have := (List.nodup_iff_pairwise_ne.1 hn)
  rw [List.pairwise_iff_getElem] at this
  exact this i j hi hj hij e
 rcases lex_tot hne with h2 | h2
 ·exact h2
 ·rw [(lt_lex (hl _ (List.getElem_mem hj)) (hl _ (List.getElem_mem hi))).2 h2] at h1; cases h1
end Go.Proofs.YtadbifpalpdocaaGreatDoor
end
section
set_option linter.unusedVariables false
namespace Go.Bl
open Go.Gl Go.Lw
structure AlI (no : Nat) (left : List Int) (k few : Nat) (out : List Nat) : Prop where
 f15 : few ≤ 15
 nod : out.Nodup
 mem : ∀ x, x ∈ out ↔ x < k ∧ (mtB x no = false ∧ exB left x = true) ∧ cnt x = few
 low : ∀ x, x < k → (mtB x no = false ∧ exB left x = true) → few ≤ cnt x
 ne : few = 15 ∨ ∃ x, x ∈ out
structure InsI (L : List Nat) (i k : Nat) : Prop where
 ord : ∀ a b x y, a < b → b ≤ i → a ≠ k → b ≠ k → L[a]? = some x → L[b]? = some y → LexB x y
 les : ∀ b x y, k < b → b ≤ i → L[k]? = some x → L[b]? = some y → LexB x y
end Go.Bl
end
section
set_option linter.unusedVariables false
namespace Go.Proofs.YtadbifpalpdocaaGreatDoor
open Go.Lw Go.Gl Go.Bl Go.RowKit
theorem ls_no {ts : List Tq} (ht : ∀ t ∈ ts, kF t.p = true) : ∀ s ∈ lsL ts, mtB s (clA ts) = false := fun s hs => by
 rw [lsL_map] at hs
 obtain ⟨t, h1, rfl⟩ := List.mem_map.1 hs
 have h2 := cbN_lt (ht t (List.mem_filter.1 h1).1)
 have h3 : clA ts < 32768 := clN_lt ht _
 cases c : mtB (clrB (cbN t.p) (clA ts)) (clA ts) with
 | false => rfl
 | true =>
  obtain ⟨i, a, b⟩ := (ql _ _).1 c
  rw [clrB_bit _ _ _ (by omega) (by omega), b] at a
  simp at a
end Go.Proofs.YtadbifpalpdocaaGreatDoor
end
section
set_option linter.unusedVariables false
namespace Go.Proofs.YtadbifpalpdocaaGreatDoor
open Go.Lw Go.Gl Go.Bl Go.RowKit
structure AlS (ts : List Tq) (L : List Nat) : Prop where
 nod : L.Nodup
 ord : L.Pairwise LexB
 mem : ∀ x, x ∈ L ↔ Ex (clA ts) (lsL ts) x ∧ ∀ y, Ex (clA ts) (lsL ts) y → cnt x ≤ cnt y
theorem alS_uniq {ts : List Tq} {L M : List Nat} (h : AlS ts L) (k : AlS ts M) : L = M := lex_ext h.ord k.ord fun x => by rw [h.mem, k.mem]
theorem sms_als {ts : List Tq} {l : List Nat} (h : alE ts = 0) (hs : SmS (lsL ts) SrtL l) : AlS ts l := by
 obtain ⟨h0, _⟩ := alE_zero h
 obtain ⟨_, ht⟩ := trE_ok h0
 obtain ⟨_, hlt⟩ := sms_ne h hs
 exact ⟨hs.nod, srt_lex hlt hs.nod hs.srt, fun x => by rw [hs.mem, gs_min (ls_no ht)]⟩
theorem als_lt {ts : List Tq} {L : List Nat} (h : AlS ts L) : ∀ x ∈ L, x < 32768 := fun x hx => ((h.mem x).1 hx).1.1
theorem als_len {ts : List Tq} {L : List Nat} (h : AlS ts L) : L.length ≤ 32768 := pigeonN h.nod (als_lt h)
theorem fewestA (ts : List Tq) (h : alE ts = 0) (V : View) (v : Value) (hs : Sl V tqe 4 v ts) : Fnc Tryz.prog 21 [v] V fun r _ => ∃ L x, AlS ts L ∧ L[0]? = some x ∧ r = .tuple #[iv (cnt x), iv 0] :=
 (fewest_ok ts h V v hs).mono fun r V' _ ⟨l, x, h1, h2, h3⟩ => ⟨l, x, sms_als h h1, h2, h3⟩
theorem allA (ts : List Tq) (h : alE ts = 0) (V : View) (v : Value) (hs : Sl V tqe 4 v ts) : Fnc Tryz.prog 22 [v] V fun r V' => ∃ u L, r = .tuple #[u, iv 0] ∧ AlS ts L ∧ SL V' u (L.map fun s => zX s 15) :=
 (all_ok ts h V v hs).mono fun r V' _ ⟨u, l, h1, h2, h3⟩ => ⟨u, l, h1, sms_als h h2, h3⟩
theorem explainedA (ts : List Tq) (h : alE ts = 0) (V : View) (v : Value) (hs : Sl V tqe 4 v ts) : Fnc Tryz.prog 19 [v] V fun r V' => ∃ p u L, r = .tuple #[.pointer (some p), u, iv 0] ∧ BcV V' p ts ∧ Sl V' ste 1 u L ∧ AlS ts L :=
 (explained_ok ts h V v hs).mono fun r V' _ ⟨p, u, l, h1, h2, h3, h4⟩ => ⟨p, u, l, h1, h2, h3, sms_als h h4⟩
end Go.Proofs.YtadbifpalpdocaaGreatDoor
end
section
namespace Go.Gl
def PickOk (B : Bn) (row : Bool) (out : List Int) (b : Int) : Prop := b = qd out ∨ (0 ≤ b ∧ b < qd out ∧ (row = true → b = qd out - 1) ∧ fitE B (jr B (ofL (out ++ [b]) b)) = 0)
theorem plan_snoc2 {l : List Int} {x : Int} {row : Bool} (h : ky l row = true) (h0 : 0 ≤ x) (h1 : x ≤ qd l) (h2 : row = true → qd l - 1 ≤ x) : ky (l ++ [x]) row = true := planB_true fun k hk => by
 rw [List.length_append] at hk
 simp only [List.length_cons, List.length_nil] at hk
 by_cases c : k < l.length
 ·have := planB_at h c
  unfold plAt leastAt at this ⊢
  rw [decide_eq_true_eq] at this ⊢
  rw [getD_app c, List.take_append_of_le_length (by omega), getD_app (by omega)]
  exact this
 ·obtain rfl : k = l.length := by omega
  unfold plAt leastAt
  refine decide_eq_true ?_
  rw [getD_last, List.take_left]
  refine ⟨?_, h1⟩
  split
  ·rename_i hc
   rw [getD_app (by omega)]
   have := batN_gt (getD_mem (l := l) (i := l.length - 1) (by omega))
   have := h2 hc.1
   omega
  ·exact h0
theorem given_step {B : Bn} (hB : BnOk B) (hf : FineB B) {row : Bool} {out : List Int} {b : Int} (hl : out.length < B.each.length) (hp : ky out row = true) (hg : Good B out) (hb : PickOk B row out b) : ky (out ++ [b]) row = true ∧ Good B (out ++ [b]) := by
 have h0 := batN_pos out
 have hfit : fitE B (jr B (ofL (out ++ [b]) b)) = 0 := by
  rcases hb with rfl | ⟨_, _, _, h⟩
  ·rw [sum_last, sm_none B (fun i hi => decide_eq_false fun e => by have := batN_gt (getD_mem hi); omega), and0]
   exact hf _ hl
  ·exact h
 refine ⟨plan_snoc2 hp ?_ ?_ ?_, good_snoc hg hfit⟩
 ·rcases hb with rfl | ⟨h, _⟩ <;> omega
 ·rcases hb with rfl | ⟨_, h, _⟩ <;> omega
 ·intro hr
  rcases hb with rfl | ⟨_, _, h, _⟩
  ·omega
  ·rw [h hr]; omega
end Go.Gl
end
section
namespace Go.Lw
section
variable {cx : Cx} {n : Nat} {ks : List (Nat × Value)} {O R O1 : List Own} {V V1 : View} {P : Program} {ops : Array Oper} {Qn : Act → World → Prop} {t : Tr}
theorem AtC.giveSl {α : Type} {enc : α → List Value} {v : Value} {e : TypeId} {s m : Nat} {xs : List Value} {l : List α} (he : ∀ x, (enc x).length = s) (hx : xs = flat enc l) (hm : m = l.length) (hp : zJ (.row v e s m xs) O R)
  (h : ∀ V', Le V V' → Sl V' enc s v l → AtC cx n ks R V' O1 V1 P ops Qn t) : AtC cx n ks O V O1 V1 P ops Qn t := fun h0 a w hk hw => by
 obtain ⟨V', a', cap, h1, h2, h3, h4, h5, h6, h7, h8⟩ := (hw.pick hp).giveRow
 subst hx; subst hm; subst h3
 refine h V' h1 ?_ h0 a w hk h2
 cases a' with
 | none =>
  have hl : l = [] := by cases l with | nil => rfl | cons _ _ => exact absurd (h7 (by simp)) (by simp)
  subst hl
  exact ⟨none, cap, rfl, h4, h5, fun h => absurd rfl h, fun _ h => by cases h⟩
 | some q => exact Sl.of_cells he (h8 q rfl) h4 h5
end
theorem Lent.entry {V V1 V2 : View} {ao : Option Addr} {co : Nat} {e : TypeId} {s m : Nat} {xs : List Value} (hl : Le V V1) (h : Lent V1 V2 ao co e s m xs) : Lent V V2 ao co e s m xs := by
 rcases h with h | ⟨b, rest, h1, h2, h3, h4, h5, h6, h7⟩
 ·exact .inl h
 ·exact .inr ⟨b, rest, h1, h2, h3, h4, h5, none_of hl h6, h7⟩
end Go.Lw
end
section
namespace Go.Bl
open Go.Gl Go.Lw
def tN (L : List Nat) (i : Nat) : Nat := (L.filter fun x => x.testBit i).length
def tlL (L : List Nat) : List Int := (List.range 15).map fun i => (tN L i : Int)
theorem tlL_len (L : List Nat) : (tlL L).length = 15 := by simp [tlL]
theorem tlL_at {L : List Nat} {i : Nat} (h : i < 15) : (tlL L)[i]? = some (tN L i : Int) := by simp [tlL, h]
theorem tN_le (L : List Nat) (i : Nat) : tN L i ≤ L.length := List.length_filter_le _ _
theorem tN_take {L : List Nat} {k x : Nat} (h : L[k]? = some x) (i : Nat) : tN (L.take (k + 1)) i = tN (L.take k) i + (if x.testBit i = true then 1 else 0) := by
 unfold tN
 rw [take_snoc' h, List.filter_append, List.length_append]
 cases c : x.testBit i <;> simp [c]
theorem tN_zero {L : List Nat} {i : Nat} : tN L i = 0 ↔ ∀ x ∈ L, x.testBit i = false := by
 unfold tN
 rw [List.length_eq_zero_iff, List.filter_eq_nil_iff]
 simp
theorem tN_all {L : List Nat} {i : Nat} : tN L i = L.length ↔ ∀ x ∈ L, x.testBit i = true := by
 unfold tN; rw [List.length_filter_eq_length_iff]
def flN (L : List Nat) (p : Pq) : Nat := (L.filter fun x => mtB (cbN p) x).length
theorem flN_le (L : List Nat) (p : Pq) : flN L p ≤ L.length := List.length_filter_le _ _
theorem flN_take {L : List Nat} {p : Pq} {k x : Nat} (h : L[k]? = some x) : flN (L.take (k + 1)) p = flN (L.take k) p + (if mtB (cbN p) x = true then 1 else 0) := by
 unfold flN
 rw [take_snoc' h, List.filter_append, List.length_append]
 cases c : mtB (cbN p) x <;> simp [c]
theorem fl_none {L : List Nat} {p : Pq} (hp : kF p = true) (h : tlL L = List.replicate 15 0) : flN L p = 0 := by
 unfold flN
 rw [List.length_eq_zero_iff, List.filter_eq_nil_iff]
 intro x hx hm
 obtain ⟨i, h1, h2⟩ := (ql _ _).1 hm
 have hi := lt15_bit (cbN_lt hp) h1
 have e := tlL_at (L := L) hi
 rw [h, List.getElem?_replicate, if_pos hi] at e
 have e0 : tN L i = 0 := by simp only [Option.some.injEq] at e; omega
 rw [tN_zero.1 e0 x hx] at h2; cases h2
structure TlI (L : List Nat) (k x j : Nat) (g : List Int) : Prop where
 len : g.length = 15
 at_ : ∀ i : Nat, i < 15 → g[i]? = some ((tN (L.take k) i : Int) + (if (i : Int) ∈ (zX x 15).take j then 1 else 0))
theorem tlI_start {L : List Nat} {k x : Nat} : TlI L k x 0 (tlL (L.take k)) := ⟨tlL_len _, fun i hi => by rw [tlL_at hi]; simp⟩
theorem tlI_end {L : List Nat} {k x : Nat} {g : List Int} (hx : L[k]? = some x) (h : TlI L k x (zX x 15).length g) : g = tlL (L.take (k + 1)) := by
 apply List.ext_getElem?
 intro i
 by_cases hi : i < 15
 ·rw [h.at_ i hi, tlL_at hi, tN_take hx, List.take_length]
  have hb : (i : Int) ∈ zX x 15 ↔ x.testBit i = true := by
   rw [jQ]; constructor
   ·rintro ⟨m, h1, h2, h3⟩; obtain rfl : i = m := by omega
    exact h3
   ·intro h; exact ⟨i, hi, rfl, h⟩
  by_cases c : x.testBit i = true
  ·rw [if_pos (hb.2 c), if_pos c]; push_cast; rfl
  ·rw [if_neg (fun h => c (hb.1 h)), if_neg c]; simp
 ·rw [List.getElem?_eq_none (by rw [h.len]; omega), List.getElem?_eq_none (by rw [tlL_len]; omega)]
theorem tlI_step {L : List Nat} {k x j i : Nat} {g : List Int} {y : Int} (h : TlI L k x j g) (hj : (zX x 15)[j]? = some (i : Int)) (hi : i < 15) (hy : g[i]? = some y) : TlI L k x (j + 1) (g.set i (y + 1)) := by
 refine ⟨by rw [List.length_set, h.len], fun m hm => ?_⟩
 have hni : (i : Int) ∉ (zX x 15).take j := fun hc => by
  obtain ⟨n, hn⟩ := List.mem_iff_getElem?.1 hc
  have hnj : n < j := by have := (List.getElem?_eq_some_iff.1 hn).1; rw [List.length_take] at this; omega
  rw [List.getElem?_take, if_pos hnj] at hn
  have hp := bitL_lt x 15
  rw [List.pairwise_iff_getElem] at hp
  obtain ⟨p1, e1⟩ := List.getElem?_eq_some_iff.1 hn
  obtain ⟨p2, e2⟩ := List.getElem?_eq_some_iff.1 hj
  have := hp n j p1 p2 hnj
  omega
 rw [take_snoc' hj, List.getElem?_set]
 by_cases e : i = m
 ·subst e
  rw [if_pos rfl, if_pos (by rw [h.len]; exact hi)]
  have := h.at_ i hi
  rw [hy, if_neg hni] at this
  simp only [Option.some.injEq] at this
  rw [if_pos (by simp), this]; simp
 ·rw [if_neg e, h.at_ m hm]
  have : ((m : Int) ∈ (zX x 15).take j ++ [(i : Int)]) ↔ (m : Int) ∈ (zX x 15).take j := by
   rw [List.mem_append, List.mem_singleton]
   constructor
   ·rintro (h | h)
    ·exact h
    ·omega
   ·exact .inl
  simp only [this]
theorem tlI_bd {L : List Nat} {k x j : Nat} {g : List Int} (h : TlI L k x j g) {i : Nat} {y : Int} (hy : g[i]? = some y) : 0 ≤ y ∧ y ≤ (L.length : Int) + 1 := by
 have hi : i < 15 := by have := (List.getElem?_eq_some_iff.1 hy).1; rw [h.len] at this; exact this
 have := h.at_ i hi
 rw [hy] at this
 simp only [Option.some.injEq] at this
 have hle := tN_le (L.take k) i
 rw [List.length_take] at hle
 rw [this]; split <;> omega
end Go.Bl
end
section
set_option linter.unusedVariables false
namespace Go.Proofs.YtadbifpalpdocaaGreatDoor
open Go.Lw Go.Gl Go.Bl Go.RowKit
theorem arr_at {l : List Int} {i : Nat} {x : Int} (h : l[i]? = some x) : (flat ei l)[i]? = some (iv x) := by rw [flat_ei, List.getElem?_map, h]; rfl
theorem plain3 : Tryz.prog.plainKey 3 = true := by kernel_rfl
theorem cells3 : Tryz.prog.cellsOf 3 = 1 := by kernel_rfl
theorem eqItems3 (w : World) (l m : List Int) : ∀ is : List Nat, (∀ i ∈ is, i < l.length ∧ i < m.length) → (Op.eqItems 9999 3 1 (flat ei l).toArray (flat ei m).toArray is).run Tryz.prog w = .ok (is.all fun i => decide (l.getD i 0 = m.getD i 0)) w
 | [], _ => by simp [Op.eqItems]
 | i :: is, h => by
  obtain ⟨h1, h2⟩ := h i (by simp)
  obtain ⟨x, hx⟩ : ∃ x, l[i]? = some x := ⟨_, List.getElem?_eq_getElem h1⟩
  obtain ⟨y, hy⟩ : ∃ y, m[i]? = some y := ⟨_, List.getElem?_eq_getElem h2⟩
  have ih := eqItems3 w l m is fun j hj => h j (by simp [hj])
  have p1 : (part 3 (flat ei l).toArray (i * 1)).run Tryz.prog w = .ok (iv x) w := run_part_plain w plain3 (by rw [Nat.mul_one]; simpa using arr_at hx)
  have p2 : (part 3 (flat ei m).toArray (i * 1)).run Tryz.prog w = .ok (iv y) w := run_part_plain w plain3 (by rw [Nat.mul_one]; simpa using arr_at hy)
  have e1 : l.getD i 0 = x := by simp [List.getD, hx]
  have e2 : m.getD i 0 = y := by simp [List.getD, hy]
  have p3 : (Op.equalIn 9999 3 (iv x) (iv y)).run Tryz.prog w = .ok (x == y) w := run_equalIn_int w 9998 3 .i64 .i64 x y Tryz.underlying3
  simp only [Op.eqItems, Sem.run_bind, p1, p2, p3, Result.andThen_ok, List.all_cons, e1, e2]
  by_cases c : x = y
  ·subst c
   simp [ih]
  ·simp [c]
theorem eqS90 (l m : List Int) (h1 : l.length = 15) (h2 : m.length = 15) : EqS Tryz.prog 90 (flat ei l) (flat ei m) (decide (l = m)) := by
 refine ⟨by first | exact Tryz.eqGuardType90 | kernel_rfl, fun w => ?_⟩
 obtain ⟨i3, hi3, _⟩ : ∃ i, Tryz.prog.info? 3 = some i ∧ True := by
  obtain ⟨i, hi, _⟩ := kw rw3
  exact ⟨i, hi, trivial⟩
 have hb : ((List.range 15).all fun i => decide (l.getD i 0 = m.getD i 0)) = decide (l = m) := by
  rw [Bool.eq_iff_iff, List.all_eq_true, decide_eq_true_eq]
  constructor
  ·intro h
   apply List.ext_getElem?
   intro i
   by_cases hi : i < 15
   ·have := of_decide_eq_true (h i (List.mem_range.2 hi))
    obtain ⟨x, hx⟩ : ∃ x, l[i]? = some x := ⟨_, List.getElem?_eq_getElem (by omega)⟩
    obtain ⟨y, hy⟩ : ∃ y, m[i]? = some y := ⟨_, List.getElem?_eq_getElem (by omega)⟩
    simp only [List.getD, hx, hy, Option.getD_some] at this
    rw [hx, hy, this]
   ·rw [List.getElem?_eq_none (by omega), List.getElem?_eq_none (by omega)]
  ·rintro rfl i _; simp
 rw [show (10000 : Nat) = 9999 + 1 from rfl, run_equalIn_array w 9999 _ _ Tryz.underlying90 hi3, cells3, eqItems3 w l m _ (fun i hi => by rw [List.mem_range] at hi; omega), hb]
theorem slice101 (b : Nat) (w : World) : (Instr.sliceAt 90 (.pointer (some ⟨b, 0, none⟩)) none none none).run Tryz.prog w = .ok (.slice (some ⟨b, 0, none⟩) 15 15) w := by kernel_rfl
theorem tally_f (L : List Nat) (hlt : ∀ x ∈ L, x < 32768) (hlen : L.length ≤ 32768) (V : View) (v : Value) (hs : Sl V ste 1 v L) : Fnc Tryz.prog 50 [v] V fun r _ => r = .agg (flat ei (tlL L)).toArray := by
 obtain ⟨al, cl, rfl, hx1, hx2, _⟩ := id hs
 clear hx1 hx2
 refine zT Tryz.func50 rfl Tryz.ntmps50 (Nat.le_of_ble_eq_true rfl) ?_
 intro w0 hw0
 refine At.nrm ?_
 refine At.zg (.n false 0 .done) ?_
 refine AtT.qD z90 ?_
 intro b2
 refine AtT.done ?_
 refine At.nrm ?_
 refine At.zg (.n false 0 .done) ?_
 refine AtT.qD z90 ?_
 intro b3
 refine AtT.done ?_
 refine At.nrm ?_
 refine At.zg (.q 0 (.n true 1 .done)) ?_
 refine AtT.slV rfl trivial rfl (slice101 b3) (by decide) ?_
 refine AtT.clearO rfl trivial Tryz.underlying31 z3 rfl (by kernel_rfl) rfl rfl (by repeat first|exact Upd.here|apply Upd.there) ?_ (us := flat ei (tlL (L.take 0)))
 refine AtT.done ?_
 refine At.nrm ?_
 refine At.zg (.q 0 (.q 1 (.q 2 .done))) ?_
 refine AtT.ze ?_
 first | refine AtT.zP Tryz.underlying51 ?_ | refine AtT.zQ Tryz.underlying51 ?_
 refine AtT.ze ?_
 refine AtT.done ?_
 refine At.nrm ?_
 refine At.lp (ι := Nat) (KS := fun k => [(2, .pointer (some ⟨b2, 0, none⟩)), (3, .pointer (some ⟨b3, 0, none⟩)), (9, .slice al L.length cl), (10, iv L.length), (11, iv k)])
  (OS := fun k => [.blk b2 (LC (flat ei (List.replicate 15 0)) 90), .blk b3 (LC (flat ei (tlL (L.take k))) 90)])
  (VS := fun k V' => Le V V' ∧ k ≤ L.length) (μ := fun k => L.length - k) 0 ?_ ?_ ?_ ?_
 ·exact ⟨rfl, rfl, rfl, rfl, rfl, trivial⟩
 ·exact Pt.zy
 ·exact ⟨Le.refl _, Nat.zero_le _⟩
 rintro k V' ks' O' ⟨hVV, hkl⟩ hk hO hl2
 subst hk hO
 have hsv := hs.le hVV
 refine At.nrm ?_
 refine At.zg (.q 0 .done) ?_
 refine AtT.qW ?_
 refine AtT.done ?_
 refine At.nrm ?_
 refine At.zW rfl (fun hp => ?_) (fun hp => ?_)
 rotate_left
 ·obtain rfl : k = L.length := by omega
  rw [List.take_length]
  have hfl : (flat ei (tlL L)).length = 15 := by rw [qm Lw.ei_len, tlL_len]
  have hall : (flat ei (tlL L)).all Value.oneCell' = true := by rw [flat_ei, List.all_map, List.all_eq_true]; intro x _; rfl
  refine At.nrm ?_
  refine At.zg (.q 0 (.n true 1 .done)) ?_
  refine AtT.loadOA rfl trivial rfl tk90 zJ.zy hfl (by decide) ?_
  refine AtT.storeA rfl trivial rfl rfl tk90 hfl rfl hall (by repeat first|exact Upd.here|apply Upd.there) ?_
  refine AtT.done ?_
  refine At.nrm ?_
  exact At.zV rfl (.agg rfl tk90 zJ.zy hfl) rfl
 obtain ⟨x, hx⟩ : ∃ x, L[k]? = some x := ⟨_, List.getElem?_eq_getElem (by omega)⟩
 have hxb := hlt x (List.mem_of_getElem? hx)
 have hbl := cntK_le x 15
 unfold cntK at hbl
 refine At.nrm ?_
 refine At.cutG (ι := Nat) (fun b5 => [(2, .pointer (some ⟨b2, 0, none⟩)), (3, .pointer (some ⟨b3, 0, none⟩)), (9, .slice al L.length cl), (10, iv L.length), (11, iv k), (5, .pointer (some ⟨b5, 0, none⟩))]) (fun b5 => [.blk b5 (LC (ste x) 83), .blk b2 (LC (flat ei (List.replicate 15 0)) 90), .blk b3 (LC (flat ei (tlL (L.take k))) 90)]) (fun _ V'' => V'' = V') ?_ ?_
 ·refine At.zg (.q 0 (.q 1 (.n false 2 (.n true 3 .done)))) ?_
  refine AtT.qK Tryz.underlying51 zO ?_
  intro p13 e13 he13 hc13
  obtain rfl : x = e13 := by have : L[k]? = some e13 := (by simpa using he13); rw [hx] at this; simpa using this
  first | refine AtT.zx zO ?_ | refine AtT.zD zO ?_ | refine AtT.zw zO ?_
  refine AtT.qD z83 ?_
  intro b5
  refine AtT.zY zO ?_
  refine AtT.done ?_
  refine At.nrm ?_
  all_goals (exact At.meetG b5 rfl ⟨rfl, rfl, rfl, rfl, rfl, rfl, trivial⟩ Pt.zy)
 rintro b5 V4 ks' O' rfl hk hO hl4
 subst hk hO
 refine At.nrm ?_
 refine At.zg (.q 0 (.n false 1 (.q 2 (.q 3 .done)))) ?_
 first | refine AtT.zx zO ?_ | refine AtT.zD zO ?_ | refine AtT.zw zO ?_
 refine AtT.kcall rfl rfl ok53 (list_f x (by omega) _) ?_
 rintro v16 V16 hV16 hs16; obtain ⟨a16, c16, rfl, _⟩ := id hs16
 first | refine AtT.zP Tryz.underlying31 ?_ | refine AtT.zQ Tryz.underlying31 ?_
 refine AtT.ze ?_
 refine AtT.done ?_
 refine At.nrm ?_
 refine At.lp (ι := Nat × List Int) (KS := fun g => [(2, .pointer (some ⟨b2, 0, none⟩)), (3, .pointer (some ⟨b3, 0, none⟩)), (9, .slice al L.length cl), (10, iv L.length), (11, iv k), (16, .slice a16 (zX x 15).length c16), (17, iv (zX x 15).length), (18, iv g.1)])
  (OS := fun g => [.blk b2 (LC (flat ei (List.replicate 15 0)) 90), .blk b3 (LC (flat ei g.2) 90)])
  (VS := fun g V'' => Le V16 V'' ∧ g.1 ≤ (zX x 15).length ∧ TlI L k x g.1 g.2) (μ := fun g => (zX x 15).length - g.1) (0, tlL (L.take k)) ?_ ?_ ?_ ?_
 ·exact ⟨rfl, rfl, rfl, rfl, rfl, rfl, rfl, rfl, trivial⟩
 ·exact Pt.zy
 ·exact ⟨Le.refl _, Nat.zero_le _, tlI_start⟩
 rintro ⟨j, g⟩ V5 ks' O' ⟨hV5, hjl, hti⟩ hk hO hl5
 dsimp only at hjl hti hk hO
 subst hk hO
 have hs5 := hs16.le hV5
 refine At.nrm ?_
 refine At.zg (.q 0 .done) ?_
 refine AtT.qW ?_
 refine AtT.done ?_
 refine At.nrm ?_
 refine At.zW rfl (fun hp3 => ?_) (fun hp3 => ?_)
 rotate_left
 ·obtain rfl : j = (zX x 15).length := by omega
  have hge := tlI_end hx hti
  subst hge
  refine At.nrm ?_
  refine At.zg (.q 0 (.q 1 .done)) ?_
  first | refine AtT.qo ?_ | refine AtT.zS ?_
  refine AtT.ze ?_
  refine AtT.done ?_
  refine At.nrm ?_
  refine At.round (k + 1) ?_ ?_ ?_ ?_
  ·show L.length - (k + 1) < L.length - k; omega
  ·exact ⟨(hVV.trans hV16).trans hV5, by omega⟩
  ·exact ⟨rfl, rfl, rfl, rfl, ivs (by omega), trivial⟩
  ·exact Pt.zy
 obtain ⟨z, hz⟩ : ∃ z, (zX x 15)[j]? = some z := ⟨_, List.getElem?_eq_getElem (by omega)⟩
 obtain ⟨i, hi15, rfl, hib⟩ := jQ.1 (List.mem_of_getElem? hz)
 have hgl := hti.len
 obtain ⟨y, hy⟩ : ∃ y, g[i]? = some y := ⟨_, List.getElem?_eq_getElem (by omega)⟩
 have hyb := tlI_bd hti hy
 have hoff : 0 + (i : Int).toNat * 1 = i := by simp
 have hat : (flat ei g)[0 + (i : Int).toNat * 1]? = some (iv y) := by rw [hoff]; exact arr_at hy
 have hgf : (flat ei g).length = 15 := by rw [qm Lw.ei_len, hgl]
 have hset : (flat ei g).set (0 + (i : Int).toNat * 1) (iv (y + 1)) = flat ei (g.set i (y + 1)) := by
  rw [hoff, flat_ei, flat_ei, List.map_set]
 refine At.nrm ?_
 refine At.zg (.q 0 (.q 1 (.q 2 .done))) ?_
 refine AtT.qK Tryz.underlying31 tk3 ?_
 intro p20 e20 he20 hc20
 obtain rfl : (i : Int) = e20 := by have : (zX x 15)[j]? = some e20 := (by simpa using he20); rw [hz] at this; simpa using this
 first | refine AtT.zu tk3 ?_ | refine AtT.zF tk3 ?_
 refine AtT.zf ?_
 refine AtT.done ?_
 refine At.nrm ?_
 refine At.zg (.q 0 (.q 1 (.q 2 (.q 3 (.q 4 (.n true 5 .done)))))) ?_
 refine AtT.ze ?_
 refine AtT.kidxA Tryz.underlying90 tk3 ?_
 refine AtT.loadO rfl trivial rfl tk3 zJ.zy hat (by decide) ?_
 first | refine AtT.qo ?_ | refine AtT.zS ?_
 refine AtT.kidxA Tryz.underlying90 tk3 ?_
 refine AtT.store1 rfl trivial rfl rfl tk3 rfl rfl (by repeat first|exact Upd.here|apply Upd.there) (setAt_of (by rw [hoff, hgf]; exact hi15) hset) ?_
 refine AtT.done ?_
 refine At.nrm ?_
 refine At.zg (.q 0 (.q 1 .done)) ?_
 first | refine AtT.qo ?_ | refine AtT.zS ?_
 refine AtT.ze ?_
 refine AtT.done ?_
 refine At.nrm ?_
 refine At.round (j + 1, g.set i (y + 1)) ?_ ?_ ?_ ?_
 ·show (zX x 15).length - (j + 1) < (zX x 15).length - j; omega
 ·exact ⟨hV5, by dsimp only; omega, tlI_step hti hz hi15 hy⟩
 ·exact ⟨rfl, rfl, rfl, rfl, rfl, rfl, rfl, ivs (by dsimp only; omega), trivial⟩
 ·exact Pt.zy
end Go.Proofs.YtadbifpalpdocaaGreatDoor
end
section
set_option linter.unusedVariables false
namespace Go.Proofs.YtadbifpalpdocaaGreatDoor
open Go.Lw Go.Gl Go.Bl Go.RowKit
theorem fails_f (L : List Nat) (hlt : ∀ x ∈ L, x < 32768) (hlen : L.length ≤ 32768) (p : Pq) (hp : kF p = true) (V : View) (v : Value) (hs : Sl V ste 1 v L) : Fnc Tryz.prog 20 [v, pqv p] V fun r _ => r = iv (flN L p) := by
 obtain ⟨al, cl, rfl, hx1, hx2, _⟩ := id hs
 clear hx1 hx2
 have hcb := cbN_lt hp
 refine zT Tryz.func20 rfl Tryz.ntmps20 (Nat.le_of_ble_eq_true rfl) ?_
 intro w0 hw0
 refine At.nrm ?_
 refine At.zg (.n false 0 (.q 1 .done)) ?_
 refine AtT.kbox ?_
 intro b3
 refine AtT.zf ?_
 refine AtT.done ?_
 refine At.nrm ?_
 refine At.zg (.q 0 .done) ?_
 refine AtT.zf ?_
 refine AtT.done ?_
 refine At.nrm ?_
 by_cases hz : tlL L = List.replicate 15 0
 ·refine At.zg (.q 0 (.n false 1 (.q 2 (.q 3 .done)))) ?_
  refine AtT.ze ?_
  refine AtT.zC rfl rfl ok50 (tally_f L hlt hlen _ _ hs) ?_
  rintro _ rfl
  refine AtT.jK (bd90) ?_
  refine AtT.keqS (eqS90 (tlL L) (List.replicate 15 0) (tlL_len L) rfl) ?_
  refine AtT.done ?_
  refine At.nrm ?_
  refine At.qQ rfl (decide_eq_true hz) ?_
  refine At.nrm ?_
  refine At.zg (.q 0 (.q 1 .done)) ?_
  refine AtT.ze ?_
  refine AtT.zf ?_
  refine AtT.done ?_
  refine At.nrm ?_
  exact At.zV rfl (.tmp rfl) (by rw [fl_none hp hz]; rfl)
 refine At.zg (.q 0 (.n false 1 (.q 2 (.q 3 .done)))) ?_
 refine AtT.ze ?_
 refine AtT.zC rfl rfl ok50 (tally_f L hlt hlen _ _ hs) ?_
 rintro _ rfl
 refine AtT.jK (bd90) ?_
 refine AtT.keqS (eqS90 (tlL L) (List.replicate 15 0) (tlL_len L) rfl) ?_
 refine AtT.done ?_
 refine At.nrm ?_
 refine At.qB rfl (decide_eq_false hz) ?_
 refine At.nrm ?_
 refine At.zg (.q 0 (.n false 1 (.q 2 (.q 3 .done)))) ?_
 first | refine AtT.zx tk36 ?_ | refine AtT.zD tk36 ?_ | refine AtT.zw tk36 ?_
 refine AtT.zC rfl rfl ok51 (causes_f p hp _) ?_
 rintro _ rfl
 refine AtT.kfn ?_
 refine AtT.zf ?_
 refine AtT.done ?_
 refine At.nrm ?_
 refine At.zg (.q 0 (.q 1 (.q 2 .done))) ?_
 refine AtT.ze ?_
 first | refine AtT.zP Tryz.underlying51 ?_ | refine AtT.zQ Tryz.underlying51 ?_
 refine AtT.ze ?_
 refine AtT.done ?_
 refine At.nrm ?_
 refine At.lp (ι := Nat) (KS := fun k => [(5, iv (flN (L.take k) p)), (6, .func (.func 52) #[stv (cbN p)] #[]), (17, .slice al L.length cl), (18, iv L.length), (19, iv k)])
  (OS := fun k => [])
  (VS := fun k V' => V' = V ∧ k ≤ L.length) (μ := fun k => L.length - k) 0 ?_ ?_ ?_ ?_
 ·exact ⟨rfl, rfl, rfl, rfl, rfl, trivial⟩
 ·exact Pt.zy
 ·exact ⟨rfl, Nat.zero_le _⟩
 rintro k V' ks' O' ⟨rfl, hkl⟩ hk hO hl2
 subst hk hO
 refine At.nrm ?_
 refine At.zg (.q 0 .done) ?_
 refine AtT.qW ?_
 refine AtT.done ?_
 refine At.nrm ?_
 refine At.zW rfl (fun hp2 => ?_) (fun hp2 => ?_)
 rotate_left
 ·obtain rfl : k = L.length := by omega
  rw [List.take_length]
  refine At.nrm ?_
  refine At.zg (.q 0 (.q 1 .done)) ?_
  refine AtT.ze ?_
  refine AtT.zf ?_
  refine AtT.done ?_
  refine At.nrm ?_
  exact At.zV rfl (.tmp rfl) rfl
 obtain ⟨x, hx⟩ : ∃ x, L[k]? = some x := ⟨_, List.getElem?_eq_getElem (by omega)⟩
 have hxb := hlt x (List.mem_of_getElem? hx)
 have hst := flN_take (p := p) hx
 have hfl := flN_le (L.take k) p
 rw [List.length_take] at hfl
 have hmeet : Fnc Tryz.prog 52 ([stv (cbN p)] ++ [stv x] ++ []) V' fun r _ => r = .bool (mtB (cbN p) x) := meets_f (cbN p) x (by omega) (by omega) V'
 refine At.nrmB ?_
 refine At.cutG (ι := Unit) (fun _ => [(5, iv (flN (L.take (k + 1)) p)), (6, .func (.func 52) #[stv (cbN p)] #[]), (17, .slice al L.length cl), (18, iv L.length), (19, iv k)]) (fun _ => []) (fun _ V'' => V'' = V') ?_ ?_
 ·refine At.nrm ?_
  refine At.zg (.q 0 (.q 1 (.n false 2 (.n true 3 .done)))) ?_
  refine AtT.qK Tryz.underlying51 zO ?_
  intro p21 e21 he21 hc21
  obtain rfl : x = e21 := by have : L[k]? = some e21 := (by simpa using he21); rw [hx] at this; simpa using this
  first | refine AtT.zx zO ?_ | refine AtT.zD zO ?_ | refine AtT.zw zO ?_
  refine AtT.qD z83 ?_
  intro b8
  refine AtT.zY zO ?_
  refine AtT.done ?_
  refine At.nrm ?_
  refine At.zg (.q 0 (.q 1 (.n false 2 .done))) ?_
  refine AtT.ze ?_
  first | refine AtT.zx zO ?_ | refine AtT.zD zO ?_ | refine AtT.zw zO ?_
  refine AtT.kcallV rfl rfl rfl ok52 (hmeet) ?_
  rintro _ rfl
  refine AtT.done ?_
  refine At.nrm ?_
  cases hm : mtB (cbN p) x with
  | true =>
   rw [hm, if_pos rfl] at hst
   refine At.qQ rfl rfl ?_
   refine At.nrm ?_
   refine At.zg (.q 0 (.q 1 (.q 2 .done))) ?_
   refine AtT.ze ?_
   first | refine AtT.qo ?_ | refine AtT.zS ?_
   refine AtT.zf ?_
   refine AtT.done ?_
   refine At.nrm ?_
   refine At.meetG () rfl ⟨?_, rfl, rfl, rfl, rfl, trivial⟩ Pt.zy
   exact ivs (by omega)
  | false =>
   rw [hm, if_neg (by decide)] at hst
   refine At.qB rfl rfl ?_
   refine At.nrm ?_
   refine At.meetG () rfl ⟨?_, rfl, rfl, rfl, rfl, trivial⟩ Pt.zy
   exact ivs (by omega)
 rintro _ V3 ks' O' rfl hk hO hl3
 subst hk hO
 refine At.nrm ?_
 refine At.zg (.q 0 (.q 1 .done)) ?_
 first | refine AtT.qo ?_ | refine AtT.zS ?_
 refine AtT.ze ?_
 refine AtT.done ?_
 refine At.nrm ?_
 refine At.round (k + 1) ?_ ?_ ?_ ?_
 ·show L.length - (k + 1) < L.length - k; omega
 ·exact ⟨rfl, by omega⟩
 ·exact ⟨rfl, rfl, rfl, rfl, ivs (by omega), trivial⟩
 ·exact Pt.zy
theorem failsF_ok (ts : List Tq) (h2 : alE ts = 0) (p : Pq) (hp : kF p = true) (V : View) (v : Value) (hs : Sl V tqe 4 v ts) : Fnc Tryz.prog 9 [v, pqv p] V fun r _ => ∃ L, AlS ts L ∧ r = .tuple #[iv (flN L p), iv 0] := by
 have h := (alE_zero h2).1
 refine zT Tryz.func9 rfl Tryz.ntmps9 (Nat.le_of_ble_eq_true rfl) ?_
 intro w0 hw0
 refine At.nrm ?_
 refine At.zg (.n false 0 (.q 1 (.q 2 .done))) ?_
 refine AtT.kbox ?_
 intro b3
 refine AtT.zf ?_
 refine AtT.zf ?_
 refine AtT.done ?_
 refine At.nrm ?_
 refine At.zg (.q 0 (.n false 1 (.q 2 .done))) ?_
 refine AtT.ze ?_
 refine AtT.zC rfl rfl ok17 (trials_f ts _ _ hs) ?_
 rintro _ rfl; rw [h]
 refine AtT.zf ?_
 refine AtT.done ?_
 refine At.nrm ?_
 refine At.zg (.q 0 (.q 1 .done)) ?_
 refine AtT.ze ?_
 refine AtT.kneI ?_
 refine AtT.done ?_
 refine At.nrm ?_
 refine At.qB rfl (decide_eq_false (by simp)) ?_
 refine At.nrm ?_
 refine At.zg (.q 0 (.n false 1 (.q 2 .done))) ?_
 first | refine AtT.zx tk36 ?_ | refine AtT.zD tk36 ?_ | refine AtT.zw tk36 ?_
 refine AtT.zC rfl rfl ok18 (sound_f p _) ?_
 rintro _ rfl; rw [hp]
 refine AtT.knot ?_
 refine AtT.done ?_
 refine At.nrm ?_
 refine At.qB rfl rfl ?_
 refine At.nrm ?_
 refine At.zg (.q 0 (.n false 1 (.q 2 (.q 3 (.q 4 (.q 5 (.q 6 (.q 7 (.q 8 .done))))))))) ?_
 refine AtT.ze ?_
 refine AtT.kcall rfl rfl ok19 (explainedA ts h2 _ _ hs) ?_
 rintro _ V20 hV20 ⟨q, u, L, rfl, hbc, hsl, hal⟩
 refine AtT.ze ?_
 refine AtT.zG ?_
 refine AtT.zG ?_
 refine AtT.zG ?_
 refine AtT.zf ?_
 refine AtT.zf ?_
 refine AtT.zf ?_
 refine AtT.done ?_
 refine At.nrm ?_
 refine At.zg (.q 0 (.q 1 .done)) ?_
 refine AtT.ze ?_
 refine AtT.kneI ?_
 refine AtT.done ?_
 refine At.nrm ?_
 refine At.qB rfl (decide_eq_false (by simp)) ?_
 refine At.nrm ?_
 refine At.zg (.q 0 (.q 1 (.n false 2 (.q 3 (.q 4 .done))))) ?_
 refine AtT.ze ?_
 first | refine AtT.zx tk36 ?_ | refine AtT.zD tk36 ?_ | refine AtT.zw tk36 ?_
 refine AtT.zC rfl rfl ok20 (fails_f L (als_lt hal) (als_len hal) p hp _ _ hsl) ?_
 rintro _ rfl
 refine AtT.zf ?_
 refine AtT.zf ?_
 refine AtT.done ?_
 refine At.nrm ?_
 exact At.ret2 rfl (.tmp rfl) (.tmp rfl) ⟨L, hal, rfl⟩
def bmN (L : List Nat) (c : Nat) : Int := if tN L c = 0 then 0 else if tN L c = L.length then 2 else 1
theorem index101 (l : List Int) (hl : l.length = 15) (c : Nat) (x : Int) (h : l[c]? = some x) (w : World) : (Instr.index 90 (.agg (flat ei l).toArray) (iv c)).run Tryz.prog w = .ok (iv x) w := by
 have hc : c < 15 := by have := (List.getElem?_eq_some_iff.1 h).1; omega
 have h0 : (0 : Int) ≤ (c : Int) ∧ (c : Int) < ((15 : Nat) : Int) := by omega
 have p1 : (part 3 (flat ei l).toArray (c * 1)).run Tryz.prog w = .ok (iv x) w := run_part_plain w plain3 (by rw [Nat.mul_one]; simpa using arr_at h)
 simp only [Instr.index, run_underlying Tryz.underlying90, asIntOf, Sem.run_bind, Sem.run_pure, Result.andThen_ok, if_pos h0, Go.Lw.run_sizeOf tk3, Int.toNat_natCast]
 exact p1
theorem wi_one (c : Int) : wi 0 14 [c] = decide (0 ≤ c ∧ c ≤ 14) := by
 simp only [wi, List.any_cons, List.any_nil, outB]
 by_cases h1 : c < 0 <;> by_cases h2 : 14 < c <;> simp [h1, h2] <;> omega
theorem blame_ok (ts : List Tq) (h2 : alE ts = 0) (c : Nat) (hc : c < 15) (V : View) (v : Value) (hs : Sl V tqe 4 v ts) : Fnc Tryz.prog 23 [v, iv c] V fun r _ => ∃ L, AlS ts L ∧ r = .tuple #[iv (bmN L c), iv 0] := by
 have h := (alE_zero h2).1
 refine zT Tryz.func23 rfl Tryz.ntmps23 (Nat.le_of_ble_eq_true rfl) ?_
 intro w0 hw0
 refine At.nrm ?_
 refine At.zg (.q 0 (.q 1 .done)) ?_
 refine AtT.zf ?_
 refine AtT.zf ?_
 refine AtT.done ?_
 refine At.nrm ?_
 refine At.zg (.q 0 (.n false 1 (.q 2 .done))) ?_
 refine AtT.ze ?_
 refine AtT.zC rfl rfl ok17 (trials_f ts _ _ hs) ?_
 rintro _ rfl; rw [h]
 refine AtT.zf ?_
 refine AtT.done ?_
 refine At.nrm ?_
 refine At.zg (.q 0 (.q 1 (.q 2 .done))) ?_
 refine AtT.ze ?_
 refine AtT.kneI ?_
 refine AtT.zf ?_
 refine AtT.done ?_
 refine At.nrm ?_
 refine At.qB rfl (decide_eq_false (by simp)) ?_
 refine At.nrm ?_
 refine At.zg (.q 0 (.n false 1 (.n false 2 (.q 3 (.q 4 .done))))) ?_
 refine AtT.ze ?_
 refine AtT.qb (qZ _) ?_
 intro q17 V17 hV17 hq17
 have g17 : Le V V17 := by first | exact hV17 | exact Le.trans (by assumption) hV17
 refine AtT.zC rfl rfl ok46 (within_f 0 14 [(c : Int)] _ _ (Sl.lit hq17 rfl (by simp))) ?_
 rintro _ rfl; rw [wi_one, decide_eq_true (by omega)]
 refine AtT.knot ?_
 refine AtT.zf ?_
 refine AtT.done ?_
 refine At.nrm ?_
 refine At.qB rfl rfl ?_
 refine At.nrm ?_
 refine At.zg (.q 0 (.n false 1 (.q 2 (.q 3 (.q 4 (.q 5 (.q 6 (.q 7 (.q 8 .done))))))))) ?_
 refine AtT.ze ?_
 refine AtT.kcall rfl rfl ok19 (explainedA ts h2 _ _ (hs.le hV17)) ?_
 rintro _ V20 hV20 ⟨q, u, L, rfl, hbc, hsl, hal⟩
 refine AtT.ze ?_
 refine AtT.zG ?_
 refine AtT.zG ?_
 refine AtT.zG ?_
 refine AtT.zf ?_
 refine AtT.zf ?_
 refine AtT.zf ?_
 refine AtT.done ?_
 refine At.nrm ?_
 obtain ⟨a24, c24, rfl, k1, k2, _⟩ := id hsl
 clear k1 k2
 have htn := tN_le L c
 refine At.zg (.q 0 (.q 1 .done)) ?_
 refine AtT.ze ?_
 refine AtT.kneI ?_
 refine AtT.done ?_
 refine At.nrm ?_
 refine At.qB rfl (decide_eq_false (by simp)) ?_
 refine At.nrm ?_
 refine At.zg (.q 0 (.n false 1 (.q 2 (.q 3 .done)))) ?_
 refine AtT.ze ?_
 refine AtT.zC rfl rfl ok50 (tally_f L (als_lt hal) (als_len hal) _ _ hsl) ?_
 rintro _ rfl
 refine AtT.ze ?_
 refine AtT.ixV rfl trivial rfl rfl (index101 (tlL L) (tlL_len L) c _ (tlL_at hc)) (by decide) ?_
 refine AtT.done ?_
 refine At.nrm ?_
 refine At.zg (.q 0 (.q 1 .done)) ?_
 refine AtT.jJ ?_
 refine AtT.zf ?_
 refine AtT.done ?_
 refine At.nrm ?_
 refine At.zW rfl (fun h3 => ?_) (fun h3 => ?_)
 ·refine At.nrm ?_
  refine At.zg (.q 0 (.q 1 .done)) ?_
  refine AtT.zf ?_
  refine AtT.zf ?_
  refine AtT.done ?_
  refine At.nrm ?_
  exact At.ret2 rfl (.tmp rfl) (.tmp rfl) ⟨L, hal, by unfold bmN; rw [if_pos (by omega)]⟩
 refine At.nrm ?_
 refine At.zg (.q 0 (.q 1 (.q 2 (.q 3 .done)))) ?_
 refine AtT.ze ?_
 first | refine AtT.zP Tryz.underlying51 ?_ | refine AtT.zQ Tryz.underlying51 ?_
 refine AtT.jJ ?_
 refine AtT.zf ?_
 refine AtT.done ?_
 refine At.nrm ?_
 refine At.zW rfl (fun h4 => ?_) (fun h4 => ?_)
 ·refine At.nrm ?_
  refine At.zg (.q 0 (.q 1 .done)) ?_
  refine AtT.zf ?_
  refine AtT.zf ?_
  refine AtT.done ?_
  refine At.nrm ?_
  exact At.ret2 rfl (.tmp rfl) (.tmp rfl) ⟨L, hal, by unfold bmN; rw [if_neg (by omega), if_pos (by omega)]⟩
 refine At.nrm ?_
 refine At.zg (.q 0 (.q 1 .done)) ?_
 refine AtT.zf ?_
 refine AtT.zf ?_
 refine AtT.done ?_
 refine At.nrm ?_
 exact At.ret2 rfl (.tmp rfl) (.tmp rfl) ⟨L, hal, by unfold bmN; rw [if_neg (by omega), if_neg (by omega)]⟩
end Go.Proofs.YtadbifpalpdocaaGreatDoor
end
section
namespace Go.Bl
open Go.Gl Go.Lw
def bst {α : Type} (lt : α → α → Bool) : α → List α → α
 | out, [] => out
 | out, x :: l => bst lt (if lt x out then x else out) l
end Go.Bl
end
section
namespace Go.Lw
structure U8 where
 n : Int
 h : 0 ≤ n ∧ n ≤ 255
abbrev e8 (x : U8) : List Value := [.int .u8 x.n]
end Go.Lw
namespace Go.Bl
open Go.Gl Go.Lw
theorem mt_no {A B : Nat} (h : ∀ i, A.testBit i = true → B.testBit i = false) : mtB A B = false := by
 cases c : mtB A B with
 | false => rfl
 | true =>
  obtain ⟨i, h1, h2⟩ := (ql _ _).1 c
  rw [h i h1] at h2; cases h2
structure GvI (no : Nat) (left : List Int) (k out : Nat) : Prop where
 lt : out < 32768
 no_ : mtB out no = false
 hit : ∀ (j s : Nat), j < k → left[j]? = some (s : Int) → s ≠ 0 → mtB out s = true
end Go.Bl
end
section
set_option linter.unusedVariables false
namespace Go.Bl
open Go.Gl Go.Lw
theorem clN_bit {ts : List Tq} {i : Nat} : ∀ k, k ≤ ts.length → ((clN ts k).testBit i = true ↔ ∃ t ∈ ts.take k, t.f = false ∧ (cbN t.p).testBit i = true)
 | 0, _ => by simp [clN]
 | k + 1, h => by
  obtain ⟨t, ht⟩ : ∃ t, ts[k]? = some t := ⟨_, List.getElem?_eq_getElem (by omega)⟩
  have ih := clN_bit (ts := ts) (i := i) k (by omega)
  rw [clN_at ht, take_snoc' ht]
  by_cases c : t.f = false
  ·rw [if_pos c, Nat.testBit_or, Bool.or_eq_true, ih]
   constructor
   ·rintro (⟨u, h1, h2⟩ | h1)
    ·exact ⟨u, List.mem_append_left _ h1, h2⟩
    ·exact ⟨t, by simp, c, h1⟩
   ·rintro ⟨u, h1, h2, h3⟩
    rcases List.mem_append.1 h1 with h1 | h1
    ·exact .inl ⟨u, h1, h2, h3⟩
    ·rw [List.mem_singleton] at h1; subst h1; exact .inr h3
  ·rw [if_neg c, ih]
   constructor
   ·rintro ⟨u, h1, h2⟩; exact ⟨u, List.mem_append_left _ h1, h2⟩
   ·rintro ⟨u, h1, h2, h3⟩
    rcases List.mem_append.1 h1 with h1 | h1
    ·exact ⟨u, h1, h2, h3⟩
    ·rw [List.mem_singleton] at h1; subst h1; exact absurd h2 c
theorem clA_bit {ts : List Tq} {i : Nat} : (clA ts).testBit i = true ↔ ∃ t ∈ ts, t.f = false ∧ (cbN t.p).testBit i = true := by
 have := clN_bit (ts := ts) (i := i) ts.length (Nat.le_refl _)
 rw [List.take_length] at this; exact this
theorem mtB_symm (A B : Nat) : mtB A B = mtB B A := by unfold mtB; rw [Nat.and_comm]
theorem clr_bit {ts : List Tq} {t : Tq} {no i : Nat} (ht : kF t.p = true) (hn : no < 32768) : (clrB (cbN t.p) no).testBit i = ((cbN t.p).testBit i && !no.testBit i) := by
 have := cbN_lt ht
 exact clrB_bit _ _ _ (by omega) (by omega)
def ExT (ts : List Tq) (x : Nat) : Prop := x < 32768 ∧ ∀ t ∈ ts, mtB x (cbN t.p) = t.f
theorem ex_ext {ts : List Tq} (ht : ∀ t ∈ ts, kF t.p = true) {x : Nat} : Ex (clA ts) (lsL ts) x ↔ ExT ts x := by
 have hno : clA ts < 32768 := clN_lt ht _
 constructor
 ·rintro ⟨h1, h2, h3⟩
  refine ⟨h1, fun t hm => ?_⟩
  cases c : t.f with
  | false =>
   refine mt_no fun i hi => ?_
   cases d : (cbN t.p).testBit i with
   | false => rfl
   | true => rw [(ql x (clA ts)).2 ⟨i, hi, clA_bit.2 ⟨t, hm, c, d⟩⟩] at h2; cases h2
  | true =>
   have hs : clrB (cbN t.p) (clA ts) ∈ lsL ts := by rw [lsL_map]; exact List.mem_map.2 ⟨t, List.mem_filter.2 ⟨hm, c⟩, rfl⟩
   obtain ⟨i, a, b⟩ := (ql _ _).1 (h3 _ hs)
   rw [clr_bit (ts := ts) (ht t hm) hno, Bool.and_eq_true] at b
   exact (ql _ _).2 ⟨i, a, b.1⟩
 ·rintro ⟨h1, h2⟩
  have hz : ∀ i, x.testBit i = true → (clA ts).testBit i = false := fun i hi => by
   cases d : (clA ts).testBit i with
   | false => rfl
   | true =>
    obtain ⟨t, hm, hf, hb⟩ := clA_bit.1 d
    have := h2 t hm
    rw [hf, (ql _ _).2 ⟨i, hi, hb⟩] at this; cases this
  refine ⟨h1, mt_no hz, fun s hs => ?_⟩
  rw [lsL_map] at hs
  obtain ⟨t, hm, rfl⟩ := List.mem_map.1 hs
  obtain ⟨hm, hf⟩ := List.mem_filter.1 hm
  have := h2 t hm
  rw [show t.f = true from hf] at this
  obtain ⟨i, a, b⟩ := (ql _ _).1 this
  exact (ql _ _).2 ⟨i, a, by rw [clr_bit (ts := ts) (ht t hm) hno, b, hz i a]; rfl⟩
structure AlT (ts : List Tq) (L : List Nat) : Prop where
 nod : L.Nodup
 ord : L.Pairwise LexB
 mem : ∀ x, x ∈ L ↔ ExT ts x ∧ ∀ y, ExT ts y → cnt x ≤ cnt y
theorem jV {ts : List Tq} {x i : Nat} (h : ExT ts x) (hi : i < 15) (hc : (clA ts).testBit i = false) : ExT ts (x ||| 2 ^ i) := by
 refine ⟨or_lt15 h.1 hi, fun t ht => ?_⟩
 have h0 := h.2 t ht
 cases c : t.f with
 | true =>
  rw [c] at h0
  obtain ⟨j, a, b⟩ := (ql _ _).1 h0
  exact (ql _ _).2 ⟨j, by rw [Nat.testBit_or, a]; rfl, b⟩
 | false =>
  rw [c] at h0
  refine mt_no fun j hj => ?_
  rw [Nat.testBit_or, Bool.or_eq_true, Nat.testBit_two_pow, decide_eq_true_eq] at hj
  rcases hj with hj | rfl
  ·exact mtB_no h0 hj
  ·cases d : (cbN t.p).testBit i with
   | false => rfl
   | true => rw [clA_bit.2 ⟨t, ht, c, d⟩] at hc; cases hc
end Go.Bl
end
section
set_option linter.unusedVariables false
namespace Go.Bl
open Go.Gl Go.Lw
structure OneC (ts : List Tq) (c : Nat) : Prop where
 c5 : c < 5
 snd : ∀ t ∈ ts, kF t.p = true
 len : ts.length ≤ 16
 bad : ∀ t ∈ ts, t.f = decide (t.p.m = (c : Int))
 some : ∃ t ∈ ts, t.f = true
theorem cb_bit {p : Pq} (h : kF p = true) {c : Nat} (hc : c < 5) : (cbN p).testBit c = decide (p.m = (c : Int)) := by
 unfold kF at h
 rw [decide_eq_true_eq] at h
 have e := btL_bit (l := caL p) (i := c) (fun x hx => by
  simp only [caL, List.mem_cons, List.not_mem_nil, or_false] at hx
  omega)
 unfold cbN
 rw [Bool.eq_iff_iff, e, decide_eq_true_eq]
 simp only [caL, List.mem_cons, List.not_mem_nil, or_false]
 omega
theorem mt_pow (c A : Nat) : mtB (2 ^ c) A = A.testBit c := by
 rw [Bool.eq_iff_iff, ql]
 constructor
 ·rintro ⟨i, h1, h2⟩
  rw [Nat.testBit_two_pow, decide_eq_true_eq] at h1
  subst h1; exact h2
 ·intro h
  exact ⟨c, by simp [Nat.testBit_two_pow], h⟩
variable {ts : List Tq} {c : Nat}
theorem OneC.tr (h : OneC ts c) : trE ts = 0 := by
 unfold trE
 rw [if_neg (by have := h.len; omega), if_neg]
 rw [Bool.not_eq_true, List.any_eq_false]
 intro t ht
 unfold badT
 rw [h.snd t ht]
 decide
theorem OneC.ex (h : OneC ts c) : ExT ts (2 ^ c) := ⟨Nat.lt_of_le_of_lt (Nat.pow_le_pow_right (n := 2) (by decide) (show c ≤ 4 by have := h.c5; omega)) (by decide), fun t ht => by
 rw [mt_pow, cb_bit (h.snd t ht) h.c5, h.bad t ht]⟩
theorem OneC.al (h : OneC ts c) : alE ts = 0 := by
 refine alE_ok h.tr ?_
 rw [List.any_eq_false]
 intro s hs hz
 have hz : s = 0 := by simpa using hz
 have := ((ex_ext h.snd).2 h.ex).2.2 s hs
 subst hz
 unfold mtB at this
 simp at this
theorem cnt_pow (hc : c < 5) : cnt (2 ^ c) = 1 := by
 have := cnt_or (A := 0) (i := c) (by simp) (by omega)
 rw [Nat.zero_or, cnt_zero] at this
 exact this
theorem OneC.ne (h : OneC ts c) {x : Nat} (hx : ExT ts x) : 1 ≤ cnt x := by
 rcases Nat.eq_zero_or_pos (cnt x) with h0 | h0
 ·obtain ⟨t, ht, hf⟩ := h.some
  have h1 := hx.2 t ht
  rw [hf] at h1
  obtain ⟨i, h2, _⟩ := (ql _ _).1 h1
  have hi := lt15_bit hx.1 h2
  have : (i : Int) ∈ zX x 15 := jQ.2 ⟨i, hi, rfl, h2⟩
  unfold cnt cntK at h0
  rw [List.eq_nil_of_length_eq_zero h0] at this
  cases this
 ·exact h0
theorem OneC.mem (h : OneC ts c) {L : List Nat} (hA : AlT ts L) : 2 ^ c ∈ L ∧ ∀ x ∈ L, cnt x = 1 := by
 refine ⟨(hA.mem _).2 ⟨h.ex, fun y hy => by rw [cnt_pow h.c5]; exact h.ne hy⟩, fun x hx => ?_⟩
 obtain ⟨h1, h2⟩ := (hA.mem x).1 hx
 have h3 := h2 _ h.ex
 rw [cnt_pow h.c5] at h3
 have := h.ne h1
 omega
theorem OneC.only (h : OneC ts c) {L : List Nat} (hA : AlT ts L) {x : Nat} (hx : x ∈ L) (hb : x.testBit c = true) : x = 2 ^ c := by
 have h1 := ((hA.mem x).1 hx).1
 refine (sub_eq (A := 2 ^ c) (B := x) (fun i hi => ?_) h.ex.1 h1.1 ?_).symm
 ·rw [Nat.testBit_two_pow, decide_eq_true_eq] at hi
  subst hi; exact hb
 ·rw [cnt_pow h.c5, (h.mem hA).2 x hx]; exact Nat.le_refl _
theorem OneC.may (h : OneC ts c) {L : List Nat} (hA : AlT ts L) : tN L c ≠ 0 ∧ (tN L c = L.length ↔ L.length = 1) := by
 obtain ⟨h1, h2⟩ := h.mem hA
 have hb : (2 ^ c).testBit c = true := by simp [Nat.testBit_two_pow]
 refine ⟨fun e => (by rw [tN_zero.1 e _ h1] at hb; cases hb), ?_⟩
 rw [tN_all]
 constructor
 ·intro hall
  have hall : ∀ x ∈ L, x = 2 ^ c := fun x hx => h.only hA hx (hall x hx)
  have nod := hA.nod
  match L, h1, nod, hall with
  | [x], _, _, _ => rfl
  | x :: y :: L, _, nod, hall =>
   have e1 := hall x (by simp)
   have e2 := hall y (by simp)
   rw [e1, e2] at nod
   simp at nod
 ·intro hl
  match L, hl, h1 with
  | [y], _, h1 =>
   obtain rfl : 2 ^ c = y := by simpa using h1
   intro x hx
   obtain rfl : x = 2 ^ c := by simpa using hx
   exact hb
theorem OneC.fl (h : OneC ts c) {L : List Nat} (hA : AlT ts L) {p : Pq} (hp : kF p = true) (hm : p.m = (c : Int)) : 1 ≤ flN L p := by
 obtain ⟨h1, _⟩ := h.mem hA
 unfold flN
 refine List.length_pos_iff.2 fun e => ?_
 have : 2 ^ c ∈ L.filter fun x => mtB (cbN p) x := List.mem_filter.2 ⟨h1, by rw [mtB_symm, mt_pow, cb_bit hp h.c5, hm]; simp⟩
 rw [e] at this
 cases this
theorem OneC.cc (h : OneC ts c) : ccR ts [(c : Int)] = 0 := by
 have hbt : btL [(c : Int)] = 2 ^ c := by
  show 0 ||| 2 ^ ((c : Int)).toNat = 2 ^ c
  rw [Nat.zero_or, Int.toNat_natCast]
 obtain ⟨e1, e2, e3⟩ := (ex_ext h.snd).2 h.ex
 refine ccR_ok h.tr ?_ ?_ ?_
 ·have := h.c5
  match c, this with
  | 0, _ => decide
  | 1, _ => decide
  | 2, _ => decide
  | 3, _ => decide
  | 4, _ => decide
  | n + 5, h => omega
 ·rw [hbt]
  unfold mtB at e2
  simpa using e2
 ·rw [hbt, ex_ls, List.all_eq_true]
  exact e3
def gbT (l : List Int) (bad : Int) (i : Nat) : Tq := ⟨⟨l.getD i 0, ((i % 5 : Nat) : Int), ((i / 5 : Nat) : Int)⟩, decide (l.getD i 0 = bad)⟩
def gbK (l : List Int) (bad : Int) (k : Nat) : List Tq := (List.range k).map (gbT l bad)
theorem gbK_succ (l : List Int) (bad : Int) (k : Nat) : gbK l bad (k + 1) = gbK l bad k ++ [gbT l bad k] := by unfold gbK; rw [List.range_succ, List.map_append]; rfl
theorem gbK_len (l : List Int) (bad : Int) (k : Nat) : (gbK l bad k).length = k := by unfold gbK; simp
theorem gb_one {l : List Int} {c : Nat} (hc : c < 5) (hl : l.length ≤ 16) (hx : ∀ x ∈ l, 0 ≤ x ∧ x ≤ 4) (hb : (c : Int) ∈ l) : OneC (gbK l c l.length) c := by
 have get : ∀ i, i < l.length → l.getD i 0 ∈ l := fun i hi => by
  rw [List.getD_eq_getElem?_getD, List.getElem?_eq_getElem hi]
  exact List.getElem_mem hi
 refine ⟨hc, fun t ht => ?_, by rw [gbK_len]; exact hl, fun t ht => ?_, ?_⟩
 ·obtain ⟨i, hi, rfl⟩ := List.mem_map.1 ht
  have hi := List.mem_range.1 hi
  have := hx _ (get i hi)
  unfold kF gbT
  rw [decide_eq_true_eq]
  dsimp only
  omega
 ·obtain ⟨i, hi, rfl⟩ := List.mem_map.1 ht
  rfl
 ·obtain ⟨i, hi, e⟩ := List.getElem_of_mem hb
  refine ⟨gbT l c i, List.mem_map_of_mem (List.mem_range.2 hi), ?_⟩
  unfold gbT
  rw [List.getD_eq_getElem?_getD, List.getElem?_eq_getElem hi, e]
  simp
theorem plan_all {l : List Int} {row : Bool} (h : ky l row = true) {c : Nat} (hc : (c : Int) < qd l) : (c : Int) ∈ l := by
 have key : ∀ k, k ≤ l.length → ∀ c : Nat, (c : Int) < qd (l.take k) → (c : Int) ∈ l.take k := by
  intro k
  induction k with
  | zero => intro _ c hc; simp [qd] at hc; omega
  | succ k ih =>
   intro hk c hc
   have hkl : k < l.length := by omega
   have ht : l.take (k + 1) = l.take k ++ [l[k]] := List.take_succ_eq_append_getElem hkl
   rw [ht] at hc ⊢
   have hp := planB_at h hkl
   unfold plAt at hp
   rw [decide_eq_true_eq, List.getD_eq_getElem?_getD, List.getElem?_eq_getElem hkl] at hp
   simp only [Option.getD_some] at hp
   have hb : qd (l.take k ++ [l[k]]) = max (qd (l.take k)) (l[k] + 1) := by unfold qd; rw [List.foldl_append]; rfl
   rw [hb] at hc
   by_cases c1 : (c : Int) < qd (l.take k)
   ·exact List.mem_append_left _ (ih (by omega) c c1)
   ·refine List.mem_append_right _ ?_
    rw [List.mem_singleton]
    omega
 have := key l.length (Nat.le_refl _) c (by rw [List.take_length]; exact hc)
 rwa [List.take_length] at this
theorem plan_bd {l : List Int} {row : Bool} (h : ky l row = true) : ∀ x ∈ l, 0 ≤ x ∧ x < qd l := by
 intro x hx
 refine ⟨((plan_bat h).2 x hx).1, ?_⟩
 have key : ∀ (l : List Int) (n : Int), n ≤ l.foldl (fun n x => max n (x + 1)) n ∧ ∀ x ∈ l, x < l.foldl (fun n x => max n (x + 1)) n := by
  intro l
  induction l with
  | nil => intro n; exact ⟨Int.le_refl _, fun x hx => by cases hx⟩
  | cons y l ih =>
   intro n
   obtain ⟨h1, h2⟩ := ih (max n (y + 1))
   refine ⟨by show n ≤ l.foldl _ (max n (y + 1)); omega, fun x hx => ?_⟩
   show x < l.foldl _ (max n (y + 1))
   rcases List.mem_cons.1 hx with rfl | hx
   ·omega
   ·exact h2 x hx
 exact (key l 0).2 x hx
end Go.Bl
end
