/- Texts that the last one of this claim imports. -/
import Derived.Lib.QuoteBits
import Derived.Test.YtghomjjffllkeaaGreatDoorRows
import Derived.Test.YtghomjjffllkeaaGreatDoorTie
import Derived.Test.YtghomjjffllkeaaGreatDoorCards
import Derived.Lay
import Derived.MakeChecks
import Derived.SevenTiedAt
import Derived.LaidLaws
import Derived.Deep.Strs
import Derived.Shelf.Sort.Plain
import Derived.Test.YtghomjjffllkeaaGreatDoorProg
import Derived.Test.YtghomjjffllkeaaGreatDoorChecked
import Derived.KernelRfl
import Derived.Shelf.Strings.OnBuilder
import Derived.Shelf.Strings.SlTrimAscii
import Derived.Shelf.Strings.Count
import Derived.Lib.SliceRun
import Derived.Test.YtghomjjffllkeaaGreatDoorB1
set_option linter.unusedVariables false
set_option linter.unusedSimpArgs false
set_option linter.unusedSectionVars false
namespace Go.Gl
def prevN (l : List Int) : Nat → Int
 | 0 => 0
 | k + 1 => l.getD k 0 + 1
def okAt (l : List Int) (below : Int) (k : Nat) : Bool := decide (0 ≤ l.getD k 0 ∧ prevN l k ≤ l.getD k 0 ∧ l.getD k 0 < below)
def lstB (l : List Int) (below : Int) : Bool := (List.range l.length).all (okAt l below)
theorem lstB_true {l : List Int} {below : Int} (h : ∀ j, j < l.length → okAt l below j = true) : lstB l below = true := by
 unfold lstB; rw [List.all_eq_true]; intro j hj; exact h j (List.mem_range.1 hj)
theorem lstB_at {l : List Int} {below : Int} (h : lstB l below = true) {j : Nat} (hj : j < l.length) : okAt l below j = true := by
 unfold lstB at h; rw [List.all_eq_true] at h; exact h j (List.mem_range.2 hj)
theorem lstB_false {l : List Int} {below : Int} {k : Nat} (hk : k < l.length) (h : okAt l below k = false) : lstB l below = false := by
 cases hb : lstB l below with
 | false => rfl
 | true => rw [lstB_at hb hk] at h; cases h
theorem prevN_pos {l : List Int} {below : Int} : ∀ {k : Nat}, (∀ j, j < k → okAt l below j = true) → 0 ≤ prevN l k
 | 0, _ => Int.le_refl 0
 | k + 1, h => by
  have := h k (by omega)
  simp only [okAt, decide_eq_true_eq] at this
  simp only [prevN]; omega
theorem lstB_in {l : List Int} {below : Int} (h : lstB l below = true) : ∀ i ∈ l, 0 ≤ i ∧ i < below := fun i hi => by
 obtain ⟨k, hk⟩ := List.getElem?_of_mem hi
 have hlt := (List.getElem?_eq_some_iff.1 hk).1
 have := lstB_at h hlt
 have e : l.getD k 0 = i := by simp [List.getD, hk]
 simp only [okAt, decide_eq_true_eq, e] at this
 omega
end Go.Gl
namespace Go.Gl
def batN (l : List Int) : Int := l.foldl (fun n x => max n (x + 1)) 0
def ofK (l : List Int) (b : Int) : Nat → List Int
 | 0 => []
 | k + 1 => if l.getD k 0 = b then ofK l b k ++ [(k : Int)] else ofK l b k
def ofL (l : List Int) (b : Int) : List Int := ofK l b l.length
end Go.Gl
namespace Go.Gl
def leastAt (l : List Int) (row : Bool) (k : Nat) : Int := if row = true ∧ 0 < k then l.getD (k - 1) 0 else 0
def plAt (l : List Int) (row : Bool) (k : Nat) : Bool := decide (leastAt l row k ≤ l.getD k 0 ∧ l.getD k 0 ≤ batN (l.take k))
def planB (l : List Int) (row : Bool) : Bool := (List.range l.length).all (plAt l row)
end Go.Gl
namespace Go.Gl
def fromTo (a b : Int) : List Int := (List.range (b + 1 - a).toNat).map fun (i : Nat) => a + (i : Int)
def sm (B : Bn) (p : Nat → Bool) : Nat → Sm
 | 0 => sm0
 | k + 1 => if p k = true then (sm B p k).and (eachP B (k : Int)) else sm B p k
def rowF (B : Bn) : Nat → Nat × Nat
 | 0 => (0, 0)
 | k + 1 => if fitE B (sumL B (fromTo ((rowF B k).1 : Int) (k : Int))) ≠ 0 then (k, (rowF B k).2 + 1) else rowF B k
structure RowSt (B : Bn) (k : Nat) : Prop where
 lt : (rowF B k).1 < k
 same : ∀ j, (rowF B k).1 ≤ j → j < k → (rowF B (j + 1)).2 = (rowF B k).2
 less : ∀ j, j < (rowF B k).1 → (rowF B (j + 1)).2 < (rowF B k).2
 fits : fitE B (sm B (fun i => decide ((rowF B k).1 ≤ i)) k) = 0
def Good (B : Bn) (l : List Int) : Prop := ∀ k : Int, fitE B (sm B (fun i => decide (l.getD i 0 = k)) l.length) = 0
end Go.Gl


namespace Go.Gl
def frE (B : Bn) : Nat → Int
 | 0 => 0
 | k + 1 => if frE B k ≠ 0 then frE B k else fitE B (eachP B (k : Int))
theorem frE_ok {B : Bn} : ∀ {n : Nat}, frE B n = 0 → ∀ k, k < n → fitE B (eachP B (k : Int)) = 0
 | 0, _, k, hk => by omega
 | n + 1, h, k, hk => by
  simp only [frE] at h
  by_cases c : frE B n ≠ 0
  ·rw [if_pos c] at h; exact absurd h c
  ·rw [if_neg c] at h
   by_cases d : k = n
   ·subst d; exact h
   ·exact frE_ok (Decidable.not_not.1 c) k (by omega)
end Go.Gl
namespace Go.Gl
def earB : List Int → List Int → Bool
 | x :: a, y :: b => if x = y then earB a b else decide (x < y)
 | _, _ => false
end Go.Gl
namespace Go.Gl
def goL (B : Bn) : Nat → List Int → Int → Option (List Int)
 | 0, begun, _ => some begun
 | t + 1, begun, most => (List.range (min (batN begun + 1) most).toNat).findSome? fun (k : Nat) => if fitE B (sumL B (ofL (begun ++ [(k : Int)]) (k : Int))) ≠ 0 then none else goL B t (begun ++ [(k : Int)]) most
def Gd (B : Bn) (n : Nat) (f : Nat → Nat) (m : Nat) : Prop := (∀ i, i < n → f i < m) ∧ ∀ k, fitE B (sm B (fun i => decide (f i = k)) n) = 0
end Go.Gl
namespace Go.Gl
structure jr (B : Bn) (l : List Int) : Prop where
 len : l.length = B.each.length
 plan : planB l false = true
 good : Good B l
 go : goL B B.each.length [] (batN l) = some l
 least : ∀ (f : Nat → Nat) (m : Nat), Gd B B.each.length f m → batN l ≤ (m : Int)
 first : ∀ l', l'.length = B.each.length → planB l' false = true → Good B l' → batN l' ≤ batN l → earB l' l = false
end Go.Gl
set_option linter.unusedVariables false
namespace Go.Lw
open Go.RowKit
def lowB (n : Nat) : Nat := (BitVec.ofNat 64 n &&& -BitVec.ofNat 64 n).toNat
def qI (a b : Nat) : Nat := a &&& (18446744073709551615 - b)
theorem lowB_le (n : Nat) (h : n < 9223372036854775808) : lowB n ≤ n := by
 unfold lowB
 rw [BitVec.toNat_and, BitVec.toNat_ofNat, Nat.mod_eq_of_lt (by omega)]
 exact Nat.and_le_left
theorem clrB_le (a b : Nat) : qI a b ≤ a := Nat.and_le_left
theorem clrB_bit (a b i : Nat) (hb : b < 18446744073709551616) (ha : a < 18446744073709551616) : (qI a b).testBit i = (a.testBit i && !b.testBit i) := by
 unfold qI
 rw [Nat.testBit_and]
 cases hi : a.testBit i with
 | false => rfl
 | true =>
  have hlt : i < 64 := by
   apply Classical.byContradiction
   intro hc
   have : a < 2 ^ i := Nat.lt_of_lt_of_le ha (by rw [show 18446744073709551616 = 2 ^ 64 from rfl]; exact Nat.pow_le_pow_right (by decide) (by omega))
   rw [Nat.testBit_lt_two_pow this] at hi; cases hi
  have := Nat.testBit_two_pow_sub_succ (x := b) (n := 64) (by simpa using hb) i
  rw [show 18446744073709551615 - b = 2 ^ 64 - (b + 1) from by omega, this]
  simp [hlt]
theorem lowB_bit (n i : Nat) (h : n < 9223372036854775808) : (lowB n).testBit i = (n.testBit i && !decide (∃ j, j < i ∧ n.testBit j = true)) := by
 unfold lowB
 rw [BitVec.testBit_toNat, BitVec.getLsbD_and, BitVec.getLsbD_neg]
 have hb : ∀ j, (BitVec.ofNat 64 n).getLsbD j = n.testBit j := fun j => by
  rw [BitVec.getLsbD_ofNat]
  by_cases hj : j < 64
  ·simp [hj]
  ·have : n < 2 ^ j := Nat.lt_of_lt_of_le (show n < 2 ^ 63 by omega) (Nat.pow_le_pow_right (by decide) (by omega))
   simp [hj, Nat.testBit_lt_two_pow this]
 simp only [hb]
 cases hi : n.testBit i with
 | false => simp
 | true =>
  have hlt : i < 64 := by
   apply Classical.byContradiction
   intro hc
   have : n < 2 ^ i := Nat.lt_of_lt_of_le (show n < 2 ^ 63 by omega) (Nat.pow_le_pow_right (by decide) (by omega))
   rw [Nat.testBit_lt_two_pow this] at hi; cases hi
  simp [hlt]
section
variable {cx : Cx} {n : Nat} {ks : List (Nat × Value)} {O : List Own} {V : View} {P : Program} {ops : Array Oper} {Qn : Act → World → Prop} {t : Tr} {i d : Nat} {T : TypeId} {pos : String} {after : Array Edge} {gd : Option (Nat × Bool)} {x y : Operand} {p q : Int} {X Z : TypeId}
theorem AtT.andN {A B : Nat} (ho : ops[i]? = some ⟨some d, .binOp .and X x y Z, T, pos, after, gd⟩) (hg : Gd ks ops gd) (hx : ev ks x = some (.int .i64 p)) (hy : ev ks y = some (.int .i64 q)) (hp : p = (A : Int)) (hq : q = (B : Int)) (hA : A < 9223372036854775808) (hB : B < 9223372036854775808) (hn : d < n)
  (next : AtT cx n ((d, .int .i64 ((A &&& B : Nat) : Int)) :: ks) O V P ops Qn t) : AtT cx n ks O V P ops Qn (.q i t) :=
 .q ho hg rfl hn (fun a w hk _ => by
  subst hp hq
  have hr : Op.intBits .and .i64 (A : Int) (B : Int) = (pure (.int .i64 ((A &&& B : Nat) : Int)) : Sem Value) := by
   show (pure (Value.int .i64 (IntKind.i64.wrap ((BitVec.ofInt 64 (A : Int) &&& BitVec.ofInt 64 (B : Int)).toNat : Int))) : Sem Value) = _
   rw [BitVec.toNat_and, ofInt_u64 A (by omega), ofInt_u64 B (by omega), Go.Lib.wrap_i64_small _ (Nat.lt_of_le_of_lt Nat.and_le_left hA)]
  simp [execOp, hk.ev hx, hk.ev hy, eqGuard_and, binOp_and, hr]) next
theorem AtT.lowN {A : Nat} (ho : ops[i]? = some ⟨some d, .binOp .and X x y Z, T, pos, after, gd⟩) (hg : Gd ks ops gd) (hx : ev ks x = some (.int .i64 p)) (hy : ev ks y = some (.int .i64 q)) (hp : p = (A : Int)) (hq : q = -(A : Int)) (hA : A < 9223372036854775808) (hn : d < n)
  (next : AtT cx n ((d, .int .i64 ((lowB A : Nat) : Int)) :: ks) O V P ops Qn t) : AtT cx n ks O V P ops Qn (.q i t) :=
 .q ho hg rfl hn (fun a w hk _ => by
  subst hp hq
  have hr : Op.intBits .and .i64 (A : Int) (-(A : Int)) = (pure (.int .i64 ((lowB A : Nat) : Int)) : Sem Value) := by
   show (pure (Value.int .i64 (IntKind.i64.wrap ((BitVec.ofInt 64 (A : Int) &&& BitVec.ofInt 64 (-(A : Int))).toNat : Int))) : Sem Value) = _
   have e1 : BitVec.ofInt 64 (A : Int) = BitVec.ofNat 64 A := BitVec.ofInt_natCast 64 A
   have e2 : BitVec.ofInt 64 (-(A : Int)) = -BitVec.ofNat 64 A := by rw [← e1, BitVec.ofInt_neg]
   rw [e1, e2]
   show pure (Value.int .i64 (IntKind.i64.wrap ((lowB A : Nat) : Int))) = _
   rw [Go.Lib.wrap_i64_small _ (Nat.lt_of_le_of_lt (lowB_le A hA) hA)]
  simp [execOp, hk.ev hx, hk.ev hy, eqGuard_and, binOp_and, hr]) next
theorem AtT.clrN {A B : Nat} (ho : ops[i]? = some ⟨some d, .binOp .andNot X x y Z, T, pos, after, gd⟩) (hg : Gd ks ops gd) (hx : ev ks x = some (.int .i64 p)) (hy : ev ks y = some (.int .i64 q)) (hp : p = (A : Int)) (hq : q = (B : Int)) (hA : A < 9223372036854775808) (hB : B < 9223372036854775808) (hn : d < n)
  (next : AtT cx n ((d, .int .i64 ((qI A B : Nat) : Int)) :: ks) O V P ops Qn t) : AtT cx n ks O V P ops Qn (.q i t) :=
 .q ho hg rfl hn (fun a w hk _ => by
  subst hp hq
  have hr : Op.intBits .andNot .i64 (A : Int) (B : Int) = (pure (.int .i64 ((qI A B : Nat) : Int)) : Sem Value) := by
   show (pure (Value.int .i64 (IntKind.i64.wrap ((BitVec.ofInt 64 (A : Int) &&& ~~~BitVec.ofInt 64 (B : Int)).toNat : Int))) : Sem Value) = _
   rw [BitVec.toNat_and, BitVec.toNat_not, ofInt_u64 A (by omega), ofInt_u64 B (by omega)]
   show pure (Value.int .i64 (IntKind.i64.wrap ((qI A B : Nat) : Int))) = _
   rw [Go.Lib.wrap_i64_small _ (Nat.lt_of_le_of_lt (clrB_le A B) hA)]
  simp [execOp, hk.ev hx, hk.ev hy, eqGuard_andNot, binOp_andNot, hr]) next
theorem AtT.shlN {N : Nat} {k : IntKind} (ho : ops[i]? = some ⟨some d, .binOp .shl X x y Z, T, pos, after, gd⟩) (hg : Gd ks ops gd) (hx : ev ks x = some (.int .i64 1)) (hy : ev ks y = some (.int k q)) (hq : q = (N : Int)) (hN : N ≤ 61) (hn : d < n)
  (next : AtT cx n ((d, .int .i64 ((2 ^ N : Nat) : Int)) :: ks) O V P ops Qn t) : AtT cx n ks O V P ops Qn (.q i t) :=
 .q ho hg rfl hn (fun a w hk _ => by
  subst hq
  have hlt : 2 ^ N < 9223372036854775808 := Nat.lt_of_le_of_lt (Nat.pow_le_pow_right (by decide) hN) (by decide)
  have hr : Op.shift .shl .i64 1 k (N : Int) = (pure (.int .i64 ((2 ^ N : Nat) : Int)) : Sem Value) := by
   unfold Op.shift
   rw [if_neg (by omega)]
   have e : min ((N : Int).toNat) IntKind.i64.bits = N := by show min ((N : Int).toNat) 64 = N; omega
   have e2 : (1 : Int) * 2 ^ N = ((2 ^ N : Nat) : Int) := by rw [Int.one_mul, Int.natCast_pow]; rfl
   simp only [e, e2, Go.Lib.wrap_i64_small _ hlt]
  simp only [execOp, hk.ev hx, hk.ev hy, eqGuard_shl, binOp_shl, hr, Sem.run_bind, Sem.run_pure, Result.andThen_ok]) next
theorem AtT.shrN {A N : Nat} {k : IntKind} (ho : ops[i]? = some ⟨some d, .binOp .shr X x y Z, T, pos, after, gd⟩) (hg : Gd ks ops gd) (hx : ev ks x = some (.int .i64 p)) (hy : ev ks y = some (.int k q)) (hp : p = (A : Int)) (hq : q = (N : Int)) (hN : N ≤ 61) (hn : d < n)
  (next : AtT cx n ((d, .int .i64 ((A >>> N : Nat) : Int)) :: ks) O V P ops Qn t) : AtT cx n ks O V P ops Qn (.q i t) :=
 .q ho hg rfl hn (fun a w hk _ => by
  subst hp hq
  have hr : Op.shift .shr .i64 (A : Int) k (N : Int) = (pure (.int .i64 ((A >>> N : Nat) : Int)) : Sem Value) := by
   unfold Op.shift
   rw [if_neg (by omega)]
   have e : min ((N : Int).toNat) IntKind.i64.bits = N := by show min ((N : Int).toNat) 64 = N; omega
   have e2 : (A : Int).fdiv (2 ^ N) = ((A >>> N : Nat) : Int) := by
    rw [Int.fdiv_eq_ediv_of_nonneg _ (Int.le_of_lt (Int.pow_pos (by decide))), Nat.shiftRight_eq_div_pow, Int.natCast_ediv, Int.natCast_pow]; rfl
   simp only [e, e2]
  simp only [execOp, hk.ev hx, hk.ev hy, eqGuard_shr, binOp_shr, hr, Sem.run_bind, Sem.run_pure, Result.andThen_ok]) next
end
end Go.Lw
namespace Go.Gl
open Go.Lw
def GdS (B : Bn) (S : Nat) (f : Nat → Nat) (m : Nat) : Prop := (∀ i, i < B.each.length → S.testBit i = true → f i < m) ∧ ∀ k, fitE B (sm B (fun i => S.testBit i && decide (f i = k)) B.each.length) = 0
structure Lst (B : Bn) (S : Nat) (v : Int) : Prop where
 nn : 0 ≤ v
 can : ∃ f, GdS B S f v.toNat
 least : ∀ f m, GdS B S f m → v ≤ (m : Int)
def mkM (q : Nat → Bool) : Nat → Nat
 | 0 => 0
 | k + 1 => if q k = true then mkM q k ||| 2 ^ k else mkM q k
theorem mkM_bit (q : Nat → Bool) : ∀ n i, (mkM q n).testBit i = (decide (i < n) && q i)
 | 0, i => by simp [mkM]
 | n + 1, i => by
  have ih := mkM_bit q n i
  simp only [mkM]
  by_cases c : q n = true
  ·rw [if_pos c, Nat.testBit_or, ih, Nat.testBit_two_pow]
   by_cases d : n = i
   ·subst d; simp [c]
   ·have : decide (i < n + 1) = decide (i < n) := by rw [decide_eq_decide]; omega
    simp [d, this]
  ·rw [if_neg c, ih]
   by_cases d : n = i
   ·subst d; simp [c]
   ·have : decide (i < n + 1) = decide (i < n) := by rw [decide_eq_decide]; omega
    rw [this]
end Go.Gl
namespace Go.Gl
open Go.Lw
theorem sorted_ext : ∀ {a b : List Int}, a.Pairwise (· < ·) → b.Pairwise (· < ·) → (∀ x, x ∈ a ↔ x ∈ b) → a = b
 | [], [], _, _, _ => rfl
 | [], y :: b, _, _, h => by have := (h y).2 List.mem_cons_self; cases this
 | x :: a, [], _, _, h => by have := (h x).1 List.mem_cons_self; cases this
 | x :: a, y :: b, ha, hb, h => by
  rw [List.pairwise_cons] at ha hb
  have e : x = y := by
   rcases List.mem_cons.1 ((h x).1 List.mem_cons_self) with h1 | h1
   ·exact h1
   ·rcases List.mem_cons.1 ((h y).2 List.mem_cons_self) with h2 | h2
    ·exact h2.symm
    ·have := hb.1 x h1; have := ha.1 y h2; omega
  subst e
  rw [sorted_ext ha.2 hb.2 fun z => ?_]
  have := h z
  rw [List.mem_cons, List.mem_cons] at this
  constructor
  ·intro hz
   rcases this.1 (.inr hz) with h1 | h1
   ·have := ha.1 z hz; omega
   ·exact h1
  ·intro hz
   rcases this.2 (.inr hz) with h1 | h1
   ·have := hb.1 z hz; omega
   ·exact h1
end Go.Gl
set_option linter.unusedVariables false
namespace Go.Pm
open Go.Gl Go.Lw
structure Cl where
 r : Int
 c : Int
 deriving DecidableEq
structure Pc where
 t : Int
 l : Int
 h : Int
 w : Int
 deriving DecidableEq
structure Gd where
 R : Int
 C : Int
 fig : Int → Int → Bool
 most : Int
def inP (p : Pc) (k : Cl) : Prop := p.t ≤ k.r ∧ k.r < p.t + p.h ∧ p.l ≤ k.c ∧ k.c < p.l + p.w
instance (p : Pc) (k : Cl) : Decidable (inP p k) := by unfold inP; infer_instance
def arP (p : Pc) : Int := p.h * p.w
structure Lies (g : Gd) (p : Pc) : Prop where
 h : 1 ≤ p.h ∧ p.h ≤ g.R
 w : 1 ≤ p.w ∧ p.w ≤ g.C
 t : 0 ≤ p.t ∧ p.t ≤ g.R - p.h
 l : 0 ≤ p.l ∧ p.l ≤ g.C - p.w
 fig : ∀ i k, p.t ≤ i → i < p.t + p.h → p.l ≤ k → k < p.l + p.w → g.fig i k = false
 most : arP p ≤ g.most
def PcLe (p q : Pc) : Prop := q.t ≤ p.t ∧ p.t + p.h ≤ q.t + q.h ∧ q.l ≤ p.l ∧ p.l + p.w ≤ q.l + q.w
theorem ar_le {p q : Pc} (h : PcLe p q) (h1 : 0 ≤ p.h) (w1 : 0 ≤ p.w) : arP p ≤ arP q := by
 obtain ⟨a, b, c, d⟩ := h
 unfold arP
 exact Int.mul_le_mul (by omega) (by omega) w1 (by omega)
theorem lies_le {g : Gd} {p q : Pc} (h : PcLe p q) (h1 : 1 ≤ p.h) (w1 : 1 ≤ p.w) (hq : Lies g q) : Lies g p := by
 have ha := ar_le h (by omega) (by omega)
 obtain ⟨a, b, c, d⟩ := h
 have := hq.h; have := hq.w; have := hq.t; have := hq.l; have := hq.most
 exact ⟨by omega, by omega, by omega, by omega, fun i k x1 x2 x3 x4 => hq.fig i k (by omega) (by omega) (by omega) (by omega), by omega⟩
def mnL (f : Cl → Int) : List Cl → Int
 | [] => 99
 | k :: l => min (f k) (mnL f l)
def mxL (f : Cl → Int) : List Cl → Int
 | [] => -1
 | k :: l => max (f k) (mxL f l)
def bbx (l : List Cl) : Pc := ⟨mnL (·.r) l, mnL (·.c) l, mxL (·.r) l - mnL (·.r) l + 1, mxL (·.c) l - mnL (·.c) l + 1⟩
theorem mnL_le {f : Cl → Int} : ∀ {l : List Cl} {k : Cl}, k ∈ l → mnL f l ≤ f k
 | k' :: l, k, h => by
  simp only [mnL]
  rcases List.mem_cons.1 h with rfl | h
  ·omega
  ·have := mnL_le (f := f) h; omega
theorem mxL_ge {f : Cl → Int} : ∀ {l : List Cl} {k : Cl}, k ∈ l → f k ≤ mxL f l
 | k' :: l, k, h => by
  simp only [mxL]
  rcases List.mem_cons.1 h with rfl | h
  ·omega
  ·have := mxL_ge (f := f) h; omega
theorem mnL_at {f : Cl → Int} : ∀ {l : List Cl}, l ≠ [] → (∀ k ∈ l, f k ≤ 99) → ∃ k ∈ l, mnL f l = f k
 | [k], _, h => ⟨k, by simp, by simp only [mnL]; have := h k (by simp); omega⟩
 | k :: k' :: l, _, h => by
  obtain ⟨q, hq, he⟩ := mnL_at (f := f) (l := k' :: l) (by simp) fun x hx => h x (List.mem_cons_of_mem _ hx)
  rw [mnL, he]
  by_cases c : f k ≤ f q
  ·exact ⟨k, List.mem_cons_self, by omega⟩
  ·exact ⟨q, List.mem_cons_of_mem _ hq, by omega⟩
theorem mxL_at {f : Cl → Int} : ∀ {l : List Cl}, l ≠ [] → (∀ k ∈ l, -1 ≤ f k) → ∃ k ∈ l, mxL f l = f k
 | [k], _, h => ⟨k, by simp, by simp only [mxL]; have := h k (by simp); omega⟩
 | k :: k' :: l, _, h => by
  obtain ⟨q, hq, he⟩ := mxL_at (f := f) (l := k' :: l) (by simp) fun x hx => h x (List.mem_cons_of_mem _ hx)
  rw [mxL, he]
  by_cases c : f q ≤ f k
  ·exact ⟨k, List.mem_cons_self, by omega⟩
  ·exact ⟨q, List.mem_cons_of_mem _ hq, by omega⟩
def OnG (g : Gd) (k : Cl) : Prop := 0 ≤ k.r ∧ k.r < g.R ∧ 0 ≤ k.c ∧ k.c < g.C
structure GOk (g : Gd) : Prop where
 R : 1 ≤ g.R ∧ g.R ≤ 6
 C : 1 ≤ g.C ∧ g.C ≤ 6
 most : 1 ≤ g.most ∧ g.most ≤ 36
theorem bbx_in {l : List Cl} {k : Cl} (h : k ∈ l) : inP (bbx l) k := by
 have a := mnL_le (f := (·.r)) h; have b := mnL_le (f := (·.c)) h
 have c := mxL_ge (f := (·.r)) h; have d := mxL_ge (f := (·.c)) h
 unfold inP bbx
 dsimp only; omega
theorem bbx_pos {l : List Cl} (h : l ≠ []) : 1 ≤ (bbx l).h ∧ 1 ≤ (bbx l).w := by
 obtain ⟨k, hk⟩ := List.exists_mem_of_ne_nil _ h
 obtain ⟨a, b, c, d⟩ := bbx_in hk
 omega
theorem bbx_le {l : List Cl} {p : Pc} (h : l ≠ []) (hb : ∀ k ∈ l, -1 ≤ k.r ∧ k.r ≤ 99 ∧ -1 ≤ k.c ∧ k.c ≤ 99) (hp : ∀ k ∈ l, inP p k) : PcLe (bbx l) p := by
 obtain ⟨k1, m1, e1⟩ := mnL_at (f := (·.r)) h fun k hk => (hb k hk).2.1
 obtain ⟨k2, m2, e2⟩ := mnL_at (f := (·.c)) h fun k hk => (hb k hk).2.2.2
 obtain ⟨k3, m3, e3⟩ := mxL_at (f := (·.r)) h fun k hk => (hb k hk).1
 obtain ⟨k4, m4, e4⟩ := mxL_at (f := (·.c)) h fun k hk => (hb k hk).2.2.1
 have a := hp k1 m1; have b := hp k2 m2; have c := hp k3 m3; have d := hp k4 m4
 unfold inP at a b c d
 unfold PcLe bbx
 dsimp only at e1 e2 e3 e4 ⊢
 omega
theorem on_bd {g : Gd} (hg : GOk g) {k : Cl} (h : OnG g k) : -1 ≤ k.r ∧ k.r ≤ 99 ∧ -1 ≤ k.c ∧ k.c ≤ 99 := by
 obtain ⟨a, b, c, d⟩ := h
 have := hg.R; have := hg.C
 omega
structure Mends (g : Gd) (K : List Cl) (ps : List Pc) : Prop where
 lies : ∀ p ∈ ps, Lies g p
 has : ∀ k ∈ K, ∃ p ∈ ps, inP p k
def arL (ps : List Pc) : Int := (ps.map arP).sum
structure jr (g : Gd) (K : List Cl) (n : Nat) (c : Int) : Prop where
 ex : ∃ ps, Mends g K ps ∧ ps.length = n ∧ arL ps = c
 le : ∀ ps, Mends g K ps → n < ps.length ∨ n = ps.length ∧ c ≤ arL ps
theorem best_uniq {g : Gd} {K : List Cl} {n m : Nat} {c d : Int} (h : jr g K n c) (k : jr g K m d) : n = m ∧ c = d := by
 obtain ⟨p, p1, p2, p3⟩ := h.ex
 obtain ⟨q, q1, q2, q3⟩ := k.ex
 have a := h.le q q1
 have b := k.le p p1
 omega
theorem best_nil {g : Gd} : jr g [] 0 0 := ⟨⟨[], ⟨fun p h => (by cases h), fun k h => (by cases h)⟩, rfl, rfl⟩, fun ps hp => by
 cases ps with
 | nil => exact .inr ⟨rfl, Int.le_refl _⟩
 | cons p ps => exact .inl (by simp)⟩
theorem mends_mem {g : Gd} {K K' : List Cl} {ps : List Pc} (h : Mends g K ps) (hs : ∀ k ∈ K', k ∈ K) : Mends g K' ps := ⟨h.lies, fun k hk => h.has k (hs k hk)⟩
theorem best_mem {g : Gd} {K K' : List Cl} {n : Nat} {c : Int} (h : jr g K n c) (hs : ∀ k, k ∈ K ↔ k ∈ K') : jr g K' n c := by
 obtain ⟨ps, p1, p2, p3⟩ := h.ex
 exact ⟨⟨ps, mends_mem p1 fun k hk => (hs k).2 hk, p2, p3⟩, fun qs hq => h.le qs (mends_mem hq fun k hk => (hs k).1 hk)⟩
theorem ar_pos {g : Gd} {p : Pc} (h : Lies g p) : 1 ≤ arP p := by
 have := h.h; have := h.w
 unfold arP
 have := Int.mul_le_mul (a := 1) (b := 1) (c := p.h) (d := p.w) (by omega) (by omega) (by omega) (by omega)
 omega
theorem arL_erase {ps : List Pc} {p : Pc} (h : p ∈ ps) : arL (ps.erase p) + arP p = arL ps := by
 induction ps with
 | nil => cases h
 | cons q ps ih =>
  by_cases c : q = p
  ·subst c
   rw [List.erase_cons_head]; unfold arL; rw [List.map_cons, List.sum_cons]; omega
  ·rw [List.erase_cons_tail (by simpa using c)]
   rcases List.mem_cons.1 h with rfl | h
   ·exact absurd rfl c
   ·have := ih h
    unfold arL at *
    rw [List.map_cons, List.map_cons, List.sum_cons, List.sum_cons]; omega
theorem best_step {g : Gd} (hg : GOk g) {K : List Cl} {k0 : Cl} (h0 : k0 ∈ K) (hon : ∀ k ∈ K, OnG g k) {n : Nat} {c : Int}
  (hex : ∃ K1 K2 m d, (∀ k, k ∈ K ↔ k ∈ K1 ∨ k ∈ K2) ∧ Lies g (bbx K1) ∧ jr g K2 m d ∧ n = m + 1 ∧ c = d + arP (bbx K1))
  (hle : ∀ p, Lies g p → inP p k0 → ∃ K1 m d, K1 ≠ [] ∧ (∀ k ∈ K1, k ∈ K ∧ inP p k) ∧ jr g (K.filter fun k => !decide (inP p k)) m d ∧ (n < m + 1 ∨ n = m + 1 ∧ c ≤ d + arP (bbx K1))) : jr g K n c := by
 obtain ⟨K1, K2, m, d, e1, e2, e3, rfl, rfl⟩ := hex
 obtain ⟨ps, p1, p2, p3⟩ := e3.ex
 refine ⟨⟨bbx K1 :: ps, ⟨fun p hp => ?_, fun k hk => ?_⟩, by simp [p2], ?_⟩, fun qs hq => ?_⟩
 ·rcases List.mem_cons.1 hp with rfl | hp
  ·exact e2
  ·exact p1.lies p hp
 ·rcases (e1 k).1 hk with h | h
  ·exact ⟨_, List.mem_cons_self, bbx_in h⟩
  ·obtain ⟨p, h1, h2⟩ := p1.has k h
   exact ⟨p, List.mem_cons_of_mem _ h1, h2⟩
 ·unfold arL at *; rw [List.map_cons, List.sum_cons]; omega
 ·obtain ⟨p, hp, hpk⟩ := hq.has k0 h0
  obtain ⟨L1, m', d', f1, f2, f3, f4⟩ := hle p (hq.lies p hp) hpk
  have hm : Mends g (K.filter fun k => !decide (inP p k)) (qs.erase p) := by
   refine ⟨fun q h => hq.lies q (List.mem_of_mem_erase h), fun k hk => ?_⟩
   obtain ⟨hk1, hk2⟩ := List.mem_filter.1 hk
   obtain ⟨q, h1, h2⟩ := hq.has k hk1
   refine ⟨q, ?_, h2⟩
   have hne : q ≠ p := fun e => by subst e; simp [h2] at hk2
   exact (List.mem_erase_of_ne hne).2 h1
  have h5 := f3.le _ hm
  have h6 := arL_erase hp
  have h7 := List.length_erase_of_mem hp
  have h8 := List.length_pos_of_mem hp
  have h9 : arP (bbx L1) ≤ arP p := ar_le (bbx_le f1 (fun k hk => on_bd hg (hon k (f2 k hk).1)) fun k hk => (f2 k hk).2) (by have := bbx_pos f1; omega) (by have := bbx_pos f1; omega)
  omega
end Go.Pm
set_option linter.unusedVariables false
namespace Go.Pm
open Go.Gl Go.Lw
theorem big_bit {x j : Nat} (h : x.testBit j = true) : x ≠ 0 := fun e => by rw [e, Nat.zero_testBit] at h; cases h
theorem bit_lt {x n j : Nat} (h : x < 2 ^ n) (hj : x.testBit j = true) : j < n := by
 apply Classical.byContradiction
 intro hc
 rw [Nat.testBit_lt_two_pow (Nat.lt_of_lt_of_le h (Nat.pow_le_pow_right (by decide) (by omega)))] at hj; cases hj
theorem lt_bitT {x y i : Nat} (h1 : x.testBit i = false) (h2 : y.testBit i = true) (h3 : ∀ j, i < j → x.testBit j = y.testBit j) : x < y := by
 have hd : x / 2 ^ (i + 1) = y / 2 ^ (i + 1) := Nat.eq_of_testBit_eq fun k => by
  rw [Nat.testBit_div_two_pow, Nat.testBit_div_two_pow]; exact h3 _ (by omega)
 have e1 := Nat.div_add_mod x (2 ^ (i + 1))
 have e2 := Nat.div_add_mod y (2 ^ (i + 1))
 have hx : x % 2 ^ (i + 1) < 2 ^ i := Nat.lt_pow_two_of_testBit _ fun k hk => by
  rw [Nat.testBit_mod_two_pow]
  by_cases c : k = i
  ·subst c; rw [h1]; simp
  ·have : ¬ k < i + 1 := by omega
   simp [this]
 have hy : 2 ^ i ≤ y % 2 ^ (i + 1) := Nat.ge_two_pow_of_testBit (i := i) (by rw [Nat.testBit_mod_two_pow, h2]; simp)
 rw [hd] at e1
 omega
theorem top_bit {x y : Nat} (h : x < y) : ∃ i, x.testBit i = false ∧ y.testBit i = true ∧ ∀ j, i < j → x.testBit j = y.testBit j := by
 have key : ∀ n, (∀ j, n ≤ j → x.testBit j = y.testBit j) → (∃ i, x.testBit i ≠ y.testBit i) → ∃ i, x.testBit i ≠ y.testBit i ∧ ∀ j, i < j → x.testBit j = y.testBit j := by
  intro n
  induction n with
  | zero => rintro h1 ⟨i, hi⟩; exact absurd (h1 i (Nat.zero_le _)) hi
  | succ n ih =>
   intro h1 h2
   by_cases c : x.testBit n = y.testBit n
   ·exact ih (fun j hj => by
     by_cases e : j = n
     ·subst e; exact c
     ·exact h1 j (by omega)) h2
   ·exact ⟨n, c, fun j hj => h1 j (by omega)⟩
 have hne : ∃ i, x.testBit i ≠ y.testBit i := by
  apply Classical.byContradiction
  intro hc
  have : x = y := Nat.eq_of_testBit_eq fun i => by
   apply Classical.byContradiction
   intro hd; exact hc ⟨i, hd⟩
  omega
 obtain ⟨i, h1, h2⟩ := key (y + 1) (fun j hj => by
  have e1 : y.testBit j = false := Nat.testBit_lt_two_pow (Nat.lt_of_lt_of_le Nat.lt_two_pow_self (Nat.pow_le_pow_right (by decide) (show y ≤ j by omega)))
  have e2 : x.testBit j = false := Nat.testBit_lt_two_pow (Nat.lt_of_lt_of_le Nat.lt_two_pow_self (Nat.pow_le_pow_right (by decide) (show x ≤ j by omega)))
  rw [e1, e2]) hne
 refine ⟨i, ?_, ?_, h2⟩
 ·cases c : x.testBit i with
  | false => rfl
  | true =>
   cases d : y.testBit i with
   | true => rw [c, d] at h1; exact absurd rfl h1
   | false => have := lt_bitT d c fun j hj => (h2 j hj).symm; omega
 ·cases d : y.testBit i with
  | true => rfl
  | false =>
   cases c : x.testBit i with
   | false => rw [c, d] at h1; exact absurd rfl h1
   | true => have := lt_bitT d c fun j hj => (h2 j hj).symm; omega
theorem carry {x j i : Nat} (h1 : x.testBit j = true) (h2 : (x + 1).testBit j = false) (hi : i < j) : x.testBit i = true := by
 have hm : x % 2 ^ j = 2 ^ j - 1 := by
  apply Classical.byContradiction
  intro hc
  have hp := Nat.two_pow_pos j
  have hlt := Nat.mod_lt x hp
  have e := Nat.div_add_mod x (2 ^ j)
  have hd : (x + 1) / 2 ^ j = x / 2 ^ j := by
   refine Nat.div_eq_of_lt_le ?_ ?_
   ·rw [Nat.mul_comm]; omega
   ·rw [Nat.mul_comm, Nat.mul_add, Nat.mul_one]; omega
  rw [Nat.testBit_eq_decide_div_mod_eq, hd, ← Nat.testBit_eq_decide_div_mod_eq, h1] at h2
  cases h2
 have : (x % 2 ^ j).testBit i = true := by rw [hm, Nat.testBit_two_pow_sub_one]; simp [hi]
 rw [Nat.testBit_mod_two_pow] at this
 simpa [hi] using this
def SubB (q m : Nat) : Prop := ∀ i, q.testBit i = true → m.testBit i = true
theorem next_part {q part m : Nat} (hq : SubB q m) (hp : SubB part m) (h : q < part) : q ≤ (part - 1) &&& m := by
 apply Classical.byContradiction
 intro hc
 obtain ⟨i, i1, i2, i3⟩ := top_bit (show (part - 1) &&& m < q by omega)
 rw [Nat.testBit_and, hq i i2, Bool.and_true] at i1
 have hne : q ≠ part - 1 := fun e => by rw [e, i1] at i2; cases i2
 obtain ⟨j, j1, j2, j3⟩ := top_bit (show q < part - 1 by omega)
 have hij : i < j := by
  apply Classical.byContradiction
  intro hd
  by_cases e : i = j
  ·subst e; rw [i1] at j2; cases j2
  ·have := j3 i (by omega)
   rw [i1, i2] at this; cases this
 have h1 := i3 j hij
 rw [j1, Nat.testBit_and, j2, Bool.true_and] at h1
 have h2 : part.testBit j = false := by
  cases c : part.testBit j with
  | false => rfl
  | true => rw [hp j c] at h1; cases h1
 have h3 := carry j2 (by rw [show part - 1 + 1 = part by omega]; exact h2) hij
 rw [i1] at h3; cases h3
theorem sub_le {q m : Nat} (h : SubB q m) : q ≤ m := by
 apply Classical.byContradiction
 intro hc
 obtain ⟨i, i1, i2, _⟩ := top_bit (show m < q by omega)
 rw [h i i2] at i1; cases i1
theorem and_sub (a m : Nat) : SubB (a &&& m) m := fun i hi => by rw [Nat.testBit_and, Bool.and_eq_true] at hi; exact hi.2
def jb {α : Type} (K : List α) (b : Nat) : Nat → List α
 | 0 => []
 | n + 1 => match K[n]? with
  | some x => if b.testBit n = true then jb K b n ++ [x] else jb K b n
  | none => jb K b n
def sel {α : Type} (K : List α) (b : Nat) : List α := jb K b K.length
theorem selK_at {α : Type} {K : List α} {b n : Nat} {x : α} (h : K[n]? = some x) : jb K b (n + 1) = if b.testBit n = true then jb K b n ++ [x] else jb K b n := by simp only [jb, h]
theorem selK_mem {α : Type} {K : List α} {b : Nat} {x : α} : ∀ n, x ∈ jb K b n ↔ ∃ i, i < n ∧ K[i]? = some x ∧ b.testBit i = true
 | 0 => by simp [jb]
 | n + 1 => by
  have ih := selK_mem (K := K) (b := b) (x := x) n
  cases c : K[n]? with
  | none =>
   simp only [jb, c]
   rw [ih]
   constructor
   ·rintro ⟨i, a, e⟩; exact ⟨i, by omega, e⟩
   ·rintro ⟨i, a, e, f⟩
    refine ⟨i, ?_, e, f⟩
    apply Classical.byContradiction
    intro hc
    obtain rfl : i = n := by omega
    rw [c] at e; cases e
  | some y =>
   rw [selK_at c]
   split
   ·rename_i hb
    rw [List.mem_append, List.mem_singleton, ih]
    constructor
    ·rintro (⟨i, a, e⟩ | rfl)
     ·exact ⟨i, by omega, e⟩
     ·exact ⟨n, by omega, c, hb⟩
    ·rintro ⟨i, a, e, f⟩
     by_cases g : i = n
     ·subst g; rw [c] at e; cases e; exact .inr rfl
     ·exact .inl ⟨i, by omega, e, f⟩
   ·rename_i hb
    rw [ih]
    constructor
    ·rintro ⟨i, a, e⟩; exact ⟨i, by omega, e⟩
    ·rintro ⟨i, a, e, f⟩
     by_cases g : i = n
     ·subst g; exact absurd f hb
     ·exact ⟨i, by omega, e, f⟩
theorem qY {α : Type} {K : List α} {b : Nat} {x : α} : x ∈ sel K b ↔ ∃ i, K[i]? = some x ∧ b.testBit i = true := by
 unfold sel
 rw [selK_mem]
 constructor
 ·rintro ⟨i, _, h⟩; exact ⟨i, h⟩
 ·rintro ⟨i, h1, h2⟩; exact ⟨i, (List.getElem?_eq_some_iff.1 h1).1, h1, h2⟩
theorem sel_ne {α : Type} {K : List α} {b : Nat} (hb : b ≠ 0) (hlt : b < 2 ^ K.length) : sel K b ≠ [] := fun e => by
 obtain ⟨i, hi⟩ := Nat.exists_testBit_of_ne_zero hb
 obtain ⟨x, hx⟩ : ∃ x, K[i]? = some x := ⟨_, List.getElem?_eq_getElem (bit_lt hlt hi)⟩
 have : x ∈ sel K b := qY.2 ⟨i, hx, hi⟩
 rw [e] at this; cases this
theorem sel_in {α : Type} {K : List α} {b : Nat} {x : α} (h : x ∈ sel K b) : x ∈ K := by
 obtain ⟨i, h1, _⟩ := qY.1 h
 exact List.mem_of_getElem? h1
theorem rest_bit {b p i : Nat} (hb : b < 1024) (hp : p < 1024) : (qI b p).testBit i = (b.testBit i && !p.testBit i) := clrB_bit _ _ _ (by omega) (by omega)
theorem rest_lt {b p : Nat} (hb : b < 1024) (hp : p < 1024) (hs : SubB p b) (h0 : p ≠ 0) : qI b p < b := by
 obtain ⟨i, hi⟩ := Nat.exists_testBit_of_ne_zero h0
 have hne : qI b p ≠ b := fun e => by
  have := rest_bit (i := i) hb hp
  rw [e, hs i hi, hi] at this; cases this
 have := clrB_le b p
 omega
end Go.Pm
set_option linter.unusedVariables false
namespace Go.Pm
open Go.Gl Go.Lw
theorem low_at {b : Nat} (hb : b ≠ 0) : ∃ i, b.testBit i = true ∧ ∀ j, j < i → b.testBit j = false := by
 obtain ⟨k, hk⟩ := Nat.exists_testBit_of_ne_zero hb
 have key : ∀ n, n ≤ k + 1 → (∀ j, j < n → b.testBit j = false) ∨ ∃ i, b.testBit i = true ∧ ∀ j, j < i → b.testBit j = false := by
  intro n
  induction n with
  | zero => intro _; exact .inl fun j hj => absurd hj (Nat.not_lt_zero j)
  | succ n ih =>
   intro hn
   rcases ih (by omega) with h | h
   ·cases c : b.testBit n with
    | true => exact .inr ⟨n, c, h⟩
    | false =>
     exact .inl fun j hj => by
      by_cases e : j = n
      ·subst e; exact c
      ·exact h j (by omega)
   ·exact .inr h
 rcases key (k + 1) (Nat.le_refl _) with h | h
 ·have := h k (by omega); rw [hk] at this; cases this
 ·exact h
theorem low_and {b p i : Nat} (hb : b < 1024) (h1 : b.testBit i = true) (h2 : ∀ j, j < i → b.testBit j = false) : p &&& lowB b = 0 ↔ p.testBit i = false := by
 have hl : ∀ j, (lowB b).testBit j = decide (j = i) := fun j => by
  rw [lowB_bit b j (by omega)]
  by_cases e : j = i
  ·subst e
   rw [h1]
   have : ¬ ∃ k, k < j ∧ b.testBit k = true := fun ⟨k, a, c⟩ => by rw [h2 k a] at c; cases c
   simp [this]
  ·simp only [e, decide_false]
   cases c : b.testBit j with
   | false => rfl
   | true =>
    have hj : i < j := by
     apply Classical.byContradiction
     intro hd
     rw [h2 j (by omega)] at c; cases c
    have : ∃ k, k < j ∧ b.testBit k = true := ⟨i, hj, h1⟩
    simp [this]
 constructor
 ·intro h
  cases c : p.testBit i with
  | false => rfl
  | true =>
   have : (p &&& lowB b).testBit i = true := by rw [Nat.testBit_and, c, hl]; simp
   rw [h, Nat.zero_testBit] at this; cases this
 ·intro h
  refine Nat.eq_of_testBit_eq fun j => ?_
  rw [Nat.testBit_and, hl, Nat.zero_testBit]
  by_cases e : j = i
  ·subst e; rw [h]; rfl
  ·simp [e]
structure Cand (g : Gd) (K : List Cl) (b i : Nat) (part : Nat) : Prop where
 sub : SubB part b
 low : part.testBit i = true
 lies : Lies g (bbx (sel K part))
theorem best_bits {g : Gd} (hg : GOk g) {K : List Cl} (hon : ∀ k ∈ K, OnG g k) (hK : K.length ≤ 10) {b i : Nat} (hlt : b < 2 ^ K.length) (h1 : b.testBit i = true) {W : Nat → Nat × Int} (hW : ∀ r, r < b → jr g (sel K r) (W r).1 (W r).2) {n : Nat} {c : Int}
  (hex : ∃ part, Cand g K b i part ∧ n = (W (qI b part)).1 + 1 ∧ c = (W (qI b part)).2 + arP (bbx (sel K part)))
  (hle : ∀ part, Cand g K b i part → n < (W (qI b part)).1 + 1 ∨ n = (W (qI b part)).1 + 1 ∧ c ≤ (W (qI b part)).2 + arP (bbx (sel K part))) : jr g (sel K b) n c := by
 have h10 : 2 ^ K.length ≤ 1024 := Nat.pow_le_pow_right (n := 2) (by decide) hK
 obtain ⟨k0, hk0⟩ : ∃ k, K[i]? = some k := ⟨_, List.getElem?_eq_getElem (bit_lt hlt h1)⟩
 have hk0m : k0 ∈ sel K b := qY.2 ⟨i, hk0, h1⟩
 have honb : ∀ k ∈ sel K b, OnG g k := fun k hk => hon k (sel_in hk)
 refine best_step hg hk0m honb ?_ fun p hp hpk => ?_
 ·obtain ⟨part, ⟨p1, p2, p3⟩, e1, e2⟩ := hex
  have hpl : part < 1024 := by have := sub_le p1; omega
  have hp0 := big_bit p2
  refine ⟨sel K part, sel K (qI b part), _, _, fun k => ?_, p3, hW _ (rest_lt (by omega) hpl p1 hp0), e1, e2⟩
  rw [qY, qY, qY]
  constructor
  ·rintro ⟨j, a, d⟩
   cases e : part.testBit j with
   | true => exact .inl ⟨j, a, e⟩
   | false => exact .inr ⟨j, a, by rw [rest_bit (by omega) hpl, d, e]; rfl⟩
  ·rintro (⟨j, a, d⟩ | ⟨j, a, d⟩)
   ·exact ⟨j, a, p1 j d⟩
   ·rw [rest_bit (by omega) hpl, Bool.and_eq_true] at d; exact ⟨j, a, d.1⟩
 ·obtain ⟨part, hpart⟩ : ∃ part, part = mkM (fun j => b.testBit j && (match K[j]? with | some x => decide (inP p x) | none => false)) K.length := ⟨_, rfl⟩
  have hbit : ∀ j, part.testBit j = true ↔ b.testBit j = true ∧ ∃ x, K[j]? = some x ∧ inP p x := fun j => by
   rw [hpart, mkM_bit]
   constructor
   ·intro h
    rw [Bool.and_eq_true, Bool.and_eq_true] at h
    refine ⟨h.2.1, ?_⟩
    have h3 := h.2.2
    cases e : K[j]? with
    | none => rw [e] at h3; cases h3
    | some x => rw [e] at h3; exact ⟨x, rfl, of_decide_eq_true h3⟩
   ·rintro ⟨a, x, hx, hi⟩
    rw [hx, a]
    simp [hi, (List.getElem?_eq_some_iff.1 hx).1]
  have hsub : SubB part b := fun j hj => ((hbit j).1 hj).1
  have hlow : part.testBit i = true := (hbit i).2 ⟨h1, k0, hk0, hpk⟩
  have hpl : part < 1024 := by have := sub_le hsub; omega
  have hp0 := big_bit hlow
  have hK1 : ∀ k ∈ sel K part, k ∈ sel K b ∧ inP p k := fun k hk => by
   obtain ⟨j, a, d⟩ := qY.1 hk
   obtain ⟨d1, x, hx, hi⟩ := (hbit j).1 d
   rw [a] at hx; cases hx
   exact ⟨qY.2 ⟨j, a, d1⟩, hi⟩
  have hne : sel K part ≠ [] := fun e => by
   have : k0 ∈ sel K part := qY.2 ⟨i, hk0, hlow⟩
   rw [e] at this; cases this
  have hbp := bbx_pos hne
  have hl : Lies g (bbx (sel K part)) := lies_le (bbx_le hne (fun k hk => on_bd hg (honb k (hK1 k hk).1)) fun k hk => (hK1 k hk).2) hbp.1 hbp.2 hp
  refine ⟨sel K part, _, _, hne, hK1, best_mem (hW _ (rest_lt (by omega) hpl hsub hp0)) fun k => ?_, hle part ⟨hsub, hlow, hl⟩⟩
  rw [qY, List.mem_filter, qY]
  constructor
  ·rintro ⟨j, a, d⟩
   rw [rest_bit (by omega) hpl, Bool.and_eq_true, Bool.not_eq_true'] at d
   refine ⟨⟨j, a, d.1⟩, ?_⟩
   cases e : decide (inP p k) with
   | false => rfl
   | true =>
    have := (hbit j).2 ⟨d.1, k, a, of_decide_eq_true e⟩
    rw [d.2] at this; cases this
  ·rintro ⟨⟨j, a, d⟩, e⟩
   refine ⟨j, a, ?_⟩
   rw [rest_bit (by omega) hpl, d]
   cases f : part.testBit j with
   | false => rfl
   | true =>
    obtain ⟨_, x, hx, hi⟩ := (hbit j).1 f
    rw [a] at hx; cases hx
    simp [hi] at e
theorem lies_one {g : Gd} (hg : GOk g) {k : Cl} (h : OnG g k) (hf : g.fig k.r k.c = false) : Lies g (bbx [k]) := by
 obtain ⟨a, b, c, d⟩ := h
 have hR := hg.R; have hC := hg.C; have hm := hg.most
 have e : bbx [k] = ⟨k.r, k.c, 1, 1⟩ := by
  unfold bbx
  simp only [mnL, mxL]
  congr 1 <;> omega
 rw [e]
 refine ⟨by dsimp only; omega, by dsimp only; omega, by dsimp only; omega, by dsimp only; omega, fun i j h1 h2 h3 h4 => ?_, by unfold arP; dsimp only; omega⟩
 dsimp only at h1 h2 h3 h4
 obtain rfl : i = k.r := by omega
 obtain rfl : j = k.c := by omega
 exact hf
theorem sel_one {K : List Cl} {i : Nat} {k : Cl} (h : K[i]? = some k) : ∀ x, x ∈ sel K (2 ^ i) ↔ x = k := fun x => by
 rw [qY]
 constructor
 ·rintro ⟨j, a, d⟩
  rw [Nat.testBit_two_pow, decide_eq_true_eq] at d
  subst d
  rw [h] at a; cases a; rfl
 ·rintro rfl; exact ⟨i, h, Nat.testBit_two_pow_self⟩
theorem bbx_mem {l m : List Cl} (hl : l ≠ []) (hm : m ≠ []) (hb : ∀ k ∈ l, -1 ≤ k.r ∧ k.r ≤ 99 ∧ -1 ≤ k.c ∧ k.c ≤ 99) (h : ∀ k, k ∈ l ↔ k ∈ m) : bbx l = bbx m := by
 have a := bbx_le hl hb fun k hk => bbx_in ((h k).1 hk)
 have b := bbx_le hm (fun k hk => hb k ((h k).2 hk)) fun k hk => bbx_in ((h k).2 hk)
 obtain ⟨a1, a2, a3, a4⟩ := a
 obtain ⟨b1, b2, b3, b4⟩ := b
 have e : ∀ p q : Pc, p.t = q.t → p.l = q.l → p.h = q.h → p.w = q.w → p = q := fun ⟨_, _, _, _⟩ ⟨_, _, _, _⟩ h1 h2 h3 h4 => by
  dsimp only at h1 h2 h3 h4; rw [h1, h2, h3, h4]
 exact e _ _ (by omega) (by omega) (by omega) (by omega)
theorem best_le_len {g : Gd} (hg : GOk g) {K : List Cl} (hon : ∀ k ∈ K, OnG g k) (hf : ∀ k ∈ K, g.fig k.r k.c = false) {n : Nat} {c : Int} (h : jr g K n c) : n ≤ K.length := by
 have hm : Mends g K (K.map fun k => bbx [k]) := ⟨fun p hp => by
  obtain ⟨k, hk, rfl⟩ := List.mem_map.1 hp
  exact lies_one hg (hon k hk) (hf k hk), fun k hk => ⟨_, List.mem_map.2 ⟨k, hk, rfl⟩, bbx_in (by simp)⟩⟩
 rcases h.le _ hm with h | h <;> (rw [List.length_map] at h; omega)
end Go.Pm
set_option linter.unusedVariables false
namespace Go.Pm
open Go.Gl Go.Lw
structure Sh where
 rows : List ByteArray
 most : Int
abbrev bse (r : ByteArray) : List Value := [.string r]
theorem bse_len (r : ByteArray) : (bse r).length = 1 := rfl
abbrev cle (c : Cl) : List Value := [iv c.r, iv c.c]
abbrev clv (c : Cl) : Value := .agg #[iv c.r, iv c.c]
theorem cle_len (c : Cl) : (cle c).length = 2 := rfl
abbrev pce (p : Pc) : List Value := [iv p.t, iv p.l, iv p.h, iv p.w]
abbrev pcv (p : Pc) : Value := .agg #[iv p.t, iv p.l, iv p.h, iv p.w]
theorem pce_len (p : Pc) : (pce p).length = 4 := rfl
def ShV (V : View) (v : Value) (s : Sh) : Prop := ∃ a c, v = .agg #[.slice a s.rows.length c, iv s.most] ∧ Sl V bse 1 (.slice a s.rows.length c) s.rows
theorem ShV.le {V V' : View} {v : Value} {s : Sh} (h : ShV V v s) (hl : Le V V') : ShV V' v s := by
 obtain ⟨a, c, rfl, hs⟩ := h
 exact ⟨a, c, rfl, hs.le hl⟩
def row0 (s : Sh) : ByteArray := s.rows.getD 0 ByteArray.empty
def wdS (s : Sh) : Nat := (row0 s).size
def chS (s : Sh) (i k : Nat) : Int := bv (s.rows.getD i ByteArray.empty) k
def gdS (s : Sh) : Gd := ⟨s.rows.length, wdS s, fun i k => decide (chS s i.toNat k.toNat = 35), s.most⟩
def knR (r : ByteArray) (i : Nat) : Nat → List Cl
 | 0 => []
 | k + 1 => if bv r k = 111 then knR r i k ++ [⟨(i : Int), (k : Int)⟩] else knR r i k
def knK (rows : List ByteArray) : Nat → List Cl
 | 0 => []
 | i + 1 => match rows[i]? with
  | some r => knK rows i ++ knR r i r.size
  | none => knK rows i
def knL (s : Sh) : List Cl := knK s.rows s.rows.length
theorem knK_at {rows : List ByteArray} {i : Nat} {r : ByteArray} (h : rows[i]? = some r) : knK rows (i + 1) = knK rows i ++ knR r i r.size := by simp only [knK, h]
theorem knR_mem {r : ByteArray} {i : Nat} {c : Cl} : ∀ n, c ∈ knR r i n ↔ ∃ k, k < n ∧ bv r k = 111 ∧ c = ⟨(i : Int), (k : Int)⟩
 | 0 => by simp [knR]
 | n + 1 => by
  have ih := knR_mem (r := r) (i := i) (c := c) n
  simp only [knR]
  split
  ·rename_i h
   rw [List.mem_append, List.mem_singleton, ih]
   constructor
   ·rintro (⟨k, a, e⟩ | rfl)
    ·exact ⟨k, by omega, e⟩
    ·exact ⟨n, by omega, h, rfl⟩
   ·rintro ⟨k, a, e, f⟩
    by_cases g : k = n
    ·subst g; exact .inr f
    ·exact .inl ⟨k, by omega, e, f⟩
  ·rename_i h
   rw [ih]
   constructor
   ·rintro ⟨k, a, e⟩; exact ⟨k, by omega, e⟩
   ·rintro ⟨k, a, e, f⟩
    by_cases g : k = n
    ·subst g; exact absurd e h
    ·exact ⟨k, by omega, e, f⟩
theorem knR_len (r : ByteArray) (i : Nat) : ∀ n, (knR r i n).length ≤ n
 | 0 => Nat.le_refl _
 | n + 1 => by
  have := knR_len r i n
  simp only [knR]
  split
  ·rw [List.length_append, List.length_singleton]; omega
  ·omega
theorem knK_mem {rows : List ByteArray} {c : Cl} : ∀ n, c ∈ knK rows n ↔ ∃ i r k, i < n ∧ rows[i]? = some r ∧ k < r.size ∧ bv r k = 111 ∧ c = ⟨(i : Int), (k : Int)⟩
 | 0 => by simp [knK]
 | n + 1 => by
  have ih := knK_mem (rows := rows) (c := c) n
  cases h : rows[n]? with
  | none =>
   simp only [knK, h]
   rw [ih]
   constructor
   ·rintro ⟨i, r, k, a, e⟩; exact ⟨i, r, k, by omega, e⟩
   ·rintro ⟨i, r, k, a, e, f⟩
    by_cases g : i = n
    ·subst g; rw [h] at e; cases e
    ·exact ⟨i, r, k, by omega, e, f⟩
  | some r0 =>
   rw [knK_at h, List.mem_append, ih, knR_mem]
   constructor
   ·rintro (⟨i, r, k, a, e⟩ | ⟨k, a, e, f⟩)
    ·exact ⟨i, r, k, by omega, e⟩
    ·exact ⟨n, r0, k, by omega, h, a, e, f⟩
   ·rintro ⟨i, r, k, a, e, f, g, x⟩
    by_cases d : i = n
    ·subst d; rw [h] at e; cases e; exact .inr ⟨k, f, g, x⟩
    ·exact .inl ⟨i, r, k, by omega, e, f, g, x⟩
theorem kn_mem {s : Sh} {c : Cl} : c ∈ knL s ↔ ∃ (i : Nat) (r : ByteArray) (k : Nat), s.rows[i]? = some r ∧ k < r.size ∧ bv r k = 111 ∧ c = ⟨(i : Int), (k : Int)⟩ := by
 unfold knL
 rw [knK_mem]
 constructor
 ·rintro ⟨i, r, k, _, h⟩; exact ⟨i, r, k, h⟩
 ·rintro ⟨i, r, k, h⟩; exact ⟨i, r, k, (List.getElem?_eq_some_iff.1 h.1).1, h⟩
def okC (c : Int) : Bool := decide (c = 46 ∨ c = 111 ∨ c = 35)
def frR (r : ByteArray) : Bool := (bt r).all fun b => okC (b.toNat : Int)
def chE (s : Sh) : Int :=
 if ¬ (1 ≤ s.rows.length ∧ s.rows.length ≤ 6 ∧ 1 ≤ wdS s ∧ wdS s ≤ 6 ∧ 1 ≤ s.most ∧ s.most ≤ 36) then 6
 else if (s.rows.any fun r => decide (r.size ≠ wdS s)) = true then 15
 else if s.rows.all frR = false then 8
 else if 10 < (knL s).length then 4 else 0
structure ShOk (s : Sh) : Prop where
 n : 1 ≤ s.rows.length ∧ s.rows.length ≤ 6
 w : 1 ≤ wdS s ∧ wdS s ≤ 6
 m : 1 ≤ s.most ∧ s.most ≤ 36
 sz : ∀ r ∈ s.rows, r.size = wdS s
 fr : ∀ r ∈ s.rows, frR r = true
 kn : (knL s).length ≤ 10
theorem jq {s : Sh} (h : chE s = 0) : ShOk s := by
 unfold chE at h
 split at h
 ·cases h
 rename_i h1
 split at h
 ·cases h
 rename_i h2
 split at h
 ·cases h
 rename_i h3
 split at h
 ·cases h
 rename_i h4
 have h1' := Classical.byContradiction h1
 refine ⟨by omega, by omega, by omega, fun r hr => ?_, fun r hr => ?_, by omega⟩
 ·apply Classical.byContradiction
  intro hc
  exact h2 (List.any_eq_true.2 ⟨r, hr, decide_eq_true hc⟩)
 ·have : s.rows.all frR = true := by
   cases c : s.rows.all frR with
   | true => rfl
   | false => exact absurd c h3
  exact List.all_eq_true.1 this r hr
theorem chE_of {s : Sh} (h : ShOk s) : chE s = 0 := by
 unfold chE
 have := h.n; have := h.w; have := h.m; have := h.kn
 rw [if_neg (by omega), if_neg (fun hc => by
  obtain ⟨r, hr, hd⟩ := List.any_eq_true.1 hc
  exact absurd (h.sz r hr) (of_decide_eq_true hd)), if_neg (by rw [List.all_eq_true.2 h.fr]; decide), if_neg (by omega)]
theorem sh_gok {s : Sh} (h : ShOk s) : GOk (gdS s) := by
 have hn := h.n
 have hw := h.w
 refine ⟨?_, ?_, h.m⟩
 ·show 1 ≤ (s.rows.length : Int) ∧ (s.rows.length : Int) ≤ 6
  omega
 ·show 1 ≤ (wdS s : Int) ∧ (wdS s : Int) ≤ 6
  omega
theorem row_at {s : Sh} {i : Nat} {r : ByteArray} (h : s.rows[i]? = some r) : s.rows.getD i ByteArray.empty = r := by simp [List.getD, h]
theorem kn_on {s : Sh} (h : ShOk s) : ∀ k ∈ knL s, OnG (gdS s) k := fun k hk => by
 obtain ⟨i, r, j, h1, h2, h3, rfl⟩ := kn_mem.1 hk
 have hi := (List.getElem?_eq_some_iff.1 h1).1
 have hr := h.sz r (List.mem_of_getElem? h1)
 unfold OnG gdS
 dsimp only; omega
theorem kn_fig {s : Sh} (h : ShOk s) : ∀ k ∈ knL s, (gdS s).fig k.r k.c = false := fun k hk => by
 obtain ⟨i, r, j, h1, h2, h3, rfl⟩ := kn_mem.1 hk
 unfold gdS chS
 dsimp only
 rw [Int.toNat_natCast, Int.toNat_natCast, row_at h1, h3]; decide
def hasF (g : Gd) (p : Pc) : Bool := (List.range p.h.toNat).any fun i => (List.range p.w.toNat).any fun k => g.fig (p.t + i) (p.l + k)
def peE (g : Gd) (p : Pc) : Int :=
 if ¬ (1 ≤ p.h ∧ p.h ≤ g.R ∧ 1 ≤ p.w ∧ p.w ≤ g.C ∧ 0 ≤ p.t ∧ 0 ≤ p.l ∧ p.t ≤ g.R - p.h ∧ p.l ≤ g.C - p.w) then 3
 else if hasF g p = true then 20 else if g.most < arP p then 4 else 0
theorem hasF_iff {g : Gd} {p : Pc} : hasF g p = true ↔ ∃ i k, p.t ≤ i ∧ i < p.t + p.h ∧ p.l ≤ k ∧ k < p.l + p.w ∧ g.fig i k = true := by
 unfold hasF
 rw [List.any_eq_true]
 constructor
 ·rintro ⟨i, hi, h⟩
  obtain ⟨k, hk, h⟩ := List.any_eq_true.1 h
  have := List.mem_range.1 hi; have := List.mem_range.1 hk
  exact ⟨p.t + i, p.l + k, by omega, by omega, by omega, by omega, h⟩
 ·rintro ⟨i, k, h1, h2, h3, h4, h⟩
  refine ⟨(i - p.t).toNat, List.mem_range.2 (by omega), List.any_eq_true.2 ⟨(k - p.l).toNat, List.mem_range.2 (by omega), ?_⟩⟩
  rw [show p.t + ((i - p.t).toNat : Int) = i by omega, show p.l + ((k - p.l).toNat : Int) = k by omega]; exact h
theorem peE_iff {g : Gd} {p : Pc} : peE g p = 0 ↔ Lies g p := by
 unfold peE
 constructor
 ·intro h
  split at h
  ·cases h
  rename_i h1
  split at h
  ·cases h
  rename_i h2
  split at h
  ·cases h
  rename_i h3
  have h1' := Classical.byContradiction h1
  refine ⟨by omega, by omega, by omega, by omega, fun i k a b c d => ?_, by omega⟩
  cases e : g.fig i k with
  | false => rfl
  | true => exact absurd (hasF_iff.2 ⟨i, k, a, b, c, d, e⟩) h2
 ·intro h
  have := h.h; have := h.w; have := h.t; have := h.l; have := h.most
  rw [if_neg (by omega), if_neg, if_neg (by omega)]
  intro hc
  obtain ⟨i, k, a, b, c, d, e⟩ := hasF_iff.1 hc
  rw [h.fig i k a b c d] at e; cases e
end Go.Pm
set_option linter.unusedVariables false
namespace Go.Pm
open Go.Gl Go.Lw
def fgR (r : ByteArray) : Nat → Int
 | 0 => 0
 | k + 1 => fgR r k + (if bv r k = 35 then 1 else 0)
def fgN (rows : List ByteArray) : Nat → Nat → Int
 | 0, _ => 0
 | i + 1, c => fgN rows i c + fgR (rows.getD i ByteArray.empty) c
theorem fgR_bd (r : ByteArray) : ∀ k, 0 ≤ fgR r k ∧ fgR r k ≤ k
 | 0 => by simp [fgR]
 | k + 1 => by
  have := fgR_bd r k
  simp only [fgR]
  split <;> omega
theorem fgN_z (rows : List ByteArray) : ∀ i, fgN rows i 0 = 0
 | 0 => rfl
 | i + 1 => by simp only [fgN, fgR]; have := fgN_z rows i; omega
theorem fgN_bd (rows : List ByteArray) (c : Nat) : ∀ i, 0 ≤ fgN rows i c ∧ fgN rows i c ≤ i * c
 | 0 => by simp [fgN]
 | i + 1 => by
  have h1 := fgN_bd rows c i
  have h2 := fgR_bd (rows.getD i ByteArray.empty) c
  simp only [fgN]
  push_cast
  rw [Int.add_mul, Int.one_mul]
  omega
theorem fgN_step (rows : List ByteArray) (i k : Nat) : fgN rows (i + 1) k + fgN rows i (k + 1) - fgN rows i k + (if bv (rows.getD i ByteArray.empty) k = 35 then 1 else 0) = fgN rows (i + 1) (k + 1) := by
 simp only [fgN, fgR]; omega
theorem fgR_diff (r : ByteArray) (l : Nat) : ∀ m, l ≤ m → 0 ≤ fgR r m - fgR r l ∧ (0 < fgR r m - fgR r l ↔ ∃ k, l ≤ k ∧ k < m ∧ bv r k = 35)
 | 0, h => by
  obtain rfl : l = 0 := by omega
  refine ⟨by omega, ⟨fun h => by omega, fun ⟨k, a, b, _⟩ => by omega⟩⟩
 | m + 1, h => by
  by_cases c : l = m + 1
  ·subst c
   refine ⟨by omega, ⟨fun h => by omega, fun ⟨k, a, b, _⟩ => by omega⟩⟩
  ·obtain ⟨h1, h2⟩ := fgR_diff r l m (by omega)
   simp only [fgR]
   by_cases d : bv r m = 35
   ·rw [if_pos d]
    exact ⟨by omega, ⟨fun _ => ⟨m, by omega, by omega, d⟩, fun _ => by omega⟩⟩
   ·rw [if_neg d, Int.add_zero]
    refine ⟨h1, h2.trans ⟨fun ⟨k, a, b, e⟩ => ⟨k, a, by omega, e⟩, fun ⟨k, a, b, e⟩ => ⟨k, a, ?_, e⟩⟩⟩
    apply Classical.byContradiction
    intro hc
    obtain rfl : k = m := by omega
    exact d e
theorem fgN_diff (rows : List ByteArray) (t l m : Nat) (hlm : l ≤ m) : ∀ b, t ≤ b → 0 ≤ fgN rows b m - fgN rows t m - fgN rows b l + fgN rows t l ∧
  (0 < fgN rows b m - fgN rows t m - fgN rows b l + fgN rows t l ↔ ∃ i k, t ≤ i ∧ i < b ∧ l ≤ k ∧ k < m ∧ bv (rows.getD i ByteArray.empty) k = 35)
 | 0, h => by
  obtain rfl : t = 0 := by omega
  refine ⟨by omega, ⟨fun h => by omega, fun ⟨i, k, a, b, _⟩ => by omega⟩⟩
 | b + 1, h => by
  by_cases c : t = b + 1
  ·subst c
   refine ⟨by omega, ⟨fun h => by omega, fun ⟨i, k, a, b, _⟩ => by omega⟩⟩
  ·obtain ⟨h1, h2⟩ := fgN_diff rows t l m hlm b (by omega)
   obtain ⟨h3, h4⟩ := fgR_diff (rows.getD b ByteArray.empty) l m hlm
   simp only [fgN]
   refine ⟨by omega, ?_⟩
   by_cases d : ∃ k, l ≤ k ∧ k < m ∧ bv (rows.getD b ByteArray.empty) k = 35
   ·have := h4.2 d
    obtain ⟨k, a, e, f⟩ := d
    exact ⟨fun _ => ⟨b, k, by omega, by omega, a, e, f⟩, fun _ => by omega⟩
   ·have h5 : ¬ 0 < fgR (rows.getD b ByteArray.empty) m - fgR (rows.getD b ByteArray.empty) l := fun hc => d (h4.1 hc)
    constructor
    ·intro hp
     obtain ⟨i, k, a, e, f⟩ := h2.1 (by omega)
     exact ⟨i, k, a, by omega, f⟩
    ·rintro ⟨i, k, a, e, f, g, x⟩
     by_cases y : i = b
     ·subst y; exact absurd ⟨k, f, g, x⟩ d
     ·have := h2.2 ⟨i, k, a, by omega, f, g, x⟩; omega
theorem fig_sums {s : Sh} {p : Pc} (h : 0 ≤ p.t) (h1 : 0 ≤ p.l) (h2 : 0 ≤ p.h) (h3 : 0 ≤ p.w) :
  (0 < fgN s.rows (p.t + p.h).toNat (p.l + p.w).toNat - fgN s.rows p.t.toNat (p.l + p.w).toNat - fgN s.rows (p.t + p.h).toNat p.l.toNat + fgN s.rows p.t.toNat p.l.toNat) ↔ hasF (gdS s) p = true := by
 rw [(fgN_diff s.rows p.t.toNat p.l.toNat (p.l + p.w).toNat (by omega) (p.t + p.h).toNat (by omega)).2, hasF_iff]
 constructor
 ·rintro ⟨i, k, a, b, c, d, e⟩
  refine ⟨i, k, by omega, by omega, by omega, by omega, ?_⟩
  unfold gdS chS
  dsimp only
  rw [Int.toNat_natCast, Int.toNat_natCast]
  exact decide_eq_true e
 ·rintro ⟨i, k, a, b, c, d, e⟩
  unfold gdS chS at e
  dsimp only at e
  exact ⟨i.toNat, k.toNat, by omega, by omega, by omega, by omega, of_decide_eq_true e⟩
end Go.Pm
set_option linter.unusedVariables false
namespace Go.Pm
open Go.Gl Go.Lw
def shS (S : Int → Int → Bool) (l : List Int) (i : Int) : Bool := l.any fun k => S k i
def okS (S : Int → Int → Bool) (l : List Int) : Bool := decide (l.Pairwise fun a b => S a b = false)
def alG (N : Nat) (S : Int → Int → Bool) : Nat → List Int → List Int → List Int
 | 0, _, out => out
 | t + 1, begun, out =>
  if shS S begun ((N : Int) - ((t + 1 : Nat) : Int)) = true then alG N S t begun out
  else if out.length < (alG N S t (begun ++ [(N : Int) - ((t + 1 : Nat) : Int)]) (begun ++ [(N : Int) - ((t + 1 : Nat) : Int)])).length
   then alG N S t begun (alG N S t (begun ++ [(N : Int) - ((t + 1 : Nat) : Int)]) (begun ++ [(N : Int) - ((t + 1 : Nat) : Int)]))
   else alG N S t begun out
end Go.Pm
set_option linter.unusedVariables false
namespace Go.Pm
open Go.Gl Go.Lw
def shN (g : Gd) (K : List Cl) (i k : Nat) : Bool := decide (peE g (bbx (sel K (2 ^ i ||| 2 ^ k))) = 0)
def shI (g : Gd) (K : List Cl) (i k : Int) : Bool := shN g K i.toNat k.toNat
theorem nodup_lt {n : Nat} : ∀ {l : List Nat}, l.Nodup → (∀ x ∈ l, x < n) → l.length ≤ n := by
 have key : ∀ {l m : List Nat}, l.Nodup → (∀ x ∈ l, x ∈ m) → l.length ≤ m.length := by
  intro l
  induction l with
  | nil => intro m _ _; exact Nat.zero_le _
  | cons a l ih =>
   intro m hn h
   have hn' := List.nodup_cons.1 hn
   have ha := h a List.mem_cons_self
   have := ih (m := m.erase a) hn'.2 fun x hx => (List.mem_erase_of_ne (fun e => by subst e; exact hn'.1 hx)).2 (h x (List.mem_cons_of_mem _ hx))
   rw [List.length_erase_of_mem ha] at this
   have := List.length_pos_of_mem ha
   rw [List.length_cons]; omega
 intro l hn h
 have := key hn fun x hx => List.mem_range.2 (h x hx)
 rwa [List.length_range] at this
inductive Rch (N : Nat) (S : Nat → Nat → Bool) (i : Nat) : Nat → Prop
 | refl : Rch N S i i
 | step {j k : Nat} : Rch N S i j → k < N → S j k = true → Rch N S i k
def IsPart (N : Nat) (S : Nat → Nat → Bool) (i : Nat) (l : List Int) : Prop := l.Pairwise (· < ·) ∧ ∀ x, x ∈ l ↔ ∃ k : Nat, x = (k : Int) ∧ Rch N S i k
theorem part_uniq {N : Nat} {S : Nat → Nat → Bool} {i : Nat} {l m : List Int} (h : IsPart N S i l) (k : IsPart N S i m) : l = m := sorted_ext h.1 k.1 fun x => by rw [h.2, k.2]
inductive PrtK (N : Nat) (S : Nat → Nat → Bool) : Nat → List (List Int) → Prop
 | zero : PrtK N S 0 []
 | skip {n : Nat} {out : List (List Int)} : PrtK N S n out → (∃ l ∈ out, (n : Int) ∈ l) → PrtK N S (n + 1) out
 | add {n : Nat} {out : List (List Int)} {l : List Int} : PrtK N S n out → (¬ ∃ l ∈ out, (n : Int) ∈ l) → IsPart N S n l → PrtK N S (n + 1) (out ++ [l])
theorem prtK_uniq {N : Nat} {S : Nat → Nat → Bool} : ∀ {n : Nat} {a b : List (List Int)}, PrtK N S n a → PrtK N S n b → a = b
 | 0, a, b, ha, hb => by cases ha; cases hb; rfl
 | n + 1, a, b, ha, hb => by
  cases ha with
  | skip h1 h2 =>
   cases hb with
   | skip k1 k2 => exact prtK_uniq h1 k1
   | add k1 k2 k3 => have := prtK_uniq h1 k1; subst this; exact absurd h2 k2
  | add h1 h2 h3 =>
   cases hb with
   | skip k1 k2 => have := prtK_uniq h1 k1; subst this; exact absurd k2 h2
   | add k1 k2 k3 => have := prtK_uniq h1 k1; subst this; rw [part_uniq h3 k3]
end Go.Pm
set_option linter.unusedVariables false
namespace Go.Pm
open Go.Gl Go.Lw
theorem mnL_bd {f : Cl → Int} : ∀ {l : List Cl}, (∀ k ∈ l, 0 ≤ f k) → 0 ≤ mnL f l ∧ mnL f l ≤ 99
 | [], _ => by simp [mnL]
 | k :: l, h => by
  have a := h k List.mem_cons_self
  have b := mnL_bd (f := f) (l := l) fun x hx => h x (List.mem_cons_of_mem _ hx)
  simp only [mnL]; omega
theorem mxL_bd {f : Cl → Int} : ∀ {l : List Cl}, (∀ k ∈ l, f k ≤ 99) → -1 ≤ mxL f l ∧ mxL f l ≤ 99
 | [], _ => by simp [mxL]
 | k :: l, h => by
  have a := h k List.mem_cons_self
  have b := mxL_bd (f := f) (l := l) fun x hx => h x (List.mem_cons_of_mem _ hx)
  simp only [mxL]; omega
theorem ar_bd {h w : Int} (h1 : 1 ≤ h ∧ h ≤ 6) (w1 : 1 ≤ w ∧ w ≤ 6) : 1 ≤ h * w ∧ h * w ≤ 36 := by
 have a := Int.mul_le_mul (a := 1) (b := 1) (c := h) (d := w) (by omega) (by omega) (by omega) (by omega)
 have b := Int.mul_le_mul (a := h) (b := w) (c := 6) (d := 6) (by omega) (by omega) (by omega) (by omega)
 omega
def frE (g : Gd) : List Pc → Int
 | [] => 0
 | p :: ps => if peE g p ≠ 0 then peE g p else frE g ps
theorem frE_ok {g : Gd} : ∀ {ps : List Pc}, frE g ps = 0 ↔ ∀ p ∈ ps, Lies g p
 | [] => by simp [frE]
 | p :: ps => by
  have ih := frE_ok (g := g) (ps := ps)
  simp only [frE]
  by_cases c : peE g p ≠ 0
  ·rw [if_pos c]
   exact ⟨fun h => absurd h c, fun h => absurd (peE_iff.2 (h p List.mem_cons_self)) c⟩
  ·rw [if_neg c, ih]
   have hp := peE_iff.1 (Classical.byContradiction c)
   constructor
   ·intro h q hq
    rcases List.mem_cons.1 hq with rfl | hq
    ·exact hp
    ·exact h q hq
   ·intro h q hq; exact h q (List.mem_cons_of_mem _ hq)
theorem frE_at {g : Gd} : ∀ {ps : List Pc} {k : Nat} {p : Pc}, (∀ q ∈ ps.take k, Lies g q) → ps[k]? = some p → peE g p ≠ 0 → frE g ps = peE g p
 | [], k, p, _, h, _ => by simp at h
 | q :: ps, 0, p, _, h, hp => by simp at h; subst h; simp only [frE, if_pos hp]
 | q :: ps, k + 1, p, hl, h, hp => by
  have hq := peE_iff.2 (hl q (by simp))
  simp only [frE, hq]
  rw [if_neg (by simp)]
  exact frE_at (k := k) (fun x hx => hl x (by rw [List.take_succ_cons]; exact List.mem_cons_of_mem _ hx)) (by simpa using h) hp
def hasB (ps : List Pc) (k : Cl) : Bool := ps.any fun p => decide (inP p k)
def cpR (s : Sh) (ps : List Pc) : Int × Int :=
 if chE s ≠ 0 then (0, chE s) else if 10 < ps.length then (0, 6) else if frE (gdS s) ps ≠ 0 then (0, frE (gdS s) ps)
 else if (knL s).all (hasB ps) = true then (arL ps, 0) else (0, 14)
theorem arL_snoc (ps : List Pc) (p : Pc) : arL (ps ++ [p]) = arL ps + arP p := by unfold arL; rw [List.map_append, List.sum_append]; simp
theorem arL_bd {g : Gd} (hg : GOk g) : ∀ {ps : List Pc}, (∀ p ∈ ps, Lies g p) → 0 ≤ arL ps ∧ arL ps ≤ 36 * ps.length
 | [], _ => by simp [arL]
 | p :: ps, h => by
  have ih := arL_bd hg fun q hq => h q (List.mem_cons_of_mem _ hq)
  have hp := h p List.mem_cons_self
  have a := ar_pos hp
  have b := hp.most
  have c := hg.most
  unfold arL at *
  rw [List.map_cons, List.sum_cons, List.length_cons]
  push_cast
  omega
theorem cpR_mends {s : Sh} {ps : List Pc} (h : ShOk s) (h10 : ps.length ≤ 10) (hm : Mends (gdS s) (knL s) ps) : cpR s ps = (arL ps, 0) := by
 unfold cpR
 have hf := frE_ok.2 hm.lies
 rw [if_neg (by rw [chE_of h]; simp), if_neg (by omega), if_neg (by rw [hf]; simp), if_pos]
 rw [List.all_eq_true]
 intro k hk
 obtain ⟨p, hp, hi⟩ := hm.has k hk
 exact List.any_eq_true.2 ⟨p, hp, decide_eq_true hi⟩
end Go.Pm
namespace Go.Lw
structure U8 where
 n : Int
 h : 0 ≤ n ∧ n ≤ 255
abbrev e8 (x : U8) : List Value := [.int .u8 x.n]
end Go.Lw
namespace Go.Pm
open Go.Gl Go.Lw
structure GvS (g : Gd) (K : List Cl) (i : Nat) (ps : List Pc) : Prop where
 lies : ∀ p ∈ ps, Lies g p
 has : ∀ j k, j < i → K[j]? = some k → ∃ p ∈ ps, inP p k
 len : ps.length ≤ i
end Go.Pm
set_option linter.unusedVariables false
set_option maxRecDepth 100000
namespace Go.Proofs.YtghomjjffllkeaaGreatDoor
open Go.Lw Go.Gl Go.Pm Go.RowKit Go.ChangeShapes Go.WideShapes Go.ChangeAt Go.Joins Go.Deep
theorem own : ownKnob Tryz.prog.godebug = none := by kernel_rfl
def seatLaid : List (String × DataW Unit) := [("unicode/utf8.acceptRanges", Rows.laid_unicode_utf8_acceptRanges), ("unicode/utf8.first", Rows.laid_unicode_utf8_first)]
theorem seat_laid (os : Os) (args : Array Value) : laidMetH Tryz.prog seatLaid ((World.laidAll Tryz.prog os seatLaid).forCall (fun _ _ => 0) ⟨#[], args, []⟩).memory := by
 rw [MakeChecks.laidMetH_plain _ _ _ (by kernel_rfl)]
 exact laidMet_laidAll _ (by kernel_rfl) (by kernel_rfl)
theorem laidOut : laidOutB Tryz.prog = true := by kernel_rfl
end Go.Proofs.YtghomjjffllkeaaGreatDoor
set_option linter.unusedVariables false
namespace Go.Proofs.YtghomjjffllkeaaGreatDoor
open Go.Shelf Go.RowKit Go.Lib
def srt_ren : Go.Shelf.Ren := ⟨fun | 125 => 127 | 128 => 145 | 129 => 146 | 189 => 100 | 215 => 161 | 216 => 142 | 257 => 126 | 294 => 136 | 295 => 137 | 296 => 138 | 297 => 139 | 298 => 140 | 299 => 141 | 300 => 143 | 301 => 144 | 328 => 156 | 329 => 157 | 330 => 158 | 331 => 159 | 332 => 160 | 343 => 166 | n => n, fun | 0 => 0 | 3 => 3 | 4 => 4 | 5 => 5 | 9 => 9 | 28 => 39 | 46 => 171 | 51 => 186 | 53 => 188 | 131 => 132 | 182 => 179 | 183 => 180 | 218 => 194 | 222 => 198 | 228 => 207 | 229 => 94 | n => n, fun | n => n⟩
theorem lay_sort : Lays.n189 Tryz.prog srt_ren where
 mixed := by kernel_rfl
 f125 := Tryz.func127.trans (congrArg some (by kernel_rfl))
 f128 := Tryz.func145.trans (congrArg some (by kernel_rfl))
 f129 := Tryz.func146.trans (congrArg some (by kernel_rfl))
 f189 := Tryz.func100.trans (congrArg some (by kernel_rfl))
 f215 := Tryz.func161.trans (congrArg some (by kernel_rfl))
 f216 := Tryz.func142.trans (congrArg some (by kernel_rfl))
 f257 := Tryz.func126.trans (congrArg some (by kernel_rfl))
 f294 := Tryz.func136.trans (congrArg some (by kernel_rfl))
 f295 := Tryz.func137.trans (congrArg some (by kernel_rfl))
 f296 := Tryz.func138.trans (congrArg some (by kernel_rfl))
 f297 := Tryz.func139.trans (congrArg some (by kernel_rfl))
 f298 := Tryz.func140.trans (congrArg some (by kernel_rfl))
 f299 := Tryz.func141.trans (congrArg some (by kernel_rfl))
 f300 := Tryz.func143.trans (congrArg some (by kernel_rfl))
 f301 := Tryz.func144.trans (congrArg some (by kernel_rfl))
 f328 := Tryz.func156.trans (congrArg some (by kernel_rfl))
 f329 := Tryz.func157.trans (congrArg some (by kernel_rfl))
 f330 := Tryz.func158.trans (congrArg some (by kernel_rfl))
 f331 := Tryz.func159.trans (congrArg some (by kernel_rfl))
 f332 := Tryz.func160.trans (congrArg some (by kernel_rfl))
 f343 := Tryz.func166.trans (congrArg some (by kernel_rfl))
 t0 := Tryz.underlying0
 a0 := Tryz.isAgg0
 z0 := Tryz.sizeOf0
 v0 := Tryz.zeroValue0
 t3 := Tryz.underlying3
 a3 := Tryz.isAgg3
 z3 := Tryz.sizeOf3
 v3 := Tryz.zeroValue3
 t4 := Tryz.underlying4
 a4 := Tryz.isAgg4
 z4 := Tryz.sizeOf4
 v4 := Tryz.zeroValue4
 t5 := Tryz.underlying5
 a5 := Tryz.isAgg5
 z5 := Tryz.sizeOf5
 v5 := Tryz.zeroValue5
 t9 := Tryz.underlying9
 a9 := Tryz.isAgg9
 z9 := Tryz.sizeOf9
 v9 := Tryz.zeroValue9
 t28 := Tryz.underlying39
 a28 := Tryz.isAgg39
 z28 := Tryz.sizeOf39
 v28 := Tryz.zeroValue39
 t46 := Tryz.underlying171
 a46 := Tryz.isAgg171
 z46 := Tryz.sizeOf171
 v46 := Tryz.zeroValue171
 t51 := Tryz.underlying186
 a51 := Tryz.isAgg186
 z51 := Tryz.sizeOf186
 v51 := Tryz.zeroValue186
 t53 := Tryz.underlying188
 a53 := Tryz.isAgg188
 z53 := Tryz.sizeOf188
 v53 := Tryz.zeroValue188
 t131 := Tryz.underlying132
 a131 := Tryz.isAgg132
 z131 := Tryz.sizeOf132
 v131 := Tryz.zeroValue132
 t182 := Tryz.underlying179
 a182 := Tryz.isAgg179
 z182 := Tryz.sizeOf179
 v182 := Tryz.zeroValue179
 t183 := Tryz.underlying180
 a183 := Tryz.isAgg180
 z183 := Tryz.sizeOf180
 v183 := Tryz.zeroValue180
 t218 := Tryz.underlying194
 a218 := Tryz.isAgg194
 z218 := Tryz.sizeOf194
 v218 := Tryz.zeroValue194
 t222 := Tryz.underlying198
 a222 := Tryz.isAgg198
 z222 := Tryz.sizeOf198
 v222 := Tryz.zeroValue198
 t228 := Tryz.underlying207
 a228 := Tryz.isAgg207
 z228 := Tryz.sizeOf207
 v228 := Tryz.zeroValue207
 t229 := Tryz.underlying94
 a229 := Tryz.isAgg94
 z229 := Tryz.sizeOf94
 v229 := Tryz.zeroValue94
end Go.Proofs.YtghomjjffllkeaaGreatDoor
set_option linter.unusedVariables false
namespace Go.Proofs.YtghomjjffllkeaaGreatDoor
open Go.Shelf Go.RowKit Go.Lib
def str_ren : Go.Shelf.Ren := ⟨fun | 119 => 163 | 120 => 151 | 137 => 162 | 138 => 86 | 143 => 121 | 151 => 133 | 152 => 150 | 156 => 84 | 160 => 85 | 165 => 110 | 166 => 111 | 169 => 107 | 195 => 119 | 197 => 132 | 217 => 152 | 218 => 120 | 219 => 135 | 224 => 154 | 225 => 153 | 227 => 114 | 228 => 131 | 231 => 112 | 232 => 113 | 233 => 115 | 234 => 116 | 235 => 117 | 236 => 118 | 240 => 129 | 241 => 130 | 260 => 149 | 266 => 164 | 267 => 155 | 271 => 134 | 276 => 147 | 277 => 148 | 314 => 165 | n => n, fun | 0 => 0 | 3 => 3 | 4 => 4 | 5 => 5 | 9 => 9 | 20 => 20 | 21 => 21 | 31 => 22 | 37 => 56 | 46 => 171 | 51 => 186 | 70 => 143 | 72 => 145 | 75 => 150 | 76 => 155 | 80 => 152 | 105 => 175 | 116 => 159 | 117 => 160 | 119 => 200 | 124 => 163 | 127 => 173 | 138 => 202 | 139 => 203 | 146 => 205 | 164 => 189 | n => n, fun | 1 => 0 | 3 => 1 | 4 => 2 | n => n⟩
theorem lay_join : Lays.n156 Tryz.prog str_ren where
 mixed := by kernel_rfl
 f156 := Tryz.func84.trans (congrArg some (by kernel_rfl))
 f165 := Tryz.func110.trans (congrArg some (by kernel_rfl))
 f166 := Tryz.func111.trans (congrArg some (by kernel_rfl))
 f169 := Tryz.func107.trans (congrArg some (by kernel_rfl))
 f240 := Tryz.func129.trans (congrArg some (by kernel_rfl))
 f241 := Tryz.func130.trans (congrArg some (by kernel_rfl))
 f276 := Tryz.func147.trans (congrArg some (by kernel_rfl))
 f277 := Tryz.func148.trans (congrArg some (by kernel_rfl))
 t0 := Tryz.underlying0
 a0 := Tryz.isAgg0
 z0 := Tryz.sizeOf0
 v0 := Tryz.zeroValue0
 t3 := Tryz.underlying3
 a3 := Tryz.isAgg3
 z3 := Tryz.sizeOf3
 v3 := Tryz.zeroValue3
 t4 := Tryz.underlying4
 a4 := Tryz.isAgg4
 z4 := Tryz.sizeOf4
 v4 := Tryz.zeroValue4
 t9 := Tryz.underlying9
 a9 := Tryz.isAgg9
 z9 := Tryz.sizeOf9
 v9 := Tryz.zeroValue9
 t20 := Tryz.underlying20
 a20 := Tryz.isAgg20
 z20 := Tryz.sizeOf20
 v20 := Tryz.zeroValue20
 t31 := Tryz.underlying22
 a31 := Tryz.isAgg22
 z31 := Tryz.sizeOf22
 v31 := Tryz.zeroValue22
 t37 := Tryz.underlying56
 a37 := Tryz.isAgg56
 z37 := Tryz.sizeOf56
 v37 := Tryz.zeroValue56
 t70 := Tryz.underlying143
 a70 := Tryz.isAgg143
 z70 := Tryz.sizeOf143
 v70 := Tryz.zeroValue143
 t72 := Tryz.underlying145
 a72 := Tryz.isAgg145
 z72 := Tryz.sizeOf145
 v72 := Tryz.zeroValue145
 t75 := Tryz.underlying150
 a75 := Tryz.isAgg150
 z75 := Tryz.sizeOf150
 v75 := Tryz.zeroValue150
 t76 := Tryz.underlying155
 a76 := Tryz.isAgg155
 z76 := Tryz.sizeOf155
 v76 := Tryz.zeroValue155
 t127 := Tryz.underlying173
 a127 := Tryz.isAgg173
 z127 := Tryz.sizeOf173
 v127 := Tryz.zeroValue173
 t164 := Tryz.underlying189
 a164 := Tryz.isAgg189
 z164 := Tryz.sizeOf189
 v164 := Tryz.zeroValue189
theorem lay_count : Lays.n138 Tryz.prog str_ren where
 mixed := by kernel_rfl
 f138 := Tryz.func86.trans (congrArg some (by kernel_rfl))
 f143 := Tryz.func121.trans (congrArg some (by kernel_rfl))
 f195 := Tryz.func119.trans (congrArg some (by kernel_rfl))
 f217 := Tryz.func152.trans (congrArg some (by kernel_rfl))
 f218 := Tryz.func120.trans (congrArg some (by kernel_rfl))
 f219 := Tryz.func135.trans (congrArg some (by kernel_rfl))
 f224 := Tryz.func154.trans (congrArg some (by kernel_rfl))
 f225 := Tryz.func153.trans (congrArg some (by kernel_rfl))
 f266 := Tryz.func164.trans (congrArg some (by kernel_rfl))
 f267 := Tryz.func155.trans (congrArg some (by kernel_rfl))
 f314 := Tryz.func165.trans (congrArg some (by kernel_rfl))
 t0 := Tryz.underlying0
 a0 := Tryz.isAgg0
 z0 := Tryz.sizeOf0
 v0 := Tryz.zeroValue0
 t3 := Tryz.underlying3
 a3 := Tryz.isAgg3
 z3 := Tryz.sizeOf3
 v3 := Tryz.zeroValue3
 t4 := Tryz.underlying4
 a4 := Tryz.isAgg4
 z4 := Tryz.sizeOf4
 v4 := Tryz.zeroValue4
 t5 := Tryz.underlying5
 a5 := Tryz.isAgg5
 z5 := Tryz.sizeOf5
 v5 := Tryz.zeroValue5
 t9 := Tryz.underlying9
 a9 := Tryz.isAgg9
 z9 := Tryz.sizeOf9
 v9 := Tryz.zeroValue9
 t46 := Tryz.underlying171
 a46 := Tryz.isAgg171
 z46 := Tryz.sizeOf171
 v46 := Tryz.zeroValue171
 t51 := Tryz.underlying186
 a51 := Tryz.isAgg186
 z51 := Tryz.sizeOf186
 v51 := Tryz.zeroValue186
 t146 := Tryz.underlying205
 a146 := Tryz.isAgg205
 z146 := Tryz.sizeOf205
 v146 := Tryz.zeroValue205
 g1 := by kernel_rfl
theorem lay_trim : Lays.n160 Tryz.prog str_ren where
 mixed := by kernel_rfl
 f119 := Tryz.func163.trans (congrArg some (by kernel_rfl))
 f120 := Tryz.func151.trans (congrArg some (by kernel_rfl))
 f137 := Tryz.func162.trans (congrArg some (by kernel_rfl))
 f151 := Tryz.func133.trans (congrArg some (by kernel_rfl))
 f152 := Tryz.func150.trans (congrArg some (by kernel_rfl))
 f160 := Tryz.func85.trans (congrArg some (by kernel_rfl))
 f197 := Tryz.func132.trans (congrArg some (by kernel_rfl))
 f217 := Tryz.func152.trans (congrArg some (by kernel_rfl))
 f224 := Tryz.func154.trans (congrArg some (by kernel_rfl))
 f225 := Tryz.func153.trans (congrArg some (by kernel_rfl))
 f227 := Tryz.func114.trans (congrArg some (by kernel_rfl))
 f228 := Tryz.func131.trans (congrArg some (by kernel_rfl))
 f231 := Tryz.func112.trans (congrArg some (by kernel_rfl))
 f232 := Tryz.func113.trans (congrArg some (by kernel_rfl))
 f233 := Tryz.func115.trans (congrArg some (by kernel_rfl))
 f234 := Tryz.func116.trans (congrArg some (by kernel_rfl))
 f235 := Tryz.func117.trans (congrArg some (by kernel_rfl))
 f236 := Tryz.func118.trans (congrArg some (by kernel_rfl))
 f260 := Tryz.func149.trans (congrArg some (by kernel_rfl))
 f266 := Tryz.func164.trans (congrArg some (by kernel_rfl))
 f271 := Tryz.func134.trans (congrArg some (by kernel_rfl))
 t0 := Tryz.underlying0
 a0 := Tryz.isAgg0
 z0 := Tryz.sizeOf0
 v0 := Tryz.zeroValue0
 t3 := Tryz.underlying3
 a3 := Tryz.isAgg3
 z3 := Tryz.sizeOf3
 v3 := Tryz.zeroValue3
 t4 := Tryz.underlying4
 a4 := Tryz.isAgg4
 z4 := Tryz.sizeOf4
 v4 := Tryz.zeroValue4
 t5 := Tryz.underlying5
 a5 := Tryz.isAgg5
 z5 := Tryz.sizeOf5
 v5 := Tryz.zeroValue5
 t9 := Tryz.underlying9
 a9 := Tryz.isAgg9
 z9 := Tryz.sizeOf9
 v9 := Tryz.zeroValue9
 t21 := Tryz.underlying21
 a21 := Tryz.isAgg21
 z21 := Tryz.sizeOf21
 v21 := Tryz.zeroValue21
 t46 := Tryz.underlying171
 a46 := Tryz.isAgg171
 z46 := Tryz.sizeOf171
 v46 := Tryz.zeroValue171
 t105 := Tryz.underlying175
 a105 := Tryz.isAgg175
 z105 := Tryz.sizeOf175
 v105 := Tryz.zeroValue175
 t116 := Tryz.underlying159
 a116 := Tryz.isAgg159
 z116 := Tryz.sizeOf159
 t117 := Tryz.underlying160
 a117 := Tryz.isAgg160
 z117 := Tryz.sizeOf160
 v117 := Tryz.zeroValue160
 t119 := Tryz.underlying200
 a119 := Tryz.isAgg200
 z119 := Tryz.sizeOf200
 t124 := Tryz.underlying163
 a124 := Tryz.isAgg163
 z124 := Tryz.sizeOf163
 v124 := Tryz.zeroValue163
 t138 := Tryz.underlying202
 a138 := Tryz.isAgg202
 z138 := Tryz.sizeOf202
 v138 := Tryz.zeroValue202
 t139 := Tryz.underlying203
 a139 := Tryz.isAgg203
 z139 := Tryz.sizeOf203
 v139 := Tryz.zeroValue203
 g3 := by kernel_rfl
 g4 := by kernel_rfl
theorem str_ext : Builder.Extra Tryz.prog str_ren where
 sizeBuilder := by kernel_rfl
 liesBuilder := by kernel_rfl
 t5 := Tryz.underlying5
 a5 := Tryz.isAgg5
 z5 := Tryz.sizeOf5
 v5 := Tryz.zeroValue5
 infoByte := by kernel_rfl
 cellsByte := by kernel_rfl
 sizeByte := by kernel_rfl
 neB5 := by decide
end Go.Proofs.YtghomjjffllkeaaGreatDoor
set_option linter.unusedVariables false
set_option linter.unusedSimpArgs false
namespace Go.Proofs.YtghomjjffllkeaaGreatDoor
open Go.Lw Go.RowKit
theorem eqS26 (x1 : Int) (x2 : Int) (x3 : Int) (x4 : Int) (x5 : Int) (x6 : Int) (x7 : Int) (x8 : Int) : EqS Tryz.prog 26 [(.int .i64 x1), (.int .i64 x2), (.int .i64 x3), (.int .i64 x4)] [(.int .i64 x5), (.int .i64 x6), (.int .i64 x7), (.int .i64 x8)] (decide (x1 = x5 ∧ x2 = x6 ∧ x3 = x7 ∧ x4 = x8)) := by
 refine ⟨by first | exact Tryz.eqGuardType26 | kernel_rfl, fun w => ?_⟩
 have u3 := Tryz.underlying3
 have a3 := Tryz.isAgg3
 have z3 := Tryz.sizeOf3
 have hS : Tryz.prog.underlying 26 = some (.struct (Tryz.prog.fieldsOf 26)) := by kernel_rfl
 have hp : Tryz.prog.stoodInHeld 26 = false := by kernel_rfl
 rw [show (10000 : Nat) = 9999 + 1 from rfl, run_equalIn_agg w 9999 26 _ _ hS hp]
 simp only [Program.fieldsOf, Tryz.underlying26]
 go_simp
 by_cases h0 : x1 = x5 <;> by_cases h1 : x2 = x6 <;> by_cases h2 : x3 = x7 <;> by_cases h3 : x4 = x8 <;> simp [*]
theorem eqS129 (x1 : Int) (x2 : Int) : EqS Tryz.prog 129 [(.int .i64 x1)] [(.int .i64 x2)] (decide (x1 = x2)) := by
 refine ⟨by first | exact Tryz.eqGuardType129 | kernel_rfl, fun w => ?_⟩
 have u3 := Tryz.underlying3
 have a3 := Tryz.isAgg3
 have z3 := Tryz.sizeOf3
 have hS : Tryz.prog.underlying 129 = some (.struct (Tryz.prog.fieldsOf 129)) := by kernel_rfl
 have hp : Tryz.prog.stoodInHeld 129 = false := by kernel_rfl
 rw [show (10000 : Nat) = 9999 + 1 from rfl, run_equalIn_agg w 9999 129 _ _ hS hp]
 simp only [Program.fieldsOf, Tryz.underlying129]
 go_simp
 by_cases h0 : x1 = x2 <;> simp [*]
end Go.Proofs.YtghomjjffllkeaaGreatDoor
set_option linter.unusedVariables false
namespace Go.Lw
open Go.RowKit
section
variable {cx : Cx} {n : Nat} {ks : List (Nat × Value)} {O : List Own} {V : View} {P : Program} {ops : Array Oper} {Qn : Act → World → Prop} {t : Tr} {i d : Nat} {T : TypeId} {pos : String} {after : Array Edge} {gd : Option (Nat × Bool)} {x y : Operand}
theorem AtT.idxZ {X E : TypeId} {len cap s j : Nat} {k : IntKind} {b : Nat} {ag : Bool} (ho : ops[i]? = some ⟨some d, .indexAddr X x y, T, pos, after, gd⟩) (hg : Gd ks ops gd) (hX : P.underlying X = some (.slice E)) (hE : tkB P E = some (ag, s))
  (hx : ev ks x = some (.slice (some ⟨b, 0, none⟩) len cap)) (hy : ev ks y = some (.int k (j : Int))) (h1 : j < len) (hn : d < n)
  (next : AtT cx n ((d, .pointer (some ⟨b, j * s, none⟩)) :: ks) O V P ops Qn t) : AtT cx n ks O V P ops Qn (.q i t) :=
 AtT.idxO ho hg hX hE hx hy (Int.natCast_nonneg j) (Int.ofNat_lt.2 h1) hn (by
  have e : 0 + (j : Int).toNat * s = j * s := by simp
  rw [e]; exact next)
end
theorem cells_pre {V : View} {b : Nat} {us rest : List Value} {E : TypeId} {fr : Nat × Nat} (h : V b = some (LC (us ++ rest) E fr)) : Cells V ⟨b, 0, none⟩ us := fun j u hj =>
 qO h j u (by rw [List.getElem?_append_left (List.getElem?_eq_some_iff.1 hj).1]; exact hj)
end Go.Lw
set_option linter.unusedSectionVars false
set_option linter.unusedSimpArgs false
set_option linter.unusedVariables false
namespace Go.Lw
open Go.RowKit
section
variable {α β : Type} [DecidableEq α] (f : α → β)
def mOf : List α → Nat → MM α β
 | [], _ => []
 | a :: l, i => (a, f a, i) :: mOf l (i + 1)
theorem mOf_snoc (a : α) : ∀ (l : List α) (i : Nat), mOf f (l ++ [a]) i = mOf f l i ++ [(a, f a, i + l.length)]
 | [], i => by simp [mOf]
 | b :: l, i => by simp [mOf, mOf_snoc a l (i + 1)]; omega
theorem mOf_mem {e : α × β × Nat} : ∀ {l : List α} {i : Nat}, e ∈ mOf f l i → e.1 ∈ l ∧ e.2.1 = f e.1 ∧ i ≤ e.2.2 ∧ e.2.2 < i + l.length
 | b :: l, i, h => by
  simp only [mOf, List.mem_cons] at h
  rcases h with rfl | h
  ·simp
  ·have := mOf_mem h
   simp only [List.mem_cons, List.length_cons]
   exact ⟨.inr this.1, this.2.1, by omega, by omega⟩
theorem mOf_has {a : α} : ∀ {l : List α} {i : Nat}, a ∈ l → ∃ j, (a, f a, j) ∈ mOf f l i
 | b :: l, i, h => by
  rcases List.mem_cons.1 h with rfl | h
  ·exact ⟨i, by simp [mOf]⟩
  ·obtain ⟨j, hj⟩ := mOf_has (l := l) (i := i + 1) h
   exact ⟨j, List.mem_cons_of_mem _ hj⟩
theorem mOf_born : ∀ (l : List α) (i : Nat), ((mOf f l i).map (·.2.2)).Nodup
 | [], _ => by simp [mOf]
 | b :: l, i => by
  simp only [mOf, List.map_cons, List.nodup_cons, mOf_born l (i + 1), and_true]
  intro h
  obtain ⟨e, he, h2⟩ := List.mem_map.1 h
  have := mOf_mem f he
  omega
theorem mOf_keys : ∀ (l : List α) (i : Nat), (mOf f l i).map (·.1) = l
 | [], _ => rfl
 | b :: l, i => by simp [mOf, mOf_keys l (i + 1)]
theorem fk_new {a : α} : ∀ {M : MM α β} {k : Nat}, (∀ e ∈ M, e.1 ≠ a) → fk a M k = none
 | [], _, _ => rfl
 | e :: M, k, h => by
  have : ¬ a = e.1 := fun he => h e (by simp) he.symm
  simp only [fk, this, if_false]
  exact fk_new fun e he => h e (List.mem_cons_of_mem _ he)
theorem mget_fn {a : α} {z : β} : ∀ {M : MM α β}, (∀ e ∈ M, e.2.1 = f e.1) → (∃ e ∈ M, e.1 = a) → mget a z M = f a
 | [], _, h => by obtain ⟨_, h, _⟩ := h; cases h
 | e :: M, h1, h2 => by
  by_cases c : a = e.1
  ·simp only [mget, c, if_true]; exact h1 e (by simp)
  ·simp only [mget, c, if_false]
   refine mget_fn (fun e he => h1 e (List.mem_cons_of_mem _ he)) ?_
   obtain ⟨e', h3, h4⟩ := h2
   rcases List.mem_cons.1 h3 with rfl | h3
   ·exact absurd h4.symm c
   ·exact ⟨e', h3, h4⟩
theorem mdel_eq {a : α} : ∀ {M : MM α β}, (M.map (·.1)).Nodup → mdel a M = M.filter fun e => !decide (e.1 = a)
 | [], _ => rfl
 | e :: M, h => by
  simp only [List.map_cons, List.nodup_cons] at h
  by_cases c : a = e.1
  ·have : ∀ e' ∈ M, (!decide (e'.1 = a)) = true := fun e' he => by
    have : e'.1 ≠ a := fun hc => h.1 (by rw [← c, ← hc]; exact List.mem_map_of_mem he)
    simp [this]
   simp only [mdel, c, if_true, List.filter_cons, decide_true, Bool.not_true, Bool.false_eq_true, if_false]
   rw [← c]
   exact (List.filter_eq_self.2 this).symm
  ·have c' : ¬ e.1 = a := fun h => c h.symm
   simp [mdel, c, c', mdel_eq h.2]
end
def left {α β : Type} (g : α × β × Nat → Bool) (M : MM α β) (seen : Array Nat) : MM α β := M.filter fun e => g e || !seen.contains e.2.2
theorem left_nil {α β : Type} (g : α × β × Nat → Bool) (M : MM α β) : left g M #[] = M := by
 unfold left; rw [List.filter_eq_self.2]; intro e _; simp
theorem inj_of {γ δ : Type} (h : γ → δ) : ∀ {l : List γ} {x y : γ}, (l.map h).Nodup → x ∈ l → y ∈ l → h x = h y → x = y
 | b :: l, x, y, hn, hx, hy, e => by
  simp only [List.map_cons, List.nodup_cons] at hn
  rcases List.mem_cons.1 hx with hx' | hx' <;> rcases List.mem_cons.1 hy with hy' | hy'
  ·rw [hx', hy']
  ·exact absurd (by rw [← hx', e]; exact List.mem_map_of_mem hy') hn.1
  ·exact absurd (by rw [← hy', ← e]; exact List.mem_map_of_mem hx') hn.1
  ·exact inj_of h hn.2 hx' hy' e
theorem filter_lt {γ : Type} {p q : γ → Bool} : ∀ {l : List γ} {x : γ}, (∀ y ∈ l, p y = true → q y = true) → x ∈ l → q x = true → p x = false → (l.filter p).length < (l.filter q).length
 | b :: l, x, h, hx, hq, hp => by
  have mono : ∀ l : List γ, (∀ y ∈ l, p y = true → q y = true) → (l.filter p).length ≤ (l.filter q).length := by
   intro l
   induction l with
   | nil => intro _; simp
   | cons b l ih =>
    intro h
    have := ih fun y hy => h y (List.mem_cons_of_mem _ hy)
    by_cases c : p b = true
    ·have d := h b (by simp) c
     simp [List.filter_cons, c, d, this]
    ·simp only [List.filter_cons, c, if_false, Bool.false_eq_true]
     split
     ·simp only [List.length_cons]; omega
     ·exact this
  rcases List.mem_cons.1 hx with rfl | hx
  ·have := mono l fun y hy => h y (List.mem_cons_of_mem _ hy)
   simp only [List.filter_cons, hp, hq, if_true, if_false, Bool.false_eq_true, List.length_cons]; omega
  ·have ih := filter_lt (fun y hy => h y (List.mem_cons_of_mem _ hy)) hx hq hp
   by_cases c : p b = true
   ·have d := h b (by simp) c
    simp only [List.filter_cons, c, d, if_true, List.length_cons]; omega
   ·simp only [List.filter_cons, c, if_false, Bool.false_eq_true]
    split
    ·simp only [List.length_cons]; omega
    ·exact ih
theorem left_keep {α β : Type} {g : α × β × Nat → Bool} {M : MM α β} {seen : Array Nat} {e : α × β × Nat} (hb : (M.map (·.2.2)).Nodup) (he : e ∈ M) (hg : g e = true) : left g M (seen.push e.2.2) = left g M seen := by
 unfold left
 refine List.filter_congr fun x hx => ?_
 by_cases c : x.2.2 = e.2.2
 ·have : x = e := inj_of (fun e : α × β × Nat => e.2.2) hb hx he c
  subst this; simp [hg]
 ·have : ¬ e.2.2 = x.2.2 := fun h => c h.symm
  simp [Array.contains_push, c]
theorem left_del {α β : Type} [DecidableEq α] {g : α × β × Nat → Bool} {M : MM α β} {seen : Array Nat} {e : α × β × Nat} (hb : (M.map (·.2.2)).Nodup) (hk : (M.map (·.1)).Nodup) (he : e ∈ M) (hg : g e = false) :
  mdel e.1 (left g M seen) = left g M (seen.push e.2.2) := by
 have hkl : ((left g M seen).map (·.1)).Nodup := hk.sublist ((List.filter_sublist).map _)
 rw [mdel_eq hkl]
 unfold left
 rw [List.filter_filter]
 refine List.filter_congr fun x hx => ?_
 by_cases c : x.1 = e.1
 ·have : x = e := inj_of (fun e : α × β × Nat => e.1) hk hx he c
  subst this; simp [hg]
 ·have : ¬ x.2.2 = e.2.2 := fun h => c (by rw [inj_of (fun e : α × β × Nat => e.2.2) hb hx he h])
  simp [Array.contains_push, c, this]
theorem unseen_lt {α β : Type} {M : MM α β} {seen : Array Nat} {e : α × β × Nat} (he : e ∈ M) (hs : e.2.2 ∉ seen) :
  (M.filter fun x => !(seen.push e.2.2).contains x.2.2).length < (M.filter fun x => !seen.contains x.2.2).length := by
 refine filter_lt (x := e) (fun y _ h => ?_) he (by simpa using hs) (by simp)
 simp at h ⊢
 exact h.1
theorem left_end {α β : Type} {g : α × β × Nat → Bool} {M : MM α β} {seen : Array Nat} (h : ∀ e ∈ left g M seen, e.2.2 ∈ seen) : left g M seen = M.filter g := by
 unfold left at *
 refine List.filter_congr fun x hx => ?_
 cases hg : g x with
 | true => simp
 | false =>
  by_cases c : x.2.2 ∈ seen
  ·simp [c]
  ·have := h x (by rw [List.mem_filter]; exact ⟨hx, by simp [hg, c]⟩)
   exact absurd this c
theorem mhas_iff {α β : Type} [DecidableEq α] (a : α) : ∀ (M : MM α β), mhas a M = true ↔ ∃ e ∈ M, e.1 = a
 | [] => by simp [mhas]
 | e :: M => by
  by_cases c : a = e.1
  ·simp [mhas, c]
  ·have c' : ¬ e.1 = a := fun h => c h.symm
   simp [mhas, c, c', mhas_iff a M]
section
variable {α β : Type} [DecidableEq α] {P : Program} {kt et : TypeId} {ek : α → Value} {ev' : β → Value} {M : MM α β} {b c : Nat}
theorem fk_isSome (a : α) : ∀ (M : MM α β) (i : Nat), (fk a M i).isSome = mhas a M
 | [], _ => rfl
 | e :: M, i => by
  simp only [fk, mhas]
  by_cases c : a = e.1
  ·simp [c]
  ·simp only [c, if_false]; exact fk_isSome a M (i + 1)
theorem run_lookup2 {w : World} {X : TypeId} {zv : Value} (K : KeyL P kt ek) (hX : P.underlying X = some (.map kt et)) (hz : qF P et = some zv) (zb : β) (hzb : ev' zb = zv) (a : α) (hb : w.heap[b]? = some (mobj ek ev' M c)) :
  (Instr.lookup X (.map (some b)) (ek a) true).run P w = .ok (.tuple #[ev' (mget a zb M), .bool (mhas a M)]) w := by
 simp only [Instr.lookup, Sem.run_bind, run_underlying hX, Result.andThen_ok, run_getMap hb, mobj, Sem.run_pure, K.ck, K.find a M, List.toList_toArray]
 rw [← fk_get a zb M 0, ← fk_isSome a M 0]
 cases fk a M 0 with
 | none => simp [run_zero hz, hzb, Sem.run_bind, Sem.run_pure, Result.andThen_ok]
 | some p => simp [Sem.run_pure, Result.andThen_ok]
variable {cx : Cx} {n : Nat} {ks : List (Nat × Value)} {O O' R R' : List Own} {V : View} {ops : Array Oper} {Qn : Act → World → Prop} {t : Tr} {i d : Nat} {T : TypeId} {pos : String} {after : Array Edge} {gd : Option (Nat × Bool)} {x y z : Operand}
theorem AtT.lookup2V {X : TypeId} {zv : Value} (ho : ops[i]? = some ⟨some d, .lookup X x y true, T, pos, after, gd⟩) (hg : Gd ks ops gd) (K : KeyL P kt ek) (a : α) (zb : β) (hX : P.underlying X = some (.map kt et)) (hz : qF P et = some zv) (hzb : ev' zb = zv) (hx : ev ks x = some (.map (some b))) (hy : ev ks y = some (ek a)) (hV : V b = some (mobj ek ev' M c)) (hn : d < n)
  (next : AtT cx n ((d, .tuple #[ev' (mget a zb M), .bool (mhas a M)]) :: ks) O V P ops Qn t) : AtT cx n ks O V P ops Qn (.q i t) :=
 .q ho hg rfl hn (fun a w hk hm => by simp only [execOp, hk.ev hx, hk.ev hy, Sem.run_bind, run_lookup2 K hX hz zb hzb _ (hm.view _ _ hV), Result.andThen_ok, Sem.run_pure]) next
end
end Go.Lw

set_option linter.unusedVariables false
namespace Go.Lw
open Go.RowKit
section
variable {cx : Cx} {O R : List Own} {V : View} {w : World}
theorem Mem.rowFacts {a0 : Option Addr} {e : TypeId} {s m c0 : Nat} {xs : List Value} (h : Mem cx (.row (.slice a0 m c0) e s m xs :: O) V w) : m ≤ c0 ∧ c0 ≤ maxLen ∧ xs.length = m * s ∧ (a0 = none → m = 0) := by
 obtain ⟨fp, ⟨f, g, rfl, ⟨rfl, hr⟩, hl⟩, h2, h3⟩ := h.own
 rcases hr.2 with ⟨e1, rfl⟩ | ⟨b, cap, cur, e1, hb, hh, hnc, hcm, hcs, htake⟩
 ·cases e1; exact ⟨Nat.le_refl _, Nat.zero_le _, hr.1, fun _ => rfl⟩
 ·cases e1; exact ⟨hnc, hcm, hr.1, fun h => by cases h⟩
theorem Mem.blkRow {b cap n : Nat} {e : TypeId} {s : Nat} {cs : Array Value} {xs : List Value} (h : Mem cx (.blk b (.cells cs e (0, 0)) :: O) V w) (hx : xs.length = n * s) (hs : cs.size = cap * s) (ht : cs.toList.take (n * s) = xs) (hn : n ≤ cap) (hc : cap ≤ maxLen) :
  Mem cx (.row (.slice (some ⟨b, 0, none⟩) n cap) e s n xs :: O) V w := by
 obtain ⟨fp, ⟨f, g, rfl, ⟨rfl, hb, hh⟩, hl⟩, h2, h3⟩ := h.own
 exact ⟨h.below, h.le0, h.fresh, h.view, [b] ++ g, ⟨[b], g, rfl, ⟨rfl, hx, .inr ⟨b, cap, cs, rfl, hb, hh, hn, hc, hs, ht⟩⟩, hl⟩, h2, h3⟩
end
section
variable {cx : Cx} {n : Nat} {ks : List (Nat × Value)} {O R : List Own} {V : View} {w : World} {K : Act → World → Prop}
theorem At.blkRow {b m cap : Nat} {e : TypeId} {s : Nat} {xs rest : List Value} (hp : zX (.blk b (LC (xs ++ rest) e)) O R) (hl : (xs ++ rest).length = cap * s) (hx : xs.length = m * s) (h1 : m ≤ cap) (h2 : cap ≤ maxLen)
  (h : At cx n ks (.row (.slice (some ⟨b, 0, none⟩) m cap) e s m xs :: R) V K) : At cx n ks O V K := fun a w hk hmm =>
 h a w hk ((hmm.pick hp).blkRow hx (by simpa using hl) (by rw [← hx]; exact List.take_left) h1 h2)
end
end Go.Lw
set_option linter.unusedVariables false
namespace Go.Lw
open Go.RowKit
section
variable {cx : Cx} {n : Nat} {ks : List (Nat × Value)} {O R : List Own} {V : View} {w : World} {K : Act → World → Prop}
theorem Mem.reclaim {b : Nat} {o : Obj} (h : Mem cx O V w) (hb : V b = some o) (h0 : cx.V0 b = none) : Mem cx (.blk b o :: O) (fun k => if k = b then none else V k) w := by
 obtain ⟨fp, h1, h2, h3⟩ := h.own
 have hlow : cx.w0.heap.size ≤ b := by
  rcases h.fresh b o hb with h4 | h4
  ·rw [h0] at h4; cases h4
  ·exact h4
 refine ⟨h.below, fun k o2 hk => ?_, fun k o2 hk => ?_, fun k o2 hk => ?_, b :: fp, ⟨[b], fp, rfl, ⟨rfl, hlow, h.view b o hb⟩, h1⟩, List.nodup_cons.2 ⟨fun hm => ?_, h2⟩, fun k hk => ?_⟩
 ·by_cases e : k = b
  ·subst e; rw [h0] at hk; cases hk
  ·simp [e, h.le0 k o2 hk]
 ·by_cases e : k = b
  ·subst e; simp at hk
  ·simp [e] at hk; exact h.fresh k o2 hk
 ·by_cases e : k = b
  ·subst e; simp at hk
  ·simp [e] at hk; exact h.view k o2 hk
 ·rw [h3 b hm] at hb; cases hb
 ·rcases List.mem_cons.1 hk with rfl | hk
  ·simp
  ·simp [h3 k hk]
theorem At.reclaim {b : Nat} {o : Obj} (hb : V b = some o) (h0 : cx.V0 b = none) (h : ∀ V'', (∀ W, Le W V → W b = none → Le W V'') → At cx n ks (.blk b o :: O) V'' K) : At cx n ks O V K := fun a w hk hm =>
 h _ (fun W hW hWb k o2 hk => by
  by_cases e : k = b
  ·subst e; rw [hWb] at hk; cases hk
  ·simp [e, hW k o2 hk]) a w hk (hm.reclaim hb h0)
theorem At.rowSplit {v : Value} {e : TypeId} {s m : Nat} {xs : List Value} (hp : zX (.row v e s m xs) O R) (h0 : v = .slice none 0 0 → m = 0 → xs = [] → At cx n ks R V K)
  (h : ∀ b cap rest, v = .slice (some ⟨b, 0, none⟩) m cap → m ≤ cap → cap ≤ maxLen → (xs ++ rest).length = cap * s → At cx n ks (.blk b (LC (xs ++ rest) e) :: R) V K) : At cx n ks O V K := fun a w hk hmm => by
 have hm1 := hmm.pick hp
 obtain ⟨fp, ⟨f, g, rfl, ⟨rfl, hr⟩, hl⟩, h2, h3⟩ := hm1.own
 rcases hr.2 with ⟨rfl, hn0⟩ | ⟨b, cap, cur, rfl, hb, hh, hnc, hcm, hcs, htake⟩
 ·refine h0 rfl hn0 ?_ a w hk hm1.drop
  have := hr.1
  rw [hn0] at this
  exact List.eq_nil_of_length_eq_zero (by simpa using this)
 ·have hcat : xs ++ cur.toList.drop (m * s) = cur.toList := by rw [← htake, List.take_append_drop]
  have hcur : (LC (xs ++ cur.toList.drop (m * s)) e : Obj) = .cells cur e (0, 0) := by
   show Obj.cells _ e (0, 0) = Obj.cells cur e (0, 0)
   congr 1
   rw [hcat]
  refine h b cap (cur.toList.drop (m * s)) rfl hnc hcm (by rw [hcat]; simpa using hcs) a w hk ?_
  rw [hcur]
  exact ⟨hm1.below, hm1.le0, hm1.fresh, hm1.view, [b] ++ g, ⟨[b], g, rfl, ⟨rfl, hb, hh⟩, hl⟩, by simpa [Value.ownBlock] using h2, by simpa [Value.ownBlock] using h3⟩
def Lent (V V2 : View) (ao : Option Addr) (co : Nat) (e : TypeId) (s m : Nat) (xs : List Value) : Prop :=
 (ao = none ∧ m = 0 ∧ co = 0 ∧ xs = []) ∨ ∃ b rest, ao = some ⟨b, 0, none⟩ ∧ m ≤ co ∧ co ≤ maxLen ∧ (xs ++ rest).length = co * s ∧ xs.length = m * s ∧ V b = none ∧ V2 b = some (LC (xs ++ rest) e)
theorem At.giveM {b : Nat} {o : Obj} (hp : zX (.blk b o) O R) (h : ∀ V', Le V V' → V' b = some o → V b = none → At cx n ks R V' K) : At cx n ks O V K := fun a w hk hm => by
 have hm1 := hm.pick hp
 have h0 : V b = none := by
  obtain ⟨fp, ⟨f, g, rfl, ⟨rfl, hB, hb⟩, hl⟩, h2, h3⟩ := hm1.own
  exact h3 b (by simp)
 obtain ⟨V', h1, h2, h3⟩ := hm1.give
 exact h V' h1 h2 h0 a w hk h3
theorem At.lend {ao : Option Addr} {co : Nat} {e : TypeId} {s m : Nat} {xs : List Value} (hp : zX (.row (.slice ao m co) e s m xs) O R) (h : ∀ V2, Le V V2 → Lent V V2 ao co e s m xs → At cx n ks R V2 K) : At cx n ks O V K := fun a w hk hm => by
 have hm1 := hm.pick hp
 obtain ⟨f1, f2, f3, f4⟩ := hm1.rowFacts
 refine At.rowSplit (O := .row (.slice ao m co) e s m xs :: R) zX.here (fun hv hm0 hx => ?_) (fun b cap rest hv h1 h2 h3 => ?_) a w hk hm1
 ·cases hv
  exact h V (Le.refl _) (.inl ⟨rfl, rfl, rfl, hx⟩)
 ·cases hv
  exact At.giveM zX.here fun V' hV hb h0 => h V' hV (.inr ⟨b, rest, rfl, h1, h2, h3, f3, h0, hb⟩)
theorem At.regain {V3 V1 : View} {ao : Option Addr} {co : Nat} {e : TypeId} {s m : Nat} {xs : List Value} (hL : Lent V1 V ao co e s m xs) (hV1 : Le V1 V) (hV : Le V V3) (h0 : Le cx.V0 V1)
  (h : ∀ V4, Le V1 V4 → At cx n ks (.row (.slice ao m co) e s m xs :: O) V4 K) : At cx n ks O V3 K := by
 rcases hL with ⟨rfl, rfl, rfl, rfl⟩ | ⟨b, rest, rfl, h1, h2, h3, h4, h5, h6⟩
 ·exact At.newRow e s (h V3 (hV1.trans hV))
 ·have hcx : cx.V0 b = none := by
   cases hc : cx.V0 b with
   | none => rfl
   | some o => rw [h0 b o hc] at h5; cases h5
  refine At.reclaim (hV b _ h6) hcx fun V4 hV4 => ?_
  exact At.blkRow zX.here h3 h4 h1 h2 (h V4 (hV4 V1 (hV1.trans hV) h5))
theorem Lent.sl {α : Type} {enc : α → List Value} {V1 V2 : View} {ao : Option Addr} {co : Nat} {e : TypeId} {s : Nat} {l : List α} (he : ∀ x, (enc x).length = s) (h : Lent V1 V2 ao co e s l.length (flat enc l)) : Sl V2 enc s (.slice ao l.length co) l := by
 rcases h with ⟨rfl, h1, rfl, h2⟩ | ⟨b, rest, rfl, h1, h2, h3, h4, h5, h6⟩
 ·obtain rfl : l = [] := List.eq_nil_of_length_eq_zero h1
  exact Sl.nil _ _ _
 ·exact Sl.of_cells he (cells_pre h6) h1 h2
theorem none_of {V W : View} {b : Nat} (h : Le W V) (hb : V b = none) : W b = none := by
 cases c : W b with
 | none => rfl
 | some o => rw [h b o c] at hb; cases hb
end
section
variable {cx : Cx} {n : Nat} {ks : List (Nat × Value)} {O R : List Own} {V : View} {P : Program} {ops : Array Oper} {Qn : Act → World → Prop} {t : Tr} {i d : Nat} {T X Y E : TypeId} {pos : String} {after : Array Edge} {gd : Option (Nat × Bool)} {x y : Operand}
theorem AtT.eqNil {a : Option Addr} {m c : Nat} (ho : ops[i]? = some ⟨some d, .binOp .eql X x y Y, T, pos, after, gd⟩) (hg : Gd ks ops gd) (hX : P.underlying X = some (.slice E)) (hx : ev ks x = some (.slice a m c)) (hy : ev ks y = some (.slice none 0 0)) (hn : d < n)
  (next : AtT cx n ((d, .bool a.isNone) :: ks) O V P ops Qn t) : AtT cx n ks O V P ops Qn (.q i t) :=
 .q ho hg rfl hn (fun q w hk _ => by simp only [execOp, hk.ev hx, hk.ev hy, eqGuard_at_slice, Sem.run_bind, Sem.run_pure, Result.andThen_ok, Go.Lib.run_eql_slice_nil w X E a m c 0 0 hX]) next
end
end Go.Lw
namespace Go.Lw
section
variable {cx : Cx} {n : Nat} {ks : List (Nat × Value)} {O R O1 : List Own} {V V1 : View} {P : Program} {ops : Array Oper} {Qn : Act → World → Prop} {t : Tr}
theorem AtC.giveSl {α : Type} {enc : α → List Value} {v : Value} {e : TypeId} {s m : Nat} {xs : List Value} {l : List α} (he : ∀ x, (enc x).length = s) (hx : xs = flat enc l) (hm : m = l.length) (hp : zX (.row v e s m xs) O R)
  (h : ∀ V', Le V V' → Sl V' enc s v l → AtC cx n ks R V' O1 V1 P ops Qn t) : AtC cx n ks O V O1 V1 P ops Qn t := fun h0 a w hk hw => by
 obtain ⟨V', a', cap, h1, h2, h3, h4, h5, h6, h7, h8⟩ := (hw.pick hp).giveRow
 subst hx; subst hm; subst h3
 refine h V' h1 ?_ h0 a w hk h2
 cases a' with
 | none =>
  have hl : l = [] := by cases l with | nil => rfl | cons _ _ => exact absurd (h7 (by simp)) (by simp)
  subst hl
  exact ⟨none, cap, rfl, h4, h5, fun h => absurd rfl h, fun _ h => by cases h⟩
 | some q => exact Sl.of_cells he (h8 q rfl) h4 h5
end
theorem Lent.entry {V V1 V2 : View} {ao : Option Addr} {co : Nat} {e : TypeId} {s m : Nat} {xs : List Value} (hl : Le V V1) (h : Lent V1 V2 ao co e s m xs) : Lent V V2 ao co e s m xs := by
 rcases h with h | ⟨b, rest, h1, h2, h3, h4, h5, h6, h7⟩
 ·exact .inl h
 ·exact .inr ⟨b, rest, h1, h2, h3, h4, h5, none_of hl h6, h7⟩
end Go.Lw
set_option linter.unusedVariables false
namespace Go.Lw
open Go.RowKit
section
variable {cx : Cx} {n : Nat} {ks : List (Nat × Value)} {O : List Own} {V : View} {P : Program} {ops : Array Oper} {Qn : Act → World → Prop} {t : Tr} {i d : Nat} {T : TypeId} {pos : String} {after : Array Edge} {gd : Option (Nat × Bool)} {x y : Operand} {p q : Int} {X Z : TypeId}
theorem or_lt63 {A B : Nat} (hA : A < 9223372036854775808) (hB : B < 9223372036854775808) : A ||| B < 9223372036854775808 := Nat.or_lt_two_pow (n := 63) hA hB
theorem AtT.orN {A B : Nat} (ho : ops[i]? = some ⟨some d, .binOp .or X x y Z, T, pos, after, gd⟩) (hg : Gd ks ops gd) (hx : ev ks x = some (.int .i64 p)) (hy : ev ks y = some (.int .i64 q)) (hp : p = (A : Int)) (hq : q = (B : Int)) (hA : A < 9223372036854775808) (hB : B < 9223372036854775808) (hn : d < n)
  (next : AtT cx n ((d, .int .i64 ((A ||| B : Nat) : Int)) :: ks) O V P ops Qn t) : AtT cx n ks O V P ops Qn (.q i t) :=
 .q ho hg rfl hn (fun a w hk _ => by
  subst hp hq
  have hr : Op.intBits .or .i64 (A : Int) (B : Int) = (pure (.int .i64 ((A ||| B : Nat) : Int)) : Sem Value) := by
   show (pure (Value.int .i64 (IntKind.i64.wrap ((BitVec.ofInt 64 (A : Int) ||| BitVec.ofInt 64 (B : Int)).toNat : Int))) : Sem Value) = _
   rw [BitVec.toNat_or, ofInt_u64 A (by omega), ofInt_u64 B (by omega), Go.Lib.wrap_i64_small _ (or_lt63 hA hB)]
  simp [execOp, hk.ev hx, hk.ev hy, eqGuard_or, binOp_or, hr]) next
end
end Go.Lw
set_option linter.unusedVariables false
namespace Go.Gl
theorem bit_iff (A k : Nat) : ((A >>> k &&& 1 : Nat) : Int) = 1 ↔ A.testBit k = true := by
 rw [Nat.and_one_is_mod, Nat.shiftRight_eq_div_pow, Nat.testBit_eq_decide_div_mod_eq, decide_eq_true_eq]
 omega
end Go.Gl
namespace Go.Proofs.YtghomjjffllkeaaGreatDoor
open Go.Lw Go.Gl Go.Pm Go.RowKit
theorem index_n (g : FuncId) (cap : List Value) (p : Int → Bool) (V : View) (vl : Value) (l : List Int) (hs : Sl V ei 1 vl l) (hok : zL Tryz.prog g)
  (hc : ∀ x, x ∈ l → Fnc Tryz.prog g ([] ++ [iv x] ++ cap) V (fun v _ => v = .bool (p x))) :
  Fnc Tryz.prog 102 [vl, .func (.func g) #[] cap.toArray] V fun v _ => ∃ j : Int, v = iv j ∧ (decide (0 ≤ j)) = l.any p := by
 have hlen := hs.jf
 refine qh Tryz.func102 rfl Tryz.ntmps102 (Nat.le_of_ble_eq_true rfl) ?_
 intro w0 hw0
 refine At.nrm ?_
 refine At.zl (.q 0 .done) ?_
 refine AtT.zg ?_
 refine AtT.done ?_
 refine At.nrm ?_
 refine At.zl (.q 0 (.q 1 (.q 2 .done))) ?_
 refine AtT.zh ?_
 first | refine AtT.zZ Tryz.underlying39 ?_ | refine AtT.qa Tryz.underlying39 ?_
 refine AtT.zh ?_
 refine AtT.done ?_
 refine At.nrm ?_
 refine At.lp (ι := Nat) (KS := fun k => [(0, vl), (1, .func (.func g) #[] cap.toArray), (4, iv 0), (7, iv l.length), (8, iv k)]) (OS := fun _ => [])
  (VS := fun k V' => V' = V ∧ k ≤ l.length ∧ (l.take k).any p = false) (μ := fun k => l.length - k) 0 ?_ ?_ ?_ ?_
 ·exact ⟨rfl, rfl, rfl, rfl, rfl, trivial⟩
 ·exact Pt.zM
 ·exact ⟨rfl, Nat.zero_le _, rfl⟩
 ·rintro k V' ks' O' ⟨rfl, hkl, hany⟩ hk hO hl
  subst hk hO
  refine At.nrm ?_
  refine At.zl (.q 0 .done) ?_
  refine AtT.zY ?_
  refine AtT.done ?_
  refine At.nrm ?_
  refine At.qc rfl (fun hp => ?_) (fun hp => ?_)
  ·refine At.nrm ?_
   refine At.zl (.q 0 (.q 1 .done)) ?_
   refine AtT.zh ?_
   refine AtT.zg ?_
   refine AtT.done ?_
   refine At.nrm ?_
   refine At.zl (.q 0 (.q 1 (.q 2 (.q 3 (.q 4 (.n false 5 .done)))))) ?_
   refine AtT.zh ?_
   refine AtT.zh ?_
   refine AtT.zh ?_
   refine AtT.qo Tryz.underlying39 tk3 ?_
   intro p14 e14 he14 hc14
   first | refine AtT.zm tk3 ?_ | refine AtT.zo tk3 ?_
   refine AtT.kcallV rfl rfl rfl hok (hc e14 (List.mem_of_getElem? he14)) ?_
   rintro _ rfl
   refine AtT.done ?_
   refine At.nrm ?_
   have hee : l[k]? = some e14 := by simpa using he14
   have hnx : l.take (k + 1) = l.take k ++ [e14] := by
    rw [List.take_succ_eq_append_getElem (by omega)]; congr 1; rw [List.getElem?_eq_getElem (by omega)] at hee; simpa using hee
   refine At.cond rfl (fun hb => ?_) (fun hb => ?_)
   ·refine At.nrm ?_
    refine At.zl (.q 0 (.q 1 .done)) ?_
    refine AtT.zh ?_
    refine AtT.zg ?_
    refine AtT.done ?_
    refine At.nrm ?_
    refine At.qb rfl (.tmp rfl) ⟨k, rfl, ?_⟩
    have : l.any p = true := List.any_eq_true.2 ⟨e14, List.mem_of_getElem? hee, hb⟩
    rw [this]; simp
   ·refine At.nrm ?_
    refine At.zl (.q 0 (.q 1 .done)) ?_
    first | refine AtT.qj ?_ | refine AtT.zU ?_
    refine AtT.zh ?_
    refine AtT.done ?_
    refine At.nrm ?_
    refine At.round (k + 1) ?_ ?_ ?_ ?_
    ·show l.length - (k + 1) < l.length - k; omega
    ·refine ⟨rfl, by omega, ?_⟩
     rw [hnx, List.any_append, hany]; simp [hb]
    ·exact ⟨rfl, rfl, rfl, rfl, rfl, trivial⟩
    ·exact Pt.zM
  ·have hkk : k = l.length := by omega
   subst hkk
   rw [List.take_length] at hany
   refine At.nrm ?_
   refine At.zl (.q 0 .done) ?_
   refine AtT.zg ?_
   refine AtT.done ?_
   refine At.nrm ?_
   refine At.qb rfl (.tmp rfl) ⟨-1, rfl, ?_⟩
   rw [hany]; rfl
theorem contains_n (g : FuncId) (cap : List Value) (p : Int → Bool) (V : View) (vl : Value) (l : List Int) (hs : Sl V ei 1 vl l) (hok : zL Tryz.prog g)
  (hc : ∀ x, x ∈ l → Fnc Tryz.prog g ([] ++ [iv x] ++ cap) V (fun v _ => v = .bool (p x))) :
  Fnc Tryz.prog 70 [vl, .func (.func g) #[] cap.toArray] V fun v _ => v = .bool (l.any p) := by
 refine qh Tryz.func70 rfl Tryz.ntmps70 (Nat.le_of_ble_eq_true rfl) ?_
 intro w0 hw0
 refine At.nrm ?_
 refine At.zl (.q 0 .done) ?_
 refine AtT.zg ?_
 refine AtT.done ?_
 refine At.nrm ?_
 refine At.zl (.q 0 (.q 1 (.n false 2 (.q 3 (.q 4 .done))))) ?_
 refine AtT.zh ?_
 refine AtT.zh ?_
 refine AtT.zq rfl rfl ok102 (index_n g cap p V vl l hs hok hc) ?_
 rintro _ ⟨j, rfl, hj⟩
 refine AtT.kgeq ?_
 refine AtT.zg ?_
 refine AtT.done ?_
 refine At.nrm ?_
 refine At.qb rfl (.tmp rfl) ?_
 rw [hj]
theorem within1_f (n lo hi : Int) (V : View) (p1 p2 : Addr) (h1 : Cells V p1 [iv lo]) (h2 : Cells V p2 [iv hi]) :
  Fnc Tryz.prog 101 [iv n, .pointer (some p1), .pointer (some p2)] V fun v _ => v = .bool (outB lo hi n) := by
 refine qh Tryz.func101 rfl Tryz.ntmps101 (Nat.le_of_ble_eq_true rfl) ?_
 intro w0 hw0
 refine At.nrm ?_
 refine At.zl (.q 0 .done) ?_
 refine AtT.zg ?_
 refine AtT.done ?_
 refine At.nrm ?_
 refine At.zl (.q 0 (.q 1 (.q 2 (.q 3 (.q 4 (.q 5 (.q 6 (.q 7 (.q 8 .done))))))))) ?_
 refine AtT.zh ?_
 first | refine AtT.zm tk3 ?_ | refine AtT.zo tk3 ?_
 refine AtT.zY ?_
 refine AtT.zh ?_
 all_goals (first | refine AtT.kL 8 ?_ | refine AtT.zB (d := 8) rfl (fun hg8 => ?_) (fun hg8 => ?_) | refine AtT.zA (d := 8) rfl (fun hg8 => ?_) (fun hg8 => ?_))
 all_goals first|refine AtT.zf ?_|refine AtT.ze ?_|(refine AtT.zh ?_)
 all_goals first|refine AtT.zf ?_|refine AtT.ze ?_|(first | refine AtT.zm tk3 ?_ | refine AtT.zo tk3 ?_)
 all_goals first|refine AtT.zf ?_|refine AtT.ze ?_|(refine AtT.qw ?_)
 all_goals (refine AtT.zz ?_)
 all_goals (refine AtT.zg ?_)
 all_goals refine AtT.done ?_
 all_goals (refine At.nrm ?_)
 ·exact At.qb rfl (.tmp rfl) (by simp [outB, hg8])
 ·exact At.qb rfl (.tmp rfl) (by simp [outB, hg8])
theorem qi (lo hi : Int) (l : List Int) (V : View) (vl : Value) (hs : SlI V vl l) :
  Fnc Tryz.prog 68 [iv lo, iv hi, vl] V fun v _ => v = .bool (wi lo hi l) := by
 refine qh Tryz.func68 rfl Tryz.ntmps68 (Nat.le_of_ble_eq_true rfl) ?_
 intro w0 hw0
 refine At.nrm ?_
 refine At.zl (.n false 0 (.n false 1 (.q 2 .done))) ?_
 refine AtT.qZ ?_
 intro b3
 refine AtT.qZ ?_
 intro b4
 refine AtT.zg ?_
 refine AtT.done ?_
 refine At.nrm ?_
 refine At.giveB (b := b3) zX.zM ?_
 intro V3 hV3 hb3
 refine At.giveB (b := b4) zX.zM ?_
 intro V4 hV4 hb4
 have hs4 := hs.le (hV3.trans hV4)
 have hc3 := (qO hb3).le hV4
 have hc4 := qO hb4
 refine At.zl (.q 0 (.q 1 (.n false 2 (.q 3 (.q 4 .done))))) ?_
 refine AtT.zh ?_
 refine AtT.kfn ?_
 refine AtT.zq rfl rfl ok70 (contains_n 101 [.pointer (some ⟨b3, 0, none⟩), .pointer (some ⟨b4, 0, none⟩)] (outB lo hi) V4 vl l hs4 ok101 (fun x _ => within1_f x lo hi V4 _ _ hc3 hc4)) ?_
 rintro _ rfl
 refine AtT.qW ?_
 refine AtT.zg ?_
 refine AtT.done ?_
 refine At.nrm ?_
 exact At.qb rfl (.tmp rfl) rfl
theorem ints_f (l m : List Int) (V : View) (v u : Value) (hs : SlI V v l) (hu : SlI V u m) : Fnc Tryz.prog 34 [v, u] V fun r _ => r = .bool (decide (l = m)) := by
 have hlen := hs.jf
 obtain ⟨a, c, rfl, k1, k2, _⟩ := id hs
 obtain ⟨a', c', rfl, k3, k4, _⟩ := id hu
 clear k1 k2 k3 k4
 refine qh Tryz.func34 rfl Tryz.ntmps34 (Nat.le_of_ble_eq_true rfl) ?_
 intro w0 hw0
 refine At.nrm ?_
 refine At.zl (.q 0 .done) ?_
 refine AtT.zg ?_
 refine AtT.done ?_
 refine At.nrm ?_
 refine At.zl (.q 0 (.q 1 (.q 2 (.q 3 (.q 4 .done))))) ?_
 refine AtT.zh ?_
 first | refine AtT.zZ Tryz.underlying39 ?_ | refine AtT.qa Tryz.underlying39 ?_
 refine AtT.zh ?_
 first | refine AtT.zZ Tryz.underlying39 ?_ | refine AtT.qa Tryz.underlying39 ?_
 refine AtT.qG ?_
 refine AtT.done ?_
 refine At.nrm ?_
 refine At.qc rfl (fun hb => ?_) (fun hb => ?_)
 ·refine At.nrm ?_
  refine At.zl (.q 0 .done) ?_
  refine AtT.zg ?_
  refine AtT.done ?_
  refine At.nrm ?_
  refine At.qb rfl (.tmp rfl) ?_
  rw [decide_eq_false]
  rintro rfl
  exact hb rfl
 have hlm : l.length = m.length := by omega
 refine At.nrm ?_
 refine At.zl (.q 0 .done) ?_
 refine AtT.zg ?_
 refine AtT.done ?_
 refine At.nrm ?_
 refine At.lp (ι := Nat) (KS := fun k => [(0, .slice a l.length c), (1, .slice a' m.length c'), (5, iv k)]) (OS := fun _ => []) (VS := fun k V' => V' = V ∧ k ≤ l.length ∧ ∀ j, j < k → l[j]? = m[j]?) (μ := fun k => l.length - k) 0 ?_ ?_ ?_ ?_
 ·exact ⟨rfl, rfl, rfl, trivial⟩
 ·exact Pt.zM
 ·exact ⟨rfl, Nat.zero_le _, fun j hj => absurd hj (Nat.not_lt_zero j)⟩
 ·rintro k V' ks' O' ⟨rfl, hkl, hok⟩ hk hO hl2
  subst hk hO
  refine At.nrm ?_
  refine At.zl (.q 0 (.q 1 (.q 2 (.q 3 .done)))) ?_
  refine AtT.zh ?_
  refine AtT.zh ?_
  first | refine AtT.zZ Tryz.underlying39 ?_ | refine AtT.qa Tryz.underlying39 ?_
  refine AtT.zY ?_
  refine AtT.done ?_
  refine At.nrm ?_
  refine At.qc rfl (fun hp => ?_) (fun hp => ?_)
  ·obtain ⟨x, hx⟩ : ∃ x, l[k]? = some x := ⟨_, List.getElem?_eq_getElem (by omega)⟩
   obtain ⟨y, hy⟩ : ∃ y, m[k]? = some y := ⟨_, List.getElem?_eq_getElem (by omega)⟩
   refine At.nrm ?_
   refine At.draw (.q 0 (.q 1 (.q 2 (.q 3 (.q 4 (.q 5 (.q 6 (.q 7 (.q 8 .done))))))))) ffm (by kernel_rfl) ?_
   refine AtT.zh ?_
   refine AtT.zh ?_
   refine AtT.qo Tryz.underlying39 tk3 ?_
   intro p19 e19 he19 hc19
   obtain rfl : e19 = x := by have : l[k]? = some e19 := (by simpa using he19); rw [hx] at this; simpa using this.symm
   first | refine AtT.zm tk3 ?_ | refine AtT.zo tk3 ?_
   refine AtT.zh ?_
   refine AtT.zh ?_
   refine AtT.qo Tryz.underlying39 tk3 ?_
   intro p23 e23 he23 hc23
   obtain rfl : e23 = y := by have : m[k]? = some e23 := (by simpa using he23); rw [hy] at this; simpa using this.symm
   first | refine AtT.zm tk3 ?_ | refine AtT.zo tk3 ?_
   refine AtT.qG ?_
   refine AtT.done ?_
   refine At.nrm ?_
   refine At.qc rfl (fun hc => ?_) (fun hc => ?_)
   ·refine At.nrm ?_
    refine At.zl (.q 0 .done) ?_
    refine AtT.zg ?_
    refine AtT.done ?_
    refine At.nrm ?_
    refine At.qb rfl (.tmp rfl) ?_
    rw [decide_eq_false]
    rintro rfl
    rw [hx] at hy
    cases hy
    exact hc rfl
   ·have hxy : l[k]? = m[k]? := by rw [hx, hy, Decidable.not_not.1 hc]
    refine At.nrm ?_
    refine At.zl (.q 0 (.q 1 (.q 2 .done))) ?_
    refine AtT.zh ?_
    first | refine AtT.qj ?_ | refine AtT.zU ?_
    refine AtT.zg ?_
    refine AtT.done ?_
    refine At.nrm ?_
    refine At.round (k + 1) ?_ ?_ ?_ ?_
    ·show l.length - (k + 1) < l.length - k; omega
    ·refine ⟨rfl, by omega, fun j hj => ?_⟩
     by_cases hjk : j = k
     ·subst hjk; exact hxy
     ·exact hok j (by omega)
    ·exact ⟨rfl, rfl, ivs (by omega), trivial⟩
    ·exact Pt.zM
  ·obtain rfl : k = l.length := by omega
   have hlm2 : l = m := List.ext_getElem? fun j => by
    by_cases hj : j < l.length
    ·exact hok j hj
    ·rw [List.getElem?_eq_none (by omega), List.getElem?_eq_none (by omega)]
   refine At.nrm ?_
   refine At.zl (.q 0 .done) ?_
   refine AtT.zg ?_
   refine AtT.done ?_
   refine At.nrm ?_
   exact At.qb rfl (.tmp rfl) (by rw [decide_eq_true hlm2])
end Go.Proofs.YtghomjjffllkeaaGreatDoor
set_option linter.unusedVariables false
namespace Go.Proofs.YtghomjjffllkeaaGreatDoor
open Go.Lw Go.Gl Go.Pm Go.RowKit
def ixI (o : Option Nat) : Int := match o with
 | some n => (n : Int)
 | none => -1
theorem fi_hit {α : Type} {p : α → Bool} {l : List α} {k : Nat} {x : α} (hx : l[k]? = some x) (hp : p x = true) (h : ∀ (j : Nat) (y : α), j < k → l[j]? = some y → p y = false) : l.findIdx? p = some k := by
 rw [List.findIdx?_eq_some_iff_getElem]
 obtain ⟨hk, rfl⟩ := List.getElem?_eq_some_iff.1 hx
 exact ⟨hk, hp, fun j hj => by rw [h j _ hj (List.getElem?_eq_getElem (by omega))]; simp⟩
theorem fi_none {α : Type} {p : α → Bool} {l : List α} (h : ∀ (j : Nat) (y : α), j < l.length → l[j]? = some y → p y = false) : l.findIdx? p = none := by
 rw [List.findIdx?_eq_none_iff]
 intro x hx
 obtain ⟨j, hj, rfl⟩ := List.getElem_of_mem hx
 exact h j _ hj (List.getElem?_eq_getElem hj)
abbrev sle (q : Option Addr × Nat × Nat) : List Value := [.slice q.1 q.2.1 q.2.2]
theorem sle_len (q : Option Addr × Nat × Nat) : (sle q).length = 1 := rfl
def SL (V : View) (v : Value) (ll : List (List Int)) : Prop := ∃ qs : List (Option Addr × Nat × Nat), Sl V sle 1 v qs ∧ qs.length = ll.length ∧ ∀ (i : Nat) (q : Option Addr × Nat × Nat) (l : List Int), qs[i]? = some q → ll[i]? = some l → SlI V (.slice q.1 q.2.1 q.2.2) l
theorem SL.le {V V' : View} {v : Value} {ll : List (List Int)} (h : SL V v ll) (hl : Le V V') : SL V' v ll := by
 obtain ⟨qs, h1, h2, h3⟩ := h
 exact ⟨qs, h1.le hl, h2, fun i q l a b => (h3 i q l a b).le hl⟩
theorem SL.nil (V : View) : SL V (.slice none 0 0) [] := ⟨[], Sl.nil _ _ _, rfl, fun i q l h => by simp at h⟩
theorem lists_eq_f (ll mm : List (List Int)) (V : View) (v u : Value) (hv : SL V v ll) (hu : SL V u mm) : Fnc Tryz.prog 35 [v, u] V fun r _ => r = .bool (decide (ll = mm)) := by
 obtain ⟨qs, hq, hql, hqs⟩ := hv
 obtain ⟨ps, hp, hpl, hps⟩ := hu
 have hlen := hq.jf
 have hlen2 := hp.jf
 obtain ⟨a, c, rfl, k1, k2, _⟩ := id hq
 obtain ⟨a', c', rfl, k3, k4, _⟩ := id hp
 clear k1 k2 k3 k4
 refine qh Tryz.func35 rfl Tryz.ntmps35 (Nat.le_of_ble_eq_true rfl) ?_
 intro w0 hw0
 refine At.nrm ?_
 refine At.zl (.q 0 .done) ?_
 refine AtT.zg ?_
 refine AtT.done ?_
 refine At.nrm ?_
 refine At.zl (.q 0 (.q 1 (.q 2 (.q 3 (.q 4 .done))))) ?_
 refine AtT.zh ?_
 first | refine AtT.zZ Tryz.underlying42 ?_ | refine AtT.qa Tryz.underlying42 ?_
 refine AtT.zh ?_
 first | refine AtT.zZ Tryz.underlying42 ?_ | refine AtT.qa Tryz.underlying42 ?_
 refine AtT.qG ?_
 refine AtT.done ?_
 refine At.nrm ?_
 refine At.qc rfl (fun hb => ?_) (fun hb => ?_)
 ·refine At.nrm ?_
  refine At.zl (.q 0 .done) ?_
  refine AtT.zg ?_
  refine AtT.done ?_
  refine At.nrm ?_
  refine At.qb rfl (.tmp rfl) ?_
  rw [decide_eq_false]
  rintro rfl
  exact hb (by omega)
 have hlm : ll.length = mm.length := by omega
 refine At.nrm ?_
 refine At.zl (.q 0 .done) ?_
 refine AtT.zg ?_
 refine AtT.done ?_
 refine At.nrm ?_
 refine At.lp (ι := Nat) (KS := fun k => [(0, .slice a qs.length c), (1, .slice a' ps.length c'), (5, iv k)]) (OS := fun _ => []) (VS := fun k V' => V' = V ∧ k ≤ ll.length ∧ ∀ j, j < k → ll[j]? = mm[j]?) (μ := fun k => ll.length - k) 0 ?_ ?_ ?_ ?_
 ·exact ⟨rfl, rfl, rfl, trivial⟩
 ·exact Pt.zM
 ·exact ⟨rfl, Nat.zero_le _, fun j hj => absurd hj (Nat.not_lt_zero j)⟩
 ·rintro k V' ks' O' ⟨rfl, hkl, hok⟩ hk hO hl2
  subst hk hO
  refine At.nrm ?_
  refine At.zl (.q 0 (.q 1 (.q 2 (.q 3 .done)))) ?_
  refine AtT.zh ?_
  refine AtT.zh ?_
  first | refine AtT.zZ Tryz.underlying42 ?_ | refine AtT.qa Tryz.underlying42 ?_
  refine AtT.zY ?_
  refine AtT.done ?_
  refine At.nrm ?_
  refine At.qc rfl (fun hp' => ?_) (fun hp' => ?_)
  ·have hk1 : k < ll.length := by omega
   obtain ⟨x, hx⟩ : ∃ x, qs[k]? = some x := ⟨_, List.getElem?_eq_getElem (by omega)⟩
   obtain ⟨y, hy⟩ : ∃ y, ps[k]? = some y := ⟨_, List.getElem?_eq_getElem (by omega)⟩
   obtain ⟨l, hl⟩ : ∃ l, ll[k]? = some l := ⟨_, List.getElem?_eq_getElem (by omega)⟩
   obtain ⟨m, hm⟩ : ∃ m, mm[k]? = some m := ⟨_, List.getElem?_eq_getElem (by omega)⟩
   have hs1 := hqs k x l hx hl
   have hs2 := hps k y m hy hm
   refine At.nrm ?_
   by_cases hlme : l = m
   ·refine At.draw (.q 0 (.q 1 (.q 2 (.q 3 (.q 4 (.q 5 (.q 6 (.q 7 (.n false 8 (.q 9 .done)))))))))) ffm (by kernel_rfl) ?_
    refine AtT.zh ?_
    refine AtT.zh ?_
    refine AtT.qo Tryz.underlying42 tk39 ?_
    intro p19 e19 he19 hc19
    obtain rfl : e19 = x := by have : qs[k]? = some e19 := (by simpa using he19); rw [hx] at this; simpa using this.symm
    first | refine AtT.zm tk39 ?_ | refine AtT.zo tk39 ?_
    refine AtT.zh ?_
    refine AtT.zh ?_
    refine AtT.qo Tryz.underlying42 tk39 ?_
    intro p23 e23 he23 hc23
    obtain rfl : e23 = y := by have : ps[k]? = some e23 := (by simpa using he23); rw [hy] at this; simpa using this.symm
    first | refine AtT.zm tk39 ?_ | refine AtT.zo tk39 ?_
    refine AtT.zq rfl rfl ok34 (ints_f l m _ _ _ hs1 hs2) ?_
    rintro _ rfl
    refine AtT.qJ (d := 25) rfl (hlme) ?_
    refine AtT.qW ?_
    refine AtT.setB (d := 26) rfl ((show (!true) = false from rfl)) ?_
    refine AtT.done ?_
    refine At.nrm ?_
    refine At.qX rfl rfl ?_
    refine At.nrm ?_
    refine At.zl (.q 0 (.q 1 (.q 2 .done))) ?_
    refine AtT.zh ?_
    first | refine AtT.qj ?_ | refine AtT.zU ?_
    refine AtT.zg ?_
    refine AtT.done ?_
    refine At.nrm ?_
    refine At.round (k + 1) ?_ ?_ ?_ ?_
    ·show ll.length - (k + 1) < ll.length - k; omega
    ·refine ⟨rfl, by omega, fun j hj => ?_⟩
     by_cases hjk : j = k
     ·subst hjk; rw [hl, hm, hlme]
     ·exact hok j (by omega)
    ·exact ⟨rfl, rfl, ivs (by omega), trivial⟩
    ·exact Pt.zM
   ·refine At.draw (.q 0 (.q 1 (.q 2 (.q 3 (.q 4 (.q 5 (.q 6 (.q 7 (.n false 8 (.q 9 .done)))))))))) ffm (by kernel_rfl) ?_
    refine AtT.zh ?_
    refine AtT.zh ?_
    refine AtT.qo Tryz.underlying42 tk39 ?_
    intro p19 e19 he19 hc19
    obtain rfl : e19 = x := by have : qs[k]? = some e19 := (by simpa using he19); rw [hx] at this; simpa using this.symm
    first | refine AtT.zm tk39 ?_ | refine AtT.zo tk39 ?_
    refine AtT.zh ?_
    refine AtT.zh ?_
    refine AtT.qo Tryz.underlying42 tk39 ?_
    intro p23 e23 he23 hc23
    obtain rfl : e23 = y := by have : ps[k]? = some e23 := (by simpa using he23); rw [hy] at this; simpa using this.symm
    first | refine AtT.zm tk39 ?_ | refine AtT.zo tk39 ?_
    refine AtT.zq rfl rfl ok34 (ints_f l m _ _ _ hs1 hs2) ?_
    rintro _ rfl
    refine AtT.qm (d := 25) rfl (hlme) ?_
    refine AtT.qW ?_
    refine AtT.setB (d := 26) rfl ((show (!false) = true from rfl)) ?_
    refine AtT.done ?_
    refine At.nrm ?_
    refine At.qA rfl rfl ?_
    refine At.nrm ?_
    refine At.zl (.q 0 .done) ?_
    refine AtT.zg ?_
    refine AtT.done ?_
    refine At.nrm ?_
    refine At.qb rfl (.tmp rfl) ?_
    rw [decide_eq_false]
    rintro rfl
    rw [hl] at hm; cases hm
    exact hlme rfl
  ·have hlm2 : ll = mm := List.ext_getElem? fun j => by
    by_cases hj : j < ll.length
    ·exact hok j (by omega)
    ·rw [List.getElem?_eq_none (by omega), List.getElem?_eq_none (by omega)]
   refine At.nrm ?_
   refine At.zl (.q 0 .done) ?_
   refine AtT.zg ?_
   refine AtT.done ?_
   refine At.nrm ?_
   exact At.qb rfl (.tmp rfl) (by rw [decide_eq_true hlm2])
theorem indexI_f (l : List Int) (s : Int) (V : View) (v : Value) (hs : SlI V v l) : Fnc Tryz.prog 125 [v, iv s] V fun r _ => r = iv (ixI (l.findIdx? (· == s))) := by
 have hlen := hs.jf
 obtain ⟨a, c, rfl, k1, k2, _⟩ := id hs
 clear k1 k2
 refine qh Tryz.func125 rfl Tryz.ntmps125 (Nat.le_of_ble_eq_true rfl) ?_
 intro w0 hw0
 refine At.nrm ?_
 refine At.zl (.q 0 .done) ?_
 refine AtT.zg ?_
 refine AtT.done ?_
 refine At.nrm ?_
 refine At.zl (.q 0 (.q 1 (.q 2 .done))) ?_
 refine AtT.zh ?_
 first | refine AtT.zZ Tryz.underlying39 ?_ | refine AtT.qa Tryz.underlying39 ?_
 refine AtT.zh ?_
 refine AtT.done ?_
 refine At.nrm ?_
 refine At.lp (ι := Nat) (KS := fun k => [(0, .slice a l.length c), (1, iv s), (7, iv l.length), (8, iv k)]) (OS := fun _ => []) (VS := fun k V' => V' = V ∧ k ≤ l.length ∧ ∀ (j : Nat) (y : Int), j < k → l[j]? = some y → (y == s) = false) (μ := fun k => l.length - k) 0 ?_ ?_ ?_ ?_
 ·exact ⟨rfl, rfl, rfl, rfl, trivial⟩
 ·exact Pt.zM
 ·exact ⟨rfl, Nat.zero_le _, fun j y hj => absurd hj (Nat.not_lt_zero j)⟩
 rintro k V' ks' O' ⟨rfl, hkl, hok⟩ hk hO hl2
 subst hk hO
 refine At.nrm ?_
 refine At.zl (.q 0 .done) ?_
 refine AtT.zY ?_
 refine AtT.done ?_
 refine At.nrm ?_
 refine At.qc rfl (fun hp => ?_) (fun hp => ?_)
 ·obtain ⟨x, hx⟩ : ∃ x, l[k]? = some x := ⟨_, List.getElem?_eq_getElem (by omega)⟩
  refine At.nrm ?_
  refine At.zl (.q 0 (.q 1 .done)) ?_
  refine AtT.zh ?_
  refine AtT.zg ?_
  refine AtT.done ?_
  refine At.nrm ?_
  refine At.zl (.q 0 (.q 1 (.q 2 (.q 3 (.q 4 (.q 5 .done)))))) ?_
  refine AtT.zh ?_
  refine AtT.zh ?_
  refine AtT.zh ?_
  refine AtT.qo Tryz.underlying39 tk3 ?_
  intro p14 e14 he14 hc14
  obtain rfl : x = e14 := by have : l[k]? = some e14 := (by simpa using he14); rw [hx] at this; simpa using this
  first | refine AtT.zm tk3 ?_ | refine AtT.zo tk3 ?_
  refine AtT.keqI ?_
  refine AtT.done ?_
  refine At.nrm ?_
  refine At.qc rfl (fun hc => ?_) (fun hc => ?_)
  ·refine At.nrm ?_
   refine At.zl (.q 0 (.q 1 .done)) ?_
   refine AtT.zh ?_
   refine AtT.zg ?_
   refine AtT.done ?_
   refine At.nrm ?_
   exact At.qb rfl (.tmp rfl) (by rw [fi_hit hx (by simp [hc]) hok]; rfl)
  ·refine At.nrm ?_
   refine At.zl (.q 0 (.q 1 .done)) ?_
   first | refine AtT.qj ?_ | refine AtT.zU ?_
   refine AtT.zh ?_
   refine AtT.done ?_
   refine At.nrm ?_
   refine At.round (k + 1) ?_ ?_ ?_ ?_
   ·show l.length - (k + 1) < l.length - k; omega
   ·refine ⟨rfl, by omega, fun j y hj hy => ?_⟩
    by_cases hjk : j = k
    ·subst hjk; rw [hx] at hy; cases hy; exact beq_false_of_ne (fun e => hc e.symm)
    ·exact hok j y (by omega) hy
   ·exact ⟨rfl, rfl, rfl, ivs (by omega), trivial⟩
   ·exact Pt.zM
 ·refine At.nrm ?_
  refine At.zl (.q 0 .done) ?_
  refine AtT.zg ?_
  refine AtT.done ?_
  refine At.nrm ?_
  exact At.qb rfl (.tmp rfl) (by rw [fi_none fun j y hj hy => hok j y (by omega) hy]; rfl)
theorem min_f (l : List Int) (hl : l ≠ []) (V : View) (v : Value) (hs : SlI V v l) : Fnc Tryz.prog 122 [v] V fun r _ => ∃ m, r = iv m ∧ m ∈ l ∧ ∀ x ∈ l, m ≤ x := by
 have hlen := hs.jf
 have hpos : 0 < l.length := List.length_pos_iff.2 hl
 obtain ⟨a, c, rfl, k1, k2, _⟩ := id hs
 clear k1 k2
 refine qh Tryz.func122 rfl Tryz.ntmps122 (Nat.le_of_ble_eq_true rfl) ?_
 intro w0 hw0
 refine At.nrm ?_
 refine At.zl (.q 0 .done) ?_
 refine AtT.zg ?_
 refine AtT.done ?_
 refine At.nrm ?_
 refine At.zl (.q 0 (.q 1 (.q 2 .done))) ?_
 refine AtT.zh ?_
 first | refine AtT.zZ Tryz.underlying39 ?_ | refine AtT.qa Tryz.underlying39 ?_
 refine AtT.zY ?_
 refine AtT.done ?_
 refine At.nrm ?_
 refine At.qX rfl (decide_eq_false (by omega)) ?_
 refine At.nrm ?_
 refine At.zl (.q 0 (.q 1 (.q 2 (.q 3 .done)))) ?_
 refine AtT.zh ?_
 refine AtT.qo Tryz.underlying39 tk3 ?_
 intro p10 e10 he10 hc10
 first | refine AtT.zm tk3 ?_ | refine AtT.zo tk3 ?_
 refine AtT.zg ?_
 refine AtT.done ?_
 refine At.nrm ?_
 have hm0 : e10 ∈ l := List.mem_of_getElem? he10
 have h0 : l[0]? = some e10 := by simpa using he10
 refine At.zl (.q 0 .done) ?_
 refine AtT.zg ?_
 refine AtT.done ?_
 refine At.nrm ?_
 refine At.lp (ι := Nat × Int) (KS := fun g => [(0, .slice a l.length c), (3, iv g.2), (4, iv g.1)]) (OS := fun _ => []) (VS := fun g V' => V' = V ∧ g.1 ≤ l.length ∧ g.2 ∈ l ∧ ∀ (j : Nat) (x : Int), j < g.1 → l[j]? = some x → g.2 ≤ x) (μ := fun g => l.length - g.1) (1, e10) ?_ ?_ ?_ ?_
 ·exact ⟨rfl, rfl, rfl, trivial⟩
 ·exact Pt.zM
 ·refine ⟨rfl, hpos, hm0, fun j x hj hx => ?_⟩
  obtain rfl : j = 0 := by dsimp only at hj; omega
  rw [h0] at hx; cases hx; exact Int.le_refl _
 ·rintro ⟨k, m⟩ V' ks' O' ⟨rfl, hkl, hm, hok⟩ hk hO hl2
  dsimp only at hkl hm hok hk hO
  subst hk hO
  refine At.nrm ?_
  refine At.zl (.q 0 (.q 1 (.q 2 (.q 3 .done)))) ?_
  refine AtT.zh ?_
  refine AtT.zh ?_
  first | refine AtT.zZ Tryz.underlying39 ?_ | refine AtT.qa Tryz.underlying39 ?_
  refine AtT.zY ?_
  refine AtT.done ?_
  refine At.nrm ?_
  refine At.qc rfl (fun hp => ?_) (fun hp => ?_)
  ·obtain ⟨x, hx⟩ : ∃ x, l[k]? = some x := ⟨_, List.getElem?_eq_getElem (by omega)⟩
   refine At.nrm ?_
   refine At.zl (.q 0 (.q 1 (.q 2 (.q 3 (.q 4 (.q 5 (.q 6 .done))))))) ?_
   refine AtT.zh ?_
   refine AtT.zh ?_
   refine AtT.zh ?_
   refine AtT.qo Tryz.underlying39 tk3 ?_
   intro p21 e21 he21 hc21
   obtain rfl : e21 = x := by have : l[k]? = some e21 := (by simpa using he21); rw [hx] at this; simpa using this.symm
   first | refine AtT.zm tk3 ?_ | refine AtT.zo tk3 ?_
   refine AtT.kmin2 ?_
   refine AtT.zg ?_
   refine AtT.done ?_
   refine At.nrm ?_
   refine At.zl (.q 0 (.q 1 (.q 2 .done))) ?_
   refine AtT.zh ?_
   first | refine AtT.qj ?_ | refine AtT.zU ?_
   refine AtT.zg ?_
   refine AtT.done ?_
   refine At.nrm ?_
   refine At.round (k + 1, min m e21) ?_ ?_ ?_ ?_
   ·show l.length - (k + 1) < l.length - k; omega
   ·refine ⟨rfl, by dsimp only; omega, ?_, fun j y hj hy => ?_⟩
    ·show min m e21 ∈ l
     by_cases c : m ≤ e21
     ·rw [Int.min_eq_left c]; exact hm
     ·rw [Int.min_eq_right (by omega)]; exact List.mem_of_getElem? hx
    ·show min m e21 ≤ y
     dsimp only at hj
     by_cases hjk : j = k
     ·subst hjk; rw [hx] at hy; cases hy; omega
     ·have := hok j y (by omega) hy; omega
   ·exact ⟨rfl, rfl, ivs (by dsimp only; omega), trivial⟩
   ·exact Pt.zM
  ·obtain rfl : k = l.length := by omega
   refine At.nrm ?_
   refine At.zl (.q 0 (.q 1 .done)) ?_
   refine AtT.zh ?_
   refine AtT.zg ?_
   refine AtT.done ?_
   refine At.nrm ?_
   exact At.qb rfl (.tmp rfl) ⟨m, rfl, hm, fun x hx => by obtain ⟨j, hj, rfl⟩ := List.getElem_of_mem hx; exact hok j _ hj (List.getElem?_eq_getElem hj)⟩
theorem SL.lit {V : View} {q : Addr} (qs : List (Option Addr × Nat × Nat)) (ll : List (List Int)) (m : Nat) (h : Cells V q (flat sle qs)) (hm : m = qs.length) (hl : qs.length = ll.length) (h1 : qs.length ≤ 1000000) (hq : ∀ (i : Nat) (q : Option Addr × Nat × Nat) (l : List Int), qs[i]? = some q → ll[i]? = some l → SlI V (.slice q.1 q.2.1 q.2.2) l) : SL V (.slice (some q) m m) ll :=
 ⟨qs, by subst hm; exact Sl.of_cells sle_len h (Nat.le_refl _) (by unfold maxLen; omega), hl, hq⟩
theorem qz (v : Value) (V : View) : Fnc Tryz.prog 56 [v] V fun r _ => r = v := by
 refine qh Tryz.func56 rfl Tryz.ntmps56 (Nat.le_of_ble_eq_true rfl) ?_
 intro w0 hw0
 refine At.nrm ?_
 refine At.zl (.q 0 .done) ?_
 refine AtT.zg ?_
 refine AtT.done ?_
 refine At.nrm ?_
 refine At.zl (.q 0 (.q 1 .done)) ?_
 refine AtT.zh ?_
 refine AtT.zg ?_
 refine AtT.done ?_
 refine At.nrm ?_
 exact At.qb rfl (.tmp rfl) rfl
theorem lists_f (v : Value) (V : View) : Fnc Tryz.prog 55 [v] V fun r _ => r = v := by
 refine qh Tryz.func55 rfl Tryz.ntmps55 (Nat.le_of_ble_eq_true rfl) ?_
 intro w0 hw0
 refine At.nrm ?_
 refine At.zl (.q 0 .done) ?_
 refine AtT.zg ?_
 refine AtT.done ?_
 refine At.nrm ?_
 refine At.zl (.q 0 (.q 1 .done)) ?_
 refine AtT.zh ?_
 refine AtT.zg ?_
 refine AtT.done ?_
 refine At.nrm ?_
 exact At.qb rfl (.tmp rfl) rfl
end Go.Proofs.YtghomjjffllkeaaGreatDoor
set_option linter.unusedVariables false
namespace Go.Pm
open Go.Gl Go.Lw
theorem knK_len {rows : List ByteArray} (h : ∀ r ∈ rows, r.size ≤ 12) : ∀ i, (knK rows i).length ≤ 12 * i
 | 0 => Nat.le_refl _
 | i + 1 => by
  have ih := knK_len h i
  cases c : rows[i]? with
  | none => simp only [knK, c]; omega
  | some r =>
   rw [knK_at c, List.length_append]
   have := knR_len r i r.size
   have := h r (List.mem_of_getElem? c)
   omega
theorem frR_at {r : ByteArray} (h : ∀ k, k < r.size → okC (bv r k) = true) : frR r = true := by
 unfold frR
 rw [List.all_eq_true]
 intro b hb
 obtain ⟨k, hk⟩ := List.getElem?_of_mem hb
 have hl := (List.getElem?_eq_some_iff.1 hk).1
 rw [bt_len] at hl
 have := h k hl
 unfold bv at this
 rwa [show (bt r).getD k 0 = b by simp [List.getD, hk]] at this
theorem frR_no {r : ByteArray} {k : Nat} (hk : k < r.size) (h : okC (bv r k) = false) : frR r = false := by
 cases c : frR r with
 | false => rfl
 | true =>
  unfold frR at c
  rw [List.all_eq_true] at c
  have hl : k < (bt r).length := by rw [bt_len]; exact hk
  have := c _ (List.getElem_mem hl)
  unfold bv at h
  rw [show (bt r).getD k 0 = (bt r)[k] by simp [List.getD, List.getElem?_eq_getElem hl], this] at h
  cases h
end Go.Pm
namespace Go.Proofs.YtghomjjffllkeaaGreatDoor
open Go.Lw Go.Gl Go.Pm Go.RowKit
theorem knotsOf_f (s : Sh) (hn : s.rows.length ≤ 10) (hw : ∀ r ∈ s.rows, r.size ≤ 12) (V : View) (v : Value) (hv : ShV V v s) : Fnc Tryz.prog 44 [v] V fun r V' => Sl V' cle 2 r (knL s) := by
 obtain ⟨a, c, rfl, hs⟩ := hv
 refine qh Tryz.func44 rfl Tryz.ntmps44 (Nat.le_of_ble_eq_true rfl) ?_
 intro w0 hw0
 refine At.nrm ?_
 refine At.zl (.n false 0 (.q 1 .done)) ?_
 refine AtT.qZ ?_
 intro b1
 refine AtT.zg ?_
 refine AtT.done ?_
 refine At.nrm ?_
 refine At.zl (.q 0 .done) ?_
 refine AtT.zg ?_
 refine AtT.done ?_
 refine At.nrm ?_
 refine At.newRow 67 2 ?_
 refine At.zl (.q 0 .done) ?_
 refine AtT.zg ?_
 refine AtT.done ?_
 refine At.nrm ?_
 refine At.lp (ι := Nat × Option Addr × Nat) (KS := fun g => [(1, .pointer (some ⟨b1, 0, none⟩)), (3, .slice g.2.1 (knK s.rows g.1).length g.2.2), (4, iv g.1)])
  (OS := fun g => [.blk b1 (LC [.slice a s.rows.length c, iv s.most] 24), .row (.slice g.2.1 (knK s.rows g.1).length g.2.2) 67 2 (knK s.rows g.1).length (flat cle (knK s.rows g.1))])
  (VS := fun g V' => Le V V' ∧ g.1 ≤ s.rows.length) (μ := fun g => s.rows.length - g.1) (0, none, 0) ?_ ?_ ?_ ?_
 ·exact ⟨rfl, rfl, rfl, trivial⟩
 ·exact Pt.zM
 ·exact ⟨Le.refl _, Nat.zero_le _⟩
 rintro ⟨i, ao, co⟩ V' ks' O' ⟨hVV, hil⟩ hk hO hl2
 dsimp only at hil hk hO
 subst hk hO
 have hs' := hs.le hVV
 refine At.nrm ?_
 refine At.zl (.q 0 (.q 1 (.q 2 (.q 3 (.q 4 .done))))) ?_
 refine AtT.zh ?_
 first | refine AtT.zi zw ?_ | with_reducible refine AtT.zk zw ?_ | refine AtT.zn zw ?_
 first | refine AtT.zm zV ?_ | refine AtT.zo zV ?_
 first | refine AtT.zZ Tryz.underlying22 ?_ | refine AtT.qa Tryz.underlying22 ?_
 refine AtT.zY ?_
 refine AtT.done ?_
 refine At.nrm ?_
 refine At.qc rfl (fun hp => ?_) (fun hp => ?_)
 rotate_left
 ·obtain rfl : i = s.rows.length := by omega
  refine At.nrm ?_
  refine At.zl (.q 0 (.q 1 .done)) ?_
  refine AtT.zh ?_
  refine AtT.zg ?_
  refine AtT.done ?_
  refine At.nrm ?_
  refine At.giveSl (l := knL s) cle_len rfl rfl zX.zM (fun V6 hV6 hs6 => ?_)
  exact At.qb rfl (.tmp rfl) hs6
 obtain ⟨r, hr⟩ : ∃ r, s.rows[i]? = some r := ⟨_, List.getElem?_eq_getElem (by omega)⟩
 have hrs := hw r (List.mem_of_getElem? hr)
 have hkl := knK_len hw i
 have hat := knK_at hr
 refine At.nrm ?_
 refine At.zl (.q 0 .done) ?_
 refine AtT.zg ?_
 refine AtT.done ?_
 refine At.nrm ?_
 refine At.lp (ι := Nat × Option Addr × Nat) (KS := fun g => [(1, .pointer (some ⟨b1, 0, none⟩)), (3, .slice g.2.1 (knK s.rows i ++ knR r i g.1).length g.2.2), (4, iv i), (5, iv g.1)])
  (OS := fun g => [.blk b1 (LC [.slice a s.rows.length c, iv s.most] 24), .row (.slice g.2.1 (knK s.rows i ++ knR r i g.1).length g.2.2) 67 2 (knK s.rows i ++ knR r i g.1).length (flat cle (knK s.rows i ++ knR r i g.1))])
  (VS := fun g V'' => Le V' V'' ∧ g.1 ≤ r.size) (μ := fun g => r.size - g.1) (0, ao, co) ?_ ?_ ?_ ?_
 ·simp only [knR, List.append_nil]; exact ⟨rfl, rfl, rfl, rfl, trivial⟩
 ·simp only [knR, List.append_nil]; exact Pt.zM
 ·exact ⟨Le.refl _, Nat.zero_le _⟩
 rintro ⟨k, ao2, co2⟩ V2 ks' O' ⟨hV2, hkr⟩ hk hO hl3
 dsimp only at hkr hk hO
 subst hk hO
 have hs2 := hs'.le hV2
 have hkn := knR_len r i k
 have hll : (knK s.rows i ++ knR r i k).length ≤ 140 := by rw [List.length_append]; omega
 refine At.nrm ?_
 refine At.zl (.q 0 (.q 1 (.q 2 (.q 3 (.q 4 (.q 5 (.q 6 (.q 7 .done)))))))) ?_
 refine AtT.zh ?_
 first | refine AtT.zi zw ?_ | with_reducible refine AtT.zk zw ?_ | refine AtT.zn zw ?_
 first | refine AtT.zm zV ?_ | refine AtT.zo zV ?_
 refine AtT.zh ?_
 refine AtT.qo Tryz.underlying22 tk9 ?_
 intro p17 e17 he17 hc17
 obtain rfl : r = e17 := by have : s.rows[i]? = some e17 := (by simpa using he17); rw [hr] at this; simpa using this
 first | refine AtT.zm tk9 ?_ | refine AtT.zo tk9 ?_
 refine AtT.qL rfl trivial Tryz.underlying9 rfl (by decide) ?_
 refine AtT.zY ?_
 refine AtT.done ?_
 refine At.nrm ?_
 refine At.qc rfl (fun hp2 => ?_) (fun hp2 => ?_)
 rotate_left
 ·obtain rfl : k = r.size := by omega
  refine At.nrm ?_
  refine At.zl (.q 0 (.q 1 (.q 2 .done))) ?_
  refine AtT.zh ?_
  first | refine AtT.qj ?_ | refine AtT.zU ?_
  refine AtT.zg ?_
  refine AtT.done ?_
  refine At.nrm ?_
  refine At.round (i + 1, ao2, co2) ?_ ?_ ?_ ?_
  ·show s.rows.length - (i + 1) < s.rows.length - i; omega
  ·exact ⟨hVV.trans hV2, by dsimp only; omega⟩
  ·dsimp only; rw [hat]; exact ⟨rfl, rfl, ivs (by omega), trivial⟩
  ·dsimp only; rw [hat]; exact Pt.zM
 refine At.nrmB ?_
 refine At.jo (ι := Option Addr × Nat) (fun g => [(1, .pointer (some ⟨b1, 0, none⟩)), (3, .slice g.1 (knK s.rows i ++ knR r i (k + 1)).length g.2), (4, iv i), (5, iv k)])
  (fun g => [.blk b1 (LC [.slice a s.rows.length c, iv s.most] 24), .row (.slice g.1 (knK s.rows i ++ knR r i (k + 1)).length g.2) 67 2 (knK s.rows i ++ knR r i (k + 1)).length (flat cle (knK s.rows i ++ knR r i (k + 1)))]) (fun g V'' => Le V2 V'') ?_ ?_
 ·refine At.nrm ?_
  refine At.zl (.q 0 (.q 1 (.q 2 (.q 3 (.q 4 (.q 5 (.q 6 (.q 7 .done)))))))) ?_
  first | refine AtT.zi zw ?_ | with_reducible refine AtT.zk zw ?_ | refine AtT.zn zw ?_
  first | refine AtT.zm zV ?_ | refine AtT.zo zV ?_
  refine AtT.zh ?_
  refine AtT.qo Tryz.underlying22 tk9 ?_
  intro p26 e26 he26 hc26
  obtain rfl : r = e26 := by have : s.rows[i]? = some e26 := (by simpa using he26); rw [hr] at this; simpa using this
  first | refine AtT.zm tk9 ?_ | refine AtT.zo tk9 ?_
  refine AtT.zh ?_
  refine AtT.ixS rfl trivial Tryz.underlying9 rfl rfl (by omega) (by omega) (by decide) ?_
  rw [Int.toNat_natCast]
  refine AtT.keqI ?_
  refine AtT.done ?_
  refine At.nrm ?_
  refine At.qc rfl (fun hb => ?_) (fun hb => ?_)
  ·have hsn : knR r i (k + 1) = knR r i k ++ [⟨(i : Int), (k : Int)⟩] := by simp only [knR]; rw [if_pos hb]
   refine At.nrm ?_
   refine At.zl (.q 0 (.q 1 (.q 2 (.q 3 (.n false 4 (.n true 5 (.q 6 .done))))))) ?_
   refine AtT.zh ?_
   refine AtT.zh ?_
   refine AtT.zh ?_
   refine AtT.ja (bd67_0_1 _ _) ?_
   refine AtT.zu (bs58_1_0 _ _) ?_
   intro q35 V35 hV35 hq35
   have g35 : Le V V35 := by first | exact hV35 | exact Le.trans (by assumption) hV35
   first | refine AtT.kappend Tryz.underlying58 rw67 ?_
   intro a36 c36
   refine AtT.zg ?_
   refine AtT.done ?_
   refine At.nrm ?_
   refine At.qC (a36, c36) (by first | assumption | exact Le.refl _) ?_ ?_
   ·rw [hsn, ← List.append_assoc, List.length_append]; exact ⟨rfl, rfl, rfl, rfl, trivial⟩
   ·rw [hsn, ← List.append_assoc, jg, List.length_append]; exact Pt.zM
  ·have hsn : knR r i (k + 1) = knR r i k := by simp only [knR]; rw [if_neg hb]
   refine At.nrm ?_
   refine At.qC (ao2, co2) (Le.refl _) ?_ ?_
   ·rw [hsn]; exact ⟨rfl, rfl, rfl, rfl, trivial⟩
   ·rw [hsn]; exact Pt.zM
 rintro ⟨ao3, co3⟩ V3 ks' O' hV3 hk hO hl4
 dsimp only at hk hO
 subst hk hO
 refine At.nrm ?_
 refine At.zl (.q 0 (.q 1 (.q 2 .done))) ?_
 refine AtT.zh ?_
 first | refine AtT.qj ?_ | refine AtT.zU ?_
 refine AtT.zg ?_
 refine AtT.done ?_
 refine At.nrm ?_
 refine At.round (k + 1, ao3, co3) ?_ ?_ ?_ ?_
 ·show r.size - (k + 1) < r.size - k; omega
 ·exact ⟨hV2.trans hV3, by dsimp only; omega⟩
 ·exact ⟨rfl, rfl, rfl, ivs (by dsimp only; omega), trivial⟩
 ·exact Pt.zM
theorem rsheet_f (s : Sh) (V : View) (v : Value) (hv : ShV V v s) : Fnc Tryz.prog 20 [v] V fun r _ => r = iv (chE s) := by
 obtain ⟨a, c, rfl, hs⟩ := hv
 have hlen := hs.jf
 refine qh Tryz.func20 rfl Tryz.ntmps20 (Nat.le_of_ble_eq_true rfl) ?_
 intro w0 hw0
 refine At.nrm ?_
 refine At.zl (.n false 0 (.q 1 .done)) ?_
 refine AtT.qZ ?_
 intro b1
 refine AtT.zg ?_
 refine AtT.done ?_
 refine At.nrm ?_
 refine At.zl (.q 0 (.q 1 (.q 2 (.q 3 .done)))) ?_
 first | refine AtT.zi zw ?_ | with_reducible refine AtT.zk zw ?_ | refine AtT.zn zw ?_
 first | refine AtT.zm zV ?_ | refine AtT.zo zV ?_
 first | refine AtT.zZ Tryz.underlying22 ?_ | refine AtT.qa Tryz.underlying22 ?_
 refine AtT.zg ?_
 refine AtT.done ?_
 refine At.nrm ?_
 by_cases n1 : (s.rows.length : Int) < 1
 ·refine At.zl (.q 0 (.q 1 (.q 2 (.q 3 (.q 4 (.q 5 (.q 6 (.q 7 (.q 8 (.q 9 (.q 10 (.q 11 (.q 12 (.q 13 (.q 14 (.q 15 (.q 16 (.q 17 (.q 18 (.q 19 (.q 20 (.q 21 (.q 22 (.q 23 (.q 24 (.q 25 (.q 26 (.q 27 (.q 28 (.q 29 (.q 30 (.q 31 .done)))))))))))))))))))))))))))))))) ?_
  refine AtT.zh ?_
  refine AtT.zY ?_
  refine AtT.qJ (d := 12) rfl (n1) ?_
  refine AtT.zh ?_
  all_goals (first | refine AtT.kL 13 ?_ | refine AtT.zB (d := 13) rfl (fun hg13 => ?_) (fun hg13 => ?_) | refine AtT.zA (d := 13) rfl (fun hg13 => ?_) (fun hg13 => ?_))
  all_goals first|refine AtT.zf ?_|refine AtT.ze ?_|(refine AtT.zh ?_)
  all_goals first|refine AtT.zf ?_|refine AtT.ze ?_|(refine AtT.qw ?_)
  all_goals (refine AtT.zz ?_)
  all_goals (refine AtT.zh ?_)
  all_goals (first | refine AtT.kL 17 ?_ | refine AtT.zB (d := 17) rfl (fun hg17 => ?_) (fun hg17 => ?_) | refine AtT.zA (d := 17) rfl (fun hg17 => ?_) (fun hg17 => ?_))
  all_goals first|refine AtT.zf ?_|refine AtT.ze ?_|(first | refine AtT.zi zw ?_ | with_reducible refine AtT.zk zw ?_ | refine AtT.zn zw ?_)
  all_goals first|refine AtT.zf ?_|refine AtT.ze ?_|(first | refine AtT.zm zV ?_ | refine AtT.zo zV ?_)
  all_goals first|refine AtT.zf ?_|refine AtT.ze ?_|(refine AtT.qo Tryz.underlying22 tk9 ?_) ; (intro p20 e20 he20 hc20)
  all_goals first|refine AtT.zf ?_|refine AtT.ze ?_|(first | refine AtT.zm tk9 ?_ | refine AtT.zo tk9 ?_)
  all_goals first|refine AtT.zf ?_|refine AtT.ze ?_|(refine AtT.qL rfl ⟨_, _, rfl, rfl, rfl⟩ Tryz.underlying9 rfl (by decide) ?_)
  all_goals first|refine AtT.zf ?_|refine AtT.ze ?_|(refine AtT.zY ?_)
  all_goals (refine AtT.zz ?_)
  all_goals (refine AtT.zh ?_)
  all_goals (first | refine AtT.kL 25 ?_ | refine AtT.zB (d := 25) rfl (fun hg25 => ?_) (fun hg25 => ?_) | refine AtT.zA (d := 25) rfl (fun hg25 => ?_) (fun hg25 => ?_))
  all_goals first|refine AtT.zf ?_|refine AtT.ze ?_|(first | refine AtT.zi zw ?_ | with_reducible refine AtT.zk zw ?_ | refine AtT.zn zw ?_)
  all_goals first|refine AtT.zf ?_|refine AtT.ze ?_|(first | refine AtT.zm zV ?_ | refine AtT.zo zV ?_)
  all_goals first|refine AtT.zf ?_|refine AtT.ze ?_|(refine AtT.qo Tryz.underlying22 tk9 ?_) ; (intro p28 e28 he28 hc28)
  all_goals first|refine AtT.zf ?_|refine AtT.ze ?_|(first | refine AtT.zm tk9 ?_ | refine AtT.zo tk9 ?_)
  all_goals first|refine AtT.zf ?_|refine AtT.ze ?_|(refine AtT.qL rfl ⟨_, _, rfl, rfl, rfl⟩ Tryz.underlying9 rfl (by decide) ?_)
  all_goals first|refine AtT.zf ?_|refine AtT.ze ?_|(refine AtT.qw ?_)
  all_goals (refine AtT.zz ?_)
  all_goals (refine AtT.zh ?_)
  all_goals (first | refine AtT.kL 33 ?_ | refine AtT.zB (d := 33) rfl (fun hg33 => ?_) (fun hg33 => ?_) | refine AtT.zA (d := 33) rfl (fun hg33 => ?_) (fun hg33 => ?_))
  all_goals first|refine AtT.zf ?_|refine AtT.ze ?_|(first | refine AtT.zi zR ?_ | with_reducible refine AtT.zk zR ?_ | refine AtT.zn zR ?_)
  all_goals first|refine AtT.zf ?_|refine AtT.ze ?_|(first | refine AtT.zm tk3 ?_ | refine AtT.zo tk3 ?_)
  all_goals first|refine AtT.zf ?_|refine AtT.ze ?_|(refine AtT.zY ?_)
  all_goals (refine AtT.zz ?_)
  all_goals (refine AtT.zh ?_)
  all_goals (first | refine AtT.kL 38 ?_ | refine AtT.zB (d := 38) rfl (fun hg38 => ?_) (fun hg38 => ?_) | refine AtT.zA (d := 38) rfl (fun hg38 => ?_) (fun hg38 => ?_))
  all_goals first|refine AtT.zf ?_|refine AtT.ze ?_|(first | refine AtT.zi zR ?_ | with_reducible refine AtT.zk zR ?_ | refine AtT.zn zR ?_)
  all_goals first|refine AtT.zf ?_|refine AtT.ze ?_|(first | refine AtT.zm tk3 ?_ | refine AtT.zo tk3 ?_)
  all_goals first|refine AtT.zf ?_|refine AtT.ze ?_|(refine AtT.qw ?_)
  all_goals (refine AtT.zz ?_)
  all_goals refine AtT.done ?_
  all_goals (refine At.nrm ?_)
  refine At.qA rfl rfl ?_
  refine At.nrm ?_
  refine At.zl (.q 0 .done) ?_
  refine AtT.zg ?_
  refine AtT.done ?_
  refine At.nrm ?_
  exact At.qb rfl (.tmp rfl) (by unfold chE; rw [if_pos (by omega)])
 by_cases n2 : 6 < (s.rows.length : Int)
 ·refine At.zl (.q 0 (.q 1 (.q 2 (.q 3 (.q 4 (.q 5 (.q 6 (.q 7 (.q 8 (.q 9 (.q 10 (.q 11 (.q 12 (.q 13 (.q 14 (.q 15 (.q 16 (.q 17 (.q 18 (.q 19 (.q 20 (.q 21 (.q 22 (.q 23 (.q 24 (.q 25 (.q 26 (.q 27 (.q 28 (.q 29 (.q 30 (.q 31 .done)))))))))))))))))))))))))))))))) ?_
  refine AtT.zh ?_
  refine AtT.zY ?_
  refine AtT.qm (d := 12) rfl (n1) ?_
  refine AtT.zh ?_
  all_goals (first | refine AtT.kL 13 ?_ | refine AtT.zB (d := 13) rfl (fun hg13 => ?_) (fun hg13 => ?_) | refine AtT.zA (d := 13) rfl (fun hg13 => ?_) (fun hg13 => ?_))
  all_goals first|refine AtT.zf ?_|refine AtT.ze ?_|(refine AtT.zh ?_)
  all_goals first|refine AtT.zf ?_|refine AtT.ze ?_|(refine AtT.qw ?_)
  all_goals (refine AtT.qJ (d := 15) rfl (n2) ?_)
  all_goals (refine AtT.zz ?_)
  all_goals (refine AtT.zh ?_)
  all_goals (first | refine AtT.kL 17 ?_ | refine AtT.zB (d := 17) rfl (fun hg17 => ?_) (fun hg17 => ?_) | refine AtT.zA (d := 17) rfl (fun hg17 => ?_) (fun hg17 => ?_))
  all_goals first|refine AtT.zf ?_|refine AtT.ze ?_|(first | refine AtT.zi zw ?_ | with_reducible refine AtT.zk zw ?_ | refine AtT.zn zw ?_)
  all_goals first|refine AtT.zf ?_|refine AtT.ze ?_|(first | refine AtT.zm zV ?_ | refine AtT.zo zV ?_)
  all_goals first|refine AtT.zf ?_|refine AtT.ze ?_|(refine AtT.qo Tryz.underlying22 tk9 ?_) ; (intro p20 e20 he20 hc20)
  all_goals first|refine AtT.zf ?_|refine AtT.ze ?_|(first | refine AtT.zm tk9 ?_ | refine AtT.zo tk9 ?_)
  all_goals first|refine AtT.zf ?_|refine AtT.ze ?_|(refine AtT.qL rfl ⟨_, _, rfl, rfl, rfl⟩ Tryz.underlying9 rfl (by decide) ?_)
  all_goals first|refine AtT.zf ?_|refine AtT.ze ?_|(refine AtT.zY ?_)
  all_goals (refine AtT.zz ?_)
  all_goals (refine AtT.zh ?_)
  all_goals (first | refine AtT.kL 25 ?_ | refine AtT.zB (d := 25) rfl (fun hg25 => ?_) (fun hg25 => ?_) | refine AtT.zA (d := 25) rfl (fun hg25 => ?_) (fun hg25 => ?_))
  all_goals first|refine AtT.zf ?_|refine AtT.ze ?_|(first | refine AtT.zi zw ?_ | with_reducible refine AtT.zk zw ?_ | refine AtT.zn zw ?_)
  all_goals first|refine AtT.zf ?_|refine AtT.ze ?_|(first | refine AtT.zm zV ?_ | refine AtT.zo zV ?_)
  all_goals first|refine AtT.zf ?_|refine AtT.ze ?_|(refine AtT.qo Tryz.underlying22 tk9 ?_) ; (intro p28 e28 he28 hc28)
  all_goals first|refine AtT.zf ?_|refine AtT.ze ?_|(first | refine AtT.zm tk9 ?_ | refine AtT.zo tk9 ?_)
  all_goals first|refine AtT.zf ?_|refine AtT.ze ?_|(refine AtT.qL rfl ⟨_, _, rfl, rfl, rfl⟩ Tryz.underlying9 rfl (by decide) ?_)
  all_goals first|refine AtT.zf ?_|refine AtT.ze ?_|(refine AtT.qw ?_)
  all_goals (refine AtT.zz ?_)
  all_goals (refine AtT.zh ?_)
  all_goals (first | refine AtT.kL 33 ?_ | refine AtT.zB (d := 33) rfl (fun hg33 => ?_) (fun hg33 => ?_) | refine AtT.zA (d := 33) rfl (fun hg33 => ?_) (fun hg33 => ?_))
  all_goals first|refine AtT.zf ?_|refine AtT.ze ?_|(first | refine AtT.zi zR ?_ | with_reducible refine AtT.zk zR ?_ | refine AtT.zn zR ?_)
  all_goals first|refine AtT.zf ?_|refine AtT.ze ?_|(first | refine AtT.zm tk3 ?_ | refine AtT.zo tk3 ?_)
  all_goals first|refine AtT.zf ?_|refine AtT.ze ?_|(refine AtT.zY ?_)
  all_goals (refine AtT.zz ?_)
  all_goals (refine AtT.zh ?_)
  all_goals (first | refine AtT.kL 38 ?_ | refine AtT.zB (d := 38) rfl (fun hg38 => ?_) (fun hg38 => ?_) | refine AtT.zA (d := 38) rfl (fun hg38 => ?_) (fun hg38 => ?_))
  all_goals first|refine AtT.zf ?_|refine AtT.ze ?_|(first | refine AtT.zi zR ?_ | with_reducible refine AtT.zk zR ?_ | refine AtT.zn zR ?_)
  all_goals first|refine AtT.zf ?_|refine AtT.ze ?_|(first | refine AtT.zm tk3 ?_ | refine AtT.zo tk3 ?_)
  all_goals first|refine AtT.zf ?_|refine AtT.ze ?_|(refine AtT.qw ?_)
  all_goals (refine AtT.zz ?_)
  all_goals refine AtT.done ?_
  all_goals (refine At.nrm ?_)
  refine At.qA rfl rfl ?_
  refine At.nrm ?_
  refine At.zl (.q 0 .done) ?_
  refine AtT.zg ?_
  refine AtT.done ?_
  refine At.nrm ?_
  exact At.qb rfl (.tmp rfl) (by unfold chE; rw [if_pos (by omega)])
 obtain ⟨r0, hr0⟩ : ∃ r, s.rows[0]? = some r := ⟨_, List.getElem?_eq_getElem (by omega)⟩
 have hwd : wdS s = r0.size := by unfold wdS row0; rw [row_at hr0]
 by_cases n3 : (r0.size : Int) < 1
 ·refine At.zl (.q 0 (.q 1 (.q 2 (.q 3 (.q 4 (.q 5 (.q 6 (.q 7 (.q 8 (.q 9 (.q 10 (.q 11 (.q 12 (.q 13 (.q 14 (.q 15 (.q 16 (.q 17 (.q 18 (.q 19 (.q 20 (.q 21 (.q 22 (.q 23 (.q 24 (.q 25 (.q 26 (.q 27 (.q 28 (.q 29 (.q 30 (.q 31 .done)))))))))))))))))))))))))))))))) ?_
  refine AtT.zh ?_
  refine AtT.zY ?_
  refine AtT.qm (d := 12) rfl (n1) ?_
  refine AtT.zh ?_
  all_goals (first | refine AtT.kL 13 ?_ | refine AtT.zB (d := 13) rfl (fun hg13 => ?_) (fun hg13 => ?_) | refine AtT.zA (d := 13) rfl (fun hg13 => ?_) (fun hg13 => ?_))
  all_goals first|refine AtT.zf ?_|refine AtT.ze ?_|(refine AtT.zh ?_)
  all_goals first|refine AtT.zf ?_|refine AtT.ze ?_|(refine AtT.qw ?_)
  all_goals (refine AtT.qm (d := 15) rfl (n2) ?_)
  all_goals (refine AtT.zz ?_)
  all_goals (refine AtT.zh ?_)
  all_goals (first | refine AtT.kL 17 ?_ | refine AtT.zB (d := 17) rfl (fun hg17 => ?_) (fun hg17 => ?_) | refine AtT.zA (d := 17) rfl (fun hg17 => ?_) (fun hg17 => ?_))
  all_goals first|refine AtT.zf ?_|refine AtT.ze ?_|(first | refine AtT.zi zw ?_ | with_reducible refine AtT.zk zw ?_ | refine AtT.zn zw ?_)
  all_goals first|refine AtT.zf ?_|refine AtT.ze ?_|(first | refine AtT.zm zV ?_ | refine AtT.zo zV ?_)
  all_goals first|refine AtT.zf ?_|refine AtT.ze ?_|(refine AtT.qo Tryz.underlying22 tk9 ?_) ; (intro p20 e20 he20 hc20)
  all_goals (obtain rfl : r0 = e20 := by have : s.rows[0]? = some e20 := (by simpa using he20); rw [hr0] at this; simpa using this)
  all_goals first|refine AtT.zf ?_|refine AtT.ze ?_|(first | refine AtT.zm tk9 ?_ | refine AtT.zo tk9 ?_)
  all_goals first|refine AtT.zf ?_|refine AtT.ze ?_|(refine AtT.qL rfl ⟨_, _, rfl, rfl, rfl⟩ Tryz.underlying9 rfl (by decide) ?_)
  all_goals first|refine AtT.zf ?_|refine AtT.ze ?_|(refine AtT.zY ?_)
  all_goals (refine AtT.qJ (d := 23) rfl ((n3)) ?_)
  all_goals (refine AtT.zz ?_)
  all_goals (refine AtT.zh ?_)
  all_goals (first | refine AtT.kL 25 ?_ | refine AtT.zB (d := 25) rfl (fun hg25 => ?_) (fun hg25 => ?_) | refine AtT.zA (d := 25) rfl (fun hg25 => ?_) (fun hg25 => ?_))
  all_goals first|refine AtT.zf ?_|refine AtT.ze ?_|(first | refine AtT.zi zw ?_ | with_reducible refine AtT.zk zw ?_ | refine AtT.zn zw ?_)
  all_goals first|refine AtT.zf ?_|refine AtT.ze ?_|(first | refine AtT.zm zV ?_ | refine AtT.zo zV ?_)
  all_goals first|refine AtT.zf ?_|refine AtT.ze ?_|(refine AtT.qo Tryz.underlying22 tk9 ?_) ; (intro p28 e28 he28 hc28)
  all_goals first|refine AtT.zf ?_|refine AtT.ze ?_|(first | refine AtT.zm tk9 ?_ | refine AtT.zo tk9 ?_)
  all_goals first|refine AtT.zf ?_|refine AtT.ze ?_|(refine AtT.qL rfl ⟨_, _, rfl, rfl, rfl⟩ Tryz.underlying9 rfl (by decide) ?_)
  all_goals first|refine AtT.zf ?_|refine AtT.ze ?_|(refine AtT.qw ?_)
  all_goals (refine AtT.zz ?_)
  all_goals (refine AtT.zh ?_)
  all_goals (first | refine AtT.kL 33 ?_ | refine AtT.zB (d := 33) rfl (fun hg33 => ?_) (fun hg33 => ?_) | refine AtT.zA (d := 33) rfl (fun hg33 => ?_) (fun hg33 => ?_))
  all_goals first|refine AtT.zf ?_|refine AtT.ze ?_|(first | refine AtT.zi zR ?_ | with_reducible refine AtT.zk zR ?_ | refine AtT.zn zR ?_)
  all_goals first|refine AtT.zf ?_|refine AtT.ze ?_|(first | refine AtT.zm tk3 ?_ | refine AtT.zo tk3 ?_)
  all_goals first|refine AtT.zf ?_|refine AtT.ze ?_|(refine AtT.zY ?_)
  all_goals (refine AtT.zz ?_)
  all_goals (refine AtT.zh ?_)
  all_goals (first | refine AtT.kL 38 ?_ | refine AtT.zB (d := 38) rfl (fun hg38 => ?_) (fun hg38 => ?_) | refine AtT.zA (d := 38) rfl (fun hg38 => ?_) (fun hg38 => ?_))
  all_goals first|refine AtT.zf ?_|refine AtT.ze ?_|(first | refine AtT.zi zR ?_ | with_reducible refine AtT.zk zR ?_ | refine AtT.zn zR ?_)
  all_goals first|refine AtT.zf ?_|refine AtT.ze ?_|(first | refine AtT.zm tk3 ?_ | refine AtT.zo tk3 ?_)
  all_goals first|refine AtT.zf ?_|refine AtT.ze ?_|(refine AtT.qw ?_)
  all_goals (refine AtT.zz ?_)
  all_goals refine AtT.done ?_
  all_goals (refine At.nrm ?_)
  refine At.qA rfl rfl ?_
  refine At.nrm ?_
  refine At.zl (.q 0 .done) ?_
  refine AtT.zg ?_
  refine AtT.done ?_
  refine At.nrm ?_
  exact At.qb rfl (.tmp rfl) (by unfold chE; rw [if_pos (by omega)])
 by_cases n4 : 6 < (r0.size : Int)
 ·refine At.zl (.q 0 (.q 1 (.q 2 (.q 3 (.q 4 (.q 5 (.q 6 (.q 7 (.q 8 (.q 9 (.q 10 (.q 11 (.q 12 (.q 13 (.q 14 (.q 15 (.q 16 (.q 17 (.q 18 (.q 19 (.q 20 (.q 21 (.q 22 (.q 23 (.q 24 (.q 25 (.q 26 (.q 27 (.q 28 (.q 29 (.q 30 (.q 31 .done)))))))))))))))))))))))))))))))) ?_
  refine AtT.zh ?_
  refine AtT.zY ?_
  refine AtT.qm (d := 12) rfl (n1) ?_
  refine AtT.zh ?_
  all_goals (first | refine AtT.kL 13 ?_ | refine AtT.zB (d := 13) rfl (fun hg13 => ?_) (fun hg13 => ?_) | refine AtT.zA (d := 13) rfl (fun hg13 => ?_) (fun hg13 => ?_))
  all_goals first|refine AtT.zf ?_|refine AtT.ze ?_|(refine AtT.zh ?_)
  all_goals first|refine AtT.zf ?_|refine AtT.ze ?_|(refine AtT.qw ?_)
  all_goals (refine AtT.qm (d := 15) rfl (n2) ?_)
  all_goals (refine AtT.zz ?_)
  all_goals (refine AtT.zh ?_)
  all_goals (first | refine AtT.kL 17 ?_ | refine AtT.zB (d := 17) rfl (fun hg17 => ?_) (fun hg17 => ?_) | refine AtT.zA (d := 17) rfl (fun hg17 => ?_) (fun hg17 => ?_))
  all_goals first|refine AtT.zf ?_|refine AtT.ze ?_|(first | refine AtT.zi zw ?_ | with_reducible refine AtT.zk zw ?_ | refine AtT.zn zw ?_)
  all_goals first|refine AtT.zf ?_|refine AtT.ze ?_|(first | refine AtT.zm zV ?_ | refine AtT.zo zV ?_)
  all_goals first|refine AtT.zf ?_|refine AtT.ze ?_|(refine AtT.qo Tryz.underlying22 tk9 ?_) ; (intro p20 e20 he20 hc20)
  all_goals (obtain rfl : r0 = e20 := by have : s.rows[0]? = some e20 := (by simpa using he20); rw [hr0] at this; simpa using this)
  all_goals first|refine AtT.zf ?_|refine AtT.ze ?_|(first | refine AtT.zm tk9 ?_ | refine AtT.zo tk9 ?_)
  all_goals first|refine AtT.zf ?_|refine AtT.ze ?_|(refine AtT.qL rfl ⟨_, _, rfl, rfl, rfl⟩ Tryz.underlying9 rfl (by decide) ?_)
  all_goals first|refine AtT.zf ?_|refine AtT.ze ?_|(refine AtT.zY ?_)
  all_goals (refine AtT.qm (d := 23) rfl ((n3)) ?_)
  all_goals (refine AtT.zz ?_)
  all_goals (refine AtT.zh ?_)
  all_goals (first | refine AtT.kL 25 ?_ | refine AtT.zB (d := 25) rfl (fun hg25 => ?_) (fun hg25 => ?_) | refine AtT.zA (d := 25) rfl (fun hg25 => ?_) (fun hg25 => ?_))
  all_goals first|refine AtT.zf ?_|refine AtT.ze ?_|(first | refine AtT.zi zw ?_ | with_reducible refine AtT.zk zw ?_ | refine AtT.zn zw ?_)
  all_goals first|refine AtT.zf ?_|refine AtT.ze ?_|(first | refine AtT.zm zV ?_ | refine AtT.zo zV ?_)
  all_goals first|refine AtT.zf ?_|refine AtT.ze ?_|(refine AtT.qo Tryz.underlying22 tk9 ?_) ; (intro p28 e28 he28 hc28)
  all_goals (obtain rfl : r0 = e28 := by have : s.rows[0]? = some e28 := (by simpa using he28); rw [hr0] at this; simpa using this)
  all_goals first|refine AtT.zf ?_|refine AtT.ze ?_|(first | refine AtT.zm tk9 ?_ | refine AtT.zo tk9 ?_)
  all_goals first|refine AtT.zf ?_|refine AtT.ze ?_|(refine AtT.qL rfl ⟨_, _, rfl, rfl, rfl⟩ Tryz.underlying9 rfl (by decide) ?_)
  all_goals first|refine AtT.zf ?_|refine AtT.ze ?_|(refine AtT.qw ?_)
  all_goals (refine AtT.qJ (d := 31) rfl ((n4)) ?_)
  all_goals (refine AtT.zz ?_)
  all_goals (refine AtT.zh ?_)
  all_goals (first | refine AtT.kL 33 ?_ | refine AtT.zB (d := 33) rfl (fun hg33 => ?_) (fun hg33 => ?_) | refine AtT.zA (d := 33) rfl (fun hg33 => ?_) (fun hg33 => ?_))
  all_goals first|refine AtT.zf ?_|refine AtT.ze ?_|(first | refine AtT.zi zR ?_ | with_reducible refine AtT.zk zR ?_ | refine AtT.zn zR ?_)
  all_goals first|refine AtT.zf ?_|refine AtT.ze ?_|(first | refine AtT.zm tk3 ?_ | refine AtT.zo tk3 ?_)
  all_goals first|refine AtT.zf ?_|refine AtT.ze ?_|(refine AtT.zY ?_)
  all_goals (refine AtT.zz ?_)
  all_goals (refine AtT.zh ?_)
  all_goals (first | refine AtT.kL 38 ?_ | refine AtT.zB (d := 38) rfl (fun hg38 => ?_) (fun hg38 => ?_) | refine AtT.zA (d := 38) rfl (fun hg38 => ?_) (fun hg38 => ?_))
  all_goals first|refine AtT.zf ?_|refine AtT.ze ?_|(first | refine AtT.zi zR ?_ | with_reducible refine AtT.zk zR ?_ | refine AtT.zn zR ?_)
  all_goals first|refine AtT.zf ?_|refine AtT.ze ?_|(first | refine AtT.zm tk3 ?_ | refine AtT.zo tk3 ?_)
  all_goals first|refine AtT.zf ?_|refine AtT.ze ?_|(refine AtT.qw ?_)
  all_goals (refine AtT.zz ?_)
  all_goals refine AtT.done ?_
  all_goals (refine At.nrm ?_)
  refine At.qA rfl rfl ?_
  refine At.nrm ?_
  refine At.zl (.q 0 .done) ?_
  refine AtT.zg ?_
  refine AtT.done ?_
  refine At.nrm ?_
  exact At.qb rfl (.tmp rfl) (by unfold chE; rw [if_pos (by omega)])
 by_cases n5 : s.most < 1
 ·refine At.zl (.q 0 (.q 1 (.q 2 (.q 3 (.q 4 (.q 5 (.q 6 (.q 7 (.q 8 (.q 9 (.q 10 (.q 11 (.q 12 (.q 13 (.q 14 (.q 15 (.q 16 (.q 17 (.q 18 (.q 19 (.q 20 (.q 21 (.q 22 (.q 23 (.q 24 (.q 25 (.q 26 (.q 27 (.q 28 (.q 29 (.q 30 (.q 31 .done)))))))))))))))))))))))))))))))) ?_
  refine AtT.zh ?_
  refine AtT.zY ?_
  refine AtT.qm (d := 12) rfl (n1) ?_
  refine AtT.zh ?_
  all_goals (first | refine AtT.kL 13 ?_ | refine AtT.zB (d := 13) rfl (fun hg13 => ?_) (fun hg13 => ?_) | refine AtT.zA (d := 13) rfl (fun hg13 => ?_) (fun hg13 => ?_))
  all_goals first|refine AtT.zf ?_|refine AtT.ze ?_|(refine AtT.zh ?_)
  all_goals first|refine AtT.zf ?_|refine AtT.ze ?_|(refine AtT.qw ?_)
  all_goals (refine AtT.qm (d := 15) rfl (n2) ?_)
  all_goals (refine AtT.zz ?_)
  all_goals (refine AtT.zh ?_)
  all_goals (first | refine AtT.kL 17 ?_ | refine AtT.zB (d := 17) rfl (fun hg17 => ?_) (fun hg17 => ?_) | refine AtT.zA (d := 17) rfl (fun hg17 => ?_) (fun hg17 => ?_))
  all_goals first|refine AtT.zf ?_|refine AtT.ze ?_|(first | refine AtT.zi zw ?_ | with_reducible refine AtT.zk zw ?_ | refine AtT.zn zw ?_)
  all_goals first|refine AtT.zf ?_|refine AtT.ze ?_|(first | refine AtT.zm zV ?_ | refine AtT.zo zV ?_)
  all_goals first|refine AtT.zf ?_|refine AtT.ze ?_|(refine AtT.qo Tryz.underlying22 tk9 ?_) ; (intro p20 e20 he20 hc20)
  all_goals (obtain rfl : r0 = e20 := by have : s.rows[0]? = some e20 := (by simpa using he20); rw [hr0] at this; simpa using this)
  all_goals first|refine AtT.zf ?_|refine AtT.ze ?_|(first | refine AtT.zm tk9 ?_ | refine AtT.zo tk9 ?_)
  all_goals first|refine AtT.zf ?_|refine AtT.ze ?_|(refine AtT.qL rfl ⟨_, _, rfl, rfl, rfl⟩ Tryz.underlying9 rfl (by decide) ?_)
  all_goals first|refine AtT.zf ?_|refine AtT.ze ?_|(refine AtT.zY ?_)
  all_goals (refine AtT.qm (d := 23) rfl ((n3)) ?_)
  all_goals (refine AtT.zz ?_)
  all_goals (refine AtT.zh ?_)
  all_goals (first | refine AtT.kL 25 ?_ | refine AtT.zB (d := 25) rfl (fun hg25 => ?_) (fun hg25 => ?_) | refine AtT.zA (d := 25) rfl (fun hg25 => ?_) (fun hg25 => ?_))
  all_goals first|refine AtT.zf ?_|refine AtT.ze ?_|(first | refine AtT.zi zw ?_ | with_reducible refine AtT.zk zw ?_ | refine AtT.zn zw ?_)
  all_goals first|refine AtT.zf ?_|refine AtT.ze ?_|(first | refine AtT.zm zV ?_ | refine AtT.zo zV ?_)
  all_goals first|refine AtT.zf ?_|refine AtT.ze ?_|(refine AtT.qo Tryz.underlying22 tk9 ?_) ; (intro p28 e28 he28 hc28)
  all_goals (obtain rfl : r0 = e28 := by have : s.rows[0]? = some e28 := (by simpa using he28); rw [hr0] at this; simpa using this)
  all_goals first|refine AtT.zf ?_|refine AtT.ze ?_|(first | refine AtT.zm tk9 ?_ | refine AtT.zo tk9 ?_)
  all_goals first|refine AtT.zf ?_|refine AtT.ze ?_|(refine AtT.qL rfl ⟨_, _, rfl, rfl, rfl⟩ Tryz.underlying9 rfl (by decide) ?_)
  all_goals first|refine AtT.zf ?_|refine AtT.ze ?_|(refine AtT.qw ?_)
  all_goals (refine AtT.qm (d := 31) rfl ((n4)) ?_)
  all_goals (refine AtT.zz ?_)
  all_goals (refine AtT.zh ?_)
  all_goals (first | refine AtT.kL 33 ?_ | refine AtT.zB (d := 33) rfl (fun hg33 => ?_) (fun hg33 => ?_) | refine AtT.zA (d := 33) rfl (fun hg33 => ?_) (fun hg33 => ?_))
  all_goals first|refine AtT.zf ?_|refine AtT.ze ?_|(first | refine AtT.zi zR ?_ | with_reducible refine AtT.zk zR ?_ | refine AtT.zn zR ?_)
  all_goals first|refine AtT.zf ?_|refine AtT.ze ?_|(first | refine AtT.zm tk3 ?_ | refine AtT.zo tk3 ?_)
  all_goals first|refine AtT.zf ?_|refine AtT.ze ?_|(refine AtT.zY ?_)
  all_goals (refine AtT.qJ (d := 36) rfl ((n5)) ?_)
  all_goals (refine AtT.zz ?_)
  all_goals (refine AtT.zh ?_)
  all_goals (first | refine AtT.kL 38 ?_ | refine AtT.zB (d := 38) rfl (fun hg38 => ?_) (fun hg38 => ?_) | refine AtT.zA (d := 38) rfl (fun hg38 => ?_) (fun hg38 => ?_))
  all_goals first|refine AtT.zf ?_|refine AtT.ze ?_|(first | refine AtT.zi zR ?_ | with_reducible refine AtT.zk zR ?_ | refine AtT.zn zR ?_)
  all_goals first|refine AtT.zf ?_|refine AtT.ze ?_|(first | refine AtT.zm tk3 ?_ | refine AtT.zo tk3 ?_)
  all_goals first|refine AtT.zf ?_|refine AtT.ze ?_|(refine AtT.qw ?_)
  all_goals (refine AtT.zz ?_)
  all_goals refine AtT.done ?_
  all_goals (refine At.nrm ?_)
  refine At.qA rfl rfl ?_
  refine At.nrm ?_
  refine At.zl (.q 0 .done) ?_
  refine AtT.zg ?_
  refine AtT.done ?_
  refine At.nrm ?_
  exact At.qb rfl (.tmp rfl) (by unfold chE; rw [if_pos (by omega)])
 by_cases n6 : 36 < s.most
 ·refine At.zl (.q 0 (.q 1 (.q 2 (.q 3 (.q 4 (.q 5 (.q 6 (.q 7 (.q 8 (.q 9 (.q 10 (.q 11 (.q 12 (.q 13 (.q 14 (.q 15 (.q 16 (.q 17 (.q 18 (.q 19 (.q 20 (.q 21 (.q 22 (.q 23 (.q 24 (.q 25 (.q 26 (.q 27 (.q 28 (.q 29 (.q 30 (.q 31 .done)))))))))))))))))))))))))))))))) ?_
  refine AtT.zh ?_
  refine AtT.zY ?_
  refine AtT.qm (d := 12) rfl (n1) ?_
  refine AtT.zh ?_
  all_goals (first | refine AtT.kL 13 ?_ | refine AtT.zB (d := 13) rfl (fun hg13 => ?_) (fun hg13 => ?_) | refine AtT.zA (d := 13) rfl (fun hg13 => ?_) (fun hg13 => ?_))
  all_goals first|refine AtT.zf ?_|refine AtT.ze ?_|(refine AtT.zh ?_)
  all_goals first|refine AtT.zf ?_|refine AtT.ze ?_|(refine AtT.qw ?_)
  all_goals (refine AtT.qm (d := 15) rfl (n2) ?_)
  all_goals (refine AtT.zz ?_)
  all_goals (refine AtT.zh ?_)
  all_goals (first | refine AtT.kL 17 ?_ | refine AtT.zB (d := 17) rfl (fun hg17 => ?_) (fun hg17 => ?_) | refine AtT.zA (d := 17) rfl (fun hg17 => ?_) (fun hg17 => ?_))
  all_goals first|refine AtT.zf ?_|refine AtT.ze ?_|(first | refine AtT.zi zw ?_ | with_reducible refine AtT.zk zw ?_ | refine AtT.zn zw ?_)
  all_goals first|refine AtT.zf ?_|refine AtT.ze ?_|(first | refine AtT.zm zV ?_ | refine AtT.zo zV ?_)
  all_goals first|refine AtT.zf ?_|refine AtT.ze ?_|(refine AtT.qo Tryz.underlying22 tk9 ?_) ; (intro p20 e20 he20 hc20)
  all_goals (obtain rfl : r0 = e20 := by have : s.rows[0]? = some e20 := (by simpa using he20); rw [hr0] at this; simpa using this)
  all_goals first|refine AtT.zf ?_|refine AtT.ze ?_|(first | refine AtT.zm tk9 ?_ | refine AtT.zo tk9 ?_)
  all_goals first|refine AtT.zf ?_|refine AtT.ze ?_|(refine AtT.qL rfl ⟨_, _, rfl, rfl, rfl⟩ Tryz.underlying9 rfl (by decide) ?_)
  all_goals first|refine AtT.zf ?_|refine AtT.ze ?_|(refine AtT.zY ?_)
  all_goals (refine AtT.qm (d := 23) rfl ((n3)) ?_)
  all_goals (refine AtT.zz ?_)
  all_goals (refine AtT.zh ?_)
  all_goals (first | refine AtT.kL 25 ?_ | refine AtT.zB (d := 25) rfl (fun hg25 => ?_) (fun hg25 => ?_) | refine AtT.zA (d := 25) rfl (fun hg25 => ?_) (fun hg25 => ?_))
  all_goals first|refine AtT.zf ?_|refine AtT.ze ?_|(first | refine AtT.zi zw ?_ | with_reducible refine AtT.zk zw ?_ | refine AtT.zn zw ?_)
  all_goals first|refine AtT.zf ?_|refine AtT.ze ?_|(first | refine AtT.zm zV ?_ | refine AtT.zo zV ?_)
  all_goals first|refine AtT.zf ?_|refine AtT.ze ?_|(refine AtT.qo Tryz.underlying22 tk9 ?_) ; (intro p28 e28 he28 hc28)
  all_goals (obtain rfl : r0 = e28 := by have : s.rows[0]? = some e28 := (by simpa using he28); rw [hr0] at this; simpa using this)
  all_goals first|refine AtT.zf ?_|refine AtT.ze ?_|(first | refine AtT.zm tk9 ?_ | refine AtT.zo tk9 ?_)
  all_goals first|refine AtT.zf ?_|refine AtT.ze ?_|(refine AtT.qL rfl ⟨_, _, rfl, rfl, rfl⟩ Tryz.underlying9 rfl (by decide) ?_)
  all_goals first|refine AtT.zf ?_|refine AtT.ze ?_|(refine AtT.qw ?_)
  all_goals (refine AtT.qm (d := 31) rfl ((n4)) ?_)
  all_goals (refine AtT.zz ?_)
  all_goals (refine AtT.zh ?_)
  all_goals (first | refine AtT.kL 33 ?_ | refine AtT.zB (d := 33) rfl (fun hg33 => ?_) (fun hg33 => ?_) | refine AtT.zA (d := 33) rfl (fun hg33 => ?_) (fun hg33 => ?_))
  all_goals first|refine AtT.zf ?_|refine AtT.ze ?_|(first | refine AtT.zi zR ?_ | with_reducible refine AtT.zk zR ?_ | refine AtT.zn zR ?_)
  all_goals first|refine AtT.zf ?_|refine AtT.ze ?_|(first | refine AtT.zm tk3 ?_ | refine AtT.zo tk3 ?_)
  all_goals first|refine AtT.zf ?_|refine AtT.ze ?_|(refine AtT.zY ?_)
  all_goals (refine AtT.qm (d := 36) rfl ((n5)) ?_)
  all_goals (refine AtT.zz ?_)
  all_goals (refine AtT.zh ?_)
  all_goals (first | refine AtT.kL 38 ?_ | refine AtT.zB (d := 38) rfl (fun hg38 => ?_) (fun hg38 => ?_) | refine AtT.zA (d := 38) rfl (fun hg38 => ?_) (fun hg38 => ?_))
  all_goals first|refine AtT.zf ?_|refine AtT.ze ?_|(first | refine AtT.zi zR ?_ | with_reducible refine AtT.zk zR ?_ | refine AtT.zn zR ?_)
  all_goals first|refine AtT.zf ?_|refine AtT.ze ?_|(first | refine AtT.zm tk3 ?_ | refine AtT.zo tk3 ?_)
  all_goals first|refine AtT.zf ?_|refine AtT.ze ?_|(refine AtT.qw ?_)
  all_goals (refine AtT.qJ (d := 41) rfl ((n6)) ?_)
  all_goals (refine AtT.zz ?_)
  all_goals refine AtT.done ?_
  all_goals (refine At.nrm ?_)
  refine At.qA rfl rfl ?_
  refine At.nrm ?_
  refine At.zl (.q 0 .done) ?_
  refine AtT.zg ?_
  refine AtT.done ?_
  refine At.nrm ?_
  exact At.qb rfl (.tmp rfl) (by unfold chE; rw [if_pos (by omega)])
 refine At.zl (.q 0 (.q 1 (.q 2 (.q 3 (.q 4 (.q 5 (.q 6 (.q 7 (.q 8 (.q 9 (.q 10 (.q 11 (.q 12 (.q 13 (.q 14 (.q 15 (.q 16 (.q 17 (.q 18 (.q 19 (.q 20 (.q 21 (.q 22 (.q 23 (.q 24 (.q 25 (.q 26 (.q 27 (.q 28 (.q 29 (.q 30 (.q 31 .done)))))))))))))))))))))))))))))))) ?_
 refine AtT.zh ?_
 refine AtT.zY ?_
 refine AtT.qm (d := 12) rfl (n1) ?_
 refine AtT.zh ?_
 all_goals (first | refine AtT.kL 13 ?_ | refine AtT.zB (d := 13) rfl (fun hg13 => ?_) (fun hg13 => ?_) | refine AtT.zA (d := 13) rfl (fun hg13 => ?_) (fun hg13 => ?_))
 all_goals first|refine AtT.zf ?_|refine AtT.ze ?_|(refine AtT.zh ?_)
 all_goals first|refine AtT.zf ?_|refine AtT.ze ?_|(refine AtT.qw ?_)
 all_goals (refine AtT.qm (d := 15) rfl (n2) ?_)
 all_goals (refine AtT.zz ?_)
 all_goals (refine AtT.zh ?_)
 all_goals (first | refine AtT.kL 17 ?_ | refine AtT.zB (d := 17) rfl (fun hg17 => ?_) (fun hg17 => ?_) | refine AtT.zA (d := 17) rfl (fun hg17 => ?_) (fun hg17 => ?_))
 all_goals first|refine AtT.zf ?_|refine AtT.ze ?_|(first | refine AtT.zi zw ?_ | with_reducible refine AtT.zk zw ?_ | refine AtT.zn zw ?_)
 all_goals first|refine AtT.zf ?_|refine AtT.ze ?_|(first | refine AtT.zm zV ?_ | refine AtT.zo zV ?_)
 all_goals first|refine AtT.zf ?_|refine AtT.ze ?_|(refine AtT.qo Tryz.underlying22 tk9 ?_) ; (intro p20 e20 he20 hc20)
 all_goals (obtain rfl : r0 = e20 := by have : s.rows[0]? = some e20 := (by simpa using he20); rw [hr0] at this; simpa using this)
 all_goals first|refine AtT.zf ?_|refine AtT.ze ?_|(first | refine AtT.zm tk9 ?_ | refine AtT.zo tk9 ?_)
 all_goals first|refine AtT.zf ?_|refine AtT.ze ?_|(refine AtT.qL rfl ⟨_, _, rfl, rfl, rfl⟩ Tryz.underlying9 rfl (by decide) ?_)
 all_goals first|refine AtT.zf ?_|refine AtT.ze ?_|(refine AtT.zY ?_)
 all_goals (refine AtT.qm (d := 23) rfl ((n3)) ?_)
 all_goals (refine AtT.zz ?_)
 all_goals (refine AtT.zh ?_)
 all_goals (first | refine AtT.kL 25 ?_ | refine AtT.zB (d := 25) rfl (fun hg25 => ?_) (fun hg25 => ?_) | refine AtT.zA (d := 25) rfl (fun hg25 => ?_) (fun hg25 => ?_))
 all_goals first|refine AtT.zf ?_|refine AtT.ze ?_|(first | refine AtT.zi zw ?_ | with_reducible refine AtT.zk zw ?_ | refine AtT.zn zw ?_)
 all_goals first|refine AtT.zf ?_|refine AtT.ze ?_|(first | refine AtT.zm zV ?_ | refine AtT.zo zV ?_)
 all_goals first|refine AtT.zf ?_|refine AtT.ze ?_|(refine AtT.qo Tryz.underlying22 tk9 ?_) ; (intro p28 e28 he28 hc28)
 all_goals (obtain rfl : r0 = e28 := by have : s.rows[0]? = some e28 := (by simpa using he28); rw [hr0] at this; simpa using this)
 all_goals first|refine AtT.zf ?_|refine AtT.ze ?_|(first | refine AtT.zm tk9 ?_ | refine AtT.zo tk9 ?_)
 all_goals first|refine AtT.zf ?_|refine AtT.ze ?_|(refine AtT.qL rfl ⟨_, _, rfl, rfl, rfl⟩ Tryz.underlying9 rfl (by decide) ?_)
 all_goals first|refine AtT.zf ?_|refine AtT.ze ?_|(refine AtT.qw ?_)
 all_goals (refine AtT.qm (d := 31) rfl ((n4)) ?_)
 all_goals (refine AtT.zz ?_)
 all_goals (refine AtT.zh ?_)
 all_goals (first | refine AtT.kL 33 ?_ | refine AtT.zB (d := 33) rfl (fun hg33 => ?_) (fun hg33 => ?_) | refine AtT.zA (d := 33) rfl (fun hg33 => ?_) (fun hg33 => ?_))
 all_goals first|refine AtT.zf ?_|refine AtT.ze ?_|(first | refine AtT.zi zR ?_ | with_reducible refine AtT.zk zR ?_ | refine AtT.zn zR ?_)
 all_goals first|refine AtT.zf ?_|refine AtT.ze ?_|(first | refine AtT.zm tk3 ?_ | refine AtT.zo tk3 ?_)
 all_goals first|refine AtT.zf ?_|refine AtT.ze ?_|(refine AtT.zY ?_)
 all_goals (refine AtT.qm (d := 36) rfl ((n5)) ?_)
 all_goals (refine AtT.zz ?_)
 all_goals (refine AtT.zh ?_)
 all_goals (first | refine AtT.kL 38 ?_ | refine AtT.zB (d := 38) rfl (fun hg38 => ?_) (fun hg38 => ?_) | refine AtT.zA (d := 38) rfl (fun hg38 => ?_) (fun hg38 => ?_))
 all_goals first|refine AtT.zf ?_|refine AtT.ze ?_|(first | refine AtT.zi zR ?_ | with_reducible refine AtT.zk zR ?_ | refine AtT.zn zR ?_)
 all_goals first|refine AtT.zf ?_|refine AtT.ze ?_|(first | refine AtT.zm tk3 ?_ | refine AtT.zo tk3 ?_)
 all_goals first|refine AtT.zf ?_|refine AtT.ze ?_|(refine AtT.qw ?_)
 all_goals (refine AtT.qm (d := 41) rfl ((n6)) ?_)
 all_goals (refine AtT.zz ?_)
 all_goals refine AtT.done ?_
 all_goals (refine At.nrm ?_)
 refine At.qX rfl rfl ?_
 have hok : 1 ≤ s.rows.length ∧ s.rows.length ≤ 6 ∧ 1 ≤ wdS s ∧ wdS s ≤ 6 ∧ 1 ≤ s.most ∧ s.most ≤ 36 := by omega
 refine At.nrm ?_
 refine At.zl (.q 0 .done) ?_
 refine AtT.zg ?_
 refine AtT.done ?_
 refine At.nrm ?_
 refine At.lp (ι := Nat) (KS := fun k => [(1, .pointer (some ⟨b1, 0, none⟩)), (3, iv s.rows.length), (4, iv k)]) (OS := fun _ => [.blk b1 (LC [.slice a s.rows.length c, iv s.most] 24)]) (VS := fun k V' => V' = V ∧ k ≤ s.rows.length ∧ ∀ j (r : ByteArray), j < k → s.rows[j]? = some r → r.size = wdS s) (μ := fun k => s.rows.length - k) 0 ?_ ?_ ?_ ?_
 ·exact ⟨rfl, rfl, rfl, trivial⟩
 ·exact Pt.zM
 ·exact ⟨rfl, Nat.zero_le _, fun j r hj => absurd hj (Nat.not_lt_zero j)⟩
 rintro k V' ks' O' ⟨rfl, hkl, hsz⟩ hk hO hl2
 subst hk hO
 refine At.nrm ?_
 refine At.zl (.q 0 (.q 1 (.q 2 .done))) ?_
 refine AtT.zh ?_
 refine AtT.zh ?_
 refine AtT.zY ?_
 refine AtT.done ?_
 refine At.nrm ?_
 refine At.qc rfl (fun hp => ?_) (fun hp => ?_)
 ·obtain ⟨r, hr⟩ : ∃ r, s.rows[k]? = some r := ⟨_, List.getElem?_eq_getElem (by omega)⟩
  refine At.nrm ?_
  by_cases hne : (r.size : Int) ≠ (r0.size : Int)
  ·refine At.draw (.q 0 (.q 1 (.q 2 (.q 3 (.q 4 (.q 5 (.q 6 (.q 7 (.q 8 (.q 9 (.q 10 (.q 11 .done)))))))))))) ffm (by kernel_rfl) ?_
   first | refine AtT.zi zw ?_ | with_reducible refine AtT.zk zw ?_ | refine AtT.zn zw ?_
   first | refine AtT.zm zV ?_ | refine AtT.zo zV ?_
   refine AtT.zh ?_
   refine AtT.qo Tryz.underlying22 tk9 ?_
   intro p51 e51 he51 hc51
   obtain rfl : r = e51 := by have : s.rows[k]? = some e51 := (by simpa using he51); rw [hr] at this; simpa using this
   first | refine AtT.zm tk9 ?_ | refine AtT.zo tk9 ?_
   refine AtT.qL rfl trivial Tryz.underlying9 rfl (by decide) ?_
   first | refine AtT.zi zw ?_ | with_reducible refine AtT.zk zw ?_ | refine AtT.zn zw ?_
   first | refine AtT.zm zV ?_ | refine AtT.zo zV ?_
   refine AtT.qo Tryz.underlying22 tk9 ?_
   intro p56 e56 he56 hc56
   obtain rfl : r0 = e56 := by have : s.rows[0]? = some e56 := (by simpa using he56); rw [hr0] at this; simpa using this
   first | refine AtT.zm tk9 ?_ | refine AtT.zo tk9 ?_
   refine AtT.qL rfl trivial Tryz.underlying9 rfl (by decide) ?_
   refine AtT.qG ?_
   refine AtT.qJ (d := 59) rfl (hne) ?_
   refine AtT.done ?_
   refine At.nrm ?_
   all_goals
    refine At.qA rfl rfl ?_
    refine At.nrm ?_
    refine At.zl (.q 0 .done) ?_
    refine AtT.zg ?_
    refine AtT.done ?_
    refine At.nrm ?_
    exact At.qb rfl (.tmp rfl) (by unfold chE; rw [if_neg (by omega), if_pos (List.any_eq_true.2 ⟨r, List.mem_of_getElem? hr, decide_eq_true (by omega)⟩)])
  ·refine At.draw (.q 0 (.q 1 (.q 2 (.q 3 (.q 4 (.q 5 (.q 6 (.q 7 (.q 8 (.q 9 (.q 10 (.q 11 .done)))))))))))) ffm (by kernel_rfl) ?_
   first | refine AtT.zi zw ?_ | with_reducible refine AtT.zk zw ?_ | refine AtT.zn zw ?_
   first | refine AtT.zm zV ?_ | refine AtT.zo zV ?_
   refine AtT.zh ?_
   refine AtT.qo Tryz.underlying22 tk9 ?_
   intro p51 e51 he51 hc51
   obtain rfl : r = e51 := by have : s.rows[k]? = some e51 := (by simpa using he51); rw [hr] at this; simpa using this
   first | refine AtT.zm tk9 ?_ | refine AtT.zo tk9 ?_
   refine AtT.qL rfl trivial Tryz.underlying9 rfl (by decide) ?_
   first | refine AtT.zi zw ?_ | with_reducible refine AtT.zk zw ?_ | refine AtT.zn zw ?_
   first | refine AtT.zm zV ?_ | refine AtT.zo zV ?_
   refine AtT.qo Tryz.underlying22 tk9 ?_
   intro p56 e56 he56 hc56
   obtain rfl : r0 = e56 := by have : s.rows[0]? = some e56 := (by simpa using he56); rw [hr0] at this; simpa using this
   first | refine AtT.zm tk9 ?_ | refine AtT.zo tk9 ?_
   refine AtT.qL rfl trivial Tryz.underlying9 rfl (by decide) ?_
   refine AtT.qG ?_
   refine AtT.qm (d := 59) rfl (hne) ?_
   refine AtT.done ?_
   refine At.nrm ?_
   all_goals
    refine At.qX rfl rfl ?_
    refine At.nrm ?_
    refine At.zl (.q 0 (.q 1 (.q 2 .done))) ?_
    refine AtT.zh ?_
    first | refine AtT.qj ?_ | refine AtT.zU ?_
    refine AtT.zg ?_
    refine AtT.done ?_
    refine At.nrm ?_
    refine At.round (k + 1) ?_ ?_ ?_ ?_
    ·show s.rows.length - (k + 1) < s.rows.length - k; omega
    ·refine ⟨rfl, by omega, fun j q hj hq => ?_⟩
     by_cases e : j = k
     ·subst e; rw [hr] at hq; cases hq; omega
     ·exact hsz j q (by omega) hq
    ·exact ⟨rfl, rfl, ivs (by omega), trivial⟩
    ·exact Pt.zM
 have hall : ∀ r ∈ s.rows, r.size = wdS s := fun r hr => by
  obtain ⟨j, hj⟩ := List.getElem?_of_mem hr
  exact hsz j r (by have := (List.getElem?_eq_some_iff.1 hj).1; omega) hj
 have hany : (s.rows.any fun r => decide (r.size ≠ wdS s)) ≠ true := fun hc => by
  obtain ⟨r, hr, hd⟩ := List.any_eq_true.1 hc
  exact absurd (hall r hr) (of_decide_eq_true hd)
 refine At.nrm ?_
 refine At.zl (.q 0 .done) ?_
 refine AtT.zg ?_
 refine AtT.done ?_
 refine At.nrm ?_
 refine At.lp (ι := Nat) (KS := fun k => [(1, .pointer (some ⟨b1, 0, none⟩)), (3, iv s.rows.length), (5, iv k)]) (OS := fun _ => [.blk b1 (LC [.slice a s.rows.length c, iv s.most] 24)]) (VS := fun k V2 => V2 = V' ∧ k ≤ s.rows.length ∧ ∀ j (r : ByteArray), j < k → s.rows[j]? = some r → frR r = true) (μ := fun k => s.rows.length - k) 0 ?_ ?_ ?_ ?_
 ·exact ⟨rfl, rfl, rfl, trivial⟩
 ·exact Pt.zM
 ·exact ⟨rfl, Nat.zero_le _, fun j r hj => absurd hj (Nat.not_lt_zero j)⟩
 rintro i V2 ks' O' ⟨rfl, hil, hfr⟩ hk hO hl3
 subst hk hO
 refine At.nrm ?_
 refine At.zl (.q 0 (.q 1 (.q 2 .done))) ?_
 refine AtT.zh ?_
 refine AtT.zh ?_
 refine AtT.zY ?_
 refine AtT.done ?_
 refine At.nrm ?_
 refine At.qc rfl (fun hp3 => ?_) (fun hp3 => ?_)
 ·obtain ⟨r, hr⟩ : ∃ r, s.rows[i]? = some r := ⟨_, List.getElem?_eq_getElem (by omega)⟩
  have hrm := List.mem_of_getElem? hr
  have hrs := hall r hrm
  refine At.nrm ?_
  refine At.zl (.q 0 .done) ?_
  refine AtT.zg ?_
  refine AtT.done ?_
  refine At.nrm ?_
  refine At.lp (ι := Nat) (KS := fun k => [(1, .pointer (some ⟨b1, 0, none⟩)), (3, iv s.rows.length), (5, iv i), (6, iv k)]) (OS := fun _ => [.blk b1 (LC [.slice a s.rows.length c, iv s.most] 24)]) (VS := fun k V3 => V3 = V2 ∧ k ≤ r.size ∧ ∀ j, j < k → okC (bv r j) = true) (μ := fun k => r.size - k) 0 ?_ ?_ ?_ ?_
  ·exact ⟨rfl, rfl, rfl, rfl, trivial⟩
  ·exact Pt.zM
  ·exact ⟨rfl, Nat.zero_le _, fun j hj => absurd hj (Nat.not_lt_zero j)⟩
  rintro k V3 ks' O' ⟨rfl, hkr, hok2⟩ hk hO hl4
  subst hk hO
  refine At.nrm ?_
  refine At.zl (.q 0 (.q 1 (.q 2 (.q 3 (.q 4 (.q 5 (.q 6 (.q 7 .done)))))))) ?_
  refine AtT.zh ?_
  first | refine AtT.zi zw ?_ | with_reducible refine AtT.zk zw ?_ | refine AtT.zn zw ?_
  first | refine AtT.zm zV ?_ | refine AtT.zo zV ?_
  refine AtT.zh ?_
  refine AtT.qo Tryz.underlying22 tk9 ?_
  intro p69 e69 he69 hc69
  obtain rfl : r = e69 := by have : s.rows[i]? = some e69 := (by simpa using he69); rw [hr] at this; simpa using this
  first | refine AtT.zm tk9 ?_ | refine AtT.zo tk9 ?_
  refine AtT.qL rfl trivial Tryz.underlying9 rfl (by decide) ?_
  refine AtT.zY ?_
  refine AtT.done ?_
  refine At.nrm ?_
  refine At.qc rfl (fun hp4 => ?_) (fun hp4 => ?_)
  ·refine At.nrm ?_
   refine At.zl (.q 0 (.q 1 (.q 2 (.q 3 (.q 4 (.q 5 (.q 6 (.q 7 .done)))))))) ?_
   first | refine AtT.zi zw ?_ | with_reducible refine AtT.zk zw ?_ | refine AtT.zn zw ?_
   first | refine AtT.zm zV ?_ | refine AtT.zo zV ?_
   refine AtT.zh ?_
   refine AtT.qo Tryz.underlying22 tk9 ?_
   intro p78 e78 he78 hc78
   obtain rfl : r = e78 := by have : s.rows[i]? = some e78 := (by simpa using he78); rw [hr] at this; simpa using this
   first | refine AtT.zm tk9 ?_ | refine AtT.zo tk9 ?_
   refine AtT.zh ?_
   refine AtT.ixS rfl trivial Tryz.underlying9 rfl rfl (by omega) (by omega) (by decide) ?_
   rw [Int.toNat_natCast]
   refine AtT.zg ?_
   refine AtT.done ?_
   refine At.nrm ?_
   by_cases hc : okC (bv r k) = true
   rotate_left
   ·have hc' : okC (bv r k) = false := by cases h : okC (bv r k) with | true => exact absurd h hc | false => rfl
    have hc3 : ¬ (bv r k = 46 ∨ bv r k = 111 ∨ bv r k = 35) := by unfold okC at hc'; exact of_decide_eq_false hc'
    refine At.zl (.q 0 (.q 1 (.q 2 (.q 3 (.q 4 (.q 5 (.q 6 (.q 7 (.q 8 (.q 9 .done)))))))))) ?_
    refine AtT.zh ?_
    refine AtT.qG ?_
    refine AtT.qJ (d := 83) rfl ((by omega)) ?_
    refine AtT.zh ?_
    all_goals (first | refine AtT.kL 84 ?_ | refine AtT.zB (d := 84) rfl (fun hg84 => ?_) (fun hg84 => ?_) | refine AtT.zA (d := 84) rfl (fun hg84 => ?_) (fun hg84 => ?_))
    all_goals first|refine AtT.zf ?_|refine AtT.ze ?_|(refine AtT.zh ?_)
    all_goals first|refine AtT.zf ?_|refine AtT.ze ?_|(refine AtT.qG ?_)
    all_goals (refine AtT.qJ (d := 86) rfl ((by omega)) ?_)
    all_goals (refine AtT.zz ?_)
    all_goals (refine AtT.zh ?_)
    all_goals (first | refine AtT.kL 88 ?_ | refine AtT.zB (d := 88) rfl (fun hg88 => ?_) (fun hg88 => ?_) | refine AtT.zA (d := 88) rfl (fun hg88 => ?_) (fun hg88 => ?_))
    all_goals first|refine AtT.zf ?_|refine AtT.ze ?_|(refine AtT.zh ?_)
    all_goals first|refine AtT.zf ?_|refine AtT.ze ?_|(refine AtT.qG ?_)
    all_goals (refine AtT.qJ (d := 90) rfl ((by omega)) ?_)
    all_goals (refine AtT.zz ?_)
    all_goals refine AtT.done ?_
    all_goals (refine At.nrm ?_)
    refine At.qA rfl rfl ?_
    refine At.nrm ?_
    refine At.zl (.q 0 .done) ?_
    refine AtT.zg ?_
    refine AtT.done ?_
    refine At.nrm ?_
    exact At.qb rfl (.tmp rfl) (by
     have hno : s.rows.all frR = false := by
      cases h : s.rows.all frR with
      | false => rfl
      | true => have := List.all_eq_true.1 h r hrm; rw [frR_no (by omega) hc'] at this; cases this
     unfold chE; rw [if_neg (by omega), if_neg hany, if_pos hno])
   have hc3 : bv r k = 46 ∨ bv r k = 111 ∨ bv r k = 35 := by unfold okC at hc; exact of_decide_eq_true hc
   refine At.jo (ι := Unit) (fun _ => [(1, .pointer (some ⟨b1, 0, none⟩)), (3, iv s.rows.length), (5, iv i), (6, iv k), (91, .bool false)]) (fun _ => [.blk b1 (LC [.slice a s.rows.length c, iv s.most] 24)]) (fun _ V4 => V4 = V3) ?_ ?_
   ·by_cases h1 : bv r k = 46
    ·refine At.zl (.q 0 (.q 1 (.q 2 (.q 3 (.q 4 (.q 5 (.q 6 (.q 7 (.q 8 (.q 9 .done)))))))))) ?_
     refine AtT.zh ?_
     refine AtT.qG ?_
     refine AtT.qm (d := 83) rfl ((by omega)) ?_
     refine AtT.zh ?_
     all_goals (first | refine AtT.kL 84 ?_ | refine AtT.zB (d := 84) rfl (fun hg84 => ?_) (fun hg84 => ?_) | refine AtT.zA (d := 84) rfl (fun hg84 => ?_) (fun hg84 => ?_))
     all_goals first|refine AtT.zf ?_|refine AtT.ze ?_|(refine AtT.zh ?_)
     all_goals first|refine AtT.zf ?_|refine AtT.ze ?_|(refine AtT.qG ?_)
     all_goals (refine AtT.zz ?_)
     all_goals (refine AtT.zh ?_)
     all_goals (first | refine AtT.kL 88 ?_ | refine AtT.zB (d := 88) rfl (fun hg88 => ?_) (fun hg88 => ?_) | refine AtT.zA (d := 88) rfl (fun hg88 => ?_) (fun hg88 => ?_))
     all_goals first|refine AtT.zf ?_|refine AtT.ze ?_|(refine AtT.zh ?_)
     all_goals first|refine AtT.zf ?_|refine AtT.ze ?_|(refine AtT.qG ?_)
     all_goals (refine AtT.zz ?_)
     all_goals refine AtT.done ?_
     all_goals (refine At.nrm ?_)
     exact At.qC () rfl ⟨rfl, rfl, rfl, rfl, rfl, trivial⟩ Pt.zM
    by_cases h2 : bv r k = 111
    ·refine At.zl (.q 0 (.q 1 (.q 2 (.q 3 (.q 4 (.q 5 (.q 6 (.q 7 (.q 8 (.q 9 .done)))))))))) ?_
     refine AtT.zh ?_
     refine AtT.qG ?_
     refine AtT.qJ (d := 83) rfl ((by omega)) ?_
     refine AtT.zh ?_
     all_goals (first | refine AtT.kL 84 ?_ | refine AtT.zB (d := 84) rfl (fun hg84 => ?_) (fun hg84 => ?_) | refine AtT.zA (d := 84) rfl (fun hg84 => ?_) (fun hg84 => ?_))
     all_goals first|refine AtT.zf ?_|refine AtT.ze ?_|(refine AtT.zh ?_)
     all_goals first|refine AtT.zf ?_|refine AtT.ze ?_|(refine AtT.qG ?_)
     all_goals (refine AtT.qm (d := 86) rfl ((by omega)) ?_)
     all_goals (refine AtT.zz ?_)
     all_goals (refine AtT.zh ?_)
     all_goals (first | refine AtT.kL 88 ?_ | refine AtT.zB (d := 88) rfl (fun hg88 => ?_) (fun hg88 => ?_) | refine AtT.zA (d := 88) rfl (fun hg88 => ?_) (fun hg88 => ?_))
     all_goals first|refine AtT.zf ?_|refine AtT.ze ?_|(refine AtT.zh ?_)
     all_goals first|refine AtT.zf ?_|refine AtT.ze ?_|(refine AtT.qG ?_)
     all_goals (refine AtT.zz ?_)
     all_goals refine AtT.done ?_
     all_goals (refine At.nrm ?_)
     exact At.qC () rfl ⟨rfl, rfl, rfl, rfl, rfl, trivial⟩ Pt.zM
    ·refine At.zl (.q 0 (.q 1 (.q 2 (.q 3 (.q 4 (.q 5 (.q 6 (.q 7 (.q 8 (.q 9 .done)))))))))) ?_
     refine AtT.zh ?_
     refine AtT.qG ?_
     refine AtT.qJ (d := 83) rfl ((by omega)) ?_
     refine AtT.zh ?_
     all_goals (first | refine AtT.kL 84 ?_ | refine AtT.zB (d := 84) rfl (fun hg84 => ?_) (fun hg84 => ?_) | refine AtT.zA (d := 84) rfl (fun hg84 => ?_) (fun hg84 => ?_))
     all_goals first|refine AtT.zf ?_|refine AtT.ze ?_|(refine AtT.zh ?_)
     all_goals first|refine AtT.zf ?_|refine AtT.ze ?_|(refine AtT.qG ?_)
     all_goals (refine AtT.qJ (d := 86) rfl ((by omega)) ?_)
     all_goals (refine AtT.zz ?_)
     all_goals (refine AtT.zh ?_)
     all_goals (first | refine AtT.kL 88 ?_ | refine AtT.zB (d := 88) rfl (fun hg88 => ?_) (fun hg88 => ?_) | refine AtT.zA (d := 88) rfl (fun hg88 => ?_) (fun hg88 => ?_))
     all_goals first|refine AtT.zf ?_|refine AtT.ze ?_|(refine AtT.zh ?_)
     all_goals first|refine AtT.zf ?_|refine AtT.ze ?_|(refine AtT.qG ?_)
     all_goals (refine AtT.qm (d := 90) rfl ((by omega)) ?_)
     all_goals (refine AtT.zz ?_)
     all_goals refine AtT.done ?_
     all_goals (refine At.nrm ?_)
     exact At.qC () rfl ⟨rfl, rfl, rfl, rfl, rfl, trivial⟩ Pt.zM
   rintro _ V4 ks' O' rfl hk hO hl5
   subst hk hO
   refine At.qX rfl rfl ?_
   refine At.nrm ?_
   refine At.zl (.q 0 (.q 1 (.q 2 .done))) ?_
   refine AtT.zh ?_
   first | refine AtT.qj ?_ | refine AtT.zU ?_
   refine AtT.zg ?_
   refine AtT.done ?_
   refine At.nrm ?_
   refine At.round (k + 1) ?_ ?_ ?_ ?_
   ·show r.size - (k + 1) < r.size - k; omega
   ·refine ⟨rfl, by omega, fun j hj => ?_⟩
    by_cases e : j = k
    ·subst e; exact hc
    ·exact hok2 j (by omega)
   ·exact ⟨rfl, rfl, rfl, ivs (by omega), trivial⟩
   ·exact Pt.zM
  ·obtain rfl : k = r.size := by omega
   refine At.nrm ?_
   refine At.zl (.q 0 (.q 1 (.q 2 .done))) ?_
   refine AtT.zh ?_
   first | refine AtT.qj ?_ | refine AtT.zU ?_
   refine AtT.zg ?_
   refine AtT.done ?_
   refine At.nrm ?_
   refine At.round (i + 1) ?_ ?_ ?_ ?_
   ·show s.rows.length - (i + 1) < s.rows.length - i; omega
   ·refine ⟨rfl, by omega, fun j q hj hq => ?_⟩
    by_cases e : j = i
    ·subst e; rw [hr] at hq; cases hq; exact frR_at hok2
    ·exact hfr j q (by omega) hq
   ·exact ⟨rfl, rfl, ivs (by omega), trivial⟩
   ·exact Pt.zM
 have hfa : s.rows.all frR = true := List.all_eq_true.2 fun r hr => by
  obtain ⟨j, hj⟩ := List.getElem?_of_mem hr
  exact hfr j r (by have := (List.getElem?_eq_some_iff.1 hj).1; omega) hj
 refine At.nrm ?_
 by_cases hk10 : 10 < ((knL s).length : Int)
 ·refine At.zl (.q 0 (.n false 1 (.q 2 (.q 3 .done)))) ?_
  first | refine AtT.zD zP ?_ | refine AtT.zK zP ?_ | refine AtT.zC zP ?_
  refine AtT.qg rfl rfl ok44 (knotsOf_f s (by omega) (fun r hr => by have := hall r hr; omega) _ _ ⟨_, _, rfl, hs⟩) ?_
  rintro v93 V93 hV93 hs93
  first | refine AtT.zZ Tryz.underlying58 ?_ | refine AtT.qa Tryz.underlying58 ?_
  refine AtT.qw ?_
  refine AtT.qJ (d := 95) rfl (hk10) ?_
  refine AtT.done ?_
  refine At.nrm ?_
  refine At.qA rfl rfl ?_
  refine At.nrm ?_
  refine At.zl (.q 0 .done) ?_
  refine AtT.zg ?_
  refine AtT.done ?_
  refine At.nrm ?_
  exact At.qb rfl (.tmp rfl) (by unfold chE; rw [if_neg (by omega), if_neg hany, if_neg (by rw [hfa]; decide), if_pos (by omega)])
 ·refine At.zl (.q 0 (.n false 1 (.q 2 (.q 3 .done)))) ?_
  first | refine AtT.zD zP ?_ | refine AtT.zK zP ?_ | refine AtT.zC zP ?_
  refine AtT.qg rfl rfl ok44 (knotsOf_f s (by omega) (fun r hr => by have := hall r hr; omega) _ _ ⟨_, _, rfl, hs⟩) ?_
  rintro v93 V93 hV93 hs93
  first | refine AtT.zZ Tryz.underlying58 ?_ | refine AtT.qa Tryz.underlying58 ?_
  refine AtT.qw ?_
  refine AtT.qm (d := 95) rfl (hk10) ?_
  refine AtT.done ?_
  refine At.nrm ?_
  refine At.qX rfl rfl ?_
  refine At.nrm ?_
  refine At.zl (.q 0 .done) ?_
  refine AtT.zg ?_
  refine AtT.done ?_
  refine At.nrm ?_
  exact At.qb rfl (.tmp rfl) (by unfold chE; rw [if_neg (by omega), if_neg hany, if_neg (by rw [hfa]; decide), if_neg (by omega)])
end Go.Proofs.YtghomjjffllkeaaGreatDoor
set_option linter.unusedVariables false
namespace Go.Proofs.YtghomjjffllkeaaGreatDoor
open Go.Lw Go.Gl Go.Pm Go.RowKit
theorem sh_row0 {s : Sh} (h : ShOk s) : ∃ r0, s.rows[0]? = some r0 ∧ r0.size = wdS s := by
 have := h.n
 obtain ⟨r0, hr0⟩ : ∃ r, s.rows[0]? = some r := ⟨_, List.getElem?_eq_getElem (by omega)⟩
 exact ⟨r0, hr0, h.sz r0 (List.mem_of_getElem? hr0)⟩
theorem rpe_f (s : Sh) (hok : ShOk s) (p : Pc) (V : View) (v : Value) (hv : ShV V v s) : Fnc Tryz.prog 51 [v, pcv p] V fun r _ => r = iv (peE (gdS s) p) := by
 obtain ⟨a, c, rfl, hs⟩ := hv
 obtain ⟨r0, hr0, hr0s⟩ := sh_row0 hok
 have hn := hok.n
 have hw := hok.w
 have hR : (gdS s).R = (s.rows.length : Int) := rfl
 have hC : (gdS s).C = (wdS s : Int) := rfl
 have hM : (gdS s).most = s.most := rfl
 refine qh Tryz.func51 rfl Tryz.ntmps51 (Nat.le_of_ble_eq_true rfl) ?_
 intro w0 hw0
 refine At.nrm ?_
 refine At.zl (.n false 0 (.n false 1 (.q 2 .done))) ?_
 refine AtT.qZ ?_
 intro b2
 refine AtT.qZ ?_
 intro b3
 refine AtT.zg ?_
 refine AtT.done ?_
 refine At.nrm ?_
 refine At.jo (ι := Unit) (fun _ => [(2, .pointer (some ⟨b2, 0, none⟩)), (3, .pointer (some ⟨b3, 0, none⟩)), (5, iv s.rows.length), (6, iv (wdS s))]) (fun _ => [.blk b2 (LC [.slice a s.rows.length c, iv s.most] 24), .blk b3 (LC (pce p) 26)]) (fun _ V'' => V'' = V) ?_ ?_
 ·refine At.draw (.q 0 (.q 1 (.q 2 (.q 3 (.q 4 (.q 5 (.q 6 (.q 7 (.q 8 (.q 9 .done)))))))))) ffm (by kernel_rfl) ?_
  first | refine AtT.zi zw ?_ | with_reducible refine AtT.zk zw ?_ | refine AtT.zn zw ?_
  first | refine AtT.zm zV ?_ | refine AtT.zo zV ?_
  first | refine AtT.zZ Tryz.underlying22 ?_ | refine AtT.qa Tryz.underlying22 ?_
  first | refine AtT.zi zw ?_ | with_reducible refine AtT.zk zw ?_ | refine AtT.zn zw ?_
  first | refine AtT.zm zV ?_ | refine AtT.zo zV ?_
  refine AtT.qo Tryz.underlying22 tk9 ?_
  intro p14 e14 he14 hc14
  obtain rfl : r0 = e14 := by have : s.rows[0]? = some e14 := (by simpa using he14); rw [hr0] at this; simpa using this
  first | refine AtT.zm tk9 ?_ | refine AtT.zo tk9 ?_
  refine AtT.qL rfl trivial Tryz.underlying9 rfl (by decide) ?_
  refine AtT.zg ?_
  refine AtT.zg ?_
  refine AtT.done ?_
  refine At.nrm ?_
  all_goals (rw [hr0s]; exact At.qC () rfl ⟨rfl, rfl, rfl, rfl, trivial⟩ Pt.zM)
 rintro _ V1 ks' O' rfl hk hO hl1
 subst hk hO
 refine At.nrm ?_
 by_cases m1 : p.h < 1
 ·refine At.zl (.q 0 (.q 1 (.q 2 (.q 3 (.q 4 (.q 5 (.q 6 (.q 7 (.q 8 (.q 9 (.q 10 (.q 11 (.q 12 (.q 13 (.q 14 (.q 15 (.q 16 (.q 17 (.q 18 (.q 19 (.q 20 (.q 21 (.q 22 (.q 23 (.q 24 (.q 25 (.q 26 (.q 27 (.q 28 (.q 29 (.q 30 (.q 31 (.q 32 (.q 33 (.q 34 (.q 35 (.q 36 (.q 37 (.q 38 (.q 39 (.q 40 (.q 41 (.q 42 (.q 43 (.q 44 (.q 45 (.q 46 (.q 47 .done)))))))))))))))))))))))))))))))))))))))))))))))) ?_
  first | refine AtT.zi zy ?_ | with_reducible refine AtT.zk zy ?_ | refine AtT.zn zy ?_
  first | refine AtT.zm tk3 ?_ | refine AtT.zo tk3 ?_
  refine AtT.zY ?_
  refine AtT.qJ (d := 19) rfl ((m1)) ?_
  refine AtT.zh ?_
  all_goals (first | refine AtT.kL 20 ?_ | refine AtT.zB (d := 20) rfl (fun hg20 => ?_) (fun hg20 => ?_) | refine AtT.zA (d := 20) rfl (fun hg20 => ?_) (fun hg20 => ?_))
  all_goals first|refine AtT.zf ?_|refine AtT.ze ?_|(first | refine AtT.zi zy ?_ | with_reducible refine AtT.zk zy ?_ | refine AtT.zn zy ?_)
  all_goals first|refine AtT.zf ?_|refine AtT.ze ?_|(first | refine AtT.zm tk3 ?_ | refine AtT.zo tk3 ?_)
  all_goals first|refine AtT.zf ?_|refine AtT.ze ?_|(refine AtT.zh ?_)
  all_goals first|refine AtT.zf ?_|refine AtT.ze ?_|(refine AtT.qw ?_)
  all_goals (refine AtT.zz ?_)
  all_goals (refine AtT.zh ?_)
  all_goals (first | refine AtT.kL 26 ?_ | refine AtT.zB (d := 26) rfl (fun hg26 => ?_) (fun hg26 => ?_) | refine AtT.zA (d := 26) rfl (fun hg26 => ?_) (fun hg26 => ?_))
  all_goals first|refine AtT.zf ?_|refine AtT.ze ?_|(first | refine AtT.zi zx ?_ | with_reducible refine AtT.zk zx ?_ | refine AtT.zn zx ?_)
  all_goals first|refine AtT.zf ?_|refine AtT.ze ?_|(first | refine AtT.zm tk3 ?_ | refine AtT.zo tk3 ?_)
  all_goals first|refine AtT.zf ?_|refine AtT.ze ?_|(refine AtT.zY ?_)
  all_goals (refine AtT.zz ?_)
  all_goals (refine AtT.zh ?_)
  all_goals (first | refine AtT.kL 31 ?_ | refine AtT.zB (d := 31) rfl (fun hg31 => ?_) (fun hg31 => ?_) | refine AtT.zA (d := 31) rfl (fun hg31 => ?_) (fun hg31 => ?_))
  all_goals first|refine AtT.zf ?_|refine AtT.ze ?_|(first | refine AtT.zi zx ?_ | with_reducible refine AtT.zk zx ?_ | refine AtT.zn zx ?_)
  all_goals first|refine AtT.zf ?_|refine AtT.ze ?_|(first | refine AtT.zm tk3 ?_ | refine AtT.zo tk3 ?_)
  all_goals first|refine AtT.zf ?_|refine AtT.ze ?_|(refine AtT.zh ?_)
  all_goals first|refine AtT.zf ?_|refine AtT.ze ?_|(refine AtT.qw ?_)
  all_goals (refine AtT.zz ?_)
  all_goals (refine AtT.zh ?_)
  all_goals (first | refine AtT.kL 37 ?_ | refine AtT.zB (d := 37) rfl (fun hg37 => ?_) (fun hg37 => ?_) | refine AtT.zA (d := 37) rfl (fun hg37 => ?_) (fun hg37 => ?_))
  all_goals first|refine AtT.zf ?_|refine AtT.ze ?_|(first | refine AtT.zi zH ?_ | with_reducible refine AtT.zk zH ?_ | refine AtT.zn zH ?_)
  all_goals first|refine AtT.zf ?_|refine AtT.ze ?_|(first | refine AtT.zm tk3 ?_ | refine AtT.zo tk3 ?_)
  all_goals first|refine AtT.zf ?_|refine AtT.ze ?_|(refine AtT.zY ?_)
  all_goals (refine AtT.zz ?_)
  all_goals (refine AtT.zh ?_)
  all_goals (first | refine AtT.kL 42 ?_ | refine AtT.zB (d := 42) rfl (fun hg42 => ?_) (fun hg42 => ?_) | refine AtT.zA (d := 42) rfl (fun hg42 => ?_) (fun hg42 => ?_))
  all_goals first|refine AtT.zf ?_|refine AtT.ze ?_|(first | refine AtT.zi zG ?_ | with_reducible refine AtT.zk zG ?_ | refine AtT.zn zG ?_)
  all_goals first|refine AtT.zf ?_|refine AtT.ze ?_|(first | refine AtT.zm tk3 ?_ | refine AtT.zo tk3 ?_)
  all_goals first|refine AtT.zf ?_|refine AtT.ze ?_|(refine AtT.zY ?_)
  all_goals (refine AtT.zz ?_)
  all_goals (refine AtT.zh ?_)
  all_goals (first | refine AtT.kL 47 ?_ | refine AtT.zB (d := 47) rfl (fun hg47 => ?_) (fun hg47 => ?_) | refine AtT.zA (d := 47) rfl (fun hg47 => ?_) (fun hg47 => ?_))
  all_goals first|refine AtT.zf ?_|refine AtT.ze ?_|(first | refine AtT.zi zH ?_ | with_reducible refine AtT.zk zH ?_ | refine AtT.zn zH ?_)
  all_goals first|refine AtT.zf ?_|refine AtT.ze ?_|(first | refine AtT.zm tk3 ?_ | refine AtT.zo tk3 ?_)
  all_goals first|refine AtT.zf ?_|refine AtT.ze ?_|(refine AtT.zh ?_)
  all_goals first|refine AtT.zf ?_|refine AtT.ze ?_|(first | refine AtT.zi zy ?_ | with_reducible refine AtT.zk zy ?_ | refine AtT.zn zy ?_)
  all_goals first|refine AtT.zf ?_|refine AtT.ze ?_|(first | refine AtT.zm tk3 ?_ | refine AtT.zo tk3 ?_)
  all_goals first|refine AtT.zf ?_|refine AtT.ze ?_|(first | refine AtT.qD ?_ | refine AtT.qE ?_)
  all_goals first|refine AtT.zf ?_|refine AtT.ze ?_|(refine AtT.qw ?_)
  all_goals (refine AtT.zz ?_)
  all_goals (refine AtT.zh ?_)
  all_goals (first | refine AtT.kL 56 ?_ | refine AtT.zB (d := 56) rfl (fun hg56 => ?_) (fun hg56 => ?_) | refine AtT.zA (d := 56) rfl (fun hg56 => ?_) (fun hg56 => ?_))
  all_goals first|refine AtT.zf ?_|refine AtT.ze ?_|(first | refine AtT.zi zG ?_ | with_reducible refine AtT.zk zG ?_ | refine AtT.zn zG ?_)
  all_goals first|refine AtT.zf ?_|refine AtT.ze ?_|(first | refine AtT.zm tk3 ?_ | refine AtT.zo tk3 ?_)
  all_goals first|refine AtT.zf ?_|refine AtT.ze ?_|(refine AtT.zh ?_)
  all_goals first|refine AtT.zf ?_|refine AtT.ze ?_|(first | refine AtT.zi zx ?_ | with_reducible refine AtT.zk zx ?_ | refine AtT.zn zx ?_)
  all_goals first|refine AtT.zf ?_|refine AtT.ze ?_|(first | refine AtT.zm tk3 ?_ | refine AtT.zo tk3 ?_)
  all_goals first|refine AtT.zf ?_|refine AtT.ze ?_|(first | refine AtT.qD ?_ | refine AtT.qE ?_)
  all_goals first|refine AtT.zf ?_|refine AtT.ze ?_|(refine AtT.qw ?_)
  all_goals (refine AtT.zz ?_)
  all_goals refine AtT.done ?_
  all_goals (refine At.nrm ?_)
  refine At.qA rfl rfl ?_
  refine At.nrm ?_
  refine At.zl (.q 0 .done) ?_
  refine AtT.zg ?_
  refine AtT.done ?_
  refine At.nrm ?_
  exact At.qb rfl (.tmp rfl) (by unfold peE; rw [if_pos (by omega)])
 by_cases m2 : (s.rows.length : Int) < p.h
 ·refine At.zl (.q 0 (.q 1 (.q 2 (.q 3 (.q 4 (.q 5 (.q 6 (.q 7 (.q 8 (.q 9 (.q 10 (.q 11 (.q 12 (.q 13 (.q 14 (.q 15 (.q 16 (.q 17 (.q 18 (.q 19 (.q 20 (.q 21 (.q 22 (.q 23 (.q 24 (.q 25 (.q 26 (.q 27 (.q 28 (.q 29 (.q 30 (.q 31 (.q 32 (.q 33 (.q 34 (.q 35 (.q 36 (.q 37 (.q 38 (.q 39 (.q 40 (.q 41 (.q 42 (.q 43 (.q 44 (.q 45 (.q 46 (.q 47 .done)))))))))))))))))))))))))))))))))))))))))))))))) ?_
  first | refine AtT.zi zy ?_ | with_reducible refine AtT.zk zy ?_ | refine AtT.zn zy ?_
  first | refine AtT.zm tk3 ?_ | refine AtT.zo tk3 ?_
  refine AtT.zY ?_
  refine AtT.qm (d := 19) rfl ((m1)) ?_
  refine AtT.zh ?_
  all_goals (first | refine AtT.kL 20 ?_ | refine AtT.zB (d := 20) rfl (fun hg20 => ?_) (fun hg20 => ?_) | refine AtT.zA (d := 20) rfl (fun hg20 => ?_) (fun hg20 => ?_))
  all_goals first|refine AtT.zf ?_|refine AtT.ze ?_|(first | refine AtT.zi zy ?_ | with_reducible refine AtT.zk zy ?_ | refine AtT.zn zy ?_)
  all_goals first|refine AtT.zf ?_|refine AtT.ze ?_|(first | refine AtT.zm tk3 ?_ | refine AtT.zo tk3 ?_)
  all_goals first|refine AtT.zf ?_|refine AtT.ze ?_|(refine AtT.zh ?_)
  all_goals first|refine AtT.zf ?_|refine AtT.ze ?_|(refine AtT.qw ?_)
  all_goals (refine AtT.qJ (d := 24) rfl ((m2)) ?_)
  all_goals (refine AtT.zz ?_)
  all_goals (refine AtT.zh ?_)
  all_goals (first | refine AtT.kL 26 ?_ | refine AtT.zB (d := 26) rfl (fun hg26 => ?_) (fun hg26 => ?_) | refine AtT.zA (d := 26) rfl (fun hg26 => ?_) (fun hg26 => ?_))
  all_goals first|refine AtT.zf ?_|refine AtT.ze ?_|(first | refine AtT.zi zx ?_ | with_reducible refine AtT.zk zx ?_ | refine AtT.zn zx ?_)
  all_goals first|refine AtT.zf ?_|refine AtT.ze ?_|(first | refine AtT.zm tk3 ?_ | refine AtT.zo tk3 ?_)
  all_goals first|refine AtT.zf ?_|refine AtT.ze ?_|(refine AtT.zY ?_)
  all_goals (refine AtT.zz ?_)
  all_goals (refine AtT.zh ?_)
  all_goals (first | refine AtT.kL 31 ?_ | refine AtT.zB (d := 31) rfl (fun hg31 => ?_) (fun hg31 => ?_) | refine AtT.zA (d := 31) rfl (fun hg31 => ?_) (fun hg31 => ?_))
  all_goals first|refine AtT.zf ?_|refine AtT.ze ?_|(first | refine AtT.zi zx ?_ | with_reducible refine AtT.zk zx ?_ | refine AtT.zn zx ?_)
  all_goals first|refine AtT.zf ?_|refine AtT.ze ?_|(first | refine AtT.zm tk3 ?_ | refine AtT.zo tk3 ?_)
  all_goals first|refine AtT.zf ?_|refine AtT.ze ?_|(refine AtT.zh ?_)
  all_goals first|refine AtT.zf ?_|refine AtT.ze ?_|(refine AtT.qw ?_)
  all_goals (refine AtT.zz ?_)
  all_goals (refine AtT.zh ?_)
  all_goals (first | refine AtT.kL 37 ?_ | refine AtT.zB (d := 37) rfl (fun hg37 => ?_) (fun hg37 => ?_) | refine AtT.zA (d := 37) rfl (fun hg37 => ?_) (fun hg37 => ?_))
  all_goals first|refine AtT.zf ?_|refine AtT.ze ?_|(first | refine AtT.zi zH ?_ | with_reducible refine AtT.zk zH ?_ | refine AtT.zn zH ?_)
  all_goals first|refine AtT.zf ?_|refine AtT.ze ?_|(first | refine AtT.zm tk3 ?_ | refine AtT.zo tk3 ?_)
  all_goals first|refine AtT.zf ?_|refine AtT.ze ?_|(refine AtT.zY ?_)
  all_goals (refine AtT.zz ?_)
  all_goals (refine AtT.zh ?_)
  all_goals (first | refine AtT.kL 42 ?_ | refine AtT.zB (d := 42) rfl (fun hg42 => ?_) (fun hg42 => ?_) | refine AtT.zA (d := 42) rfl (fun hg42 => ?_) (fun hg42 => ?_))
  all_goals first|refine AtT.zf ?_|refine AtT.ze ?_|(first | refine AtT.zi zG ?_ | with_reducible refine AtT.zk zG ?_ | refine AtT.zn zG ?_)
  all_goals first|refine AtT.zf ?_|refine AtT.ze ?_|(first | refine AtT.zm tk3 ?_ | refine AtT.zo tk3 ?_)
  all_goals first|refine AtT.zf ?_|refine AtT.ze ?_|(refine AtT.zY ?_)
  all_goals (refine AtT.zz ?_)
  all_goals (refine AtT.zh ?_)
  all_goals (first | refine AtT.kL 47 ?_ | refine AtT.zB (d := 47) rfl (fun hg47 => ?_) (fun hg47 => ?_) | refine AtT.zA (d := 47) rfl (fun hg47 => ?_) (fun hg47 => ?_))
  all_goals first|refine AtT.zf ?_|refine AtT.ze ?_|(first | refine AtT.zi zH ?_ | with_reducible refine AtT.zk zH ?_ | refine AtT.zn zH ?_)
  all_goals first|refine AtT.zf ?_|refine AtT.ze ?_|(first | refine AtT.zm tk3 ?_ | refine AtT.zo tk3 ?_)
  all_goals first|refine AtT.zf ?_|refine AtT.ze ?_|(refine AtT.zh ?_)
  all_goals first|refine AtT.zf ?_|refine AtT.ze ?_|(first | refine AtT.zi zy ?_ | with_reducible refine AtT.zk zy ?_ | refine AtT.zn zy ?_)
  all_goals first|refine AtT.zf ?_|refine AtT.ze ?_|(first | refine AtT.zm tk3 ?_ | refine AtT.zo tk3 ?_)
  all_goals first|refine AtT.zf ?_|refine AtT.ze ?_|(first | refine AtT.qD ?_ | refine AtT.qE ?_)
  all_goals first|refine AtT.zf ?_|refine AtT.ze ?_|(refine AtT.qw ?_)
  all_goals (refine AtT.zz ?_)
  all_goals (refine AtT.zh ?_)
  all_goals (first | refine AtT.kL 56 ?_ | refine AtT.zB (d := 56) rfl (fun hg56 => ?_) (fun hg56 => ?_) | refine AtT.zA (d := 56) rfl (fun hg56 => ?_) (fun hg56 => ?_))
  all_goals first|refine AtT.zf ?_|refine AtT.ze ?_|(first | refine AtT.zi zG ?_ | with_reducible refine AtT.zk zG ?_ | refine AtT.zn zG ?_)
  all_goals first|refine AtT.zf ?_|refine AtT.ze ?_|(first | refine AtT.zm tk3 ?_ | refine AtT.zo tk3 ?_)
  all_goals first|refine AtT.zf ?_|refine AtT.ze ?_|(refine AtT.zh ?_)
  all_goals first|refine AtT.zf ?_|refine AtT.ze ?_|(first | refine AtT.zi zx ?_ | with_reducible refine AtT.zk zx ?_ | refine AtT.zn zx ?_)
  all_goals first|refine AtT.zf ?_|refine AtT.ze ?_|(first | refine AtT.zm tk3 ?_ | refine AtT.zo tk3 ?_)
  all_goals first|refine AtT.zf ?_|refine AtT.ze ?_|(first | refine AtT.qD ?_ | refine AtT.qE ?_)
  all_goals first|refine AtT.zf ?_|refine AtT.ze ?_|(refine AtT.qw ?_)
  all_goals (refine AtT.zz ?_)
  all_goals refine AtT.done ?_
  all_goals (refine At.nrm ?_)
  refine At.qA rfl rfl ?_
  refine At.nrm ?_
  refine At.zl (.q 0 .done) ?_
  refine AtT.zg ?_
  refine AtT.done ?_
  refine At.nrm ?_
  exact At.qb rfl (.tmp rfl) (by unfold peE; rw [if_pos (by omega)])
 by_cases m3 : p.w < 1
 ·refine At.zl (.q 0 (.q 1 (.q 2 (.q 3 (.q 4 (.q 5 (.q 6 (.q 7 (.q 8 (.q 9 (.q 10 (.q 11 (.q 12 (.q 13 (.q 14 (.q 15 (.q 16 (.q 17 (.q 18 (.q 19 (.q 20 (.q 21 (.q 22 (.q 23 (.q 24 (.q 25 (.q 26 (.q 27 (.q 28 (.q 29 (.q 30 (.q 31 (.q 32 (.q 33 (.q 34 (.q 35 (.q 36 (.q 37 (.q 38 (.q 39 (.q 40 (.q 41 (.q 42 (.q 43 (.q 44 (.q 45 (.q 46 (.q 47 .done)))))))))))))))))))))))))))))))))))))))))))))))) ?_
  first | refine AtT.zi zy ?_ | with_reducible refine AtT.zk zy ?_ | refine AtT.zn zy ?_
  first | refine AtT.zm tk3 ?_ | refine AtT.zo tk3 ?_
  refine AtT.zY ?_
  refine AtT.qm (d := 19) rfl ((m1)) ?_
  refine AtT.zh ?_
  all_goals (first | refine AtT.kL 20 ?_ | refine AtT.zB (d := 20) rfl (fun hg20 => ?_) (fun hg20 => ?_) | refine AtT.zA (d := 20) rfl (fun hg20 => ?_) (fun hg20 => ?_))
  all_goals first|refine AtT.zf ?_|refine AtT.ze ?_|(first | refine AtT.zi zy ?_ | with_reducible refine AtT.zk zy ?_ | refine AtT.zn zy ?_)
  all_goals first|refine AtT.zf ?_|refine AtT.ze ?_|(first | refine AtT.zm tk3 ?_ | refine AtT.zo tk3 ?_)
  all_goals first|refine AtT.zf ?_|refine AtT.ze ?_|(refine AtT.zh ?_)
  all_goals first|refine AtT.zf ?_|refine AtT.ze ?_|(refine AtT.qw ?_)
  all_goals (refine AtT.qm (d := 24) rfl ((m2)) ?_)
  all_goals (refine AtT.zz ?_)
  all_goals (refine AtT.zh ?_)
  all_goals (first | refine AtT.kL 26 ?_ | refine AtT.zB (d := 26) rfl (fun hg26 => ?_) (fun hg26 => ?_) | refine AtT.zA (d := 26) rfl (fun hg26 => ?_) (fun hg26 => ?_))
  all_goals first|refine AtT.zf ?_|refine AtT.ze ?_|(first | refine AtT.zi zx ?_ | with_reducible refine AtT.zk zx ?_ | refine AtT.zn zx ?_)
  all_goals first|refine AtT.zf ?_|refine AtT.ze ?_|(first | refine AtT.zm tk3 ?_ | refine AtT.zo tk3 ?_)
  all_goals first|refine AtT.zf ?_|refine AtT.ze ?_|(refine AtT.zY ?_)
  all_goals (refine AtT.qJ (d := 29) rfl ((m3)) ?_)
  all_goals (refine AtT.zz ?_)
  all_goals (refine AtT.zh ?_)
  all_goals (first | refine AtT.kL 31 ?_ | refine AtT.zB (d := 31) rfl (fun hg31 => ?_) (fun hg31 => ?_) | refine AtT.zA (d := 31) rfl (fun hg31 => ?_) (fun hg31 => ?_))
  all_goals first|refine AtT.zf ?_|refine AtT.ze ?_|(first | refine AtT.zi zx ?_ | with_reducible refine AtT.zk zx ?_ | refine AtT.zn zx ?_)
  all_goals first|refine AtT.zf ?_|refine AtT.ze ?_|(first | refine AtT.zm tk3 ?_ | refine AtT.zo tk3 ?_)
  all_goals first|refine AtT.zf ?_|refine AtT.ze ?_|(refine AtT.zh ?_)
  all_goals first|refine AtT.zf ?_|refine AtT.ze ?_|(refine AtT.qw ?_)
  all_goals (refine AtT.zz ?_)
  all_goals (refine AtT.zh ?_)
  all_goals (first | refine AtT.kL 37 ?_ | refine AtT.zB (d := 37) rfl (fun hg37 => ?_) (fun hg37 => ?_) | refine AtT.zA (d := 37) rfl (fun hg37 => ?_) (fun hg37 => ?_))
  all_goals first|refine AtT.zf ?_|refine AtT.ze ?_|(first | refine AtT.zi zH ?_ | with_reducible refine AtT.zk zH ?_ | refine AtT.zn zH ?_)
  all_goals first|refine AtT.zf ?_|refine AtT.ze ?_|(first | refine AtT.zm tk3 ?_ | refine AtT.zo tk3 ?_)
  all_goals first|refine AtT.zf ?_|refine AtT.ze ?_|(refine AtT.zY ?_)
  all_goals (refine AtT.zz ?_)
  all_goals (refine AtT.zh ?_)
  all_goals (first | refine AtT.kL 42 ?_ | refine AtT.zB (d := 42) rfl (fun hg42 => ?_) (fun hg42 => ?_) | refine AtT.zA (d := 42) rfl (fun hg42 => ?_) (fun hg42 => ?_))
  all_goals first|refine AtT.zf ?_|refine AtT.ze ?_|(first | refine AtT.zi zG ?_ | with_reducible refine AtT.zk zG ?_ | refine AtT.zn zG ?_)
  all_goals first|refine AtT.zf ?_|refine AtT.ze ?_|(first | refine AtT.zm tk3 ?_ | refine AtT.zo tk3 ?_)
  all_goals first|refine AtT.zf ?_|refine AtT.ze ?_|(refine AtT.zY ?_)
  all_goals (refine AtT.zz ?_)
  all_goals (refine AtT.zh ?_)
  all_goals (first | refine AtT.kL 47 ?_ | refine AtT.zB (d := 47) rfl (fun hg47 => ?_) (fun hg47 => ?_) | refine AtT.zA (d := 47) rfl (fun hg47 => ?_) (fun hg47 => ?_))
  all_goals first|refine AtT.zf ?_|refine AtT.ze ?_|(first | refine AtT.zi zH ?_ | with_reducible refine AtT.zk zH ?_ | refine AtT.zn zH ?_)
  all_goals first|refine AtT.zf ?_|refine AtT.ze ?_|(first | refine AtT.zm tk3 ?_ | refine AtT.zo tk3 ?_)
  all_goals first|refine AtT.zf ?_|refine AtT.ze ?_|(refine AtT.zh ?_)
  all_goals first|refine AtT.zf ?_|refine AtT.ze ?_|(first | refine AtT.zi zy ?_ | with_reducible refine AtT.zk zy ?_ | refine AtT.zn zy ?_)
  all_goals first|refine AtT.zf ?_|refine AtT.ze ?_|(first | refine AtT.zm tk3 ?_ | refine AtT.zo tk3 ?_)
  all_goals first|refine AtT.zf ?_|refine AtT.ze ?_|(first | refine AtT.qD ?_ | refine AtT.qE ?_)
  all_goals first|refine AtT.zf ?_|refine AtT.ze ?_|(refine AtT.qw ?_)
  all_goals (refine AtT.zz ?_)
  all_goals (refine AtT.zh ?_)
  all_goals (first | refine AtT.kL 56 ?_ | refine AtT.zB (d := 56) rfl (fun hg56 => ?_) (fun hg56 => ?_) | refine AtT.zA (d := 56) rfl (fun hg56 => ?_) (fun hg56 => ?_))
  all_goals first|refine AtT.zf ?_|refine AtT.ze ?_|(first | refine AtT.zi zG ?_ | with_reducible refine AtT.zk zG ?_ | refine AtT.zn zG ?_)
  all_goals first|refine AtT.zf ?_|refine AtT.ze ?_|(first | refine AtT.zm tk3 ?_ | refine AtT.zo tk3 ?_)
  all_goals first|refine AtT.zf ?_|refine AtT.ze ?_|(refine AtT.zh ?_)
  all_goals first|refine AtT.zf ?_|refine AtT.ze ?_|(first | refine AtT.zi zx ?_ | with_reducible refine AtT.zk zx ?_ | refine AtT.zn zx ?_)
  all_goals first|refine AtT.zf ?_|refine AtT.ze ?_|(first | refine AtT.zm tk3 ?_ | refine AtT.zo tk3 ?_)
  all_goals first|refine AtT.zf ?_|refine AtT.ze ?_|(first | refine AtT.qD ?_ | refine AtT.qE ?_)
  all_goals first|refine AtT.zf ?_|refine AtT.ze ?_|(refine AtT.qw ?_)
  all_goals (refine AtT.zz ?_)
  all_goals refine AtT.done ?_
  all_goals (refine At.nrm ?_)
  refine At.qA rfl rfl ?_
  refine At.nrm ?_
  refine At.zl (.q 0 .done) ?_
  refine AtT.zg ?_
  refine AtT.done ?_
  refine At.nrm ?_
  exact At.qb rfl (.tmp rfl) (by unfold peE; rw [if_pos (by omega)])
 by_cases m4 : (wdS s : Int) < p.w
 ·refine At.zl (.q 0 (.q 1 (.q 2 (.q 3 (.q 4 (.q 5 (.q 6 (.q 7 (.q 8 (.q 9 (.q 10 (.q 11 (.q 12 (.q 13 (.q 14 (.q 15 (.q 16 (.q 17 (.q 18 (.q 19 (.q 20 (.q 21 (.q 22 (.q 23 (.q 24 (.q 25 (.q 26 (.q 27 (.q 28 (.q 29 (.q 30 (.q 31 (.q 32 (.q 33 (.q 34 (.q 35 (.q 36 (.q 37 (.q 38 (.q 39 (.q 40 (.q 41 (.q 42 (.q 43 (.q 44 (.q 45 (.q 46 (.q 47 .done)))))))))))))))))))))))))))))))))))))))))))))))) ?_
  first | refine AtT.zi zy ?_ | with_reducible refine AtT.zk zy ?_ | refine AtT.zn zy ?_
  first | refine AtT.zm tk3 ?_ | refine AtT.zo tk3 ?_
  refine AtT.zY ?_
  refine AtT.qm (d := 19) rfl ((m1)) ?_
  refine AtT.zh ?_
  all_goals (first | refine AtT.kL 20 ?_ | refine AtT.zB (d := 20) rfl (fun hg20 => ?_) (fun hg20 => ?_) | refine AtT.zA (d := 20) rfl (fun hg20 => ?_) (fun hg20 => ?_))
  all_goals first|refine AtT.zf ?_|refine AtT.ze ?_|(first | refine AtT.zi zy ?_ | with_reducible refine AtT.zk zy ?_ | refine AtT.zn zy ?_)
  all_goals first|refine AtT.zf ?_|refine AtT.ze ?_|(first | refine AtT.zm tk3 ?_ | refine AtT.zo tk3 ?_)
  all_goals first|refine AtT.zf ?_|refine AtT.ze ?_|(refine AtT.zh ?_)
  all_goals first|refine AtT.zf ?_|refine AtT.ze ?_|(refine AtT.qw ?_)
  all_goals (refine AtT.qm (d := 24) rfl ((m2)) ?_)
  all_goals (refine AtT.zz ?_)
  all_goals (refine AtT.zh ?_)
  all_goals (first | refine AtT.kL 26 ?_ | refine AtT.zB (d := 26) rfl (fun hg26 => ?_) (fun hg26 => ?_) | refine AtT.zA (d := 26) rfl (fun hg26 => ?_) (fun hg26 => ?_))
  all_goals first|refine AtT.zf ?_|refine AtT.ze ?_|(first | refine AtT.zi zx ?_ | with_reducible refine AtT.zk zx ?_ | refine AtT.zn zx ?_)
  all_goals first|refine AtT.zf ?_|refine AtT.ze ?_|(first | refine AtT.zm tk3 ?_ | refine AtT.zo tk3 ?_)
  all_goals first|refine AtT.zf ?_|refine AtT.ze ?_|(refine AtT.zY ?_)
  all_goals (refine AtT.qm (d := 29) rfl ((m3)) ?_)
  all_goals (refine AtT.zz ?_)
  all_goals (refine AtT.zh ?_)
  all_goals (first | refine AtT.kL 31 ?_ | refine AtT.zB (d := 31) rfl (fun hg31 => ?_) (fun hg31 => ?_) | refine AtT.zA (d := 31) rfl (fun hg31 => ?_) (fun hg31 => ?_))
  all_goals first|refine AtT.zf ?_|refine AtT.ze ?_|(first | refine AtT.zi zx ?_ | with_reducible refine AtT.zk zx ?_ | refine AtT.zn zx ?_)
  all_goals first|refine AtT.zf ?_|refine AtT.ze ?_|(first | refine AtT.zm tk3 ?_ | refine AtT.zo tk3 ?_)
  all_goals first|refine AtT.zf ?_|refine AtT.ze ?_|(refine AtT.zh ?_)
  all_goals first|refine AtT.zf ?_|refine AtT.ze ?_|(refine AtT.qw ?_)
  all_goals (refine AtT.qJ (d := 35) rfl ((m4)) ?_)
  all_goals (refine AtT.zz ?_)
  all_goals (refine AtT.zh ?_)
  all_goals (first | refine AtT.kL 37 ?_ | refine AtT.zB (d := 37) rfl (fun hg37 => ?_) (fun hg37 => ?_) | refine AtT.zA (d := 37) rfl (fun hg37 => ?_) (fun hg37 => ?_))
  all_goals first|refine AtT.zf ?_|refine AtT.ze ?_|(first | refine AtT.zi zH ?_ | with_reducible refine AtT.zk zH ?_ | refine AtT.zn zH ?_)
  all_goals first|refine AtT.zf ?_|refine AtT.ze ?_|(first | refine AtT.zm tk3 ?_ | refine AtT.zo tk3 ?_)
  all_goals first|refine AtT.zf ?_|refine AtT.ze ?_|(refine AtT.zY ?_)
  all_goals (refine AtT.zz ?_)
  all_goals (refine AtT.zh ?_)
  all_goals (first | refine AtT.kL 42 ?_ | refine AtT.zB (d := 42) rfl (fun hg42 => ?_) (fun hg42 => ?_) | refine AtT.zA (d := 42) rfl (fun hg42 => ?_) (fun hg42 => ?_))
  all_goals first|refine AtT.zf ?_|refine AtT.ze ?_|(first | refine AtT.zi zG ?_ | with_reducible refine AtT.zk zG ?_ | refine AtT.zn zG ?_)
  all_goals first|refine AtT.zf ?_|refine AtT.ze ?_|(first | refine AtT.zm tk3 ?_ | refine AtT.zo tk3 ?_)
  all_goals first|refine AtT.zf ?_|refine AtT.ze ?_|(refine AtT.zY ?_)
  all_goals (refine AtT.zz ?_)
  all_goals (refine AtT.zh ?_)
  all_goals (first | refine AtT.kL 47 ?_ | refine AtT.zB (d := 47) rfl (fun hg47 => ?_) (fun hg47 => ?_) | refine AtT.zA (d := 47) rfl (fun hg47 => ?_) (fun hg47 => ?_))
  all_goals first|refine AtT.zf ?_|refine AtT.ze ?_|(first | refine AtT.zi zH ?_ | with_reducible refine AtT.zk zH ?_ | refine AtT.zn zH ?_)
  all_goals first|refine AtT.zf ?_|refine AtT.ze ?_|(first | refine AtT.zm tk3 ?_ | refine AtT.zo tk3 ?_)
  all_goals first|refine AtT.zf ?_|refine AtT.ze ?_|(refine AtT.zh ?_)
  all_goals first|refine AtT.zf ?_|refine AtT.ze ?_|(first | refine AtT.zi zy ?_ | with_reducible refine AtT.zk zy ?_ | refine AtT.zn zy ?_)
  all_goals first|refine AtT.zf ?_|refine AtT.ze ?_|(first | refine AtT.zm tk3 ?_ | refine AtT.zo tk3 ?_)
  all_goals first|refine AtT.zf ?_|refine AtT.ze ?_|(first | refine AtT.qD ?_ | refine AtT.qE ?_)
  all_goals first|refine AtT.zf ?_|refine AtT.ze ?_|(refine AtT.qw ?_)
  all_goals (refine AtT.zz ?_)
  all_goals (refine AtT.zh ?_)
  all_goals (first | refine AtT.kL 56 ?_ | refine AtT.zB (d := 56) rfl (fun hg56 => ?_) (fun hg56 => ?_) | refine AtT.zA (d := 56) rfl (fun hg56 => ?_) (fun hg56 => ?_))
  all_goals first|refine AtT.zf ?_|refine AtT.ze ?_|(first | refine AtT.zi zG ?_ | with_reducible refine AtT.zk zG ?_ | refine AtT.zn zG ?_)
  all_goals first|refine AtT.zf ?_|refine AtT.ze ?_|(first | refine AtT.zm tk3 ?_ | refine AtT.zo tk3 ?_)
  all_goals first|refine AtT.zf ?_|refine AtT.ze ?_|(refine AtT.zh ?_)
  all_goals first|refine AtT.zf ?_|refine AtT.ze ?_|(first | refine AtT.zi zx ?_ | with_reducible refine AtT.zk zx ?_ | refine AtT.zn zx ?_)
  all_goals first|refine AtT.zf ?_|refine AtT.ze ?_|(first | refine AtT.zm tk3 ?_ | refine AtT.zo tk3 ?_)
  all_goals first|refine AtT.zf ?_|refine AtT.ze ?_|(first | refine AtT.qD ?_ | refine AtT.qE ?_)
  all_goals first|refine AtT.zf ?_|refine AtT.ze ?_|(refine AtT.qw ?_)
  all_goals (refine AtT.zz ?_)
  all_goals refine AtT.done ?_
  all_goals (refine At.nrm ?_)
  refine At.qA rfl rfl ?_
  refine At.nrm ?_
  refine At.zl (.q 0 .done) ?_
  refine AtT.zg ?_
  refine AtT.done ?_
  refine At.nrm ?_
  exact At.qb rfl (.tmp rfl) (by unfold peE; rw [if_pos (by omega)])
 by_cases m5 : p.t < 0
 ·refine At.zl (.q 0 (.q 1 (.q 2 (.q 3 (.q 4 (.q 5 (.q 6 (.q 7 (.q 8 (.q 9 (.q 10 (.q 11 (.q 12 (.q 13 (.q 14 (.q 15 (.q 16 (.q 17 (.q 18 (.q 19 (.q 20 (.q 21 (.q 22 (.q 23 (.q 24 (.q 25 (.q 26 (.q 27 (.q 28 (.q 29 (.q 30 (.q 31 (.q 32 (.q 33 (.q 34 (.q 35 (.q 36 (.q 37 (.q 38 (.q 39 (.q 40 (.q 41 (.q 42 (.q 43 (.q 44 (.q 45 (.q 46 (.q 47 .done)))))))))))))))))))))))))))))))))))))))))))))))) ?_
  first | refine AtT.zi zy ?_ | with_reducible refine AtT.zk zy ?_ | refine AtT.zn zy ?_
  first | refine AtT.zm tk3 ?_ | refine AtT.zo tk3 ?_
  refine AtT.zY ?_
  refine AtT.qm (d := 19) rfl ((m1)) ?_
  refine AtT.zh ?_
  all_goals (first | refine AtT.kL 20 ?_ | refine AtT.zB (d := 20) rfl (fun hg20 => ?_) (fun hg20 => ?_) | refine AtT.zA (d := 20) rfl (fun hg20 => ?_) (fun hg20 => ?_))
  all_goals first|refine AtT.zf ?_|refine AtT.ze ?_|(first | refine AtT.zi zy ?_ | with_reducible refine AtT.zk zy ?_ | refine AtT.zn zy ?_)
  all_goals first|refine AtT.zf ?_|refine AtT.ze ?_|(first | refine AtT.zm tk3 ?_ | refine AtT.zo tk3 ?_)
  all_goals first|refine AtT.zf ?_|refine AtT.ze ?_|(refine AtT.zh ?_)
  all_goals first|refine AtT.zf ?_|refine AtT.ze ?_|(refine AtT.qw ?_)
  all_goals (refine AtT.qm (d := 24) rfl ((m2)) ?_)
  all_goals (refine AtT.zz ?_)
  all_goals (refine AtT.zh ?_)
  all_goals (first | refine AtT.kL 26 ?_ | refine AtT.zB (d := 26) rfl (fun hg26 => ?_) (fun hg26 => ?_) | refine AtT.zA (d := 26) rfl (fun hg26 => ?_) (fun hg26 => ?_))
  all_goals first|refine AtT.zf ?_|refine AtT.ze ?_|(first | refine AtT.zi zx ?_ | with_reducible refine AtT.zk zx ?_ | refine AtT.zn zx ?_)
  all_goals first|refine AtT.zf ?_|refine AtT.ze ?_|(first | refine AtT.zm tk3 ?_ | refine AtT.zo tk3 ?_)
  all_goals first|refine AtT.zf ?_|refine AtT.ze ?_|(refine AtT.zY ?_)
  all_goals (refine AtT.qm (d := 29) rfl ((m3)) ?_)
  all_goals (refine AtT.zz ?_)
  all_goals (refine AtT.zh ?_)
  all_goals (first | refine AtT.kL 31 ?_ | refine AtT.zB (d := 31) rfl (fun hg31 => ?_) (fun hg31 => ?_) | refine AtT.zA (d := 31) rfl (fun hg31 => ?_) (fun hg31 => ?_))
  all_goals first|refine AtT.zf ?_|refine AtT.ze ?_|(first | refine AtT.zi zx ?_ | with_reducible refine AtT.zk zx ?_ | refine AtT.zn zx ?_)
  all_goals first|refine AtT.zf ?_|refine AtT.ze ?_|(first | refine AtT.zm tk3 ?_ | refine AtT.zo tk3 ?_)
  all_goals first|refine AtT.zf ?_|refine AtT.ze ?_|(refine AtT.zh ?_)
  all_goals first|refine AtT.zf ?_|refine AtT.ze ?_|(refine AtT.qw ?_)
  all_goals (refine AtT.qm (d := 35) rfl ((m4)) ?_)
  all_goals (refine AtT.zz ?_)
  all_goals (refine AtT.zh ?_)
  all_goals (first | refine AtT.kL 37 ?_ | refine AtT.zB (d := 37) rfl (fun hg37 => ?_) (fun hg37 => ?_) | refine AtT.zA (d := 37) rfl (fun hg37 => ?_) (fun hg37 => ?_))
  all_goals first|refine AtT.zf ?_|refine AtT.ze ?_|(first | refine AtT.zi zH ?_ | with_reducible refine AtT.zk zH ?_ | refine AtT.zn zH ?_)
  all_goals first|refine AtT.zf ?_|refine AtT.ze ?_|(first | refine AtT.zm tk3 ?_ | refine AtT.zo tk3 ?_)
  all_goals first|refine AtT.zf ?_|refine AtT.ze ?_|(refine AtT.zY ?_)
  all_goals (refine AtT.qJ (d := 40) rfl ((m5)) ?_)
  all_goals (refine AtT.zz ?_)
  all_goals (refine AtT.zh ?_)
  all_goals (first | refine AtT.kL 42 ?_ | refine AtT.zB (d := 42) rfl (fun hg42 => ?_) (fun hg42 => ?_) | refine AtT.zA (d := 42) rfl (fun hg42 => ?_) (fun hg42 => ?_))
  all_goals first|refine AtT.zf ?_|refine AtT.ze ?_|(first | refine AtT.zi zG ?_ | with_reducible refine AtT.zk zG ?_ | refine AtT.zn zG ?_)
  all_goals first|refine AtT.zf ?_|refine AtT.ze ?_|(first | refine AtT.zm tk3 ?_ | refine AtT.zo tk3 ?_)
  all_goals first|refine AtT.zf ?_|refine AtT.ze ?_|(refine AtT.zY ?_)
  all_goals (refine AtT.zz ?_)
  all_goals (refine AtT.zh ?_)
  all_goals (first | refine AtT.kL 47 ?_ | refine AtT.zB (d := 47) rfl (fun hg47 => ?_) (fun hg47 => ?_) | refine AtT.zA (d := 47) rfl (fun hg47 => ?_) (fun hg47 => ?_))
  all_goals first|refine AtT.zf ?_|refine AtT.ze ?_|(first | refine AtT.zi zH ?_ | with_reducible refine AtT.zk zH ?_ | refine AtT.zn zH ?_)
  all_goals first|refine AtT.zf ?_|refine AtT.ze ?_|(first | refine AtT.zm tk3 ?_ | refine AtT.zo tk3 ?_)
  all_goals first|refine AtT.zf ?_|refine AtT.ze ?_|(refine AtT.zh ?_)
  all_goals first|refine AtT.zf ?_|refine AtT.ze ?_|(first | refine AtT.zi zy ?_ | with_reducible refine AtT.zk zy ?_ | refine AtT.zn zy ?_)
  all_goals first|refine AtT.zf ?_|refine AtT.ze ?_|(first | refine AtT.zm tk3 ?_ | refine AtT.zo tk3 ?_)
  all_goals first|refine AtT.zf ?_|refine AtT.ze ?_|(first | refine AtT.qD ?_ | refine AtT.qE ?_)
  all_goals first|refine AtT.zf ?_|refine AtT.ze ?_|(refine AtT.qw ?_)
  all_goals (refine AtT.zz ?_)
  all_goals (refine AtT.zh ?_)
  all_goals (first | refine AtT.kL 56 ?_ | refine AtT.zB (d := 56) rfl (fun hg56 => ?_) (fun hg56 => ?_) | refine AtT.zA (d := 56) rfl (fun hg56 => ?_) (fun hg56 => ?_))
  all_goals first|refine AtT.zf ?_|refine AtT.ze ?_|(first | refine AtT.zi zG ?_ | with_reducible refine AtT.zk zG ?_ | refine AtT.zn zG ?_)
  all_goals first|refine AtT.zf ?_|refine AtT.ze ?_|(first | refine AtT.zm tk3 ?_ | refine AtT.zo tk3 ?_)
  all_goals first|refine AtT.zf ?_|refine AtT.ze ?_|(refine AtT.zh ?_)
  all_goals first|refine AtT.zf ?_|refine AtT.ze ?_|(first | refine AtT.zi zx ?_ | with_reducible refine AtT.zk zx ?_ | refine AtT.zn zx ?_)
  all_goals first|refine AtT.zf ?_|refine AtT.ze ?_|(first | refine AtT.zm tk3 ?_ | refine AtT.zo tk3 ?_)
  all_goals first|refine AtT.zf ?_|refine AtT.ze ?_|(first | refine AtT.qD ?_ | refine AtT.qE ?_)
  all_goals first|refine AtT.zf ?_|refine AtT.ze ?_|(refine AtT.qw ?_)
  all_goals (refine AtT.zz ?_)
  all_goals refine AtT.done ?_
  all_goals (refine At.nrm ?_)
  refine At.qA rfl rfl ?_
  refine At.nrm ?_
  refine At.zl (.q 0 .done) ?_
  refine AtT.zg ?_
  refine AtT.done ?_
  refine At.nrm ?_
  exact At.qb rfl (.tmp rfl) (by unfold peE; rw [if_pos (by omega)])
 by_cases m6 : p.l < 0
 ·refine At.zl (.q 0 (.q 1 (.q 2 (.q 3 (.q 4 (.q 5 (.q 6 (.q 7 (.q 8 (.q 9 (.q 10 (.q 11 (.q 12 (.q 13 (.q 14 (.q 15 (.q 16 (.q 17 (.q 18 (.q 19 (.q 20 (.q 21 (.q 22 (.q 23 (.q 24 (.q 25 (.q 26 (.q 27 (.q 28 (.q 29 (.q 30 (.q 31 (.q 32 (.q 33 (.q 34 (.q 35 (.q 36 (.q 37 (.q 38 (.q 39 (.q 40 (.q 41 (.q 42 (.q 43 (.q 44 (.q 45 (.q 46 (.q 47 .done)))))))))))))))))))))))))))))))))))))))))))))))) ?_
  first | refine AtT.zi zy ?_ | with_reducible refine AtT.zk zy ?_ | refine AtT.zn zy ?_
  first | refine AtT.zm tk3 ?_ | refine AtT.zo tk3 ?_
  refine AtT.zY ?_
  refine AtT.qm (d := 19) rfl ((m1)) ?_
  refine AtT.zh ?_
  all_goals (first | refine AtT.kL 20 ?_ | refine AtT.zB (d := 20) rfl (fun hg20 => ?_) (fun hg20 => ?_) | refine AtT.zA (d := 20) rfl (fun hg20 => ?_) (fun hg20 => ?_))
  all_goals first|refine AtT.zf ?_|refine AtT.ze ?_|(first | refine AtT.zi zy ?_ | with_reducible refine AtT.zk zy ?_ | refine AtT.zn zy ?_)
  all_goals first|refine AtT.zf ?_|refine AtT.ze ?_|(first | refine AtT.zm tk3 ?_ | refine AtT.zo tk3 ?_)
  all_goals first|refine AtT.zf ?_|refine AtT.ze ?_|(refine AtT.zh ?_)
  all_goals first|refine AtT.zf ?_|refine AtT.ze ?_|(refine AtT.qw ?_)
  all_goals (refine AtT.qm (d := 24) rfl ((m2)) ?_)
  all_goals (refine AtT.zz ?_)
  all_goals (refine AtT.zh ?_)
  all_goals (first | refine AtT.kL 26 ?_ | refine AtT.zB (d := 26) rfl (fun hg26 => ?_) (fun hg26 => ?_) | refine AtT.zA (d := 26) rfl (fun hg26 => ?_) (fun hg26 => ?_))
  all_goals first|refine AtT.zf ?_|refine AtT.ze ?_|(first | refine AtT.zi zx ?_ | with_reducible refine AtT.zk zx ?_ | refine AtT.zn zx ?_)
  all_goals first|refine AtT.zf ?_|refine AtT.ze ?_|(first | refine AtT.zm tk3 ?_ | refine AtT.zo tk3 ?_)
  all_goals first|refine AtT.zf ?_|refine AtT.ze ?_|(refine AtT.zY ?_)
  all_goals (refine AtT.qm (d := 29) rfl ((m3)) ?_)
  all_goals (refine AtT.zz ?_)
  all_goals (refine AtT.zh ?_)
  all_goals (first | refine AtT.kL 31 ?_ | refine AtT.zB (d := 31) rfl (fun hg31 => ?_) (fun hg31 => ?_) | refine AtT.zA (d := 31) rfl (fun hg31 => ?_) (fun hg31 => ?_))
  all_goals first|refine AtT.zf ?_|refine AtT.ze ?_|(first | refine AtT.zi zx ?_ | with_reducible refine AtT.zk zx ?_ | refine AtT.zn zx ?_)
  all_goals first|refine AtT.zf ?_|refine AtT.ze ?_|(first | refine AtT.zm tk3 ?_ | refine AtT.zo tk3 ?_)
  all_goals first|refine AtT.zf ?_|refine AtT.ze ?_|(refine AtT.zh ?_)
  all_goals first|refine AtT.zf ?_|refine AtT.ze ?_|(refine AtT.qw ?_)
  all_goals (refine AtT.qm (d := 35) rfl ((m4)) ?_)
  all_goals (refine AtT.zz ?_)
  all_goals (refine AtT.zh ?_)
  all_goals (first | refine AtT.kL 37 ?_ | refine AtT.zB (d := 37) rfl (fun hg37 => ?_) (fun hg37 => ?_) | refine AtT.zA (d := 37) rfl (fun hg37 => ?_) (fun hg37 => ?_))
  all_goals first|refine AtT.zf ?_|refine AtT.ze ?_|(first | refine AtT.zi zH ?_ | with_reducible refine AtT.zk zH ?_ | refine AtT.zn zH ?_)
  all_goals first|refine AtT.zf ?_|refine AtT.ze ?_|(first | refine AtT.zm tk3 ?_ | refine AtT.zo tk3 ?_)
  all_goals first|refine AtT.zf ?_|refine AtT.ze ?_|(refine AtT.zY ?_)
  all_goals (refine AtT.qm (d := 40) rfl ((m5)) ?_)
  all_goals (refine AtT.zz ?_)
  all_goals (refine AtT.zh ?_)
  all_goals (first | refine AtT.kL 42 ?_ | refine AtT.zB (d := 42) rfl (fun hg42 => ?_) (fun hg42 => ?_) | refine AtT.zA (d := 42) rfl (fun hg42 => ?_) (fun hg42 => ?_))
  all_goals first|refine AtT.zf ?_|refine AtT.ze ?_|(first | refine AtT.zi zG ?_ | with_reducible refine AtT.zk zG ?_ | refine AtT.zn zG ?_)
  all_goals first|refine AtT.zf ?_|refine AtT.ze ?_|(first | refine AtT.zm tk3 ?_ | refine AtT.zo tk3 ?_)
  all_goals first|refine AtT.zf ?_|refine AtT.ze ?_|(refine AtT.zY ?_)
  all_goals (refine AtT.qJ (d := 45) rfl ((m6)) ?_)
  all_goals (refine AtT.zz ?_)
  all_goals (refine AtT.zh ?_)
  all_goals (first | refine AtT.kL 47 ?_ | refine AtT.zB (d := 47) rfl (fun hg47 => ?_) (fun hg47 => ?_) | refine AtT.zA (d := 47) rfl (fun hg47 => ?_) (fun hg47 => ?_))
  all_goals first|refine AtT.zf ?_|refine AtT.ze ?_|(first | refine AtT.zi zH ?_ | with_reducible refine AtT.zk zH ?_ | refine AtT.zn zH ?_)
  all_goals first|refine AtT.zf ?_|refine AtT.ze ?_|(first | refine AtT.zm tk3 ?_ | refine AtT.zo tk3 ?_)
  all_goals first|refine AtT.zf ?_|refine AtT.ze ?_|(refine AtT.zh ?_)
  all_goals first|refine AtT.zf ?_|refine AtT.ze ?_|(first | refine AtT.zi zy ?_ | with_reducible refine AtT.zk zy ?_ | refine AtT.zn zy ?_)
  all_goals first|refine AtT.zf ?_|refine AtT.ze ?_|(first | refine AtT.zm tk3 ?_ | refine AtT.zo tk3 ?_)
  all_goals first|refine AtT.zf ?_|refine AtT.ze ?_|(first | refine AtT.qD ?_ | refine AtT.qE ?_)
  all_goals first|refine AtT.zf ?_|refine AtT.ze ?_|(refine AtT.qw ?_)
  all_goals (refine AtT.zz ?_)
  all_goals (refine AtT.zh ?_)
  all_goals (first | refine AtT.kL 56 ?_ | refine AtT.zB (d := 56) rfl (fun hg56 => ?_) (fun hg56 => ?_) | refine AtT.zA (d := 56) rfl (fun hg56 => ?_) (fun hg56 => ?_))
  all_goals first|refine AtT.zf ?_|refine AtT.ze ?_|(first | refine AtT.zi zG ?_ | with_reducible refine AtT.zk zG ?_ | refine AtT.zn zG ?_)
  all_goals first|refine AtT.zf ?_|refine AtT.ze ?_|(first | refine AtT.zm tk3 ?_ | refine AtT.zo tk3 ?_)
  all_goals first|refine AtT.zf ?_|refine AtT.ze ?_|(refine AtT.zh ?_)
  all_goals first|refine AtT.zf ?_|refine AtT.ze ?_|(first | refine AtT.zi zx ?_ | with_reducible refine AtT.zk zx ?_ | refine AtT.zn zx ?_)
  all_goals first|refine AtT.zf ?_|refine AtT.ze ?_|(first | refine AtT.zm tk3 ?_ | refine AtT.zo tk3 ?_)
  all_goals first|refine AtT.zf ?_|refine AtT.ze ?_|(first | refine AtT.qD ?_ | refine AtT.qE ?_)
  all_goals first|refine AtT.zf ?_|refine AtT.ze ?_|(refine AtT.qw ?_)
  all_goals (refine AtT.zz ?_)
  all_goals refine AtT.done ?_
  all_goals (refine At.nrm ?_)
  refine At.qA rfl rfl ?_
  refine At.nrm ?_
  refine At.zl (.q 0 .done) ?_
  refine AtT.zg ?_
  refine AtT.done ?_
  refine At.nrm ?_
  exact At.qb rfl (.tmp rfl) (by unfold peE; rw [if_pos (by omega)])
 by_cases m7 : (s.rows.length : Int) - p.h < p.t
 ·refine At.zl (.q 0 (.q 1 (.q 2 (.q 3 (.q 4 (.q 5 (.q 6 (.q 7 (.q 8 (.q 9 (.q 10 (.q 11 (.q 12 (.q 13 (.q 14 (.q 15 (.q 16 (.q 17 (.q 18 (.q 19 (.q 20 (.q 21 (.q 22 (.q 23 (.q 24 (.q 25 (.q 26 (.q 27 (.q 28 (.q 29 (.q 30 (.q 31 (.q 32 (.q 33 (.q 34 (.q 35 (.q 36 (.q 37 (.q 38 (.q 39 (.q 40 (.q 41 (.q 42 (.q 43 (.q 44 (.q 45 (.q 46 (.q 47 .done)))))))))))))))))))))))))))))))))))))))))))))))) ?_
  first | refine AtT.zi zy ?_ | with_reducible refine AtT.zk zy ?_ | refine AtT.zn zy ?_
  first | refine AtT.zm tk3 ?_ | refine AtT.zo tk3 ?_
  refine AtT.zY ?_
  refine AtT.qm (d := 19) rfl ((m1)) ?_
  refine AtT.zh ?_
  all_goals (first | refine AtT.kL 20 ?_ | refine AtT.zB (d := 20) rfl (fun hg20 => ?_) (fun hg20 => ?_) | refine AtT.zA (d := 20) rfl (fun hg20 => ?_) (fun hg20 => ?_))
  all_goals first|refine AtT.zf ?_|refine AtT.ze ?_|(first | refine AtT.zi zy ?_ | with_reducible refine AtT.zk zy ?_ | refine AtT.zn zy ?_)
  all_goals first|refine AtT.zf ?_|refine AtT.ze ?_|(first | refine AtT.zm tk3 ?_ | refine AtT.zo tk3 ?_)
  all_goals first|refine AtT.zf ?_|refine AtT.ze ?_|(refine AtT.zh ?_)
  all_goals first|refine AtT.zf ?_|refine AtT.ze ?_|(refine AtT.qw ?_)
  all_goals (refine AtT.qm (d := 24) rfl ((m2)) ?_)
  all_goals (refine AtT.zz ?_)
  all_goals (refine AtT.zh ?_)
  all_goals (first | refine AtT.kL 26 ?_ | refine AtT.zB (d := 26) rfl (fun hg26 => ?_) (fun hg26 => ?_) | refine AtT.zA (d := 26) rfl (fun hg26 => ?_) (fun hg26 => ?_))
  all_goals first|refine AtT.zf ?_|refine AtT.ze ?_|(first | refine AtT.zi zx ?_ | with_reducible refine AtT.zk zx ?_ | refine AtT.zn zx ?_)
  all_goals first|refine AtT.zf ?_|refine AtT.ze ?_|(first | refine AtT.zm tk3 ?_ | refine AtT.zo tk3 ?_)
  all_goals first|refine AtT.zf ?_|refine AtT.ze ?_|(refine AtT.zY ?_)
  all_goals (refine AtT.qm (d := 29) rfl ((m3)) ?_)
  all_goals (refine AtT.zz ?_)
  all_goals (refine AtT.zh ?_)
  all_goals (first | refine AtT.kL 31 ?_ | refine AtT.zB (d := 31) rfl (fun hg31 => ?_) (fun hg31 => ?_) | refine AtT.zA (d := 31) rfl (fun hg31 => ?_) (fun hg31 => ?_))
  all_goals first|refine AtT.zf ?_|refine AtT.ze ?_|(first | refine AtT.zi zx ?_ | with_reducible refine AtT.zk zx ?_ | refine AtT.zn zx ?_)
  all_goals first|refine AtT.zf ?_|refine AtT.ze ?_|(first | refine AtT.zm tk3 ?_ | refine AtT.zo tk3 ?_)
  all_goals first|refine AtT.zf ?_|refine AtT.ze ?_|(refine AtT.zh ?_)
  all_goals first|refine AtT.zf ?_|refine AtT.ze ?_|(refine AtT.qw ?_)
  all_goals (refine AtT.qm (d := 35) rfl ((m4)) ?_)
  all_goals (refine AtT.zz ?_)
  all_goals (refine AtT.zh ?_)
  all_goals (first | refine AtT.kL 37 ?_ | refine AtT.zB (d := 37) rfl (fun hg37 => ?_) (fun hg37 => ?_) | refine AtT.zA (d := 37) rfl (fun hg37 => ?_) (fun hg37 => ?_))
  all_goals first|refine AtT.zf ?_|refine AtT.ze ?_|(first | refine AtT.zi zH ?_ | with_reducible refine AtT.zk zH ?_ | refine AtT.zn zH ?_)
  all_goals first|refine AtT.zf ?_|refine AtT.ze ?_|(first | refine AtT.zm tk3 ?_ | refine AtT.zo tk3 ?_)
  all_goals first|refine AtT.zf ?_|refine AtT.ze ?_|(refine AtT.zY ?_)
  all_goals (refine AtT.qm (d := 40) rfl ((m5)) ?_)
  all_goals (refine AtT.zz ?_)
  all_goals (refine AtT.zh ?_)
  all_goals (first | refine AtT.kL 42 ?_ | refine AtT.zB (d := 42) rfl (fun hg42 => ?_) (fun hg42 => ?_) | refine AtT.zA (d := 42) rfl (fun hg42 => ?_) (fun hg42 => ?_))
  all_goals first|refine AtT.zf ?_|refine AtT.ze ?_|(first | refine AtT.zi zG ?_ | with_reducible refine AtT.zk zG ?_ | refine AtT.zn zG ?_)
  all_goals first|refine AtT.zf ?_|refine AtT.ze ?_|(first | refine AtT.zm tk3 ?_ | refine AtT.zo tk3 ?_)
  all_goals first|refine AtT.zf ?_|refine AtT.ze ?_|(refine AtT.zY ?_)
  all_goals (refine AtT.qm (d := 45) rfl ((m6)) ?_)
  all_goals (refine AtT.zz ?_)
  all_goals (refine AtT.zh ?_)
  all_goals (first | refine AtT.kL 47 ?_ | refine AtT.zB (d := 47) rfl (fun hg47 => ?_) (fun hg47 => ?_) | refine AtT.zA (d := 47) rfl (fun hg47 => ?_) (fun hg47 => ?_))
  all_goals first|refine AtT.zf ?_|refine AtT.ze ?_|(first | refine AtT.zi zH ?_ | with_reducible refine AtT.zk zH ?_ | refine AtT.zn zH ?_)
  all_goals first|refine AtT.zf ?_|refine AtT.ze ?_|(first | refine AtT.zm tk3 ?_ | refine AtT.zo tk3 ?_)
  all_goals first|refine AtT.zf ?_|refine AtT.ze ?_|(refine AtT.zh ?_)
  all_goals first|refine AtT.zf ?_|refine AtT.ze ?_|(first | refine AtT.zi zy ?_ | with_reducible refine AtT.zk zy ?_ | refine AtT.zn zy ?_)
  all_goals first|refine AtT.zf ?_|refine AtT.ze ?_|(first | refine AtT.zm tk3 ?_ | refine AtT.zo tk3 ?_)
  all_goals first|refine AtT.zf ?_|refine AtT.ze ?_|(first | refine AtT.qD ?_ | refine AtT.qE ?_)
  all_goals first|refine AtT.zf ?_|refine AtT.ze ?_|(refine AtT.qw ?_)
  all_goals (refine AtT.qJ (d := 54) rfl ((m7)) ?_)
  all_goals (refine AtT.zz ?_)
  all_goals (refine AtT.zh ?_)
  all_goals (first | refine AtT.kL 56 ?_ | refine AtT.zB (d := 56) rfl (fun hg56 => ?_) (fun hg56 => ?_) | refine AtT.zA (d := 56) rfl (fun hg56 => ?_) (fun hg56 => ?_))
  all_goals first|refine AtT.zf ?_|refine AtT.ze ?_|(first | refine AtT.zi zG ?_ | with_reducible refine AtT.zk zG ?_ | refine AtT.zn zG ?_)
  all_goals first|refine AtT.zf ?_|refine AtT.ze ?_|(first | refine AtT.zm tk3 ?_ | refine AtT.zo tk3 ?_)
  all_goals first|refine AtT.zf ?_|refine AtT.ze ?_|(refine AtT.zh ?_)
  all_goals first|refine AtT.zf ?_|refine AtT.ze ?_|(first | refine AtT.zi zx ?_ | with_reducible refine AtT.zk zx ?_ | refine AtT.zn zx ?_)
  all_goals first|refine AtT.zf ?_|refine AtT.ze ?_|(first | refine AtT.zm tk3 ?_ | refine AtT.zo tk3 ?_)
  all_goals first|refine AtT.zf ?_|refine AtT.ze ?_|(first | refine AtT.qD ?_ | refine AtT.qE ?_)
  all_goals first|refine AtT.zf ?_|refine AtT.ze ?_|(refine AtT.qw ?_)
  all_goals (refine AtT.zz ?_)
  all_goals refine AtT.done ?_
  all_goals (refine At.nrm ?_)
  refine At.qA rfl rfl ?_
  refine At.nrm ?_
  refine At.zl (.q 0 .done) ?_
  refine AtT.zg ?_
  refine AtT.done ?_
  refine At.nrm ?_
  exact At.qb rfl (.tmp rfl) (by unfold peE; rw [if_pos (by omega)])
 by_cases m8 : (wdS s : Int) - p.w < p.l
 ·refine At.zl (.q 0 (.q 1 (.q 2 (.q 3 (.q 4 (.q 5 (.q 6 (.q 7 (.q 8 (.q 9 (.q 10 (.q 11 (.q 12 (.q 13 (.q 14 (.q 15 (.q 16 (.q 17 (.q 18 (.q 19 (.q 20 (.q 21 (.q 22 (.q 23 (.q 24 (.q 25 (.q 26 (.q 27 (.q 28 (.q 29 (.q 30 (.q 31 (.q 32 (.q 33 (.q 34 (.q 35 (.q 36 (.q 37 (.q 38 (.q 39 (.q 40 (.q 41 (.q 42 (.q 43 (.q 44 (.q 45 (.q 46 (.q 47 .done)))))))))))))))))))))))))))))))))))))))))))))))) ?_
  first | refine AtT.zi zy ?_ | with_reducible refine AtT.zk zy ?_ | refine AtT.zn zy ?_
  first | refine AtT.zm tk3 ?_ | refine AtT.zo tk3 ?_
  refine AtT.zY ?_
  refine AtT.qm (d := 19) rfl ((m1)) ?_
  refine AtT.zh ?_
  all_goals (first | refine AtT.kL 20 ?_ | refine AtT.zB (d := 20) rfl (fun hg20 => ?_) (fun hg20 => ?_) | refine AtT.zA (d := 20) rfl (fun hg20 => ?_) (fun hg20 => ?_))
  all_goals first|refine AtT.zf ?_|refine AtT.ze ?_|(first | refine AtT.zi zy ?_ | with_reducible refine AtT.zk zy ?_ | refine AtT.zn zy ?_)
  all_goals first|refine AtT.zf ?_|refine AtT.ze ?_|(first | refine AtT.zm tk3 ?_ | refine AtT.zo tk3 ?_)
  all_goals first|refine AtT.zf ?_|refine AtT.ze ?_|(refine AtT.zh ?_)
  all_goals first|refine AtT.zf ?_|refine AtT.ze ?_|(refine AtT.qw ?_)
  all_goals (refine AtT.qm (d := 24) rfl ((m2)) ?_)
  all_goals (refine AtT.zz ?_)
  all_goals (refine AtT.zh ?_)
  all_goals (first | refine AtT.kL 26 ?_ | refine AtT.zB (d := 26) rfl (fun hg26 => ?_) (fun hg26 => ?_) | refine AtT.zA (d := 26) rfl (fun hg26 => ?_) (fun hg26 => ?_))
  all_goals first|refine AtT.zf ?_|refine AtT.ze ?_|(first | refine AtT.zi zx ?_ | with_reducible refine AtT.zk zx ?_ | refine AtT.zn zx ?_)
  all_goals first|refine AtT.zf ?_|refine AtT.ze ?_|(first | refine AtT.zm tk3 ?_ | refine AtT.zo tk3 ?_)
  all_goals first|refine AtT.zf ?_|refine AtT.ze ?_|(refine AtT.zY ?_)
  all_goals (refine AtT.qm (d := 29) rfl ((m3)) ?_)
  all_goals (refine AtT.zz ?_)
  all_goals (refine AtT.zh ?_)
  all_goals (first | refine AtT.kL 31 ?_ | refine AtT.zB (d := 31) rfl (fun hg31 => ?_) (fun hg31 => ?_) | refine AtT.zA (d := 31) rfl (fun hg31 => ?_) (fun hg31 => ?_))
  all_goals first|refine AtT.zf ?_|refine AtT.ze ?_|(first | refine AtT.zi zx ?_ | with_reducible refine AtT.zk zx ?_ | refine AtT.zn zx ?_)
  all_goals first|refine AtT.zf ?_|refine AtT.ze ?_|(first | refine AtT.zm tk3 ?_ | refine AtT.zo tk3 ?_)
  all_goals first|refine AtT.zf ?_|refine AtT.ze ?_|(refine AtT.zh ?_)
  all_goals first|refine AtT.zf ?_|refine AtT.ze ?_|(refine AtT.qw ?_)
  all_goals (refine AtT.qm (d := 35) rfl ((m4)) ?_)
  all_goals (refine AtT.zz ?_)
  all_goals (refine AtT.zh ?_)
  all_goals (first | refine AtT.kL 37 ?_ | refine AtT.zB (d := 37) rfl (fun hg37 => ?_) (fun hg37 => ?_) | refine AtT.zA (d := 37) rfl (fun hg37 => ?_) (fun hg37 => ?_))
  all_goals first|refine AtT.zf ?_|refine AtT.ze ?_|(first | refine AtT.zi zH ?_ | with_reducible refine AtT.zk zH ?_ | refine AtT.zn zH ?_)
  all_goals first|refine AtT.zf ?_|refine AtT.ze ?_|(first | refine AtT.zm tk3 ?_ | refine AtT.zo tk3 ?_)
  all_goals first|refine AtT.zf ?_|refine AtT.ze ?_|(refine AtT.zY ?_)
  all_goals (refine AtT.qm (d := 40) rfl ((m5)) ?_)
  all_goals (refine AtT.zz ?_)
  all_goals (refine AtT.zh ?_)
  all_goals (first | refine AtT.kL 42 ?_ | refine AtT.zB (d := 42) rfl (fun hg42 => ?_) (fun hg42 => ?_) | refine AtT.zA (d := 42) rfl (fun hg42 => ?_) (fun hg42 => ?_))
  all_goals first|refine AtT.zf ?_|refine AtT.ze ?_|(first | refine AtT.zi zG ?_ | with_reducible refine AtT.zk zG ?_ | refine AtT.zn zG ?_)
  all_goals first|refine AtT.zf ?_|refine AtT.ze ?_|(first | refine AtT.zm tk3 ?_ | refine AtT.zo tk3 ?_)
  all_goals first|refine AtT.zf ?_|refine AtT.ze ?_|(refine AtT.zY ?_)
  all_goals (refine AtT.qm (d := 45) rfl ((m6)) ?_)
  all_goals (refine AtT.zz ?_)
  all_goals (refine AtT.zh ?_)
  all_goals (first | refine AtT.kL 47 ?_ | refine AtT.zB (d := 47) rfl (fun hg47 => ?_) (fun hg47 => ?_) | refine AtT.zA (d := 47) rfl (fun hg47 => ?_) (fun hg47 => ?_))
  all_goals first|refine AtT.zf ?_|refine AtT.ze ?_|(first | refine AtT.zi zH ?_ | with_reducible refine AtT.zk zH ?_ | refine AtT.zn zH ?_)
  all_goals first|refine AtT.zf ?_|refine AtT.ze ?_|(first | refine AtT.zm tk3 ?_ | refine AtT.zo tk3 ?_)
  all_goals first|refine AtT.zf ?_|refine AtT.ze ?_|(refine AtT.zh ?_)
  all_goals first|refine AtT.zf ?_|refine AtT.ze ?_|(first | refine AtT.zi zy ?_ | with_reducible refine AtT.zk zy ?_ | refine AtT.zn zy ?_)
  all_goals first|refine AtT.zf ?_|refine AtT.ze ?_|(first | refine AtT.zm tk3 ?_ | refine AtT.zo tk3 ?_)
  all_goals first|refine AtT.zf ?_|refine AtT.ze ?_|(first | refine AtT.qD ?_ | refine AtT.qE ?_)
  all_goals first|refine AtT.zf ?_|refine AtT.ze ?_|(refine AtT.qw ?_)
  all_goals (refine AtT.qm (d := 54) rfl ((m7)) ?_)
  all_goals (refine AtT.zz ?_)
  all_goals (refine AtT.zh ?_)
  all_goals (first | refine AtT.kL 56 ?_ | refine AtT.zB (d := 56) rfl (fun hg56 => ?_) (fun hg56 => ?_) | refine AtT.zA (d := 56) rfl (fun hg56 => ?_) (fun hg56 => ?_))
  all_goals first|refine AtT.zf ?_|refine AtT.ze ?_|(first | refine AtT.zi zG ?_ | with_reducible refine AtT.zk zG ?_ | refine AtT.zn zG ?_)
  all_goals first|refine AtT.zf ?_|refine AtT.ze ?_|(first | refine AtT.zm tk3 ?_ | refine AtT.zo tk3 ?_)
  all_goals first|refine AtT.zf ?_|refine AtT.ze ?_|(refine AtT.zh ?_)
  all_goals first|refine AtT.zf ?_|refine AtT.ze ?_|(first | refine AtT.zi zx ?_ | with_reducible refine AtT.zk zx ?_ | refine AtT.zn zx ?_)
  all_goals first|refine AtT.zf ?_|refine AtT.ze ?_|(first | refine AtT.zm tk3 ?_ | refine AtT.zo tk3 ?_)
  all_goals first|refine AtT.zf ?_|refine AtT.ze ?_|(first | refine AtT.qD ?_ | refine AtT.qE ?_)
  all_goals first|refine AtT.zf ?_|refine AtT.ze ?_|(refine AtT.qw ?_)
  all_goals (refine AtT.qJ (d := 63) rfl ((m8)) ?_)
  all_goals (refine AtT.zz ?_)
  all_goals refine AtT.done ?_
  all_goals (refine At.nrm ?_)
  refine At.qA rfl rfl ?_
  refine At.nrm ?_
  refine At.zl (.q 0 .done) ?_
  refine AtT.zg ?_
  refine AtT.done ?_
  refine At.nrm ?_
  exact At.qb rfl (.tmp rfl) (by unfold peE; rw [if_pos (by omega)])
 refine At.zl (.q 0 (.q 1 (.q 2 (.q 3 (.q 4 (.q 5 (.q 6 (.q 7 (.q 8 (.q 9 (.q 10 (.q 11 (.q 12 (.q 13 (.q 14 (.q 15 (.q 16 (.q 17 (.q 18 (.q 19 (.q 20 (.q 21 (.q 22 (.q 23 (.q 24 (.q 25 (.q 26 (.q 27 (.q 28 (.q 29 (.q 30 (.q 31 (.q 32 (.q 33 (.q 34 (.q 35 (.q 36 (.q 37 (.q 38 (.q 39 (.q 40 (.q 41 (.q 42 (.q 43 (.q 44 (.q 45 (.q 46 (.q 47 .done)))))))))))))))))))))))))))))))))))))))))))))))) ?_
 first | refine AtT.zi zy ?_ | with_reducible refine AtT.zk zy ?_ | refine AtT.zn zy ?_
 first | refine AtT.zm tk3 ?_ | refine AtT.zo tk3 ?_
 refine AtT.zY ?_
 refine AtT.qm (d := 19) rfl ((m1)) ?_
 refine AtT.zh ?_
 all_goals (first | refine AtT.kL 20 ?_ | refine AtT.zB (d := 20) rfl (fun hg20 => ?_) (fun hg20 => ?_) | refine AtT.zA (d := 20) rfl (fun hg20 => ?_) (fun hg20 => ?_))
 all_goals first|refine AtT.zf ?_|refine AtT.ze ?_|(first | refine AtT.zi zy ?_ | with_reducible refine AtT.zk zy ?_ | refine AtT.zn zy ?_)
 all_goals first|refine AtT.zf ?_|refine AtT.ze ?_|(first | refine AtT.zm tk3 ?_ | refine AtT.zo tk3 ?_)
 all_goals first|refine AtT.zf ?_|refine AtT.ze ?_|(refine AtT.zh ?_)
 all_goals first|refine AtT.zf ?_|refine AtT.ze ?_|(refine AtT.qw ?_)
 all_goals (refine AtT.qm (d := 24) rfl ((m2)) ?_)
 all_goals (refine AtT.zz ?_)
 all_goals (refine AtT.zh ?_)
 all_goals (first | refine AtT.kL 26 ?_ | refine AtT.zB (d := 26) rfl (fun hg26 => ?_) (fun hg26 => ?_) | refine AtT.zA (d := 26) rfl (fun hg26 => ?_) (fun hg26 => ?_))
 all_goals first|refine AtT.zf ?_|refine AtT.ze ?_|(first | refine AtT.zi zx ?_ | with_reducible refine AtT.zk zx ?_ | refine AtT.zn zx ?_)
 all_goals first|refine AtT.zf ?_|refine AtT.ze ?_|(first | refine AtT.zm tk3 ?_ | refine AtT.zo tk3 ?_)
 all_goals first|refine AtT.zf ?_|refine AtT.ze ?_|(refine AtT.zY ?_)
 all_goals (refine AtT.qm (d := 29) rfl ((m3)) ?_)
 all_goals (refine AtT.zz ?_)
 all_goals (refine AtT.zh ?_)
 all_goals (first | refine AtT.kL 31 ?_ | refine AtT.zB (d := 31) rfl (fun hg31 => ?_) (fun hg31 => ?_) | refine AtT.zA (d := 31) rfl (fun hg31 => ?_) (fun hg31 => ?_))
 all_goals first|refine AtT.zf ?_|refine AtT.ze ?_|(first | refine AtT.zi zx ?_ | with_reducible refine AtT.zk zx ?_ | refine AtT.zn zx ?_)
 all_goals first|refine AtT.zf ?_|refine AtT.ze ?_|(first | refine AtT.zm tk3 ?_ | refine AtT.zo tk3 ?_)
 all_goals first|refine AtT.zf ?_|refine AtT.ze ?_|(refine AtT.zh ?_)
 all_goals first|refine AtT.zf ?_|refine AtT.ze ?_|(refine AtT.qw ?_)
 all_goals (refine AtT.qm (d := 35) rfl ((m4)) ?_)
 all_goals (refine AtT.zz ?_)
 all_goals (refine AtT.zh ?_)
 all_goals (first | refine AtT.kL 37 ?_ | refine AtT.zB (d := 37) rfl (fun hg37 => ?_) (fun hg37 => ?_) | refine AtT.zA (d := 37) rfl (fun hg37 => ?_) (fun hg37 => ?_))
 all_goals first|refine AtT.zf ?_|refine AtT.ze ?_|(first | refine AtT.zi zH ?_ | with_reducible refine AtT.zk zH ?_ | refine AtT.zn zH ?_)
 all_goals first|refine AtT.zf ?_|refine AtT.ze ?_|(first | refine AtT.zm tk3 ?_ | refine AtT.zo tk3 ?_)
 all_goals first|refine AtT.zf ?_|refine AtT.ze ?_|(refine AtT.zY ?_)
 all_goals (refine AtT.qm (d := 40) rfl ((m5)) ?_)
 all_goals (refine AtT.zz ?_)
 all_goals (refine AtT.zh ?_)
 all_goals (first | refine AtT.kL 42 ?_ | refine AtT.zB (d := 42) rfl (fun hg42 => ?_) (fun hg42 => ?_) | refine AtT.zA (d := 42) rfl (fun hg42 => ?_) (fun hg42 => ?_))
 all_goals first|refine AtT.zf ?_|refine AtT.ze ?_|(first | refine AtT.zi zG ?_ | with_reducible refine AtT.zk zG ?_ | refine AtT.zn zG ?_)
 all_goals first|refine AtT.zf ?_|refine AtT.ze ?_|(first | refine AtT.zm tk3 ?_ | refine AtT.zo tk3 ?_)
 all_goals first|refine AtT.zf ?_|refine AtT.ze ?_|(refine AtT.zY ?_)
 all_goals (refine AtT.qm (d := 45) rfl ((m6)) ?_)
 all_goals (refine AtT.zz ?_)
 all_goals (refine AtT.zh ?_)
 all_goals (first | refine AtT.kL 47 ?_ | refine AtT.zB (d := 47) rfl (fun hg47 => ?_) (fun hg47 => ?_) | refine AtT.zA (d := 47) rfl (fun hg47 => ?_) (fun hg47 => ?_))
 all_goals first|refine AtT.zf ?_|refine AtT.ze ?_|(first | refine AtT.zi zH ?_ | with_reducible refine AtT.zk zH ?_ | refine AtT.zn zH ?_)
 all_goals first|refine AtT.zf ?_|refine AtT.ze ?_|(first | refine AtT.zm tk3 ?_ | refine AtT.zo tk3 ?_)
 all_goals first|refine AtT.zf ?_|refine AtT.ze ?_|(refine AtT.zh ?_)
 all_goals first|refine AtT.zf ?_|refine AtT.ze ?_|(first | refine AtT.zi zy ?_ | with_reducible refine AtT.zk zy ?_ | refine AtT.zn zy ?_)
 all_goals first|refine AtT.zf ?_|refine AtT.ze ?_|(first | refine AtT.zm tk3 ?_ | refine AtT.zo tk3 ?_)
 all_goals first|refine AtT.zf ?_|refine AtT.ze ?_|(first | refine AtT.qD ?_ | refine AtT.qE ?_)
 all_goals first|refine AtT.zf ?_|refine AtT.ze ?_|(refine AtT.qw ?_)
 all_goals (refine AtT.qm (d := 54) rfl ((m7)) ?_)
 all_goals (refine AtT.zz ?_)
 all_goals (refine AtT.zh ?_)
 all_goals (first | refine AtT.kL 56 ?_ | refine AtT.zB (d := 56) rfl (fun hg56 => ?_) (fun hg56 => ?_) | refine AtT.zA (d := 56) rfl (fun hg56 => ?_) (fun hg56 => ?_))
 all_goals first|refine AtT.zf ?_|refine AtT.ze ?_|(first | refine AtT.zi zG ?_ | with_reducible refine AtT.zk zG ?_ | refine AtT.zn zG ?_)
 all_goals first|refine AtT.zf ?_|refine AtT.ze ?_|(first | refine AtT.zm tk3 ?_ | refine AtT.zo tk3 ?_)
 all_goals first|refine AtT.zf ?_|refine AtT.ze ?_|(refine AtT.zh ?_)
 all_goals first|refine AtT.zf ?_|refine AtT.ze ?_|(first | refine AtT.zi zx ?_ | with_reducible refine AtT.zk zx ?_ | refine AtT.zn zx ?_)
 all_goals first|refine AtT.zf ?_|refine AtT.ze ?_|(first | refine AtT.zm tk3 ?_ | refine AtT.zo tk3 ?_)
 all_goals first|refine AtT.zf ?_|refine AtT.ze ?_|(first | refine AtT.qD ?_ | refine AtT.qE ?_)
 all_goals first|refine AtT.zf ?_|refine AtT.ze ?_|(refine AtT.qw ?_)
 all_goals (refine AtT.qm (d := 63) rfl ((m8)) ?_)
 all_goals (refine AtT.zz ?_)
 all_goals refine AtT.done ?_
 all_goals (refine At.nrm ?_)
 refine At.qX rfl rfl ?_
 have hin : 1 ≤ p.h ∧ p.h ≤ (gdS s).R ∧ 1 ≤ p.w ∧ p.w ≤ (gdS s).C ∧ 0 ≤ p.t ∧ 0 ≤ p.l ∧ p.t ≤ (gdS s).R - p.h ∧ p.l ≤ (gdS s).C - p.w := by omega
 obtain ⟨T, hT⟩ : ∃ T : Nat, p.t = (T : Int) := ⟨p.t.toNat, by omega⟩
 obtain ⟨L, hL⟩ : ∃ L : Nat, p.l = (L : Int) := ⟨p.l.toNat, by omega⟩
 refine At.nrm ?_
 refine At.zl (.q 0 (.q 1 (.q 2 .done))) ?_
 first | refine AtT.zi zH ?_ | with_reducible refine AtT.zk zH ?_ | refine AtT.zn zH ?_
 first | refine AtT.zm tk3 ?_ | refine AtT.zo tk3 ?_
 refine AtT.zg ?_
 refine AtT.done ?_
 refine At.nrm ?_
 refine At.lp (ι := Nat) (KS := fun i => [(2, .pointer (some ⟨b2, 0, none⟩)), (3, .pointer (some ⟨b3, 0, none⟩)), (7, iv i)]) (OS := fun _ => [.blk b2 (LC [.slice a s.rows.length c, iv s.most] 24), .blk b3 (LC (pce p) 26)])
  (VS := fun i V' => V' = V1 ∧ T ≤ i ∧ (i : Int) ≤ p.t + p.h ∧ ∀ i' k' : Int, p.t ≤ i' → i' < i → p.l ≤ k' → k' < p.l + p.w → (gdS s).fig i' k' = false) (μ := fun i => (p.t + p.h - (i : Int)).toNat) T ?_ ?_ ?_ ?_
 ·exact ⟨rfl, rfl, ivs hT, trivial⟩
 ·exact Pt.zM
 ·exact ⟨rfl, Nat.le_refl _, by omega, fun i' k' h1 h2 => by omega⟩
 rintro i V' ks' O' ⟨rfl, hTi, hil, hfi⟩ hk hO hl2
 subst hk hO
 refine At.nrm ?_
 refine At.zl (.q 0 (.q 1 (.q 2 (.q 3 (.q 4 (.q 5 (.q 6 .done))))))) ?_
 refine AtT.zh ?_
 first | refine AtT.zi zH ?_ | with_reducible refine AtT.zk zH ?_ | refine AtT.zn zH ?_
 first | refine AtT.zm tk3 ?_ | refine AtT.zo tk3 ?_
 first | refine AtT.zi zy ?_ | with_reducible refine AtT.zk zy ?_ | refine AtT.zn zy ?_
 first | refine AtT.zm tk3 ?_ | refine AtT.zo tk3 ?_
 first | refine AtT.qj ?_ | refine AtT.zU ?_
 refine AtT.zY ?_
 refine AtT.done ?_
 refine At.nrm ?_
 refine At.qc rfl (fun hp => ?_) (fun hp => ?_)
 ·obtain ⟨r, hr⟩ : ∃ r, s.rows[i]? = some r := ⟨_, List.getElem?_eq_getElem (by omega)⟩
  have hrs := hok.sz r (List.mem_of_getElem? hr)
  refine At.nrm ?_
  refine At.zl (.q 0 (.q 1 (.q 2 .done))) ?_
  first | refine AtT.zi zG ?_ | with_reducible refine AtT.zk zG ?_ | refine AtT.zn zG ?_
  first | refine AtT.zm tk3 ?_ | refine AtT.zo tk3 ?_
  refine AtT.zg ?_
  refine AtT.done ?_
  refine At.nrm ?_
  refine At.lp (ι := Nat) (KS := fun k => [(2, .pointer (some ⟨b2, 0, none⟩)), (3, .pointer (some ⟨b3, 0, none⟩)), (7, iv i), (8, iv k)]) (OS := fun _ => [.blk b2 (LC [.slice a s.rows.length c, iv s.most] 24), .blk b3 (LC (pce p) 26)])
   (VS := fun k V2 => V2 = V' ∧ L ≤ k ∧ (k : Int) ≤ p.l + p.w ∧ ∀ k' : Int, p.l ≤ k' → k' < k → (gdS s).fig i k' = false) (μ := fun k => (p.l + p.w - (k : Int)).toNat) L ?_ ?_ ?_ ?_
  ·exact ⟨rfl, rfl, rfl, ivs hL, trivial⟩
  ·exact Pt.zM
  ·exact ⟨rfl, Nat.le_refl _, by omega, fun k' h1 h2 => by omega⟩
  rintro k V2 ks' O' ⟨rfl, hLk, hkl, hfk⟩ hk hO hl3
  subst hk hO
  refine At.nrm ?_
  refine At.zl (.q 0 (.q 1 (.q 2 (.q 3 (.q 4 (.q 5 (.q 6 .done))))))) ?_
  refine AtT.zh ?_
  first | refine AtT.zi zG ?_ | with_reducible refine AtT.zk zG ?_ | refine AtT.zn zG ?_
  first | refine AtT.zm tk3 ?_ | refine AtT.zo tk3 ?_
  first | refine AtT.zi zx ?_ | with_reducible refine AtT.zk zx ?_ | refine AtT.zn zx ?_
  first | refine AtT.zm tk3 ?_ | refine AtT.zo tk3 ?_
  first | refine AtT.qj ?_ | refine AtT.zU ?_
  refine AtT.zY ?_
  refine AtT.done ?_
  refine At.nrm ?_
  refine At.qc rfl (fun hp2 => ?_) (fun hp2 => ?_)
  ·have hfe : (gdS s).fig i k = decide (bv r k = 35) := by
    unfold gdS chS
    dsimp only
    rw [Int.toNat_natCast, Int.toNat_natCast, row_at hr]
   refine At.nrm ?_
   refine At.zl (.q 0 (.q 1 (.q 2 (.q 3 (.q 4 (.q 5 (.q 6 (.q 7 .done)))))))) ?_
   first | refine AtT.zi zw ?_ | with_reducible refine AtT.zk zw ?_ | refine AtT.zn zw ?_
   first | refine AtT.zm zV ?_ | refine AtT.zo zV ?_
   refine AtT.zh ?_
   refine AtT.qo Tryz.underlying22 tk9 ?_
   intro p90 e90 he90 hc90
   obtain rfl : r = e90 := by have : s.rows[i]? = some e90 := (by simpa using he90); rw [hr] at this; simpa using this
   first | refine AtT.zm tk9 ?_ | refine AtT.zo tk9 ?_
   refine AtT.zh ?_
   refine AtT.ixS rfl trivial Tryz.underlying9 rfl rfl (by omega) (by omega) (by decide) ?_
   rw [Int.toNat_natCast]
   refine AtT.keqI ?_
   refine AtT.done ?_
   refine At.nrm ?_
   refine At.qc rfl (fun hb => ?_) (fun hb => ?_)
   ·have hF : hasF (gdS s) p = true := hasF_iff.2 ⟨i, k, by omega, by omega, by omega, by omega, by rw [hfe]; exact decide_eq_true hb⟩
    refine At.nrm ?_
    refine At.zl (.q 0 .done) ?_
    refine AtT.zg ?_
    refine AtT.done ?_
    refine At.nrm ?_
    exact At.qb rfl (.tmp rfl) (by unfold peE; rw [if_neg (by omega), if_pos hF])
   ·refine At.nrm ?_
    refine At.zl (.q 0 (.q 1 (.q 2 .done))) ?_
    refine AtT.zh ?_
    first | refine AtT.qj ?_ | refine AtT.zU ?_
    refine AtT.zg ?_
    refine AtT.done ?_
    refine At.nrm ?_
    refine At.round (k + 1) ?_ ?_ ?_ ?_
    ·show (p.l + p.w - ((k + 1 : Nat) : Int)).toNat < (p.l + p.w - (k : Int)).toNat; omega
    ·refine ⟨rfl, by omega, by omega, fun k' h1 h2 => ?_⟩
     by_cases e : k' = k
     ·subst e; rw [hfe]; exact decide_eq_false hb
     ·exact hfk k' h1 (by omega)
    ·exact ⟨rfl, rfl, rfl, ivs (by omega), trivial⟩
    ·exact Pt.zM
  ·refine At.nrm ?_
   refine At.zl (.q 0 (.q 1 (.q 2 .done))) ?_
   refine AtT.zh ?_
   first | refine AtT.qj ?_ | refine AtT.zU ?_
   refine AtT.zg ?_
   refine AtT.done ?_
   refine At.nrm ?_
   refine At.round (i + 1) ?_ ?_ ?_ ?_
   ·show (p.t + p.h - ((i + 1 : Nat) : Int)).toNat < (p.t + p.h - (i : Int)).toNat; omega
   ·refine ⟨rfl, by omega, by omega, fun i' k' h1 h2 h3 h4 => ?_⟩
    by_cases e : i' = i
    ·subst e; exact hfk k' h3 (by omega)
    ·exact hfi i' k' h1 (by omega) h3 h4
   ·exact ⟨rfl, rfl, ivs (by omega), trivial⟩
   ·exact Pt.zM
 have hF : ¬ hasF (gdS s) p = true := fun hc => by
  obtain ⟨i', k', h1, h2, h3, h4, h5⟩ := hasF_iff.1 hc
  rw [hfi i' k' h1 (by omega) h3 h4] at h5; cases h5
 have hab := ar_bd (h := p.h) (w := p.w) (by omega) (by omega)
 have hfit : Fit (p.h * p.w) := Fit.of (by omega) (by omega)
 refine At.nrm ?_
 refine At.zl (.q 0 (.q 1 (.q 2 (.q 3 (.q 4 (.q 5 (.q 6 (.q 7 .done)))))))) ?_
 first | refine AtT.zi zy ?_ | with_reducible refine AtT.zk zy ?_ | refine AtT.zn zy ?_
 first | refine AtT.zm tk3 ?_ | refine AtT.zo tk3 ?_
 first | refine AtT.zi zx ?_ | with_reducible refine AtT.zk zx ?_ | refine AtT.zn zx ?_
 first | refine AtT.zm tk3 ?_ | refine AtT.zo tk3 ?_
 first | refine AtT.kmul ?_ | refine AtT.kmulW ?_
 first | refine AtT.zi zR ?_ | with_reducible refine AtT.zk zR ?_ | refine AtT.zn zR ?_
 first | refine AtT.zm tk3 ?_ | refine AtT.zo tk3 ?_
 refine AtT.qw ?_
 refine AtT.done ?_
 refine At.nrm ?_
 refine At.qc rfl (fun hb => ?_) (fun hb => ?_)
 ·refine At.nrm ?_
  refine At.zl (.q 0 .done) ?_
  refine AtT.zg ?_
  refine AtT.done ?_
  refine At.nrm ?_
  exact At.qb rfl (.tmp rfl) (by unfold peE arP; rw [if_neg (by omega), if_neg hF, if_pos (by rw [hM]; exact hb)])
 ·refine At.nrm ?_
  refine At.zl (.q 0 .done) ?_
  refine AtT.zg ?_
  refine AtT.done ?_
  refine At.nrm ?_
  exact At.qb rfl (.tmp rfl) (by unfold peE arP; rw [if_neg (by omega), if_neg hF, if_neg (by rw [hM]; exact hb)])
theorem rhas_f (p : Pc) (k : Cl) (hb : -1000 ≤ p.t ∧ p.t ≤ 1000 ∧ -1000 ≤ p.l ∧ p.l ≤ 1000 ∧ -1000 ≤ p.h ∧ p.h ≤ 1000 ∧ -1000 ≤ p.w ∧ p.w ≤ 1000) (V : View) : Fnc Tryz.prog 48 [pcv p, clv k] V fun r _ => r = .bool (decide (inP p k)) := by
 refine qh Tryz.func48 rfl Tryz.ntmps48 (Nat.le_of_ble_eq_true rfl) ?_
 intro w0 hw0
 refine At.nrm ?_
 refine At.zl (.n false 0 (.n false 1 (.q 2 .done))) ?_
 refine AtT.qZ ?_
 intro b2
 refine AtT.qZ ?_
 intro b3
 refine AtT.zg ?_
 refine AtT.done ?_
 refine At.nrm ?_
 by_cases c1 : p.t ≤ k.r
 rotate_left
 ·refine At.zl (.q 0 (.q 1 (.q 2 (.q 3 (.q 4 (.q 5 (.q 6 (.q 7 (.q 8 (.q 9 (.q 10 (.q 11 (.q 12 (.q 13 (.q 14 (.q 15 (.q 16 (.q 17 (.q 18 (.q 19 (.q 20 (.q 21 (.q 22 (.q 23 (.q 24 (.q 25 (.q 26 (.q 27 (.q 28 (.q 29 (.q 30 (.q 31 (.q 32 .done))))))))))))))))))))))))))))))))) ?_
  first | refine AtT.zi qN ?_ | with_reducible refine AtT.zk qN ?_ | refine AtT.zn qN ?_
  first | refine AtT.zm tk3 ?_ | refine AtT.zo tk3 ?_
  first | refine AtT.zi zH ?_ | with_reducible refine AtT.zk zH ?_ | refine AtT.zn zH ?_
  first | refine AtT.zm tk3 ?_ | refine AtT.zo tk3 ?_
  refine AtT.kgeq ?_
  refine AtT.qm (d := 9) rfl (c1) ?_
  refine AtT.zh ?_
  all_goals (first | refine AtT.kL 10 ?_ | refine AtT.zB (d := 10) rfl (fun hg10 => ?_) (fun hg10 => ?_) | refine AtT.zA (d := 10) rfl (fun hg10 => ?_) (fun hg10 => ?_))
  all_goals first|refine AtT.zf ?_|refine AtT.ze ?_|(first | refine AtT.zi qN ?_ | with_reducible refine AtT.zk qN ?_ | refine AtT.zn qN ?_)
  all_goals first|refine AtT.zf ?_|refine AtT.ze ?_|(first | refine AtT.zm tk3 ?_ | refine AtT.zo tk3 ?_)
  all_goals first|refine AtT.zf ?_|refine AtT.ze ?_|(first | refine AtT.zi zH ?_ | with_reducible refine AtT.zk zH ?_ | refine AtT.zn zH ?_)
  all_goals first|refine AtT.zf ?_|refine AtT.ze ?_|(first | refine AtT.zm tk3 ?_ | refine AtT.zo tk3 ?_)
  all_goals first|refine AtT.zf ?_|refine AtT.ze ?_|(first | refine AtT.zi zy ?_ | with_reducible refine AtT.zk zy ?_ | refine AtT.zn zy ?_)
  all_goals first|refine AtT.zf ?_|refine AtT.ze ?_|(first | refine AtT.zm tk3 ?_ | refine AtT.zo tk3 ?_)
  all_goals first|refine AtT.zf ?_|refine AtT.ze ?_|(first | refine AtT.qj ?_ | refine AtT.zU ?_)
  all_goals first|refine AtT.zf ?_|refine AtT.ze ?_|(refine AtT.zY ?_)
  all_goals (refine AtT.zz ?_)
  all_goals (refine AtT.zh ?_)
  all_goals (first | refine AtT.kL 20 ?_ | refine AtT.zB (d := 20) rfl (fun hg20 => ?_) (fun hg20 => ?_) | refine AtT.zA (d := 20) rfl (fun hg20 => ?_) (fun hg20 => ?_))
  all_goals first|refine AtT.zf ?_|refine AtT.ze ?_|(first | refine AtT.zi qM ?_ | with_reducible refine AtT.zk qM ?_ | refine AtT.zn qM ?_)
  all_goals first|refine AtT.zf ?_|refine AtT.ze ?_|(first | refine AtT.zm tk3 ?_ | refine AtT.zo tk3 ?_)
  all_goals first|refine AtT.zf ?_|refine AtT.ze ?_|(first | refine AtT.zi zG ?_ | with_reducible refine AtT.zk zG ?_ | refine AtT.zn zG ?_)
  all_goals first|refine AtT.zf ?_|refine AtT.ze ?_|(first | refine AtT.zm tk3 ?_ | refine AtT.zo tk3 ?_)
  all_goals first|refine AtT.zf ?_|refine AtT.ze ?_|(refine AtT.kgeq ?_)
  all_goals (refine AtT.zz ?_)
  all_goals (refine AtT.zh ?_)
  all_goals (first | refine AtT.kL 27 ?_ | refine AtT.zB (d := 27) rfl (fun hg27 => ?_) (fun hg27 => ?_) | refine AtT.zA (d := 27) rfl (fun hg27 => ?_) (fun hg27 => ?_))
  all_goals first|refine AtT.zf ?_|refine AtT.ze ?_|(first | refine AtT.zi qM ?_ | with_reducible refine AtT.zk qM ?_ | refine AtT.zn qM ?_)
  all_goals first|refine AtT.zf ?_|refine AtT.ze ?_|(first | refine AtT.zm tk3 ?_ | refine AtT.zo tk3 ?_)
  all_goals first|refine AtT.zf ?_|refine AtT.ze ?_|(first | refine AtT.zi zG ?_ | with_reducible refine AtT.zk zG ?_ | refine AtT.zn zG ?_)
  all_goals first|refine AtT.zf ?_|refine AtT.ze ?_|(first | refine AtT.zm tk3 ?_ | refine AtT.zo tk3 ?_)
  all_goals first|refine AtT.zf ?_|refine AtT.ze ?_|(first | refine AtT.zi zx ?_ | with_reducible refine AtT.zk zx ?_ | refine AtT.zn zx ?_)
  all_goals first|refine AtT.zf ?_|refine AtT.ze ?_|(first | refine AtT.zm tk3 ?_ | refine AtT.zo tk3 ?_)
  all_goals first|refine AtT.zf ?_|refine AtT.ze ?_|(first | refine AtT.qj ?_ | refine AtT.zU ?_)
  all_goals first|refine AtT.zf ?_|refine AtT.ze ?_|(refine AtT.zY ?_)
  all_goals (refine AtT.zz ?_)
  all_goals (refine AtT.zg ?_)
  all_goals refine AtT.done ?_
  all_goals (refine At.nrm ?_)
  exact At.qb rfl (.tmp rfl) (by rw [decide_eq_false (fun h => c1 h.1)]; rfl)
 by_cases c2 : k.r < p.t + p.h
 rotate_left
 ·refine At.zl (.q 0 (.q 1 (.q 2 (.q 3 (.q 4 (.q 5 (.q 6 (.q 7 (.q 8 (.q 9 (.q 10 (.q 11 (.q 12 (.q 13 (.q 14 (.q 15 (.q 16 (.q 17 (.q 18 (.q 19 (.q 20 (.q 21 (.q 22 (.q 23 (.q 24 (.q 25 (.q 26 (.q 27 (.q 28 (.q 29 (.q 30 (.q 31 (.q 32 .done))))))))))))))))))))))))))))))))) ?_
  first | refine AtT.zi qN ?_ | with_reducible refine AtT.zk qN ?_ | refine AtT.zn qN ?_
  first | refine AtT.zm tk3 ?_ | refine AtT.zo tk3 ?_
  first | refine AtT.zi zH ?_ | with_reducible refine AtT.zk zH ?_ | refine AtT.zn zH ?_
  first | refine AtT.zm tk3 ?_ | refine AtT.zo tk3 ?_
  refine AtT.kgeq ?_
  refine AtT.qJ (d := 9) rfl (c1) ?_
  refine AtT.zh ?_
  all_goals (first | refine AtT.kL 10 ?_ | refine AtT.zB (d := 10) rfl (fun hg10 => ?_) (fun hg10 => ?_) | refine AtT.zA (d := 10) rfl (fun hg10 => ?_) (fun hg10 => ?_))
  all_goals first|refine AtT.zf ?_|refine AtT.ze ?_|(first | refine AtT.zi qN ?_ | with_reducible refine AtT.zk qN ?_ | refine AtT.zn qN ?_)
  all_goals first|refine AtT.zf ?_|refine AtT.ze ?_|(first | refine AtT.zm tk3 ?_ | refine AtT.zo tk3 ?_)
  all_goals first|refine AtT.zf ?_|refine AtT.ze ?_|(first | refine AtT.zi zH ?_ | with_reducible refine AtT.zk zH ?_ | refine AtT.zn zH ?_)
  all_goals first|refine AtT.zf ?_|refine AtT.ze ?_|(first | refine AtT.zm tk3 ?_ | refine AtT.zo tk3 ?_)
  all_goals first|refine AtT.zf ?_|refine AtT.ze ?_|(first | refine AtT.zi zy ?_ | with_reducible refine AtT.zk zy ?_ | refine AtT.zn zy ?_)
  all_goals first|refine AtT.zf ?_|refine AtT.ze ?_|(first | refine AtT.zm tk3 ?_ | refine AtT.zo tk3 ?_)
  all_goals first|refine AtT.zf ?_|refine AtT.ze ?_|(first | refine AtT.qj ?_ | refine AtT.zU ?_)
  all_goals first|refine AtT.zf ?_|refine AtT.ze ?_|(refine AtT.zY ?_)
  all_goals (refine AtT.qm (d := 18) rfl (c2) ?_)
  all_goals (refine AtT.zz ?_)
  all_goals (refine AtT.zh ?_)
  all_goals (first | refine AtT.kL 20 ?_ | refine AtT.zB (d := 20) rfl (fun hg20 => ?_) (fun hg20 => ?_) | refine AtT.zA (d := 20) rfl (fun hg20 => ?_) (fun hg20 => ?_))
  all_goals first|refine AtT.zf ?_|refine AtT.ze ?_|(first | refine AtT.zi qM ?_ | with_reducible refine AtT.zk qM ?_ | refine AtT.zn qM ?_)
  all_goals first|refine AtT.zf ?_|refine AtT.ze ?_|(first | refine AtT.zm tk3 ?_ | refine AtT.zo tk3 ?_)
  all_goals first|refine AtT.zf ?_|refine AtT.ze ?_|(first | refine AtT.zi zG ?_ | with_reducible refine AtT.zk zG ?_ | refine AtT.zn zG ?_)
  all_goals first|refine AtT.zf ?_|refine AtT.ze ?_|(first | refine AtT.zm tk3 ?_ | refine AtT.zo tk3 ?_)
  all_goals first|refine AtT.zf ?_|refine AtT.ze ?_|(refine AtT.kgeq ?_)
  all_goals (refine AtT.zz ?_)
  all_goals (refine AtT.zh ?_)
  all_goals (first | refine AtT.kL 27 ?_ | refine AtT.zB (d := 27) rfl (fun hg27 => ?_) (fun hg27 => ?_) | refine AtT.zA (d := 27) rfl (fun hg27 => ?_) (fun hg27 => ?_))
  all_goals first|refine AtT.zf ?_|refine AtT.ze ?_|(first | refine AtT.zi qM ?_ | with_reducible refine AtT.zk qM ?_ | refine AtT.zn qM ?_)
  all_goals first|refine AtT.zf ?_|refine AtT.ze ?_|(first | refine AtT.zm tk3 ?_ | refine AtT.zo tk3 ?_)
  all_goals first|refine AtT.zf ?_|refine AtT.ze ?_|(first | refine AtT.zi zG ?_ | with_reducible refine AtT.zk zG ?_ | refine AtT.zn zG ?_)
  all_goals first|refine AtT.zf ?_|refine AtT.ze ?_|(first | refine AtT.zm tk3 ?_ | refine AtT.zo tk3 ?_)
  all_goals first|refine AtT.zf ?_|refine AtT.ze ?_|(first | refine AtT.zi zx ?_ | with_reducible refine AtT.zk zx ?_ | refine AtT.zn zx ?_)
  all_goals first|refine AtT.zf ?_|refine AtT.ze ?_|(first | refine AtT.zm tk3 ?_ | refine AtT.zo tk3 ?_)
  all_goals first|refine AtT.zf ?_|refine AtT.ze ?_|(first | refine AtT.qj ?_ | refine AtT.zU ?_)
  all_goals first|refine AtT.zf ?_|refine AtT.ze ?_|(refine AtT.zY ?_)
  all_goals (refine AtT.zz ?_)
  all_goals (refine AtT.zg ?_)
  all_goals refine AtT.done ?_
  all_goals (refine At.nrm ?_)
  exact At.qb rfl (.tmp rfl) (by rw [decide_eq_false (fun h => c2 h.2.1)]; rfl)
 by_cases c3 : p.l ≤ k.c
 rotate_left
 ·refine At.zl (.q 0 (.q 1 (.q 2 (.q 3 (.q 4 (.q 5 (.q 6 (.q 7 (.q 8 (.q 9 (.q 10 (.q 11 (.q 12 (.q 13 (.q 14 (.q 15 (.q 16 (.q 17 (.q 18 (.q 19 (.q 20 (.q 21 (.q 22 (.q 23 (.q 24 (.q 25 (.q 26 (.q 27 (.q 28 (.q 29 (.q 30 (.q 31 (.q 32 .done))))))))))))))))))))))))))))))))) ?_
  first | refine AtT.zi qN ?_ | with_reducible refine AtT.zk qN ?_ | refine AtT.zn qN ?_
  first | refine AtT.zm tk3 ?_ | refine AtT.zo tk3 ?_
  first | refine AtT.zi zH ?_ | with_reducible refine AtT.zk zH ?_ | refine AtT.zn zH ?_
  first | refine AtT.zm tk3 ?_ | refine AtT.zo tk3 ?_
  refine AtT.kgeq ?_
  refine AtT.qJ (d := 9) rfl (c1) ?_
  refine AtT.zh ?_
  all_goals (first | refine AtT.kL 10 ?_ | refine AtT.zB (d := 10) rfl (fun hg10 => ?_) (fun hg10 => ?_) | refine AtT.zA (d := 10) rfl (fun hg10 => ?_) (fun hg10 => ?_))
  all_goals first|refine AtT.zf ?_|refine AtT.ze ?_|(first | refine AtT.zi qN ?_ | with_reducible refine AtT.zk qN ?_ | refine AtT.zn qN ?_)
  all_goals first|refine AtT.zf ?_|refine AtT.ze ?_|(first | refine AtT.zm tk3 ?_ | refine AtT.zo tk3 ?_)
  all_goals first|refine AtT.zf ?_|refine AtT.ze ?_|(first | refine AtT.zi zH ?_ | with_reducible refine AtT.zk zH ?_ | refine AtT.zn zH ?_)
  all_goals first|refine AtT.zf ?_|refine AtT.ze ?_|(first | refine AtT.zm tk3 ?_ | refine AtT.zo tk3 ?_)
  all_goals first|refine AtT.zf ?_|refine AtT.ze ?_|(first | refine AtT.zi zy ?_ | with_reducible refine AtT.zk zy ?_ | refine AtT.zn zy ?_)
  all_goals first|refine AtT.zf ?_|refine AtT.ze ?_|(first | refine AtT.zm tk3 ?_ | refine AtT.zo tk3 ?_)
  all_goals first|refine AtT.zf ?_|refine AtT.ze ?_|(first | refine AtT.qj ?_ | refine AtT.zU ?_)
  all_goals first|refine AtT.zf ?_|refine AtT.ze ?_|(refine AtT.zY ?_)
  all_goals (refine AtT.qJ (d := 18) rfl (c2) ?_)
  all_goals (refine AtT.zz ?_)
  all_goals (refine AtT.zh ?_)
  all_goals (first | refine AtT.kL 20 ?_ | refine AtT.zB (d := 20) rfl (fun hg20 => ?_) (fun hg20 => ?_) | refine AtT.zA (d := 20) rfl (fun hg20 => ?_) (fun hg20 => ?_))
  all_goals first|refine AtT.zf ?_|refine AtT.ze ?_|(first | refine AtT.zi qM ?_ | with_reducible refine AtT.zk qM ?_ | refine AtT.zn qM ?_)
  all_goals first|refine AtT.zf ?_|refine AtT.ze ?_|(first | refine AtT.zm tk3 ?_ | refine AtT.zo tk3 ?_)
  all_goals first|refine AtT.zf ?_|refine AtT.ze ?_|(first | refine AtT.zi zG ?_ | with_reducible refine AtT.zk zG ?_ | refine AtT.zn zG ?_)
  all_goals first|refine AtT.zf ?_|refine AtT.ze ?_|(first | refine AtT.zm tk3 ?_ | refine AtT.zo tk3 ?_)
  all_goals first|refine AtT.zf ?_|refine AtT.ze ?_|(refine AtT.kgeq ?_)
  all_goals (refine AtT.qm (d := 25) rfl (c3) ?_)
  all_goals (refine AtT.zz ?_)
  all_goals (refine AtT.zh ?_)
  all_goals (first | refine AtT.kL 27 ?_ | refine AtT.zB (d := 27) rfl (fun hg27 => ?_) (fun hg27 => ?_) | refine AtT.zA (d := 27) rfl (fun hg27 => ?_) (fun hg27 => ?_))
  all_goals first|refine AtT.zf ?_|refine AtT.ze ?_|(first | refine AtT.zi qM ?_ | with_reducible refine AtT.zk qM ?_ | refine AtT.zn qM ?_)
  all_goals first|refine AtT.zf ?_|refine AtT.ze ?_|(first | refine AtT.zm tk3 ?_ | refine AtT.zo tk3 ?_)
  all_goals first|refine AtT.zf ?_|refine AtT.ze ?_|(first | refine AtT.zi zG ?_ | with_reducible refine AtT.zk zG ?_ | refine AtT.zn zG ?_)
  all_goals first|refine AtT.zf ?_|refine AtT.ze ?_|(first | refine AtT.zm tk3 ?_ | refine AtT.zo tk3 ?_)
  all_goals first|refine AtT.zf ?_|refine AtT.ze ?_|(first | refine AtT.zi zx ?_ | with_reducible refine AtT.zk zx ?_ | refine AtT.zn zx ?_)
  all_goals first|refine AtT.zf ?_|refine AtT.ze ?_|(first | refine AtT.zm tk3 ?_ | refine AtT.zo tk3 ?_)
  all_goals first|refine AtT.zf ?_|refine AtT.ze ?_|(first | refine AtT.qj ?_ | refine AtT.zU ?_)
  all_goals first|refine AtT.zf ?_|refine AtT.ze ?_|(refine AtT.zY ?_)
  all_goals (refine AtT.zz ?_)
  all_goals (refine AtT.zg ?_)
  all_goals refine AtT.done ?_
  all_goals (refine At.nrm ?_)
  exact At.qb rfl (.tmp rfl) (by rw [decide_eq_false (fun h => c3 h.2.2.1)]; rfl)
 by_cases c4 : k.c < p.l + p.w
 rotate_left
 ·refine At.zl (.q 0 (.q 1 (.q 2 (.q 3 (.q 4 (.q 5 (.q 6 (.q 7 (.q 8 (.q 9 (.q 10 (.q 11 (.q 12 (.q 13 (.q 14 (.q 15 (.q 16 (.q 17 (.q 18 (.q 19 (.q 20 (.q 21 (.q 22 (.q 23 (.q 24 (.q 25 (.q 26 (.q 27 (.q 28 (.q 29 (.q 30 (.q 31 (.q 32 .done))))))))))))))))))))))))))))))))) ?_
  first | refine AtT.zi qN ?_ | with_reducible refine AtT.zk qN ?_ | refine AtT.zn qN ?_
  first | refine AtT.zm tk3 ?_ | refine AtT.zo tk3 ?_
  first | refine AtT.zi zH ?_ | with_reducible refine AtT.zk zH ?_ | refine AtT.zn zH ?_
  first | refine AtT.zm tk3 ?_ | refine AtT.zo tk3 ?_
  refine AtT.kgeq ?_
  refine AtT.qJ (d := 9) rfl (c1) ?_
  refine AtT.zh ?_
  all_goals (first | refine AtT.kL 10 ?_ | refine AtT.zB (d := 10) rfl (fun hg10 => ?_) (fun hg10 => ?_) | refine AtT.zA (d := 10) rfl (fun hg10 => ?_) (fun hg10 => ?_))
  all_goals first|refine AtT.zf ?_|refine AtT.ze ?_|(first | refine AtT.zi qN ?_ | with_reducible refine AtT.zk qN ?_ | refine AtT.zn qN ?_)
  all_goals first|refine AtT.zf ?_|refine AtT.ze ?_|(first | refine AtT.zm tk3 ?_ | refine AtT.zo tk3 ?_)
  all_goals first|refine AtT.zf ?_|refine AtT.ze ?_|(first | refine AtT.zi zH ?_ | with_reducible refine AtT.zk zH ?_ | refine AtT.zn zH ?_)
  all_goals first|refine AtT.zf ?_|refine AtT.ze ?_|(first | refine AtT.zm tk3 ?_ | refine AtT.zo tk3 ?_)
  all_goals first|refine AtT.zf ?_|refine AtT.ze ?_|(first | refine AtT.zi zy ?_ | with_reducible refine AtT.zk zy ?_ | refine AtT.zn zy ?_)
  all_goals first|refine AtT.zf ?_|refine AtT.ze ?_|(first | refine AtT.zm tk3 ?_ | refine AtT.zo tk3 ?_)
  all_goals first|refine AtT.zf ?_|refine AtT.ze ?_|(first | refine AtT.qj ?_ | refine AtT.zU ?_)
  all_goals first|refine AtT.zf ?_|refine AtT.ze ?_|(refine AtT.zY ?_)
  all_goals (refine AtT.qJ (d := 18) rfl (c2) ?_)
  all_goals (refine AtT.zz ?_)
  all_goals (refine AtT.zh ?_)
  all_goals (first | refine AtT.kL 20 ?_ | refine AtT.zB (d := 20) rfl (fun hg20 => ?_) (fun hg20 => ?_) | refine AtT.zA (d := 20) rfl (fun hg20 => ?_) (fun hg20 => ?_))
  all_goals first|refine AtT.zf ?_|refine AtT.ze ?_|(first | refine AtT.zi qM ?_ | with_reducible refine AtT.zk qM ?_ | refine AtT.zn qM ?_)
  all_goals first|refine AtT.zf ?_|refine AtT.ze ?_|(first | refine AtT.zm tk3 ?_ | refine AtT.zo tk3 ?_)
  all_goals first|refine AtT.zf ?_|refine AtT.ze ?_|(first | refine AtT.zi zG ?_ | with_reducible refine AtT.zk zG ?_ | refine AtT.zn zG ?_)
  all_goals first|refine AtT.zf ?_|refine AtT.ze ?_|(first | refine AtT.zm tk3 ?_ | refine AtT.zo tk3 ?_)
  all_goals first|refine AtT.zf ?_|refine AtT.ze ?_|(refine AtT.kgeq ?_)
  all_goals (refine AtT.qJ (d := 25) rfl (c3) ?_)
  all_goals (refine AtT.zz ?_)
  all_goals (refine AtT.zh ?_)
  all_goals (first | refine AtT.kL 27 ?_ | refine AtT.zB (d := 27) rfl (fun hg27 => ?_) (fun hg27 => ?_) | refine AtT.zA (d := 27) rfl (fun hg27 => ?_) (fun hg27 => ?_))
  all_goals first|refine AtT.zf ?_|refine AtT.ze ?_|(first | refine AtT.zi qM ?_ | with_reducible refine AtT.zk qM ?_ | refine AtT.zn qM ?_)
  all_goals first|refine AtT.zf ?_|refine AtT.ze ?_|(first | refine AtT.zm tk3 ?_ | refine AtT.zo tk3 ?_)
  all_goals first|refine AtT.zf ?_|refine AtT.ze ?_|(first | refine AtT.zi zG ?_ | with_reducible refine AtT.zk zG ?_ | refine AtT.zn zG ?_)
  all_goals first|refine AtT.zf ?_|refine AtT.ze ?_|(first | refine AtT.zm tk3 ?_ | refine AtT.zo tk3 ?_)
  all_goals first|refine AtT.zf ?_|refine AtT.ze ?_|(first | refine AtT.zi zx ?_ | with_reducible refine AtT.zk zx ?_ | refine AtT.zn zx ?_)
  all_goals first|refine AtT.zf ?_|refine AtT.ze ?_|(first | refine AtT.zm tk3 ?_ | refine AtT.zo tk3 ?_)
  all_goals first|refine AtT.zf ?_|refine AtT.ze ?_|(first | refine AtT.qj ?_ | refine AtT.zU ?_)
  all_goals first|refine AtT.zf ?_|refine AtT.ze ?_|(refine AtT.zY ?_)
  all_goals (refine AtT.qm (d := 35) rfl (c4) ?_)
  all_goals (refine AtT.zz ?_)
  all_goals (refine AtT.zg ?_)
  all_goals refine AtT.done ?_
  all_goals (refine At.nrm ?_)
  exact At.qb rfl (.tmp rfl) (by rw [decide_eq_false (fun h => c4 h.2.2.2)]; rfl)
 refine At.zl (.q 0 (.q 1 (.q 2 (.q 3 (.q 4 (.q 5 (.q 6 (.q 7 (.q 8 (.q 9 (.q 10 (.q 11 (.q 12 (.q 13 (.q 14 (.q 15 (.q 16 (.q 17 (.q 18 (.q 19 (.q 20 (.q 21 (.q 22 (.q 23 (.q 24 (.q 25 (.q 26 (.q 27 (.q 28 (.q 29 (.q 30 (.q 31 (.q 32 .done))))))))))))))))))))))))))))))))) ?_
 first | refine AtT.zi qN ?_ | with_reducible refine AtT.zk qN ?_ | refine AtT.zn qN ?_
 first | refine AtT.zm tk3 ?_ | refine AtT.zo tk3 ?_
 first | refine AtT.zi zH ?_ | with_reducible refine AtT.zk zH ?_ | refine AtT.zn zH ?_
 first | refine AtT.zm tk3 ?_ | refine AtT.zo tk3 ?_
 refine AtT.kgeq ?_
 refine AtT.qJ (d := 9) rfl (c1) ?_
 refine AtT.zh ?_
 all_goals (first | refine AtT.kL 10 ?_ | refine AtT.zB (d := 10) rfl (fun hg10 => ?_) (fun hg10 => ?_) | refine AtT.zA (d := 10) rfl (fun hg10 => ?_) (fun hg10 => ?_))
 all_goals first|refine AtT.zf ?_|refine AtT.ze ?_|(first | refine AtT.zi qN ?_ | with_reducible refine AtT.zk qN ?_ | refine AtT.zn qN ?_)
 all_goals first|refine AtT.zf ?_|refine AtT.ze ?_|(first | refine AtT.zm tk3 ?_ | refine AtT.zo tk3 ?_)
 all_goals first|refine AtT.zf ?_|refine AtT.ze ?_|(first | refine AtT.zi zH ?_ | with_reducible refine AtT.zk zH ?_ | refine AtT.zn zH ?_)
 all_goals first|refine AtT.zf ?_|refine AtT.ze ?_|(first | refine AtT.zm tk3 ?_ | refine AtT.zo tk3 ?_)
 all_goals first|refine AtT.zf ?_|refine AtT.ze ?_|(first | refine AtT.zi zy ?_ | with_reducible refine AtT.zk zy ?_ | refine AtT.zn zy ?_)
 all_goals first|refine AtT.zf ?_|refine AtT.ze ?_|(first | refine AtT.zm tk3 ?_ | refine AtT.zo tk3 ?_)
 all_goals first|refine AtT.zf ?_|refine AtT.ze ?_|(first | refine AtT.qj ?_ | refine AtT.zU ?_)
 all_goals first|refine AtT.zf ?_|refine AtT.ze ?_|(refine AtT.zY ?_)
 all_goals (refine AtT.qJ (d := 18) rfl (c2) ?_)
 all_goals (refine AtT.zz ?_)
 all_goals (refine AtT.zh ?_)
 all_goals (first | refine AtT.kL 20 ?_ | refine AtT.zB (d := 20) rfl (fun hg20 => ?_) (fun hg20 => ?_) | refine AtT.zA (d := 20) rfl (fun hg20 => ?_) (fun hg20 => ?_))
 all_goals first|refine AtT.zf ?_|refine AtT.ze ?_|(first | refine AtT.zi qM ?_ | with_reducible refine AtT.zk qM ?_ | refine AtT.zn qM ?_)
 all_goals first|refine AtT.zf ?_|refine AtT.ze ?_|(first | refine AtT.zm tk3 ?_ | refine AtT.zo tk3 ?_)
 all_goals first|refine AtT.zf ?_|refine AtT.ze ?_|(first | refine AtT.zi zG ?_ | with_reducible refine AtT.zk zG ?_ | refine AtT.zn zG ?_)
 all_goals first|refine AtT.zf ?_|refine AtT.ze ?_|(first | refine AtT.zm tk3 ?_ | refine AtT.zo tk3 ?_)
 all_goals first|refine AtT.zf ?_|refine AtT.ze ?_|(refine AtT.kgeq ?_)
 all_goals (refine AtT.qJ (d := 25) rfl (c3) ?_)
 all_goals (refine AtT.zz ?_)
 all_goals (refine AtT.zh ?_)
 all_goals (first | refine AtT.kL 27 ?_ | refine AtT.zB (d := 27) rfl (fun hg27 => ?_) (fun hg27 => ?_) | refine AtT.zA (d := 27) rfl (fun hg27 => ?_) (fun hg27 => ?_))
 all_goals first|refine AtT.zf ?_|refine AtT.ze ?_|(first | refine AtT.zi qM ?_ | with_reducible refine AtT.zk qM ?_ | refine AtT.zn qM ?_)
 all_goals first|refine AtT.zf ?_|refine AtT.ze ?_|(first | refine AtT.zm tk3 ?_ | refine AtT.zo tk3 ?_)
 all_goals first|refine AtT.zf ?_|refine AtT.ze ?_|(first | refine AtT.zi zG ?_ | with_reducible refine AtT.zk zG ?_ | refine AtT.zn zG ?_)
 all_goals first|refine AtT.zf ?_|refine AtT.ze ?_|(first | refine AtT.zm tk3 ?_ | refine AtT.zo tk3 ?_)
 all_goals first|refine AtT.zf ?_|refine AtT.ze ?_|(first | refine AtT.zi zx ?_ | with_reducible refine AtT.zk zx ?_ | refine AtT.zn zx ?_)
 all_goals first|refine AtT.zf ?_|refine AtT.ze ?_|(first | refine AtT.zm tk3 ?_ | refine AtT.zo tk3 ?_)
 all_goals first|refine AtT.zf ?_|refine AtT.ze ?_|(first | refine AtT.qj ?_ | refine AtT.zU ?_)
 all_goals first|refine AtT.zf ?_|refine AtT.ze ?_|(refine AtT.zY ?_)
 all_goals (refine AtT.qJ (d := 35) rfl (c4) ?_)
 all_goals (refine AtT.zz ?_)
 all_goals (refine AtT.zg ?_)
 all_goals refine AtT.done ?_
 all_goals (refine At.nrm ?_)
 exact At.qb rfl (.tmp rfl) (by rw [decide_eq_true ⟨c1, c2, c3, c4⟩]; rfl)
end Go.Proofs.YtghomjjffllkeaaGreatDoor
set_option linter.unusedVariables false
namespace Go.Pm
open Go.Gl Go.Lw
def fgP (rows : List ByteArray) (C i k : Nat) : List Int := (List.range 49).map fun j => if (j / 7 ≤ i ∨ (j / 7 = i + 1 ∧ j % 7 ≤ k)) ∧ j % 7 ≤ C then fgN rows (j / 7) (j % 7) else 0
theorem fgP_len (rows : List ByteArray) (C i k : Nat) : (fgP rows C i k).length = 49 := by unfold fgP; simp
theorem fgP_get (rows : List ByteArray) (C i k j : Nat) : (fgP rows C i k)[j]? = if j < 49 then some (if (j / 7 ≤ i ∨ (j / 7 = i + 1 ∧ j % 7 ≤ k)) ∧ j % 7 ≤ C then fgN rows (j / 7) (j % 7) else 0) else none := by
 unfold fgP
 rw [List.getElem?_map]
 by_cases h : j < 49
 ·rw [if_pos h, List.getElem?_range h]; rfl
 ·rw [if_neg h, List.getElem?_eq_none (by simp; omega)]; rfl
theorem fgP_at (rows : List ByteArray) {C i k a b : Nat} (ha : a ≤ 6) (hb : b ≤ 6) (h : a ≤ i ∨ (a = i + 1 ∧ b ≤ k)) (hC : b ≤ C) : (fgP rows C i k)[a * 7 + b]? = some (fgN rows a b) := by
 rw [fgP_get, if_pos (by omega)]
 have e1 : (a * 7 + b) / 7 = a := by omega
 have e2 : (a * 7 + b) % 7 = b := by omega
 rw [e1, e2, if_pos ⟨h, hC⟩]
theorem fgP_start (rows : List ByteArray) (C : Nat) : fgP rows C 0 0 = List.replicate 49 0 := by
 apply List.ext_getElem?
 intro j
 rw [fgP_get, List.getElem?_replicate]
 by_cases h : j < 49
 ·rw [if_pos h, if_pos h]
  split
  ·rename_i hc
   rcases hc.1 with h1 | ⟨h1, h2⟩
   ·rw [show j / 7 = 0 by omega]; rfl
   ·rw [show j % 7 = 0 by omega, fgN_z]
  ·rfl
 ·rw [if_neg h, if_neg h]
theorem fgP_step (rows : List ByteArray) {C i k : Nat} (hk : k < C) (hC : C ≤ 6) (hi : i < 6) : (fgP rows C i k).set ((i + 1) * 7 + (k + 1)) (fgN rows (i + 1) (k + 1)) = fgP rows C i (k + 1) := by
 apply List.ext_getElem?
 intro j
 rw [List.getElem?_set, fgP_len]
 by_cases e : (i + 1) * 7 + (k + 1) = j
 ·subst e
  rw [if_pos rfl, if_pos (by omega), fgP_at rows (by omega) (by omega) (.inr ⟨rfl, Nat.le_refl _⟩) (by omega)]
 ·rw [if_neg e, fgP_get, fgP_get]
  by_cases h : j < 49
  ·rw [if_pos h, if_pos h]
   congr 1
   have : (((j / 7 ≤ i ∨ j / 7 = i + 1 ∧ j % 7 ≤ k) ∧ j % 7 ≤ C)) ↔ (((j / 7 ≤ i ∨ j / 7 = i + 1 ∧ j % 7 ≤ k + 1) ∧ j % 7 ≤ C)) := by omega
   simp only [this]
  ·rw [if_neg h, if_neg h]
theorem fgP_row (rows : List ByteArray) (C i : Nat) : fgP rows C i C = fgP rows C (i + 1) 0 := by
 apply List.ext_getElem?
 intro j
 rw [fgP_get, fgP_get]
 by_cases h : j < 49
 ·rw [if_pos h, if_pos h]
  congr 1
  by_cases c : j / 7 = i + 2 ∧ j % 7 = 0
  ·rw [if_neg (by omega), if_pos (by omega), c.2, fgN_z]
  ·have : (((j / 7 ≤ i ∨ j / 7 = i + 1 ∧ j % 7 ≤ C) ∧ j % 7 ≤ C)) ↔ (((j / 7 ≤ i + 1 ∨ j / 7 = i + 1 + 1 ∧ j % 7 ≤ 0) ∧ j % 7 ≤ C)) := by omega
   simp only [this]
 ·rw [if_neg h, if_neg h]
def fgF (s : Sh) : List Int := fgP s.rows (wdS s) s.rows.length 0
theorem fgF_len (s : Sh) : (fgF s).length = 49 := fgP_len _ _ _ _
theorem fgF_at (s : Sh) {a b : Nat} (ha : a ≤ 6) (hb : b ≤ 6) (h : a ≤ s.rows.length) (hC : b ≤ wdS s) : (fgF s)[a * 7 + b]? = some (fgN s.rows a b) := fgP_at _ ha hb (.inl h) hC
theorem fgF_zero {s : Sh} (hok : ShOk s) (h : fgF s = List.replicate 49 0) {p : Pc} (h0 : 0 ≤ p.t) (h1 : 0 ≤ p.l) (h2 : 0 ≤ p.h) (h3 : 0 ≤ p.w) (hR : p.t + p.h ≤ s.rows.length) (hC : p.l + p.w ≤ wdS s) : hasF (gdS s) p = false := by
 have hn := hok.n
 have hw := hok.w
 have hz : ∀ a b : Nat, a ≤ s.rows.length → b ≤ wdS s → fgN s.rows a b = 0 := fun a b ha hb => by
  have e := fgF_at s (a := a) (b := b) (by omega) (by omega) ha hb
  rw [h, List.getElem?_replicate] at e
  split at e
  ·exact (Option.some.inj e).symm
  ·cases e
 cases c : hasF (gdS s) p with
 | false => rfl
 | true =>
  have := (fig_sums h0 h1 h2 h3).2 c
  rw [hz _ _ (by omega) (by omega), hz _ _ (by omega) (by omega), hz _ _ (by omega) (by omega), hz _ _ (by omega) (by omega)] at this
  omega
theorem fgN_le {s : Sh} (hok : ShOk s) {a b : Nat} (ha : a ≤ s.rows.length) (hb : b ≤ wdS s) : 0 ≤ fgN s.rows a b ∧ fgN s.rows a b ≤ 36 := by
 have hn := hok.n
 have hw := hok.w
 have h := fgN_bd s.rows b a
 refine ⟨h.1, Int.le_trans h.2 ?_⟩
 have : (a : Int) * b ≤ 6 * 6 := Int.mul_le_mul (by omega) (by omega) (by omega) (by omega)
 omega
end Go.Pm
namespace Go.Lw
section
variable {cx : Cx} {n : Nat} {ks : List (Nat × Value)} {O O' : List Own} {V : View} {P : Program} {ops : Array Oper} {Qn : Act → World → Prop} {t : Tr} {i : Nat} {T : TypeId} {pos : String} {after : Array Edge} {gd : Option (Nat × Bool)} {x : Operand}
theorem AtT.clearAt {X E E' : TypeId} {b off m c : Nat} {zv : Value} {cs us xs : List Value} (ho : ops[i]? = some ⟨none, .call ⟨.builtin .clear, #[x], #[X]⟩, T, pos, after, gd⟩) (hg : Gd ks ops gd) (hX : P.underlying X = some (.slice E)) (hz : qF P E = some zv)
  (hx : ev ks x = some (.slice (some ⟨b, off, none⟩) (m + 1) c)) (hu : (Builtin.zeroCells zv.cells (m + 1)).toList = us) (hl : off + us.length ≤ cs.length) (h1 : us.all Value.oneCell' = true) (hxs : cs.take off ++ us ++ cs.drop (off + us.length) = xs) (hup : Upd (.blk b (LC cs E')) (.blk b (LC xs E')) O O')
  (next : AtT cx n ks O' V P ops Qn t) : AtT cx n ks O V P ops Qn (.n true i t) :=
 .x ho hg fun a w hk hm => by
  obtain ⟨R, p1, p2⟩ := hup.perm
  have hm1 := hm.perm p1
  have e0 : (#[x] : Array Operand).map a.eval = #[.slice (some ⟨b, off, none⟩) (m + 1) c] := by simp [hk.ev hx]
  obtain ⟨w', hr, hgr, hh⟩ := jc (P := P) us 0 off cs w hm1.blk (by omega) (by simpa [List.all_eq_true] using h1)
  rw [Nat.add_zero, hxs] at hh
  have e1 : (#[X] : Array TypeId)[0]? = some X := rfl
  have e2 : (#[Value.slice (some ⟨b, off, none⟩) (m + 1) c] : Array Value)[0]? = some (Value.slice (some ⟨b, off, none⟩) (m + 1) c) := rfl
  simp only [opW, execOp, resolve, e0, Sem.run_bind, Sem.run_pure, Result.andThen_ok, invoke, builtin, Builtin.clear_, e1, e2, run_underlying hX, run_zero hz, hu, hr]
  exact ⟨ks, O', V, hk, (hm1.set hgr hh).perm p2.symm, fun h => (by cases h), next⟩
end
end Go.Lw
