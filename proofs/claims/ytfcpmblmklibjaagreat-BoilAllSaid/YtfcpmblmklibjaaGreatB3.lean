/- Texts that the last one of this claim imports. -/
import Derived.ProofKit
import Derived.OpenShut
import Derived.Carry
import Derived.Lib.SmallJoins
import Derived.Deep.Slices
import Derived.Test.YtfcpmblmklibjaaGreatRows
import Derived.Deep.Strs
import Derived.Shelf.SlSortCmp.NoneTotal
import Derived.Test.YtfcpmblmklibjaaGreatProg
import Derived.Test.YtfcpmblmklibjaaGreatChecked
import Derived.KernelRfl
import Derived.WalkKit
import Derived.Deep.QuietTactic
import Derived.Test.YtfcpmblmklibjaaGreatB2
set_option linter.unusedVariables false
set_option linter.unusedSimpArgs false
set_option linter.unusedSectionVars false
set_option linter.unusedVariables false
namespace Go.Bl
open Go.Gl Go.Lw
/-- A panel, a trial. -/
structure Pq where
  m : Int
  o : Int
  h : Int
  deriving DecidableEq
structure Tq where
  p : Pq
  f : Bool
abbrev pqe (p : Pq) : List Value := [iv p.m, iv p.o, iv p.h]
abbrev pqv (p : Pq) : Value := .agg #[iv p.m, iv p.o, iv p.h]
abbrev tqe (t : Tq) : List Value := [iv t.p.m, iv t.p.o, iv t.p.h, .bool t.f]
abbrev tqv (t : Tq) : Value := .agg #[iv t.p.m, iv t.p.o, iv t.p.h, .bool t.f]
abbrev ste (s : Nat) : List Value := [iv (s : Int)]
abbrev stv (s : Nat) : Value := .agg #[iv (s : Int)]
theorem pqe_len (p : Pq) : (pqe p).length = 3 := rfl
theorem tqe_len (p : Tq) : (tqe p).length = 4 := rfl
theorem ste_len (s : Nat) : (ste s).length = 1 := rfl
/-- The numbers of a panel are as described. -/
def sndB (p : Pq) : Bool := decide (0 ≤ p.m ∧ p.m ≤ 4 ∧ 0 ≤ p.o ∧ p.o ≤ 4 ∧ 0 ≤ p.h ∧ p.h ≤ 4)
theorem wi_pq (p : Pq) : wi 0 4 [p.m, p.o, p.h] = sndB p := by
  unfold wi sndB outB
  rw [Bool.eq_iff_iff]
  simp only [List.any_cons, List.any_nil, Bool.or_false, Bool.not_eq_true', Bool.or_eq_false_iff, decide_eq_false_iff_not, decide_eq_true_eq]
  omega
def badT (t : Tq) : Bool := !sndB t.p
/-- What CheckTrials answers. -/
def trE (ts : List Tq) : Int := if 16 < ts.length then 6 else if ts.any badT then 3 else 0
theorem trE_ok {ts : List Tq} (h : trE ts = 0) : ts.length ≤ 16 ∧ ∀ t ∈ ts, sndB t.p = true := by
  unfold trE at h
  split at h
  · cases h
  · split at h
    · cases h
    · rename_i h1 h2
      refine ⟨by omega, fun t ht => ?_⟩
      cases c : sndB t.p with
      | true => rfl
      | false => exact absurd (List.any_eq_true.2 ⟨t, ht, by simp [badT, c]⟩) h2
/-- The causes of a panel. -/
def caL (p : Pq) : List Int := [p.m, 5 + p.o, 10 + p.h]
/-- The bits of a list. -/
def btL (l : List Int) : Nat := l.foldl (fun n i => n ||| 2 ^ i.toNat) 0
theorem btL_snoc (l : List Int) (i : Int) : btL (l ++ [i]) = btL l ||| 2 ^ i.toNat := by simp [btL, List.foldl_append]
theorem btF_bit {i : Nat} : ∀ (l : List Int) (n : Nat), (∀ x ∈ l, 0 ≤ x) → ((l.foldl (fun n i => n ||| 2 ^ i.toNat) n).testBit i = true ↔ n.testBit i = true ∨ (i : Int) ∈ l)
  | [], n, _ => by simp
  | x :: l, n, h => by
    have h0 := h x List.mem_cons_self
    rw [List.foldl_cons, btF_bit l _ fun y hy => h y (List.mem_cons_of_mem _ hy), Nat.testBit_or, Bool.or_eq_true, Nat.testBit_two_pow, decide_eq_true_eq, List.mem_cons]
    constructor
    · rintro ((h1 | h1) | h1)
      · exact .inl h1
      · exact .inr (.inl (by omega))
      · exact .inr (.inr h1)
    · rintro (h1 | h1 | h1)
      · exact .inl (.inl h1)
      · exact .inl (.inr (by omega))
      · exact .inr h1
theorem btL_bit {l : List Int} {i : Nat} (h : ∀ x ∈ l, 0 ≤ x) : (btL l).testBit i = true ↔ (i : Int) ∈ l := by
  unfold btL; rw [btF_bit l 0 h]; simp
theorem btL_lt {l : List Int} {n : Nat} (h : ∀ x ∈ l, 0 ≤ x ∧ x < (n : Int)) : btL l < 2 ^ n := by
  refine Nat.lt_pow_two_of_testBit _ fun i hi => ?_
  cases c : (btL l).testBit i with
  | false => rfl
  | true =>
    have := (btL_bit fun x hx => (h x hx).1).1 c
    have := h _ this; omega
def cbN (p : Pq) : Nat := btL (caL p)
theorem caL_in {p : Pq} (h : sndB p = true) : ∀ x ∈ caL p, 0 ≤ x ∧ x < 15 := by
  unfold sndB at h
  rw [decide_eq_true_eq] at h
  intro x hx
  simp only [caL, List.mem_cons, List.not_mem_nil, or_false] at hx
  omega
theorem cbN_lt {p : Pq} (h : sndB p = true) : cbN p < 32768 := btL_lt (n := 15) fun x hx => by have := caL_in h x hx; omega
/-- The causes that are clear, of the first trials. -/
def clN : List Tq → Nat → Nat
  | _, 0 => 0
  | ts, k + 1 => match ts[k]? with
    | some t => if t.f = false then clN ts k ||| cbN t.p else clN ts k
    | none => clN ts k
def clA (ts : List Tq) : Nat := clN ts ts.length
theorem clN_at {ts : List Tq} {k : Nat} {t : Tq} (h : ts[k]? = some t) : clN ts (k + 1) = if t.f = false then clN ts k ||| cbN t.p else clN ts k := by
  simp only [clN, h]
theorem or_lt {a b n : Nat} (ha : a < 2 ^ n) (hb : b < 2 ^ n) : a ||| b < 2 ^ n := Nat.or_lt_two_pow ha hb
theorem clN_lt {ts : List Tq} (h : ∀ t ∈ ts, sndB t.p = true) : ∀ k, clN ts k < 32768
  | 0 => by simp [clN]
  | k + 1 => by
    have ih := clN_lt h k
    cases c : ts[k]? with
    | none => simp only [clN, c]; exact ih
    | some t =>
      rw [clN_at c]
      split
      · exact or_lt (n := 15) ih (cbN_lt (h t (List.mem_of_getElem? c)))
      · exact ih
end Go.Bl
set_option linter.unusedVariables false
namespace Go.Gl
theorem bitL_len (A : Nat) : ∀ k, (bitL A k).length ≤ k
  | 0 => Nat.le_refl 0
  | k + 1 => by
    have := bitL_len A k
    simp only [bitL]; split
    · simp; omega
    · omega
theorem bit_iff (A k : Nat) : ((A >>> k &&& 1 : Nat) : Int) = 1 ↔ A.testBit k = true := by
  rw [Nat.and_one_is_mod, Nat.shiftRight_eq_div_pow, Nat.testBit_eq_decide_div_mod_eq, decide_eq_true_eq]
  omega
end Go.Gl
namespace Go.Proofs.YtfcpmblmklibjaaGreat
open Go.Lw Go.Gl Go.Bl Go.RowKit

theorem index_n (g : FuncId) (cap : List Value) (p : Int → Bool) (V : View) (vl : Value) (l : List Int) (hs : Sl V ei 1 vl l) (hok : CallOk Tryz.prog g)
    (hc : ∀ x, x ∈ l → Fnc Tryz.prog g ([] ++ [iv x] ++ cap) V (fun v _ => v = .bool (p x))) :
    Fnc Tryz.prog 84 [vl, .func (.func g) #[] cap.toArray] V fun v _ => ∃ j : Int, v = iv j ∧ (decide (0 ≤ j)) = l.any p := by
  have hlen := hs.lenLe
  refine fn_of Tryz.func84 rfl Tryz.ntmps84 (Nat.le_of_ble_eq_true rfl) ?_
  intro w0 hw0
  refine At.nrm ?_
  refine At.ktext (.q 0 .done) ?_
  refine AtT.kassign ?_
  refine AtT.done ?_
  refine At.nrm ?_
  refine At.ktext (.q 0 (.q 1 (.q 2 .done))) ?_
  refine AtT.kmove ?_
  first | refine AtT.klenS Tryz.underlying38 ?_ | refine AtT.klenR Tryz.underlying38 ?_
  refine AtT.kmove ?_
  refine AtT.done ?_
  refine At.nrm ?_
  refine At.lp (ι := Nat) (KS := fun k => [(0, vl), (1, .func (.func g) #[] cap.toArray), (4, iv 0), (7, iv l.length), (8, iv k)]) (OS := fun _ => [])
    (VS := fun k V' => V' = V ∧ k ≤ l.length ∧ (l.take k).any p = false) (μ := fun k => l.length - k) 0 ?_ ?_ ?_ ?_
  · exact ⟨rfl, rfl, rfl, rfl, rfl, trivial⟩
  · exact Pt.auto
  · exact ⟨rfl, Nat.zero_le _, rfl⟩
  · rintro k V' ks' O' ⟨rfl, hkl, hany⟩ hk hO hl
    subst hk hO
    refine At.nrm ?_
    refine At.ktext (.q 0 .done) ?_
    refine AtT.klss ?_
    refine AtT.done ?_
    refine At.nrm ?_
    refine At.condP rfl (fun hp => ?_) (fun hp => ?_)
    · refine At.nrm ?_
      refine At.ktext (.q 0 (.q 1 .done)) ?_
      refine AtT.kmove ?_
      refine AtT.kassign ?_
      refine AtT.done ?_
      refine At.nrm ?_
      refine At.ktext (.q 0 (.q 1 (.q 2 (.q 3 (.q 4 (.n false 5 .done)))))) ?_
      refine AtT.kmove ?_
      refine AtT.kmove ?_
      refine AtT.kmove ?_
      refine AtT.kidx Tryz.underlying38 tk3 ?_
      intro p14 e14 he14 hc14
      first | refine AtT.kloadO tk3 ?_ | refine AtT.kload tk3 ?_
      refine AtT.kcallV rfl rfl rfl hok (hc e14 (List.mem_of_getElem? he14)) ?_
      rintro _ rfl
      refine AtT.done ?_
      refine At.nrm ?_
      have hee : l[k]? = some e14 := by simpa using he14
      have hnx : l.take (k + 1) = l.take k ++ [e14] := by
        rw [List.take_succ_eq_append_getElem (by omega)]; congr 1; rw [List.getElem?_eq_getElem (by omega)] at hee; simpa using hee
      refine At.cond rfl (fun hb => ?_) (fun hb => ?_)
      · refine At.nrm ?_
        refine At.ktext (.q 0 (.q 1 .done)) ?_
        refine AtT.kmove ?_
        refine AtT.kassign ?_
        refine AtT.done ?_
        refine At.nrm ?_
        refine At.ret1 rfl (.tmp rfl) ⟨k, rfl, ?_⟩
        have : l.any p = true := List.any_eq_true.2 ⟨e14, List.mem_of_getElem? hee, hb⟩
        rw [this]; simp
      · refine At.nrm ?_
        refine At.ktext (.q 0 (.q 1 .done)) ?_
        first | refine AtT.kadd ?_ | refine AtT.kaddW ?_
        refine AtT.kmove ?_
        refine AtT.done ?_
        refine At.nrm ?_
        refine At.round (k + 1) ?_ ?_ ?_ ?_
        · show l.length - (k + 1) < l.length - k; omega
        · refine ⟨rfl, by omega, ?_⟩
          rw [hnx, List.any_append, hany]; simp [hb]
        · exact ⟨rfl, rfl, rfl, rfl, rfl, trivial⟩
        · exact Pt.auto
    · have hkk : k = l.length := by omega
      subst hkk
      rw [List.take_length] at hany
      refine At.nrm ?_
      refine At.ktext (.q 0 .done) ?_
      refine AtT.kassign ?_
      refine AtT.done ?_
      refine At.nrm ?_
      refine At.ret1 rfl (.tmp rfl) ⟨-1, rfl, ?_⟩
      rw [hany]; rfl
theorem contains_n (g : FuncId) (cap : List Value) (p : Int → Bool) (V : View) (vl : Value) (l : List Int) (hs : Sl V ei 1 vl l) (hok : CallOk Tryz.prog g)
    (hc : ∀ x, x ∈ l → Fnc Tryz.prog g ([] ++ [iv x] ++ cap) V (fun v _ => v = .bool (p x))) :
    Fnc Tryz.prog 70 [vl, .func (.func g) #[] cap.toArray] V fun v _ => v = .bool (l.any p) := by
  refine fn_of Tryz.func70 rfl Tryz.ntmps70 (Nat.le_of_ble_eq_true rfl) ?_
  intro w0 hw0
  refine At.nrm ?_
  refine At.ktext (.q 0 .done) ?_
  refine AtT.kassign ?_
  refine AtT.done ?_
  refine At.nrm ?_
  refine At.ktext (.q 0 (.q 1 (.n false 2 (.q 3 (.q 4 .done))))) ?_
  refine AtT.kmove ?_
  refine AtT.kmove ?_
  refine AtT.kcallP rfl rfl ok84 (index_n g cap p V vl l hs hok hc) ?_
  rintro _ ⟨j, rfl, hj⟩
  refine AtT.kgeq ?_
  refine AtT.kassign ?_
  refine AtT.done ?_
  refine At.nrm ?_
  refine At.ret1 rfl (.tmp rfl) ?_
  rw [hj]
theorem index_t (g : FuncId) (cap : List Value) (p : Tq → Bool) (V : View) (vl : Value) (l : List Tq) (hs : Sl V tqe 4 vl l) (hok : CallOk Tryz.prog g)
    (hc : ∀ x, x ∈ l → Fnc Tryz.prog g ([] ++ [tqv x] ++ cap) V (fun v _ => v = .bool (p x))) :
    Fnc Tryz.prog 85 [vl, .func (.func g) #[] cap.toArray] V fun v _ => ∃ j : Int, v = iv j ∧ (decide (0 ≤ j)) = l.any p := by
  have hlen := hs.lenLe
  refine fn_of Tryz.func85 rfl Tryz.ntmps85 (Nat.le_of_ble_eq_true rfl) ?_
  intro w0 hw0
  refine At.nrm ?_
  refine At.ktext (.q 0 .done) ?_
  refine AtT.kassign ?_
  refine AtT.done ?_
  refine At.nrm ?_
  refine At.ktext (.q 0 (.q 1 (.q 2 .done))) ?_
  refine AtT.kmove ?_
  first | refine AtT.klenS Tryz.underlying22 ?_ | refine AtT.klenR Tryz.underlying22 ?_
  refine AtT.kmove ?_
  refine AtT.done ?_
  refine At.nrm ?_
  refine At.lp (ι := Nat) (KS := fun k => [(0, vl), (1, .func (.func g) #[] cap.toArray), (4, iv 0), (7, iv l.length), (8, iv k)]) (OS := fun _ => [])
    (VS := fun k V' => V' = V ∧ k ≤ l.length ∧ (l.take k).any p = false) (μ := fun k => l.length - k) 0 ?_ ?_ ?_ ?_
  · exact ⟨rfl, rfl, rfl, rfl, rfl, trivial⟩
  · exact Pt.auto
  · exact ⟨rfl, Nat.zero_le _, rfl⟩
  · rintro k V' ks' O' ⟨rfl, hkl, hany⟩ hk hO hl
    subst hk hO
    refine At.nrm ?_
    refine At.ktext (.q 0 .done) ?_
    refine AtT.klss ?_
    refine AtT.done ?_
    refine At.nrm ?_
    refine At.condP rfl (fun hp => ?_) (fun hp => ?_)
    · refine At.nrm ?_
      refine At.ktext (.q 0 (.q 1 .done)) ?_
      refine AtT.kmove ?_
      refine AtT.kassign ?_
      refine AtT.done ?_
      refine At.nrm ?_
      refine At.ktext (.q 0 (.q 1 (.q 2 (.q 3 (.q 4 (.n false 5 .done)))))) ?_
      refine AtT.kmove ?_
      refine AtT.kmove ?_
      refine AtT.kmove ?_
      refine AtT.kidx Tryz.underlying22 tk81 ?_
      intro p14 e14 he14 hc14
      first | refine AtT.kloadOA tk81 ?_ | refine AtT.kloadA tk81 ?_ | refine AtT.kloadOP tk81 ?_
      refine AtT.kcallV rfl rfl rfl hok (hc e14 (List.mem_of_getElem? he14)) ?_
      rintro _ rfl
      refine AtT.done ?_
      refine At.nrm ?_
      have hee : l[k]? = some e14 := by simpa using he14
      have hnx : l.take (k + 1) = l.take k ++ [e14] := by
        rw [List.take_succ_eq_append_getElem (by omega)]; congr 1; rw [List.getElem?_eq_getElem (by omega)] at hee; simpa using hee
      refine At.cond rfl (fun hb => ?_) (fun hb => ?_)
      · refine At.nrm ?_
        refine At.ktext (.q 0 (.q 1 .done)) ?_
        refine AtT.kmove ?_
        refine AtT.kassign ?_
        refine AtT.done ?_
        refine At.nrm ?_
        refine At.ret1 rfl (.tmp rfl) ⟨k, rfl, ?_⟩
        have : l.any p = true := List.any_eq_true.2 ⟨e14, List.mem_of_getElem? hee, hb⟩
        rw [this]; simp
      · refine At.nrm ?_
        refine At.ktext (.q 0 (.q 1 .done)) ?_
        first | refine AtT.kadd ?_ | refine AtT.kaddW ?_
        refine AtT.kmove ?_
        refine AtT.done ?_
        refine At.nrm ?_
        refine At.round (k + 1) ?_ ?_ ?_ ?_
        · show l.length - (k + 1) < l.length - k; omega
        · refine ⟨rfl, by omega, ?_⟩
          rw [hnx, List.any_append, hany]; simp [hb]
        · exact ⟨rfl, rfl, rfl, rfl, rfl, trivial⟩
        · exact Pt.auto
    · have hkk : k = l.length := by omega
      subst hkk
      rw [List.take_length] at hany
      refine At.nrm ?_
      refine At.ktext (.q 0 .done) ?_
      refine AtT.kassign ?_
      refine AtT.done ?_
      refine At.nrm ?_
      refine At.ret1 rfl (.tmp rfl) ⟨-1, rfl, ?_⟩
      rw [hany]; rfl
theorem contains_t (g : FuncId) (cap : List Value) (p : Tq → Bool) (V : View) (vl : Value) (l : List Tq) (hs : Sl V tqe 4 vl l) (hok : CallOk Tryz.prog g)
    (hc : ∀ x, x ∈ l → Fnc Tryz.prog g ([] ++ [tqv x] ++ cap) V (fun v _ => v = .bool (p x))) :
    Fnc Tryz.prog 73 [vl, .func (.func g) #[] cap.toArray] V fun v _ => v = .bool (l.any p) := by
  refine fn_of Tryz.func73 rfl Tryz.ntmps73 (Nat.le_of_ble_eq_true rfl) ?_
  intro w0 hw0
  refine At.nrm ?_
  refine At.ktext (.q 0 .done) ?_
  refine AtT.kassign ?_
  refine AtT.done ?_
  refine At.nrm ?_
  refine At.ktext (.q 0 (.q 1 (.n false 2 (.q 3 (.q 4 .done))))) ?_
  refine AtT.kmove ?_
  refine AtT.kmove ?_
  refine AtT.kcallP rfl rfl ok85 (index_t g cap p V vl l hs hok hc) ?_
  rintro _ ⟨j, rfl, hj⟩
  refine AtT.kgeq ?_
  refine AtT.kassign ?_
  refine AtT.done ?_
  refine At.nrm ?_
  refine At.ret1 rfl (.tmp rfl) ?_
  rw [hj]
theorem index_s (g : FuncId) (cap : List Value) (p : Nat → Bool) (V : View) (vl : Value) (l : List Nat) (hs : Sl V ste 1 vl l) (hok : CallOk Tryz.prog g)
    (hc : ∀ x, x ∈ l → Fnc Tryz.prog g ([] ++ [stv x] ++ cap) V (fun v _ => v = .bool (p x))) :
    Fnc Tryz.prog 83 [vl, .func (.func g) #[] cap.toArray] V fun v _ => ∃ j : Int, v = iv j ∧ (decide (0 ≤ j)) = l.any p := by
  have hlen := hs.lenLe
  refine fn_of Tryz.func83 rfl Tryz.ntmps83 (Nat.le_of_ble_eq_true rfl) ?_
  intro w0 hw0
  refine At.nrm ?_
  refine At.ktext (.q 0 .done) ?_
  refine AtT.kassign ?_
  refine AtT.done ?_
  refine At.nrm ?_
  refine At.ktext (.q 0 (.q 1 (.q 2 .done))) ?_
  refine AtT.kmove ?_
  first | refine AtT.klenS Tryz.underlying61 ?_ | refine AtT.klenR Tryz.underlying61 ?_
  refine AtT.kmove ?_
  refine AtT.done ?_
  refine At.nrm ?_
  refine At.lp (ι := Nat) (KS := fun k => [(0, vl), (1, .func (.func g) #[] cap.toArray), (4, iv 0), (7, iv l.length), (8, iv k)]) (OS := fun _ => [])
    (VS := fun k V' => V' = V ∧ k ≤ l.length ∧ (l.take k).any p = false) (μ := fun k => l.length - k) 0 ?_ ?_ ?_ ?_
  · exact ⟨rfl, rfl, rfl, rfl, rfl, trivial⟩
  · exact Pt.auto
  · exact ⟨rfl, Nat.zero_le _, rfl⟩
  · rintro k V' ks' O' ⟨rfl, hkl, hany⟩ hk hO hl
    subst hk hO
    refine At.nrm ?_
    refine At.ktext (.q 0 .done) ?_
    refine AtT.klss ?_
    refine AtT.done ?_
    refine At.nrm ?_
    refine At.condP rfl (fun hp => ?_) (fun hp => ?_)
    · refine At.nrm ?_
      refine At.ktext (.q 0 (.q 1 .done)) ?_
      refine AtT.kmove ?_
      refine AtT.kassign ?_
      refine AtT.done ?_
      refine At.nrm ?_
      refine At.ktext (.q 0 (.q 1 (.q 2 (.q 3 (.q 4 (.n false 5 .done)))))) ?_
      refine AtT.kmove ?_
      refine AtT.kmove ?_
      refine AtT.kmove ?_
      refine AtT.kidx Tryz.underlying61 tk86 ?_
      intro p14 e14 he14 hc14
      first | refine AtT.kloadOA tk86 ?_ | refine AtT.kloadA tk86 ?_ | refine AtT.kloadOP tk86 ?_
      refine AtT.kcallV rfl rfl rfl hok (hc e14 (List.mem_of_getElem? he14)) ?_
      rintro _ rfl
      refine AtT.done ?_
      refine At.nrm ?_
      have hee : l[k]? = some e14 := by simpa using he14
      have hnx : l.take (k + 1) = l.take k ++ [e14] := by
        rw [List.take_succ_eq_append_getElem (by omega)]; congr 1; rw [List.getElem?_eq_getElem (by omega)] at hee; simpa using hee
      refine At.cond rfl (fun hb => ?_) (fun hb => ?_)
      · refine At.nrm ?_
        refine At.ktext (.q 0 (.q 1 .done)) ?_
        refine AtT.kmove ?_
        refine AtT.kassign ?_
        refine AtT.done ?_
        refine At.nrm ?_
        refine At.ret1 rfl (.tmp rfl) ⟨k, rfl, ?_⟩
        have : l.any p = true := List.any_eq_true.2 ⟨e14, List.mem_of_getElem? hee, hb⟩
        rw [this]; simp
      · refine At.nrm ?_
        refine At.ktext (.q 0 (.q 1 .done)) ?_
        first | refine AtT.kadd ?_ | refine AtT.kaddW ?_
        refine AtT.kmove ?_
        refine AtT.done ?_
        refine At.nrm ?_
        refine At.round (k + 1) ?_ ?_ ?_ ?_
        · show l.length - (k + 1) < l.length - k; omega
        · refine ⟨rfl, by omega, ?_⟩
          rw [hnx, List.any_append, hany]; simp [hb]
        · exact ⟨rfl, rfl, rfl, rfl, rfl, trivial⟩
        · exact Pt.auto
    · have hkk : k = l.length := by omega
      subst hkk
      rw [List.take_length] at hany
      refine At.nrm ?_
      refine At.ktext (.q 0 .done) ?_
      refine AtT.kassign ?_
      refine AtT.done ?_
      refine At.nrm ?_
      refine At.ret1 rfl (.tmp rfl) ⟨-1, rfl, ?_⟩
      rw [hany]; rfl
theorem contains_s (g : FuncId) (cap : List Value) (p : Nat → Bool) (V : View) (vl : Value) (l : List Nat) (hs : Sl V ste 1 vl l) (hok : CallOk Tryz.prog g)
    (hc : ∀ x, x ∈ l → Fnc Tryz.prog g ([] ++ [stv x] ++ cap) V (fun v _ => v = .bool (p x))) :
    Fnc Tryz.prog 61 [vl, .func (.func g) #[] cap.toArray] V fun v _ => v = .bool (l.any p) := by
  refine fn_of Tryz.func61 rfl Tryz.ntmps61 (Nat.le_of_ble_eq_true rfl) ?_
  intro w0 hw0
  refine At.nrm ?_
  refine At.ktext (.q 0 .done) ?_
  refine AtT.kassign ?_
  refine AtT.done ?_
  refine At.nrm ?_
  refine At.ktext (.q 0 (.q 1 (.n false 2 (.q 3 (.q 4 .done))))) ?_
  refine AtT.kmove ?_
  refine AtT.kmove ?_
  refine AtT.kcallP rfl rfl ok83 (index_s g cap p V vl l hs hok hc) ?_
  rintro _ ⟨j, rfl, hj⟩
  refine AtT.kgeq ?_
  refine AtT.kassign ?_
  refine AtT.done ?_
  refine At.nrm ?_
  refine At.ret1 rfl (.tmp rfl) ?_
  rw [hj]
theorem within1_f (n lo hi : Int) (V : View) (p1 p2 : Addr) (h1 : Cells V p1 [iv lo]) (h2 : Cells V p2 [iv hi]) :
    Fnc Tryz.prog 75 [iv n, .pointer (some p1), .pointer (some p2)] V fun v _ => v = .bool (outB lo hi n) := by
  refine fn_of Tryz.func75 rfl Tryz.ntmps75 (Nat.le_of_ble_eq_true rfl) ?_
  intro w0 hw0
  refine At.nrm ?_
  refine At.ktext (.q 0 .done) ?_
  refine AtT.kassign ?_
  refine AtT.done ?_
  refine At.nrm ?_
  refine At.ktext (.q 0 (.q 1 (.q 2 (.q 3 (.q 4 (.q 5 (.q 6 (.q 7 (.q 8 .done))))))))) ?_
  refine AtT.kmove ?_
  first | refine AtT.kloadO tk3 ?_ | refine AtT.kload tk3 ?_
  refine AtT.klss ?_
  refine AtT.kmove ?_
  all_goals (first | refine AtT.kL 8 ?_ | refine AtT.pcase (d := 8) rfl (fun hg8 => ?_) (fun hg8 => ?_) | refine AtT.bcase (d := 8) rfl (fun hg8 => ?_) (fun hg8 => ?_))
  all_goals (first | refine AtT.kpass ?_ | refine AtT.kpassU ?_ | ((refine AtT.kmove ?_)))
  all_goals (first | refine AtT.kpass ?_ | refine AtT.kpassU ?_ | ((first | refine AtT.kloadO tk3 ?_ | refine AtT.kload tk3 ?_)))
  all_goals (first | refine AtT.kpass ?_ | refine AtT.kpassU ?_ | ((refine AtT.kgtr ?_)))
  all_goals (refine AtT.kpick ?_)
  all_goals (refine AtT.kassign ?_)
  all_goals refine AtT.done ?_
  all_goals (refine At.nrm ?_)
  · exact At.ret1 rfl (.tmp rfl) (by simp [outB, hg8])
  · exact At.ret1 rfl (.tmp rfl) (by simp [outB, hg8])
theorem within_f (lo hi : Int) (l : List Int) (V : View) (vl : Value) (hs : SlI V vl l) :
    Fnc Tryz.prog 37 [iv lo, iv hi, vl] V fun v _ => v = .bool (wi lo hi l) := by
  refine fn_of Tryz.func37 rfl Tryz.ntmps37 (Nat.le_of_ble_eq_true rfl) ?_
  intro w0 hw0
  refine At.nrm ?_
  refine At.ktext (.n false 0 (.n false 1 (.q 2 .done))) ?_
  refine AtT.kbox ?_
  intro b3
  refine AtT.kbox ?_
  intro b4
  refine AtT.kassign ?_
  refine AtT.done ?_
  refine At.nrm ?_
  refine At.giveB (b := b3) Pick.auto ?_
  intro V3 hV3 hb3
  refine At.giveB (b := b4) Pick.auto ?_
  intro V4 hV4 hb4
  have hs4 := hs.le (hV3.trans hV4)
  have hc3 := (cells_blk hb3).le hV4
  have hc4 := cells_blk hb4
  refine At.ktext (.q 0 (.q 1 (.n false 2 (.q 3 (.q 4 .done))))) ?_
  refine AtT.kmove ?_
  refine AtT.kfn ?_
  refine AtT.kcallP rfl rfl ok70 (contains_n 75 [.pointer (some ⟨b3, 0, none⟩), .pointer (some ⟨b4, 0, none⟩)] (outB lo hi) V4 vl l hs4 ok75 (fun x _ => within1_f x lo hi V4 _ _ hc3 hc4)) ?_
  rintro _ rfl
  refine AtT.knot ?_
  refine AtT.kassign ?_
  refine AtT.done ?_
  refine At.nrm ?_
  exact At.ret1 rfl (.tmp rfl) rfl
theorem bits_f (A n : Nat) (hA : A < 9223372036854775808) (hn : n ≤ 60) (V : View) : Fnc Tryz.prog 64 [iv A, iv n] V fun r V' => SlI V' r (bitL A n) := by
  refine fn_of Tryz.func64 rfl Tryz.ntmps64 (Nat.le_of_ble_eq_true rfl) ?_
  intro w0 hw0
  refine At.nrm ?_
  refine At.ktext (.q 0 .done) ?_
  refine AtT.kassign ?_
  refine AtT.done ?_
  refine At.nrm ?_
  refine At.ktext (.q 0 .done) ?_
  refine AtT.kassign ?_
  refine AtT.done ?_
  refine At.nrm ?_
  refine At.ktext (.q 0 .done) ?_
  refine AtT.kassign ?_
  refine AtT.done ?_
  refine At.nrm ?_
  refine At.newRow 3 1 ?_
  refine At.lp (ι := Nat × Option Addr × Nat) (KS := fun g => [(0, iv A), (1, iv n), (5, .slice g.2.1 (bitL A g.1).length g.2.2), (6, iv g.1)]) (OS := fun g => [.row (.slice g.2.1 (bitL A g.1).length g.2.2) 3 1 (bitL A g.1).length (flat ei (bitL A g.1))]) (VS := fun g V' => Le V V' ∧ g.1 ≤ n) (μ := fun g => n - g.1) (0, none, 0) ?_ ?_ ?_ ?_
  · exact ⟨rfl, rfl, rfl, rfl, trivial⟩
  · exact Pt.auto
  · exact ⟨Le.refl _, Nat.zero_le _⟩
  · rintro ⟨k, ao, co⟩ V' ks' O' ⟨hVV, hkl⟩ hk hO hl2
    dsimp only at hkl hk hO
    subst hk hO
    have hkn := bitL_len A k
    refine At.nrm ?_
    refine At.ktext (.q 0 (.q 1 (.q 2 .done))) ?_
    refine AtT.kmove ?_
    refine AtT.kmove ?_
    refine AtT.klss ?_
    refine AtT.done ?_
    refine At.nrm ?_
    refine At.condP rfl (fun hp => ?_) (fun hp => ?_)
    · have hsr : A >>> k < 9223372036854775808 := Nat.lt_of_le_of_lt (by rw [Nat.shiftRight_eq_div_pow]; exact Nat.div_le_self _ _) hA
      refine At.nrm ?_
      refine At.ktext (.q 0 (.q 1 (.q 2 (.q 3 (.q 4 .done))))) ?_
      refine AtT.kmove ?_
      refine AtT.kmove ?_
      refine AtT.shrN rfl trivial rfl rfl rfl rfl (by omega) (by decide) (A := A) (N := k) ?_
      refine AtT.andN rfl trivial rfl rfl rfl rfl hsr (by decide) (by decide) (A := A >>> k) (B := 1) ?_
      refine AtT.keqI ?_
      refine AtT.done ?_
      refine At.nrm ?_
      refine At.condP rfl (fun hc => ?_) (fun hc => ?_)
      · have hb : A.testBit k = true := (bit_iff A k).1 hc
        have hn2 : bitL A (k + 1) = bitL A k ++ [(k : Int)] := by simp only [bitL, hb, if_true]
        refine At.nrm ?_
        refine At.ktext (.q 0 (.q 1 (.n false 2 (.n true 3 (.q 4 .done))))) ?_
        refine AtT.kmove ?_
        refine AtT.kmove ?_
        refine AtT.kbsliceG (bs38_1_0 _) ?_
        intro q19 V19 hV19 hq19
        have g19 : Le V V19 := by first | exact hV19 | exact Le.trans (by assumption) hV19
        first | refine AtT.kappend Tryz.underlying38 rw3 ?_
        intro a20 c20
        refine AtT.kassign ?_
        refine AtT.done ?_
        refine At.nrm ?_
        refine At.ktext (.q 0 (.q 1 (.q 2 .done))) ?_
        refine AtT.kmove ?_
        first | refine AtT.kadd ?_ | refine AtT.kaddW ?_
        refine AtT.kassign ?_
        refine AtT.done ?_
        refine At.nrm ?_
        refine At.round (k + 1, a20, c20) ?_ ?_ ?_ ?_
        · show n - (k + 1) < n - k; omega
        · exact ⟨hVV.trans (by assumption), by dsimp only; omega⟩
        · dsimp only; rw [hn2, List.length_append]; exact ⟨rfl, rfl, rfl, ivs (by omega), trivial⟩
        dsimp only
        rw [hn2, flat_snoc, List.length_append]
        · exact Pt.auto
      · have hb : ¬ A.testBit k = true := fun h => hc ((bit_iff A k).2 h)
        have hn2 : bitL A (k + 1) = bitL A k := by simp only [bitL, if_neg hb]
        refine At.nrm ?_
        refine At.ktext (.q 0 (.q 1 (.q 2 .done))) ?_
        refine AtT.kmove ?_
        first | refine AtT.kadd ?_ | refine AtT.kaddW ?_
        refine AtT.kassign ?_
        refine AtT.done ?_
        refine At.nrm ?_
        refine At.round (k + 1, ao, co) ?_ ?_ ?_ ?_
        · show n - (k + 1) < n - k; omega
        · exact ⟨hVV, by dsimp only; omega⟩
        · dsimp only; rw [hn2]; exact ⟨rfl, rfl, rfl, ivs (by omega), trivial⟩
        dsimp only
        rw [hn2]
        · exact Pt.auto
    · obtain rfl : k = n := by omega
      refine At.nrm ?_
      refine At.ktext (.q 0 (.q 1 .done)) ?_
      refine AtT.kmove ?_
      refine AtT.kassign ?_
      refine AtT.done ?_
      refine At.nrm ?_
      refine At.giveSl Lw.ei_len rfl rfl Pick.auto (fun V4 hV4 hs4 => ?_)
      exact At.ret1 rfl (.tmp rfl) hs4
theorem isList_f (l : List Int) (n : Int) (V : View) (vl : Value) (hv : SlI V vl l) : Fnc Tryz.prog 52 [vl, iv n] V fun r _ => r = .bool (lstB l n) := by
  have hlen := hv.lenLe
  obtain ⟨al, cl, rfl, k3, k4, _⟩ := id hv
  clear k3 k4
  refine fn_of Tryz.func52 rfl Tryz.ntmps52 (Nat.le_of_ble_eq_true rfl) ?_
  intro w0 hw0
  refine At.nrm ?_
  refine At.ktext (.q 0 .done) ?_
  refine AtT.kassign ?_
  refine AtT.done ?_
  refine At.nrm ?_
  refine At.ktext (.q 0 .done) ?_
  refine AtT.kassign ?_
  refine AtT.done ?_
  refine At.nrm ?_
  refine At.lp (ι := Nat) (KS := fun k => [(0, .slice al l.length cl), (1, iv n), (5, iv k)]) (OS := fun _ => [])
    (VS := fun k V' => V' = V ∧ k ≤ l.length ∧ ∀ j, j < k → okAt l n j = true) (μ := fun k => l.length - k) 0 ?_ ?_ ?_ ?_
  · exact ⟨rfl, rfl, rfl, trivial⟩
  · exact Pt.auto
  · exact ⟨rfl, Nat.zero_le _, fun j hj => absurd hj (Nat.not_lt_zero j)⟩
  · rintro k V' ks' O' ⟨rfl, hkl, hok⟩ hk hO hl2
    subst hk hO
    have hp0 := prevN_pos hok
    refine At.nrm ?_
    refine At.ktext (.q 0 (.q 1 (.q 2 (.q 3 .done)))) ?_
    refine AtT.kmove ?_
    refine AtT.kmove ?_
    first | refine AtT.klenS Tryz.underlying38 ?_ | refine AtT.klenR Tryz.underlying38 ?_
    refine AtT.klss ?_
    refine AtT.done ?_
    refine At.nrm ?_
    refine At.condP rfl (fun hp => ?_) (fun hp => ?_)
    · obtain ⟨x, hx⟩ : ∃ x, l[k]? = some x := ⟨_, List.getElem?_eq_getElem (by omega)⟩
      have hgx : l.getD k 0 = x := by simp [List.getD, hx]
      have hbad : ¬ (0 ≤ x ∧ prevN l k ≤ x ∧ x < n) → lstB l n = false := fun h => lstB_false (k := k) (by omega) (by simp only [okAt, hgx]; exact decide_eq_false h)
      refine At.nrm ?_
      by_cases c1 : x < 0
      · refine At.draw (.q 0 (.q 1 (.q 2 (.q 3 (.q 4 (.q 5 (.q 6 (.q 7 (.q 8 (.q 9 (.q 10 (.q 11 (.q 12 (.q 13 (.q 14 (.q 15 (.q 16 (.q 17 (.q 18 (.q 19 (.q 20 (.q 21 (.q 22 (.q 23 (.q 24 (.q 25 (.q 26 (.q 27 (.q 28 .done))))))))))))))))))))))))))))) ffm (by kernel_rfl) ?_
        refine AtT.kmove ?_
        refine AtT.kmove ?_
        refine AtT.kidx Tryz.underlying38 tk3 ?_
        intro p14 e14 he14 hc14
        obtain rfl : e14 = x := by have : l[k]? = some e14 := (by simpa using he14); rw [hx] at this; simpa using this.symm
        first | refine AtT.kloadO tk3 ?_ | refine AtT.kload tk3 ?_
        refine AtT.klss ?_
        refine AtT.setT (d := 16) rfl (c1) ?_
        refine AtT.kmove ?_
        all_goals (first | refine AtT.kL 17 ?_ | refine AtT.pcase (d := 17) rfl (fun hg17 => ?_) (fun hg17 => ?_) | refine AtT.bcase (d := 17) rfl (fun hg17 => ?_) (fun hg17 => ?_))
        all_goals (first | refine AtT.kpass ?_ | refine AtT.kpassU ?_ | ((refine AtT.kmove ?_)))
        all_goals (first | refine AtT.kpass ?_ | refine AtT.kpassU ?_ | ((refine AtT.kmove ?_)))
        all_goals (first | refine AtT.kpass ?_ | refine AtT.kpassU ?_ | ((refine AtT.kidx Tryz.underlying38 tk3 ?_) ; (intro p20 e20 he20 hc20)))
        all_goals (first | refine AtT.kpass ?_ | refine AtT.kpassU ?_ | ((first | refine AtT.kloadO tk3 ?_ | refine AtT.kload tk3 ?_)))
        all_goals (first | refine AtT.kpass ?_ | refine AtT.kpassU ?_ | ((refine AtT.kmove ?_)))
        all_goals (first | refine AtT.kpass ?_ | refine AtT.kpassU ?_ | ((refine AtT.kgeq ?_)))
        all_goals (refine AtT.kpick ?_)
        all_goals (refine AtT.kmove ?_)
        all_goals (first | refine AtT.kL 25 ?_ | refine AtT.pcase (d := 25) rfl (fun hg25 => ?_) (fun hg25 => ?_) | refine AtT.bcase (d := 25) rfl (fun hg25 => ?_) (fun hg25 => ?_))
        all_goals (first | refine AtT.kpass ?_ | refine AtT.kpassU ?_ | ((refine AtT.kmove ?_)))
        all_goals (first | refine AtT.kpass ?_ | refine AtT.kpassU ?_ | ((refine AtT.kgtr ?_)))
        all_goals (first | refine AtT.kpass ?_ | refine AtT.kpassU ?_ | ((refine AtT.kmove ?_)))
        all_goals (first | refine AtT.kL 28 ?_ | refine AtT.pcase (d := 28) rfl (fun hg28 => ?_) (fun hg28 => ?_) | refine AtT.bcase (d := 28) rfl (fun hg28 => ?_) (fun hg28 => ?_))
        all_goals (first | refine AtT.kpass ?_ | refine AtT.kpassU ?_ | ((refine AtT.kmove ?_)))
        all_goals (first | refine AtT.kpass ?_ | refine AtT.kpassU ?_ | ((refine AtT.kmove ?_)))
        all_goals (first | refine AtT.kpass ?_ | refine AtT.kpassU ?_ | ((refine AtT.kidx Tryz.underlying38 tk3 ?_) ; (intro p31 e31 he31 hc31)))
        all_goals (first | refine AtT.kpass ?_ | refine AtT.kpassU ?_ | ((first | refine AtT.kloadO tk3 ?_ | refine AtT.kload tk3 ?_)))
        all_goals (first | refine AtT.kpass ?_ | refine AtT.kpassU ?_ | ((refine AtT.kmove ?_)))
        all_goals (first | refine AtT.kpass ?_ | refine AtT.kpassU ?_ | ((refine AtT.kmove ?_)))
        all_goals (first | refine AtT.kpass ?_ | refine AtT.kpassU ?_ | ((first | refine AtT.ksubt ?_ | refine AtT.ksubW ?_)))
        all_goals (first | refine AtT.kpass ?_ | refine AtT.kpassU ?_ | ((refine AtT.kidx Tryz.underlying38 tk3 ?_) ; (intro p36 e36 he36 hc36)))
        all_goals (first | refine AtT.kpass ?_ | refine AtT.kpassU ?_ | ((first | refine AtT.kloadO tk3 ?_ | refine AtT.kload tk3 ?_)))
        all_goals (first | refine AtT.kpass ?_ | refine AtT.kpassU ?_ | ((refine AtT.kleq ?_)))
        all_goals (first | refine AtT.kpass ?_ | refine AtT.kpassU ?_ | ((refine AtT.kpick ?_)))
        all_goals (refine AtT.kpick ?_)
        all_goals refine AtT.done ?_
        all_goals (refine At.nrm ?_)
        refine At.condT rfl rfl ?_
        refine At.nrm ?_
        refine At.ktext (.q 0 .done) ?_
        refine AtT.kassign ?_
        refine AtT.done ?_
        refine At.nrm ?_
        exact At.ret1 rfl (.tmp rfl) (by rw [hbad (by omega)])
      by_cases c2 : n ≤ x
      · refine At.draw (.q 0 (.q 1 (.q 2 (.q 3 (.q 4 (.q 5 (.q 6 (.q 7 (.q 8 (.q 9 (.q 10 (.q 11 (.q 12 (.q 13 (.q 14 (.q 15 (.q 16 (.q 17 (.q 18 (.q 19 (.q 20 (.q 21 (.q 22 (.q 23 (.q 24 (.q 25 (.q 26 (.q 27 (.q 28 .done))))))))))))))))))))))))))))) ffm (by kernel_rfl) ?_
        refine AtT.kmove ?_
        refine AtT.kmove ?_
        refine AtT.kidx Tryz.underlying38 tk3 ?_
        intro p14 e14 he14 hc14
        obtain rfl : e14 = x := by have : l[k]? = some e14 := (by simpa using he14); rw [hx] at this; simpa using this.symm
        first | refine AtT.kloadO tk3 ?_ | refine AtT.kload tk3 ?_
        refine AtT.klss ?_
        refine AtT.setF (d := 16) rfl (c1) ?_
        refine AtT.kmove ?_
        all_goals (first | refine AtT.kL 17 ?_ | refine AtT.pcase (d := 17) rfl (fun hg17 => ?_) (fun hg17 => ?_) | refine AtT.bcase (d := 17) rfl (fun hg17 => ?_) (fun hg17 => ?_))
        all_goals (first | refine AtT.kpass ?_ | refine AtT.kpassU ?_ | ((refine AtT.kmove ?_)))
        all_goals (first | refine AtT.kpass ?_ | refine AtT.kpassU ?_ | ((refine AtT.kmove ?_)))
        all_goals (first | refine AtT.kpass ?_ | refine AtT.kpassU ?_ | ((refine AtT.kidx Tryz.underlying38 tk3 ?_) ; (intro p20 e20 he20 hc20)))
        all_goals (obtain rfl : e20 = e14 := by have : l[k]? = some e20 := (by simpa using he20); rw [hx] at this; simpa using this.symm)
        all_goals (first | refine AtT.kpass ?_ | refine AtT.kpassU ?_ | ((first | refine AtT.kloadO tk3 ?_ | refine AtT.kload tk3 ?_)))
        all_goals (first | refine AtT.kpass ?_ | refine AtT.kpassU ?_ | ((refine AtT.kmove ?_)))
        all_goals (first | refine AtT.kpass ?_ | refine AtT.kpassU ?_ | ((refine AtT.kgeq ?_)))
        all_goals (refine AtT.setT (d := 23) rfl (c2) ?_)
        all_goals (refine AtT.kpick ?_)
        all_goals (refine AtT.kmove ?_)
        all_goals (first | refine AtT.kL 25 ?_ | refine AtT.pcase (d := 25) rfl (fun hg25 => ?_) (fun hg25 => ?_) | refine AtT.bcase (d := 25) rfl (fun hg25 => ?_) (fun hg25 => ?_))
        all_goals (first | refine AtT.kpass ?_ | refine AtT.kpassU ?_ | ((refine AtT.kmove ?_)))
        all_goals (first | refine AtT.kpass ?_ | refine AtT.kpassU ?_ | ((refine AtT.kgtr ?_)))
        all_goals (first | refine AtT.kpass ?_ | refine AtT.kpassU ?_ | ((refine AtT.kmove ?_)))
        all_goals (first | refine AtT.kL 28 ?_ | refine AtT.pcase (d := 28) rfl (fun hg28 => ?_) (fun hg28 => ?_) | refine AtT.bcase (d := 28) rfl (fun hg28 => ?_) (fun hg28 => ?_))
        all_goals (first | refine AtT.kpass ?_ | refine AtT.kpassU ?_ | ((refine AtT.kmove ?_)))
        all_goals (first | refine AtT.kpass ?_ | refine AtT.kpassU ?_ | ((refine AtT.kmove ?_)))
        all_goals (first | refine AtT.kpass ?_ | refine AtT.kpassU ?_ | ((refine AtT.kidx Tryz.underlying38 tk3 ?_) ; (intro p31 e31 he31 hc31)))
        all_goals (first | refine AtT.kpass ?_ | refine AtT.kpassU ?_ | ((first | refine AtT.kloadO tk3 ?_ | refine AtT.kload tk3 ?_)))
        all_goals (first | refine AtT.kpass ?_ | refine AtT.kpassU ?_ | ((refine AtT.kmove ?_)))
        all_goals (first | refine AtT.kpass ?_ | refine AtT.kpassU ?_ | ((refine AtT.kmove ?_)))
        all_goals (first | refine AtT.kpass ?_ | refine AtT.kpassU ?_ | ((first | refine AtT.ksubt ?_ | refine AtT.ksubW ?_)))
        all_goals (first | refine AtT.kpass ?_ | refine AtT.kpassU ?_ | ((refine AtT.kidx Tryz.underlying38 tk3 ?_) ; (intro p36 e36 he36 hc36)))
        all_goals (first | refine AtT.kpass ?_ | refine AtT.kpassU ?_ | ((first | refine AtT.kloadO tk3 ?_ | refine AtT.kload tk3 ?_)))
        all_goals (first | refine AtT.kpass ?_ | refine AtT.kpassU ?_ | ((refine AtT.kleq ?_)))
        all_goals (first | refine AtT.kpass ?_ | refine AtT.kpassU ?_ | ((refine AtT.kpick ?_)))
        all_goals (refine AtT.kpick ?_)
        all_goals refine AtT.done ?_
        all_goals (refine At.nrm ?_)
        refine At.condT rfl rfl ?_
        refine At.nrm ?_
        refine At.ktext (.q 0 .done) ?_
        refine AtT.kassign ?_
        refine AtT.done ?_
        refine At.nrm ?_
        exact At.ret1 rfl (.tmp rfl) (by rw [hbad (by omega)])
      by_cases c3 : 0 < (k : Int)
      · obtain ⟨y, hy⟩ : ∃ y, l[k - 1]? = some y := ⟨_, List.getElem?_eq_getElem (by omega)⟩
        have hpy : prevN l k = y + 1 := by
          obtain ⟨m, rfl⟩ : ∃ m, k = m + 1 := ⟨k - 1, by omega⟩
          have : l[m]? = some y := by simpa using hy
          simp [prevN, List.getD, this]
        by_cases c4 : x ≤ y
        · refine At.draw (.q 0 (.q 1 (.q 2 (.q 3 (.q 4 (.q 5 (.q 6 (.q 7 (.q 8 (.q 9 (.q 10 (.q 11 (.q 12 (.q 13 (.q 14 (.q 15 (.q 16 (.q 17 (.q 18 (.q 19 (.q 20 (.q 21 (.q 22 (.q 23 (.q 24 (.q 25 (.q 26 (.q 27 (.q 28 .done))))))))))))))))))))))))))))) ffm (by kernel_rfl) ?_
          refine AtT.kmove ?_
          refine AtT.kmove ?_
          refine AtT.kidx Tryz.underlying38 tk3 ?_
          intro p14 e14 he14 hc14
          obtain rfl : e14 = x := by have : l[k]? = some e14 := (by simpa using he14); rw [hx] at this; simpa using this.symm
          first | refine AtT.kloadO tk3 ?_ | refine AtT.kload tk3 ?_
          refine AtT.klss ?_
          refine AtT.setF (d := 16) rfl (c1) ?_
          refine AtT.kmove ?_
          all_goals (first | refine AtT.kL 17 ?_ | refine AtT.pcase (d := 17) rfl (fun hg17 => ?_) (fun hg17 => ?_) | refine AtT.bcase (d := 17) rfl (fun hg17 => ?_) (fun hg17 => ?_))
          all_goals (first | refine AtT.kpass ?_ | refine AtT.kpassU ?_ | ((refine AtT.kmove ?_)))
          all_goals (first | refine AtT.kpass ?_ | refine AtT.kpassU ?_ | ((refine AtT.kmove ?_)))
          all_goals (first | refine AtT.kpass ?_ | refine AtT.kpassU ?_ | ((refine AtT.kidx Tryz.underlying38 tk3 ?_) ; (intro p20 e20 he20 hc20)))
          all_goals (obtain rfl : e20 = e14 := by have : l[k]? = some e20 := (by simpa using he20); rw [hx] at this; simpa using this.symm)
          all_goals (first | refine AtT.kpass ?_ | refine AtT.kpassU ?_ | ((first | refine AtT.kloadO tk3 ?_ | refine AtT.kload tk3 ?_)))
          all_goals (first | refine AtT.kpass ?_ | refine AtT.kpassU ?_ | ((refine AtT.kmove ?_)))
          all_goals (first | refine AtT.kpass ?_ | refine AtT.kpassU ?_ | ((refine AtT.kgeq ?_)))
          all_goals (refine AtT.setF (d := 23) rfl (c2) ?_)
          all_goals (refine AtT.kpick ?_)
          all_goals (refine AtT.kmove ?_)
          all_goals (first | refine AtT.kL 25 ?_ | refine AtT.pcase (d := 25) rfl (fun hg25 => ?_) (fun hg25 => ?_) | refine AtT.bcase (d := 25) rfl (fun hg25 => ?_) (fun hg25 => ?_))
          all_goals (first | refine AtT.kpass ?_ | refine AtT.kpassU ?_ | ((refine AtT.kmove ?_)))
          all_goals (first | refine AtT.kpass ?_ | refine AtT.kpassU ?_ | ((refine AtT.kgtr ?_)))
          all_goals (refine AtT.setT (d := 27) rfl (c3) ?_)
          all_goals (first | refine AtT.kpass ?_ | refine AtT.kpassU ?_ | ((refine AtT.kmove ?_)))
          all_goals (first | refine AtT.kL 28 ?_ | refine AtT.pcase (d := 28) rfl (fun hg28 => ?_) (fun hg28 => ?_) | refine AtT.bcase (d := 28) rfl (fun hg28 => ?_) (fun hg28 => ?_))
          all_goals (first | refine AtT.kpass ?_ | refine AtT.kpassU ?_ | ((refine AtT.kmove ?_)))
          all_goals (first | refine AtT.kpass ?_ | refine AtT.kpassU ?_ | ((refine AtT.kmove ?_)))
          all_goals (first | refine AtT.kpass ?_ | refine AtT.kpassU ?_ | ((refine AtT.kidx Tryz.underlying38 tk3 ?_) ; (intro p31 e31 he31 hc31)))
          all_goals (obtain rfl : e31 = e20 := by have : l[k]? = some e31 := (by simpa using he31); rw [hx] at this; simpa using this.symm)
          all_goals (first | refine AtT.kpass ?_ | refine AtT.kpassU ?_ | ((first | refine AtT.kloadO tk3 ?_ | refine AtT.kload tk3 ?_)))
          all_goals (first | refine AtT.kpass ?_ | refine AtT.kpassU ?_ | ((refine AtT.kmove ?_)))
          all_goals (first | refine AtT.kpass ?_ | refine AtT.kpassU ?_ | ((refine AtT.kmove ?_)))
          all_goals (first | refine AtT.kpass ?_ | refine AtT.kpassU ?_ | ((first | refine AtT.ksubt ?_ | refine AtT.ksubW ?_)))
          all_goals (first | refine AtT.kpass ?_ | refine AtT.kpassU ?_ | ((refine AtT.kidx Tryz.underlying38 tk3 ?_) ; (intro p36 e36 he36 hc36)))
          all_goals (obtain rfl : e36 = y := by have : l[k - 1]? = some e36 := (by rw [← he36]; congr 1; omega); rw [hy] at this; simpa using this.symm)
          all_goals (first | refine AtT.kpass ?_ | refine AtT.kpassU ?_ | ((first | refine AtT.kloadO tk3 ?_ | refine AtT.kload tk3 ?_)))
          all_goals (first | refine AtT.kpass ?_ | refine AtT.kpassU ?_ | ((refine AtT.kleq ?_)))
          all_goals (refine AtT.setT (d := 38) rfl (c4) ?_)
          all_goals (first | refine AtT.kpass ?_ | refine AtT.kpassU ?_ | ((refine AtT.kpick ?_)))
          all_goals (refine AtT.kpick ?_)
          all_goals refine AtT.done ?_
          all_goals (refine At.nrm ?_)
          refine At.condT rfl rfl ?_
          refine At.nrm ?_
          refine At.ktext (.q 0 .done) ?_
          refine AtT.kassign ?_
          refine AtT.done ?_
          refine At.nrm ?_
          exact At.ret1 rfl (.tmp rfl) (by rw [hbad (by omega)])
        · refine At.draw (.q 0 (.q 1 (.q 2 (.q 3 (.q 4 (.q 5 (.q 6 (.q 7 (.q 8 (.q 9 (.q 10 (.q 11 (.q 12 (.q 13 (.q 14 (.q 15 (.q 16 (.q 17 (.q 18 (.q 19 (.q 20 (.q 21 (.q 22 (.q 23 (.q 24 (.q 25 (.q 26 (.q 27 (.q 28 .done))))))))))))))))))))))))))))) ffm (by kernel_rfl) ?_
          refine AtT.kmove ?_
          refine AtT.kmove ?_
          refine AtT.kidx Tryz.underlying38 tk3 ?_
          intro p14 e14 he14 hc14
          obtain rfl : e14 = x := by have : l[k]? = some e14 := (by simpa using he14); rw [hx] at this; simpa using this.symm
          first | refine AtT.kloadO tk3 ?_ | refine AtT.kload tk3 ?_
          refine AtT.klss ?_
          refine AtT.setF (d := 16) rfl (c1) ?_
          refine AtT.kmove ?_
          all_goals (first | refine AtT.kL 17 ?_ | refine AtT.pcase (d := 17) rfl (fun hg17 => ?_) (fun hg17 => ?_) | refine AtT.bcase (d := 17) rfl (fun hg17 => ?_) (fun hg17 => ?_))
          all_goals (first | refine AtT.kpass ?_ | refine AtT.kpassU ?_ | ((refine AtT.kmove ?_)))
          all_goals (first | refine AtT.kpass ?_ | refine AtT.kpassU ?_ | ((refine AtT.kmove ?_)))
          all_goals (first | refine AtT.kpass ?_ | refine AtT.kpassU ?_ | ((refine AtT.kidx Tryz.underlying38 tk3 ?_) ; (intro p20 e20 he20 hc20)))
          all_goals (obtain rfl : e20 = e14 := by have : l[k]? = some e20 := (by simpa using he20); rw [hx] at this; simpa using this.symm)
          all_goals (first | refine AtT.kpass ?_ | refine AtT.kpassU ?_ | ((first | refine AtT.kloadO tk3 ?_ | refine AtT.kload tk3 ?_)))
          all_goals (first | refine AtT.kpass ?_ | refine AtT.kpassU ?_ | ((refine AtT.kmove ?_)))
          all_goals (first | refine AtT.kpass ?_ | refine AtT.kpassU ?_ | ((refine AtT.kgeq ?_)))
          all_goals (refine AtT.setF (d := 23) rfl (c2) ?_)
          all_goals (refine AtT.kpick ?_)
          all_goals (refine AtT.kmove ?_)
          all_goals (first | refine AtT.kL 25 ?_ | refine AtT.pcase (d := 25) rfl (fun hg25 => ?_) (fun hg25 => ?_) | refine AtT.bcase (d := 25) rfl (fun hg25 => ?_) (fun hg25 => ?_))
          all_goals (first | refine AtT.kpass ?_ | refine AtT.kpassU ?_ | ((refine AtT.kmove ?_)))
          all_goals (first | refine AtT.kpass ?_ | refine AtT.kpassU ?_ | ((refine AtT.kgtr ?_)))
          all_goals (refine AtT.setT (d := 27) rfl (c3) ?_)
          all_goals (first | refine AtT.kpass ?_ | refine AtT.kpassU ?_ | ((refine AtT.kmove ?_)))
          all_goals (first | refine AtT.kL 28 ?_ | refine AtT.pcase (d := 28) rfl (fun hg28 => ?_) (fun hg28 => ?_) | refine AtT.bcase (d := 28) rfl (fun hg28 => ?_) (fun hg28 => ?_))
          all_goals (first | refine AtT.kpass ?_ | refine AtT.kpassU ?_ | ((refine AtT.kmove ?_)))
          all_goals (first | refine AtT.kpass ?_ | refine AtT.kpassU ?_ | ((refine AtT.kmove ?_)))
          all_goals (first | refine AtT.kpass ?_ | refine AtT.kpassU ?_ | ((refine AtT.kidx Tryz.underlying38 tk3 ?_) ; (intro p31 e31 he31 hc31)))
          all_goals (obtain rfl : e31 = e20 := by have : l[k]? = some e31 := (by simpa using he31); rw [hx] at this; simpa using this.symm)
          all_goals (first | refine AtT.kpass ?_ | refine AtT.kpassU ?_ | ((first | refine AtT.kloadO tk3 ?_ | refine AtT.kload tk3 ?_)))
          all_goals (first | refine AtT.kpass ?_ | refine AtT.kpassU ?_ | ((refine AtT.kmove ?_)))
          all_goals (first | refine AtT.kpass ?_ | refine AtT.kpassU ?_ | ((refine AtT.kmove ?_)))
          all_goals (first | refine AtT.kpass ?_ | refine AtT.kpassU ?_ | ((first | refine AtT.ksubt ?_ | refine AtT.ksubW ?_)))
          all_goals (first | refine AtT.kpass ?_ | refine AtT.kpassU ?_ | ((refine AtT.kidx Tryz.underlying38 tk3 ?_) ; (intro p36 e36 he36 hc36)))
          all_goals (obtain rfl : e36 = y := by have : l[k - 1]? = some e36 := (by rw [← he36]; congr 1; omega); rw [hy] at this; simpa using this.symm)
          all_goals (first | refine AtT.kpass ?_ | refine AtT.kpassU ?_ | ((first | refine AtT.kloadO tk3 ?_ | refine AtT.kload tk3 ?_)))
          all_goals (first | refine AtT.kpass ?_ | refine AtT.kpassU ?_ | ((refine AtT.kleq ?_)))
          all_goals (refine AtT.setF (d := 38) rfl (c4) ?_)
          all_goals (first | refine AtT.kpass ?_ | refine AtT.kpassU ?_ | ((refine AtT.kpick ?_)))
          all_goals (refine AtT.kpick ?_)
          all_goals refine AtT.done ?_
          all_goals (refine At.nrm ?_)
          refine At.condF rfl rfl ?_
          refine At.nrm ?_
          refine At.ktext (.q 0 (.q 1 (.q 2 .done))) ?_
          refine AtT.kmove ?_
          first | refine AtT.kadd ?_ | refine AtT.kaddW ?_
          refine AtT.kassign ?_
          refine AtT.done ?_
          refine At.nrm ?_
          refine At.round (k + 1) ?_ ?_ ?_ ?_
          · show l.length - (k + 1) < l.length - k; omega
          · refine ⟨rfl, by omega, fun j hj => ?_⟩
            by_cases hjk : j = k
            · subst hjk; simp only [okAt, hgx]; exact decide_eq_true (by omega)
            · exact hok j (by omega)
          · exact ⟨rfl, rfl, ivs (by omega), trivial⟩
          · exact Pt.auto
      · have hk0 : prevN l k = 0 := by
          obtain rfl : k = 0 := by omega
          rfl
        refine At.draw (.q 0 (.q 1 (.q 2 (.q 3 (.q 4 (.q 5 (.q 6 (.q 7 (.q 8 (.q 9 (.q 10 (.q 11 (.q 12 (.q 13 (.q 14 (.q 15 (.q 16 (.q 17 (.q 18 (.q 19 (.q 20 (.q 21 (.q 22 (.q 23 (.q 24 (.q 25 (.q 26 (.q 27 (.q 28 .done))))))))))))))))))))))))))))) ffm (by kernel_rfl) ?_
        refine AtT.kmove ?_
        refine AtT.kmove ?_
        refine AtT.kidx Tryz.underlying38 tk3 ?_
        intro p14 e14 he14 hc14
        obtain rfl : e14 = x := by have : l[k]? = some e14 := (by simpa using he14); rw [hx] at this; simpa using this.symm
        first | refine AtT.kloadO tk3 ?_ | refine AtT.kload tk3 ?_
        refine AtT.klss ?_
        refine AtT.setF (d := 16) rfl (c1) ?_
        refine AtT.kmove ?_
        all_goals (first | refine AtT.kL 17 ?_ | refine AtT.pcase (d := 17) rfl (fun hg17 => ?_) (fun hg17 => ?_) | refine AtT.bcase (d := 17) rfl (fun hg17 => ?_) (fun hg17 => ?_))
        all_goals (first | refine AtT.kpass ?_ | refine AtT.kpassU ?_ | ((refine AtT.kmove ?_)))
        all_goals (first | refine AtT.kpass ?_ | refine AtT.kpassU ?_ | ((refine AtT.kmove ?_)))
        all_goals (first | refine AtT.kpass ?_ | refine AtT.kpassU ?_ | ((refine AtT.kidx Tryz.underlying38 tk3 ?_) ; (intro p20 e20 he20 hc20)))
        all_goals (obtain rfl : e20 = e14 := by have : l[k]? = some e20 := (by simpa using he20); rw [hx] at this; simpa using this.symm)
        all_goals (first | refine AtT.kpass ?_ | refine AtT.kpassU ?_ | ((first | refine AtT.kloadO tk3 ?_ | refine AtT.kload tk3 ?_)))
        all_goals (first | refine AtT.kpass ?_ | refine AtT.kpassU ?_ | ((refine AtT.kmove ?_)))
        all_goals (first | refine AtT.kpass ?_ | refine AtT.kpassU ?_ | ((refine AtT.kgeq ?_)))
        all_goals (refine AtT.setF (d := 23) rfl (c2) ?_)
        all_goals (refine AtT.kpick ?_)
        all_goals (refine AtT.kmove ?_)
        all_goals (first | refine AtT.kL 25 ?_ | refine AtT.pcase (d := 25) rfl (fun hg25 => ?_) (fun hg25 => ?_) | refine AtT.bcase (d := 25) rfl (fun hg25 => ?_) (fun hg25 => ?_))
        all_goals (first | refine AtT.kpass ?_ | refine AtT.kpassU ?_ | ((refine AtT.kmove ?_)))
        all_goals (first | refine AtT.kpass ?_ | refine AtT.kpassU ?_ | ((refine AtT.kgtr ?_)))
        all_goals (refine AtT.setF (d := 27) rfl (c3) ?_)
        all_goals (first | refine AtT.kpass ?_ | refine AtT.kpassU ?_ | ((refine AtT.kmove ?_)))
        all_goals (first | refine AtT.kL 28 ?_ | refine AtT.pcase (d := 28) rfl (fun hg28 => ?_) (fun hg28 => ?_) | refine AtT.bcase (d := 28) rfl (fun hg28 => ?_) (fun hg28 => ?_))
        all_goals (first | refine AtT.kpass ?_ | refine AtT.kpassU ?_ | ((refine AtT.kmove ?_)))
        all_goals (first | refine AtT.kpass ?_ | refine AtT.kpassU ?_ | ((refine AtT.kmove ?_)))
        all_goals (first | refine AtT.kpass ?_ | refine AtT.kpassU ?_ | ((refine AtT.kidx Tryz.underlying38 tk3 ?_) ; (intro p31 e31 he31 hc31)))
        all_goals (first | refine AtT.kpass ?_ | refine AtT.kpassU ?_ | ((first | refine AtT.kloadO tk3 ?_ | refine AtT.kload tk3 ?_)))
        all_goals (first | refine AtT.kpass ?_ | refine AtT.kpassU ?_ | ((refine AtT.kmove ?_)))
        all_goals (first | refine AtT.kpass ?_ | refine AtT.kpassU ?_ | ((refine AtT.kmove ?_)))
        all_goals (first | refine AtT.kpass ?_ | refine AtT.kpassU ?_ | ((first | refine AtT.ksubt ?_ | refine AtT.ksubW ?_)))
        all_goals (first | refine AtT.kpass ?_ | refine AtT.kpassU ?_ | ((refine AtT.kidx Tryz.underlying38 tk3 ?_) ; (intro p36 e36 he36 hc36)))
        all_goals (first | refine AtT.kpass ?_ | refine AtT.kpassU ?_ | ((first | refine AtT.kloadO tk3 ?_ | refine AtT.kload tk3 ?_)))
        all_goals (first | refine AtT.kpass ?_ | refine AtT.kpassU ?_ | ((refine AtT.kleq ?_)))
        all_goals (first | refine AtT.kpass ?_ | refine AtT.kpassU ?_ | ((refine AtT.kpick ?_)))
        all_goals (refine AtT.kpick ?_)
        all_goals refine AtT.done ?_
        all_goals (refine At.nrm ?_)
        refine At.condF rfl rfl ?_
        refine At.nrm ?_
        refine At.ktext (.q 0 (.q 1 (.q 2 .done))) ?_
        refine AtT.kmove ?_
        first | refine AtT.kadd ?_ | refine AtT.kaddW ?_
        refine AtT.kassign ?_
        refine AtT.done ?_
        refine At.nrm ?_
        refine At.round (k + 1) ?_ ?_ ?_ ?_
        · show l.length - (k + 1) < l.length - k; omega
        · refine ⟨rfl, by omega, fun j hj => ?_⟩
          by_cases hjk : j = k
          · subst hjk; simp only [okAt, hgx]; exact decide_eq_true (by omega)
          · exact hok j (by omega)
        · exact ⟨rfl, rfl, ivs (by omega), trivial⟩
        · exact Pt.auto
    · obtain rfl : k = l.length := by omega
      refine At.nrm ?_
      refine At.ktext (.q 0 .done) ?_
      refine AtT.kassign ?_
      refine AtT.done ?_
      refine At.nrm ?_
      exact At.ret1 rfl (.tmp rfl) (by rw [lstB_true hok])
theorem ints_f (l m : List Int) (V : View) (v u : Value) (hs : SlI V v l) (hu : SlI V u m) : Fnc Tryz.prog 33 [v, u] V fun r _ => r = .bool (decide (l = m)) := by
  have hlen := hs.lenLe
  obtain ⟨a, c, rfl, k1, k2, _⟩ := id hs
  obtain ⟨a', c', rfl, k3, k4, _⟩ := id hu
  clear k1 k2 k3 k4
  refine fn_of Tryz.func33 rfl Tryz.ntmps33 (Nat.le_of_ble_eq_true rfl) ?_
  intro w0 hw0
  refine At.nrm ?_
  refine At.ktext (.q 0 .done) ?_
  refine AtT.kassign ?_
  refine AtT.done ?_
  refine At.nrm ?_
  refine At.ktext (.q 0 (.q 1 (.q 2 (.q 3 (.q 4 .done))))) ?_
  refine AtT.kmove ?_
  first | refine AtT.klenS Tryz.underlying38 ?_ | refine AtT.klenR Tryz.underlying38 ?_
  refine AtT.kmove ?_
  first | refine AtT.klenS Tryz.underlying38 ?_ | refine AtT.klenR Tryz.underlying38 ?_
  refine AtT.kneI ?_
  refine AtT.done ?_
  refine At.nrm ?_
  refine At.condP rfl (fun hb => ?_) (fun hb => ?_)
  · refine At.nrm ?_
    refine At.ktext (.q 0 .done) ?_
    refine AtT.kassign ?_
    refine AtT.done ?_
    refine At.nrm ?_
    refine At.ret1 rfl (.tmp rfl) ?_
    rw [decide_eq_false]
    rintro rfl
    exact hb rfl
  have hlm : l.length = m.length := by omega
  refine At.nrm ?_
  refine At.ktext (.q 0 .done) ?_
  refine AtT.kassign ?_
  refine AtT.done ?_
  refine At.nrm ?_
  refine At.lp (ι := Nat) (KS := fun k => [(0, .slice a l.length c), (1, .slice a' m.length c'), (5, iv k)]) (OS := fun _ => []) (VS := fun k V' => V' = V ∧ k ≤ l.length ∧ ∀ j, j < k → l[j]? = m[j]?) (μ := fun k => l.length - k) 0 ?_ ?_ ?_ ?_
  · exact ⟨rfl, rfl, rfl, trivial⟩
  · exact Pt.auto
  · exact ⟨rfl, Nat.zero_le _, fun j hj => absurd hj (Nat.not_lt_zero j)⟩
  · rintro k V' ks' O' ⟨rfl, hkl, hok⟩ hk hO hl2
    subst hk hO
    refine At.nrm ?_
    refine At.ktext (.q 0 (.q 1 (.q 2 (.q 3 .done)))) ?_
    refine AtT.kmove ?_
    refine AtT.kmove ?_
    first | refine AtT.klenS Tryz.underlying38 ?_ | refine AtT.klenR Tryz.underlying38 ?_
    refine AtT.klss ?_
    refine AtT.done ?_
    refine At.nrm ?_
    refine At.condP rfl (fun hp => ?_) (fun hp => ?_)
    · obtain ⟨x, hx⟩ : ∃ x, l[k]? = some x := ⟨_, List.getElem?_eq_getElem (by omega)⟩
      obtain ⟨y, hy⟩ : ∃ y, m[k]? = some y := ⟨_, List.getElem?_eq_getElem (by omega)⟩
      refine At.nrm ?_
      refine At.draw (.q 0 (.q 1 (.q 2 (.q 3 (.q 4 (.q 5 (.q 6 (.q 7 (.q 8 .done))))))))) ffm (by kernel_rfl) ?_
      refine AtT.kmove ?_
      refine AtT.kmove ?_
      refine AtT.kidx Tryz.underlying38 tk3 ?_
      intro p19 e19 he19 hc19
      obtain rfl : e19 = x := by have : l[k]? = some e19 := (by simpa using he19); rw [hx] at this; simpa using this.symm
      first | refine AtT.kloadO tk3 ?_ | refine AtT.kload tk3 ?_
      refine AtT.kmove ?_
      refine AtT.kmove ?_
      refine AtT.kidx Tryz.underlying38 tk3 ?_
      intro p23 e23 he23 hc23
      obtain rfl : e23 = y := by have : m[k]? = some e23 := (by simpa using he23); rw [hy] at this; simpa using this.symm
      first | refine AtT.kloadO tk3 ?_ | refine AtT.kload tk3 ?_
      refine AtT.kneI ?_
      refine AtT.done ?_
      refine At.nrm ?_
      refine At.condP rfl (fun hc => ?_) (fun hc => ?_)
      · refine At.nrm ?_
        refine At.ktext (.q 0 .done) ?_
        refine AtT.kassign ?_
        refine AtT.done ?_
        refine At.nrm ?_
        refine At.ret1 rfl (.tmp rfl) ?_
        rw [decide_eq_false]
        rintro rfl
        rw [hx] at hy
        cases hy
        exact hc rfl
      · have hxy : l[k]? = m[k]? := by rw [hx, hy, Decidable.not_not.1 hc]
        refine At.nrm ?_
        refine At.ktext (.q 0 (.q 1 (.q 2 .done))) ?_
        refine AtT.kmove ?_
        first | refine AtT.kadd ?_ | refine AtT.kaddW ?_
        refine AtT.kassign ?_
        refine AtT.done ?_
        refine At.nrm ?_
        refine At.round (k + 1) ?_ ?_ ?_ ?_
        · show l.length - (k + 1) < l.length - k; omega
        · refine ⟨rfl, by omega, fun j hj => ?_⟩
          by_cases hjk : j = k
          · subst hjk; exact hxy
          · exact hok j (by omega)
        · exact ⟨rfl, rfl, ivs (by omega), trivial⟩
        · exact Pt.auto
    · obtain rfl : k = l.length := by omega
      have hlm2 : l = m := List.ext_getElem? fun j => by
        by_cases hj : j < l.length
        · exact hok j hj
        · rw [List.getElem?_eq_none (by omega), List.getElem?_eq_none (by omega)]
      refine At.nrm ?_
      refine At.ktext (.q 0 .done) ?_
      refine AtT.kassign ?_
      refine AtT.done ?_
      refine At.nrm ?_
      exact At.ret1 rfl (.tmp rfl) (by rw [decide_eq_true hlm2])
theorem before_f (l m : List Int) (V : View) (v u : Value) (hs : SlI V v l) (hu : SlI V u m) : Fnc Tryz.prog 79 [v, u] V fun r _ => r = .bool (befB l m) := by
  have hlen := hs.lenLe
  have hlen2 := hu.lenLe
  obtain ⟨a, c, rfl, k1, k2, _⟩ := id hs
  obtain ⟨a', c', rfl, k3, k4, _⟩ := id hu
  clear k1 k2 k3 k4
  refine fn_of Tryz.func79 rfl Tryz.ntmps79 (Nat.le_of_ble_eq_true rfl) ?_
  intro w0 hw0
  refine At.nrm ?_
  refine At.ktext (.q 0 .done) ?_
  refine AtT.kassign ?_
  refine AtT.done ?_
  refine At.nrm ?_
  refine At.ktext (.q 0 .done) ?_
  refine AtT.kassign ?_
  refine AtT.done ?_
  refine At.nrm ?_
  refine At.lp (ι := Nat) (KS := fun k => [(0, .slice a l.length c), (1, .slice a' m.length c'), (5, iv k)]) (OS := fun _ => []) (VS := fun k V' => V' = V ∧ k ≤ l.length ∧ k ≤ m.length ∧ befB l m = befB (l.drop k) (m.drop k)) (μ := fun k => l.length - k) 0 ?_ ?_ ?_ ?_
  · exact ⟨rfl, rfl, rfl, trivial⟩
  · exact Pt.auto
  · exact ⟨rfl, Nat.zero_le _, Nat.zero_le _, by simp⟩
  · rintro k V' ks' O' ⟨rfl, hkl, hkm, hok⟩ hk hO hl2
    subst hk hO
    have hend : ¬ (k < l.length ∧ k < m.length) → befB l m = decide ((l.length : Int) < (m.length : Int)) := fun h => by
      rw [hok, befB_end _ _ (by
        by_cases c1 : k < l.length
        · exact .inr (List.drop_eq_nil_of_le (by omega))
        · exact .inl (List.drop_eq_nil_of_le (by omega))), decide_eq_decide, List.length_drop, List.length_drop]
      omega
    refine At.nrm ?_
    by_cases c1 : (k : Int) < l.length
    rotate_left
    · refine At.ktext (.q 0 (.q 1 (.q 2 (.q 3 (.q 4 (.q 5 (.q 6 (.q 7 (.q 8 (.q 9 .done)))))))))) ?_
      refine AtT.kmove ?_
      refine AtT.kmove ?_
      first | refine AtT.klenS Tryz.underlying38 ?_ | refine AtT.klenR Tryz.underlying38 ?_
      refine AtT.klss ?_
      refine AtT.setF (d := 9) rfl (c1) ?_
      refine AtT.kmove ?_
      all_goals (first | refine AtT.kL 10 ?_ | refine AtT.pcase (d := 10) rfl (fun hg10 => ?_) (fun hg10 => ?_) | refine AtT.bcase (d := 10) rfl (fun hg10 => ?_) (fun hg10 => ?_))
      all_goals (first | refine AtT.kpass ?_ | refine AtT.kpassU ?_ | ((refine AtT.kmove ?_)))
      all_goals (first | refine AtT.kpass ?_ | refine AtT.kpassU ?_ | ((refine AtT.kmove ?_)))
      all_goals (first | refine AtT.kpass ?_ | refine AtT.kpassU ?_ | ((first | refine AtT.klenS Tryz.underlying38 ?_ | refine AtT.klenR Tryz.underlying38 ?_)))
      all_goals (first | refine AtT.kpass ?_ | refine AtT.kpassU ?_ | ((refine AtT.klss ?_)))
      all_goals (refine AtT.kpick ?_)
      all_goals refine AtT.done ?_
      all_goals (refine At.nrm ?_)
      refine At.condF rfl rfl ?_
      refine At.nrm ?_
      refine At.ktext (.q 0 (.q 1 (.q 2 (.q 3 (.q 4 (.q 5 .done)))))) ?_
      refine AtT.kmove ?_
      first | refine AtT.klenS Tryz.underlying38 ?_ | refine AtT.klenR Tryz.underlying38 ?_
      refine AtT.kmove ?_
      first | refine AtT.klenS Tryz.underlying38 ?_ | refine AtT.klenR Tryz.underlying38 ?_
      refine AtT.klss ?_
      refine AtT.kassign ?_
      refine AtT.done ?_
      refine At.nrm ?_
      exact At.ret1 rfl (.tmp rfl) (by rw [hend (by omega)])
    by_cases c2 : (k : Int) < m.length
    rotate_left
    · refine At.ktext (.q 0 (.q 1 (.q 2 (.q 3 (.q 4 (.q 5 (.q 6 (.q 7 (.q 8 (.q 9 .done)))))))))) ?_
      refine AtT.kmove ?_
      refine AtT.kmove ?_
      first | refine AtT.klenS Tryz.underlying38 ?_ | refine AtT.klenR Tryz.underlying38 ?_
      refine AtT.klss ?_
      refine AtT.setT (d := 9) rfl (c1) ?_
      refine AtT.kmove ?_
      all_goals (first | refine AtT.kL 10 ?_ | refine AtT.pcase (d := 10) rfl (fun hg10 => ?_) (fun hg10 => ?_) | refine AtT.bcase (d := 10) rfl (fun hg10 => ?_) (fun hg10 => ?_))
      all_goals (first | refine AtT.kpass ?_ | refine AtT.kpassU ?_ | ((refine AtT.kmove ?_)))
      all_goals (first | refine AtT.kpass ?_ | refine AtT.kpassU ?_ | ((refine AtT.kmove ?_)))
      all_goals (first | refine AtT.kpass ?_ | refine AtT.kpassU ?_ | ((first | refine AtT.klenS Tryz.underlying38 ?_ | refine AtT.klenR Tryz.underlying38 ?_)))
      all_goals (first | refine AtT.kpass ?_ | refine AtT.kpassU ?_ | ((refine AtT.klss ?_)))
      all_goals (refine AtT.setF (d := 14) rfl (c2) ?_)
      all_goals (refine AtT.kpick ?_)
      all_goals refine AtT.done ?_
      all_goals (refine At.nrm ?_)
      refine At.condF rfl rfl ?_
      refine At.nrm ?_
      refine At.ktext (.q 0 (.q 1 (.q 2 (.q 3 (.q 4 (.q 5 .done)))))) ?_
      refine AtT.kmove ?_
      first | refine AtT.klenS Tryz.underlying38 ?_ | refine AtT.klenR Tryz.underlying38 ?_
      refine AtT.kmove ?_
      first | refine AtT.klenS Tryz.underlying38 ?_ | refine AtT.klenR Tryz.underlying38 ?_
      refine AtT.klss ?_
      refine AtT.kassign ?_
      refine AtT.done ?_
      refine At.nrm ?_
      exact At.ret1 rfl (.tmp rfl) (by rw [hend (by omega)])
    refine At.ktext (.q 0 (.q 1 (.q 2 (.q 3 (.q 4 (.q 5 (.q 6 (.q 7 (.q 8 (.q 9 .done)))))))))) ?_
    refine AtT.kmove ?_
    refine AtT.kmove ?_
    first | refine AtT.klenS Tryz.underlying38 ?_ | refine AtT.klenR Tryz.underlying38 ?_
    refine AtT.klss ?_
    refine AtT.setT (d := 9) rfl (c1) ?_
    refine AtT.kmove ?_
    all_goals (first | refine AtT.kL 10 ?_ | refine AtT.pcase (d := 10) rfl (fun hg10 => ?_) (fun hg10 => ?_) | refine AtT.bcase (d := 10) rfl (fun hg10 => ?_) (fun hg10 => ?_))
    all_goals (first | refine AtT.kpass ?_ | refine AtT.kpassU ?_ | ((refine AtT.kmove ?_)))
    all_goals (first | refine AtT.kpass ?_ | refine AtT.kpassU ?_ | ((refine AtT.kmove ?_)))
    all_goals (first | refine AtT.kpass ?_ | refine AtT.kpassU ?_ | ((first | refine AtT.klenS Tryz.underlying38 ?_ | refine AtT.klenR Tryz.underlying38 ?_)))
    all_goals (first | refine AtT.kpass ?_ | refine AtT.kpassU ?_ | ((refine AtT.klss ?_)))
    all_goals (refine AtT.setT (d := 14) rfl (c2) ?_)
    all_goals (refine AtT.kpick ?_)
    all_goals refine AtT.done ?_
    all_goals (refine At.nrm ?_)
    refine At.condT rfl rfl ?_
    obtain ⟨x, hx⟩ : ∃ x, l[k]? = some x := ⟨_, List.getElem?_eq_getElem (by omega)⟩
    obtain ⟨y, hy⟩ : ∃ y, m[k]? = some y := ⟨_, List.getElem?_eq_getElem (by omega)⟩
    rw [drop_cons hx, drop_cons hy] at hok
    simp only [befB] at hok
    refine At.nrm ?_
    refine At.draw (.q 0 (.q 1 (.q 2 (.q 3 (.q 4 (.q 5 (.q 6 (.q 7 (.q 8 .done))))))))) ffm (by kernel_rfl) ?_
    refine AtT.kmove ?_
    refine AtT.kmove ?_
    refine AtT.kidx Tryz.underlying38 tk3 ?_
    intro p20 e20 he20 hc20
    obtain rfl : e20 = x := by have : l[k]? = some e20 := (by simpa using he20); rw [hx] at this; simpa using this.symm
    first | refine AtT.kloadO tk3 ?_ | refine AtT.kload tk3 ?_
    refine AtT.kmove ?_
    refine AtT.kmove ?_
    refine AtT.kidx Tryz.underlying38 tk3 ?_
    intro p24 e24 he24 hc24
    obtain rfl : e24 = y := by have : m[k]? = some e24 := (by simpa using he24); rw [hy] at this; simpa using this.symm
    first | refine AtT.kloadO tk3 ?_ | refine AtT.kload tk3 ?_
    refine AtT.kneI ?_
    refine AtT.done ?_
    refine At.nrm ?_
    refine At.condP rfl (fun hc => ?_) (fun hc => ?_)
    · rw [if_neg hc] at hok
      refine At.nrm ?_
      refine At.draw (.q 0 (.q 1 (.q 2 (.q 3 (.q 4 (.q 5 (.q 6 (.q 7 (.q 8 (.q 9 .done)))))))))) ffm (by kernel_rfl) ?_
      refine AtT.kmove ?_
      refine AtT.kmove ?_
      refine AtT.kidx Tryz.underlying38 tk3 ?_
      intro p29 e29 he29 hc29
      obtain rfl : e29 = e20 := by have : l[k]? = some e29 := (by simpa using he29); rw [hx] at this; simpa using this.symm
      first | refine AtT.kloadO tk3 ?_ | refine AtT.kload tk3 ?_
      refine AtT.kmove ?_
      refine AtT.kmove ?_
      refine AtT.kidx Tryz.underlying38 tk3 ?_
      intro p33 e33 he33 hc33
      obtain rfl : e33 = e24 := by have : m[k]? = some e33 := (by simpa using he33); rw [hy] at this; simpa using this.symm
      first | refine AtT.kloadO tk3 ?_ | refine AtT.kload tk3 ?_
      refine AtT.klss ?_
      refine AtT.kassign ?_
      refine AtT.done ?_
      refine At.nrm ?_
      exact At.ret1 rfl (.tmp rfl) (by rw [hok])
    · rw [if_pos (Decidable.not_not.1 hc)] at hok
      refine At.nrm ?_
      refine At.ktext (.q 0 (.q 1 (.q 2 .done))) ?_
      refine AtT.kmove ?_
      first | refine AtT.kadd ?_ | refine AtT.kaddW ?_
      refine AtT.kassign ?_
      refine AtT.done ?_
      refine At.nrm ?_
      refine At.round (k + 1) ?_ ?_ ?_ ?_
      · show l.length - (k + 1) < l.length - k; omega
      · exact ⟨rfl, by omega, by omega, hok⟩
      · exact ⟨rfl, rfl, ivs (by omega), trivial⟩
      · exact Pt.auto
theorem earlier_f (l m : List Int) (V : View) (v u : Value) (hs : SlI V v l) (hu : SlI V u m) : Fnc Tryz.prog 53 [v, u] V fun r _ => r = .bool (earB l m) := by
  have hlen := hs.lenLe
  have hlen2 := hu.lenLe
  obtain ⟨a, c, rfl, k1, k2, _⟩ := id hs
  obtain ⟨a', c', rfl, k3, k4, _⟩ := id hu
  clear k1 k2 k3 k4
  refine fn_of Tryz.func53 rfl Tryz.ntmps53 (Nat.le_of_ble_eq_true rfl) ?_
  intro w0 hw0
  refine At.nrm ?_
  refine At.ktext (.q 0 .done) ?_
  refine AtT.kassign ?_
  refine AtT.done ?_
  refine At.nrm ?_
  refine At.ktext (.q 0 .done) ?_
  refine AtT.kassign ?_
  refine AtT.done ?_
  refine At.nrm ?_
  refine At.lp (ι := Nat) (KS := fun k => [(0, .slice a l.length c), (1, .slice a' m.length c'), (5, iv k)]) (OS := fun _ => []) (VS := fun k V' => V' = V ∧ k ≤ l.length ∧ k ≤ m.length ∧ earB l m = earB (l.drop k) (m.drop k)) (μ := fun k => l.length - k) 0 ?_ ?_ ?_ ?_
  · exact ⟨rfl, rfl, rfl, trivial⟩
  · exact Pt.auto
  · exact ⟨rfl, Nat.zero_le _, Nat.zero_le _, by simp⟩
  · rintro k V' ks' O' ⟨rfl, hkl, hkm, hok⟩ hk hO hl2
    subst hk hO
    have hend : ¬ (k < l.length ∧ k < m.length) → earB l m = false := fun h => by
      rw [hok, earB_end _ _ (by
        by_cases c1 : k < l.length
        · exact .inr (List.drop_eq_nil_of_le (by omega))
        · exact .inl (List.drop_eq_nil_of_le (by omega)))]
    refine At.nrm ?_
    by_cases c1 : (k : Int) < l.length
    rotate_left
    · refine At.ktext (.q 0 (.q 1 (.q 2 (.q 3 (.q 4 (.q 5 (.q 6 (.q 7 (.q 8 (.q 9 .done)))))))))) ?_
      refine AtT.kmove ?_
      refine AtT.kmove ?_
      first | refine AtT.klenS Tryz.underlying38 ?_ | refine AtT.klenR Tryz.underlying38 ?_
      refine AtT.klss ?_
      refine AtT.setF (d := 9) rfl (c1) ?_
      refine AtT.kmove ?_
      all_goals (first | refine AtT.kL 10 ?_ | refine AtT.pcase (d := 10) rfl (fun hg10 => ?_) (fun hg10 => ?_) | refine AtT.bcase (d := 10) rfl (fun hg10 => ?_) (fun hg10 => ?_))
      all_goals (first | refine AtT.kpass ?_ | refine AtT.kpassU ?_ | ((refine AtT.kmove ?_)))
      all_goals (first | refine AtT.kpass ?_ | refine AtT.kpassU ?_ | ((refine AtT.kmove ?_)))
      all_goals (first | refine AtT.kpass ?_ | refine AtT.kpassU ?_ | ((first | refine AtT.klenS Tryz.underlying38 ?_ | refine AtT.klenR Tryz.underlying38 ?_)))
      all_goals (first | refine AtT.kpass ?_ | refine AtT.kpassU ?_ | ((refine AtT.klss ?_)))
      all_goals (refine AtT.kpick ?_)
      all_goals refine AtT.done ?_
      all_goals (refine At.nrm ?_)
      refine At.condF rfl rfl ?_
      refine At.nrm ?_
      refine At.ktext (.q 0 .done) ?_
      refine AtT.kassign ?_
      refine AtT.done ?_
      refine At.nrm ?_
      exact At.ret1 rfl (.tmp rfl) (by rw [hend (by omega)])
    by_cases c2 : (k : Int) < m.length
    rotate_left
    · refine At.ktext (.q 0 (.q 1 (.q 2 (.q 3 (.q 4 (.q 5 (.q 6 (.q 7 (.q 8 (.q 9 .done)))))))))) ?_
      refine AtT.kmove ?_
      refine AtT.kmove ?_
      first | refine AtT.klenS Tryz.underlying38 ?_ | refine AtT.klenR Tryz.underlying38 ?_
      refine AtT.klss ?_
      refine AtT.setT (d := 9) rfl (c1) ?_
      refine AtT.kmove ?_
      all_goals (first | refine AtT.kL 10 ?_ | refine AtT.pcase (d := 10) rfl (fun hg10 => ?_) (fun hg10 => ?_) | refine AtT.bcase (d := 10) rfl (fun hg10 => ?_) (fun hg10 => ?_))
      all_goals (first | refine AtT.kpass ?_ | refine AtT.kpassU ?_ | ((refine AtT.kmove ?_)))
      all_goals (first | refine AtT.kpass ?_ | refine AtT.kpassU ?_ | ((refine AtT.kmove ?_)))
      all_goals (first | refine AtT.kpass ?_ | refine AtT.kpassU ?_ | ((first | refine AtT.klenS Tryz.underlying38 ?_ | refine AtT.klenR Tryz.underlying38 ?_)))
      all_goals (first | refine AtT.kpass ?_ | refine AtT.kpassU ?_ | ((refine AtT.klss ?_)))
      all_goals (refine AtT.setF (d := 14) rfl (c2) ?_)
      all_goals (refine AtT.kpick ?_)
      all_goals refine AtT.done ?_
      all_goals (refine At.nrm ?_)
      refine At.condF rfl rfl ?_
      refine At.nrm ?_
      refine At.ktext (.q 0 .done) ?_
      refine AtT.kassign ?_
      refine AtT.done ?_
      refine At.nrm ?_
      exact At.ret1 rfl (.tmp rfl) (by rw [hend (by omega)])
    refine At.ktext (.q 0 (.q 1 (.q 2 (.q 3 (.q 4 (.q 5 (.q 6 (.q 7 (.q 8 (.q 9 .done)))))))))) ?_
    refine AtT.kmove ?_
    refine AtT.kmove ?_
    first | refine AtT.klenS Tryz.underlying38 ?_ | refine AtT.klenR Tryz.underlying38 ?_
    refine AtT.klss ?_
    refine AtT.setT (d := 9) rfl (c1) ?_
    refine AtT.kmove ?_
    all_goals (first | refine AtT.kL 10 ?_ | refine AtT.pcase (d := 10) rfl (fun hg10 => ?_) (fun hg10 => ?_) | refine AtT.bcase (d := 10) rfl (fun hg10 => ?_) (fun hg10 => ?_))
    all_goals (first | refine AtT.kpass ?_ | refine AtT.kpassU ?_ | ((refine AtT.kmove ?_)))
    all_goals (first | refine AtT.kpass ?_ | refine AtT.kpassU ?_ | ((refine AtT.kmove ?_)))
    all_goals (first | refine AtT.kpass ?_ | refine AtT.kpassU ?_ | ((first | refine AtT.klenS Tryz.underlying38 ?_ | refine AtT.klenR Tryz.underlying38 ?_)))
    all_goals (first | refine AtT.kpass ?_ | refine AtT.kpassU ?_ | ((refine AtT.klss ?_)))
    all_goals (refine AtT.setT (d := 14) rfl (c2) ?_)
    all_goals (refine AtT.kpick ?_)
    all_goals refine AtT.done ?_
    all_goals (refine At.nrm ?_)
    refine At.condT rfl rfl ?_
    obtain ⟨x, hx⟩ : ∃ x, l[k]? = some x := ⟨_, List.getElem?_eq_getElem (by omega)⟩
    obtain ⟨y, hy⟩ : ∃ y, m[k]? = some y := ⟨_, List.getElem?_eq_getElem (by omega)⟩
    rw [drop_cons hx, drop_cons hy] at hok
    simp only [earB] at hok
    refine At.nrm ?_
    refine At.draw (.q 0 (.q 1 (.q 2 (.q 3 (.q 4 (.q 5 (.q 6 (.q 7 (.q 8 .done))))))))) ffm (by kernel_rfl) ?_
    refine AtT.kmove ?_
    refine AtT.kmove ?_
    refine AtT.kidx Tryz.underlying38 tk3 ?_
    intro p20 e20 he20 hc20
    obtain rfl : e20 = x := by have : l[k]? = some e20 := (by simpa using he20); rw [hx] at this; simpa using this.symm
    first | refine AtT.kloadO tk3 ?_ | refine AtT.kload tk3 ?_
    refine AtT.kmove ?_
    refine AtT.kmove ?_
    refine AtT.kidx Tryz.underlying38 tk3 ?_
    intro p24 e24 he24 hc24
    obtain rfl : e24 = y := by have : m[k]? = some e24 := (by simpa using he24); rw [hy] at this; simpa using this.symm
    first | refine AtT.kloadO tk3 ?_ | refine AtT.kload tk3 ?_
    refine AtT.kneI ?_
    refine AtT.done ?_
    refine At.nrm ?_
    refine At.condP rfl (fun hc => ?_) (fun hc => ?_)
    · rw [if_neg hc] at hok
      refine At.nrm ?_
      refine At.draw (.q 0 (.q 1 (.q 2 (.q 3 (.q 4 (.q 5 (.q 6 (.q 7 (.q 8 (.q 9 .done)))))))))) ffm (by kernel_rfl) ?_
      refine AtT.kmove ?_
      refine AtT.kmove ?_
      refine AtT.kidx Tryz.underlying38 tk3 ?_
      intro p29 e29 he29 hc29
      obtain rfl : e29 = e20 := by have : l[k]? = some e29 := (by simpa using he29); rw [hx] at this; simpa using this.symm
      first | refine AtT.kloadO tk3 ?_ | refine AtT.kload tk3 ?_
      refine AtT.kmove ?_
      refine AtT.kmove ?_
      refine AtT.kidx Tryz.underlying38 tk3 ?_
      intro p33 e33 he33 hc33
      obtain rfl : e33 = e24 := by have : m[k]? = some e33 := (by simpa using he33); rw [hy] at this; simpa using this.symm
      first | refine AtT.kloadO tk3 ?_ | refine AtT.kload tk3 ?_
      refine AtT.klss ?_
      refine AtT.kassign ?_
      refine AtT.done ?_
      refine At.nrm ?_
      exact At.ret1 rfl (.tmp rfl) (by rw [hok])
    · rw [if_pos (Decidable.not_not.1 hc)] at hok
      refine At.nrm ?_
      refine At.ktext (.q 0 (.q 1 (.q 2 .done))) ?_
      refine AtT.kmove ?_
      first | refine AtT.kadd ?_ | refine AtT.kaddW ?_
      refine AtT.kassign ?_
      refine AtT.done ?_
      refine At.nrm ?_
      refine At.round (k + 1) ?_ ?_ ?_ ?_
      · show l.length - (k + 1) < l.length - k; omega
      · exact ⟨rfl, by omega, by omega, hok⟩
      · exact ⟨rfl, rfl, ivs (by omega), trivial⟩
      · exact Pt.auto
end Go.Proofs.YtfcpmblmklibjaaGreat
set_option linter.unusedVariables false
namespace Go.Bl
open Go.Gl Go.Lw
theorem btL_take {l : List Int} {k : Nat} {x : Int} (h : l[k]? = some x) : btL (l.take (k + 1)) = btL (l.take k) ||| 2 ^ x.toNat := by rw [take_snoc' h, btL_snoc]
theorem btT_lt {l : List Int} (h : ∀ x ∈ l, 0 ≤ x ∧ x < 15) (k : Nat) : btL (l.take k) < 32768 := btL_lt (n := 15) fun x hx => by have := h x (List.mem_of_mem_take hx); omega
theorem pow_lt15 {x : Int} (h : 0 ≤ x ∧ x < 15) : 2 ^ x.toNat < 32768 := by
  have := Nat.pow_le_pow_right (n := 2) (by decide) (show x.toNat ≤ 14 by omega)
  omega
def mtB (A B : Nat) : Bool := decide (A &&& B ≠ 0)
theorem mt_pos (A B : Nat) : decide ((0 : Int) < ((A &&& B : Nat) : Int)) = mtB A B := by
  unfold mtB; rw [decide_eq_decide]; omega
/-- What is left of each trial that failed. -/
def lfI (no : Nat) (t : Tq) : Int := if t.f = true then ((clrB (cbN t.p) no : Nat) : Int) else -1
def lfL (ts : List Tq) : List Int := ts.map (lfI (clA ts))
/-- Causes are at least one of each trial that failed. -/
def exI (A : Nat) (x : Int) : Bool := !decide (0 ≤ x ∧ x.toNat &&& A = 0)
def exB (left : List Int) (A : Nat) : Bool := left.all (exI A)
theorem exB_true {l : List Int} {A : Nat} (h : ∀ (k : Nat) (x : Int), l[k]? = some x → exI A x = true) : exB l A = true := by
  unfold exB; rw [List.all_eq_true]; intro x hx; obtain ⟨k, hk⟩ := List.getElem?_of_mem hx; exact h k x hk
theorem exB_false {l : List Int} {A : Nat} {x : Int} (hx : x ∈ l) (h : exI A x = false) : exB l A = false := by
  cases c : exB l A with
  | false => rfl
  | true => unfold exB at c; rw [List.all_eq_true] at c; rw [c x hx] at h; cases h
theorem lfI_bd {no : Nat} {t : Tq} (h : sndB t.p = true) : -1 ≤ lfI no t ∧ lfI no t < 32768 := by
  unfold lfI
  split
  · have := clrB_le (cbN t.p) no
    have := cbN_lt h
    omega
  · omega
/-- What CheckCauses answers. -/
def ccR (ts : List Tq) (l : List Int) : Int :=
  if trE ts ≠ 0 then trE ts else if lstB l 15 = false then 2 else if btL l &&& clA ts ≠ 0 then 16 else if exB (lfL ts) (btL l) = false then 26 else 0
theorem ccR_tr {ts : List Tq} {l : List Int} (h : trE ts ≠ 0) : ccR ts l = trE ts := by rw [ccR, if_pos h]
theorem ccR_arg {ts : List Tq} {l : List Int} (h : trE ts = 0) (h1 : lstB l 15 = false) : ccR ts l = 2 := by rw [ccR, if_neg (by simp [h]), if_pos h1]
theorem ccR_rule {ts : List Tq} {l : List Int} (h : trE ts = 0) (h1 : lstB l 15 = true) (h2 : btL l &&& clA ts ≠ 0) : ccR ts l = 16 := by rw [ccR, if_neg (by simp [h]), if_neg (by simp [h1]), if_pos h2]
theorem ccR_boil {ts : List Tq} {l : List Int} (h : trE ts = 0) (h1 : lstB l 15 = true) (h2 : btL l &&& clA ts = 0) (h3 : exB (lfL ts) (btL l) = false) : ccR ts l = 26 := by rw [ccR, if_neg (by simp [h]), if_neg (by simp [h1]), if_neg (by simp [h2]), if_pos h3]
theorem ccR_ok {ts : List Tq} {l : List Int} (h : trE ts = 0) (h1 : lstB l 15 = true) (h2 : btL l &&& clA ts = 0) (h3 : exB (lfL ts) (btL l) = true) : ccR ts l = 0 := by rw [ccR, if_neg (by simp [h]), if_neg (by simp [h1]), if_neg (by simp [h2]), if_neg (by simp [h3])]
/-- The answers of Causes and Clear. -/
def caE (p : Pq) : Int := if sndB p = true then 0 else 3
def caR (p : Pq) : List Int := if sndB p = true then caL p else []
def clR (ts : List Tq) : List Int := if trE ts = 0 then bitL (clA ts) 15 else []
theorem bitL_ext {A B n : Nat} (h : ∀ i, i < n → A.testBit i = B.testBit i) : bitL A n = bitL B n := by
  induction n with
  | zero => rfl
  | succ n ih => simp only [bitL, ih fun i hi => h i (by omega), h n (by omega)]
theorem btL_bitL {A n : Nat} (h : A < 2 ^ n) : btL (bitL A n) = A := by
  refine Nat.eq_of_testBit_eq fun i => ?_
  have := btL_bit (l := bitL A n) (i := i) fun x hx => by obtain ⟨j, _, rfl, _⟩ := bitL_mem.1 hx; omega
  rw [bitL_mem] at this
  cases c : A.testBit i with
  | true =>
    rw [this]
    refine ⟨i, ?_, rfl, c⟩
    apply Classical.byContradiction
    intro hc
    rw [Nat.testBit_lt_two_pow (Nat.lt_of_lt_of_le h (Nat.pow_le_pow_right (by decide) (by omega)))] at c; cases c
  | false =>
    cases d : (btL (bitL A n)).testBit i with
    | false => rfl
    | true => obtain ⟨j, _, hj, hb⟩ := this.1 d; rw [show j = i by omega] at hb; rw [hb] at c; cases c
/-- A list that rises is the one of its bits. -/
theorem bitL_btL {l : List Int} {n : Nat} (h : l.Pairwise (· < ·)) (hx : ∀ x ∈ l, 0 ≤ x ∧ x < (n : Int)) : bitL (btL l) n = l := by
  refine sorted_ext (bitL_lt _ _) h fun x => ?_
  rw [bitL_mem]
  constructor
  · rintro ⟨i, _, rfl, hb⟩; exact (btL_bit fun y hy => (hx y hy).1).1 hb
  · intro hm
    have := hx x hm
    exact ⟨x.toNat, by omega, by omega, (btL_bit fun y hy => (hx y hy).1).2 (by rw [show ((x.toNat : Nat) : Int) = x by omega]; exact hm)⟩
theorem bitL_caL {p : Pq} (h : sndB p = true) : bitL (cbN p) 15 = caL p := by
  have hs := h
  unfold sndB at hs
  rw [decide_eq_true_eq] at hs
  refine bitL_btL ?_ fun x hx => by have := caL_in h x hx; omega
  simp only [caL, List.pairwise_cons, List.mem_cons, List.not_mem_nil, or_false, forall_eq_or_imp, forall_eq, List.Pairwise.nil, and_true, false_imp_iff, implies_true]
  omega
end Go.Bl
set_option linter.unusedVariables false
namespace Go.Bl
open Go.Gl Go.Lw
/-- Of the first trials those that failed, and what is left of each. -/
def flK (ts : List Tq) : Nat → List Int
  | 0 => []
  | k + 1 => match ts[k]? with
    | some t => if t.f = true then flK ts k ++ [(k : Int)] else flK ts k
    | none => flK ts k
def lsK (no : Nat) (ts : List Tq) : Nat → List Nat
  | 0 => []
  | k + 1 => match ts[k]? with
    | some t => if t.f = true then lsK no ts k ++ [clrB (cbN t.p) no] else lsK no ts k
    | none => lsK no ts k
def flL (ts : List Tq) : List Int := flK ts ts.length
def lsL (ts : List Tq) : List Nat := lsK (clA ts) ts ts.length
theorem flK_t {ts : List Tq} {k : Nat} {t : Tq} (h : ts[k]? = some t) (hf : t.f = true) : flK ts (k + 1) = flK ts k ++ [(k : Int)] := by simp only [flK, h, hf, if_true]
theorem flK_f {ts : List Tq} {k : Nat} {t : Tq} (h : ts[k]? = some t) (hf : t.f = false) : flK ts (k + 1) = flK ts k := by simp [flK, h, hf]
theorem lsK_t {no : Nat} {ts : List Tq} {k : Nat} {t : Tq} (h : ts[k]? = some t) (hf : t.f = true) : lsK no ts (k + 1) = lsK no ts k ++ [clrB (cbN t.p) no] := by simp only [lsK, h, hf, if_true]
theorem lsK_f {no : Nat} {ts : List Tq} {k : Nat} {t : Tq} (h : ts[k]? = some t) (hf : t.f = false) : lsK no ts (k + 1) = lsK no ts k := by simp [lsK, h, hf]
theorem fl_ls (no : Nat) (ts : List Tq) : ∀ k, (flK ts k).length = (lsK no ts k).length ∧ (flK ts k).length ≤ k
  | 0 => ⟨rfl, Nat.le_refl _⟩
  | k + 1 => by
    have ih := fl_ls no ts k
    cases c : ts[k]? with
    | none => simp only [flK, lsK, c]; omega
    | some t =>
      cases d : t.f with
      | true => rw [flK_t c d, lsK_t c d]; simp; omega
      | false => rw [flK_f c d, lsK_f c d]; omega
theorem ls_lt {ts : List Tq} {no : Nat} (h : ∀ t ∈ ts, sndB t.p = true) : ∀ k, ∀ s ∈ lsK no ts k, s < 32768
  | 0, s, hs => by cases hs
  | k + 1, s, hs => by
    cases c : ts[k]? with
    | none => simp only [lsK, c] at hs; exact ls_lt h k s hs
    | some t =>
      cases d : t.f with
      | true =>
        rw [lsK_t c d] at hs
        rcases List.mem_append.1 hs with hs | hs
        · exact ls_lt h k s hs
        · rw [List.mem_singleton] at hs
          have := clrB_le (cbN t.p) no
          have := cbN_lt (h t (List.mem_of_getElem? c))
          omega
      | false => rw [lsK_f c d] at hs; exact ls_lt h k s hs
/-- What is left is that of the trials that failed. -/
theorem ls_map (no : Nat) (ts : List Tq) : ∀ k, k ≤ ts.length → lsK no ts k = ((ts.take k).filter (·.f)).map fun t => clrB (cbN t.p) no
  | 0, _ => by simp [lsK]
  | k + 1, hk => by
    have ih := ls_map no ts k (by omega)
    have c : ts[k]? = some ts[k] := List.getElem?_eq_getElem (by omega)
    rw [take_snoc' c, List.filter_append, List.map_append, ← ih]
    cases d : (ts[k]).f with
    | true => rw [lsK_t c d]; simp [d]
    | false => rw [lsK_f c d]; simp [d]
theorem lsL_map (ts : List Tq) : lsL ts = (ts.filter (·.f)).map fun t => clrB (cbN t.p) (clA ts) := by
  unfold lsL; rw [ls_map _ _ _ (Nat.le_refl _), List.take_length]
/-- An explanation, by bits, has a cause of each. -/
theorem ex_ls (ts : List Tq) (A : Nat) : exB (lfL ts) A = (lsL ts).all fun s => mtB A s := by
  rw [lsL_map]
  unfold exB lfL
  rw [List.all_map, List.all_map, List.all_filter]
  refine List.all_congr rfl fun t => ?_
  simp only [Function.comp, lfI, exI, mtB]
  by_cases c : t.f = true
  · simp [c, Nat.and_comm]
  · simp [c]
/-- The error of All. -/
def alE (ts : List Tq) : Int := if trE ts ≠ 0 then trE ts else if (lsL ts).any (· == 0) then 26 else 0
theorem alE_tr {ts : List Tq} (h : trE ts ≠ 0) : alE ts = trE ts := by rw [alE, if_pos h]
theorem alE_z {ts : List Tq} (h : trE ts = 0) (h1 : (lsL ts).any (· == 0) = true) : alE ts = 26 := by rw [alE, if_neg (by simp [h]), if_pos h1]
theorem alE_ok {ts : List Tq} (h : trE ts = 0) (h1 : (lsL ts).any (· == 0) = false) : alE ts = 0 := by rw [alE, if_neg (by simp [h]), if_neg (by simp [h1])]
theorem lf_zero (ts : List Tq) : (lfL ts).any (fun x => decide (x = 0)) = (lsL ts).any (· == 0) := by
  rw [lsL_map]
  unfold lfL
  rw [List.any_map, List.any_map, List.any_filter]
  refine List.any_congr rfl fun t => ?_
  simp only [Function.comp, lfI]
  by_cases c : t.f = true
  · simp only [c, if_true, Bool.true_and]; rw [Bool.eq_iff_iff, decide_eq_true_eq, beq_iff_eq]; omega
  · simp [c]
end Go.Bl
set_option linter.unusedVariables false
namespace Go.Bl
open Go.Gl Go.Lw
/-- The place of a set. -/
def ixS (l : List Nat) (s : Nat) : Option Nat := l.findIdx? (· == s)
def ixI (o : Option Nat) : Int := match o with
  | some k => (k : Int)
  | none => -1
def uzL (l : List Int) : Option Nat := l.findIdx? fun x => decide (x = 0)
theorem fi_hit {α : Type} {p : α → Bool} {l : List α} {k : Nat} {x : α} (hx : l[k]? = some x) (hp : p x = true) (h : ∀ (j : Nat) (y : α), j < k → l[j]? = some y → p y = false) : l.findIdx? p = some k := by
  rw [List.findIdx?_eq_some_iff_getElem]
  obtain ⟨hk, rfl⟩ := List.getElem?_eq_some_iff.1 hx
  exact ⟨hk, hp, fun j hj => by rw [h j _ hj (List.getElem?_eq_getElem (by omega))]; simp⟩
theorem fi_none {α : Type} {p : α → Bool} {l : List α} (h : ∀ (j : Nat) (y : α), j < l.length → l[j]? = some y → p y = false) : l.findIdx? p = none := by
  rw [List.findIdx?_eq_none_iff]
  intro x hx
  obtain ⟨j, hj, rfl⟩ := List.getElem_of_mem hx
  exact h j _ hj (List.getElem?_eq_getElem hj)
theorem ix_any (l : List Nat) : decide (0 ≤ ixI (ixS l 0)) = l.any (· == 0) := by
  unfold ixS ixI
  cases c : l.findIdx? (· == 0) with
  | none =>
    rw [List.findIdx?_eq_none_iff] at c
    rw [Bool.eq_iff_iff]
    simp only [List.any_eq_true]
    constructor
    · intro h; simp at h
    · rintro ⟨x, hx, h⟩; rw [c x hx] at h; cases h
  | some k =>
    rw [List.findIdx?_eq_some_iff_getElem] at c
    obtain ⟨hk, hp, _⟩ := c
    rw [List.any_eq_true.2 ⟨_, List.getElem_mem hk, hp⟩]; simp
/-- The first of those that failed of which nothing is left, in both lists. -/
theorem un_pre (ts : List Tq) (no : Nat) : ∀ k, k ≤ ts.length → (ixS (lsK no ts k) 0 = none ∧ uzL ((ts.take k).map (lfI no)) = none) ∨ ∃ n m, ixS (lsK no ts k) 0 = some n ∧ uzL ((ts.take k).map (lfI no)) = some m ∧ (flK ts k)[n]? = some (m : Int) ∧ n < (lsK no ts k).length ∧ m < k
  | 0, _ => .inl ⟨rfl, rfl⟩
  | k + 1, hk => by
    have c : ts[k]? = some ts[k] := List.getElem?_eq_getElem (by omega)
    have hfl := fl_ls no ts k
    have hlen : ((ts.take k).map (lfI no)).length = k := by simp; omega
    have e : (ts.take (k + 1)).map (lfI no) = (ts.take k).map (lfI no) ++ [lfI no ts[k]] := by rw [take_snoc' c, List.map_append]; rfl
    rw [e]
    cases d : (ts[k]).f with
    | false =>
      rw [lsK_f c d, flK_f c d]
      have hz : lfI no ts[k] = -1 := by unfold lfI; rw [if_neg (by simp [d])]
      rcases un_pre ts no k (by omega) with ⟨h1, h2⟩ | ⟨n, m, h1, h2, h3, h4, h5⟩
      · refine .inl ⟨h1, ?_⟩
        unfold uzL at *
        rw [List.findIdx?_append, h2, hz]; rfl
      · refine .inr ⟨n, m, h1, ?_, h3, h4, by omega⟩
        unfold uzL at *
        rw [List.findIdx?_append, h2]; rfl
    | true =>
      rw [lsK_t c d, flK_t c d]
      have hz : lfI no ts[k] = ((clrB (cbN (ts[k]).p) no : Nat) : Int) := by unfold lfI; rw [if_pos d]
      rcases un_pre ts no k (by omega) with ⟨h1, h2⟩ | ⟨n, m, h1, h2, h3, h4, h5⟩
      · by_cases z : clrB (cbN (ts[k]).p) no = 0
        · refine .inr ⟨(lsK no ts k).length, k, ?_, ?_, ?_, by simp, by omega⟩
          · unfold ixS at *
            rw [List.findIdx?_append, h1, z]; simp
          · unfold uzL at *
            rw [List.findIdx?_append, h2, hz, z, hlen]; simp
          · rw [← hfl.1]; simp
        · refine .inl ⟨?_, ?_⟩
          · unfold ixS at *
            rw [List.findIdx?_append, h1]; simp [z]
          · unfold uzL at *
            rw [List.findIdx?_append, h2, hz]; simp [z]
      · refine .inr ⟨n, m, ?_, ?_, ?_, by simp; omega, by omega⟩
        · unfold ixS at *
          rw [List.findIdx?_append, h1]; rfl
        · unfold uzL at *
          rw [List.findIdx?_append, h2]; rfl
        · rw [List.getElem?_append_left (by omega)]; exact h3
theorem un_same (ts : List Tq) : (ixS (lsL ts) 0 = none ∧ uzL (lfL ts) = none) ∨ ∃ n m, ixS (lsL ts) 0 = some n ∧ uzL (lfL ts) = some m ∧ (flL ts)[n]? = some (m : Int) ∧ n < (lsL ts).length ∧ m < ts.length := by
  have := un_pre ts (clA ts) ts.length (Nat.le_refl _)
  rw [List.take_length] at this
  exact this
/-- What Unclear answers. -/
def unR (ts : List Tq) : Int × Int := if trE ts ≠ 0 then (0, trE ts) else match uzL (lfL ts) with
  | some m => ((m : Int), 0)
  | none => (0, 5)
theorem unR_tr {ts : List Tq} (h : trE ts ≠ 0) : unR ts = (0, trE ts) := by rw [unR, if_pos h]
theorem unR_some {ts : List Tq} {m : Nat} (h : trE ts = 0) (h1 : uzL (lfL ts) = some m) : unR ts = ((m : Int), 0) := by rw [unR, if_neg (by simp [h]), h1]
theorem unR_none {ts : List Tq} (h : trE ts = 0) (h1 : uzL (lfL ts) = none) : unR ts = (0, 5) := by rw [unR, if_neg (by simp [h]), h1]
end Go.Bl
set_option linter.unusedSectionVars false
set_option linter.unusedSimpArgs false
set_option linter.unusedVariables false
namespace Go.Lw
open Go.RowKit

section
variable {α β : Type} [DecidableEq α] (f : α → β)
def mOf : List α → Nat → MM α β
  | [], _ => []
  | a :: l, i => (a, f a, i) :: mOf l (i + 1)
theorem mOf_snoc (a : α) : ∀ (l : List α) (i : Nat), mOf f (l ++ [a]) i = mOf f l i ++ [(a, f a, i + l.length)]
  | [], i => by simp [mOf]
  | b :: l, i => by simp [mOf, mOf_snoc a l (i + 1)]; omega
theorem mOf_mem {e : α × β × Nat} : ∀ {l : List α} {i : Nat}, e ∈ mOf f l i → e.1 ∈ l ∧ e.2.1 = f e.1 ∧ i ≤ e.2.2 ∧ e.2.2 < i + l.length
  | b :: l, i, h => by
    simp only [mOf, List.mem_cons] at h
    rcases h with rfl | h
    · simp
    · have := mOf_mem h
      simp only [List.mem_cons, List.length_cons]
      exact ⟨.inr this.1, this.2.1, by omega, by omega⟩
theorem mOf_has {a : α} : ∀ {l : List α} {i : Nat}, a ∈ l → ∃ j, (a, f a, j) ∈ mOf f l i
  | b :: l, i, h => by
    rcases List.mem_cons.1 h with rfl | h
    · exact ⟨i, by simp [mOf]⟩
    · obtain ⟨j, hj⟩ := mOf_has (l := l) (i := i + 1) h
      exact ⟨j, List.mem_cons_of_mem _ hj⟩
theorem mOf_born : ∀ (l : List α) (i : Nat), ((mOf f l i).map (·.2.2)).Nodup
  | [], _ => by simp [mOf]
  | b :: l, i => by
    simp only [mOf, List.map_cons, List.nodup_cons, mOf_born l (i + 1), and_true]
    intro h
    obtain ⟨e, he, h2⟩ := List.mem_map.1 h
    have := mOf_mem f he
    omega
theorem mOf_keys : ∀ (l : List α) (i : Nat), (mOf f l i).map (·.1) = l
  | [], _ => rfl
  | b :: l, i => by simp [mOf, mOf_keys l (i + 1)]
theorem mOf_length : ∀ (l : List α) (i : Nat), (mOf f l i).length = l.length
  | [], _ => rfl
  | b :: l, i => by simp [mOf, mOf_length l (i + 1)]
theorem fk_new {a : α} : ∀ {M : MM α β} {k : Nat}, (∀ e ∈ M, e.1 ≠ a) → fk a M k = none
  | [], _, _ => rfl
  | e :: M, k, h => by
    have : ¬ a = e.1 := fun he => h e (by simp) he.symm
    simp only [fk, this, if_false]
    exact fk_new fun e he => h e (List.mem_cons_of_mem _ he)
theorem mget_no {a : α} {z : β} : ∀ {M : MM α β}, (∀ e ∈ M, e.1 ≠ a) → mget a z M = z
  | [], _ => rfl
  | e :: M, h => by
    have : ¬ a = e.1 := fun he => h e (by simp) he.symm
    simp only [mget, this, if_false]
    exact mget_no fun e he => h e (List.mem_cons_of_mem _ he)
theorem mget_fn {a : α} {z : β} : ∀ {M : MM α β}, (∀ e ∈ M, e.2.1 = f e.1) → (∃ e ∈ M, e.1 = a) → mget a z M = f a
  | [], _, h => by obtain ⟨_, h, _⟩ := h; cases h
  | e :: M, h1, h2 => by
    by_cases c : a = e.1
    · simp only [mget, c, if_true]; exact h1 e (by simp)
    · simp only [mget, c, if_false]
      refine mget_fn (fun e he => h1 e (List.mem_cons_of_mem _ he)) ?_
      obtain ⟨e', h3, h4⟩ := h2
      rcases List.mem_cons.1 h3 with rfl | h3
      · exact absurd h4.symm c
      · exact ⟨e', h3, h4⟩
theorem mdel_eq {a : α} : ∀ {M : MM α β}, (M.map (·.1)).Nodup → mdel a M = M.filter fun e => !decide (e.1 = a)
  | [], _ => rfl
  | e :: M, h => by
    simp only [List.map_cons, List.nodup_cons] at h
    by_cases c : a = e.1
    · have : ∀ e' ∈ M, (!decide (e'.1 = a)) = true := fun e' he => by
        have : e'.1 ≠ a := fun hc => h.1 (by rw [← c, ← hc]; exact List.mem_map_of_mem he)
        simp [this]
      simp only [mdel, c, if_true, List.filter_cons, decide_true, Bool.not_true, Bool.false_eq_true, if_false]
      rw [← c]
      exact (List.filter_eq_self.2 this).symm
    · have c' : ¬ e.1 = a := fun h => c h.symm
      simp [mdel, c, c', mdel_eq h.2]
end

/-- What is left of a map: what is good, and what was not looked at yet. -/
def left {α β : Type} (g : α × β × Nat → Bool) (M : MM α β) (seen : Array Nat) : MM α β := M.filter fun e => g e || !seen.contains e.2.2
theorem left_nil {α β : Type} (g : α × β × Nat → Bool) (M : MM α β) : left g M #[] = M := by
  unfold left; rw [List.filter_eq_self.2]; intro e _; simp
theorem inj_of {γ δ : Type} (h : γ → δ) : ∀ {l : List γ} {x y : γ}, (l.map h).Nodup → x ∈ l → y ∈ l → h x = h y → x = y
  | b :: l, x, y, hn, hx, hy, e => by
    simp only [List.map_cons, List.nodup_cons] at hn
    rcases List.mem_cons.1 hx with hx' | hx' <;> rcases List.mem_cons.1 hy with hy' | hy'
    · rw [hx', hy']
    · exact absurd (by rw [← hx', e]; exact List.mem_map_of_mem hy') hn.1
    · exact absurd (by rw [← hy', ← e]; exact List.mem_map_of_mem hx') hn.1
    · exact inj_of h hn.2 hx' hy' e
theorem filter_lt {γ : Type} {p q : γ → Bool} : ∀ {l : List γ} {x : γ}, (∀ y ∈ l, p y = true → q y = true) → x ∈ l → q x = true → p x = false → (l.filter p).length < (l.filter q).length
  | b :: l, x, h, hx, hq, hp => by
    have mono : ∀ l : List γ, (∀ y ∈ l, p y = true → q y = true) → (l.filter p).length ≤ (l.filter q).length := by
      intro l
      induction l with
      | nil => intro _; simp
      | cons b l ih =>
        intro h
        have := ih fun y hy => h y (List.mem_cons_of_mem _ hy)
        by_cases c : p b = true
        · have d := h b (by simp) c
          simp [List.filter_cons, c, d, this]
        · simp only [List.filter_cons, c, if_false, Bool.false_eq_true]
          split
          · simp only [List.length_cons]; omega
          · exact this
    rcases List.mem_cons.1 hx with rfl | hx
    · have := mono l fun y hy => h y (List.mem_cons_of_mem _ hy)
      simp only [List.filter_cons, hp, hq, if_true, if_false, Bool.false_eq_true, List.length_cons]; omega
    · have ih := filter_lt (fun y hy => h y (List.mem_cons_of_mem _ hy)) hx hq hp
      by_cases c : p b = true
      · have d := h b (by simp) c
        simp only [List.filter_cons, c, d, if_true, List.length_cons]; omega
      · simp only [List.filter_cons, c, if_false, Bool.false_eq_true]
        split
        · simp only [List.length_cons]; omega
        · exact ih
theorem left_keep {α β : Type} {g : α × β × Nat → Bool} {M : MM α β} {seen : Array Nat} {e : α × β × Nat} (hb : (M.map (·.2.2)).Nodup) (he : e ∈ M) (hg : g e = true) : left g M (seen.push e.2.2) = left g M seen := by
  unfold left
  refine List.filter_congr fun x hx => ?_
  by_cases c : x.2.2 = e.2.2
  · have : x = e := inj_of (fun e : α × β × Nat => e.2.2) hb hx he c
    subst this; simp [hg]
  · have : ¬ e.2.2 = x.2.2 := fun h => c h.symm
    simp [Array.contains_push, c]
theorem left_del {α β : Type} [DecidableEq α] {g : α × β × Nat → Bool} {M : MM α β} {seen : Array Nat} {e : α × β × Nat} (hb : (M.map (·.2.2)).Nodup) (hk : (M.map (·.1)).Nodup) (he : e ∈ M) (hg : g e = false) :
    mdel e.1 (left g M seen) = left g M (seen.push e.2.2) := by
  have hkl : ((left g M seen).map (·.1)).Nodup := hk.sublist ((List.filter_sublist).map _)
  rw [mdel_eq hkl]
  unfold left
  rw [List.filter_filter]
  refine List.filter_congr fun x hx => ?_
  by_cases c : x.1 = e.1
  · have : x = e := inj_of (fun e : α × β × Nat => e.1) hk hx he c
    subst this; simp [hg]
  · have : ¬ x.2.2 = e.2.2 := fun h => c (by rw [inj_of (fun e : α × β × Nat => e.2.2) hb hx he h])
    simp [Array.contains_push, c, this]
theorem unseen_lt {α β : Type} {M : MM α β} {seen : Array Nat} {e : α × β × Nat} (he : e ∈ M) (hs : e.2.2 ∉ seen) :
    (M.filter fun x => !(seen.push e.2.2).contains x.2.2).length < (M.filter fun x => !seen.contains x.2.2).length := by
  refine filter_lt (x := e) (fun y _ h => ?_) he (by simpa using hs) (by simp)
  simp at h ⊢
  exact h.1
theorem left_end {α β : Type} {g : α × β × Nat → Bool} {M : MM α β} {seen : Array Nat} (h : ∀ e ∈ left g M seen, e.2.2 ∈ seen) : left g M seen = M.filter g := by
  unfold left at *
  refine List.filter_congr fun x hx => ?_
  cases hg : g x with
  | true => simp
  | false =>
    by_cases c : x.2.2 ∈ seen
    · simp [c]
    · have := h x (by rw [List.mem_filter]; exact ⟨hx, by simp [hg, c]⟩)
      exact absurd this c


theorem mhas_iff {α β : Type} [DecidableEq α] (a : α) : ∀ (M : MM α β), mhas a M = true ↔ ∃ e ∈ M, e.1 = a
  | [] => by simp [mhas]
  | e :: M => by
    by_cases c : a = e.1
    · simp [mhas, c]
    · have c' : ¬ e.1 = a := fun h => c h.symm
      simp [mhas, c, c', mhas_iff a M]
section
variable {α β : Type} [DecidableEq α] {P : Program} {kt et : TypeId} {ek : α → Value} {ev' : β → Value} {M : MM α β} {b c : Nat}
theorem fk_isSome (a : α) : ∀ (M : MM α β) (i : Nat), (fk a M i).isSome = mhas a M
  | [], _ => rfl
  | e :: M, i => by
    simp only [fk, mhas]
    by_cases c : a = e.1
    · simp [c]
    · simp only [c, if_false]; exact fk_isSome a M (i + 1)
theorem run_lookup2 {w : World} {X : TypeId} {zv : Value} (K : KeyL P kt ek) (hX : P.underlying X = some (.map kt et)) (hz : zeroB P et = some zv) (zb : β) (hzb : ev' zb = zv) (a : α) (hb : w.heap[b]? = some (mobj ek ev' M c)) :
    (Instr.lookup X (.map (some b)) (ek a) true).run P w = .ok (.tuple #[ev' (mget a zb M), .bool (mhas a M)]) w := by
  simp only [Instr.lookup, Sem.run_bind, run_underlying hX, Result.andThen_ok, run_getMap hb, mobj, Sem.run_pure, K.ck, K.find a M, List.toList_toArray]
  rw [← fk_get a zb M 0, ← fk_isSome a M 0]
  cases fk a M 0 with
  | none => simp [run_zero hz, hzb, Sem.run_bind, Sem.run_pure, Result.andThen_ok]
  | some p => simp [Sem.run_pure, Result.andThen_ok]
variable {cx : Cx} {n : Nat} {ks : List (Nat × Value)} {O O' R R' : List Own} {V : View} {ops : Array Oper} {Qn : Act → World → Prop} {t : Tr} {i d : Nat} {T : TypeId} {pos : String} {after : Array Edge} {gd : Option (Nat × Bool)} {x y z : Operand}
theorem AtT.lookup2V {X : TypeId} {zv : Value} (ho : ops[i]? = some ⟨some d, .lookup X x y true, T, pos, after, gd⟩) (hg : Gd ks ops gd) (K : KeyL P kt ek) (a : α) (zb : β) (hX : P.underlying X = some (.map kt et)) (hz : zeroB P et = some zv) (hzb : ev' zb = zv) (hx : ev ks x = some (.map (some b))) (hy : ev ks y = some (ek a)) (hV : V b = some (mobj ek ev' M c)) (hn : d < n)
    (next : AtT cx n ((d, .tuple #[ev' (mget a zb M), .bool (mhas a M)]) :: ks) O V P ops Qn t) : AtT cx n ks O V P ops Qn (.q i t) :=
  .q ho hg rfl hn (fun a w hk hm => by simp only [execOp, hk.ev hx, hk.ev hy, Sem.run_bind, run_lookup2 K hX hz zb hzb _ (hm.view _ _ hV), Result.andThen_ok, Sem.run_pure]) next
end
end Go.Lw
set_option linter.unusedVariables false
set_option linter.unusedSimpArgs false
namespace Go.Lw
open Go.RowKit
section
variable {α β : Type} [DecidableEq α]
/-- A map with one key, if it was not there. -/
def mIns (a : α) (v : β) (M : MM α β) (c : Nat) : MM α β × Nat := if mhas a M = true then (M, c) else (M ++ [(a, v, c)], c + 1)
theorem mmod_same {a : α} {v : β} : ∀ {M : MM α β}, (∀ e ∈ M, e.1 = a → e.2.1 = v) → mmod a v M = M
  | [], _ => rfl
  | e :: M, h => by
    simp only [mmod]
    split
    · rename_i c
      have := h e List.mem_cons_self c.symm
      subst c this
      rfl
    · rw [mmod_same fun x hx => h x (List.mem_cons_of_mem _ hx)]
theorem mhas_no {a : α} {M : MM α β} (h : ¬ mhas a M = true) : fk a M 0 = none := by
  have := fk_isSome a M 0
  cases c : fk a M 0 with
  | none => rfl
  | some p => rw [c] at this; exact absurd this.symm h
theorem mhas_yes {a : α} {M : MM α β} (h : mhas a M = true) : ∃ j v, fk a M 0 = some (j, v) := by
  have := fk_isSome a M 0
  rw [h] at this
  obtain ⟨p, hp⟩ := Option.isSome_iff_exists.1 this
  exact ⟨p.1, p.2, hp⟩
theorem fk_at {a : α} : ∀ {M : MM α β} {i j : Nat} {v : β}, fk a M i = some (j, v) → i ≤ j ∧ ∃ e, M[j - i]? = some e ∧ e.1 = a
  | [], _, _, _, h => by cases h
  | e :: M, i, j, v, h => by
    simp only [fk] at h
    split at h
    · rename_i c
      cases h
      exact ⟨Nat.le_refl _, e, by simp, c.symm⟩
    · obtain ⟨h1, e', h2, h3⟩ := fk_at h
      refine ⟨by omega, e', ?_, h3⟩
      rw [show j - i = (j - (i + 1)) + 1 by omega]
      simpa using h2
variable {P : Program} {kt et : TypeId} {ek : α → Value} {ev' : β → Value} {M : MM α β} {b c : Nat}
variable {cx : Cx} {n : Nat} {ks : List (Nat × Value)} {O O' R R' : List Own} {V : View} {ops : Array Oper} {Qn : Act → World → Prop} {t : Tr} {i d : Nat} {T : TypeId} {pos : String} {after : Array Edge} {gd : Option (Nat × Bool)} {x y z : Operand}
theorem AtT.mapPut {X : TypeId} (ho : ops[i]? = some ⟨none, .mapUpdate X x y z, T, pos, after, gd⟩) (hg : Gd ks ops gd) (K : KeyL P kt ek) (a : α) (vb : β) (hX : P.underlying X = some (.map kt et)) (hx : ev ks x = some (.map (some b))) (hy : ev ks y = some (ek a)) (hz : ev ks z = some (ev' vb)) (hold : ∀ e ∈ M, e.1 = a → e.2.1 = vb) (hp : Upd (.blk b (mobj ek ev' M c)) (.blk b (mobj ek ev' (mIns a vb M c).1 (mIns a vb M c).2)) O O')
    (next : AtT cx n ks O' V P ops Qn t) : AtT cx n ks O V P ops Qn (.n true i t) := by
  by_cases h : mhas a M = true
  · obtain ⟨j, v0, hj⟩ := mhas_yes h
    have e : mIns a vb M c = (M, c) := by unfold mIns; rw [if_pos h]
    rw [e] at hp
    refine AtT.mapOld (c := c) ho hg K a vb hX hx hy hz hj (fun e he => ?_) ?_ next
    · obtain ⟨_, e', h2, h3⟩ := fk_at hj
      rw [Nat.sub_zero, he] at h2
      cases h2; exact h3
    · rw [mmod_same hold]; exact hp
  · have e : mIns a vb M c = (M ++ [(a, vb, c)], c + 1) := by unfold mIns; rw [if_neg h]
    rw [e] at hp
    exact AtT.mapNew ho hg K a vb hX hx hy hz (mhas_no h) hp next
theorem AtT.insNew {X : TypeId} (ho : ops[i]? = some ⟨none, .insert X x y z, T, pos, after, gd⟩) (hg : Gd ks ops gd) (K : KeyL P kt ek) (a : α) (vb : β) (hX : P.underlying X = some (.map kt et)) (hx : ev ks x = some (.map (some b))) (hy : ev ks y = some (ek a)) (hz : ev ks z = some (ev' vb)) (hnew : fk a M 0 = none) (hp : Upd (.blk b (mobj ek ev' M c)) (.blk b (mobj ek ev' (M ++ [(a, vb, c)]) (c + 1))) O O')
    (next : AtT cx n ks O' V P ops Qn t) : AtT cx n ks O V P ops Qn (.n true i t) :=
  .x ho hg fun a' w hk hm => by
    obtain ⟨R, p1, p2⟩ := hp.perm
    have hm1 := hm.perm p1
    simp only [opW, execOp, hk.ev hx, hk.ev hy, hk.ev hz, Instr.mapUpdate, Sem.run_bind, run_underlying hX, Result.andThen_ok, run_getMap hm1.blk, mobj, K.ck, K.find a M, List.toList_toArray, hnew, Option.map_none, run_setMap _ hm1.blk, Sem.run_pure]
    refine ⟨ks, O', V, hk, Mem.perm (O := .blk b (mobj ek ev' (M ++ [(a, vb, c)]) (c + 1)) :: R) ?_ p2.symm, fun h => (by cases h), next⟩
    have e : (Obj.map ((M.map (mE ek ev')).toArray.push { key := ek a, val := ev' vb, born := c }) (c + 1)) = mobj ek ev' (M ++ [(a, vb, c)]) (c + 1) := by simp [mobj, mE]
    rw [e]
    exact hm1.put
end
end Go.Lw
set_option linter.unusedVariables false
namespace Go.Bl
open Go.Gl Go.Lw
/-- How many causes a set has. -/
def cntK (A : Nat) (n : Nat) : Nat := (bitL A n).length
def cnt (A : Nat) : Nat := cntK A 15
theorem cntK_succ (A n : Nat) : cntK A (n + 1) = cntK A n + (if A.testBit n = true then 1 else 0) := by
  unfold cntK; simp only [bitL]; split <;> simp
theorem cntK_or {A i : Nat} (hi : A.testBit i = false) : ∀ n, cntK (A ||| 2 ^ i) n = cntK A n + (if i < n then 1 else 0)
  | 0 => by simp [cntK, bitL]
  | n + 1 => by
    rw [cntK_succ, cntK_succ, cntK_or hi n, Nat.testBit_or, Nat.testBit_two_pow]
    by_cases c : i = n
    · subst c; simp [hi]
    · by_cases d : i < n
      · have : ¬ i = n := c
        simp [d, this, show i < n + 1 by omega]
        split <;> omega
      · have : ¬ i < n + 1 := by omega
        simp [d, c, this]
theorem cnt_or {A i : Nat} (hi : A.testBit i = false) (h : i < 15) : cnt (A ||| 2 ^ i) = cnt A + 1 := by
  unfold cnt; rw [cntK_or hi, if_pos h]
theorem cntK_le (A : Nat) : ∀ n, cntK A n ≤ n
  | 0 => by simp [cntK, bitL]
  | n + 1 => by rw [cntK_succ]; have := cntK_le A n; split <;> omega
theorem cnt_zero : cnt 0 = 0 := by decide
theorem mtB_iff (A B : Nat) : mtB A B = true ↔ ∃ i, A.testBit i = true ∧ B.testBit i = true := by
  unfold mtB
  rw [decide_eq_true_eq]
  constructor
  · intro h
    obtain ⟨i, hi⟩ := Nat.exists_testBit_of_ne_zero h
    rw [Nat.testBit_and, Bool.and_eq_true] at hi
    exact ⟨i, hi⟩
  · rintro ⟨i, h1, h2⟩ h
    have : (A &&& B).testBit i = true := by rw [Nat.testBit_and, h1, h2]; rfl
    rw [h] at this; simp at this
theorem mtB_no {A B i : Nat} (h : mtB A B = false) (hi : A.testBit i = true) : B.testBit i = false := by
  cases c : B.testBit i with
  | false => rfl
  | true => rw [(mtB_iff A B).2 ⟨i, hi, c⟩] at h; cases h
/-- A set that has a cause stays; another one is made greater by one. -/
def Stp (t s x : Nat) : Prop := (mtB t s = true ∧ x = s) ∨ (mtB t s = false ∧ ∃ i, i < 15 ∧ t.testBit i = true ∧ x = s ||| 2 ^ i)
def GsK (ls : List Nat) : Nat → Nat → Prop
  | 0, x => x = 0
  | k + 1, x => ∃ s, GsK ls k s ∧ Stp (ls.getD k 0) s x
/-- A map of sets. -/
structure MI (M : MM Nat Int) (c : Nat) : Prop where
  born : ∀ e ∈ M, e.2.2 < c
  nodB : (M.map (·.2.2)).Nodup
  nodK : (M.map (·.1)).Nodup
  val : ∀ e ∈ M, e.2.1 = (cnt e.1 : Int)
  lt : ∀ e ∈ M, e.1 < 32768
theorem mi_nil : MI [] 0 := ⟨fun e h => (by cases h), List.nodup_nil, List.nodup_nil, fun e h => (by cases h), fun e h => (by cases h)⟩
theorem mi_ins {M : MM Nat Int} {c a : Nat} (h : MI M c) (ha : a < 32768) : MI (mIns a (cnt a : Int) M c).1 (mIns a (cnt a : Int) M c).2 := by
  unfold mIns
  split
  · exact h
  · rename_i hn
    have hno : ∀ e ∈ M, e.1 ≠ a := fun e he e1 => hn ((mhas_iff a M).2 ⟨e, he, e1⟩)
    refine ⟨fun e he => ?_, ?_, ?_, fun e he => ?_, fun e he => ?_⟩
    · rcases List.mem_append.1 he with he | he
      · have := h.born e he; omega
      · rw [List.mem_singleton] at he; subst he; simp
    · rw [List.map_append]
      refine List.nodup_append.2 ⟨h.nodB, by simp, fun x hx y hy => ?_⟩
      obtain ⟨e, he, rfl⟩ := List.mem_map.1 hx
      simp at hy; subst hy
      have := h.born e he; omega
    · rw [List.map_append]
      refine List.nodup_append.2 ⟨h.nodK, by simp, fun x hx y hy => ?_⟩
      obtain ⟨e, he, rfl⟩ := List.mem_map.1 hx
      simp at hy; subst hy
      exact hno e he
    · rcases List.mem_append.1 he with he | he
      · exact h.val e he
      · rw [List.mem_singleton] at he; subst he; rfl
    · rcases List.mem_append.1 he with he | he
      · exact h.lt e he
      · rw [List.mem_singleton] at he; subst he; exact ha
theorem mi_has {M : MM Nat Int} {c a x : Nat} {v : Int} : mhas x (mIns a v M c).1 = true ↔ mhas x M = true ∨ x = a := by
  unfold mIns
  split
  · rename_i h
    constructor
    · exact .inl
    · rintro (h1 | rfl)
      · exact h1
      · exact h
  · rw [mhas_iff, mhas_iff]
    constructor
    · rintro ⟨e, he, rfl⟩
      rcases List.mem_append.1 he with he | he
      · exact .inl ⟨e, he, rfl⟩
      · rw [List.mem_singleton] at he; subst he; exact .inr rfl
    · rintro (⟨e, he, rfl⟩ | rfl)
      · exact ⟨e, List.mem_append_left _ he, rfl⟩
      · exact ⟨(x, v, c), by simp, rfl⟩
/-- The smallest of the sets that are made. -/
structure SmS (ls : List Nat) (srt : List Nat → Prop) (l : List Nat) : Prop where
  nod : l.Nodup
  srt : srt l
  mem : ∀ x, x ∈ l ↔ GsK ls ls.length x ∧ ∀ y, GsK ls ls.length y → cnt x ≤ cnt y
theorem or_lt15 {s i : Nat} (hs : s < 32768) (hi : i < 15) : s ||| 2 ^ i < 32768 := Nat.or_lt_two_pow (n := 15) hs (Nat.pow_lt_pow_right (by decide) hi)
theorem gsK_lt {ls : List Nat} : ∀ {k x : Nat}, GsK ls k x → x < 32768
  | 0, x, h => by rw [h]; decide
  | k + 1, x, ⟨s, h1, h2⟩ => by
    have := gsK_lt h1
    rcases h2 with ⟨_, rfl⟩ | ⟨_, i, hi, _, rfl⟩
    · exact this
    · exact or_lt15 this hi
/-- With nothing empty left there always are some. -/
theorem gsK_ex {ls : List Nat} (h : ∀ s ∈ ls, s ≠ 0 ∧ s < 32768) : ∀ k, k ≤ ls.length → ∃ x, GsK ls k x
  | 0, _ => ⟨0, rfl⟩
  | k + 1, hk => by
    obtain ⟨s, hs⟩ := gsK_ex h k (by omega)
    have ht := h (ls.getD k 0) (by simp only [List.getD, List.getElem?_eq_getElem (show k < ls.length by omega)]; exact List.getElem_mem _)
    cases c : mtB (ls.getD k 0) s with
    | true => exact ⟨s, s, hs, .inl ⟨c, rfl⟩⟩
    | false =>
      obtain ⟨i, hi⟩ := Nat.exists_testBit_of_ne_zero ht.1
      have hi15 : i < 15 := by
        apply Classical.byContradiction
        intro hc
        rw [Nat.testBit_lt_two_pow (Nat.lt_of_lt_of_le (show ls.getD k 0 < 2 ^ 15 by omega) (Nat.pow_le_pow_right (by decide) (by omega)))] at hi; cases hi
      exact ⟨s ||| 2 ^ i, s, hs, .inr ⟨c, i, hi15, hi, rfl⟩⟩
end Go.Bl
namespace Go.Bl
open Go.Gl Go.Lw
theorem pigeonN : ∀ {n : Nat} {l : List Nat}, l.Nodup → (∀ x ∈ l, x < n) → l.length ≤ n
  | 0, l, _, h => by
    cases l with
    | nil => simp
    | cons x l => have := h x List.mem_cons_self; omega
  | n + 1, l, hd, h => by
    have h1 := pigeonN (n := n) (l := l.erase n) (hd.sublist List.erase_sublist) (fun x hx => by
      have := h x (List.mem_of_mem_erase hx)
      have : x ≠ n := fun e => by subst e; exact (List.Nodup.not_mem_erase hd) hx
      omega)
    by_cases c : n ∈ l
    · have := List.length_erase_of_mem c; omega
    · rw [List.erase_of_not_mem c] at h1; omega
theorem mi_len {M : MM Nat Int} {c : Nat} (h : MI M c) : M.length ≤ 32768 := by
  have := pigeonN (n := 32768) h.nodK fun x hx => by obtain ⟨e, he, rfl⟩ := List.mem_map.1 hx; exact h.lt e he
  rw [List.length_map] at this; exact this
theorem seen_push {M : MM Nat Int} {seen : Array Nat} {e : Nat × Int × Nat} (hn : (M.map (·.2.2)).Nodup) (he : e ∈ M) {e' : Nat × Int × Nat} (he' : e' ∈ M) : e'.2.2 ∈ seen.push e.2.2 ↔ e'.2.2 ∈ seen ∨ e' = e := by
  rw [Array.mem_push]
  constructor
  · rintro (h | h)
    · exact .inl h
    · exact .inr (inj_of (fun e : Nat × Int × Nat => e.2.2) hn he' he h)
  · rintro (h | rfl)
    · exact .inl h
    · exact .inr rfl
end Go.Bl
set_option linter.unusedVariables false
namespace Go.Bl
open Go.Gl Go.Lw
/-- A set comes before another one: the least cause that is not in both is in it. -/
def LexB (A B : Nat) : Prop := ∃ i, A.testBit i = true ∧ B.testBit i = false ∧ ∀ j, j < i → A.testBit j = B.testBit j
theorem lex_irr (A : Nat) : ¬ LexB A A := fun ⟨i, h1, h2, _⟩ => by rw [h1] at h2; cases h2
theorem lex_asym {A B : Nat} (h : LexB A B) : ¬ LexB B A := fun ⟨k, k1, k2, k3⟩ => by
  obtain ⟨i, h1, h2, h3⟩ := h
  rcases Nat.lt_trichotomy i k with c | rfl | c
  · rw [k3 i c] at h2; rw [h1] at h2; cases h2
  · rw [h1] at k2; cases k2
  · rw [h3 k c] at k2; rw [k1] at k2; cases k2
theorem lex_tot {A B : Nat} (h : A ≠ B) : LexB A B ∨ LexB B A := by
  have hex : ∃ i, A.testBit i ≠ B.testBit i := by
    apply Classical.byContradiction
    intro hc
    refine h (Nat.eq_of_testBit_eq fun i => ?_)
    apply Classical.byContradiction
    intro hd; exact hc ⟨i, hd⟩
  have hl : ∃ i, A.testBit i ≠ B.testBit i ∧ ∀ j, j < i → A.testBit j = B.testBit j := by
    obtain ⟨i, hi⟩ := hex
    have key : ∀ n i, i ≤ n → A.testBit i ≠ B.testBit i → ∃ i, A.testBit i ≠ B.testBit i ∧ ∀ j, j < i → A.testBit j = B.testBit j := by
      intro n
      induction n with
      | zero => intro i h1 h2; exact ⟨i, h2, fun j hj => by omega⟩
      | succ n ih =>
        intro i h1 h2
        by_cases c : ∃ j, j < i ∧ A.testBit j ≠ B.testBit j
        · obtain ⟨j, h3, h4⟩ := c; exact ih j (by omega) h4
        · exact ⟨i, h2, fun j hj => by
            apply Classical.byContradiction
            intro hd; exact c ⟨j, hj, hd⟩⟩
    exact key i i (Nat.le_refl _) hi
  obtain ⟨i, h1, h2⟩ := hl
  cases a : A.testBit i with
  | true =>
    cases b : B.testBit i with
    | true => rw [a, b] at h1; exact absurd rfl h1
    | false => exact .inl ⟨i, a, b, h2⟩
  | false =>
    cases b : B.testBit i with
    | true => exact .inr ⟨i, b, a, fun j hj => (h2 j hj).symm⟩
    | false => rw [a, b] at h1; exact absurd rfl h1
theorem bitL_split (A i : Nat) : ∀ n, i ≤ n → ∃ R, bitL A n = bitL A i ++ R ∧ ∀ x ∈ R, (i : Int) ≤ x
  | 0, h => by
    obtain rfl : i = 0 := by omega
    exact ⟨[], by simp, fun x h => (by cases h)⟩
  | n + 1, h => by
    by_cases c : i = n + 1
    · subst c; exact ⟨[], by simp, fun x h => (by cases h)⟩
    · obtain ⟨R, h1, h2⟩ := bitL_split A i n (by omega)
      simp only [bitL]
      split
      · refine ⟨R ++ [(n : Int)], by rw [h1, List.append_assoc], fun x hx => ?_⟩
        rcases List.mem_append.1 hx with hx | hx
        · exact h2 x hx
        · rw [List.mem_singleton] at hx; omega
      · exact ⟨R, h1, h2⟩
theorem lt15_bit {A i : Nat} (h : A < 32768) (hi : A.testBit i = true) : i < 15 := by
  apply Classical.byContradiction
  intro hc
  rw [Nat.testBit_lt_two_pow (Nat.lt_of_lt_of_le (show A < 2 ^ 15 by omega) (Nat.pow_le_pow_right (by decide) (by omega)))] at hi; cases hi
/-- Lists that are as long are ordered as their sets. -/
theorem lex_bef {A B : Nat} (hA : A < 32768) (hc : cnt A = cnt B) (h : LexB A B) : befB (bitL A 15) (bitL B 15) = true := by
  obtain ⟨i, h1, h2, h3⟩ := h
  have hi := lt15_bit hA h1
  obtain ⟨R1, a1, a2⟩ := bitL_split A (i + 1) 15 (by omega)
  obtain ⟨R2, b1, b2⟩ := bitL_split B (i + 1) 15 (by omega)
  have e : bitL A i = bitL B i := bitL_ext h3
  have ea : bitL A (i + 1) = bitL A i ++ [(i : Int)] := by simp only [bitL, h1, if_true]
  have eb : bitL B (i + 1) = bitL B i := by simp only [bitL]; rw [if_neg (by rw [h2]; simp)]
  unfold cnt cntK at hc
  rw [a1, b1, ea, eb, e] at hc ⊢
  rw [List.append_assoc, befB_app]
  cases R2 with
  | nil => simp at hc
  | cons r R2 =>
    have := b2 r List.mem_cons_self
    show (if (i : Int) = r then befB R1 R2 else decide ((i : Int) < r)) = true
    rw [if_neg (by omega)]; exact decide_eq_true (by omega)
theorem bef_lex {A B : Nat} (hA : A < 32768) (hB : B < 32768) (hc : cnt A = cnt B) : befB (bitL A 15) (bitL B 15) = true ↔ LexB A B := by
  constructor
  · intro h
    by_cases c : A = B
    · subst c; rw [befB_refl] at h; cases h
    · rcases lex_tot c with h1 | h1
      · exact h1
      · have := lex_bef hB hc.symm h1
        have := befB_trans h this
        rw [befB_refl] at this; cases this
  · exact lex_bef hA hc
/-- Two lists that are ordered, with the same sets, are one. -/
theorem lex_ext : ∀ {a b : List Nat}, a.Pairwise LexB → b.Pairwise LexB → (∀ x, x ∈ a ↔ x ∈ b) → a = b
  | [], [], _, _, _ => rfl
  | [], y :: b, _, _, h => by have := (h y).2 List.mem_cons_self; cases this
  | x :: a, [], _, _, h => by have := (h x).1 List.mem_cons_self; cases this
  | x :: a, y :: b, ha, hb, h => by
    rw [List.pairwise_cons] at ha hb
    have e : x = y := by
      rcases List.mem_cons.1 ((h x).1 List.mem_cons_self) with h1 | h1
      · exact h1
      · rcases List.mem_cons.1 ((h y).2 List.mem_cons_self) with h2 | h2
        · exact h2.symm
        · exact absurd (ha.1 y h2) (lex_asym (hb.1 x h1))
    subst e
    rw [lex_ext ha.2 hb.2 fun z => ?_]
    have := h z
    rw [List.mem_cons, List.mem_cons] at this
    constructor
    · intro hz
      rcases this.1 (.inr hz) with rfl | h1
      · exact absurd (ha.1 _ hz) (lex_irr _)
      · exact h1
    · intro hz
      rcases this.2 (.inr hz) with rfl | h1
      · exact absurd (hb.1 _ hz) (lex_irr _)
      · exact h1
/-- A set in another one. -/
def Sub (A B : Nat) : Prop := ∀ i, A.testBit i = true → B.testBit i = true
theorem sub_cntK {A B : Nat} (h : Sub A B) : ∀ n, cntK A n ≤ cntK B n ∧ (cntK A n = cntK B n → ∀ i, i < n → A.testBit i = B.testBit i)
  | 0 => ⟨by simp [cntK, bitL], fun _ i hi => by omega⟩
  | n + 1 => by
    obtain ⟨h1, h2⟩ := sub_cntK h n
    rw [cntK_succ, cntK_succ]
    have hn := h n
    cases a : A.testBit n with
    | true =>
      rw [hn a]
      refine ⟨by simp; omega, fun he i hi => ?_⟩
      simp at he
      by_cases c : i = n
      · subst c; rw [a, hn a]
      · exact h2 he i (by omega)
    | false =>
      cases b : B.testBit n with
      | true => exact ⟨by simp; omega, fun he => by simp at he; omega⟩
      | false =>
        refine ⟨by simp; omega, fun he i hi => ?_⟩
        simp at he
        by_cases c : i = n
        · subst c; rw [a, b]
        · exact h2 he i (by omega)
theorem sub_eq {A B : Nat} (h : Sub A B) (hA : A < 32768) (hB : B < 32768) (hc : cnt B ≤ cnt A) : A = B := by
  obtain ⟨h1, h2⟩ := sub_cntK h 15
  unfold cnt at hc
  refine Nat.eq_of_testBit_eq fun i => ?_
  by_cases hi : i < 15
  · exact h2 (by omega) i hi
  · have p : (2 : Nat) ^ 15 ≤ 2 ^ i := Nat.pow_le_pow_right (by decide) (by omega)
    rw [Nat.testBit_lt_two_pow (by omega), Nat.testBit_lt_two_pow (by omega)]
/-- A set, of those that are not clear, has a cause of each. -/
def Ex (no : Nat) (ls : List Nat) (A : Nat) : Prop := A < 32768 ∧ mtB A no = false ∧ ∀ s ∈ ls, mtB A s = true
theorem stp_sub {t s x : Nat} (h : Stp t s x) : Sub s x := fun i hi => by
  rcases h with ⟨_, rfl⟩ | ⟨_, k, _, _, rfl⟩
  · exact hi
  · rw [Nat.testBit_or, hi]; rfl
theorem stp_hit {t s x : Nat} (h : Stp t s x) : mtB x t = true := by
  rcases h with ⟨h1, rfl⟩ | ⟨_, k, _, hk, rfl⟩
  · obtain ⟨i, a, b⟩ := (mtB_iff t x).1 h1
    exact (mtB_iff x t).2 ⟨i, b, a⟩
  · refine (mtB_iff _ t).2 ⟨k, ?_, hk⟩
    rw [Nat.testBit_or, Nat.testBit_two_pow]; simp
theorem gsK_ex1 {no : Nat} {ls : List Nat} (hl : ∀ s ∈ ls, mtB s no = false) : ∀ {k x : Nat}, k ≤ ls.length → GsK ls k x → mtB x no = false ∧ ∀ j, j < k → mtB x (ls.getD j 0) = true
  | 0, x, _, h => by
    refine ⟨?_, fun j hj => by omega⟩
    rw [show x = 0 from h]
    unfold mtB; simp
  | k + 1, x, hk, ⟨s, h1, h2⟩ => by
    obtain ⟨a, b⟩ := gsK_ex1 hl (by omega) h1
    refine ⟨?_, fun j hj => ?_⟩
    · cases c : mtB x no with
      | false => rfl
      | true =>
        obtain ⟨i, hi, hn⟩ := (mtB_iff x no).1 c
        rcases h2 with ⟨_, rfl⟩ | ⟨_, q, _, hq, rfl⟩
        · rw [a] at c; cases c
        · rw [Nat.testBit_or, Bool.or_eq_true] at hi
          rcases hi with hi | hi
          · rw [(mtB_iff s no).2 ⟨i, hi, hn⟩] at a; cases a
          · rw [Nat.testBit_two_pow, decide_eq_true_eq] at hi
            subst hi
            have := hl (ls.getD k 0) (by simp only [List.getD, List.getElem?_eq_getElem (show k < ls.length by omega)]; exact List.getElem_mem _)
            rw [(mtB_iff _ no).2 ⟨q, hq, hn⟩] at this; cases this
    · by_cases c : j = k
      · subst c; exact stp_hit h2
      · obtain ⟨i, h3, h4⟩ := (mtB_iff s _).1 (b j (by omega))
        exact (mtB_iff x _).2 ⟨i, stp_sub h2 i h3, h4⟩
theorem gs_ex {no : Nat} {ls : List Nat} (hl : ∀ s ∈ ls, mtB s no = false) {x : Nat} (h : GsK ls ls.length x) : Ex no ls x := by
  obtain ⟨a, b⟩ := gsK_ex1 hl (Nat.le_refl _) h
  refine ⟨gsK_lt h, a, fun s hs => ?_⟩
  obtain ⟨j, hj, rfl⟩ := List.getElem_of_mem hs
  have := b j hj
  rwa [List.getD, List.getElem?_eq_getElem hj] at this
theorem ex_gsK {no : Nat} {ls : List Nat} {y : Nat} (h : Ex no ls y) : ∀ k, k ≤ ls.length → ∃ x, GsK ls k x ∧ Sub x y
  | 0, _ => ⟨0, rfl, fun i hi => by simp at hi⟩
  | k + 1, hk => by
    obtain ⟨s, h1, h2⟩ := ex_gsK h k (by omega)
    have hm := h.2.2 (ls.getD k 0) (by simp only [List.getD, List.getElem?_eq_getElem (show k < ls.length by omega)]; exact List.getElem_mem _)
    cases c : mtB (ls.getD k 0) s with
    | true => exact ⟨s, ⟨s, h1, .inl ⟨c, rfl⟩⟩, h2⟩
    | false =>
      obtain ⟨i, hi, ht⟩ := (mtB_iff y _).1 hm
      refine ⟨s ||| 2 ^ i, ⟨s, h1, .inr ⟨c, i, lt15_bit h.1 hi, ht, rfl⟩⟩, fun j hj => ?_⟩
      rw [Nat.testBit_or, Bool.or_eq_true] at hj
      rcases hj with hj | hj
      · exact h2 j hj
      · rw [Nat.testBit_two_pow, decide_eq_true_eq] at hj; subst hj; exact hi
/-- The smallest sets that are made are the smallest explanations. -/
theorem gs_min {no : Nat} {ls : List Nat} (hl : ∀ s ∈ ls, mtB s no = false) (x : Nat) : (GsK ls ls.length x ∧ ∀ y, GsK ls ls.length y → cnt x ≤ cnt y) ↔ (Ex no ls x ∧ ∀ y, Ex no ls y → cnt x ≤ cnt y) := by
  constructor
  · rintro ⟨h1, h2⟩
    refine ⟨gs_ex hl h1, fun y hy => ?_⟩
    obtain ⟨z, h3, h4⟩ := ex_gsK hy _ (Nat.le_refl _)
    have := h2 z h3
    have := (sub_cntK h4 15).1
    unfold cnt at *; omega
  · rintro ⟨h1, h2⟩
    obtain ⟨z, h3, h4⟩ := ex_gsK h1 _ (Nat.le_refl _)
    have hz := gs_ex hl h3
    have := sub_eq h4 hz.1 h1.1 (h2 z hz)
    subst this
    exact ⟨h3, fun y hy => h2 y (gs_ex hl hy)⟩
end Go.Bl
set_option linter.unusedVariables false
namespace Go.Lw
open Go.RowKit

section
variable {cx : Cx} {n : Nat} {ks : List (Nat × Value)} {O R : List Own} {V : View} {w : World} {K : Act → World → Prop}

theorem Mem.rowBlk {v : Value} {e : TypeId} {s n : Nat} {xs : List Value} (h : Mem cx (.row v e s n xs :: O) V w) (hn : n ≠ 0) :
    ∃ b cap rest, v = .slice (some ⟨b, 0, none⟩) n cap ∧ n ≤ cap ∧ cap ≤ maxLen ∧ Mem cx (.blk b (LC (xs ++ rest) e) :: O) V w := by
  obtain ⟨fp, ⟨f, g, rfl, ⟨rfl, hr⟩, hl⟩, h2, h3⟩ := h.own
  rcases hr.2 with ⟨rfl, hn0⟩ | ⟨b, cap, cur, rfl, hb, hh, hnc, hcm, hcs, htake⟩
  · exact absurd hn0 hn
  · refine ⟨b, cap, cur.toList.drop (n * s), rfl, hnc, hcm, ?_⟩
    have hcur : (LC (xs ++ cur.toList.drop (n * s)) e : Obj) = .cells cur e (0, 0) := by
      show Obj.cells _ e (0, 0) = Obj.cells cur e (0, 0)
      congr 1
      rw [← htake, List.take_append_drop]
    rw [hcur]
    exact ⟨h.below, h.le0, h.fresh, h.view, [b] ++ g, ⟨[b], g, rfl, ⟨rfl, hb, hh⟩, hl⟩, by simpa [Value.ownBlock] using h2, by simpa [Value.ownBlock] using h3⟩
theorem At.rowBlk {v : Value} {e : TypeId} {s m : Nat} {xs : List Value} (hp : Pick (.row v e s m xs) O R) (hm : m ≠ 0)
    (h : ∀ b cap rest, v = .slice (some ⟨b, 0, none⟩) m cap → m ≤ cap → cap ≤ maxLen → At cx n ks (.blk b (LC (xs ++ rest) e) :: R) V K) : At cx n ks O V K := fun a w hk hmm => by
  obtain ⟨b, cap, rest, h1, h2, h3, h4⟩ := (hmm.pick hp).rowBlk hm
  exact h b cap rest h1 h2 h3 a w hk h4
end
section
variable {cx : Cx} {n : Nat} {ks : List (Nat × Value)} {O : List Own} {V : View} {P : Program} {ops : Array Oper} {Qn : Act → World → Prop} {t : Tr} {i d : Nat} {T : TypeId} {pos : String} {after : Array Edge} {gd : Option (Nat × Bool)} {x y : Operand}
/-- The address of an element, by a natural number. -/
theorem AtT.idxZ {X E : TypeId} {len cap s j : Nat} {k : IntKind} {b : Nat} {ag : Bool} (ho : ops[i]? = some ⟨some d, .indexAddr X x y, T, pos, after, gd⟩) (hg : Gd ks ops gd) (hX : P.underlying X = some (.slice E)) (hE : tkB P E = some (ag, s))
    (hx : ev ks x = some (.slice (some ⟨b, 0, none⟩) len cap)) (hy : ev ks y = some (.int k (j : Int))) (h1 : j < len) (hn : d < n)
    (next : AtT cx n ((d, .pointer (some ⟨b, j * s, none⟩)) :: ks) O V P ops Qn t) : AtT cx n ks O V P ops Qn (.q i t) :=
  AtT.idxO ho hg hX hE hx hy (Int.natCast_nonneg j) (Int.ofNat_lt.2 h1) hn (by
    have e : 0 + (j : Int).toNat * s = j * s := by simp
    rw [e]; exact next)
end
theorem flat_setR {α : Type} {enc : α → List Value} {s : Nat} (he : ∀ x, (enc x).length = s) (l : List α) (i : Nat) (r : α) (rest : List Value) (h : i < l.length) : (flat enc l ++ rest).take (i * s) ++ enc r ++ (flat enc l ++ rest).drop (i * s + s) = flat enc (l.set i r) ++ rest := by
  have hl : (flat enc l).length = l.length * s := flat_len he l
  have h2 : i * s + s ≤ l.length * s := by
    rw [← Nat.add_one_mul]; exact Nat.mul_le_mul_right s h
  rw [List.take_append_of_le_length (by omega), List.drop_append_of_le_length (by omega), ← flat_set he l i r h]
  simp [List.append_assoc]
theorem cells_pre {V : View} {b : Nat} {us rest : List Value} {E : TypeId} {fr : Nat × Nat} (h : V b = some (LC (us ++ rest) E fr)) : Cells V ⟨b, 0, none⟩ us := fun j u hj =>
  cells_blk h j u (by rw [List.getElem?_append_left (List.getElem?_eq_some_iff.1 hj).1]; exact hj)
theorem flat_all1 {α : Type} {enc : α → List Value} (h1 : ∀ x, (enc x).all Value.oneCell' = true) (l : List α) : (flat enc l).all Value.oneCell' = true := by
  rw [List.all_eq_true]
  intro u hu
  simp only [flat, List.mem_flatMap] at hu
  obtain ⟨q, _, hq⟩ := hu
  exact List.all_eq_true.1 (h1 q) u hq
end Go.Lw
set_option linter.unusedVariables false
namespace Go.Bl
open Go.Gl Go.Lw
def ic (l : List Nat) : List Int := l.map fun (n : Nat) => (n : Int)
theorem ic_len (l : List Nat) : (ic l).length = l.length := by simp [ic]
theorem ic_at {l : List Nat} {k x : Nat} (h : l[k]? = some x) : (ic l)[k]? = some (x : Int) := by simp [ic, h]
theorem ic_app (l m : List Nat) : ic (l ++ m) = ic l ++ ic m := by simp [ic]
theorem ic_set (l : List Nat) (k x : Nat) : (ic l).set k (x : Int) = ic (l.set k x) := by simp [ic, List.map_set]
/-- What is known when all sets below one have been gone through. -/
structure AlI (no : Nat) (left : List Int) (k few : Nat) (out : List Nat) : Prop where
  f15 : few ≤ 15
  nod : out.Nodup
  mem : ∀ x, x ∈ out ↔ x < k ∧ (mtB x no = false ∧ exB left x = true) ∧ cnt x = few
  low : ∀ x, x < k → (mtB x no = false ∧ exB left x = true) → few ≤ cnt x
  ne : few = 15 ∨ ∃ x, x ∈ out
theorem alI_0 (no : Nat) (left : List Int) : AlI no left 0 15 [] := ⟨Nat.le_refl _, List.nodup_nil, fun x => by simp, fun x h => by omega, .inl rfl⟩
theorem alI_skip {no : Nat} {left : List Int} {k few : Nat} {out : List Nat} (h : AlI no left k few out) (hs : ¬ (mtB k no = false ∧ exB left k = true) ∨ few < cnt k) : AlI no left (k + 1) few out := by
  refine ⟨h.f15, h.nod, fun x => ?_, fun x hx he => ?_, h.ne⟩
  · rw [h.mem]
    constructor
    · rintro ⟨a, b, c⟩; exact ⟨by omega, b, c⟩
    · rintro ⟨a, b, c⟩
      refine ⟨?_, b, c⟩
      by_cases d : x = k
      · subst d
        rcases hs with hs | hs
        · exact absurd b hs
        · omega
      · omega
  · by_cases d : x = k
    · subst d
      rcases hs with hs | hs
      · exact absurd he hs
      · omega
    · exact h.low x (by omega) he
theorem alI_new {no : Nat} {left : List Int} {k few : Nat} {out : List Nat} (h : AlI no left k few out) (he : mtB k no = false ∧ exB left k = true) (hs : cnt k < few) : AlI no left (k + 1) (cnt k) [k] := by
  have := h.f15
  refine ⟨by omega, by simp, fun x => ?_, fun x hx hxe => ?_, .inr ⟨k, by simp⟩⟩
  · rw [List.mem_singleton]
    constructor
    · rintro rfl; exact ⟨by omega, he, rfl⟩
    · rintro ⟨a, b, c⟩
      by_cases d : x = k
      · exact d
      · have := h.low x (by omega) b; omega
  · by_cases d : x = k
    · subst d; exact Nat.le_refl _
    · have := h.low x (by omega) hxe; omega
theorem alI_add {no : Nat} {left : List Int} {k few : Nat} {out : List Nat} (h : AlI no left k few out) (he : mtB k no = false ∧ exB left k = true) (hs : cnt k = few) : AlI no left (k + 1) few (out ++ [k]) := by
  refine ⟨h.f15, List.nodup_append.2 ⟨h.nod, by simp, fun a ha b hb => ?_⟩, fun x => ?_, fun x hx hxe => ?_, .inr ⟨k, by simp⟩⟩
  · rw [List.mem_singleton] at hb
    have := ((h.mem a).1 ha).1; omega
  · rw [List.mem_append, h.mem, List.mem_singleton]
    constructor
    · rintro (⟨a, b, c⟩ | rfl)
      · exact ⟨by omega, b, c⟩
      · exact ⟨by omega, he, hs⟩
    · rintro ⟨a, b, c⟩
      by_cases d : x = k
      · exact .inr d
      · exact .inl ⟨by omega, b, c⟩
  · by_cases d : x = k
    · subst d; omega
    · exact h.low x (by omega) hxe
theorem alI_len {no : Nat} {left : List Int} {k few : Nat} {out : List Nat} (h : AlI no left k few out) : out.length ≤ k := pigeonN h.nod fun x hx => ((h.mem x).1 hx).1
/-- The first ones are in order, but for one that is put among them. -/
structure InsI (L : List Nat) (i k : Nat) : Prop where
  ord : ∀ a b x y, a < b → b ≤ i → a ≠ k → b ≠ k → L[a]? = some x → L[b]? = some y → LexB x y
  les : ∀ b x y, k < b → b ≤ i → L[k]? = some x → L[b]? = some y → LexB x y
theorem ins_start {L : List Nat} {i : Nat} (h : (L.take i).Pairwise LexB) : InsI L i i := by
  refine ⟨fun a b x y hab hb h1 h2 hx hy => ?_, fun b x y hb hbi => by omega⟩
  rw [List.pairwise_iff_getElem] at h
  have ha' : (L.take i)[a]? = some x := by rw [List.getElem?_take, if_pos (by omega)]; exact hx
  have hb' : (L.take i)[b]? = some y := by rw [List.getElem?_take, if_pos (by omega)]; exact hy
  obtain ⟨p, rfl⟩ := List.getElem?_eq_some_iff.1 ha'
  obtain ⟨q, rfl⟩ := List.getElem?_eq_some_iff.1 hb'
  exact h a b p q hab
theorem ins_end {L : List Nat} {i k : Nat} (hk : k ≤ i) (hL : i < L.length) (h : InsI L i k) (hp : k = 0 ∨ ∀ x y, L[k - 1]? = some x → L[k]? = some y → LexB x y) (htr : ∀ x y z, LexB x y → LexB y z → LexB x z) : (L.take (i + 1)).Pairwise LexB := by
  rw [List.pairwise_iff_getElem]
  intro a b ha hb hab
  rw [List.length_take] at ha hb
  have hxa : L[a]? = some L[a] := List.getElem?_eq_getElem (by omega)
  have hxb : L[b]? = some L[b] := List.getElem?_eq_getElem (by omega)
  rw [List.getElem_take, List.getElem_take]
  by_cases c1 : a = k
  · subst c1; exact h.les b _ _ hab (by omega) hxa hxb
  · by_cases c2 : b = k
    · subst c2
      rcases hp with hp | hp
      · omega
      · have hx1 : L[b - 1]? = some L[b - 1] := List.getElem?_eq_getElem (by omega)
        have h1 := hp _ _ hx1 hxb
        by_cases c3 : a = b - 1
        · subst c3; exact h1
        · exact htr _ _ _ (h.ord a (b - 1) _ _ (by omega) (by omega) c1 (by omega) hxa hx1) h1
    · exact h.ord a b _ _ hab (by omega) c1 c2 hxa hxb
theorem ins_swap {L : List Nat} {i k x y : Nat} (hk : 0 < k) (hki : k ≤ i) (hL : i < L.length) (h : InsI L i k) (hx : L[k - 1]? = some x) (hy : L[k]? = some y) (hl : LexB y x) : InsI ((L.set k x).set (k - 1) y) i (k - 1) := by
  have hat : ∀ (j : Nat), ((L.set k x).set (k - 1) y)[j]? = if j = k - 1 then some y else if j = k then some x else L[j]? := fun j => by
    by_cases c : j = k - 1
    · subst c; rw [if_pos rfl, List.getElem?_set_self (by rw [List.length_set]; omega)]
    · rw [if_neg c, List.getElem?_set_ne (fun e => c e.symm)]
      by_cases d : j = k
      · subst d; rw [if_pos rfl, List.getElem?_set_self (by omega)]
      · rw [if_neg d, List.getElem?_set_ne (fun e => d e.symm)]
  refine ⟨fun a b u v hab hb h1 h2 hu hv => ?_, fun b u v hb hbi hu hv => ?_⟩
  · rw [hat, if_neg h1] at hu
    rw [hat, if_neg h2] at hv
    by_cases c1 : a = k
    · rw [if_pos c1] at hu; cases hu
      rw [if_neg (by omega)] at hv
      exact h.ord (k - 1) b _ _ (by omega) hb (by omega) (by omega) hx hv
    · rw [if_neg c1] at hu
      by_cases c2 : b = k
      · rw [if_pos c2] at hv; cases hv
        exact h.ord a (k - 1) _ _ (by omega) (by omega) c1 (by omega) hu hx
      · rw [if_neg c2] at hv
        exact h.ord a b _ _ hab hb c1 c2 hu hv
  · rw [hat, if_pos rfl] at hu; cases hu
    rw [hat, if_neg (by omega)] at hv
    by_cases c2 : b = k
    · rw [if_pos c2] at hv; cases hv; exact hl
    · rw [if_neg c2] at hv
      exact h.les b _ _ (by omega) hbi hy hv
theorem swap_perm {L : List Nat} {k x y : Nat} (hk : 0 < k) (hx : L[k - 1]? = some x) (hy : L[k]? = some y) : ((L.set k x).set (k - 1) y).Perm L := by
  obtain ⟨h1, rfl⟩ := List.getElem?_eq_some_iff.1 hx
  obtain ⟨h2, rfl⟩ := List.getElem?_eq_some_iff.1 hy
  exact List.set_set_perm h2 h1
theorem lex_trans {A B C : Nat} (h : LexB A B) (k : LexB B C) : LexB A C := by
  obtain ⟨i, h1, h2, h3⟩ := h
  obtain ⟨j, k1, k2, k3⟩ := k
  rcases Nat.lt_trichotomy i j with c | rfl | c
  · exact ⟨i, h1, by rw [← k3 i c]; exact h2, fun q hq => (h3 q hq).trans (k3 q (by omega))⟩
  · rw [h2] at k1; cases k1
  · exact ⟨j, by rw [h3 j c]; exact k1, k2, fun q hq => (h3 q (by omega)).trans (k3 q hq)⟩
end Go.Bl
namespace Go.Bl
open Go.Gl Go.Lw
/-- The first one of the longest lists that go on from some. -/
def aG : List (Int × Nat) → List Int → List Int → Nat → List Int
  | [], _, out, _ => out
  | (i, s) :: r, b, out, h => if mtB s h = true then aG r b out h
    else if out.length < (aG r (b ++ [i]) (b ++ [i]) (h ||| s)).length then aG r b (aG r (b ++ [i]) (b ++ [i]) (h ||| s)) h else aG r b out h
theorem aG_meet {i : Int} {s : Nat} {r : List (Int × Nat)} {b out : List Int} {h : Nat} (c : mtB s h = true) : aG ((i, s) :: r) b out h = aG r b out h := by simp only [aG, c, if_true]
theorem aG_more {i : Int} {s : Nat} {r : List (Int × Nat)} {b out : List Int} {h : Nat} (c : mtB s h = false) (d : out.length < (aG r (b ++ [i]) (b ++ [i]) (h ||| s)).length) : aG ((i, s) :: r) b out h = aG r b (aG r (b ++ [i]) (b ++ [i]) (h ||| s)) h := by
  simp only [aG, c, if_pos d]; rfl
theorem aG_same {i : Int} {s : Nat} {r : List (Int × Nat)} {b out : List Int} {h : Nat} (c : mtB s h = false) (d : ¬ out.length < (aG r (b ++ [i]) (b ++ [i]) (h ||| s)).length) : aG ((i, s) :: r) b out h = aG r b out h := by
  simp only [aG, c, if_neg d]; rfl
theorem aG_len : ∀ (r : List (Int × Nat)) (b out : List Int) (h m : Nat), out.length ≤ m → b.length + r.length ≤ m → (aG r b out h).length ≤ m
  | [], _, out, _, m, h1, _ => h1
  | (i, s) :: r, b, out, h, m, h1, h2 => by
    have hl : (b ++ [i]).length = b.length + 1 := by simp
    simp only [List.length_cons] at h2
    have h3 := aG_len r (b ++ [i]) (b ++ [i]) (h ||| s) m (by omega) (by omega)
    cases c : mtB s h with
    | true => rw [aG_meet c]; exact aG_len r b out h m h1 (by omega)
    | false =>
      by_cases d : out.length < (aG r (b ++ [i]) (b ++ [i]) (h ||| s)).length
      · rw [aG_more c d]; exact aG_len r b _ h m h3 (by omega)
      · rw [aG_same c d]; exact aG_len r b out h m h1 (by omega)
/-- Trials that failed, with what is left of their causes. -/
def prR (n : Nat) : List Int → List (Int × Nat)
  | [] => []
  | x :: r => if x < 0 then prR (n + 1) r else ((n : Int), x.toNat) :: prR (n + 1) r
def prP (ts : List Tq) : List (Int × Nat) := (flL ts).zip (lsL ts)
theorem prR_app : ∀ (n : Nat) (l m : List Int), prR n (l ++ m) = prR n l ++ prR (n + l.length) m
  | n, [], m => by simp [prR]
  | n, x :: l, m => by
    have := prR_app (n + 1) l m
    rw [List.cons_append]
    simp only [prR]
    rw [this, show n + 1 + l.length = n + (x :: l).length by simp only [List.length_cons]; omega]
    split
    · rfl
    · rfl
theorem zip_snoc {α β : Type} : ∀ (l : List α) (m : List β) (x : α) (y : β), l.length = m.length → (l ++ [x]).zip (m ++ [y]) = l.zip m ++ [(x, y)]
  | [], [], x, y, _ => rfl
  | a :: l, b :: m, x, y, h => by
    have := zip_snoc l m x y (by simpa using h)
    simp [this]
theorem prK (no : Nat) (ts : List Tq) : ∀ k, k ≤ ts.length → (flK ts k).zip (lsK no ts k) = prR 0 ((ts.take k).map (lfI no))
  | 0, _ => rfl
  | k + 1, h => by
    obtain ⟨t, ht⟩ : ∃ t, ts[k]? = some t := ⟨_, List.getElem?_eq_getElem (by omega)⟩
    have ih := prK no ts k (by omega)
    rw [take_snoc' ht, List.map_append, prR_app, ← ih]
    have hl : 0 + ((ts.take k).map (lfI no)).length = k := by rw [List.length_map, List.length_take]; omega
    rw [hl]
    cases hf : t.f with
    | true =>
      rw [flK_t ht hf, lsK_t ht hf, zip_snoc _ _ _ _ (fl_ls no ts k).1]
      have e : lfI no t = ((clrB (cbN t.p) no : Nat) : Int) := by unfold lfI; rw [if_pos hf]
      simp only [List.map_cons, List.map_nil, prR, e]
      rw [if_neg (by omega)]
      simp
    | false =>
      rw [flK_f ht hf, lsK_f ht hf]
      have e : lfI no t = -1 := by unfold lfI; rw [if_neg (by rw [hf]; decide)]
      simp [prR, e]
theorem prP_eq (ts : List Tq) : prP ts = prR 0 (lfL ts) := by
  have := prK (clA ts) ts ts.length (Nat.le_refl _)
  rw [List.take_length] at this
  exact this
theorem prP_at {ts : List Tq} {k : Nat} {f : Int} {s : Nat} (h1 : (flL ts)[k]? = some f) (h2 : (lsL ts)[k]? = some s) : (prP ts).drop k = (f, s) :: (prP ts).drop (k + 1) := by
  have h : (prP ts)[k]? = some (f, s) := by unfold prP; rw [List.getElem?_zip_eq_some]; exact ⟨h1, h2⟩
  obtain ⟨hk, e⟩ := List.getElem?_eq_some_iff.1 h
  rw [List.drop_eq_getElem_cons hk, e]
theorem prP_len (ts : List Tq) : (prP ts).length = (flL ts).length := by
  unfold prP; rw [List.length_zip, show (lsL ts).length = (flL ts).length from ((fl_ls (clA ts) ts ts.length).1).symm, Nat.min_self]
theorem prR_len : ∀ (n : Nat) (l : List Int), (prR n l).length ≤ l.length
  | _, [] => Nat.le_refl _
  | n, x :: l => by
    have := prR_len (n + 1) l
    simp only [prR]
    split
    · simp only [List.length_cons]; omega
    · simp only [List.length_cons]; omega
end Go.Bl
namespace Go.Bl
open Go.Gl Go.Lw
def gtL (L : List Int) (i : Int) : Nat := (L.getD i.toNat 0).toNat
def hdK (L l : List Int) (k : Nat) : Nat := (l.take k).foldl (fun h i => h ||| gtL L i) 0
def disB (L l : List Int) : Bool := (List.range l.length).all fun j => !mtB (gtL L (l.getD j 0)) (hdK L l j)
def ngB (L l : List Int) : Bool := l.any fun i => decide (L.getD i.toNat 0 < 0)
/-- Whether trials are apart, or the error. -/
def ckR (ts : List Tq) (l : List Int) : Int := if trE ts ≠ 0 then trE ts else if lstB l ts.length = false then 2 else if ngB (lfL ts) l = true then 3 else if disB (lfL ts) l = false then 16 else 0
theorem ckR_tr {ts : List Tq} {l : List Int} (h : trE ts ≠ 0) : ckR ts l = trE ts := by rw [ckR, if_pos h]
theorem ckR_arg {ts : List Tq} {l : List Int} (h : trE ts = 0) (h1 : lstB l ts.length = false) : ckR ts l = 2 := by rw [ckR, if_neg (by simp [h]), if_pos h1]
theorem ckR_range {ts : List Tq} {l : List Int} (h : trE ts = 0) (h1 : lstB l ts.length = true) (h2 : ngB (lfL ts) l = true) : ckR ts l = 3 := by rw [ckR, if_neg (by simp [h]), if_neg (by simp [h1]), if_pos h2]
theorem ckR_rule {ts : List Tq} {l : List Int} (h : trE ts = 0) (h1 : lstB l ts.length = true) (h2 : ngB (lfL ts) l = false) (h3 : disB (lfL ts) l = false) : ckR ts l = 16 := by rw [ckR, if_neg (by simp [h]), if_neg (by simp [h1]), if_neg (by simp [h2]), if_pos h3]
theorem ckR_ok {ts : List Tq} {l : List Int} (h : trE ts = 0) (h1 : lstB l ts.length = true) (h2 : ngB (lfL ts) l = false) (h3 : disB (lfL ts) l = true) : ckR ts l = 0 := by rw [ckR, if_neg (by simp [h]), if_neg (by simp [h1]), if_neg (by simp [h2]), if_neg (by simp [h3])]
theorem dis_true {L l : List Int} (h : ∀ (j : Nat) (x : Int), l[j]? = some x → mtB (gtL L x) (hdK L l j) = false) : disB L l = true := by
  unfold disB; rw [List.all_eq_true]; intro j hj
  have hj := List.mem_range.1 hj
  obtain ⟨x, hx⟩ : ∃ x, l[j]? = some x := ⟨_, List.getElem?_eq_getElem hj⟩
  have e : l.getD j 0 = x := by simp [List.getD, hx]
  rw [e, h j x hx]; rfl
theorem dis_at {L l : List Int} (h : disB L l = true) {j : Nat} {x : Int} (hx : l[j]? = some x) : mtB (gtL L x) (hdK L l j) = false := by
  unfold disB at h; rw [List.all_eq_true] at h
  have := h j (List.mem_range.2 (List.getElem?_eq_some_iff.1 hx).1)
  have e : l.getD j 0 = x := by simp [List.getD, hx]
  rw [e] at this
  simpa using this
theorem dis_false {L l : List Int} {j : Nat} {x : Int} (hx : l[j]? = some x) (h : mtB (gtL L x) (hdK L l j) = true) : disB L l = false := by
  cases c : disB L l with
  | false => rfl
  | true => rw [dis_at c hx] at h; cases h
theorem hdK_succ {L l : List Int} {k : Nat} {x : Int} (hx : l[k]? = some x) : hdK L l (k + 1) = hdK L l k ||| gtL L x := by
  unfold hdK; rw [take_snoc' hx, List.foldl_append]; rfl
theorem gtL_lt {L : List Int} (h : ∀ x ∈ L, -1 ≤ x ∧ x < 32768) (i : Int) : gtL L i < 32768 := by
  unfold gtL
  cases e : L[i.toNat]? with
  | none => simp [List.getD, e]
  | some y => have := h y (List.mem_of_getElem? e); simp only [List.getD, e, Option.getD_some]; omega
theorem hdK_lt {L l : List Int} (h : ∀ x ∈ L, -1 ≤ x ∧ x < 32768) : ∀ k, hdK L l k < 32768 := by
  have key : ∀ (m : List Int) (a : Nat), a < 32768 → m.foldl (fun h i => h ||| gtL L i) a < 32768 := by
    intro m
    induction m with
    | nil => intro a h; exact h
    | cons y m ih => intro a ha; exact ih _ (Nat.or_lt_two_pow (n := 15) ha (gtL_lt h y))
  intro k; exact key _ 0 (by decide)
theorem ng_false {L l : List Int} (h : ∀ x ∈ l, 0 ≤ L.getD x.toNat 0) : ngB L l = false := by
  unfold ngB; rw [List.any_eq_false]; intro x hx hc
  have := of_decide_eq_true hc; have := h x hx; omega
theorem ng_at {L l : List Int} (h : ngB L l = false) {x : Int} (hx : x ∈ l) : 0 ≤ L.getD x.toNat 0 := by
  unfold ngB at h; rw [List.any_eq_false] at h
  have := h x hx
  simp only [decide_eq_true_eq] at this; omega
theorem ng_true {L l : List Int} {x : Int} (hx : x ∈ l) (h : L.getD x.toNat 0 < 0) : ngB L l = true := by
  unfold ngB; rw [List.any_eq_true]; exact ⟨x, hx, decide_eq_true h⟩
theorem lf_at {ts : List Tq} {i : Nat} {t : Tq} (h : ts[i]? = some t) : (lfL ts)[i]? = some (lfI (clA ts) t) := by unfold lfL; rw [List.getElem?_map, h]; rfl
theorem lfI_neg {no : Nat} {t : Tq} : lfI no t < 0 ↔ t.f = false := by
  unfold lfI; cases t.f
  · simp
  · simp only [if_true]; constructor
    · intro h; omega
    · intro h; cases h
theorem flK_bd (ts : List Tq) : ∀ K, K ≤ ts.length → ∀ x ∈ flK ts K, 0 ≤ x ∧ x < (K : Int)
  | 0, _, x, h => by simp [flK] at h
  | K + 1, hK, x, h => by
    obtain ⟨t, ht⟩ : ∃ t, ts[K]? = some t := ⟨_, List.getElem?_eq_getElem (by omega)⟩
    cases hf : t.f with
    | false =>
      rw [flK_f ht hf] at h
      have := flK_bd ts K (by omega) x h
      omega
    | true =>
      rw [flK_t ht hf] at h
      rcases List.mem_append.1 h with h | h
      · have := flK_bd ts K (by omega) x h; omega
      · rw [List.mem_singleton] at h; omega
theorem flK_find {ts : List Tq} {i : Nat} {t : Tq} (no : Nat) (ht : ts[i]? = some t) (hf : t.f = true) : ∀ K, i < K → K ≤ ts.length → ∃ k, (flK ts K)[k]? = some (i : Int) ∧ (lsK no ts K)[k]? = some (clrB (cbN t.p) no) ∧ ∀ (j : Nat) (y : Int), j < k → (flK ts K)[j]? = some y → (y == (i : Int)) = false
  | 0, h, _ => by omega
  | K + 1, h, hK => by
    obtain ⟨t', ht'⟩ : ∃ t, ts[K]? = some t := ⟨_, List.getElem?_eq_getElem (by omega)⟩
    by_cases e : i = K
    · subst e
      rw [ht] at ht'; cases ht'
      refine ⟨(flK ts i).length, ?_, ?_, fun j y hj hy => ?_⟩
      · rw [flK_t ht hf]; simp
      · rw [lsK_t ht hf, (fl_ls no ts i).1]; simp
      · rw [flK_t ht hf, List.getElem?_append_left hj] at hy
        have := flK_bd ts i (by omega) y (List.mem_of_getElem? hy)
        exact beq_false_of_ne (by omega)
    · obtain ⟨k, h1, h2, h3⟩ := flK_find no ht hf K (by omega) (by omega)
      have hk1 := (List.getElem?_eq_some_iff.1 h1).1
      have hk2 := (List.getElem?_eq_some_iff.1 h2).1
      cases hf' : t'.f with
      | false => rw [flK_f ht' hf', lsK_f ht' hf']; exact ⟨k, h1, h2, h3⟩
      | true =>
        rw [flK_t ht' hf', lsK_t ht' hf']
        refine ⟨k, by rw [List.getElem?_append_left hk1]; exact h1, by rw [List.getElem?_append_left hk2]; exact h2, fun j y hj hy => h3 j y hj (by rwa [List.getElem?_append_left (by omega)] at hy)⟩
end Go.Bl
namespace Go.Gl
/-- A batch for the next panel: one that it can share, or a new one. -/
def PickOk (B : Bn) (row : Bool) (out : List Int) (b : Int) : Prop := b = batN out ∨ (0 ≤ b ∧ b < batN out ∧ (row = true → b = batN out - 1) ∧ fitE B (sumL B (ofL (out ++ [b]) b)) = 0)
theorem plan_snoc2 {l : List Int} {x : Int} {row : Bool} (h : planB l row = true) (h0 : 0 ≤ x) (h1 : x ≤ batN l) (h2 : row = true → batN l - 1 ≤ x) : planB (l ++ [x]) row = true := planB_true fun k hk => by
  rw [List.length_append] at hk
  simp only [List.length_cons, List.length_nil] at hk
  by_cases c : k < l.length
  · have := planB_at h c
    unfold plAt leastAt at this ⊢
    rw [decide_eq_true_eq] at this ⊢
    rw [getD_app c, List.take_append_of_le_length (by omega), getD_app (by omega)]
    exact this
  · obtain rfl : k = l.length := by omega
    unfold plAt leastAt
    refine decide_eq_true ?_
    rw [getD_last, List.take_left]
    refine ⟨?_, h1⟩
    split
    · rename_i hc
      rw [getD_app (by omega)]
      have := batN_gt (getD_mem (l := l) (i := l.length - 1) (by omega))
      have := h2 hc.1
      omega
    · exact h0
theorem given_step {B : Bn} (hB : BnOk B) (hf : FineB B) {row : Bool} {out : List Int} {b : Int} (hl : out.length < B.each.length) (hp : planB out row = true) (hg : Good B out) (hb : PickOk B row out b) : planB (out ++ [b]) row = true ∧ Good B (out ++ [b]) := by
  have h0 := batN_pos out
  have hfit : fitE B (sumL B (ofL (out ++ [b]) b)) = 0 := by
    rcases hb with rfl | ⟨_, _, _, h⟩
    · rw [sum_last, sm_none B (fun i hi => decide_eq_false fun e => by have := batN_gt (getD_mem hi); omega), and0]
      exact hf _ hl
    · exact h
  refine ⟨plan_snoc2 hp ?_ ?_ ?_, good_snoc hg hfit⟩
  · rcases hb with rfl | ⟨h, _⟩ <;> omega
  · rcases hb with rfl | ⟨_, h, _⟩ <;> omega
  · intro hr
    rcases hb with rfl | ⟨_, _, h, _⟩
    · omega
    · rw [h hr]; omega
end Go.Gl
namespace Go.Gl
theorem good_plR {d : Dy} {ps : List Pn} {sure row : Bool} {l : List Int} (h : bothE d ps = 0) (hl : l.length = ps.length) (hp : planB l row = true) (hg : Good (bn d ps sure) l) : plR d ps sure l row = (batN l, 0) := plR_ok h hl hp (bad_of hg)
/-- Numbers of a list that are all different, and below another one. -/
theorem pigeon : ∀ {n : Nat} {l : List Int}, l.Nodup → (∀ x ∈ l, 0 ≤ x ∧ x < (n : Int)) → l.length ≤ n
  | 0, l, _, h => by
    cases l with
    | nil => simp
    | cons x l => have := h x List.mem_cons_self; omega
  | n + 1, l, hd, h => by
    have h1 := pigeon (n := n) (l := l.erase (n : Int)) (hd.sublist List.erase_sublist) (fun x hx => by
      have := h x (List.mem_of_mem_erase hx)
      have : x ≠ (n : Int) := fun e => by subst e; exact (List.Nodup.not_mem_erase hd) hx
      omega)
    by_cases c : (n : Int) ∈ l
    · have := List.length_erase_of_mem c; omega
    · rw [List.erase_of_not_mem c] at h1; omega
theorem sum_two (B : Bn) (a b : Int) : sumL B [a, b] = (eachP B a).and (eachP B b) := by
  show (sm0.and (eachP B a)).and (eachP B b) = _
  rw [and0]
theorem sm_two {B : Bn} (hB : BnOk B) {p : Nat → Bool} {a b n : Nat} (hab : a < b) (hb : b < n) (ha' : p a = true) (hb' : p b = true) : ((eachP B (a : Int)).and (eachP B (b : Int))).t ≤ (sm B p n).t ∧ ((eachP B (a : Int)).and (eachP B (b : Int))).g ≤ (sm B p n).g := by
  have h1 : (eachP B (a : Int)).t ≤ (sm B p (a + 1)).t ∧ (eachP B (a : Int)).g ≤ (sm B p (a + 1)).g := by
    have := sm_sub hB (p := fun i => decide (a ≤ i)) (q := p) (m := a + 1) (n := a + 1) (Nat.le_refl _) (fun i hi hpi => by
      have : i = a := by rw [decide_eq_true_eq] at hpi; omega
      subst this; exact ha')
    rw [sm_last] at this; exact this
  have h2 := sm_sub hB (p := p) (q := p) (m := a + 1) (n := b) (by omega) (fun i _ h => h)
  have h3 := sm_sub hB (p := p) (q := p) (m := b + 1) (n := n) (by omega) (fun i _ h => h)
  have e : sm B p (b + 1) = (sm B p b).and (eachP B (b : Int)) := by simp only [sm]; rw [if_pos hb']
  rw [e] at h3
  simp only [Sm.and] at *
  omega
/-- No plan has fewer batches than there are panels that are apart. -/
theorem apart_le {B : Bn} (hB : BnOk B) {l m : List Int} (hl : l.length = B.each.length) (h0 : ∀ x ∈ l, 0 ≤ x) (hg : Good B l) (hm : Ap B m) : (m.length : Int) ≤ batN l := by
  have key : ∀ a b : Nat, a < b → b < B.each.length → Ap2 B (a : Int) (b : Int) → l.getD a 0 ≠ l.getD b 0 := fun a b hab hb h2 e => h2 (by
    rw [sum_two]
    exact fit_mono (sm_two hB (p := fun i => decide (l.getD i 0 = l.getD b 0)) hab (by omega) (decide_eq_true e) (decide_eq_true rfl)) (hg (l.getD b 0)))
  have h1 := pigeon (n := (batN l).toNat) (l := m.map fun x => l.getD x.toNat 0) ?_ ?_
  · rw [List.length_map] at h1
    have := batN_pos l
    omega
  · rw [List.nodup_iff_pairwise_ne, List.pairwise_map]
    refine hm.1.imp_of_mem fun {a b} ha hb h => ?_
    obtain ⟨a0, a1⟩ := hm.2 a ha
    obtain ⟨b0, b1⟩ := hm.2 b hb
    refine key a.toNat b.toNat (by omega) (by omega) ?_
    rw [show ((a.toNat : Nat) : Int) = a by omega, show ((b.toNat : Nat) : Int) = b by omega]
    exact h.2
  · intro x hx
    rw [List.mem_map] at hx
    obtain ⟨y, hy, rfl⟩ := hx
    obtain ⟨y0, y1⟩ := hm.2 y hy
    have hmem := getD_mem (l := l) (i := y.toNat) (by omega)
    have := batN_gt hmem
    have := h0 _ hmem
    omega
/-- No good row comes before the best one. -/
theorem row_first {B : Bn} (hB : BnOk B) (hf : FineB B) {l : List Int} (h : planB l true = true) (hl : l.length = B.each.length) (hg : Good B l) : earB l (rowL B) = false := ear_no fun i hi _ _ hlt => by
  have hm := plan_row h
  have h0 : 0 ≤ l.getD 0 0 := hm.2 _ (getD_mem (by omega))
  have := row_min hB hf hm.1 h0 hl hg i (by omega)
  rw [rowL, rowO_at B (by omega)] at hlt
  omega
theorem bit_lst (A n : Nat) : lstB (bitL A n) (n : Int) = true := lstB_iff.2 ⟨bitL_lt _ _, fun x hx => by
  obtain ⟨i, a, b, _⟩ := bitL_mem.1 hx
  omega⟩
end Go.Gl
namespace Go.Bl
open Go.Gl Go.Lw
/-- How many sets have a cause. -/
def tN (L : List Nat) (i : Nat) : Nat := (L.filter fun x => x.testBit i).length
def tlL (L : List Nat) : List Int := (List.range 15).map fun i => (tN L i : Int)
theorem tlL_len (L : List Nat) : (tlL L).length = 15 := by simp [tlL]
theorem tlL_at {L : List Nat} {i : Nat} (h : i < 15) : (tlL L)[i]? = some (tN L i : Int) := by simp [tlL, h]
theorem tN_le (L : List Nat) (i : Nat) : tN L i ≤ L.length := List.length_filter_le _ _
theorem tN_take {L : List Nat} {k x : Nat} (h : L[k]? = some x) (i : Nat) : tN (L.take (k + 1)) i = tN (L.take k) i + (if x.testBit i = true then 1 else 0) := by
  unfold tN
  rw [take_snoc' h, List.filter_append, List.length_append]
  cases c : x.testBit i <;> simp [c]
theorem tN_zero {L : List Nat} {i : Nat} : tN L i = 0 ↔ ∀ x ∈ L, x.testBit i = false := by
  unfold tN
  rw [List.length_eq_zero_iff, List.filter_eq_nil_iff]
  simp
theorem tN_all {L : List Nat} {i : Nat} : tN L i = L.length ↔ ∀ x ∈ L, x.testBit i = true := by
  unfold tN; rw [List.length_filter_eq_length_iff]
/-- By how many sets a panel fails. -/
def flN (L : List Nat) (p : Pq) : Nat := (L.filter fun x => mtB (cbN p) x).length
theorem flN_le (L : List Nat) (p : Pq) : flN L p ≤ L.length := List.length_filter_le _ _
theorem flN_take {L : List Nat} {p : Pq} {k x : Nat} (h : L[k]? = some x) : flN (L.take (k + 1)) p = flN (L.take k) p + (if mtB (cbN p) x = true then 1 else 0) := by
  unfold flN
  rw [take_snoc' h, List.filter_append, List.length_append]
  cases c : mtB (cbN p) x <;> simp [c]
theorem fl_none {L : List Nat} {p : Pq} (hp : sndB p = true) (h : tlL L = List.replicate 15 0) : flN L p = 0 := by
  unfold flN
  rw [List.length_eq_zero_iff, List.filter_eq_nil_iff]
  intro x hx hm
  obtain ⟨i, h1, h2⟩ := (mtB_iff _ _).1 hm
  have hi := lt15_bit (cbN_lt hp) h1
  have e := tlL_at (L := L) hi
  rw [h, List.getElem?_replicate, if_pos hi] at e
  have e0 : tN L i = 0 := by simp only [Option.some.injEq] at e; omega
  rw [tN_zero.1 e0 x hx] at h2; cases h2
/-- A list of counts, in the midst of a set. -/
structure TlI (L : List Nat) (k x j : Nat) (g : List Int) : Prop where
  len : g.length = 15
  at_ : ∀ i : Nat, i < 15 → g[i]? = some ((tN (L.take k) i : Int) + (if (i : Int) ∈ (bitL x 15).take j then 1 else 0))
theorem tlI_start {L : List Nat} {k x : Nat} : TlI L k x 0 (tlL (L.take k)) := ⟨tlL_len _, fun i hi => by rw [tlL_at hi]; simp⟩
theorem tlI_end {L : List Nat} {k x : Nat} {g : List Int} (hx : L[k]? = some x) (h : TlI L k x (bitL x 15).length g) : g = tlL (L.take (k + 1)) := by
  apply List.ext_getElem?
  intro i
  by_cases hi : i < 15
  · rw [h.at_ i hi, tlL_at hi, tN_take hx, List.take_length]
    have hb : (i : Int) ∈ bitL x 15 ↔ x.testBit i = true := by
      rw [bitL_mem]; constructor
      · rintro ⟨m, h1, h2, h3⟩; obtain rfl : i = m := by omega
        exact h3
      · intro h; exact ⟨i, hi, rfl, h⟩
    by_cases c : x.testBit i = true
    · rw [if_pos (hb.2 c), if_pos c]; push_cast; rfl
    · rw [if_neg (fun h => c (hb.1 h)), if_neg c]; simp
  · rw [List.getElem?_eq_none (by rw [h.len]; omega), List.getElem?_eq_none (by rw [tlL_len]; omega)]
theorem tlI_step {L : List Nat} {k x j i : Nat} {g : List Int} {y : Int} (h : TlI L k x j g) (hj : (bitL x 15)[j]? = some (i : Int)) (hi : i < 15) (hy : g[i]? = some y) : TlI L k x (j + 1) (g.set i (y + 1)) := by
  refine ⟨by rw [List.length_set, h.len], fun m hm => ?_⟩
  have hni : (i : Int) ∉ (bitL x 15).take j := fun hc => by
    obtain ⟨n, hn⟩ := List.mem_iff_getElem?.1 hc
    have hnj : n < j := by have := (List.getElem?_eq_some_iff.1 hn).1; rw [List.length_take] at this; omega
    rw [List.getElem?_take, if_pos hnj] at hn
    have hp := bitL_lt x 15
    rw [List.pairwise_iff_getElem] at hp
    obtain ⟨p1, e1⟩ := List.getElem?_eq_some_iff.1 hn
    obtain ⟨p2, e2⟩ := List.getElem?_eq_some_iff.1 hj
    have := hp n j p1 p2 hnj
    omega
  rw [take_snoc' hj, List.getElem?_set]
  by_cases e : i = m
  · subst e
    rw [if_pos rfl, if_pos (by rw [h.len]; exact hi)]
    have := h.at_ i hi
    rw [hy, if_neg hni] at this
    simp only [Option.some.injEq] at this
    rw [if_pos (by simp), this]; simp
  · rw [if_neg e, h.at_ m hm]
    have : ((m : Int) ∈ (bitL x 15).take j ++ [(i : Int)]) ↔ (m : Int) ∈ (bitL x 15).take j := by
      rw [List.mem_append, List.mem_singleton]
      constructor
      · rintro (h | h)
        · exact h
        · omega
      · exact .inl
    simp only [this]
theorem tlI_bd {L : List Nat} {k x j : Nat} {g : List Int} (h : TlI L k x j g) {i : Nat} {y : Int} (hy : g[i]? = some y) : 0 ≤ y ∧ y ≤ (L.length : Int) + 1 := by
  have hi : i < 15 := by have := (List.getElem?_eq_some_iff.1 hy).1; rw [h.len] at this; exact this
  have := h.at_ i hi
  rw [hy] at this
  simp only [Option.some.injEq] at this
  have hle := tN_le (L.take k) i
  rw [List.length_take] at hle
  rw [this]; split <;> omega
end Go.Bl
namespace Go.Bl
open Go.Gl Go.Lw
def pnK (k : Nat) : Pq := ⟨((k / 25 : Nat) : Int), ((k / 5 % 5 : Nat) : Int), ((k % 5 : Nat) : Int)⟩
def panL : List Pq := (List.range 125).map pnK
theorem panL_len : panL.length = 125 := by simp [panL]
theorem panL_at {k : Nat} (h : k < 125) : panL[k]? = some (pnK k) := by simp [panL, h]
theorem pnK_snd {k : Nat} (h : k < 125) : sndB (pnK k) = true := by
  unfold sndB pnK; rw [decide_eq_true_eq]; dsimp only; omega
theorem panL_snd : ∀ p ∈ panL, sndB p = true := fun p hp => by
  obtain ⟨k, hk, rfl⟩ := List.mem_map.1 hp
  exact pnK_snd (List.mem_range.1 hk)
/-- How much a panel tells. -/
def tel (L : List Nat) (p : Pq) : Int := min (flN L p : Int) ((L.length : Int) - (flN L p : Int))
/-- The first one that is better than all before it. -/
def bst {α : Type} (lt : α → α → Bool) : α → List α → α
  | out, [] => out
  | out, x :: l => bst lt (if lt x out then x else out) l
theorem bst_snoc {α : Type} (lt : α → α → Bool) : ∀ (l : List α) (out x : α), bst lt out (l ++ [x]) = if lt x (bst lt out l) then x else bst lt out l
  | [], out, x => rfl
  | y :: l, out, x => by rw [List.cons_append]; exact bst_snoc lt l _ x
theorem bst_mem {α : Type} (lt : α → α → Bool) : ∀ (l : List α) (out : α), bst lt out l ∈ out :: l
  | [], out => List.mem_singleton.2 rfl
  | x :: l, out => by
    have h := bst_mem lt l (if lt x out then x else out)
    show bst lt (if lt x out then x else out) l ∈ _
    rcases List.mem_cons.1 h with h | h
    · rw [h]; split
      · simp
      · simp
    · exact List.mem_cons_of_mem _ (List.mem_cons_of_mem _ h)
theorem bst_take {α : Type} (lt : α → α → Bool) {l : List α} {out x : α} {k : Nat} (h : l[k]? = some x) : bst lt out (l.take (k + 1)) = if lt x (bst lt out (l.take k)) then x else bst lt out (l.take k) := by rw [take_snoc' h, bst_snoc]
theorem bst_memT {α : Type} (lt : α → α → Bool) (l : List α) (out : α) (k : Nat) : bst lt out (l.take k) ∈ out :: l := by
  rcases List.mem_cons.1 (bst_mem lt (l.take k) out) with h | h
  · rw [h]; exact List.mem_cons_self
  · exact List.mem_cons_of_mem _ (List.mem_of_mem_take h)
/-- The panel that tells most. -/
def mostP (L : List Nat) : Pq := bst (fun p q => decide (tel L q < tel L p)) (pnK 0) (panL.tail)
theorem panL_cons : panL = pnK 0 :: panL.tail := rfl
theorem mostP_mem (L : List Nat) : mostP L ∈ panL := by rw [panL_cons]; exact bst_mem _ _ _
end Go.Bl
namespace Go.Lw
/-- A small number of a list. -/
structure U8 where
  n : Int
  h : 0 ≤ n ∧ n ≤ 255
abbrev e8 (x : U8) : List Value := [.int .u8 x.n]
theorem e8_len (x : U8) : (e8 x).length = 1 := rfl
end Go.Lw
namespace Go.Bl
open Go.Gl Go.Lw
theorem and_mt {s o : Nat} : mtB o s = true ↔ s &&& o ≠ 0 := by unfold mtB; rw [decide_eq_true_eq, Nat.and_comm]
theorem mt_no {A B : Nat} (h : ∀ i, A.testBit i = true → B.testBit i = false) : mtB A B = false := by
  cases c : mtB A B with
  | false => rfl
  | true =>
    obtain ⟨i, h1, h2⟩ := (mtB_iff _ _).1 c
    rw [h i h1] at h2; cases h2
/-- Some causes that are not clear, and hit the first trials that failed. -/
structure GvI (no : Nat) (left : List Int) (k out : Nat) : Prop where
  lt : out < 32768
  no_ : mtB out no = false
  hit : ∀ (j s : Nat), j < k → left[j]? = some (s : Int) → s ≠ 0 → mtB out s = true
theorem gv_start {no b : Nat} {left : List Int} (hno : no < 32768) : GvI no left 0 (clrB (b &&& 32767) no) where
  lt := by
    unfold clrB
    exact Nat.lt_of_le_of_lt (Nat.le_trans Nat.and_le_left Nat.and_le_right) (by decide)
  no_ := mt_no fun i hi => by
    have hb : b &&& 32767 < 18446744073709551616 := Nat.lt_of_le_of_lt Nat.and_le_right (by decide)
    rw [clrB_bit _ _ _ (by omega) hb] at hi
    cases c : no.testBit i
    · rfl
    · rw [c] at hi; simp at hi
  hit := fun j s hj => by omega
theorem gv_skip {no k out : Nat} {left : List Int} {x : Int} (h : GvI no left k out) (hx : left[k]? = some x) (hs : x ≤ 0 ∨ ∃ s : Nat, x = (s : Int) ∧ s &&& out ≠ 0) : GvI no left (k + 1) out where
  lt := h.lt
  no_ := h.no_
  hit := fun j s hj hs' h0 => by
    by_cases e : j = k
    · subst e
      rw [hx] at hs'; cases hs'
      rcases hs with hs | ⟨s', h1, h2⟩
      · omega
      · obtain rfl : s = s' := by omega
        exact and_mt.2 h2
    · exact h.hit j s (by omega) hs' h0
theorem gv_add {no k out s i : Nat} {left : List Int} (h : GvI no left k out) (hx : left[k]? = some (s : Int)) (hi : i < 15) (hb : s.testBit i = true) (hn : mtB s no = false) : GvI no left (k + 1) (out ||| 2 ^ i) where
  lt := or_lt15 h.lt hi
  no_ := mt_no fun m hm => by
    rw [Nat.testBit_or] at hm
    rcases Bool.or_eq_true_iff.1 hm with hm | hm
    · exact mtB_no h.no_ hm
    · rw [Nat.testBit_two_pow] at hm
      have e := of_decide_eq_true hm
      subst e
      exact mtB_no hn hb
  hit := fun j s' hj hs' h0 => by
    rw [mtB_iff]
    by_cases e : j = k
    · subst e
      rw [hx] at hs'
      obtain rfl : s = s' := by simp only [Option.some.injEq] at hs'; omega
      exact ⟨i, by rw [Nat.testBit_or, Nat.testBit_two_pow]; simp, hb⟩
    · obtain ⟨m, h1, h2⟩ := (mtB_iff _ _).1 (h.hit j s' (by omega) hs' h0)
      exact ⟨m, by rw [Nat.testBit_or, h1]; rfl, h2⟩
theorem lf_ls {ts : List Tq} {s : Nat} : (∃ k : Nat, (lfL ts)[k]? = some (s : Int)) ↔ s ∈ lsL ts := by
  rw [lsL_map, List.mem_map]
  constructor
  · rintro ⟨k, hk⟩
    unfold lfL at hk
    rw [List.getElem?_map] at hk
    obtain ⟨t, h1, h2⟩ := Option.map_eq_some_iff.1 hk
    cases hf : t.f with
    | false => have := (lfI_neg (no := clA ts)).2 hf; omega
    | true =>
      refine ⟨t, List.mem_filter.2 ⟨List.mem_of_getElem? h1, hf⟩, ?_⟩
      unfold lfI at h2; rw [if_pos hf] at h2; omega
  · rintro ⟨t, h1, rfl⟩
    obtain ⟨h1, hf⟩ := List.mem_filter.1 h1
    obtain ⟨k, hk⟩ := List.mem_iff_getElem?.1 h1
    exact ⟨k, by rw [lf_at hk]; unfold lfI; rw [if_pos hf]⟩
end Go.Bl
set_option linter.unusedVariables false
namespace Go.Lw
open Go.ChangeShapes Go.WideShapes Go.ChangeAt Go.RowKit Go.Joins Go.Deep

section
variable {H : Type} {enc : TypeId × Value → H} {P : Program} {W W' : World}

theorem stays_all (hl : laidOutB P = true) (hb : Below W.heap.size W W') : ∀ (ts : List TypeId) (vs : List Value) (ds : List (DataW H)) (ps : List MemPlace), (ts.all fun t => P.readableRec t && decide (t < P.types.size)) = true →
    (∀ x ∈ ps, x.block < W.heap.size) → DataW.TrodAll enc P W 0 (fun _ => true) true ts vs ds ps → DataW.TrodAll enc P W' 0 (fun b => decide (b < W.heap.size)) true ts vs ds ps
  | [], vs, ds, ps, _, _, h => by
    obtain ⟨rfl, rfl, rfl⟩ := trodAll_nil h
    exact trodAll_mk0
  | t :: ts, vs, ds, ps, ht, hlt, h => by
    obtain ⟨v, vs', d, ds', p, q, rfl, rfl, rfl, h0, h1⟩ := trodAll_cons h
    simp only [List.all_cons, Bool.and_eq_true, decide_eq_true_eq] at ht
    exact trodAll_cons_mk (Below.trod hl ht.1.1 ht.1.2 h0 hb fun x hx => hlt x (List.mem_append_left _ hx))
      (stays_all hl hb ts vs' ds' q ht.2 (fun x hx => hlt x (List.mem_append_right _ hx)) h1)

/-- A law: the call returns true, and what was there stays as it was. -/
theorem law_lift {C : Checked} {F : FuncId} {fn : Func} {tb : TypeId} {os : Os} {s : ChangeSpec} {conds : List PathCond} (hs : ∀ ds : List (DataW H), ds.length = fn.params.size → s.fn H (ds ++ []) = { results := [.lit (.bool true)], args := ds })
    (hvars : s.vars = []) (hres : fn.resultTypes = #[tb]) (htb : C.prog.underlying tb = some .bool) (hl : laidOutB C.prog = true) (hts : (fn.params.toList.all fun t => C.prog.readableRec t && decide (t < C.prog.types.size)) = true)
    (own : ownKnob C.prog.godebug = none) (started : os.Started) (noInit : C.prog.inits.idxOf? F = none) (hfn : C.prog.funcs[F]? = some fn)
    (witness : ∃ (w : World) (tape : Tape) (i : Input), w.os = os ∧ (w.forCall tape i).Shaped C.prog ∧ i.vars = [] ∧ Input.okWide C.prog (w.forCall tape i) .any w.heap.size F i ∧
      s.pre6 enc C.prog fn conds false (w.forCall tape i).memory i.args ∧ ({} : Assume).holds C.prog (lone (Frame.enter C.prog F i.args .normal) [] (w.forCall tape i)))
    (walk : ∀ (W : World) (base : Nat) (args : Array Value) (ds : List (DataW H)) (ps : List MemPlace), (∀ (j : Nat) t v, fn.params[j]? = some t → args[j]? = some v → Value.okWide C.prog W .any base t v) →
      DataW.TrodAll enc C.prog W 0 (fun _ => true) true fn.params.toList args.toList ds ps → ∃ l : List Value, args = l.toArray ∧ Fnc C.prog F l (hp W) fun v _ => v = .bool true) :
    ReturnsInHanded {} C os F .any (s.pre6 enc C.prog fn conds false) (s.post enc C.prog fn false true false false) := by
  refine returnsInHanded_of_change (C := C) own started noInit hfn witness ?_
  intro W base args ds gs before hval hW _ _
  have hlt := hW.lt
  have hW' := hW
  obtain ⟨p, q, hA, hV, rfl, hfz, hnd⟩ := hW
  rw [hvars] at hV
  obtain ⟨rfl, rfl⟩ := trodVars_none hV
  obtain ⟨l, rfl, hF⟩ := walk W base args ds p hval hA
  refine (hF W (Le.refl _)).mono fun e W' ⟨v, V', he, hb, _, _, _, hv⟩ => ?_
  subst hv
  have hlen : ds.length = fn.params.size := by
    have key : ∀ (ts : List TypeId) (vs : List Value) (ds : List (DataW H)) (ps : List MemPlace), DataW.TrodAll enc C.prog W 0 (fun _ => true) true ts vs ds ps → ds.length = ts.length := by
      intro ts
      induction ts with
      | nil => intro vs ds ps h; obtain ⟨_, rfl, _⟩ := trodAll_nil h; rfl
      | cons t ts ih => intro vs ds ps h; obtain ⟨v, vs', d, ds', p, q, rfl, rfl, rfl, h0, h1⟩ := trodAll_cons h; simp [ih _ _ _ h1]
    simpa using key _ _ _ _ hA
  refine ⟨_, he, ds, [], p ++ [], [], p, [], hW', ?_, ?_, ?_, Below.frame hb _, fun h => by cases h⟩
  · rw [hs ds hlen, hres]
    exact trodAll_mk1 (shut_bool htb true)
  · rw [hs ds hlen]
    exact stays_all hl hb _ _ _ _ hts (fun x hx => hlt x (List.mem_append_left _ hx)) hA
  · rw [hs ds hlen, hvars]
    exact rfl

/-! ### What an argument reads as -/
variable {base : Nat} {spare : Nat → Bool} {held : Bool}

theorem cells_hp {a : Addr} {n : Nat} {cs : List Value} (h : W.cells? base a n = some cs) : cs.length = n ∧ Cells (hp W) a cs := by
  obtain ⟨_, h1, h2⟩ := World.cells?_some h
  refine ⟨h1, fun j u hj => ?_⟩
  have hlt : j < n := by rw [← h1]; exact (List.getElem?_eq_some_iff.1 hj).1
  rw [vcell_hp, h2 j hlt]; exact hj

/-- A slice whose elements read so. -/
theorem sl_of {α : Type} {en : α → List Value} {T E : TypeId} {s : Nat} {fuel : Nat} {v : Value} {x : DataW H × List MemPlace} (hT : P.underlying T = some (.slice E)) (hE : P.cellsOf E = s)
    (hel : ∀ fuel cs x, DataW.trod enc P W base spare held fuel E cs = some x → cs.length = s → ∃ a, cs = en a) (h : DataW.trod enc P W base spare held fuel T [v] = some x) :
    ∃ (l : List α) (a : Option Addr) (cap : Nat), v = .slice a l.length cap ∧ Sl (hp W) en s (.slice a l.length cap) l := by
  subst hE
  rcases open_slice hT h with ⟨h0, _⟩ | ⟨a, len, cap, m, n, D, Pl, h0, _, hlc, hcm, hm, _, hx⟩
  · simp only [List.cons.injEq, and_true] at h0
    exact ⟨[], none, 0, h0, Sl.nil _ _ _⟩
  · simp only [List.cons.injEq, and_true] at h0
    have hlm : len ≤ m := by rw [hm]; split <;> omega
    have hch : ∀ i, i < len → ∃ y : α, Cells (hp W) (a.add (i * P.cellsOf E)) (en y) := fun i hi => by
      obtain ⟨cs', h1, h2⟩ := hx i (by omega)
      obtain ⟨hl, hc⟩ := cells_hp h1
      obtain ⟨y, rfl⟩ := hel _ _ _ h2 hl
      exact ⟨y, hc⟩
    have hl : ∀ k, k ≤ len → ∃ l : List α, l.length = k ∧ ∀ i y, l[i]? = some y → Cells (hp W) (a.add (i * P.cellsOf E)) (en y) := by
      intro k
      induction k with
      | zero => exact fun _ => ⟨[], rfl, fun i y h => by simp at h⟩
      | succ k ih =>
        intro hk
        obtain ⟨l, hl, hc⟩ := ih (by omega)
        obtain ⟨y, hy⟩ := hch k (by omega)
        refine ⟨l ++ [y], by simp [hl], fun i z hz => ?_⟩
        by_cases c : i < l.length
        · rw [List.getElem?_append_left c] at hz; exact hc i z hz
        · rw [List.getElem?_append_right (by omega)] at hz
          have e : i = k := by
            have := (List.getElem?_eq_some_iff.1 hz).1
            simp at this; omega
          subst e
          rw [hl] at hz
          simp at hz
          subst hz; exact hy
    obtain ⟨l, hl, hc⟩ := hl len (Nat.le_refl _)
    subst hl
    exact ⟨l, some a, cap, h0, some a, cap, rfl, hlc, hcm, fun _ => rfl, fun p hp i y hy => by cases hp; exact hc i y hy⟩
theorem el_int {E : TypeId} {k : IntKind} (hE : P.underlying E = some (.int k)) {fuel : Nat} {cs : List Value} {x : DataW H × List MemPlace} (h : DataW.trod enc P W base spare held fuel E cs = some x) : ∃ z : Int, cs = [.int k z] ∧ (Lit.int k z).wf = true := by
  obtain ⟨n, h1, _, h3⟩ := DataW.trod_int hE h
  exact ⟨n, h1, h3⟩
end
end Go.Lw
set_option linter.unusedVariables false
set_option maxRecDepth 100000
namespace Go.Lw
theorem bd_u8 {x : Int} (w : (Lit.int .u8 x).wf = true) : 0 ≤ x ∧ x ≤ 255 := by
  simp [Lit.wf, IntKind.min, IntKind.max, IntKind.bits, IntKind.signed] at w; omega
theorem bd_u16 {x : Int} (w : (Lit.int .u16 x).wf = true) : 0 ≤ x ∧ x ≤ 65535 := by
  simp [Lit.wf, IntKind.min, IntKind.max, IntKind.bits, IntKind.signed] at w; omega
end Go.Lw
namespace Go.Proofs.YtfcpmblmklibjaaGreat
open Go.Lw Go.Gl Go.Bl Go.RowKit Go.ChangeShapes Go.WideShapes Go.ChangeAt Go.Joins Go.Deep

theorem own : ownKnob Tryz.prog.godebug = none := by kernel_rfl
theorem laidOut : laidOutB Tryz.prog = true := by kernel_rfl
theorem cells24 : Tryz.prog.cellsOf 24 = 3 := by kernel_rfl
theorem cells53 : Tryz.prog.cellsOf 81 = 4 := by kernel_rfl
theorem cellsI3 : Tryz.prog.cellsOf 3 = 1 := by kernel_rfl
theorem cells4 : Tryz.prog.cellsOf 4 = 1 := by kernel_rfl
theorem cells5 : Tryz.prog.cellsOf 5 = 1 := by kernel_rfl

section
variable {H : Type} {enc : TypeId × Value → H} {W : World} {base b0 : Nat} {spare : Nat → Bool} {held : Bool} {v : Value} {d : DataW H} {p : List MemPlace} {r : Reach}

theorem rd_ints (hv : Value.okWide Tryz.prog W r b0 38 v) (h : DataW.Trod enc Tryz.prog W base spare held 38 v d p) : ∃ (l : List Int) (a : Option Addr) (cap : Nat), v = .slice a l.length cap ∧ SlI (hp W) (.slice a l.length cap) l := by
  obtain ⟨a, n, c, rfl⟩ := okWide_slice Tryz.underlying38 hv
  obtain ⟨fuel, h⟩ := h
  exact sl_of Tryz.underlying38 cellsI3 (fun _ _ _ h _ => by obtain ⟨z, e, _⟩ := el_int Tryz.underlying3 h; exact ⟨z, e⟩) h
theorem rd_u8s (hv : Value.okWide Tryz.prog W r b0 34 v) (h : DataW.Trod enc Tryz.prog W base spare held 34 v d p) : ∃ (l : List U8) (a : Option Addr) (cap : Nat), v = .slice a l.length cap ∧ Sl (hp W) e8 1 (.slice a l.length cap) l := by
  obtain ⟨a, n, c, rfl⟩ := okWide_slice Tryz.underlying34 hv
  obtain ⟨fuel, h⟩ := h
  refine sl_of Tryz.underlying34 cells5 (fun _ cs _ h _ => ?_) h
  obtain ⟨z, e, w⟩ := el_int Tryz.underlying5 h
  exact ⟨⟨z, bd_u8 w⟩, e⟩
theorem panel_cells {fuel : Nat} {c0 c1 c2 : Value} {x : DataW H × List MemPlace} (h : DataW.trod enc Tryz.prog W base spare held fuel 24 [c0, c1, c2] = some x) : ∃ a b c : Int, c0 = iv a ∧ c1 = iv b ∧ c2 = iv c := by
  obtain ⟨y0, y1, y2, n, _, _, h0, h1, h2⟩ := trod_struct3 Tryz.underlying24 h
  obtain ⟨x0, k0, _⟩ := el_int (k := .i64) Tryz.underlying3 h0
  obtain ⟨x1, k1, _⟩ := el_int (k := .i64) Tryz.underlying3 h1
  obtain ⟨x2, k2, _⟩ := el_int (k := .i64) Tryz.underlying3 h2
  have k0' : [c0] = [Value.int .i64 x0] := k0
  have k1' : [c1] = [Value.int .i64 x1] := k1
  have k2' : [c2] = [Value.int .i64 x2] := k2
  simp at k0' k1' k2'
  exact ⟨x0, x1, x2, k0', k1', k2'⟩
theorem trial_cells {fuel : Nat} {c0 c1 c2 c3 : Value} {x : DataW H × List MemPlace} (h : DataW.trod enc Tryz.prog W base spare held fuel 81 [c0, c1, c2, c3] = some x) : ∃ t : Tq, [c0, c1, c2, c3] = tqe t := by
  obtain ⟨y0, y1, n, _, _, h0, h1⟩ := trod_struct2 Tryz.underlying81 h
  dsimp only at h0 h1
  have h0' : DataW.trod enc Tryz.prog W base spare held n 24 [c0, c1, c2] = some y0 := by rw [cells24] at h0; exact h0
  have h1' : DataW.trod enc Tryz.prog W base spare held n 4 [c3] = some y1 := by rw [cells4] at h1; exact h1
  obtain ⟨a, b, c, rfl, rfl, rfl⟩ := panel_cells h0'
  obtain ⟨f, hf, _⟩ := DataW.trod_bool Tryz.underlying4 h1'
  have hf' : c3 = .bool f := by simpa using hf
  subst hf'
  exact ⟨⟨⟨a, b, c⟩, f⟩, rfl⟩
theorem open_panel (hv : Value.okWide Tryz.prog W r b0 24 v) (h : DataW.Trod enc Tryz.prog W base spare held 24 v d p) : ∃ x, v = pqv x := by
  obtain ⟨cs, rfl, hsz⟩ := okWide_struct Tryz.underlying24 hv
  rw [cells24] at hsz
  obtain ⟨fuel, h⟩ := h
  obtain ⟨l⟩ := cs
  match l, hsz with
  | [c0, c1, c2], _ =>
    obtain ⟨a, b, c, rfl, rfl, rfl⟩ := panel_cells h
    exact ⟨⟨a, b, c⟩, rfl⟩
theorem open_trial (hv : Value.okWide Tryz.prog W r b0 81 v) (h : DataW.Trod enc Tryz.prog W base spare held 81 v d p) : ∃ x, v = tqv x := by
  obtain ⟨cs, rfl, hsz⟩ := okWide_struct Tryz.underlying81 hv
  rw [cells53] at hsz
  obtain ⟨fuel, h⟩ := h
  obtain ⟨l⟩ := cs
  match l, hsz with
  | [c0, c1, c2, c3], _ =>
    obtain ⟨t, ht⟩ := trial_cells h
    exact ⟨t, by rw [ht]⟩
theorem rd_trials (hv : Value.okWide Tryz.prog W r b0 22 v) (h : DataW.Trod enc Tryz.prog W base spare held 22 v d p) : ∃ (l : List Tq) (a : Option Addr) (cap : Nat), v = .slice a l.length cap ∧ Sl (hp W) tqe 4 (.slice a l.length cap) l := by
  obtain ⟨a, n, c, rfl⟩ := okWide_slice Tryz.underlying22 hv
  obtain ⟨fuel, h⟩ := h
  refine sl_of Tryz.underlying22 cells53 (fun _ cs _ h hl => ?_) h
  match cs, hl with
  | [c0, c1, c2, c3], _ => exact trial_cells h
end
end Go.Proofs.YtfcpmblmklibjaaGreat
set_option linter.unusedVariables false
namespace Go.Proofs.YtfcpmblmklibjaaGreat
open Go.Shelf Go.RowKit Go.Lib Go.Sort
def srt_ren : Go.Shelf.Ren := ⟨fun | 6 => 87 | 14 => 91 | 15 => 92 | 20 => 96 | 21 => 97 | 22 => 98 | 23 => 99 | 24 => 100 | 25 => 101 | 26 => 102 | 27 => 103 | 28 => 104 | 29 => 105 | 46 => 108 | 47 => 109 | 48 => 110 | 49 => 111 | 50 => 112 | 57 => 113 | n => n, fun | 22 => 61 | 24 => 86 | 25 => 118 | 3 => 3 | 39 => 116 | 0 => 0 | 53 => 122 | 55 => 124 | 4 => 4 | 46 => 128 | 45 => 127 | 50 => 132 | 5 => 5 | 9 => 9 | 66 => 136 | 70 => 140 | 76 => 142 | 77 => 143 | n => n, fun n => n⟩
theorem srt : SlLaysF0.n6 Tryz.prog srt_ren where
  mixed := by kernel_rfl
  f6 := ⟨"slices.SortFunc[[]crossband/boil.set,crossband/boil.set]", of_decide_eq_true (by kernel_rfl), Tryz.func87.trans (congrArg some (by kernel_rfl))⟩
  f14 := ⟨"slices.pdqsortCmpFunc[crossband/boil.set]", of_decide_eq_true (by kernel_rfl), Tryz.func91.trans (congrArg some (by kernel_rfl))⟩
  f15 := Tryz.func92.trans (congrArg some (by kernel_rfl))
  f20 := ⟨"slices.insertionSortCmpFunc[crossband/boil.set]", of_decide_eq_true (by kernel_rfl), Tryz.func96.trans (congrArg some (by kernel_rfl))⟩
  f21 := ⟨"slices.heapSortCmpFunc[crossband/boil.set]", of_decide_eq_true (by kernel_rfl), Tryz.func97.trans (congrArg some (by kernel_rfl))⟩
  f22 := ⟨"slices.breakPatternsCmpFunc[crossband/boil.set]", of_decide_eq_true (by kernel_rfl), Tryz.func98.trans (congrArg some (by kernel_rfl))⟩
  f23 := ⟨"slices.choosePivotCmpFunc[crossband/boil.set]", of_decide_eq_true (by kernel_rfl), Tryz.func99.trans (congrArg some (by kernel_rfl))⟩
  f24 := ⟨"slices.reverseRangeCmpFunc[crossband/boil.set]", of_decide_eq_true (by kernel_rfl), Tryz.func100.trans (congrArg some (by kernel_rfl))⟩
  f25 := ⟨"slices.partialInsertionSortCmpFunc[crossband/boil.set]", of_decide_eq_true (by kernel_rfl), Tryz.func101.trans (congrArg some (by kernel_rfl))⟩
  f26 := ⟨"slices.partitionEqualCmpFunc[crossband/boil.set]", of_decide_eq_true (by kernel_rfl), Tryz.func102.trans (congrArg some (by kernel_rfl))⟩
  f27 := ⟨"slices.partitionCmpFunc[crossband/boil.set]", of_decide_eq_true (by kernel_rfl), Tryz.func103.trans (congrArg some (by kernel_rfl))⟩
  f28 := Tryz.func104.trans (congrArg some (by kernel_rfl))
  f29 := Tryz.func105.trans (congrArg some (by kernel_rfl))
  f46 := ⟨"slices.siftDownCmpFunc[crossband/boil.set]", of_decide_eq_true (by kernel_rfl), Tryz.func108.trans (congrArg some (by kernel_rfl))⟩
  f47 := Tryz.func109.trans (congrArg some (by kernel_rfl))
  f48 := Tryz.func110.trans (congrArg some (by kernel_rfl))
  f49 := ⟨"slices.medianAdjacentCmpFunc[crossband/boil.set]", of_decide_eq_true (by kernel_rfl), Tryz.func111.trans (congrArg some (by kernel_rfl))⟩
  f50 := ⟨"slices.medianCmpFunc[crossband/boil.set]", of_decide_eq_true (by kernel_rfl), Tryz.func112.trans (congrArg some (by kernel_rfl))⟩
  f57 := ⟨"slices.order2CmpFunc[crossband/boil.set]", of_decide_eq_true (by kernel_rfl), Tryz.func113.trans (congrArg some (by kernel_rfl))⟩
  t0 := Tryz.underlying0
  a0 := Tryz.isAgg0
  z0 := Tryz.sizeOf0
  v0 := Tryz.zeroValue0
  t3 := Tryz.underlying3
  a3 := Tryz.isAgg3
  z3 := Tryz.sizeOf3
  v3 := Tryz.zeroValue3
  t4 := Tryz.underlying4
  a4 := Tryz.isAgg4
  z4 := Tryz.sizeOf4
  v4 := Tryz.zeroValue4
  t5 := Tryz.underlying5
  a5 := Tryz.isAgg5
  z5 := Tryz.sizeOf5
  v5 := Tryz.zeroValue5
  t9 := Tryz.underlying9
  a9 := Tryz.isAgg9
  z9 := Tryz.sizeOf9
  v9 := Tryz.zeroValue9
  t22 := Tryz.underlying61
  a22 := Tryz.isAgg61
  z22 := Tryz.sizeOf61
  v22 := Tryz.zeroValue61
  t25 := Tryz.underlying118
  a25 := Tryz.isAgg118
  z25 := Tryz.sizeOf118
  v25 := Tryz.zeroValue118
  t39 := Tryz.underlying116
  a39 := Tryz.isAgg116
  z39 := Tryz.sizeOf116
  v39 := Tryz.zeroValue116
  t45 := Tryz.underlying127
  a45 := Tryz.isAgg127
  z45 := Tryz.sizeOf127
  v45 := Tryz.zeroValue127
  t46 := Tryz.underlying128
  a46 := Tryz.isAgg128
  z46 := Tryz.sizeOf128
  v46 := Tryz.zeroValue128
  t50 := Tryz.underlying132
  a50 := Tryz.isAgg132
  z50 := Tryz.sizeOf132
  v50 := Tryz.zeroValue132
  t53 := Tryz.underlying122
  a53 := Tryz.isAgg122
  z53 := Tryz.sizeOf122
  v53 := Tryz.zeroValue122
  t55 := Tryz.underlying124
  a55 := Tryz.isAgg124
  z55 := Tryz.sizeOf124
  v55 := Tryz.zeroValue124
  t66 := Tryz.underlying136
  a66 := Tryz.isAgg136
  z66 := Tryz.sizeOf136
  v66 := Tryz.zeroValue136
  t70 := Tryz.underlying140
  a70 := Tryz.isAgg140
  z70 := Tryz.sizeOf140
  v70 := Tryz.zeroValue140
  t76 := Tryz.underlying142
  a76 := Tryz.isAgg142
  z76 := Tryz.sizeOf142
  v76 := Tryz.zeroValue142
  t77 := Tryz.underlying143
  a77 := Tryz.isAgg143
  z77 := Tryz.sizeOf143
  v77 := Tryz.zeroValue143
end Go.Proofs.YtfcpmblmklibjaaGreat
set_option linter.unusedVariables false
set_option linter.unusedSimpArgs false
namespace Go.Bl
/-- One step of the reversal of bits; all of them. -/
def stI (n k m : Int) : Int := Go.bits .or .u64 (Go.bits .and .u64 (n / k) m) (IntKind.u64.wrap (Go.bits .and .u64 n m * k))
def rbI (n : Int) : Int := Go.bits .or .u64 (stI (stI n 256 71777214294589695) 65536 281470681808895 / 4294967296) (IntKind.u64.wrap (stI (stI n 256 71777214294589695) 65536 281470681808895 * 4294967296))
def rvI (n : Int) : Int := rbI (stI (stI (stI n 2 6148914691236517205) 4 3689348814741910323) 16 1085102592571150095)
def cpI (x y : Int) : Int := if x < y then -1 else if x > y then 1 else 0
end Go.Bl
namespace Go.Proofs.YtfcpmblmklibjaaGreat
open Go.Shelf Go.RowKit Go.Lib Go.Sort Go.Bl
theorem rb64 (n : Int) (w : World) : Calls Tryz.prog 107 #[.int .u64 n] w fun e w' => e = .returned (.int .u64 (rbI n)) ∧ w' = w := by
  go_enter Tryz.func107, Tryz.ntmps107
  go_wp2
  go_ret
  exact ⟨rfl, rfl⟩
theorem nan106 (n : Int) (w : World) : Calls Tryz.prog 93 #[.int .u64 n] w fun e w' => e = .returned (.bool false) ∧ w' = w := by
  go_enter Tryz.func93, Tryz.ntmps93
  go_wp2
  go_ret
  exact ⟨rfl, rfl⟩
theorem rv64 (n : Int) (w : World) : Calls Tryz.prog 95 #[.int .u64 n] w fun e w' => e = .returned (.int .u64 (rvI n)) ∧ w' = w := by
  go_enter Tryz.func95, Tryz.ntmps95
  go_wp2_with (go_at_call 107; refine (rb64 _ _).mono ?_; rintro e w' ⟨rfl, rfl⟩)
  go_ret
  exact ⟨rfl, rfl⟩
theorem rv103 (n : Int) (w : World) : Calls Tryz.prog 90 #[.int .u64 n] w fun e w' => e = .returned (.int .u64 (rvI n)) ∧ w' = w := by
  go_enter Tryz.func90, Tryz.ntmps90
  go_wp2_with (go_at_call 95; refine (rv64 _ _).mono ?_; rintro e w' ⟨rfl, rfl⟩)
  go_ret
  exact ⟨rfl, rfl⟩
theorem cp102 (x y : Int) (w : World) : Calls Tryz.prog 89 #[.int .u64 x, .int .u64 y] w fun e w' => e = .returned (.int .i64 (cpI x y)) ∧ w' = w := by
  go_enter Tryz.func89, Tryz.ntmps89
  go_wp2_with (go_at_call 93; refine (nan106 _ _).mono ?_; rintro e w' ⟨rfl, rfl⟩)
  all_goals
    go_ret
    refine ⟨?_, rfl⟩
    unfold cpI
    first
      | (rw [if_pos (by omega)]; rfl)
      | (rw [if_neg (by omega), if_pos (by omega)]; rfl)
      | (rw [if_neg (by omega), if_neg (by omega)]; rfl)
abbrev st1 (s : Nat) : List Value := [.int .i64 (s : Int)]
/-- Which of two sets comes first. -/
def cfS (s t : Nat) : Int := cpI (rvI (IntKind.u64.wrap (t : Int))) (rvI (IntKind.u64.wrap (s : Int)))
set_option maxHeartbeats 1600000 in
set_option maxRecDepth 1000000 in
theorem closure101 (s t : Nat) (W : World) : Calls Tryz.prog 88 #[.agg #[.int .i64 (s : Int)], .agg #[.int .i64 (t : Int)]] W fun e w' => e = .returned (.int .i64 (cfS s t)) ∧ ∃ q os', w' = grow (W.drewN q) os' := by
  have h1 := rv103 (IntKind.u64.wrap (t : Int))
  have h2 := rv103 (IntKind.u64.wrap (s : Int))
  have h3 := cp102 (rvI (IntKind.u64.wrap (t : Int))) (rvI (IntKind.u64.wrap (s : Int)))
  unfold cfS
  generalize rvI (IntKind.u64.wrap (t : Int)) = a at h1 h3 ⊢
  generalize rvI (IntKind.u64.wrap (s : Int)) = b at h2 h3 ⊢
  generalize cpI a b = r at h3 ⊢
  go_enter Tryz.func88, Tryz.ntmps88
  go_wp2_with fail
  go_quiet (first
    | (go_at_call_of 90 (Value.int .u64 (IntKind.u64.wrap (t : Int))); refine Calls.quiet_of_same (h1 _))
    | (go_at_call_of 90 (Value.int .u64 (IntKind.u64.wrap (s : Int))); refine Calls.quiet_of_same (h2 _))
    | (go_at_call 89; refine Calls.quiet_of_same (h3 _)))
  go_wp2_with fail
  go_ret
  exact ⟨rfl, nq, _, by rw [alloc_eq_grow, alloc_eq_grow, grow_grow]; rfl⟩
end Go.Proofs.YtfcpmblmklibjaaGreat
set_option linter.unusedVariables false
set_option linter.unusedSimpArgs false
namespace Go.Proofs.YtfcpmblmklibjaaGreat
open Go.Lw Go.RowKit
theorem eqS24 (x1 : Int) (x2 : Int) (x3 : Int) (x4 : Int) (x5 : Int) (x6 : Int) : EqS Tryz.prog 24 [(.int .i64 x1), (.int .i64 x2), (.int .i64 x3)] [(.int .i64 x4), (.int .i64 x5), (.int .i64 x6)] (decide (x1 = x4 ∧ x2 = x5 ∧ x3 = x6)) := by
  refine ⟨by first | exact Tryz.eqGuardType24 | kernel_rfl, fun w => ?_⟩
  have u3 := Tryz.underlying3
  have a3 := Tryz.isAgg3
  have z3 := Tryz.sizeOf3
  have hS : Tryz.prog.underlying 24 = some (.struct (Tryz.prog.fieldsOf 24)) := by kernel_rfl
  have hp : Tryz.prog.stoodInHeld 24 = false := by kernel_rfl
  rw [show (10000 : Nat) = 9999 + 1 from rfl, run_equalIn_agg w 9999 24 _ _ hS hp]
  simp only [Program.fieldsOf, Tryz.underlying24]
  go_simp
  by_cases h0 : x1 = x4 <;> by_cases h1 : x2 = x5 <;> by_cases h2 : x3 = x6 <;> simp [*]
theorem eqS86 (x1 : Int) (x2 : Int) : EqS Tryz.prog 86 [(.int .i64 x1)] [(.int .i64 x2)] (decide (x1 = x2)) := by
  refine ⟨by first | exact Tryz.eqGuardType86 | kernel_rfl, fun w => ?_⟩
  have u3 := Tryz.underlying3
  have a3 := Tryz.isAgg3
  have z3 := Tryz.sizeOf3
  have hS : Tryz.prog.underlying 86 = some (.struct (Tryz.prog.fieldsOf 86)) := by kernel_rfl
  have hp : Tryz.prog.stoodInHeld 86 = false := by kernel_rfl
  rw [show (10000 : Nat) = 9999 + 1 from rfl, run_equalIn_agg w 9999 86 _ _ hS hp]
  simp only [Program.fieldsOf, Tryz.underlying86]
  go_simp
  by_cases h0 : x1 = x2 <;> simp [*]
theorem fl86_0 (x1 : Int) (w : World) : (Instr.field 86 (.agg #[(.int .i64 x1)]) 0).run Tryz.prog w = .ok (.int .i64 x1) w := by kernel_rfl
end Go.Proofs.YtfcpmblmklibjaaGreat
set_option linter.unusedVariables false
namespace Go.Lw
open Go.RowKit
section
variable {cx : Cx} {n : Nat} {ks : List (Nat × Value)} {O : List Own} {V : View} {P : Program} {ops : Array Oper} {Qn : Act → World → Prop} {t : Tr} {i d : Nat} {T : TypeId} {pos : String} {after : Array Edge} {gd : Option (Nat × Bool)} {x y : Operand} {p q : Int} {X Z : TypeId}
theorem or_lt63 {A B : Nat} (hA : A < 9223372036854775808) (hB : B < 9223372036854775808) : A ||| B < 9223372036854775808 := Nat.or_lt_two_pow (n := 63) hA hB
theorem AtT.orN {A B : Nat} (ho : ops[i]? = some ⟨some d, .binOp .or X x y Z, T, pos, after, gd⟩) (hg : Gd ks ops gd) (hx : ev ks x = some (.int .i64 p)) (hy : ev ks y = some (.int .i64 q)) (hp : p = (A : Int)) (hq : q = (B : Int)) (hA : A < 9223372036854775808) (hB : B < 9223372036854775808) (hn : d < n)
    (next : AtT cx n ((d, .int .i64 ((A ||| B : Nat) : Int)) :: ks) O V P ops Qn t) : AtT cx n ks O V P ops Qn (.q i t) :=
  .q ho hg rfl hn (fun a w hk _ => by
    subst hp hq
    have hr : Op.intBits .or .i64 (A : Int) (B : Int) = (pure (.int .i64 ((A ||| B : Nat) : Int)) : Sem Value) := by
      show (pure (Value.int .i64 (IntKind.i64.wrap ((BitVec.ofInt 64 (A : Int) ||| BitVec.ofInt 64 (B : Int)).toNat : Int))) : Sem Value) = _
      rw [BitVec.toNat_or, ofInt_u64 A (by omega), ofInt_u64 B (by omega), Go.Lib.wrap_i64_small _ (or_lt63 hA hB)]
    simp [execOp, hk.ev hx, hk.ev hy, eqGuard_or, binOp_or, hr]) next
end
end Go.Lw
namespace Go.Lw
/-- A quiet operation that stands among the others in whatever order. -/
theorem AtT.loud {cx : Cx} {n : Nat} {ks : List (Nat × Value)} {O : List Own} {V : View} {P : Program} {ops : Array Oper} {Qn : Act → World → Prop} {t : Tr} {i : Nat} {wr : Bool} (h : AtT cx n ks O V P ops Qn (.q i t)) : AtT cx n ks O V P ops Qn (.n wr i t) := fun a w hk hm => by
  obtain ⟨o, v, ho, hy, hr⟩ := h a w hk hm
  exact ⟨o, ho, hy.stW hm ⟨_, fun _ u hu => hu, hm, hr⟩⟩
end Go.Lw
set_option linter.unusedVariables false
namespace Go.Proofs.YtfcpmblmklibjaaGreat
open Go.Lw Go.Gl Go.Bl Go.RowKit

theorem sound_f (p : Pq) (V : View) : Fnc Tryz.prog 43 [pqv p] V fun r _ => r = .bool (sndB p) := by
  refine fn_of Tryz.func43 rfl Tryz.ntmps43 (Nat.le_of_ble_eq_true rfl) ?_
  intro w0 hw0
  refine At.nrm ?_
  refine At.ktext (.n false 0 (.q 1 .done)) ?_
  refine AtT.kbox ?_
  intro b1
  refine AtT.kassign ?_
  refine AtT.done ?_
  refine At.nrm ?_
  refine At.ktext (.q 0 (.q 1 (.q 2 (.q 3 (.q 4 (.q 5 (.n false 6 (.n false 7 (.q 8 .done))))))))) ?_
  first | refine AtT.kfieldO fo24_0 ?_ | with_reducible refine AtT.kfield2 fo24_0 ?_ | refine AtT.kfield fo24_0 ?_
  first | refine AtT.kloadO tk3 ?_ | refine AtT.kload tk3 ?_
  first | refine AtT.kfieldO fo24_1 ?_ | with_reducible refine AtT.kfield2 fo24_1 ?_ | refine AtT.kfield fo24_1 ?_
  first | refine AtT.kloadO tk3 ?_ | refine AtT.kload tk3 ?_
  first | refine AtT.kfieldO fo24_2 ?_ | with_reducible refine AtT.kfield2 fo24_2 ?_ | refine AtT.kfield fo24_2 ?_
  first | refine AtT.kloadO tk3 ?_ | refine AtT.kload tk3 ?_
  refine AtT.kbsliceG (bs38_3_0_1_2 _ _ _) ?_
  intro q9 V9 hV9 hq9
  refine AtT.kcallP rfl rfl ok37 (within_f 0 4 [p.m, p.o, p.h] _ _ (Sl.lit hq9 rfl (by simp))) ?_
  rintro _ rfl; rw [wi_pq]
  refine AtT.kassign ?_
  refine AtT.done ?_
  refine At.nrm ?_
  exact At.ret1 rfl (.tmp rfl) rfl
theorem isPanel_f (p : Pq) (V : View) : Fnc Tryz.prog 45 [pqv p] V fun r _ => r = .bool (sndB p) := by
  refine fn_of Tryz.func45 rfl Tryz.ntmps45 (Nat.le_of_ble_eq_true rfl) ?_
  intro w0 hw0
  refine At.nrm ?_
  refine At.ktext (.n false 0 (.q 1 .done)) ?_
  refine AtT.kbox ?_
  intro b1
  refine AtT.kassign ?_
  refine AtT.done ?_
  refine At.nrm ?_
  by_cases c1 : 0 ≤ p.m
  rotate_left
  · refine At.ktext (.q 0 (.q 1 (.q 2 (.q 3 (.q 4 (.q 5 (.q 6 (.q 7 (.q 8 (.q 9 (.q 10 (.q 11 (.q 12 (.q 13 (.q 14 (.q 15 (.q 16 (.q 17 (.q 18 (.q 19 (.q 20 (.q 21 (.q 22 (.q 23 (.q 24 (.q 25 (.q 26 (.q 27 (.q 28 .done))))))))))))))))))))))))))))) ?_
    first | refine AtT.kfieldO fo24_0 ?_ | with_reducible refine AtT.kfield2 fo24_0 ?_ | refine AtT.kfield fo24_0 ?_
    first | refine AtT.kloadO tk3 ?_ | refine AtT.kload tk3 ?_
    refine AtT.kgeq ?_
    refine AtT.setF (d := 5) rfl (c1) ?_
    refine AtT.kmove ?_
    all_goals (first | refine AtT.kL 6 ?_ | refine AtT.pcase (d := 6) rfl (fun hg6 => ?_) (fun hg6 => ?_) | refine AtT.bcase (d := 6) rfl (fun hg6 => ?_) (fun hg6 => ?_))
    all_goals (first | refine AtT.kpass ?_ | refine AtT.kpassU ?_ | ((first | refine AtT.kfieldO fo24_0 ?_ | with_reducible refine AtT.kfield2 fo24_0 ?_ | refine AtT.kfield fo24_0 ?_)))
    all_goals (first | refine AtT.kpass ?_ | refine AtT.kpassU ?_ | ((first | refine AtT.kloadO tk3 ?_ | refine AtT.kload tk3 ?_)))
    all_goals (first | refine AtT.kpass ?_ | refine AtT.kpassU ?_ | ((refine AtT.kleq ?_)))
    all_goals (refine AtT.kpick ?_)
    all_goals (refine AtT.kmove ?_)
    all_goals (first | refine AtT.kL 11 ?_ | refine AtT.pcase (d := 11) rfl (fun hg11 => ?_) (fun hg11 => ?_) | refine AtT.bcase (d := 11) rfl (fun hg11 => ?_) (fun hg11 => ?_))
    all_goals (first | refine AtT.kpass ?_ | refine AtT.kpassU ?_ | ((first | refine AtT.kfieldO fo24_1 ?_ | with_reducible refine AtT.kfield2 fo24_1 ?_ | refine AtT.kfield fo24_1 ?_)))
    all_goals (first | refine AtT.kpass ?_ | refine AtT.kpassU ?_ | ((first | refine AtT.kloadO tk3 ?_ | refine AtT.kload tk3 ?_)))
    all_goals (first | refine AtT.kpass ?_ | refine AtT.kpassU ?_ | ((refine AtT.kgeq ?_)))
    all_goals (refine AtT.kpick ?_)
    all_goals (refine AtT.kmove ?_)
    all_goals (first | refine AtT.kL 16 ?_ | refine AtT.pcase (d := 16) rfl (fun hg16 => ?_) (fun hg16 => ?_) | refine AtT.bcase (d := 16) rfl (fun hg16 => ?_) (fun hg16 => ?_))
    all_goals (first | refine AtT.kpass ?_ | refine AtT.kpassU ?_ | ((first | refine AtT.kfieldO fo24_1 ?_ | with_reducible refine AtT.kfield2 fo24_1 ?_ | refine AtT.kfield fo24_1 ?_)))
    all_goals (first | refine AtT.kpass ?_ | refine AtT.kpassU ?_ | ((first | refine AtT.kloadO tk3 ?_ | refine AtT.kload tk3 ?_)))
    all_goals (first | refine AtT.kpass ?_ | refine AtT.kpassU ?_ | ((refine AtT.kleq ?_)))
    all_goals (refine AtT.kpick ?_)
    all_goals (refine AtT.kmove ?_)
    all_goals (first | refine AtT.kL 21 ?_ | refine AtT.pcase (d := 21) rfl (fun hg21 => ?_) (fun hg21 => ?_) | refine AtT.bcase (d := 21) rfl (fun hg21 => ?_) (fun hg21 => ?_))
    all_goals (first | refine AtT.kpass ?_ | refine AtT.kpassU ?_ | ((first | refine AtT.kfieldO fo24_2 ?_ | with_reducible refine AtT.kfield2 fo24_2 ?_ | refine AtT.kfield fo24_2 ?_)))
    all_goals (first | refine AtT.kpass ?_ | refine AtT.kpassU ?_ | ((first | refine AtT.kloadO tk3 ?_ | refine AtT.kload tk3 ?_)))
    all_goals (first | refine AtT.kpass ?_ | refine AtT.kpassU ?_ | ((refine AtT.kgeq ?_)))
    all_goals (refine AtT.kpick ?_)
    all_goals (refine AtT.kmove ?_)
    all_goals (first | refine AtT.kL 26 ?_ | refine AtT.pcase (d := 26) rfl (fun hg26 => ?_) (fun hg26 => ?_) | refine AtT.bcase (d := 26) rfl (fun hg26 => ?_) (fun hg26 => ?_))
    all_goals (first | refine AtT.kpass ?_ | refine AtT.kpassU ?_ | ((first | refine AtT.kfieldO fo24_2 ?_ | with_reducible refine AtT.kfield2 fo24_2 ?_ | refine AtT.kfield fo24_2 ?_)))
    all_goals (first | refine AtT.kpass ?_ | refine AtT.kpassU ?_ | ((first | refine AtT.kloadO tk3 ?_ | refine AtT.kload tk3 ?_)))
    all_goals (first | refine AtT.kpass ?_ | refine AtT.kpassU ?_ | ((refine AtT.kleq ?_)))
    all_goals (refine AtT.kpick ?_)
    all_goals (refine AtT.kassign ?_)
    all_goals refine AtT.done ?_
    all_goals (refine At.nrm ?_)
    exact At.ret1 rfl (.tmp rfl) (by unfold sndB; rw [decide_eq_false (by omega)]; rfl)
  by_cases c2 : p.m ≤ 4
  rotate_left
  · refine At.ktext (.q 0 (.q 1 (.q 2 (.q 3 (.q 4 (.q 5 (.q 6 (.q 7 (.q 8 (.q 9 (.q 10 (.q 11 (.q 12 (.q 13 (.q 14 (.q 15 (.q 16 (.q 17 (.q 18 (.q 19 (.q 20 (.q 21 (.q 22 (.q 23 (.q 24 (.q 25 (.q 26 (.q 27 (.q 28 .done))))))))))))))))))))))))))))) ?_
    first | refine AtT.kfieldO fo24_0 ?_ | with_reducible refine AtT.kfield2 fo24_0 ?_ | refine AtT.kfield fo24_0 ?_
    first | refine AtT.kloadO tk3 ?_ | refine AtT.kload tk3 ?_
    refine AtT.kgeq ?_
    refine AtT.setT (d := 5) rfl (c1) ?_
    refine AtT.kmove ?_
    all_goals (first | refine AtT.kL 6 ?_ | refine AtT.pcase (d := 6) rfl (fun hg6 => ?_) (fun hg6 => ?_) | refine AtT.bcase (d := 6) rfl (fun hg6 => ?_) (fun hg6 => ?_))
    all_goals (first | refine AtT.kpass ?_ | refine AtT.kpassU ?_ | ((first | refine AtT.kfieldO fo24_0 ?_ | with_reducible refine AtT.kfield2 fo24_0 ?_ | refine AtT.kfield fo24_0 ?_)))
    all_goals (first | refine AtT.kpass ?_ | refine AtT.kpassU ?_ | ((first | refine AtT.kloadO tk3 ?_ | refine AtT.kload tk3 ?_)))
    all_goals (first | refine AtT.kpass ?_ | refine AtT.kpassU ?_ | ((refine AtT.kleq ?_)))
    all_goals (refine AtT.setF (d := 9) rfl (c2) ?_)
    all_goals (refine AtT.kpick ?_)
    all_goals (refine AtT.kmove ?_)
    all_goals (first | refine AtT.kL 11 ?_ | refine AtT.pcase (d := 11) rfl (fun hg11 => ?_) (fun hg11 => ?_) | refine AtT.bcase (d := 11) rfl (fun hg11 => ?_) (fun hg11 => ?_))
    all_goals (first | refine AtT.kpass ?_ | refine AtT.kpassU ?_ | ((first | refine AtT.kfieldO fo24_1 ?_ | with_reducible refine AtT.kfield2 fo24_1 ?_ | refine AtT.kfield fo24_1 ?_)))
    all_goals (first | refine AtT.kpass ?_ | refine AtT.kpassU ?_ | ((first | refine AtT.kloadO tk3 ?_ | refine AtT.kload tk3 ?_)))
    all_goals (first | refine AtT.kpass ?_ | refine AtT.kpassU ?_ | ((refine AtT.kgeq ?_)))
    all_goals (refine AtT.kpick ?_)
    all_goals (refine AtT.kmove ?_)
    all_goals (first | refine AtT.kL 16 ?_ | refine AtT.pcase (d := 16) rfl (fun hg16 => ?_) (fun hg16 => ?_) | refine AtT.bcase (d := 16) rfl (fun hg16 => ?_) (fun hg16 => ?_))
    all_goals (first | refine AtT.kpass ?_ | refine AtT.kpassU ?_ | ((first | refine AtT.kfieldO fo24_1 ?_ | with_reducible refine AtT.kfield2 fo24_1 ?_ | refine AtT.kfield fo24_1 ?_)))
    all_goals (first | refine AtT.kpass ?_ | refine AtT.kpassU ?_ | ((first | refine AtT.kloadO tk3 ?_ | refine AtT.kload tk3 ?_)))
    all_goals (first | refine AtT.kpass ?_ | refine AtT.kpassU ?_ | ((refine AtT.kleq ?_)))
    all_goals (refine AtT.kpick ?_)
    all_goals (refine AtT.kmove ?_)
    all_goals (first | refine AtT.kL 21 ?_ | refine AtT.pcase (d := 21) rfl (fun hg21 => ?_) (fun hg21 => ?_) | refine AtT.bcase (d := 21) rfl (fun hg21 => ?_) (fun hg21 => ?_))
    all_goals (first | refine AtT.kpass ?_ | refine AtT.kpassU ?_ | ((first | refine AtT.kfieldO fo24_2 ?_ | with_reducible refine AtT.kfield2 fo24_2 ?_ | refine AtT.kfield fo24_2 ?_)))
    all_goals (first | refine AtT.kpass ?_ | refine AtT.kpassU ?_ | ((first | refine AtT.kloadO tk3 ?_ | refine AtT.kload tk3 ?_)))
    all_goals (first | refine AtT.kpass ?_ | refine AtT.kpassU ?_ | ((refine AtT.kgeq ?_)))
    all_goals (refine AtT.kpick ?_)
    all_goals (refine AtT.kmove ?_)
    all_goals (first | refine AtT.kL 26 ?_ | refine AtT.pcase (d := 26) rfl (fun hg26 => ?_) (fun hg26 => ?_) | refine AtT.bcase (d := 26) rfl (fun hg26 => ?_) (fun hg26 => ?_))
    all_goals (first | refine AtT.kpass ?_ | refine AtT.kpassU ?_ | ((first | refine AtT.kfieldO fo24_2 ?_ | with_reducible refine AtT.kfield2 fo24_2 ?_ | refine AtT.kfield fo24_2 ?_)))
    all_goals (first | refine AtT.kpass ?_ | refine AtT.kpassU ?_ | ((first | refine AtT.kloadO tk3 ?_ | refine AtT.kload tk3 ?_)))
    all_goals (first | refine AtT.kpass ?_ | refine AtT.kpassU ?_ | ((refine AtT.kleq ?_)))
    all_goals (refine AtT.kpick ?_)
    all_goals (refine AtT.kassign ?_)
    all_goals refine AtT.done ?_
    all_goals (refine At.nrm ?_)
    exact At.ret1 rfl (.tmp rfl) (by unfold sndB; rw [decide_eq_false (by omega)]; rfl)
  by_cases c3 : 0 ≤ p.o
  rotate_left
  · refine At.ktext (.q 0 (.q 1 (.q 2 (.q 3 (.q 4 (.q 5 (.q 6 (.q 7 (.q 8 (.q 9 (.q 10 (.q 11 (.q 12 (.q 13 (.q 14 (.q 15 (.q 16 (.q 17 (.q 18 (.q 19 (.q 20 (.q 21 (.q 22 (.q 23 (.q 24 (.q 25 (.q 26 (.q 27 (.q 28 .done))))))))))))))))))))))))))))) ?_
    first | refine AtT.kfieldO fo24_0 ?_ | with_reducible refine AtT.kfield2 fo24_0 ?_ | refine AtT.kfield fo24_0 ?_
    first | refine AtT.kloadO tk3 ?_ | refine AtT.kload tk3 ?_
    refine AtT.kgeq ?_
    refine AtT.setT (d := 5) rfl (c1) ?_
    refine AtT.kmove ?_
    all_goals (first | refine AtT.kL 6 ?_ | refine AtT.pcase (d := 6) rfl (fun hg6 => ?_) (fun hg6 => ?_) | refine AtT.bcase (d := 6) rfl (fun hg6 => ?_) (fun hg6 => ?_))
    all_goals (first | refine AtT.kpass ?_ | refine AtT.kpassU ?_ | ((first | refine AtT.kfieldO fo24_0 ?_ | with_reducible refine AtT.kfield2 fo24_0 ?_ | refine AtT.kfield fo24_0 ?_)))
    all_goals (first | refine AtT.kpass ?_ | refine AtT.kpassU ?_ | ((first | refine AtT.kloadO tk3 ?_ | refine AtT.kload tk3 ?_)))
    all_goals (first | refine AtT.kpass ?_ | refine AtT.kpassU ?_ | ((refine AtT.kleq ?_)))
    all_goals (refine AtT.setT (d := 9) rfl (c2) ?_)
    all_goals (refine AtT.kpick ?_)
    all_goals (refine AtT.kmove ?_)
    all_goals (first | refine AtT.kL 11 ?_ | refine AtT.pcase (d := 11) rfl (fun hg11 => ?_) (fun hg11 => ?_) | refine AtT.bcase (d := 11) rfl (fun hg11 => ?_) (fun hg11 => ?_))
    all_goals (first | refine AtT.kpass ?_ | refine AtT.kpassU ?_ | ((first | refine AtT.kfieldO fo24_1 ?_ | with_reducible refine AtT.kfield2 fo24_1 ?_ | refine AtT.kfield fo24_1 ?_)))
    all_goals (first | refine AtT.kpass ?_ | refine AtT.kpassU ?_ | ((first | refine AtT.kloadO tk3 ?_ | refine AtT.kload tk3 ?_)))
    all_goals (first | refine AtT.kpass ?_ | refine AtT.kpassU ?_ | ((refine AtT.kgeq ?_)))
    all_goals (refine AtT.setF (d := 14) rfl (c3) ?_)
    all_goals (refine AtT.kpick ?_)
    all_goals (refine AtT.kmove ?_)
    all_goals (first | refine AtT.kL 16 ?_ | refine AtT.pcase (d := 16) rfl (fun hg16 => ?_) (fun hg16 => ?_) | refine AtT.bcase (d := 16) rfl (fun hg16 => ?_) (fun hg16 => ?_))
    all_goals (first | refine AtT.kpass ?_ | refine AtT.kpassU ?_ | ((first | refine AtT.kfieldO fo24_1 ?_ | with_reducible refine AtT.kfield2 fo24_1 ?_ | refine AtT.kfield fo24_1 ?_)))
    all_goals (first | refine AtT.kpass ?_ | refine AtT.kpassU ?_ | ((first | refine AtT.kloadO tk3 ?_ | refine AtT.kload tk3 ?_)))
    all_goals (first | refine AtT.kpass ?_ | refine AtT.kpassU ?_ | ((refine AtT.kleq ?_)))
    all_goals (refine AtT.kpick ?_)
    all_goals (refine AtT.kmove ?_)
    all_goals (first | refine AtT.kL 21 ?_ | refine AtT.pcase (d := 21) rfl (fun hg21 => ?_) (fun hg21 => ?_) | refine AtT.bcase (d := 21) rfl (fun hg21 => ?_) (fun hg21 => ?_))
    all_goals (first | refine AtT.kpass ?_ | refine AtT.kpassU ?_ | ((first | refine AtT.kfieldO fo24_2 ?_ | with_reducible refine AtT.kfield2 fo24_2 ?_ | refine AtT.kfield fo24_2 ?_)))
    all_goals (first | refine AtT.kpass ?_ | refine AtT.kpassU ?_ | ((first | refine AtT.kloadO tk3 ?_ | refine AtT.kload tk3 ?_)))
    all_goals (first | refine AtT.kpass ?_ | refine AtT.kpassU ?_ | ((refine AtT.kgeq ?_)))
    all_goals (refine AtT.kpick ?_)
    all_goals (refine AtT.kmove ?_)
    all_goals (first | refine AtT.kL 26 ?_ | refine AtT.pcase (d := 26) rfl (fun hg26 => ?_) (fun hg26 => ?_) | refine AtT.bcase (d := 26) rfl (fun hg26 => ?_) (fun hg26 => ?_))
    all_goals (first | refine AtT.kpass ?_ | refine AtT.kpassU ?_ | ((first | refine AtT.kfieldO fo24_2 ?_ | with_reducible refine AtT.kfield2 fo24_2 ?_ | refine AtT.kfield fo24_2 ?_)))
    all_goals (first | refine AtT.kpass ?_ | refine AtT.kpassU ?_ | ((first | refine AtT.kloadO tk3 ?_ | refine AtT.kload tk3 ?_)))
    all_goals (first | refine AtT.kpass ?_ | refine AtT.kpassU ?_ | ((refine AtT.kleq ?_)))
    all_goals (refine AtT.kpick ?_)
    all_goals (refine AtT.kassign ?_)
    all_goals refine AtT.done ?_
    all_goals (refine At.nrm ?_)
    exact At.ret1 rfl (.tmp rfl) (by unfold sndB; rw [decide_eq_false (by omega)]; rfl)
  by_cases c4 : p.o ≤ 4
  rotate_left
  · refine At.ktext (.q 0 (.q 1 (.q 2 (.q 3 (.q 4 (.q 5 (.q 6 (.q 7 (.q 8 (.q 9 (.q 10 (.q 11 (.q 12 (.q 13 (.q 14 (.q 15 (.q 16 (.q 17 (.q 18 (.q 19 (.q 20 (.q 21 (.q 22 (.q 23 (.q 24 (.q 25 (.q 26 (.q 27 (.q 28 .done))))))))))))))))))))))))))))) ?_
    first | refine AtT.kfieldO fo24_0 ?_ | with_reducible refine AtT.kfield2 fo24_0 ?_ | refine AtT.kfield fo24_0 ?_
    first | refine AtT.kloadO tk3 ?_ | refine AtT.kload tk3 ?_
    refine AtT.kgeq ?_
    refine AtT.setT (d := 5) rfl (c1) ?_
    refine AtT.kmove ?_
    all_goals (first | refine AtT.kL 6 ?_ | refine AtT.pcase (d := 6) rfl (fun hg6 => ?_) (fun hg6 => ?_) | refine AtT.bcase (d := 6) rfl (fun hg6 => ?_) (fun hg6 => ?_))
    all_goals (first | refine AtT.kpass ?_ | refine AtT.kpassU ?_ | ((first | refine AtT.kfieldO fo24_0 ?_ | with_reducible refine AtT.kfield2 fo24_0 ?_ | refine AtT.kfield fo24_0 ?_)))
    all_goals (first | refine AtT.kpass ?_ | refine AtT.kpassU ?_ | ((first | refine AtT.kloadO tk3 ?_ | refine AtT.kload tk3 ?_)))
    all_goals (first | refine AtT.kpass ?_ | refine AtT.kpassU ?_ | ((refine AtT.kleq ?_)))
    all_goals (refine AtT.setT (d := 9) rfl (c2) ?_)
    all_goals (refine AtT.kpick ?_)
    all_goals (refine AtT.kmove ?_)
    all_goals (first | refine AtT.kL 11 ?_ | refine AtT.pcase (d := 11) rfl (fun hg11 => ?_) (fun hg11 => ?_) | refine AtT.bcase (d := 11) rfl (fun hg11 => ?_) (fun hg11 => ?_))
    all_goals (first | refine AtT.kpass ?_ | refine AtT.kpassU ?_ | ((first | refine AtT.kfieldO fo24_1 ?_ | with_reducible refine AtT.kfield2 fo24_1 ?_ | refine AtT.kfield fo24_1 ?_)))
    all_goals (first | refine AtT.kpass ?_ | refine AtT.kpassU ?_ | ((first | refine AtT.kloadO tk3 ?_ | refine AtT.kload tk3 ?_)))
    all_goals (first | refine AtT.kpass ?_ | refine AtT.kpassU ?_ | ((refine AtT.kgeq ?_)))
    all_goals (refine AtT.setT (d := 14) rfl (c3) ?_)
    all_goals (refine AtT.kpick ?_)
    all_goals (refine AtT.kmove ?_)
    all_goals (first | refine AtT.kL 16 ?_ | refine AtT.pcase (d := 16) rfl (fun hg16 => ?_) (fun hg16 => ?_) | refine AtT.bcase (d := 16) rfl (fun hg16 => ?_) (fun hg16 => ?_))
    all_goals (first | refine AtT.kpass ?_ | refine AtT.kpassU ?_ | ((first | refine AtT.kfieldO fo24_1 ?_ | with_reducible refine AtT.kfield2 fo24_1 ?_ | refine AtT.kfield fo24_1 ?_)))
    all_goals (first | refine AtT.kpass ?_ | refine AtT.kpassU ?_ | ((first | refine AtT.kloadO tk3 ?_ | refine AtT.kload tk3 ?_)))
    all_goals (first | refine AtT.kpass ?_ | refine AtT.kpassU ?_ | ((refine AtT.kleq ?_)))
    all_goals (refine AtT.setF (d := 19) rfl (c4) ?_)
    all_goals (refine AtT.kpick ?_)
    all_goals (refine AtT.kmove ?_)
    all_goals (first | refine AtT.kL 21 ?_ | refine AtT.pcase (d := 21) rfl (fun hg21 => ?_) (fun hg21 => ?_) | refine AtT.bcase (d := 21) rfl (fun hg21 => ?_) (fun hg21 => ?_))
    all_goals (first | refine AtT.kpass ?_ | refine AtT.kpassU ?_ | ((first | refine AtT.kfieldO fo24_2 ?_ | with_reducible refine AtT.kfield2 fo24_2 ?_ | refine AtT.kfield fo24_2 ?_)))
    all_goals (first | refine AtT.kpass ?_ | refine AtT.kpassU ?_ | ((first | refine AtT.kloadO tk3 ?_ | refine AtT.kload tk3 ?_)))
    all_goals (first | refine AtT.kpass ?_ | refine AtT.kpassU ?_ | ((refine AtT.kgeq ?_)))
    all_goals (refine AtT.kpick ?_)
    all_goals (refine AtT.kmove ?_)
    all_goals (first | refine AtT.kL 26 ?_ | refine AtT.pcase (d := 26) rfl (fun hg26 => ?_) (fun hg26 => ?_) | refine AtT.bcase (d := 26) rfl (fun hg26 => ?_) (fun hg26 => ?_))
    all_goals (first | refine AtT.kpass ?_ | refine AtT.kpassU ?_ | ((first | refine AtT.kfieldO fo24_2 ?_ | with_reducible refine AtT.kfield2 fo24_2 ?_ | refine AtT.kfield fo24_2 ?_)))
    all_goals (first | refine AtT.kpass ?_ | refine AtT.kpassU ?_ | ((first | refine AtT.kloadO tk3 ?_ | refine AtT.kload tk3 ?_)))
    all_goals (first | refine AtT.kpass ?_ | refine AtT.kpassU ?_ | ((refine AtT.kleq ?_)))
    all_goals (refine AtT.kpick ?_)
    all_goals (refine AtT.kassign ?_)
    all_goals refine AtT.done ?_
    all_goals (refine At.nrm ?_)
    exact At.ret1 rfl (.tmp rfl) (by unfold sndB; rw [decide_eq_false (by omega)]; rfl)
  by_cases c5 : 0 ≤ p.h
  rotate_left
  · refine At.ktext (.q 0 (.q 1 (.q 2 (.q 3 (.q 4 (.q 5 (.q 6 (.q 7 (.q 8 (.q 9 (.q 10 (.q 11 (.q 12 (.q 13 (.q 14 (.q 15 (.q 16 (.q 17 (.q 18 (.q 19 (.q 20 (.q 21 (.q 22 (.q 23 (.q 24 (.q 25 (.q 26 (.q 27 (.q 28 .done))))))))))))))))))))))))))))) ?_
    first | refine AtT.kfieldO fo24_0 ?_ | with_reducible refine AtT.kfield2 fo24_0 ?_ | refine AtT.kfield fo24_0 ?_
    first | refine AtT.kloadO tk3 ?_ | refine AtT.kload tk3 ?_
    refine AtT.kgeq ?_
    refine AtT.setT (d := 5) rfl (c1) ?_
    refine AtT.kmove ?_
    all_goals (first | refine AtT.kL 6 ?_ | refine AtT.pcase (d := 6) rfl (fun hg6 => ?_) (fun hg6 => ?_) | refine AtT.bcase (d := 6) rfl (fun hg6 => ?_) (fun hg6 => ?_))
    all_goals (first | refine AtT.kpass ?_ | refine AtT.kpassU ?_ | ((first | refine AtT.kfieldO fo24_0 ?_ | with_reducible refine AtT.kfield2 fo24_0 ?_ | refine AtT.kfield fo24_0 ?_)))
    all_goals (first | refine AtT.kpass ?_ | refine AtT.kpassU ?_ | ((first | refine AtT.kloadO tk3 ?_ | refine AtT.kload tk3 ?_)))
    all_goals (first | refine AtT.kpass ?_ | refine AtT.kpassU ?_ | ((refine AtT.kleq ?_)))
    all_goals (refine AtT.setT (d := 9) rfl (c2) ?_)
    all_goals (refine AtT.kpick ?_)
    all_goals (refine AtT.kmove ?_)
    all_goals (first | refine AtT.kL 11 ?_ | refine AtT.pcase (d := 11) rfl (fun hg11 => ?_) (fun hg11 => ?_) | refine AtT.bcase (d := 11) rfl (fun hg11 => ?_) (fun hg11 => ?_))
    all_goals (first | refine AtT.kpass ?_ | refine AtT.kpassU ?_ | ((first | refine AtT.kfieldO fo24_1 ?_ | with_reducible refine AtT.kfield2 fo24_1 ?_ | refine AtT.kfield fo24_1 ?_)))
    all_goals (first | refine AtT.kpass ?_ | refine AtT.kpassU ?_ | ((first | refine AtT.kloadO tk3 ?_ | refine AtT.kload tk3 ?_)))
    all_goals (first | refine AtT.kpass ?_ | refine AtT.kpassU ?_ | ((refine AtT.kgeq ?_)))
    all_goals (refine AtT.setT (d := 14) rfl (c3) ?_)
    all_goals (refine AtT.kpick ?_)
    all_goals (refine AtT.kmove ?_)
    all_goals (first | refine AtT.kL 16 ?_ | refine AtT.pcase (d := 16) rfl (fun hg16 => ?_) (fun hg16 => ?_) | refine AtT.bcase (d := 16) rfl (fun hg16 => ?_) (fun hg16 => ?_))
    all_goals (first | refine AtT.kpass ?_ | refine AtT.kpassU ?_ | ((first | refine AtT.kfieldO fo24_1 ?_ | with_reducible refine AtT.kfield2 fo24_1 ?_ | refine AtT.kfield fo24_1 ?_)))
    all_goals (first | refine AtT.kpass ?_ | refine AtT.kpassU ?_ | ((first | refine AtT.kloadO tk3 ?_ | refine AtT.kload tk3 ?_)))
    all_goals (first | refine AtT.kpass ?_ | refine AtT.kpassU ?_ | ((refine AtT.kleq ?_)))
    all_goals (refine AtT.setT (d := 19) rfl (c4) ?_)
    all_goals (refine AtT.kpick ?_)
    all_goals (refine AtT.kmove ?_)
    all_goals (first | refine AtT.kL 21 ?_ | refine AtT.pcase (d := 21) rfl (fun hg21 => ?_) (fun hg21 => ?_) | refine AtT.bcase (d := 21) rfl (fun hg21 => ?_) (fun hg21 => ?_))
    all_goals (first | refine AtT.kpass ?_ | refine AtT.kpassU ?_ | ((first | refine AtT.kfieldO fo24_2 ?_ | with_reducible refine AtT.kfield2 fo24_2 ?_ | refine AtT.kfield fo24_2 ?_)))
    all_goals (first | refine AtT.kpass ?_ | refine AtT.kpassU ?_ | ((first | refine AtT.kloadO tk3 ?_ | refine AtT.kload tk3 ?_)))
    all_goals (first | refine AtT.kpass ?_ | refine AtT.kpassU ?_ | ((refine AtT.kgeq ?_)))
    all_goals (refine AtT.setF (d := 24) rfl (c5) ?_)
    all_goals (refine AtT.kpick ?_)
    all_goals (refine AtT.kmove ?_)
    all_goals (first | refine AtT.kL 26 ?_ | refine AtT.pcase (d := 26) rfl (fun hg26 => ?_) (fun hg26 => ?_) | refine AtT.bcase (d := 26) rfl (fun hg26 => ?_) (fun hg26 => ?_))
    all_goals (first | refine AtT.kpass ?_ | refine AtT.kpassU ?_ | ((first | refine AtT.kfieldO fo24_2 ?_ | with_reducible refine AtT.kfield2 fo24_2 ?_ | refine AtT.kfield fo24_2 ?_)))
    all_goals (first | refine AtT.kpass ?_ | refine AtT.kpassU ?_ | ((first | refine AtT.kloadO tk3 ?_ | refine AtT.kload tk3 ?_)))
    all_goals (first | refine AtT.kpass ?_ | refine AtT.kpassU ?_ | ((refine AtT.kleq ?_)))
    all_goals (refine AtT.kpick ?_)
    all_goals (refine AtT.kassign ?_)
    all_goals refine AtT.done ?_
    all_goals (refine At.nrm ?_)
    exact At.ret1 rfl (.tmp rfl) (by unfold sndB; rw [decide_eq_false (by omega)]; rfl)
  by_cases c6 : p.h ≤ 4
  rotate_left
  · refine At.ktext (.q 0 (.q 1 (.q 2 (.q 3 (.q 4 (.q 5 (.q 6 (.q 7 (.q 8 (.q 9 (.q 10 (.q 11 (.q 12 (.q 13 (.q 14 (.q 15 (.q 16 (.q 17 (.q 18 (.q 19 (.q 20 (.q 21 (.q 22 (.q 23 (.q 24 (.q 25 (.q 26 (.q 27 (.q 28 .done))))))))))))))))))))))))))))) ?_
    first | refine AtT.kfieldO fo24_0 ?_ | with_reducible refine AtT.kfield2 fo24_0 ?_ | refine AtT.kfield fo24_0 ?_
    first | refine AtT.kloadO tk3 ?_ | refine AtT.kload tk3 ?_
    refine AtT.kgeq ?_
    refine AtT.setT (d := 5) rfl (c1) ?_
    refine AtT.kmove ?_
    all_goals (first | refine AtT.kL 6 ?_ | refine AtT.pcase (d := 6) rfl (fun hg6 => ?_) (fun hg6 => ?_) | refine AtT.bcase (d := 6) rfl (fun hg6 => ?_) (fun hg6 => ?_))
    all_goals (first | refine AtT.kpass ?_ | refine AtT.kpassU ?_ | ((first | refine AtT.kfieldO fo24_0 ?_ | with_reducible refine AtT.kfield2 fo24_0 ?_ | refine AtT.kfield fo24_0 ?_)))
    all_goals (first | refine AtT.kpass ?_ | refine AtT.kpassU ?_ | ((first | refine AtT.kloadO tk3 ?_ | refine AtT.kload tk3 ?_)))
    all_goals (first | refine AtT.kpass ?_ | refine AtT.kpassU ?_ | ((refine AtT.kleq ?_)))
    all_goals (refine AtT.setT (d := 9) rfl (c2) ?_)
    all_goals (refine AtT.kpick ?_)
    all_goals (refine AtT.kmove ?_)
    all_goals (first | refine AtT.kL 11 ?_ | refine AtT.pcase (d := 11) rfl (fun hg11 => ?_) (fun hg11 => ?_) | refine AtT.bcase (d := 11) rfl (fun hg11 => ?_) (fun hg11 => ?_))
    all_goals (first | refine AtT.kpass ?_ | refine AtT.kpassU ?_ | ((first | refine AtT.kfieldO fo24_1 ?_ | with_reducible refine AtT.kfield2 fo24_1 ?_ | refine AtT.kfield fo24_1 ?_)))
    all_goals (first | refine AtT.kpass ?_ | refine AtT.kpassU ?_ | ((first | refine AtT.kloadO tk3 ?_ | refine AtT.kload tk3 ?_)))
    all_goals (first | refine AtT.kpass ?_ | refine AtT.kpassU ?_ | ((refine AtT.kgeq ?_)))
    all_goals (refine AtT.setT (d := 14) rfl (c3) ?_)
    all_goals (refine AtT.kpick ?_)
    all_goals (refine AtT.kmove ?_)
    all_goals (first | refine AtT.kL 16 ?_ | refine AtT.pcase (d := 16) rfl (fun hg16 => ?_) (fun hg16 => ?_) | refine AtT.bcase (d := 16) rfl (fun hg16 => ?_) (fun hg16 => ?_))
    all_goals (first | refine AtT.kpass ?_ | refine AtT.kpassU ?_ | ((first | refine AtT.kfieldO fo24_1 ?_ | with_reducible refine AtT.kfield2 fo24_1 ?_ | refine AtT.kfield fo24_1 ?_)))
    all_goals (first | refine AtT.kpass ?_ | refine AtT.kpassU ?_ | ((first | refine AtT.kloadO tk3 ?_ | refine AtT.kload tk3 ?_)))
    all_goals (first | refine AtT.kpass ?_ | refine AtT.kpassU ?_ | ((refine AtT.kleq ?_)))
    all_goals (refine AtT.setT (d := 19) rfl (c4) ?_)
    all_goals (refine AtT.kpick ?_)
    all_goals (refine AtT.kmove ?_)
    all_goals (first | refine AtT.kL 21 ?_ | refine AtT.pcase (d := 21) rfl (fun hg21 => ?_) (fun hg21 => ?_) | refine AtT.bcase (d := 21) rfl (fun hg21 => ?_) (fun hg21 => ?_))
    all_goals (first | refine AtT.kpass ?_ | refine AtT.kpassU ?_ | ((first | refine AtT.kfieldO fo24_2 ?_ | with_reducible refine AtT.kfield2 fo24_2 ?_ | refine AtT.kfield fo24_2 ?_)))
    all_goals (first | refine AtT.kpass ?_ | refine AtT.kpassU ?_ | ((first | refine AtT.kloadO tk3 ?_ | refine AtT.kload tk3 ?_)))
    all_goals (first | refine AtT.kpass ?_ | refine AtT.kpassU ?_ | ((refine AtT.kgeq ?_)))
    all_goals (refine AtT.setT (d := 24) rfl (c5) ?_)
    all_goals (refine AtT.kpick ?_)
    all_goals (refine AtT.kmove ?_)
    all_goals (first | refine AtT.kL 26 ?_ | refine AtT.pcase (d := 26) rfl (fun hg26 => ?_) (fun hg26 => ?_) | refine AtT.bcase (d := 26) rfl (fun hg26 => ?_) (fun hg26 => ?_))
    all_goals (first | refine AtT.kpass ?_ | refine AtT.kpassU ?_ | ((first | refine AtT.kfieldO fo24_2 ?_ | with_reducible refine AtT.kfield2 fo24_2 ?_ | refine AtT.kfield fo24_2 ?_)))
    all_goals (first | refine AtT.kpass ?_ | refine AtT.kpassU ?_ | ((first | refine AtT.kloadO tk3 ?_ | refine AtT.kload tk3 ?_)))
    all_goals (first | refine AtT.kpass ?_ | refine AtT.kpassU ?_ | ((refine AtT.kleq ?_)))
    all_goals (refine AtT.setF (d := 29) rfl (c6) ?_)
    all_goals (refine AtT.kpick ?_)
    all_goals (refine AtT.kassign ?_)
    all_goals refine AtT.done ?_
    all_goals (refine At.nrm ?_)
    exact At.ret1 rfl (.tmp rfl) (by unfold sndB; rw [decide_eq_false (by omega)]; rfl)
  refine At.ktext (.q 0 (.q 1 (.q 2 (.q 3 (.q 4 (.q 5 (.q 6 (.q 7 (.q 8 (.q 9 (.q 10 (.q 11 (.q 12 (.q 13 (.q 14 (.q 15 (.q 16 (.q 17 (.q 18 (.q 19 (.q 20 (.q 21 (.q 22 (.q 23 (.q 24 (.q 25 (.q 26 (.q 27 (.q 28 .done))))))))))))))))))))))))))))) ?_
  first | refine AtT.kfieldO fo24_0 ?_ | with_reducible refine AtT.kfield2 fo24_0 ?_ | refine AtT.kfield fo24_0 ?_
  first | refine AtT.kloadO tk3 ?_ | refine AtT.kload tk3 ?_
  refine AtT.kgeq ?_
  refine AtT.setT (d := 5) rfl (c1) ?_
  refine AtT.kmove ?_
  all_goals (first | refine AtT.kL 6 ?_ | refine AtT.pcase (d := 6) rfl (fun hg6 => ?_) (fun hg6 => ?_) | refine AtT.bcase (d := 6) rfl (fun hg6 => ?_) (fun hg6 => ?_))
  all_goals (first | refine AtT.kpass ?_ | refine AtT.kpassU ?_ | ((first | refine AtT.kfieldO fo24_0 ?_ | with_reducible refine AtT.kfield2 fo24_0 ?_ | refine AtT.kfield fo24_0 ?_)))
  all_goals (first | refine AtT.kpass ?_ | refine AtT.kpassU ?_ | ((first | refine AtT.kloadO tk3 ?_ | refine AtT.kload tk3 ?_)))
  all_goals (first | refine AtT.kpass ?_ | refine AtT.kpassU ?_ | ((refine AtT.kleq ?_)))
  all_goals (refine AtT.setT (d := 9) rfl (c2) ?_)
  all_goals (refine AtT.kpick ?_)
  all_goals (refine AtT.kmove ?_)
  all_goals (first | refine AtT.kL 11 ?_ | refine AtT.pcase (d := 11) rfl (fun hg11 => ?_) (fun hg11 => ?_) | refine AtT.bcase (d := 11) rfl (fun hg11 => ?_) (fun hg11 => ?_))
  all_goals (first | refine AtT.kpass ?_ | refine AtT.kpassU ?_ | ((first | refine AtT.kfieldO fo24_1 ?_ | with_reducible refine AtT.kfield2 fo24_1 ?_ | refine AtT.kfield fo24_1 ?_)))
  all_goals (first | refine AtT.kpass ?_ | refine AtT.kpassU ?_ | ((first | refine AtT.kloadO tk3 ?_ | refine AtT.kload tk3 ?_)))
  all_goals (first | refine AtT.kpass ?_ | refine AtT.kpassU ?_ | ((refine AtT.kgeq ?_)))
  all_goals (refine AtT.setT (d := 14) rfl (c3) ?_)
  all_goals (refine AtT.kpick ?_)
  all_goals (refine AtT.kmove ?_)
  all_goals (first | refine AtT.kL 16 ?_ | refine AtT.pcase (d := 16) rfl (fun hg16 => ?_) (fun hg16 => ?_) | refine AtT.bcase (d := 16) rfl (fun hg16 => ?_) (fun hg16 => ?_))
  all_goals (first | refine AtT.kpass ?_ | refine AtT.kpassU ?_ | ((first | refine AtT.kfieldO fo24_1 ?_ | with_reducible refine AtT.kfield2 fo24_1 ?_ | refine AtT.kfield fo24_1 ?_)))
  all_goals (first | refine AtT.kpass ?_ | refine AtT.kpassU ?_ | ((first | refine AtT.kloadO tk3 ?_ | refine AtT.kload tk3 ?_)))
  all_goals (first | refine AtT.kpass ?_ | refine AtT.kpassU ?_ | ((refine AtT.kleq ?_)))
  all_goals (refine AtT.setT (d := 19) rfl (c4) ?_)
  all_goals (refine AtT.kpick ?_)
  all_goals (refine AtT.kmove ?_)
  all_goals (first | refine AtT.kL 21 ?_ | refine AtT.pcase (d := 21) rfl (fun hg21 => ?_) (fun hg21 => ?_) | refine AtT.bcase (d := 21) rfl (fun hg21 => ?_) (fun hg21 => ?_))
  all_goals (first | refine AtT.kpass ?_ | refine AtT.kpassU ?_ | ((first | refine AtT.kfieldO fo24_2 ?_ | with_reducible refine AtT.kfield2 fo24_2 ?_ | refine AtT.kfield fo24_2 ?_)))
  all_goals (first | refine AtT.kpass ?_ | refine AtT.kpassU ?_ | ((first | refine AtT.kloadO tk3 ?_ | refine AtT.kload tk3 ?_)))
  all_goals (first | refine AtT.kpass ?_ | refine AtT.kpassU ?_ | ((refine AtT.kgeq ?_)))
  all_goals (refine AtT.setT (d := 24) rfl (c5) ?_)
  all_goals (refine AtT.kpick ?_)
  all_goals (refine AtT.kmove ?_)
  all_goals (first | refine AtT.kL 26 ?_ | refine AtT.pcase (d := 26) rfl (fun hg26 => ?_) (fun hg26 => ?_) | refine AtT.bcase (d := 26) rfl (fun hg26 => ?_) (fun hg26 => ?_))
  all_goals (first | refine AtT.kpass ?_ | refine AtT.kpassU ?_ | ((first | refine AtT.kfieldO fo24_2 ?_ | with_reducible refine AtT.kfield2 fo24_2 ?_ | refine AtT.kfield fo24_2 ?_)))
  all_goals (first | refine AtT.kpass ?_ | refine AtT.kpassU ?_ | ((first | refine AtT.kloadO tk3 ?_ | refine AtT.kload tk3 ?_)))
  all_goals (first | refine AtT.kpass ?_ | refine AtT.kpassU ?_ | ((refine AtT.kleq ?_)))
  all_goals (refine AtT.setT (d := 29) rfl (c6) ?_)
  all_goals (refine AtT.kpick ?_)
  all_goals (refine AtT.kassign ?_)
  all_goals refine AtT.done ?_
  all_goals (refine At.nrm ?_)
  exact At.ret1 rfl (.tmp rfl) (by unfold sndB; rw [decide_eq_true (by omega)]; rfl)
theorem bad_f (t : Tq) (V : View) : Fnc Tryz.prog 74 ([] ++ [tqv t] ++ []) V fun r _ => r = .bool (badT t) := by
  refine fn_of Tryz.func74 rfl Tryz.ntmps74 (Nat.le_of_ble_eq_true rfl) ?_
  intro w0 hw0
  refine At.nrm ?_
  refine At.ktext (.n false 0 (.q 1 .done)) ?_
  refine AtT.kbox ?_
  intro b1
  refine AtT.kassign ?_
  refine AtT.done ?_
  refine At.nrm ?_
  refine At.ktext (.q 0 (.q 1 (.n false 2 (.q 3 (.q 4 .done))))) ?_
  first | refine AtT.kfieldO fo81_0 ?_ | with_reducible refine AtT.kfield2 fo81_0 ?_ | refine AtT.kfield fo81_0 ?_
  first | refine AtT.kloadOA tk24 ?_ | refine AtT.kloadA tk24 ?_ | refine AtT.kloadOP tk24 ?_
  refine AtT.kcallP rfl rfl ok43 (sound_f t.p _) ?_
  rintro _ rfl
  refine AtT.knot ?_
  refine AtT.kassign ?_
  refine AtT.done ?_
  refine At.nrm ?_
  exact At.ret1 rfl (.tmp rfl) rfl
theorem trials_f (ts : List Tq) (V : View) (v : Value) (hs : Sl V tqe 4 v ts) : Fnc Tryz.prog 36 [v] V fun r _ => r = iv (trE ts) := by
  have hs' := hs
  obtain ⟨a, c, rfl, k1, k2, _⟩ := id hs
  clear k1 k2
  refine fn_of Tryz.func36 rfl Tryz.ntmps36 (Nat.le_of_ble_eq_true rfl) ?_
  intro w0 hw0
  refine At.nrm ?_
  refine At.ktext (.q 0 .done) ?_
  refine AtT.kassign ?_
  refine AtT.done ?_
  refine At.nrm ?_
  refine At.ktext (.q 0 (.q 1 (.q 2 (.q 3 .done)))) ?_
  refine AtT.kmove ?_
  first | refine AtT.klenS Tryz.underlying22 ?_ | refine AtT.klenR Tryz.underlying22 ?_
  refine AtT.kgtr ?_
  refine AtT.kassign ?_
  refine AtT.done ?_
  refine At.nrm ?_
  refine At.condP rfl (fun hb => ?_) (fun hb => ?_)
  · refine At.nrm ?_
    refine At.ktext (.q 0 .done) ?_
    refine AtT.kassign ?_
    refine AtT.done ?_
    refine At.nrm ?_
    refine At.ret1 rfl (.tmp rfl) ?_
    rw [trE, if_pos (by omega)]
  have hb' : ¬ 16 < ts.length := by omega
  refine At.nrm ?_
  refine At.ktext (.q 0 (.n false 1 (.q 2 .done))) ?_
  refine AtT.kmove ?_
  refine AtT.kcallP rfl rfl ok73 (contains_t 74 [] badT _ _ ts hs' ok74 (fun t _ => bad_f t _)) ?_
  rintro _ rfl
  refine AtT.kassign ?_
  refine AtT.done ?_
  refine At.nrm ?_
  refine At.cond rfl (fun hc => ?_) (fun hc => ?_)
  · refine At.nrm ?_
    refine At.ktext (.q 0 .done) ?_
    refine AtT.kassign ?_
    refine AtT.done ?_
    refine At.nrm ?_
    refine At.ret1 rfl (.tmp rfl) ?_
    rw [trE, if_neg hb', if_pos hc]
  refine At.nrm ?_
  refine At.ktext (.q 0 .done) ?_
  refine AtT.kassign ?_
  refine AtT.done ?_
  refine At.nrm ?_
  refine At.ret1 rfl (.tmp rfl) ?_
  rw [trE, if_neg hb', if_neg (by rw [hc]; simp)]
theorem tq_pan {V : View} {p : Addr} {x : Tq} (h : Cells V p (tqe x)) : Cells V (p.add 0) (pqe x.p) := h.at (k := 0) fun j u hj => by
  match j, hj with
  | 0, hj => exact hj
  | 1, hj => exact hj
  | 2, hj => exact hj
theorem rtrials_f (ts : List Tq) (V : View) (v : Value) (hs : Sl V tqe 4 v ts) : Fnc Tryz.prog 40 [v] V fun r _ => r = iv (trE ts) := by
  obtain ⟨a, c, rfl, k1, k2, _⟩ := id hs
  clear k1 k2
  refine fn_of Tryz.func40 rfl Tryz.ntmps40 (Nat.le_of_ble_eq_true rfl) ?_
  intro w0 hw0
  refine At.nrm ?_
  refine At.ktext (.q 0 .done) ?_
  refine AtT.kassign ?_
  refine AtT.done ?_
  refine At.nrm ?_
  refine At.ktext (.q 0 (.q 1 (.q 2 .done))) ?_
  refine AtT.kmove ?_
  first | refine AtT.klenS Tryz.underlying22 ?_ | refine AtT.klenR Tryz.underlying22 ?_
  refine AtT.kgtr ?_
  refine AtT.done ?_
  refine At.nrm ?_
  refine At.condP rfl (fun hb => ?_) (fun hb => ?_)
  · refine At.nrm ?_
    refine At.ktext (.q 0 .done) ?_
    refine AtT.kassign ?_
    refine AtT.done ?_
    refine At.nrm ?_
    refine At.ret1 rfl (.tmp rfl) ?_
    rw [trE, if_pos (by omega)]
  have hb' : ¬ 16 < ts.length := by omega
  refine At.nrm ?_
  refine At.ktext (.q 0 .done) ?_
  refine AtT.kassign ?_
  refine AtT.done ?_
  refine At.nrm ?_
  refine At.lp (ι := Nat) (KS := fun k => [(0, .slice a ts.length c), (3, iv k)]) (OS := fun _ => []) (VS := fun k V' => V' = V ∧ k ≤ ts.length ∧ (ts.take k).any badT = false) (μ := fun k => ts.length - k) 0 ?_ ?_ ?_ ?_
  · exact ⟨rfl, rfl, trivial⟩
  · exact Pt.auto
  · exact ⟨rfl, Nat.zero_le _, rfl⟩
  · rintro k V' ks' O' ⟨rfl, hkl, hany⟩ hk hO hl
    subst hk hO
    refine At.nrm ?_
    refine At.ktext (.q 0 (.q 1 (.q 2 (.q 3 .done)))) ?_
    refine AtT.kmove ?_
    refine AtT.kmove ?_
    first | refine AtT.klenS Tryz.underlying22 ?_ | refine AtT.klenR Tryz.underlying22 ?_
    refine AtT.klss ?_
    refine AtT.done ?_
    refine At.nrm ?_
    refine At.condP rfl (fun hp => ?_) (fun hp => ?_)
    · obtain ⟨x, hx⟩ : ∃ x, ts[k]? = some x := ⟨_, List.getElem?_eq_getElem (by omega)⟩
      have hnx := take_snoc' hx
      refine At.nrm ?_
      cases hbx : sndB x.p with
      | false =>
        refine At.ktext (.q 0 (.q 1 (.q 2 (.q 3 (.q 4 (.n false 5 (.q 6 .done))))))) ?_
        refine AtT.kmove ?_
        refine AtT.kmove ?_
        refine AtT.kidx Tryz.underlying22 tk81 ?_
        intro p15 e15 he15 hc15
        obtain rfl : e15 = x := by have : ts[k]? = some e15 := (by simpa using he15); rw [hx] at this; simpa using this.symm
        have hc17 := tq_pan hc15
        first | refine AtT.kfieldO fo81_0 ?_ | with_reducible refine AtT.kfield2 fo81_0 ?_ | refine AtT.kfield fo81_0 ?_
        first | refine AtT.kloadOA tk24 ?_ | refine AtT.kloadA tk24 ?_ | refine AtT.kloadOP tk24 ?_
        refine AtT.kcallP rfl rfl ok45 (isPanel_f _ _) ?_
        rintro _ rfl; rw [hbx]
        refine AtT.knot ?_
        refine AtT.setB (d := 19) rfl ((show (!false) = true from rfl)) ?_
        refine AtT.done ?_
        refine At.nrm ?_
        refine At.condT rfl rfl ?_
        refine At.nrm ?_
        refine At.ktext (.q 0 .done) ?_
        refine AtT.kassign ?_
        refine AtT.done ?_
        refine At.nrm ?_
        refine At.ret1 rfl (.tmp rfl) ?_
        rw [trE, if_neg hb', if_pos (List.any_eq_true.2 ⟨_, List.mem_of_getElem? hx, by simp [badT, hbx]⟩)]
      | true =>
        refine At.ktext (.q 0 (.q 1 (.q 2 (.q 3 (.q 4 (.n false 5 (.q 6 .done))))))) ?_
        refine AtT.kmove ?_
        refine AtT.kmove ?_
        refine AtT.kidx Tryz.underlying22 tk81 ?_
        intro p15 e15 he15 hc15
        obtain rfl : e15 = x := by have : ts[k]? = some e15 := (by simpa using he15); rw [hx] at this; simpa using this.symm
        have hc17 := tq_pan hc15
        first | refine AtT.kfieldO fo81_0 ?_ | with_reducible refine AtT.kfield2 fo81_0 ?_ | refine AtT.kfield fo81_0 ?_
        first | refine AtT.kloadOA tk24 ?_ | refine AtT.kloadA tk24 ?_ | refine AtT.kloadOP tk24 ?_
        refine AtT.kcallP rfl rfl ok45 (isPanel_f _ _) ?_
        rintro _ rfl; rw [hbx]
        refine AtT.knot ?_
        refine AtT.setB (d := 19) rfl ((show (!true) = false from rfl)) ?_
        refine AtT.done ?_
        refine At.nrm ?_
        refine At.condF rfl rfl ?_
        refine At.nrm ?_
        refine At.ktext (.q 0 (.q 1 (.q 2 .done))) ?_
        refine AtT.kmove ?_
        first | refine AtT.kadd ?_ | refine AtT.kaddW ?_
        refine AtT.kassign ?_
        refine AtT.done ?_
        refine At.nrm ?_
        refine At.round (k + 1) ?_ ?_ ?_ ?_
        · show ts.length - (k + 1) < ts.length - k; omega
        · refine ⟨rfl, by omega, ?_⟩
          rw [hnx, List.any_append, hany]; simp [badT, hbx]
        · exact ⟨rfl, ivs (by omega), trivial⟩
        · exact Pt.auto
    · obtain rfl : k = ts.length := by omega
      rw [List.take_length] at hany
      refine At.nrm ?_
      refine At.ktext (.q 0 .done) ?_
      refine AtT.kassign ?_
      refine AtT.done ?_
      refine At.nrm ?_
      refine At.ret1 rfl (.tmp rfl) ?_
      rw [trE, if_neg hb', if_neg (by rw [hany]; simp)]
theorem great_f (ts : List Tq) (V : View) (v : Value) (hs : Sl V tqe 4 v ts) : Fnc Tryz.prog 5 [v] V fun r _ => r = .bool (decide (24 < (ts.length : Int))) := by
  obtain ⟨a, c, rfl, k1, k2, _⟩ := id hs
  clear k1 k2
  refine fn_of Tryz.func5 rfl Tryz.ntmps5 (Nat.le_of_ble_eq_true rfl) ?_
  intro w0 hw0
  refine At.nrm ?_
  refine At.ktext (.q 0 .done) ?_
  refine AtT.kassign ?_
  refine AtT.done ?_
  refine At.nrm ?_
  refine At.ktext (.q 0 (.q 1 (.q 2 (.q 3 .done)))) ?_
  refine AtT.kmove ?_
  first | refine AtT.klenS Tryz.underlying22 ?_ | refine AtT.klenR Tryz.underlying22 ?_
  refine AtT.kgtr ?_
  refine AtT.kassign ?_
  refine AtT.done ?_
  refine At.nrm ?_
  exact At.ret1 rfl (.tmp rfl) rfl
theorem panel_f (m o h : Int) (V : View) : Fnc Tryz.prog 25 [iv m, iv o, iv h] V fun r _ => r = pqv ⟨m, o, h⟩ := by
  refine fn_of Tryz.func25 rfl Tryz.ntmps25 (Nat.le_of_ble_eq_true rfl) ?_
  intro w0 hw0
  refine At.nrm ?_
  refine At.ktext (.n false 0 .done) ?_
  refine AtT.kalloc z24 ?_
  intro b6
  refine AtT.done ?_
  refine At.nrm ?_
  refine At.ktext (.q 0 (.q 1 (.q 2 (.q 3 (.n true 4 .done))))) ?_
  refine AtT.kmove ?_
  refine AtT.kmove ?_
  refine AtT.kmove ?_
  refine AtT.kbuild (bd24_0_1_2 _ _ _) ?_
  refine AtT.kstoreA tk24 ?_
  refine AtT.done ?_
  refine At.nrm ?_
  exact At.ret1 rfl (.agg rfl tk24 Pick.auto rfl) rfl
theorem trial_f (m o h : Int) (f : Bool) (V : View) : Fnc Tryz.prog 65 [iv m, iv o, iv h, .bool f] V fun r _ => r = tqv ⟨⟨m, o, h⟩, f⟩ := by
  refine fn_of Tryz.func65 rfl Tryz.ntmps65 (Nat.le_of_ble_eq_true rfl) ?_
  intro w0 hw0
  refine At.nrm ?_
  refine At.ktext (.n false 0 .done) ?_
  refine AtT.kalloc z81 ?_
  intro b8
  refine AtT.done ?_
  refine At.nrm ?_
  refine At.ktext (.q 0 (.q 1 (.q 2 (.n false 3 (.q 4 (.q 5 (.n true 6 .done))))))) ?_
  refine AtT.kmove ?_
  refine AtT.kmove ?_
  refine AtT.kmove ?_
  refine AtT.kcallP rfl rfl ok25 (panel_f _ _ _ _) ?_
  rintro _ rfl
  refine AtT.kmove ?_
  refine AtT.kbuild (bd81_0_1 _ _ _ _) ?_
  refine AtT.kstoreA tk81 ?_
  refine AtT.done ?_
  refine At.nrm ?_
  exact At.ret1 rfl (.agg rfl tk81 Pick.auto rfl) rfl
theorem of_f (v : Value) (V : View) : Fnc Tryz.prog 27 [v] V fun r _ => r = v := by
  refine fn_of Tryz.func27 rfl Tryz.ntmps27 (Nat.le_of_ble_eq_true rfl) ?_
  intro w0 hw0
  refine At.nrm ?_
  refine At.ktext (.q 0 .done) ?_
  refine AtT.kassign ?_
  refine AtT.done ?_
  refine At.nrm ?_
  refine At.ktext (.q 0 (.q 1 .done)) ?_
  refine AtT.kmove ?_
  refine AtT.kassign ?_
  refine AtT.done ?_
  refine At.nrm ?_
  exact At.ret1 rfl (.tmp rfl) rfl
theorem lists_f (v : Value) (V : View) : Fnc Tryz.prog 35 [v] V fun r _ => r = v := by
  refine fn_of Tryz.func35 rfl Tryz.ntmps35 (Nat.le_of_ble_eq_true rfl) ?_
  intro w0 hw0
  refine At.nrm ?_
  refine At.ktext (.q 0 .done) ?_
  refine AtT.kassign ?_
  refine AtT.done ?_
  refine At.nrm ?_
  refine At.ktext (.q 0 (.q 1 .done)) ?_
  refine AtT.kmove ?_
  refine AtT.kassign ?_
  refine AtT.done ?_
  refine At.nrm ?_
  exact At.ret1 rfl (.tmp rfl) rfl
/-- The causes of a panel. -/
theorem causesOf_f (p : Pq) (hp : sndB p = true) (V : View) : Fnc Tryz.prog 55 [pqv p] V fun r V' => SlI V' r (caL p) := by
  have hs := hp
  unfold sndB at hs
  rw [decide_eq_true_eq] at hs
  refine fn_of Tryz.func55 rfl Tryz.ntmps55 (Nat.le_of_ble_eq_true rfl) ?_
  intro w0 hw0
  refine At.nrm ?_
  refine At.ktext (.n false 0 (.q 1 .done)) ?_
  refine AtT.kbox ?_
  intro b1
  refine AtT.kassign ?_
  refine AtT.done ?_
  refine At.nrm ?_
  refine At.ktext (.q 0 (.q 1 (.q 2 (.q 3 (.q 4 (.q 5 (.q 6 (.q 7 (.n false 8 (.q 9 .done)))))))))) ?_
  first | refine AtT.kfieldO fo24_0 ?_ | with_reducible refine AtT.kfield2 fo24_0 ?_ | refine AtT.kfield fo24_0 ?_
  first | refine AtT.kloadO tk3 ?_ | refine AtT.kload tk3 ?_
  first | refine AtT.kfieldO fo24_1 ?_ | with_reducible refine AtT.kfield2 fo24_1 ?_ | refine AtT.kfield fo24_1 ?_
  first | refine AtT.kloadO tk3 ?_ | refine AtT.kload tk3 ?_
  first | refine AtT.kadd ?_ | refine AtT.kaddW ?_
  first | refine AtT.kfieldO fo24_2 ?_ | with_reducible refine AtT.kfield2 fo24_2 ?_ | refine AtT.kfield fo24_2 ?_
  first | refine AtT.kloadO tk3 ?_ | refine AtT.kload tk3 ?_
  first | refine AtT.kadd ?_ | refine AtT.kaddW ?_
  refine AtT.kbsliceG (bs38_3_0_1_2 _ _ _) ?_
  intro q11 V11 hV11 hq11
  have g11 : Le V V11 := by first | exact hV11 | exact Le.trans (by assumption) hV11
  refine AtT.kassign ?_
  refine AtT.done ?_
  refine At.nrm ?_
  exact At.ret1 rfl (.tmp rfl) (Sl.lit hq11 rfl (by simp [caL]))
end Go.Proofs.YtfcpmblmklibjaaGreat
set_option linter.unusedVariables false
namespace Go.Proofs.YtfcpmblmklibjaaGreat
open Go.Lw Go.Gl Go.Bl Go.RowKit

/-- The bits of a list. -/
theorem bitsOf_f (l : List Int) (hl : ∀ x ∈ l, 0 ≤ x ∧ x < 15) (V : View) (v : Value) (hs : SlI V v l) : Fnc Tryz.prog 18 [v] V fun r _ => r = iv (btL l) := by
  have hlen := hs.lenLe
  obtain ⟨a, c, rfl, k1, k2, _⟩ := id hs
  clear k1 k2
  refine fn_of Tryz.func18 rfl Tryz.ntmps18 (Nat.le_of_ble_eq_true rfl) ?_
  intro w0 hw0
  refine At.nrm ?_
  refine At.ktext (.q 0 .done) ?_
  refine AtT.kassign ?_
  refine AtT.done ?_
  refine At.nrm ?_
  refine At.ktext (.q 0 .done) ?_
  refine AtT.kassign ?_
  refine AtT.done ?_
  refine At.nrm ?_
  refine At.ktext (.q 0 .done) ?_
  refine AtT.kassign ?_
  refine AtT.done ?_
  refine At.nrm ?_
  refine At.lp (ι := Nat) (KS := fun k => [(0, .slice a l.length c), (3, iv (btL (l.take k))), (4, iv k)]) (OS := fun _ => []) (VS := fun k V' => V' = V ∧ k ≤ l.length) (μ := fun k => l.length - k) 0 ?_ ?_ ?_ ?_
  · exact ⟨rfl, rfl, rfl, trivial⟩
  · exact Pt.auto
  · exact ⟨rfl, Nat.zero_le _⟩
  · rintro k V' ks' O' ⟨rfl, hkl⟩ hk hO hl2
    subst hk hO
    have hb := btT_lt hl k
    refine At.nrm ?_
    refine At.ktext (.q 0 (.q 1 (.q 2 (.q 3 .done)))) ?_
    refine AtT.kmove ?_
    refine AtT.kmove ?_
    first | refine AtT.klenS Tryz.underlying38 ?_ | refine AtT.klenR Tryz.underlying38 ?_
    refine AtT.klss ?_
    refine AtT.done ?_
    refine At.nrm ?_
    refine At.condP rfl (fun hp => ?_) (fun hp => ?_)
    · obtain ⟨x, hx⟩ : ∃ x, l[k]? = some x := ⟨_, List.getElem?_eq_getElem (by omega)⟩
      have hx0 := hl x (List.mem_of_getElem? hx)
      have hpw := pow_lt15 hx0
      have hnx := btL_take hx
      refine At.nrm ?_
      refine At.ktext (.q 0 (.q 1 (.q 2 (.q 3 (.q 4 (.q 5 (.q 6 (.q 7 .done)))))))) ?_
      refine AtT.kmove ?_
      refine AtT.kmove ?_
      refine AtT.kmove ?_
      refine AtT.kidx Tryz.underlying38 tk3 ?_
      intro p14 e14 he14 hc14
      obtain rfl : e14 = x := by have : l[k]? = some e14 := (by simpa using he14); rw [hx] at this; simpa using this.symm
      first | refine AtT.kloadO tk3 ?_ | refine AtT.kload tk3 ?_
      refine AtT.shlN rfl trivial rfl rfl (N := e14.toNat) (by omega) (by omega) (by decide) ?_
      refine AtT.orN rfl trivial rfl rfl rfl rfl (by omega) (by omega) (by decide) (A := btL (l.take k)) (B := 2 ^ e14.toNat) ?_
      refine AtT.kassign ?_
      refine AtT.done ?_
      refine At.nrm ?_
      refine At.ktext (.q 0 (.q 1 (.q 2 .done))) ?_
      refine AtT.kmove ?_
      first | refine AtT.kadd ?_ | refine AtT.kaddW ?_
      refine AtT.kassign ?_
      refine AtT.done ?_
      refine At.nrm ?_
      refine At.round (k + 1) ?_ ?_ ?_ ?_
      · show l.length - (k + 1) < l.length - k; omega
      · exact ⟨rfl, by omega⟩
      · rw [hnx]; exact ⟨rfl, rfl, ivs (by omega), trivial⟩
      · exact Pt.auto
    · obtain rfl : k = l.length := by omega
      rw [List.take_length]
      refine At.nrm ?_
      refine At.ktext (.q 0 (.q 1 .done)) ?_
      refine AtT.kmove ?_
      refine AtT.kassign ?_
      refine AtT.done ?_
      refine At.nrm ?_
      exact At.ret1 rfl (.tmp rfl) rfl
/-- The set of causes. -/
theorem setOf_f (l : List Int) (hl : ∀ x ∈ l, 0 ≤ x ∧ x < 15) (V : View) (v : Value) (hs : SlI V v l) : Fnc Tryz.prog 59 [v] V fun r _ => r = stv (btL l) := by
  have hlen := hs.lenLe
  obtain ⟨a, c, rfl, k1, k2, _⟩ := id hs
  clear k1 k2
  refine fn_of Tryz.func59 rfl Tryz.ntmps59 (Nat.le_of_ble_eq_true rfl) ?_
  intro w0 hw0
  refine At.nrm ?_
  refine At.ktext (.n false 0 .done) ?_
  refine AtT.kalloc z86 ?_
  intro b2
  refine AtT.done ?_
  refine At.nrm ?_
  refine At.ktext (.q 0 (.n false 1 (.n true 2 .done))) ?_
  refine AtT.kbuild (bd86) ?_
  refine AtT.kalloc z86 ?_
  intro b3
  refine AtT.kstoreA tk86 ?_
  refine AtT.done ?_
  refine At.nrm ?_
  refine At.ktext (.q 0 (.q 1 (.q 2 .done))) ?_
  refine AtT.kmove ?_
  first | refine AtT.klenS Tryz.underlying38 ?_ | refine AtT.klenR Tryz.underlying38 ?_
  refine AtT.kmove ?_
  refine AtT.done ?_
  refine At.nrm ?_
  refine At.lp (ι := Nat) (KS := fun k => [(2, .pointer (some ⟨b2, 0, none⟩)), (3, .pointer (some ⟨b3, 0, none⟩)), (7, .slice a l.length c), (8, iv l.length), (9, iv k)]) (OS := fun k => [.blk b2 (LC [iv 0] 86), .blk b3 (LC [iv (btL (l.take k))] 86)]) (VS := fun k V' => V' = V ∧ k ≤ l.length) (μ := fun k => l.length - k) 0 ?_ ?_ ?_ ?_
  · exact ⟨rfl, rfl, rfl, rfl, rfl, trivial⟩
  · exact Pt.auto
  · exact ⟨rfl, Nat.zero_le _⟩
  · rintro k V' ks' O' ⟨rfl, hkl⟩ hk hO hl2
    subst hk hO
    have hb := btT_lt hl k
    refine At.nrm ?_
    refine At.ktext (.q 0 .done) ?_
    refine AtT.klss ?_
    refine AtT.done ?_
    refine At.nrm ?_
    refine At.condP rfl (fun hp => ?_) (fun hp => ?_)
    · obtain ⟨x, hx⟩ : ∃ x, l[k]? = some x := ⟨_, List.getElem?_eq_getElem (by omega)⟩
      have hx0 := hl x (List.mem_of_getElem? hx)
      have hpw := pow_lt15 hx0
      have hnx := btL_take hx
      refine At.nrm ?_
      refine At.ktext (.q 0 (.q 1 (.q 2 .done))) ?_
      refine AtT.kidx Tryz.underlying38 tk3 ?_
      intro p11 e11 he11 hc11
      obtain rfl : e11 = x := by have : l[k]? = some e11 := (by simpa using he11); rw [hx] at this; simpa using this.symm
      first | refine AtT.kloadO tk3 ?_ | refine AtT.kload tk3 ?_
      refine AtT.kassign ?_
      refine AtT.done ?_
      refine At.nrm ?_
      refine At.draw (.q 0 (.q 1 (.q 2 (.q 3 (.q 4 (.q 5 (.n true 6 .done))))))) ffm (by kernel_rfl) ?_
      first | refine AtT.kfieldO fo86_0 ?_ | with_reducible refine AtT.kfield2 fo86_0 ?_ | refine AtT.kfield fo86_0 ?_
      first | refine AtT.kloadO tk3 ?_ | refine AtT.kload tk3 ?_
      refine AtT.kmove ?_
      refine AtT.shlN rfl trivial rfl rfl (N := e11.toNat) (by omega) (by omega) (by decide) ?_
      refine AtT.orN rfl trivial rfl rfl rfl rfl (by omega) (by omega) (by decide) (A := btL (l.take k)) (B := 2 ^ e11.toNat) ?_
      first | refine AtT.kfieldO fo86_0 ?_ | with_reducible refine AtT.kfield2 fo86_0 ?_ | refine AtT.kfield fo86_0 ?_
      first | refine AtT.kstore1 tk3 ?_ | refine AtT.kstoreA tk3 ?_
      refine AtT.done ?_
      refine At.nrm ?_
      refine At.ktext (.q 0 (.q 1 .done)) ?_
      first | refine AtT.kadd ?_ | refine AtT.kaddW ?_
      refine AtT.kmove ?_
      refine AtT.done ?_
      refine At.nrm ?_
      refine At.round (k + 1) ?_ ?_ ?_ ?_
      · show l.length - (k + 1) < l.length - k; omega
      · exact ⟨rfl, by omega⟩
      · exact ⟨rfl, rfl, rfl, rfl, ivs (by omega), trivial⟩
      rw [hnx]
      · exact Pt.auto
    · obtain rfl : k = l.length := by omega
      rw [List.take_length]
      refine At.nrm ?_
      refine At.ktext (.q 0 (.n true 1 .done)) ?_
      first | refine AtT.kloadOA tk86 ?_ | refine AtT.kloadA tk86 ?_ | refine AtT.kloadOP tk86 ?_
      refine AtT.kstoreA tk86 ?_
      refine AtT.done ?_
      refine At.nrm ?_
      exact At.ret1 rfl (.agg rfl tk86 Pick.auto rfl) rfl
theorem meets_f (A B : Nat) (hA : A < 9223372036854775808) (hB : B < 9223372036854775808) (V : View) : Fnc Tryz.prog 60 [stv A, stv B] V fun r _ => r = .bool (mtB A B) := by
  refine fn_of Tryz.func60 rfl Tryz.ntmps60 (Nat.le_of_ble_eq_true rfl) ?_
  intro w0 hw0
  refine At.nrm ?_
  refine At.ktext (.n false 0 (.n false 1 (.q 2 .done))) ?_
  refine AtT.kbox ?_
  intro b2
  refine AtT.kbox ?_
  intro b3
  refine AtT.kassign ?_
  refine AtT.done ?_
  refine At.nrm ?_
  refine At.ktext (.q 0 (.q 1 (.q 2 (.q 3 (.q 4 (.q 5 (.q 6 .done))))))) ?_
  first | refine AtT.kfieldO fo86_0 ?_ | with_reducible refine AtT.kfield2 fo86_0 ?_ | refine AtT.kfield fo86_0 ?_
  first | refine AtT.kloadO tk3 ?_ | refine AtT.kload tk3 ?_
  first | refine AtT.kfieldO fo86_0 ?_ | with_reducible refine AtT.kfield2 fo86_0 ?_ | refine AtT.kfield fo86_0 ?_
  first | refine AtT.kloadO tk3 ?_ | refine AtT.kload tk3 ?_
  refine AtT.andN rfl trivial rfl rfl rfl rfl hA hB (by decide) (A := A) (B := B) ?_
  refine AtT.kgtr ?_
  refine AtT.kassign ?_
  refine AtT.done ?_
  refine At.nrm ?_
  exact At.ret1 rfl (.tmp rfl) (by rw [mt_pos])
/-- The causes of a panel, as a set. -/
theorem causes_f (p : Pq) (hp : sndB p = true) (V : View) : Fnc Tryz.prog 66 [pqv p] V fun r _ => r = stv (cbN p) := by
  have hs := hp
  unfold sndB at hs
  rw [decide_eq_true_eq] at hs
  refine fn_of Tryz.func66 rfl Tryz.ntmps66 (Nat.le_of_ble_eq_true rfl) ?_
  intro w0 hw0
  refine At.nrm ?_
  refine At.ktext (.n false 0 (.n false 1 .done)) ?_
  refine AtT.kbox ?_
  intro b1
  refine AtT.kalloc z86 ?_
  intro b2
  refine AtT.done ?_
  refine At.nrm ?_
  refine At.ktext (.q 0 (.q 1 (.q 2 (.q 3 (.q 4 (.q 5 (.q 6 (.q 7 (.n false 8 (.n false 9 (.n true 10 .done))))))))))) ?_
  first | refine AtT.kfieldO fo24_0 ?_ | with_reducible refine AtT.kfield2 fo24_0 ?_ | refine AtT.kfield fo24_0 ?_
  first | refine AtT.kloadO tk3 ?_ | refine AtT.kload tk3 ?_
  first | refine AtT.kfieldO fo24_1 ?_ | with_reducible refine AtT.kfield2 fo24_1 ?_ | refine AtT.kfield fo24_1 ?_
  first | refine AtT.kloadO tk3 ?_ | refine AtT.kload tk3 ?_
  first | refine AtT.kadd ?_ | refine AtT.kaddW ?_
  first | refine AtT.kfieldO fo24_2 ?_ | with_reducible refine AtT.kfield2 fo24_2 ?_ | refine AtT.kfield fo24_2 ?_
  first | refine AtT.kloadO tk3 ?_ | refine AtT.kload tk3 ?_
  first | refine AtT.kadd ?_ | refine AtT.kaddW ?_
  refine AtT.kbsliceG (bs38_3_0_1_2 _ _ _) ?_
  intro q11 V11 hV11 hq11
  refine AtT.kcallP rfl rfl ok59 (setOf_f (caL p) (caL_in hp) _ _ (Sl.lit hq11 rfl (by simp [caL]))) ?_
  rintro _ rfl
  refine AtT.kstoreA tk86 ?_
  refine AtT.done ?_
  refine At.nrm ?_
  exact At.ret1 rfl (.agg rfl tk86 Pick.auto rfl) rfl
/-- The list of a set. -/
theorem list_f (A : Nat) (hA : A < 9223372036854775808) (V : View) : Fnc Tryz.prog 67 [stv A] V fun r V' => SlI V' r (bitL A 15) := by
  refine fn_of Tryz.func67 rfl Tryz.ntmps67 (Nat.le_of_ble_eq_true rfl) ?_
  intro w0 hw0
  refine At.nrm ?_
  refine At.ktext (.n false 0 (.q 1 .done)) ?_
  refine AtT.kbox ?_
  intro b1
  refine AtT.kassign ?_
  refine AtT.done ?_
  refine At.nrm ?_
  refine At.ktext (.q 0 .done) ?_
  refine AtT.kassign ?_
  refine AtT.done ?_
  refine At.nrm ?_
  refine At.ktext (.q 0 .done) ?_
  refine AtT.kmove ?_
  refine AtT.done ?_
  refine At.nrm ?_
  refine At.newRow 3 1 ?_
  refine At.lp (ι := Nat × Option Addr × Nat) (KS := fun g => [(1, .pointer (some ⟨b1, 0, none⟩)), (3, .slice g.2.1 (bitL A g.1).length g.2.2), (5, iv g.1)]) (OS := fun g => [.row (.slice g.2.1 (bitL A g.1).length g.2.2) 3 1 (bitL A g.1).length (flat ei (bitL A g.1)), .blk b1 (LC [iv A] 86)]) (VS := fun g V' => Le V V' ∧ g.1 ≤ 15) (μ := fun g => 15 - g.1) (0, none, 0) ?_ ?_ ?_ ?_
  · exact ⟨rfl, rfl, rfl, trivial⟩
  · exact Pt.auto
  · exact ⟨Le.refl _, Nat.zero_le _⟩
  · rintro ⟨k, ao, co⟩ V' ks' O' ⟨hVV, hkl⟩ hk hO hl2
    dsimp only at hkl hk hO
    subst hk hO
    have hkn := bitL_len A k
    refine At.nrm ?_
    refine At.ktext (.q 0 .done) ?_
    refine AtT.klss ?_
    refine AtT.done ?_
    refine At.nrm ?_
    refine At.condP rfl (fun hp => ?_) (fun hp => ?_)
    · have hsr : A >>> k < 9223372036854775808 := Nat.lt_of_le_of_lt (by rw [Nat.shiftRight_eq_div_pow]; exact Nat.div_le_self _ _) hA
      refine At.nrm ?_
      refine At.ktext (.q 0 (.q 1 .done)) ?_
      refine AtT.kmove ?_
      refine AtT.kassign ?_
      refine AtT.done ?_
      refine At.nrm ?_
      refine At.ktext (.q 0 (.q 1 (.q 2 (.q 3 (.q 4 (.q 5 .done)))))) ?_
      first | refine AtT.kfieldO fo86_0 ?_ | with_reducible refine AtT.kfield2 fo86_0 ?_ | refine AtT.kfield fo86_0 ?_
      first | refine AtT.kloadO tk3 ?_ | refine AtT.kload tk3 ?_
      refine AtT.kmove ?_
      refine AtT.shrN rfl trivial rfl rfl rfl rfl (by omega) (by decide) (A := A) (N := k) ?_
      refine AtT.andN rfl trivial rfl rfl rfl rfl hsr (by decide) (by decide) (A := A >>> k) (B := 1) ?_
      refine AtT.keqI ?_
      refine AtT.done ?_
      refine At.nrm ?_
      refine At.condP rfl (fun hc => ?_) (fun hc => ?_)
      · have hb : A.testBit k = true := (bit_iff A k).1 hc
        have hn2 : bitL A (k + 1) = bitL A k ++ [(k : Int)] := by simp only [bitL, hb, if_true]
        refine At.nrm ?_
        refine At.ktext (.q 0 (.q 1 (.n false 2 (.n true 3 (.q 4 .done))))) ?_
        refine AtT.kmove ?_
        refine AtT.kmove ?_
        refine AtT.kbsliceG (bs38_1_0 _) ?_
        intro q16 V16 hV16 hq16
        have g16 : Le V V16 := by first | exact hV16 | exact Le.trans (by assumption) hV16
        first | refine AtT.kappend Tryz.underlying38 rw3 ?_
        intro a17 c17
        refine AtT.kassign ?_
        refine AtT.done ?_
        refine At.nrm ?_
        refine At.ktext (.q 0 (.q 1 .done)) ?_
        first | refine AtT.kadd ?_ | refine AtT.kaddW ?_
        refine AtT.kmove ?_
        refine AtT.done ?_
        refine At.nrm ?_
        refine At.round (k + 1, a17, c17) ?_ ?_ ?_ ?_
        · show 15 - (k + 1) < 15 - k; omega
        · exact ⟨hVV.trans (by assumption), by dsimp only; omega⟩
        · dsimp only; rw [hn2, List.length_append]; exact ⟨rfl, rfl, ivs (by omega), trivial⟩
        dsimp only
        rw [hn2, flat_snoc, List.length_append]
        · exact Pt.auto
      · have hb : ¬ A.testBit k = true := fun h => hc ((bit_iff A k).2 h)
        have hn2 : bitL A (k + 1) = bitL A k := by simp only [bitL, if_neg hb]
        refine At.nrm ?_
        refine At.ktext (.q 0 (.q 1 .done)) ?_
        first | refine AtT.kadd ?_ | refine AtT.kaddW ?_
        refine AtT.kmove ?_
        refine AtT.done ?_
        refine At.nrm ?_
        refine At.round (k + 1, ao, co) ?_ ?_ ?_ ?_
        · show 15 - (k + 1) < 15 - k; omega
        · exact ⟨hVV, by dsimp only; omega⟩
        · dsimp only; rw [hn2]; exact ⟨rfl, rfl, ivs (by omega), trivial⟩
        dsimp only
        rw [hn2]
        · exact Pt.auto
    · obtain rfl : k = 15 := by omega
      refine At.nrm ?_
      refine At.ktext (.q 0 (.q 1 .done)) ?_
      refine AtT.kmove ?_
      refine AtT.kassign ?_
      refine AtT.done ?_
      refine At.nrm ?_
      refine At.giveSl Lw.ei_len rfl rfl Pick.auto (fun V4 hV4 hs4 => ?_)
      exact At.ret1 rfl (.tmp rfl) hs4
/-- What rises. -/
theorem rising_f (l : List Int) (n : Int) (hn : 0 ≤ n ∧ n ≤ 1000) (V : View) (v : Value) (hs : SlI V v l) : Fnc Tryz.prog 58 [v, iv n] V fun r _ => r = .bool (lstB l n) := by
  have hlen := hs.lenLe
  obtain ⟨a, c, rfl, k1, k2, _⟩ := id hs
  clear k1 k2
  refine fn_of Tryz.func58 rfl Tryz.ntmps58 (Nat.le_of_ble_eq_true rfl) ?_
  intro w0 hw0
  refine At.nrm ?_
  refine At.ktext (.q 0 .done) ?_
  refine AtT.kassign ?_
  refine AtT.done ?_
  refine At.nrm ?_
  refine At.ktext (.q 0 .done) ?_
  refine AtT.kassign ?_
  refine AtT.done ?_
  refine At.nrm ?_
  refine At.ktext (.q 0 (.q 1 (.q 2 .done))) ?_
  refine AtT.kmove ?_
  first | refine AtT.klenS Tryz.underlying38 ?_ | refine AtT.klenR Tryz.underlying38 ?_
  refine AtT.kmove ?_
  refine AtT.done ?_
  refine At.nrm ?_
  refine At.lp (ι := Nat) (KS := fun k => [(1, iv n), (5, iv (prevN l k)), (8, .slice a l.length c), (9, iv l.length), (10, iv k)]) (OS := fun _ => []) (VS := fun k V' => Le V V' ∧ k ≤ l.length ∧ (∀ j, j < k → okAt l n j = true)) (μ := fun k => l.length - k) 0 ?_ ?_ ?_ ?_
  · exact ⟨rfl, rfl, rfl, rfl, rfl, trivial⟩
  · exact Pt.auto
  · exact ⟨Le.refl _, Nat.zero_le _, fun j hj => absurd hj (Nat.not_lt_zero j)⟩
  · rintro k V' ks' O' ⟨hVV, hkl, hok⟩ hk hO hl2
    subst hk hO
    have hp0 := prevN_pos hok
    have hs' := hs.le hVV
    have hpn : prevN l k ≤ 1000 := by
      match k, hok with
      | 0, _ => simp [prevN]
      | m + 1, hok =>
        have := hok m (by omega)
        unfold okAt at this
        rw [decide_eq_true_eq] at this
        simp only [prevN]; omega
    refine At.nrm ?_
    refine At.ktext (.q 0 .done) ?_
    refine AtT.klss ?_
    refine AtT.done ?_
    refine At.nrm ?_
    refine At.condP rfl (fun hp => ?_) (fun hp => ?_)
    · obtain ⟨x, hx⟩ : ∃ x, l[k]? = some x := ⟨_, List.getElem?_eq_getElem (by omega)⟩
      have hgx : l.getD k 0 = x := by simp [List.getD, hx]
      refine At.nrm ?_
      refine At.ktext (.q 0 (.q 1 (.q 2 .done))) ?_
      refine AtT.kidx Tryz.underlying38 tk3 ?_
      intro p12 e12 he12 hc12
      obtain rfl : e12 = x := by have : l[k]? = some e12 := (by simpa using he12); rw [hx] at this; simpa using this.symm
      first | refine AtT.kloadO tk3 ?_ | refine AtT.kload tk3 ?_
      refine AtT.kassign ?_
      refine AtT.done ?_
      refine At.nrm ?_
      have hw := wi1 (prevN l k) (n - 1) e12
      refine At.ktext (.q 0 (.q 1 (.q 2 (.q 3 (.n false 4 (.n false 5 (.q 6 .done))))))) ?_
      refine AtT.kmove ?_
      refine AtT.kmove ?_
      first | refine AtT.ksubt ?_ | refine AtT.ksubW ?_
      refine AtT.kmove ?_
      refine AtT.kbsliceG (bs38_1_0 _) ?_
      intro q18 V18 hV18 hq18
      have g18 : Le V V18 := by first | exact hV18 | exact Le.trans (by assumption) hV18
      refine AtT.kcallP rfl rfl ok37 (within_f (prevN l k) (n - 1) [e12] _ _ (Sl.lit hq18 rfl (by simp))) ?_
      rintro _ rfl; rw [hw]
      refine AtT.knot ?_
      refine AtT.done ?_
      refine At.nrm ?_
      by_cases c1 : prevN l k ≤ e12 ∧ e12 ≤ n - 1
      · refine At.condF rfl (by rw [decide_eq_true c1]; rfl) ?_
        refine At.nrm ?_
        refine At.ktext (.q 0 (.q 1 (.q 2 .done))) ?_
        refine AtT.kmove ?_
        first | refine AtT.kadd ?_ | refine AtT.kaddW ?_
        refine AtT.kassign ?_
        refine AtT.done ?_
        refine At.nrm ?_
        refine At.ktext (.q 0 (.q 1 .done)) ?_
        first | refine AtT.kadd ?_ | refine AtT.kaddW ?_
        refine AtT.kmove ?_
        refine AtT.done ?_
        refine At.nrm ?_
        refine At.round (k + 1) ?_ ?_ ?_ ?_
        · show l.length - (k + 1) < l.length - k; omega
        · refine ⟨hVV.trans (by assumption), by omega, fun j hj => ?_⟩
          by_cases hjk : j = k
          · subst hjk; unfold okAt; rw [hgx]; exact decide_eq_true (by omega)
          · exact hok j (by omega)
        · exact ⟨rfl, ivs (by simp only [prevN]; rw [hgx]), rfl, rfl, ivs (by omega), trivial⟩
        · exact Pt.auto
      · refine At.condT rfl (by rw [decide_eq_false c1]; rfl) ?_
        refine At.nrm ?_
        refine At.ktext (.q 0 .done) ?_
        refine AtT.kassign ?_
        refine AtT.done ?_
        refine At.nrm ?_
        exact At.ret1 rfl (.tmp rfl) (by rw [lstB_false (k := k) (by omega) (by unfold okAt; rw [hgx]; exact decide_eq_false (by omega))])
    · obtain rfl : k = l.length := by omega
      refine At.nrm ?_
      refine At.ktext (.q 0 .done) ?_
      refine AtT.kassign ?_
      refine AtT.done ?_
      refine At.nrm ?_
      exact At.ret1 rfl (.tmp rfl) (by rw [lstB_true hok])
end Go.Proofs.YtfcpmblmklibjaaGreat
set_option linter.unusedVariables false
namespace Go.Proofs.YtfcpmblmklibjaaGreat
open Go.Lw Go.Gl Go.Bl Go.RowKit

/-- The causes that are clear. -/
theorem clearOf_f (ts : List Tq) (ht : ∀ t ∈ ts, sndB t.p = true) (V : View) (v : Value) (hs : Sl V tqe 4 v ts) : Fnc Tryz.prog 54 [v] V fun r _ => r = iv (clA ts) := by
  have hlen := hs.lenLe
  obtain ⟨a, c, rfl, k1, k2, _⟩ := id hs
  clear k1 k2
  refine fn_of Tryz.func54 rfl Tryz.ntmps54 (Nat.le_of_ble_eq_true rfl) ?_
  intro w0 hw0
  refine At.nrm ?_
  refine At.ktext (.q 0 .done) ?_
  refine AtT.kassign ?_
  refine AtT.done ?_
  refine At.nrm ?_
  refine At.ktext (.q 0 .done) ?_
  refine AtT.kassign ?_
  refine AtT.done ?_
  refine At.nrm ?_
  refine At.ktext (.q 0 .done) ?_
  refine AtT.kassign ?_
  refine AtT.done ?_
  refine At.nrm ?_
  refine At.lp (ι := Nat) (KS := fun k => [(0, .slice a ts.length c), (3, iv (clN ts k)), (4, iv k)]) (OS := fun _ => []) (VS := fun k V' => Le V V' ∧ k ≤ ts.length) (μ := fun k => ts.length - k) 0 ?_ ?_ ?_ ?_
  · exact ⟨rfl, rfl, rfl, trivial⟩
  · exact Pt.auto
  · exact ⟨Le.refl _, Nat.zero_le _⟩
  · rintro k V' ks' O' ⟨hVV, hkl⟩ hk hO hl2
    subst hk hO
    have hs' := hs.le hVV
    have hcl := clN_lt ht k
    refine At.nrm ?_
    refine At.ktext (.q 0 (.q 1 (.q 2 (.q 3 .done)))) ?_
    refine AtT.kmove ?_
    refine AtT.kmove ?_
    first | refine AtT.klenS Tryz.underlying22 ?_ | refine AtT.klenR Tryz.underlying22 ?_
    refine AtT.klss ?_
    refine AtT.done ?_
    refine At.nrm ?_
    refine At.condP rfl (fun hp => ?_) (fun hp => ?_)
    · obtain ⟨x, hx⟩ : ∃ x, ts[k]? = some x := ⟨_, List.getElem?_eq_getElem (by omega)⟩
      have hxs := ht x (List.mem_of_getElem? hx)
      have hnx := clN_at hx
      have hcb := cbN_lt hxs
      refine At.nrm ?_
      refine At.ktext (.q 0 (.q 1 (.q 2 (.q 3 (.q 4 (.q 5 .done)))))) ?_
      refine AtT.kmove ?_
      refine AtT.kmove ?_
      refine AtT.kidx Tryz.underlying22 tk81 ?_
      intro p13 e13 he13 hc13
      obtain rfl : e13 = x := by have : ts[k]? = some e13 := (by simpa using he13); rw [hx] at this; simpa using this.symm
      first | refine AtT.kfieldO fo81_1 ?_ | with_reducible refine AtT.kfield2 fo81_1 ?_ | refine AtT.kfield fo81_1 ?_
      first | refine AtT.kloadO tk4 ?_ | refine AtT.kload tk4 ?_
      refine AtT.knot ?_
      refine AtT.done ?_
      refine At.nrm ?_
      cases hf : e13.f with
      | true =>
        rw [hf, if_neg (by simp)] at hnx
        refine At.condF rfl rfl ?_
        refine At.nrm ?_
        refine At.ktext (.q 0 (.q 1 (.q 2 .done))) ?_
        refine AtT.kmove ?_
        first | refine AtT.kadd ?_ | refine AtT.kaddW ?_
        refine AtT.kassign ?_
        refine AtT.done ?_
        refine At.nrm ?_
        refine At.round (k + 1) ?_ ?_ ?_ ?_
        · show ts.length - (k + 1) < ts.length - k; omega
        · exact ⟨hVV, by omega⟩
        · rw [hnx]; exact ⟨rfl, rfl, ivs (by omega), trivial⟩
        · exact Pt.auto
      | false =>
        rw [hf, if_pos rfl] at hnx
        refine At.condT rfl rfl ?_
        refine At.nrm ?_
        refine At.ktext (.q 0 (.q 1 (.q 2 (.q 3 (.q 4 (.q 5 (.n false 6 (.n false 7 (.q 8 (.q 9 .done)))))))))) ?_
        refine AtT.kmove ?_
        refine AtT.kmove ?_
        refine AtT.kmove ?_
        refine AtT.kidx Tryz.underlying22 tk81 ?_
        intro p20 e20 he20 hc20
        obtain rfl : e20 = e13 := by have : ts[k]? = some e20 := (by simpa using he20); rw [hx] at this; simpa using this.symm
        have hc22 := tq_pan hc20
        first | refine AtT.kfieldO fo81_0 ?_ | with_reducible refine AtT.kfield2 fo81_0 ?_ | refine AtT.kfield fo81_0 ?_
        first | refine AtT.kloadOA tk24 ?_ | refine AtT.kloadA tk24 ?_ | refine AtT.kloadOP tk24 ?_
        refine AtT.kcall rfl rfl ok55 (causesOf_f e20.p hxs _) ?_
        rintro v23 V23 hV23 hs23
        refine AtT.kcallP rfl rfl ok18 (bitsOf_f _ (caL_in hxs) _ _ hs23) ?_
        rintro _ rfl
        refine AtT.orN rfl trivial rfl rfl rfl rfl (by omega) (by show btL (caL e20.p) < _; have : btL (caL e20.p) < 32768 := hcb; omega) (by decide) (A := clN ts k) (B := cbN e20.p) ?_
        refine AtT.kassign ?_
        refine AtT.done ?_
        refine At.nrm ?_
        refine At.ktext (.q 0 (.q 1 (.q 2 .done))) ?_
        refine AtT.kmove ?_
        first | refine AtT.kadd ?_ | refine AtT.kaddW ?_
        refine AtT.kassign ?_
        refine AtT.done ?_
        refine At.nrm ?_
        refine At.round (k + 1) ?_ ?_ ?_ ?_
        · show ts.length - (k + 1) < ts.length - k; omega
        · exact ⟨hVV.trans (by assumption), by omega⟩
        · rw [hnx]; exact ⟨rfl, rfl, ivs (by omega), trivial⟩
        · exact Pt.auto
    · obtain rfl : k = ts.length := by omega
      refine At.nrm ?_
      refine At.ktext (.q 0 (.q 1 .done)) ?_
      refine AtT.kmove ?_
      refine AtT.kassign ?_
      refine AtT.done ?_
      refine At.nrm ?_
      exact At.ret1 rfl (.tmp rfl) rfl
/-- What is left of each trial. -/
theorem left_f (ts : List Tq) (ht : ∀ t ∈ ts, sndB t.p = true) (h1 : ts.length ≤ 1000) (V : View) (v : Value) (hs : Sl V tqe 4 v ts) : Fnc Tryz.prog 15 [v] V fun r V' => SlI V' r (lfL ts) := by
  have hlen := hs.lenLe
  have hno := clN_lt ht ts.length
  have hno' : clA ts < 32768 := hno
  obtain ⟨a, c, rfl, k1, k2, _⟩ := id hs
  clear k1 k2
  refine fn_of Tryz.func15 rfl Tryz.ntmps15 (Nat.le_of_ble_eq_true rfl) ?_
  intro w0 hw0
  refine At.nrm ?_
  refine At.ktext (.q 0 .done) ?_
  refine AtT.kassign ?_
  refine AtT.done ?_
  refine At.nrm ?_
  refine At.ktext (.q 0 (.n false 1 (.q 2 .done))) ?_
  refine AtT.kmove ?_
  refine AtT.kcallP rfl rfl ok54 (clearOf_f ts ht _ _ hs) ?_
  rintro _ rfl
  refine AtT.kassign ?_
  refine AtT.done ?_
  refine At.nrm ?_
  refine At.ktext (.q 0 .done) ?_
  refine AtT.kassign ?_
  refine AtT.done ?_
  refine At.nrm ?_
  refine At.ktext (.q 0 .done) ?_
  refine AtT.kassign ?_
  refine AtT.done ?_
  refine At.nrm ?_
  refine At.newRow 3 1 ?_
  refine At.lp (ι := Nat × Option Addr × Nat) (KS := fun g => [(0, .slice a ts.length c), (3, iv (clA ts)), (4, .slice g.2.1 g.1 g.2.2), (5, iv g.1)]) (OS := fun g => [.row (.slice g.2.1 g.1 g.2.2) 3 1 g.1 (flat ei ((lfL ts).take g.1))]) (VS := fun g V' => Le V V' ∧ g.1 ≤ ts.length) (μ := fun g => ts.length - g.1) (0, none, 0) ?_ ?_ ?_ ?_
  · exact ⟨rfl, rfl, rfl, rfl, trivial⟩
  · exact Pt.auto
  · exact ⟨Le.refl _, Nat.zero_le _⟩
  · rintro ⟨k, ao, co⟩ V' ks' O' ⟨hVV, hkl⟩ hk hO hl2
    dsimp only at hkl hk hO
    subst hk hO
    have hs' := hs.le hVV
    refine At.nrm ?_
    refine At.ktext (.q 0 (.q 1 (.q 2 (.q 3 .done)))) ?_
    refine AtT.kmove ?_
    refine AtT.kmove ?_
    first | refine AtT.klenS Tryz.underlying22 ?_ | refine AtT.klenR Tryz.underlying22 ?_
    refine AtT.klss ?_
    refine AtT.done ?_
    refine At.nrm ?_
    refine At.condP rfl (fun hp => ?_) (fun hp => ?_)
    · obtain ⟨x, hx⟩ : ∃ x, ts[k]? = some x := ⟨_, List.getElem?_eq_getElem (by omega)⟩
      have hxs := ht x (List.mem_of_getElem? hx)
      have hcb := cbN_lt hxs
      have hlx : (lfL ts)[k]? = some (lfI (clA ts) x) := by unfold lfL; rw [List.getElem?_map, hx]; rfl
      refine At.nrm ?_
      refine At.ktext (.q 0 (.q 1 (.q 2 (.q 3 (.q 4 .done))))) ?_
      refine AtT.kmove ?_
      refine AtT.kmove ?_
      refine AtT.kidx Tryz.underlying22 tk81 ?_
      intro p16 e16 he16 hc16
      obtain rfl : e16 = x := by have : ts[k]? = some e16 := (by simpa using he16); rw [hx] at this; simpa using this.symm
      first | refine AtT.kfieldO fo81_1 ?_ | with_reducible refine AtT.kfield2 fo81_1 ?_ | refine AtT.kfield fo81_1 ?_
      first | refine AtT.kloadO tk4 ?_ | refine AtT.kload tk4 ?_
      refine AtT.done ?_
      refine At.nrm ?_
      cases hf : e16.f with
      | true =>
        have hli : lfI (clA ts) e16 = ((clrB (cbN e16.p) (clA ts) : Nat) : Int) := by unfold lfI; rw [if_pos hf]
        rw [hli] at hlx
        refine At.condT rfl rfl ?_
        refine At.nrm ?_
        refine At.ktext (.q 0 (.q 1 (.q 2 (.q 3 (.q 4 (.q 5 (.n false 6 (.n false 7 (.q 8 (.q 9 (.n false 10 (.n true 11 (.q 12 .done))))))))))))) ?_
        refine AtT.kmove ?_
        refine AtT.kmove ?_
        refine AtT.kmove ?_
        refine AtT.kidx Tryz.underlying22 tk81 ?_
        intro p22 e22 he22 hc22
        obtain rfl : e22 = e16 := by have : ts[k]? = some e22 := (by simpa using he22); rw [hx] at this; simpa using this.symm
        have hc24 := tq_pan hc22
        first | refine AtT.kfieldO fo81_0 ?_ | with_reducible refine AtT.kfield2 fo81_0 ?_ | refine AtT.kfield fo81_0 ?_
        first | refine AtT.kloadOA tk24 ?_ | refine AtT.kloadA tk24 ?_ | refine AtT.kloadOP tk24 ?_
        refine AtT.kcall rfl rfl ok55 (causesOf_f e22.p hxs _) ?_
        rintro v25 V25 hV25 hs25; have hVV25 := hVV.trans hV25
        refine AtT.kcallP rfl rfl ok18 (bitsOf_f _ (caL_in hxs) _ _ hs25) ?_
        rintro _ rfl
        refine AtT.kmove ?_
        refine AtT.clrN rfl trivial rfl rfl rfl rfl (by show btL (caL e22.p) < _; have : btL (caL e22.p) < 32768 := hcb; omega) (by omega) (by decide) (A := cbN e22.p) (B := clA ts) ?_
        refine AtT.kbsliceG (bs38_1_0 _) ?_
        intro q29 V29 hV29 hq29
        have g29 : Le V V29 := by first | exact hV29 | exact Le.trans (by assumption) hV29
        first | refine AtT.kappend Tryz.underlying38 rw3 ?_
        intro a30 c30
        refine AtT.kassign ?_
        refine AtT.done ?_
        refine At.nrm ?_
        refine At.ktext (.q 0 (.q 1 (.q 2 .done))) ?_
        refine AtT.kmove ?_
        first | refine AtT.kadd ?_ | refine AtT.kaddW ?_
        refine AtT.kassign ?_
        refine AtT.done ?_
        refine At.nrm ?_
        refine At.round (k + 1, a30, c30) ?_ ?_ ?_ ?_
        · show ts.length - (k + 1) < ts.length - k; omega
        · exact ⟨hVV.trans (by first | assumption | exact Le.trans (by assumption) (by assumption)), by dsimp only; omega⟩
        · exact ⟨rfl, rfl, rfl, ivs (by dsimp only; omega), trivial⟩
        dsimp only
        rw [take_snoc' hlx, flat_snoc]
        · exact Pt.auto
      | false =>
        have hli : lfI (clA ts) e16 = -1 := by unfold lfI; rw [if_neg (by simp [hf])]
        rw [hli] at hlx
        refine At.condF rfl rfl ?_
        refine At.nrm ?_
        refine At.ktext (.q 0 (.n false 1 (.n true 2 (.q 3 .done)))) ?_
        refine AtT.kmove ?_
        refine AtT.kbsliceG (bs38_1_0 _) ?_
        intro q32 V32 hV32 hq32
        have g32 : Le V V32 := by first | exact hV32 | exact Le.trans (by assumption) hV32
        first | refine AtT.kappend Tryz.underlying38 rw3 ?_
        intro a33 c33
        refine AtT.kassign ?_
        refine AtT.done ?_
        refine At.nrm ?_
        refine At.ktext (.q 0 (.q 1 (.q 2 .done))) ?_
        refine AtT.kmove ?_
        first | refine AtT.kadd ?_ | refine AtT.kaddW ?_
        refine AtT.kassign ?_
        refine AtT.done ?_
        refine At.nrm ?_
        refine At.round (k + 1, a33, c33) ?_ ?_ ?_ ?_
        · show ts.length - (k + 1) < ts.length - k; omega
        · exact ⟨hVV.trans (by first | assumption | exact Le.trans (by assumption) (by assumption)), by dsimp only; omega⟩
        · exact ⟨rfl, rfl, rfl, ivs (by dsimp only; omega), trivial⟩
        dsimp only
        rw [take_snoc' hlx, flat_snoc]
        · exact Pt.auto
    · obtain rfl : k = ts.length := by omega
      have hll : (lfL ts).length = ts.length := by simp [lfL]
      rw [List.take_of_length_le (by omega)]
      refine At.nrm ?_
      refine At.ktext (.q 0 (.q 1 .done)) ?_
      refine AtT.kmove ?_
      refine AtT.kassign ?_
      refine AtT.done ?_
      refine At.nrm ?_
      refine At.giveSl Lw.ei_len rfl hll.symm Pick.auto (fun V4 hV4 hs4 => ?_)
      exact At.ret1 rfl (.tmp rfl) (by rw [← hll] at hs4; first | exact hs4 | (rw [hll] at hs4; exact ⟨_, _, by rw [hll], hs4.2⟩) | simpa [hll] using hs4)
end Go.Proofs.YtfcpmblmklibjaaGreat
