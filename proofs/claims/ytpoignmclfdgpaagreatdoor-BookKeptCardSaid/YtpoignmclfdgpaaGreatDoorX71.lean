/- Texts that the last one of this claim imports. -/
import Derived.Test.YtpoignmclfdgpaaGreatDoorB6
set_option linter.unusedVariables false
set_option linter.unusedSimpArgs false
set_option linter.unusedSectionVars false

set_option linter.unusedVariables false
namespace Go.Bk
open Go.Lw Go.Gl
theorem goneK_congr {es es' : List En} {first : Nat} (h : ∀ i, i < first → enA es i = enA es' i) : ∀ {k : Nat} {s : Nat}, k ≤ first → qW es first k s = qW es' first k s
 | 0, s, _ => rfl
 | k + 1, s, hk => by
  simp only [qW]
  rw [goneK_congr h (k := k) (s := s) (by omega), goneK_congr h (k := k) (s := first - 1 - k) (by omega), h (first - 1 - k) (by omega)]
theorem cntS_congr {es es' : List En} {first : Nat} (h : ∀ i, i < first → enA es i = enA es' i) : cntS es first = cntS es' first := by
 unfold cntS gone
 exact List.filter_congr fun i _ => by rw [goneK_congr h (Nat.le_refl _)]
theorem runS_congr {rs : List Rc} {es es' : List En} {first : Nat} (h : ∀ i, i < first → enA es i = enA es' i) (day : Int) : runS rs es first day = runS rs es' first day := by
 unfold runS
 rw [cntS_congr h, List.map_congr_left fun i hi => h i (cntS_lt hi)]
theorem enA_take {es : List En} {i n : Nat} (h : i < n) : enA (es.take n) i = enA es i := by
 unfold enA List.getD; rw [List.getElem?_take, if_pos h]
def lastD (last : Int) : List En → Int
 | [] => last
 | e :: es => lastD e.d es
theorem ens_take {rs : List Rc} : ∀ {es : List En} {index last : Int} (n : Nat), EnsOk rs index last es → EnsOk rs index last (es.take n)
 | [], _, _, n, h => by rw [List.take_nil]; exact h
 | e :: es, _, _, 0, h => .nil _ _
 | e :: es, _, _, n + 1, h => by
  cases h with
  | cons h1 h2 => exact .cons h1 (ens_take n h2)
theorem lastD_bd {rs : List Rc} : ∀ {es : List En} {index last : Int}, EnsOk rs index last es → (0 ≤ last ∧ last ≤ 999) → 0 ≤ lastD last es ∧ lastD last es ≤ 999
 | [], _, _, _, h => h
 | e :: es, _, _, h, hl => by
  cases h with
  | cons h1 h2 => show 0 ≤ lastD e.d es ∧ lastD e.d es ≤ 999; exact lastD_bd h2 h1.d
theorem Right.ens {b : Bo} (h : Right b) : EnsOk b.rs 0 0 b.es := entsE_iff.1 h.en
theorem Right.last {b : Bo} (h : Right b) : 0 ≤ lastD 0 b.es ∧ lastD 0 b.es ≤ 999 := lastD_bd h.ens (by decide)
theorem Right.take {b : Bo} (h : Right b) (n : Nat) : Right ⟨b.rs, b.es.take n⟩ := by
 refine ⟨h.cr, ?_, entsE_iff.2 (ens_take n h.ens), fun k hk => ?_⟩
 ·have := h.len; simp only [List.length_take]; omega
 ·simp only [List.length_take] at hk
  show (runS b.rs (b.es.take n) (k + 1) 999).isSome = true
  rw [runS_congr (es' := b.es) (fun i hi => enA_take (by omega))]
  exact h.run k (by omega)
end Go.Bk
set_option linter.unusedVariables false
namespace Go.Bk
open Go.Lw Go.Gl
def netR (rs : List Rc) (day : Int) (y : Int) (e : En) : Int := if day < e.d then 0 else if e.k = 1 then e.n * ja rs e.t y else if e.k = 2 then - (e.n * ja rs e.t y) else 0
theorem kept {b : Bo} (hb : Right b) {first : Nat} (hf : first ≤ b.es.length) {day : Int} {st : Nat → Int} (hst : runS b.rs b.es first day = some st) (y : Nat) :
  ji st (fun s => ja b.rs s y) 8 = ((cntS b.es first).map fun i => netR b.rs day y (enA b.es i)).sum := by
 have hg := hb.bog
 have hin : ∀ e ∈ (cntS b.es first).map (enA b.es), ∃ k l, EnOk b.rs e k l := fun e he => by
  obtain ⟨i, hi, rfl⟩ := List.mem_map.1 he
  have hx := List.getElem?_eq_getElem (l := b.es) (i := i) (by have := cntS_lt hi; omega)
  rw [enA_at hx]
  obtain ⟨l, h1, _⟩ := ensOk_at hb.ens hx
  exact ⟨_, l, h1⟩
 unfold runS at hst
 rw [run_dot hg.rs (r := fun s => ja b.rs s y) (fun e he h4 => by
  obtain ⟨k, l, h⟩ := hin e he
  exact ⟨(h.th h4).1, (h.th h4).2.1⟩) hst, dot_zero, Int.zero_add, List.map_map]
 refine sum_congr fun i hi => ?_
 obtain ⟨k, l, h⟩ := hin _ (List.mem_map.2 ⟨i, hi, rfl⟩)
 show (if day < (enA b.es i).d then 0 else addR (enA b.es i) (fun s => ja b.rs s y) - takeR b.rs (enA b.es i) (fun s => ja b.rs s y)) = netR b.rs day y (enA b.es i)
 generalize enA b.es i = e at h
 show (if day < e.d then 0 else addR e (fun s => ja b.rs s y) - takeR b.rs e (fun s => ja b.rs s y)) = netR b.rs day y e
 unfold netR addR takeR
 have hk := h.k
 by_cases hd : day < e.d
 ·rw [if_pos hd, if_pos hd]
 rw [if_neg hd, if_neg hd]
 have ht : e.k ≠ 4 → ((e.t.toNat : Nat) : Int) = e.t := fun h4 => Int.toNat_of_nonneg (h.th h4).1
 by_cases k1 : e.k = 1
 ·rw [if_pos (.inl k1), if_neg (by omega), if_neg (by omega), if_pos k1]
  dsimp only
  rw [ht (by omega)]; omega
 by_cases k2 : e.k = 2
 ·rw [if_neg (by omega), if_pos k2, if_neg k1, if_pos k2]
  dsimp only
  rw [ht (by omega)]; omega
 by_cases k3 : e.k = 3
 ·rw [if_pos (.inr k3), if_neg k2, if_pos k3, if_neg k1, if_neg k2]
  dsimp only
  rw [ht (by omega), rawO_made hg.rs (h.th (by omega)).2.1 (h.made k3)]
  have e1 : ((partsOf b.rs e.t).map fun p => e.n * p.n * ja b.rs (p.t.toNat : Int) y).sum = ((partsOf b.rs e.t).map fun p => e.n * (p.n * ja b.rs p.t y)).sum := sum_congr fun p hp => by
   have := qj hg.rs hp
   rw [Int.toNat_of_nonneg this.1, Int.mul_assoc]
  rw [e1, sum_mul]; omega
 ·rw [if_neg (by omega), if_neg k2, if_neg k3, if_neg k1, if_neg k2]; rfl
end Go.Bk
set_option linter.unusedVariables false
namespace Go.Proofs.YtpoignmclfdgpaaGreatDoor
open Go.Lw Go.Gl Go.Bk Go.RowKit
theorem stk_ok {b : Bo} (hR : Right b) {n : Nat} (hn : n ≤ b.es.length) {d : Int} (hd : 0 ≤ d ∧ d ≤ 999) : kg b n d = 0 ∧ jZ b n d = stL (stkF b n d) := by
 have h : kg b n d = 0 := by unfold kg; rw [if_neg (by rw [jA.2 hR]; simp), if_neg (by omega), if_neg (by omega)]
 exact ⟨h, by unfold jZ; rw [if_neg (by rw [h]; simp), Int.toNat_natCast]⟩
theorem fine_ok {b : Bo} (h : (!grB b && decide (bkE b = 0)) = true) : grB b = false ∧ bkE b = 0 := by
 simpa using h
abbrev bX (b : Bo) (e : En) : Bo := withB b e
abbrev bY (b : Bo) (e : En) : Bo := withB (bX b e) ⟨e.d, 4, b.es.length, 0⟩
abbrev bZ (b : Bo) (e : En) : Bo := withB (bY b e) ⟨e.d, 4, (b.es.length : Int) + 1, 0⟩
structure TkL (b : Bo) (e : En) (d : Int) : Prop where
 y : bkE (bY b e) = 0
 z : bkE (bZ b e) = 0
 k1 : kg b b.es.length d = 0
 k2 : kg (bX b e) ((b.es.length : Int) + 1) d = 0
 k3 : kg (bY b e) ((b.es.length : Int) + 2) d = 0
 k4 : kg (bZ b e) ((b.es.length : Int) + 3) d = 0
 k5 : kg (bZ b e) b.es.length d = 0
 k6 : kg (bZ b e) ((b.es.length : Int) + 2) d = 0
 l1 : jZ b b.es.length d = jZ (bY b e) ((b.es.length : Int) + 2) d
 l2 : jZ (bX b e) ((b.es.length : Int) + 1) d = jZ (bZ b e) ((b.es.length : Int) + 3) d
 l3 : jZ b b.es.length d = jZ (bZ b e) b.es.length d
 l4 : jZ (bZ b e) ((b.es.length : Int) + 2) d = jZ (bY b e) ((b.es.length : Int) + 2) d
end Go.Proofs.YtpoignmclfdgpaaGreatDoor
set_option linter.unusedVariables false
namespace Go.Proofs.YtpoignmclfdgpaaGreatDoor
open Go.Lw Go.Gl Go.Bk Go.RowKit
theorem first_of {x : Int} (h : 0 ≤ x ∧ x ≤ 255) (n : Nat) : ∃ f : Nat, f ≤ n ∧ x.tmod ((n : Int) + 1) = (f : Int) := by
 have h1 := Int.emod_nonneg x (show ((n : Int) + 1) ≠ 0 by omega)
 have h2 := Int.emod_lt_of_pos x (show 0 < ((n : Int) + 1) by omega)
 exact ⟨(x % ((n : Int) + 1)).toNat, by omega, by rw [Int.tmod_eq_emod_of_nonneg h.1, Int.toNat_of_nonneg h1]⟩
theorem wrap_u8 {x : Int} (h : 0 ≤ x ∧ x ≤ 255) : IntKind.i64.wrap x = x := wrap_fit (Fit.of (by omega) (by omega))
end Go.Proofs.YtpoignmclfdgpaaGreatDoor
set_option linter.unusedVariables false
namespace Go.Bk
open Go.Lw Go.Gl
theorem cntI_at {es : List En} {n i : Nat} (h : i < (cntI es n).length) : ∃ c : Nat, (cntS es n)[i]? = some c ∧ (cntI es n)[i]? = some (c : Int) ∧ c < n := by
 have hl : i < (cntS es n).length := by simpa using h
 have hx : (cntS es n)[i]? = some (cntS es n)[i] := List.getElem?_eq_getElem hl
 exact ⟨_, hx, by rw [List.getElem?_map, hx]; rfl, cntS_lt (List.getElem_mem hl)⟩
theorem cntI_len (es : List En) (n : Nat) : (cntI es n).length ≤ n := by
 have := cntJ_len es n n
 rw [cntJ_all] at this
 simpa using this
end Go.Bk

set_option linter.unusedVariables false
namespace Go.Bk
open Go.Lw Go.Gl
def mixK (A B : Nat → Int) (k : Nat) : Nat → Int := fun y => if y < k then B y else A y
theorem mix_zero (A B : Nat → Int) : mixK A B 0 = A := by funext y; simp [mixK]
theorem mix_all (A B : Nat → Int) : stC (mixK A B 8) = stC B := stC_ext fun s hs => by unfold mixK; rw [if_pos hs]
theorem mix_at (A B : Nat → Int) (k : Nat) : mixK A B k k = A k := by unfold mixK; rw [if_neg (Nat.lt_irrefl k)]
theorem mix_cell (A B : Nat → Int) {k : Nat} (h : k < 8) : (stC (mixK A B k))[k * 1]? = some (iv (A k)) := by rw [Nat.mul_one, stC_at _ h, mix_at]
theorem mix_set (A B : Nat → Int) {k : Nat} (h : k < 8) : (stC (mixK A B k)).set (k * 1) (iv (B k)) = stC (mixK A B (k + 1)) := by
 rw [Nat.mul_one, jL _ _ h]
 refine stC_ext fun s hs => ?_
 rw [qO]
 unfold mixK
 by_cases e : s = k
 ·subst e; simp
 ·rw [if_neg e]
  by_cases c : s < k
  ·rw [if_pos c, if_pos (by omega)]
  ·rw [if_neg c, if_neg (by omega)]
theorem stC_len (f : Nat → Int) : (stC f).length = 8 := rfl
def rowJ (rs : List Rc) (st : Nat → Int) (i : Nat) : Nat → Int := fun y => ji st (fun s => ja rs s y) i
theorem rowJ_zero (rs : List Rc) (st : Nat → Int) : rowJ rs st 0 = fun _ => 0 := rfl
theorem rowJ_step (rs : List Rc) (st : Nat → Int) (i y : Nat) : rowJ rs st (i + 1) y = rowJ rs st i y + st i * ja rs i y := rfl
theorem prod_bd {rs : List Rc} (h : qE (-1) rs) {a m : Int} (ha : 0 ≤ a ∧ a ≤ m) (hm : 0 ≤ m) {g : Int} (hg : g ≤ 7) (y : Int) : 0 ≤ a * ja rs g y ∧ a * ja rs g y ≤ m * 10460353203 := by
 have hr := rawO_bd h hg y
 exact ⟨Int.mul_nonneg ha.1 hr.1, Int.mul_le_mul ha.2 hr.2 hr.1 hm⟩
theorem rowJ_bd {rs : List Rc} (h : qE (-1) rs) {st : Nat → Int} (hs : ∀ s, s < 8 → 0 ≤ st s ∧ st s ≤ 24000) : ∀ {i : Nat} (y : Nat), i ≤ 8 → 0 ≤ rowJ rs st i y ∧ rowJ rs st i y ≤ 251048476872000 * (i : Int)
 | 0, y, _ => ⟨Int.le_refl _, Int.le_refl _⟩
 | i + 1, y, hi => by
  have ih := rowJ_bd h hs (i := i) y (by omega)
  have h1 := prod_bd h (hs i (by omega)) (by decide) (g := (i : Int)) (by omega) (y : Int)
  rw [rowJ_step]
  push_cast
  omega
def rowN (b : Bo) (st : Nat → Int) (day : Int) (n i : Nat) : Nat → Int := fun y => rowJ b.rs st 8 y - (((cntS b.es n).take i).map fun j => netR b.rs day y (enA b.es j)).sum
theorem rowN_zero (b : Bo) (st : Nat → Int) (day : Int) (n : Nat) : rowN b st day n 0 = rowJ b.rs st 8 := by funext y; simp [rowN]
theorem rowN_step {b : Bo} {st : Nat → Int} {day : Int} {n i c : Nat} (hc : (cntS b.es n)[i]? = some c) (y : Nat) : rowN b st day n (i + 1) y = rowN b st day n i y - netR b.rs day y (enA b.es c) := by
 unfold rowN
 rw [List.take_add_one, hc, List.map_append, List.sum_append]
 simp; omega
theorem netR_bd {rs : List Rc} (h : qE (-1) rs) {e : En} (hg : EnG e) (day y : Int) : -10460353203000 ≤ netR rs day y e ∧ netR rs day y e ≤ 10460353203000 := by
 unfold netR
 split
 ·omega
 ·split
  ·have h1 := prod_bd h (a := e.n) (m := 1000) (by have := hg.n (by omega); omega) (by decide) (g := e.t) (hg.t (by omega)).2 y
   omega
  ·split
   ·have h1 := prod_bd h (a := e.n) (m := 1000) (by have := hg.n (by omega); omega) (by decide) (g := e.t) (hg.t (by omega)).2 y
    omega
   ·omega
theorem enG_at {b : Bo} (hb : Right b) {c : Nat} (h : c < b.es.length) : EnG (enA b.es c) := hb.bog.es _ (enA_mem h)
theorem rowN_bd {b : Bo} (hb : Right b) {st : Nat → Int} (hs : ∀ s, s < 8 → 0 ≤ st s ∧ st s ≤ 24000) {day : Int} {n : Nat} (hn : n ≤ b.es.length) (y : Nat) : ∀ {i : Nat}, i ≤ (cntS b.es n).length → -10460353203000 * (i : Int) ≤ rowN b st day n i y ∧ rowN b st day n i y ≤ 2008387814976000 + 10460353203000 * (i : Int)
 | 0, _ => by
  have := rowJ_bd hb.bog.rs hs (i := 8) y (Nat.le_refl _)
  rw [rowN_zero]; omega
 | i + 1, hi => by
  have ih := rowN_bd hb hs (day := day) hn y (i := i) (by omega)
  have hc : (cntS b.es n)[i]? = some (cntS b.es n)[i] := List.getElem?_eq_getElem (by omega)
  have hlt := cntS_lt (List.getElem_mem (l := cntS b.es n) (n := i) (by omega))
  have h1 := netR_bd hb.bog.rs (enG_at hb (c := (cntS b.es n)[i]) (by omega)) day y
  rw [rowN_step hc]
  push_cast
  omega
theorem rowN_end {b : Bo} (hb : Right b) {n : Nat} (hn : n ≤ b.es.length) {day : Int} {st : Nat → Int} (hst : runS b.rs b.es n day = some st) (y : Nat) : rowN b st day n (cntS b.es n).length y = 0 := by
 unfold rowN rowJ
 rw [kept hb hn hst y, List.take_length]; omega
theorem cnt_len24 {b : Bo} (hb : Right b) {n : Nat} (hn : n ≤ b.es.length) : (cntS b.es n).length ≤ 24 := by
 have := cntJ_len b.es n n
 rw [cntJ_all] at this
 have := hb.len
 omega
end Go.Bk
set_option linter.unusedVariables false
namespace Go.Proofs.YtpoignmclfdgpaaGreatDoor
open Go.Lw Go.Gl Go.Bk Go.RowKit
theorem raw_ok {rs : List Rc} (h : crE rs = 0) {g c : Int} (hg : 0 ≤ g ∧ g ≤ 7) (hc : 0 ≤ c ∧ c ≤ 1000) : ko rs g c = 0 ∧ kE rs g c = stL fun y => c * ja rs g y := by
 have hE : ko rs g c = 0 := by unfold ko; rw [if_neg (by rw [h]; simp), if_neg (by omega), if_neg (by omega)]
 exact ⟨hE, by unfold kE; rw [if_neg (by rw [hE]; simp)]⟩
theorem stL_len (f : Nat → Int) : (Bk.stL f).length = 8 := rfl
set_option maxHeartbeats 1600000 in
theorem bookKept_f (b : Bo) (x8 x : Int) (hx8 : 0 ≤ x8 ∧ x8 ≤ 255) (hx16 : 0 ≤ x ∧ x ≤ 65535) (V : View) (hg : GvV V) (v : Value) (hv : BoV V v b) : Fnc Tryz.prog 9 [v, .int .u8 x8, .int .u16 x] V fun r _ => r = .bool true := by
 obtain ⟨w0, a0, c0, rfl, ⟨q0, z0, y0, e0, rfl, i0, j0⟩, s0⟩ := id hv
 have hvr : RsV V (.slice z0 q0.length y0) b.rs := ⟨q0, z0, y0, e0, rfl, i0, j0⟩
 clear e0 i0 j0
 refine qh Tryz.func9 rfl Tryz.ntmps9 (Nat.le_of_ble_eq_true rfl) ?_
 intro w0 hw0
 refine At.nrm ?_
 refine At.zh (.n false 0 (.q 1 .done)) ?_
 refine AtT.jd ?_
 intro b3
 refine AtT.ze ?_
 refine AtT.done ?_
 refine At.nrm ?_
 cases hfine : (!grB b && decide (bkE b = 0)) with
 | false =>
  refine At.zh (.q 0 (.n false 1 (.q 2 .done))) ?_
  first | refine AtT.zD zK ?_ | refine AtT.zI zK ?_ | refine AtT.zC zK ?_
  refine AtT.zG rfl rfl ok41 (fine_f b _ _ hv) ?_
  rintro _ rfl
  refine AtT.qM (d := 24) rfl (hfine) ?_
  refine AtT.qF ?_
  refine AtT.qM (d := 25) rfl ((show (!false) = true from rfl)) ?_
  refine AtT.done ?_
  refine At.nrm ?_
  all_goals refine At.qb rfl rfl ?_
  refine At.nrm ?_
  refine At.zh (.n false 0 (.q 1 .done)) ?_
  refine AtT.zG rfl rfl ok17 (works_f _ hg) ?_
  rintro _ rfl
  refine AtT.ze ?_
  refine AtT.done ?_
  refine At.nrm ?_
  exact At.qi rfl (.tmp rfl) rfl
 | true =>
 refine At.zh (.q 0 (.n false 1 (.q 2 .done))) ?_
 first | refine AtT.zD zK ?_ | refine AtT.zI zK ?_ | refine AtT.zC zK ?_
 refine AtT.zG rfl rfl ok41 (fine_f b _ _ hv) ?_
 rintro _ rfl
 refine AtT.qM (d := 24) rfl (hfine) ?_
 refine AtT.qF ?_
 refine AtT.qM (d := 25) rfl ((show (!true) = false from rfl)) ?_
 refine AtT.done ?_
 refine At.nrm ?_
 all_goals refine At.qf rfl rfl ?_
 refine At.nrm ?_
 obtain ⟨hgr, hb0⟩ := fine_ok hfine
 have hR := jA.1 hb0
 have hrs := hR.bog.rs
 have hlen := hR.len
 obtain ⟨n, hn, hne⟩ := first_of hx8 b.es.length
 have hw8 := wrap_u8 hx8
 have hd : 0 ≤ x % 1000 ∧ x % 1000 ≤ 999 := by omega
 obtain ⟨k1, k2⟩ := stk_ok hR hn hd
 obtain ⟨st, hst⟩ := hR.st hn (x % 1000)
 rw [stkF_some hst] at k2
 have hsb := runS_nn hR.bog hn hst
 have hcl := cntI_len b.es n
 have hc24 := cnt_len24 hR hn
 refine At.draw (.q 0 (.q 1 (.q 2 (.q 3 (.q 4 (.q 5 (.q 6 (.q 7 (.n false 8 (.q 9 (.q 10 .done))))))))))) ffm (by kernel_rfl) ?_
 refine AtT.zf ?_
 refine AtT.kconv un5 Tryz.underlying3 ?_
 rw [hw8]
 first | refine AtT.zk zu ?_ | with_reducible refine AtT.zl zu ?_ | refine AtT.zn zu ?_
 first | refine AtT.zm qo ?_ | refine AtT.zo qo ?_
 first | refine AtT.zR Tryz.underlying24 ?_ | refine AtT.zN Tryz.underlying24 ?_
 first | refine AtT.qI ?_ | refine AtT.ql ?_
 refine AtT.krem ?_
 rw [hne]
 refine AtT.zf ?_
 refine AtT.zG rfl rfl ok43 (day_f x hx16 _) ?_
 rintro _ rfl
 refine AtT.ze ?_
 refine AtT.ze ?_
 refine AtT.done ?_
 refine At.nrm ?_
 refine At.nrm ?_
 generalize x % 1000 = d at hd k1 k2 hst
 refine At.zh (.q 0 (.q 1 (.q 2 (.n false 3 (.q 4 (.q 5 (.q 6 (.q 7 (.q 8 .done))))))))) ?_
 first | refine AtT.zD zK ?_ | refine AtT.zI zK ?_ | refine AtT.zC zK ?_
 refine AtT.zf ?_
 refine AtT.zf ?_
 refine AtT.qa rfl rfl ok45 (stock_f b n d _ _ hv) ?_
 rintro _ V40 hV40 ⟨u40, rfl, h40⟩; rw [decide_eq_true k1]; rw [k2] at h40
 refine AtT.zf ?_
 refine AtT.zt ?_
 refine AtT.zt ?_
 refine AtT.ze ?_
 refine AtT.ze ?_
 refine AtT.done ?_
 refine At.nrm ?_
 obtain ⟨a40, c40, rfl, _, _, _, _⟩ := id h40
 replace hg := hg.le hV40
 replace hvr := hvr.le hV40
 replace s0 := s0.le hV40
 refine At.zh (.q 0 (.q 1 (.q 2 (.n false 3 (.q 4 .done))))) ?_
 first | refine AtT.zk zu ?_ | with_reducible refine AtT.zl zu ?_ | refine AtT.zn zu ?_
 first | refine AtT.zm qo ?_ | refine AtT.zo qo ?_
 refine AtT.zf ?_
 refine AtT.qa rfl rfl ok46 (rcntOf_f b.es n hn (by omega) (hR.bk hn) _ _ s0) ?_
 rintro v46 V46 hV46 h46
 refine AtT.ze ?_
 refine AtT.done ?_
 refine At.nrm ?_
 obtain ⟨a46, c46, rfl, _, _, _, _⟩ := id h46
 replace hg := hg.le hV46
 replace hvr := hvr.le hV46
 replace s0 := s0.le hV46
 replace h40 := h40.le hV46
 refine At.zh (.n false 0 (.q 1 .done)) ?_
 refine AtT.makeSl rfl trivial ei rfl Tryz.underlying28 rw2 rfl rfl (by decide) rfl rfl (by omega) (by omega) (by decide) (m := 8) (za := (0 : Int)) ?_
 intro b47
 refine AtT.ze ?_
 refine AtT.done ?_
 refine At.nrm ?_
 refine At.zh (.q 0 (.q 1 .done)) ?_
 refine AtT.zf ?_
 refine AtT.qF ?_
 refine AtT.qM (d := 49) rfl ((show (!true) = false from rfl)) ?_
 refine AtT.done ?_
 refine At.nrm ?_
 refine At.qf rfl rfl ?_
 refine At.nrm ?_
 refine At.zh (.q 0 .done) ?_
 refine AtT.ze ?_
 refine AtT.done ?_
 refine At.nrm ?_
 refine At.lp (ι := Nat) (KS := fun i => [(3, .pointer (some ⟨b3, 0, none⟩)), (8, iv d), (9, .slice a40 (Bk.stL st).length c40), (11, .slice a46 (cntI b.es n).length c46), (12, .slice (some ⟨b47, 0, none⟩) 8 8), (13, iv i)]) (OS := fun i => [.blk b3 (LC [.slice z0 q0.length y0, .slice a0 b.es.length c0] 26), .blk b47 (LC (stC (rowJ b.rs st i)) 2)]) (VS := fun i V' => Le V46 V' ∧ i ≤ 8) (μ := fun i => 8 - i) 0 ?_ ?_ ?_ ?_
 ·exact ⟨rfl, rfl, rfl, rfl, rfl, rfl, trivial⟩
 ·rw [rowJ_zero]; exact Pt.zH
 ·exact ⟨Le.refl _, Nat.zero_le _⟩
 rintro i V1 ks' O' ⟨hVV, hi⟩ hk hO hl1
 subst hk hO
 refine At.nrm ?_
 refine At.zh (.q 0 (.q 1 (.q 2 (.q 3 .done)))) ?_
 refine AtT.zf ?_
 refine AtT.zf ?_
 refine AtT.zN Tryz.underlying28 ?_
 refine AtT.qp ?_
 rw [stL_len]
 refine AtT.done ?_
 refine At.nrm ?_
 refine At.zX rfl (fun hp => ?_) (fun hp => ?_)
 ·have hi8 : i < 8 := by omega
  obtain ⟨m1, m2⟩ := raw_ok hR.cr (g := (i : Int)) (c := 1) (by omega) (by decide)
  refine At.nrm ?_
  refine At.zh (.q 0 (.q 1 (.q 2 (.n false 3 (.q 4 (.q 5 (.q 6 (.q 7 (.q 8 .done))))))))) ?_
  first | refine AtT.zk zw ?_ | with_reducible refine AtT.zl zw ?_ | refine AtT.zn zw ?_
  first | refine AtT.zm qy ?_ | refine AtT.zo qy ?_
  refine AtT.zf ?_
  refine AtT.qa rfl rfl ok47 (made_f b.rs i 1 _ _ (hvr.le hVV)) ?_
  rintro _ V60 hV60 ⟨u60, rfl, h60⟩; rw [decide_eq_true m1]; rw [m2] at h60
  refine AtT.zf ?_
  refine AtT.zt ?_
  refine AtT.zt ?_
  refine AtT.ze ?_
  refine AtT.ze ?_
  refine AtT.done ?_
  refine At.nrm ?_
  obtain ⟨a60, c60, rfl, _, _, _, _⟩ := id h60
  have h40' := (h40.le hVV).le hV60
  refine At.zh (.q 0 (.q 1 .done)) ?_
  refine AtT.zf ?_
  refine AtT.qF ?_
  refine AtT.qM (d := 64) rfl ((show (!true) = false from rfl)) ?_
  refine AtT.done ?_
  refine At.nrm ?_
  refine At.qf rfl rfl ?_
  refine At.nrm ?_
  refine At.zh (.q 0 .done) ?_
  refine AtT.ze ?_
  refine AtT.done ?_
  refine At.nrm ?_
  refine At.lp (ι := Nat) (KS := fun k => [(3, .pointer (some ⟨b3, 0, none⟩)), (8, iv d), (9, .slice a40 (Bk.stL st).length c40), (11, .slice a46 (cntI b.es n).length c46), (12, .slice (some ⟨b47, 0, none⟩) 8 8), (13, iv i), (14, .slice a60 (Bk.stL fun y => 1 * ja b.rs i y).length c60), (16, iv k)]) (OS := fun k => [.blk b3 (LC [.slice z0 q0.length y0, .slice a0 b.es.length c0] 26), .blk b47 (LC (stC (mixK (rowJ b.rs st i) (rowJ b.rs st (i + 1)) k)) 2)]) (VS := fun k V' => V' = V60 ∧ k ≤ 8) (μ := fun k => 8 - k) 0 ?_ ?_ ?_ ?_
  ·exact ⟨rfl, rfl, rfl, rfl, rfl, rfl, rfl, rfl, trivial⟩
  ·rw [mix_zero]; exact Pt.zH
  ·exact ⟨rfl, Nat.zero_le _⟩
  rintro k V2 ks' O' ⟨rfl, hkl⟩ hk hO hl2
  subst hk hO
  refine At.nrm ?_
  refine At.zh (.q 0 (.q 1 (.q 2 (.q 3 .done)))) ?_
  refine AtT.zf ?_
  refine AtT.zf ?_
  refine AtT.zN Tryz.underlying28 ?_
  refine AtT.qp ?_
  refine AtT.done ?_
  refine At.nrm ?_
  refine At.zX rfl (fun hp2 => ?_) (fun hp2 => ?_)
  ·have hk8 : k < 8 := by omega
   have hat := mix_cell (rowJ b.rs st i) (rowJ b.rs st (i + 1)) hk8
   have hset := mix_set (rowJ b.rs st i) (rowJ b.rs st (i + 1)) hk8
   rw [rowJ_step] at hset
   have b1 := rowJ_bd hrs hsb (i := i) k (by omega)
   have b2' := prod_bd hrs (hsb i hi8) (by decide) (g := (i : Int)) (by omega) (k : Int)
   have hS : ∀ e, (Bk.stL st)[(i : Int).toNat]? = some e → st i = e := fun e he => by rw [Int.toNat_natCast, stL_at _ hi8] at he; exact Option.some.inj he
   have hQ : ∀ e, (Bk.stL fun y => 1 * ja b.rs i y)[(k : Int).toNat]? = some e → ja b.rs i k = e := fun e he => by rw [Int.toNat_natCast, stL_at _ hk8, Int.one_mul] at he; exact Option.some.inj he
   refine At.nrm ?_
   refine At.draw (.q 0 (.q 1 (.q 2 (.q 3 (.q 4 (.q 5 (.q 6 (.q 7 (.q 8 (.q 9 (.q 10 (.q 11 (.q 12 (.q 13 (.q 14 (.n true 15 .done)))))))))))))))) ffm (by kernel_rfl) ?_
   refine AtT.zf ?_
   refine AtT.zf ?_
   refine AtT.jV rfl trivial Tryz.underlying28 tk2 rfl rfl hk8 (by decide) ?_
   refine AtT.jE rfl trivial rfl tk2 zP.zH hat (by decide) ?_
   refine AtT.zf ?_
   refine AtT.zf ?_
   refine AtT.idx rfl trivial Tryz.underlying28 tk2 rfl h40' rfl (by omega) (by rw [stL_len]; omega) (by decide) ?_
   intro p77 e77 he77 hc77
   obtain rfl := hS _ he77
   first | refine AtT.zm tk2 ?_ | refine AtT.zo tk2 ?_
   refine AtT.zf ?_
   refine AtT.zf ?_
   refine AtT.idx rfl trivial Tryz.underlying28 tk2 rfl h60 rfl (by omega) (by rw [stL_len]; omega) (by decide) ?_
   intro p81 e81 he81 hc81
   obtain rfl := hQ _ he81
   first | refine AtT.zm tk2 ?_ | refine AtT.zo tk2 ?_
   refine AtT.mul rfl trivial rfl rfl (by decide) (Fit.of (by omega) (by omega)) ?_
   refine AtT.add rfl trivial rfl rfl (by decide) (Fit.of (by omega) (by omega)) ?_
   refine AtT.jV rfl trivial Tryz.underlying28 tk2 rfl rfl hk8 (by decide) ?_
   refine AtT.jk rfl trivial rfl rfl tk2 rfl rfl (by repeat first|exact Upd.here|apply Upd.there) (qR (by rw [stC_len]; omega) hset) ?_
   refine AtT.done ?_
   refine At.nrm ?_
   refine At.nrm ?_
   refine At.zh (.q 0 (.q 1 (.q 2 .done))) ?_
   refine AtT.zf ?_
   first | refine AtT.qI ?_ | refine AtT.ql ?_
   refine AtT.ze ?_
   refine AtT.done ?_
   refine At.nrm ?_
   refine At.round (k + 1) ?_ ?_ ?_ ?_
   ·show 8 - (k + 1) < 8 - k; omega
   ·exact ⟨rfl, by omega⟩
   ·exact ⟨rfl, rfl, rfl, rfl, rfl, rfl, rfl, ivs (by omega), trivial⟩
   ·exact Pt.zH
  obtain rfl : k = 8 := by omega
  rw [mix_all]
  refine At.nrm ?_
  refine At.zh (.q 0 (.q 1 (.q 2 .done))) ?_
  refine AtT.zf ?_
  first | refine AtT.qI ?_ | refine AtT.ql ?_
  refine AtT.ze ?_
  refine AtT.done ?_
  refine At.nrm ?_
  refine At.round (i + 1) ?_ ?_ ?_ ?_
  ·show 8 - (i + 1) < 8 - i; omega
  ·exact ⟨hVV.trans hV60, by omega⟩
  ·exact ⟨rfl, rfl, rfl, rfl, rfl, ivs (by omega), trivial⟩
  ·exact Pt.zH
 obtain rfl : i = 8 := by omega
 rw [← rowN_zero b st d n]
 refine At.nrm ?_
 refine At.zh (.q 0 .done) ?_
 refine AtT.ze ?_
 refine AtT.done ?_
 refine At.nrm ?_
 refine At.lp (ι := Nat) (KS := fun i => [(3, .pointer (some ⟨b3, 0, none⟩)), (8, iv d), (11, .slice a46 (cntI b.es n).length c46), (12, .slice (some ⟨b47, 0, none⟩) 8 8), (17, iv i)]) (OS := fun i => [.blk b3 (LC [.slice z0 q0.length y0, .slice a0 b.es.length c0] 26), .blk b47 (LC (stC (rowN b st d n i)) 2)]) (VS := fun i V' => Le V46 V' ∧ i ≤ (cntI b.es n).length) (μ := fun i => (cntI b.es n).length - i) 0 ?_ ?_ ?_ ?_
 ·exact ⟨rfl, rfl, rfl, rfl, rfl, trivial⟩
 ·exact Pt.zH
 ·exact ⟨hVV, Nat.zero_le _⟩
 rintro i V1 ks' O' ⟨hVV, hi⟩ hk hO hl1
 subst hk hO
 have hvr' := hvr.le hVV
 have s0' := s0.le hVV
 have h46' := h46.le hVV
 refine At.nrm ?_
 refine At.zh (.q 0 (.q 1 (.q 2 (.q 3 .done)))) ?_
 refine AtT.zf ?_
 refine AtT.zf ?_
 first | refine AtT.zR Tryz.underlying37 ?_ | refine AtT.zN Tryz.underlying37 ?_
 refine AtT.qp ?_
 refine AtT.done ?_
 refine At.nrm ?_
 refine At.zX rfl (fun hp => ?_) (fun hp => ?_)
 ·obtain ⟨c, hc, hci, hcn⟩ := cntI_at (es := b.es) (n := n) (i := i) (by omega)
  have hP : ∀ e, (cntI b.es n)[(i : Int).toNat]? = some e → (c : Int) = e := fun e he => by rw [Int.toNat_natCast, hci] at he; exact Option.some.inj he
  obtain ⟨e, he⟩ : ∃ e, b.es[c]? = some e := ⟨_, List.getElem?_eq_getElem (by omega)⟩
  have hen := enA_at he
  have hE : ∀ e', b.es[(c : Int).toNat]? = some e' → e = e' := fun e' h => by rw [Int.toNat_natCast, he] at h; exact Option.some.inj h
  have hEg := enG_at hR (c := c) (by omega)
  rw [hen] at hEg
  have hstep : ∀ y : Nat, rowN b st d n (i + 1) y = rowN b st d n i y - netR b.rs d y e := fun y => by rw [rowN_step hc, hen]
  refine At.nrm ?_
  refine At.draw (.q 0 (.q 1 (.q 2 (.q 3 (.q 4 (.q 5 (.q 6 (.q 7 (.n false 8 (.n true 9 .done)))))))))) ffm (by kernel_rfl) ?_
  first | refine AtT.zk zu ?_ | with_reducible refine AtT.zl zu ?_ | refine AtT.zn zu ?_
  first | refine AtT.zm qo ?_ | refine AtT.zo qo ?_
  refine AtT.zf ?_
  refine AtT.zf ?_
  refine AtT.qB Tryz.underlying37 tk3 ?_
  intro p96 e96 he96 hc96
  obtain rfl := hP _ he96
  first | refine AtT.zm tk3 ?_ | refine AtT.zo tk3 ?_
  refine AtT.qB Tryz.underlying24 qD ?_
  intro p98 e98 he98 hc98
  obtain rfl := hE _ he98
  first | refine AtT.zD qD ?_ | refine AtT.zI qD ?_ | refine AtT.zC qD ?_
  refine AtT.zT z36 ?_
  intro b18
  refine AtT.zF qD ?_
  refine AtT.done ?_
  refine At.nrm ?_
  refine At.nrm ?_
  by_cases hsk : d < e.d ∨ ¬ (e.k = 1 ∨ e.k = 2)
  ·have hsame : rowN b st d n (i + 1) = rowN b st d n i := funext fun y => by
    rw [hstep]
    have : netR b.rs d y e = 0 := by
     unfold netR
     rcases hsk with h | h
     ·rw [if_pos h]
     ·split
      ·rfl
      ·rw [if_neg (by omega), if_neg (by omega)]
    omega
   refine At.cutG (ι := Unit) (fun _ => [(3, .pointer (some ⟨b3, 0, none⟩)), (8, iv d), (11, .slice a46 (cntI b.es n).length c46), (12, .slice (some ⟨b47, 0, none⟩) 8 8), (17, iv i), (113, .bool true)]) (fun _ => [.blk b3 (LC [.slice z0 q0.length y0, .slice a0 b.es.length c0] 26), .blk b47 (LC (stC (rowN b st d n i)) 2)]) (fun _ V'' => V'' = V1) ?_ ?_
   ·by_cases hdd : e.d > d
    ·refine At.zh (.q 0 (.q 1 (.q 2 (.q 3 (.q 4 (.q 5 (.q 6 (.q 7 (.q 8 (.q 9 (.q 10 (.q 11 (.q 12 (.q 13 .done)))))))))))))) ?_
     first | refine AtT.zk qd ?_ | with_reducible refine AtT.zl qd ?_ | refine AtT.zn qd ?_
     first | refine AtT.zm tk3 ?_ | refine AtT.zo tk3 ?_
     refine AtT.zf ?_
     refine AtT.qJ ?_
     refine AtT.qm (d := 103) rfl (hdd) ?_
     refine AtT.zf ?_
     all_goals (first | refine AtT.kL 104 ?_ | refine AtT.zA (d := 104) rfl (fun hg104 => ?_) (fun hg104 => ?_) | refine AtT.zz (d := 104) rfl (fun hg104 => ?_) (fun hg104 => ?_))
     all_goals first|refine AtT.zi ?_|refine AtT.zg ?_|(first | refine AtT.zk zy ?_ | with_reducible refine AtT.zl zy ?_ | refine AtT.zn zy ?_)
     all_goals first|refine AtT.zi ?_|refine AtT.zg ?_|(first | refine AtT.zm tk3 ?_ | refine AtT.zo tk3 ?_)
     all_goals first|refine AtT.zi ?_|refine AtT.zg ?_|(refine AtT.qH ?_)
     all_goals first|refine AtT.zi ?_|refine AtT.zg ?_|(refine AtT.zf ?_)
     all_goals (first | refine AtT.kL 108 ?_ | refine AtT.zA (d := 108) rfl (fun hg108 => ?_) (fun hg108 => ?_) | refine AtT.zz (d := 108) rfl (fun hg108 => ?_) (fun hg108 => ?_))
     all_goals first|refine AtT.zi ?_|refine AtT.zg ?_|(first | refine AtT.zk zy ?_ | with_reducible refine AtT.zl zy ?_ | refine AtT.zn zy ?_)
     all_goals first|refine AtT.zi ?_|refine AtT.zg ?_|(first | refine AtT.zm tk3 ?_ | refine AtT.zo tk3 ?_)
     all_goals first|refine AtT.zi ?_|refine AtT.zg ?_|(refine AtT.qH ?_)
     all_goals first|refine AtT.zi ?_|refine AtT.zg ?_|(refine AtT.zB ?_)
     all_goals (refine AtT.zB ?_)
     all_goals refine AtT.done ?_
     all_goals (refine At.nrm ?_)
     all_goals exact At.kC () rfl ⟨rfl, rfl, rfl, rfl, rfl, rfl, trivial⟩ Pt.zH
    ·refine At.zh (.q 0 (.q 1 (.q 2 (.q 3 (.q 4 (.q 5 (.q 6 (.q 7 (.q 8 (.q 9 (.q 10 (.q 11 (.q 12 (.q 13 .done)))))))))))))) ?_
     first | refine AtT.zk qd ?_ | with_reducible refine AtT.zl qd ?_ | refine AtT.zn qd ?_
     first | refine AtT.zm tk3 ?_ | refine AtT.zo tk3 ?_
     refine AtT.zf ?_
     refine AtT.qJ ?_
     refine AtT.zU (d := 103) rfl (hdd) ?_
     refine AtT.zf ?_
     all_goals (first | refine AtT.kL 104 ?_ | refine AtT.zA (d := 104) rfl (fun hg104 => ?_) (fun hg104 => ?_) | refine AtT.zz (d := 104) rfl (fun hg104 => ?_) (fun hg104 => ?_))
     all_goals first|refine AtT.zi ?_|refine AtT.zg ?_|(first | refine AtT.zk zy ?_ | with_reducible refine AtT.zl zy ?_ | refine AtT.zn zy ?_)
     all_goals first|refine AtT.zi ?_|refine AtT.zg ?_|(first | refine AtT.zm tk3 ?_ | refine AtT.zo tk3 ?_)
     all_goals first|refine AtT.zi ?_|refine AtT.zg ?_|(refine AtT.qH ?_)
     all_goals (refine AtT.qm (d := 107) rfl ((by omega)) ?_)
     all_goals first|refine AtT.zi ?_|refine AtT.zg ?_|(refine AtT.zf ?_)
     all_goals (first | refine AtT.kL 108 ?_ | refine AtT.zA (d := 108) rfl (fun hg108 => ?_) (fun hg108 => ?_) | refine AtT.zz (d := 108) rfl (fun hg108 => ?_) (fun hg108 => ?_))
     all_goals first|refine AtT.zi ?_|refine AtT.zg ?_|(first | refine AtT.zk zy ?_ | with_reducible refine AtT.zl zy ?_ | refine AtT.zn zy ?_)
     all_goals first|refine AtT.zi ?_|refine AtT.zg ?_|(first | refine AtT.zm tk3 ?_ | refine AtT.zo tk3 ?_)
     all_goals first|refine AtT.zi ?_|refine AtT.zg ?_|(refine AtT.qH ?_)
     all_goals (refine AtT.qm (d := 111) rfl ((by omega)) ?_)
     all_goals first|refine AtT.zi ?_|refine AtT.zg ?_|(refine AtT.zB ?_)
     all_goals (refine AtT.zB ?_)
     all_goals refine AtT.done ?_
     all_goals (refine At.nrm ?_)
     all_goals exact At.kC () rfl ⟨rfl, rfl, rfl, rfl, rfl, rfl, trivial⟩ Pt.zH
   rintro - Vc ks' O' rfl hk hO hlc
   subst hk hO
   refine At.nrm ?_
   refine At.qb rfl rfl ?_
   refine At.nrm ?_
   refine At.zh (.q 0 (.q 1 (.q 2 .done))) ?_
   refine AtT.zf ?_
   first | refine AtT.qI ?_ | refine AtT.ql ?_
   refine AtT.ze ?_
   refine AtT.done ?_
   refine At.nrm ?_
   refine At.round (i + 1) ?_ ?_ ?_ ?_
   ·show (cntI b.es n).length - (i + 1) < (cntI b.es n).length - i; omega
   ·exact ⟨hVV, by omega⟩
   ·exact ⟨rfl, rfl, rfl, rfl, ivs (by omega), trivial⟩
   ·rw [hsame]; exact Pt.zH
  have hdd : ¬ e.d > d := fun h => hsk (.inl h)
  have hk12 : e.k = 1 ∨ e.k = 2 := Classical.not_not.1 fun h => hsk (.inr h)
  have ht := hEg.t (by omega)
  have hnn := hEg.n (by omega)
  refine At.cutG (ι := Unit) (fun _ => [(3, .pointer (some ⟨b3, 0, none⟩)), (8, iv d), (11, .slice a46 (cntI b.es n).length c46), (12, .slice (some ⟨b47, 0, none⟩) 8 8), (17, iv i), (18, .pointer (some ⟨b18, 0, none⟩)), (113, .bool false)]) (fun _ => [.blk b3 (LC [.slice z0 q0.length y0, .slice a0 b.es.length c0] 26), .blk b47 (LC (stC (rowN b st d n i)) 2), .blk b18 (LC [iv e.d, iv e.k, iv e.t, iv e.n] 36)]) (fun _ V'' => V'' = V1) ?_ ?_
  ·by_cases hk1 : e.k ≠ 1
   ·refine At.zh (.q 0 (.q 1 (.q 2 (.q 3 (.q 4 (.q 5 (.q 6 (.q 7 (.q 8 (.q 9 (.q 10 (.q 11 (.q 12 (.q 13 .done)))))))))))))) ?_
    first | refine AtT.zk qd ?_ | with_reducible refine AtT.zl qd ?_ | refine AtT.zn qd ?_
    first | refine AtT.zm tk3 ?_ | refine AtT.zo tk3 ?_
    refine AtT.zf ?_
    refine AtT.qJ ?_
    refine AtT.zU (d := 103) rfl (hdd) ?_
    refine AtT.zf ?_
    all_goals (first | refine AtT.kL 104 ?_ | refine AtT.zA (d := 104) rfl (fun hg104 => ?_) (fun hg104 => ?_) | refine AtT.zz (d := 104) rfl (fun hg104 => ?_) (fun hg104 => ?_))
    all_goals first|refine AtT.zi ?_|refine AtT.zg ?_|(first | refine AtT.zk zy ?_ | with_reducible refine AtT.zl zy ?_ | refine AtT.zn zy ?_)
    all_goals first|refine AtT.zi ?_|refine AtT.zg ?_|(first | refine AtT.zm tk3 ?_ | refine AtT.zo tk3 ?_)
    all_goals first|refine AtT.zi ?_|refine AtT.zg ?_|(refine AtT.qH ?_)
    all_goals (refine AtT.qm (d := 107) rfl (hk1) ?_)
    all_goals first|refine AtT.zi ?_|refine AtT.zg ?_|(refine AtT.zf ?_)
    all_goals (first | refine AtT.kL 108 ?_ | refine AtT.zA (d := 108) rfl (fun hg108 => ?_) (fun hg108 => ?_) | refine AtT.zz (d := 108) rfl (fun hg108 => ?_) (fun hg108 => ?_))
    all_goals first|refine AtT.zi ?_|refine AtT.zg ?_|(first | refine AtT.zk zy ?_ | with_reducible refine AtT.zl zy ?_ | refine AtT.zn zy ?_)
    all_goals first|refine AtT.zi ?_|refine AtT.zg ?_|(first | refine AtT.zm tk3 ?_ | refine AtT.zo tk3 ?_)
    all_goals first|refine AtT.zi ?_|refine AtT.zg ?_|(refine AtT.qH ?_)
    all_goals (refine AtT.zU (d := 111) rfl ((by omega)) ?_)
    all_goals first|refine AtT.zi ?_|refine AtT.zg ?_|(refine AtT.zB ?_)
    all_goals (refine AtT.zB ?_)
    all_goals refine AtT.done ?_
    all_goals (refine At.nrm ?_)
    all_goals exact At.kC () rfl ⟨rfl, rfl, rfl, rfl, rfl, rfl, rfl, trivial⟩ Pt.zH
   ·refine At.zh (.q 0 (.q 1 (.q 2 (.q 3 (.q 4 (.q 5 (.q 6 (.q 7 (.q 8 (.q 9 (.q 10 (.q 11 (.q 12 (.q 13 .done)))))))))))))) ?_
    first | refine AtT.zk qd ?_ | with_reducible refine AtT.zl qd ?_ | refine AtT.zn qd ?_
    first | refine AtT.zm tk3 ?_ | refine AtT.zo tk3 ?_
    refine AtT.zf ?_
    refine AtT.qJ ?_
    refine AtT.zU (d := 103) rfl (hdd) ?_
    refine AtT.zf ?_
    all_goals (first | refine AtT.kL 104 ?_ | refine AtT.zA (d := 104) rfl (fun hg104 => ?_) (fun hg104 => ?_) | refine AtT.zz (d := 104) rfl (fun hg104 => ?_) (fun hg104 => ?_))
    all_goals first|refine AtT.zi ?_|refine AtT.zg ?_|(first | refine AtT.zk zy ?_ | with_reducible refine AtT.zl zy ?_ | refine AtT.zn zy ?_)
    all_goals first|refine AtT.zi ?_|refine AtT.zg ?_|(first | refine AtT.zm tk3 ?_ | refine AtT.zo tk3 ?_)
    all_goals first|refine AtT.zi ?_|refine AtT.zg ?_|(refine AtT.qH ?_)
    all_goals (refine AtT.zU (d := 107) rfl (hk1) ?_)
    all_goals first|refine AtT.zi ?_|refine AtT.zg ?_|(refine AtT.zf ?_)
    all_goals (first | refine AtT.kL 108 ?_ | refine AtT.zA (d := 108) rfl (fun hg108 => ?_) (fun hg108 => ?_) | refine AtT.zz (d := 108) rfl (fun hg108 => ?_) (fun hg108 => ?_))
    all_goals first|refine AtT.zi ?_|refine AtT.zg ?_|(first | refine AtT.zk zy ?_ | with_reducible refine AtT.zl zy ?_ | refine AtT.zn zy ?_)
    all_goals first|refine AtT.zi ?_|refine AtT.zg ?_|(first | refine AtT.zm tk3 ?_ | refine AtT.zo tk3 ?_)
    all_goals first|refine AtT.zi ?_|refine AtT.zg ?_|(refine AtT.qH ?_)
    all_goals first|refine AtT.zi ?_|refine AtT.zg ?_|(refine AtT.zB ?_)
    all_goals (refine AtT.zB ?_)
    all_goals refine AtT.done ?_
    all_goals (refine At.nrm ?_)
    all_goals exact At.kC () rfl ⟨rfl, rfl, rfl, rfl, rfl, rfl, rfl, trivial⟩ Pt.zH
  rintro - Vc ks' O' rfl hk hO hlc
  subst hk hO
  refine At.nrm ?_
  refine At.qf rfl rfl ?_
  refine At.nrm ?_
  obtain ⟨m1, m2⟩ := raw_ok hR.cr (g := e.t) (c := e.n) ht (by omega)
  refine At.zh (.q 0 (.q 1 (.q 2 (.q 3 (.q 4 (.q 5 (.n false 6 (.q 7 (.q 8 (.q 9 (.q 10 (.q 11 .done)))))))))))) ?_
  first | refine AtT.zk zw ?_ | with_reducible refine AtT.zl zw ?_ | refine AtT.zn zw ?_
  first | refine AtT.zm qy ?_ | refine AtT.zo qy ?_
  first | refine AtT.zk zJ ?_ | with_reducible refine AtT.zl zJ ?_ | refine AtT.zn zJ ?_
  first | refine AtT.zm tk3 ?_ | refine AtT.zo tk3 ?_
  first | refine AtT.zk zO ?_ | with_reducible refine AtT.zl zO ?_ | refine AtT.zn zO ?_
  first | refine AtT.zm tk2 ?_ | refine AtT.zo tk2 ?_
  refine AtT.qa rfl rfl ok47 (made_f b.rs e.t e.n _ _ hvr') ?_
  rintro _ V121 hV121 ⟨u121, rfl, h121⟩; rw [decide_eq_true m1]; rw [m2] at h121
  refine AtT.zf ?_
  refine AtT.zt ?_
  refine AtT.zt ?_
  refine AtT.ze ?_
  refine AtT.ze ?_
  refine AtT.done ?_
  refine At.nrm ?_
  obtain ⟨a121, c121, rfl, _, _, _, _⟩ := id h121
  refine At.zh (.q 0 (.q 1 .done)) ?_
  refine AtT.zf ?_
  refine AtT.qF ?_
  refine AtT.qM (d := 125) rfl ((show (!true) = false from rfl)) ?_
  refine AtT.done ?_
  refine At.nrm ?_
  refine At.qf rfl rfl ?_
  refine At.nrm ?_
  refine At.zh (.q 0 .done) ?_
  refine AtT.ze ?_
  refine AtT.done ?_
  refine At.nrm ?_
  refine At.lp (ι := Nat) (KS := fun k => [(3, .pointer (some ⟨b3, 0, none⟩)), (8, iv d), (11, .slice a46 (cntI b.es n).length c46), (12, .slice (some ⟨b47, 0, none⟩) 8 8), (17, iv i), (18, .pointer (some ⟨b18, 0, none⟩)), (19, .slice a121 (Bk.stL fun y => e.n * ja b.rs e.t y).length c121), (21, iv k)]) (OS := fun k => [.blk b3 (LC [.slice z0 q0.length y0, .slice a0 b.es.length c0] 26), .blk b47 (LC (stC (mixK (rowN b st d n i) (rowN b st d n (i + 1)) k)) 2), .blk b18 (LC [iv e.d, iv e.k, iv e.t, iv e.n] 36)]) (VS := fun k V' => V' = V121 ∧ k ≤ 8) (μ := fun k => 8 - k) 0 ?_ ?_ ?_ ?_
  ·exact ⟨rfl, rfl, rfl, rfl, rfl, rfl, rfl, rfl, trivial⟩
  ·rw [mix_zero]; exact Pt.zH
  ·exact ⟨rfl, Nat.zero_le _⟩
  rintro k V2 ks' O' ⟨rfl, hkl⟩ hk hO hl2
  subst hk hO
  refine At.nrm ?_
  refine At.zh (.q 0 (.q 1 (.q 2 (.q 3 .done)))) ?_
  refine AtT.zf ?_
  refine AtT.zf ?_
  refine AtT.zN Tryz.underlying28 ?_
  refine AtT.qp ?_
  refine AtT.done ?_
  refine At.nrm ?_
  refine At.zX rfl (fun hp2 => ?_) (fun hp2 => ?_)
  ·have hk8 : k < 8 := by omega
   have hat := mix_cell (rowN b st d n i) (rowN b st d n (i + 1)) hk8
   have hset := mix_set (rowN b st d n i) (rowN b st d n (i + 1)) hk8
   have b1 := rowN_bd hR hsb (day := d) hn k (i := i) (by simpa using hi)
   have b2' := prod_bd hrs (a := e.n) (m := 1000) (by omega) (by decide) (g := e.t) ht.2 (k : Int)
   have hQ : ∀ e', (Bk.stL fun y => e.n * ja b.rs e.t y)[(k : Int).toNat]? = some e' → e.n * ja b.rs e.t k = e' := fun e' he' => by rw [Int.toNat_natCast, stL_at _ hk8] at he'; exact Option.some.inj he'
   have hi24 : (i : Int) ≤ 24 := by simp at hi; omega
   refine At.nrm ?_
   by_cases hk1 : e.k = 1
   ·have hB : rowN b st d n (i + 1) k = rowN b st d n i k - e.n * ja b.rs e.t k := by
     rw [hstep]; unfold netR; rw [if_neg (by omega), if_pos hk1]
    rw [hB] at hset
    refine At.zh (.q 0 (.q 1 (.q 2 .done))) ?_
    first | refine AtT.zk zy ?_ | with_reducible refine AtT.zl zy ?_ | refine AtT.zn zy ?_
    first | refine AtT.zm tk3 ?_ | refine AtT.zo tk3 ?_
    refine AtT.qK ?_
    refine AtT.qm (d := 134) rfl (hk1) ?_
    refine AtT.done ?_
    refine At.nrm ?_
    refine At.qb rfl rfl ?_
    refine At.nrm ?_
    refine At.draw (.q 0 (.q 1 (.q 2 (.q 3 (.q 4 (.q 5 (.q 6 (.q 7 (.q 8 (.q 9 (.n true 10 .done))))))))))) ffm (by kernel_rfl) ?_
    refine AtT.zf ?_
    refine AtT.zf ?_
    refine AtT.jV rfl trivial Tryz.underlying28 tk2 rfl rfl hk8 (by decide) ?_
    refine AtT.jE rfl trivial rfl tk2 zP.zH hat (by decide) ?_
    refine AtT.zf ?_
    refine AtT.zf ?_
    refine AtT.idx rfl trivial Tryz.underlying28 tk2 rfl h121 rfl (by omega) (by rw [stL_len]; omega) (by decide) ?_
    intro p141 e141 he141 hc141
    obtain rfl := hQ _ he141
    first | refine AtT.zm tk2 ?_ | refine AtT.zo tk2 ?_
    refine AtT.subt rfl trivial rfl rfl (by decide) (Fit.of (by omega) (by omega)) ?_
    refine AtT.jV rfl trivial Tryz.underlying28 tk2 rfl rfl hk8 (by decide) ?_
    refine AtT.jk rfl trivial rfl rfl tk2 rfl rfl (by repeat first|exact Upd.here|apply Upd.there) (qR (by rw [stC_len]; omega) hset) ?_
    refine AtT.done ?_
    refine At.nrm ?_
    refine At.nrm ?_
    refine At.zh (.q 0 (.q 1 (.q 2 .done))) ?_
    refine AtT.zf ?_
    first | refine AtT.qI ?_ | refine AtT.ql ?_
    refine AtT.ze ?_
    refine AtT.done ?_
    refine At.nrm ?_
    refine At.round (k + 1) ?_ ?_ ?_ ?_
    ·show 8 - (k + 1) < 8 - k; omega
    ·exact ⟨rfl, by omega⟩
    ·exact ⟨rfl, rfl, rfl, rfl, rfl, rfl, rfl, ivs (by omega), trivial⟩
    ·exact Pt.zH
   ·have hB : rowN b st d n (i + 1) k = rowN b st d n i k + e.n * ja b.rs e.t k := by
     rw [hstep]; unfold netR; rw [if_neg (by omega), if_neg hk1, if_pos (by omega)]; omega
    rw [hB] at hset
    refine At.zh (.q 0 (.q 1 (.q 2 .done))) ?_
    first | refine AtT.zk zy ?_ | with_reducible refine AtT.zl zy ?_ | refine AtT.zn zy ?_
    first | refine AtT.zm tk3 ?_ | refine AtT.zo tk3 ?_
    refine AtT.qK ?_
    refine AtT.zU (d := 134) rfl (hk1) ?_
    refine AtT.done ?_
    refine At.nrm ?_
    refine At.qf rfl rfl ?_
    refine At.nrm ?_
    refine At.draw (.q 0 (.q 1 (.q 2 (.q 3 (.q 4 (.q 5 (.q 6 (.q 7 (.q 8 (.q 9 (.n true 10 .done))))))))))) ffm (by kernel_rfl) ?_
    refine AtT.zf ?_
    refine AtT.zf ?_
    refine AtT.jV rfl trivial Tryz.underlying28 tk2 rfl rfl hk8 (by decide) ?_
    refine AtT.jE rfl trivial rfl tk2 zP.zH hat (by decide) ?_
    refine AtT.zf ?_
    refine AtT.zf ?_
    refine AtT.idx rfl trivial Tryz.underlying28 tk2 rfl h121 rfl (by omega) (by rw [stL_len]; omega) (by decide) ?_
    intro p151 e151 he151 hc151
    obtain rfl := hQ _ he151
    first | refine AtT.zm tk2 ?_ | refine AtT.zo tk2 ?_
    refine AtT.add rfl trivial rfl rfl (by decide) (Fit.of (by omega) (by omega)) ?_
    refine AtT.jV rfl trivial Tryz.underlying28 tk2 rfl rfl hk8 (by decide) ?_
    refine AtT.jk rfl trivial rfl rfl tk2 rfl rfl (by repeat first|exact Upd.here|apply Upd.there) (qR (by rw [stC_len]; omega) hset) ?_
    refine AtT.done ?_
    refine At.nrm ?_
    refine At.nrm ?_
    refine At.zh (.q 0 (.q 1 (.q 2 .done))) ?_
    refine AtT.zf ?_
    first | refine AtT.qI ?_ | refine AtT.ql ?_
    refine AtT.ze ?_
    refine AtT.done ?_
    refine At.nrm ?_
    refine At.round (k + 1) ?_ ?_ ?_ ?_
    ·show 8 - (k + 1) < 8 - k; omega
    ·exact ⟨rfl, by omega⟩
    ·exact ⟨rfl, rfl, rfl, rfl, rfl, rfl, rfl, ivs (by omega), trivial⟩
    ·exact Pt.zH
  obtain rfl : k = 8 := by omega
  rw [mix_all]
  refine At.nrm ?_
  refine At.zh (.q 0 (.q 1 (.q 2 .done))) ?_
  refine AtT.zf ?_
  first | refine AtT.qI ?_ | refine AtT.ql ?_
  refine AtT.ze ?_
  refine AtT.done ?_
  refine At.nrm ?_
  refine At.round (i + 1) ?_ ?_ ?_ ?_
  ·show (cntI b.es n).length - (i + 1) < (cntI b.es n).length - i; omega
  ·exact ⟨hVV.trans hV121, by omega⟩
  ·exact ⟨rfl, rfl, rfl, rfl, ivs (by omega), trivial⟩
  ·exact Pt.zH
 obtain rfl : i = (cntS b.es n).length := by simp at hi hp; omega
 refine At.nrm ?_
 refine At.zh (.q 0 .done) ?_
 refine AtT.ze ?_
 refine AtT.done ?_
 refine At.nrm ?_
 refine At.lp (ι := Nat) (KS := fun k => [(12, .slice (some ⟨b47, 0, none⟩) 8 8), (22, iv k)]) (OS := fun k => [.blk b47 (LC (stC (rowN b st d n (cntS b.es n).length)) 2)]) (VS := fun k V' => V' = V1 ∧ k ≤ 8) (μ := fun k => 8 - k) 0 ?_ ?_ ?_ ?_
 ·exact ⟨rfl, rfl, trivial⟩
 ·exact Pt.zH
 ·exact ⟨rfl, Nat.zero_le _⟩
 rintro k V2 ks' O' ⟨rfl, hkl⟩ hk hO hl2
 subst hk hO
 refine At.nrm ?_
 refine At.zh (.q 0 (.q 1 (.q 2 (.q 3 .done)))) ?_
 refine AtT.zf ?_
 refine AtT.zf ?_
 refine AtT.zN Tryz.underlying28 ?_
 refine AtT.qp ?_
 refine AtT.done ?_
 refine At.nrm ?_
 refine At.zX rfl (fun hp2 => ?_) (fun hp2 => ?_)
 ·have hk8 : k < 8 := by omega
  have hat : (stC (rowN b st d n (cntS b.es n).length))[k * 1]? = some (iv 0) := by rw [Nat.mul_one, stC_at _ hk8, rowN_end hR hn hst]
  refine At.nrm ?_
  refine At.zh (.q 0 (.q 1 (.q 2 (.q 3 (.q 4 .done))))) ?_
  refine AtT.zf ?_
  refine AtT.zf ?_
  refine AtT.jV rfl trivial Tryz.underlying28 tk2 rfl rfl hk8 (by decide) ?_
  refine AtT.jE rfl trivial rfl tk2 zP.zH hat (by decide) ?_
  refine AtT.qH ?_
  refine AtT.zU (d := 165) rfl ((fun h => h rfl)) ?_
  refine AtT.done ?_
  refine At.nrm ?_
  refine At.qf rfl rfl ?_
  refine At.nrm ?_
  refine At.zh (.q 0 (.q 1 (.q 2 .done))) ?_
  refine AtT.zf ?_
  first | refine AtT.qI ?_ | refine AtT.ql ?_
  refine AtT.ze ?_
  refine AtT.done ?_
  refine At.nrm ?_
  refine At.round (k + 1) ?_ ?_ ?_ ?_
  ·show 8 - (k + 1) < 8 - k; omega
  ·exact ⟨rfl, by omega⟩
  ·exact ⟨rfl, ivs (by omega), trivial⟩
  ·exact Pt.zH
 refine At.nrm ?_
 refine At.zh (.n false 0 (.q 1 .done)) ?_
 refine AtT.zG rfl rfl ok17 (works_f _ (hg.le hVV)) ?_
 rintro _ rfl
 refine AtT.ze ?_
 refine AtT.done ?_
 refine At.nrm ?_
 exact At.qi rfl (.tmp rfl) rfl
end Go.Proofs.YtpoignmclfdgpaaGreatDoor
