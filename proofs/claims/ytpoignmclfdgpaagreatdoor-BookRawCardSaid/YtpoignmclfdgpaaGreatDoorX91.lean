/- Texts that the last one of this claim imports. -/
import Derived.Test.YtpoignmclfdgpaaGreatDoorB6
set_option linter.unusedVariables false
set_option linter.unusedSimpArgs false
set_option linter.unusedSectionVars false

set_option linter.unusedVariables false
namespace Go.Bk
open Go.Lw Go.Gl
theorem goneK_congr {es es' : List En} {first : Nat} (h : ∀ i, i < first → enA es i = enA es' i) : ∀ {k : Nat} {s : Nat}, k ≤ first → qW es first k s = qW es' first k s
 | 0, s, _ => rfl
 | k + 1, s, hk => by
  simp only [qW]
  rw [goneK_congr h (k := k) (s := s) (by omega), goneK_congr h (k := k) (s := first - 1 - k) (by omega), h (first - 1 - k) (by omega)]
theorem cntS_congr {es es' : List En} {first : Nat} (h : ∀ i, i < first → enA es i = enA es' i) : cntS es first = cntS es' first := by
 unfold cntS gone
 exact List.filter_congr fun i _ => by rw [goneK_congr h (Nat.le_refl _)]
theorem runS_congr {rs : List Rc} {es es' : List En} {first : Nat} (h : ∀ i, i < first → enA es i = enA es' i) (day : Int) : runS rs es first day = runS rs es' first day := by
 unfold runS
 rw [cntS_congr h, List.map_congr_left fun i hi => h i (cntS_lt hi)]
theorem enA_take {es : List En} {i n : Nat} (h : i < n) : enA (es.take n) i = enA es i := by
 unfold enA List.getD; rw [List.getElem?_take, if_pos h]
def lastD (last : Int) : List En → Int
 | [] => last
 | e :: es => lastD e.d es
theorem ens_take {rs : List Rc} : ∀ {es : List En} {index last : Int} (n : Nat), EnsOk rs index last es → EnsOk rs index last (es.take n)
 | [], _, _, n, h => by rw [List.take_nil]; exact h
 | e :: es, _, _, 0, h => .nil _ _
 | e :: es, _, _, n + 1, h => by
  cases h with
  | cons h1 h2 => exact .cons h1 (ens_take n h2)
theorem lastD_bd {rs : List Rc} : ∀ {es : List En} {index last : Int}, EnsOk rs index last es → (0 ≤ last ∧ last ≤ 999) → 0 ≤ lastD last es ∧ lastD last es ≤ 999
 | [], _, _, _, h => h
 | e :: es, _, _, h, hl => by
  cases h with
  | cons h1 h2 => show 0 ≤ lastD e.d es ∧ lastD e.d es ≤ 999; exact lastD_bd h2 h1.d
theorem Right.ens {b : Bo} (h : Right b) : EnsOk b.rs 0 0 b.es := entsE_iff.1 h.en
theorem Right.last {b : Bo} (h : Right b) : 0 ≤ lastD 0 b.es ∧ lastD 0 b.es ≤ 999 := lastD_bd h.ens (by decide)
theorem Right.take {b : Bo} (h : Right b) (n : Nat) : Right ⟨b.rs, b.es.take n⟩ := by
 refine ⟨h.cr, ?_, entsE_iff.2 (ens_take n h.ens), fun k hk => ?_⟩
 ·have := h.len; simp only [List.length_take]; omega
 ·simp only [List.length_take] at hk
  show (runS b.rs (b.es.take n) (k + 1) 999).isSome = true
  rw [runS_congr (es' := b.es) (fun i hi => enA_take (by omega))]
  exact h.run k (by omega)
end Go.Bk
set_option linter.unusedVariables false
namespace Go.Bk
open Go.Lw Go.Gl
theorem rawO_zero {rs : List Rc} (h : qE (-1) rs) {x : Int} (hx : partsOf rs x ≠ []) : ∀ (n : Nat) {g : Int}, g < n → g ≤ 7 → ja rs g x = 0
 | n, g, h1, h2 => by
  by_cases hp : partsOf rs g = []
  ·rw [rawO_raw hp, if_neg]
   intro e; subst e; exact hx hp
  ·rw [rawO_made h h2 hp]
   have e : ((partsOf rs g).map fun p => p.n * ja rs p.t x).sum = ((partsOf rs g).map fun p => (0 : Int) * p.n).sum := sum_congr fun p hpm => by
    have hi := qj h hpm
    cases n with
    | zero => omega
    | succ m => rw [rawO_zero h hx m (g := p.t) (by omega) (by omega), Int.mul_zero, Int.zero_mul]
   rw [e, sum_mul, Int.zero_mul]
def netR (rs : List Rc) (day : Int) (y : Int) (e : En) : Int := if day < e.d then 0 else if e.k = 1 then e.n * ja rs e.t y else if e.k = 2 then - (e.n * ja rs e.t y) else 0
theorem kept {b : Bo} (hb : Right b) {first : Nat} (hf : first ≤ b.es.length) {day : Int} {st : Nat → Int} (hst : runS b.rs b.es first day = some st) (y : Nat) :
  ji st (fun s => ja b.rs s y) 8 = ((cntS b.es first).map fun i => netR b.rs day y (enA b.es i)).sum := by
 have hg := hb.bog
 have hin : ∀ e ∈ (cntS b.es first).map (enA b.es), ∃ k l, EnOk b.rs e k l := fun e he => by
  obtain ⟨i, hi, rfl⟩ := List.mem_map.1 he
  have hx := List.getElem?_eq_getElem (l := b.es) (i := i) (by have := cntS_lt hi; omega)
  rw [enA_at hx]
  obtain ⟨l, h1, _⟩ := ensOk_at hb.ens hx
  exact ⟨_, l, h1⟩
 unfold runS at hst
 rw [run_dot hg.rs (r := fun s => ja b.rs s y) (fun e he h4 => by
  obtain ⟨k, l, h⟩ := hin e he
  exact ⟨(h.th h4).1, (h.th h4).2.1⟩) hst, dot_zero, Int.zero_add, List.map_map]
 refine sum_congr fun i hi => ?_
 obtain ⟨k, l, h⟩ := hin _ (List.mem_map.2 ⟨i, hi, rfl⟩)
 show (if day < (enA b.es i).d then 0 else addR (enA b.es i) (fun s => ja b.rs s y) - takeR b.rs (enA b.es i) (fun s => ja b.rs s y)) = netR b.rs day y (enA b.es i)
 generalize enA b.es i = e at h
 show (if day < e.d then 0 else addR e (fun s => ja b.rs s y) - takeR b.rs e (fun s => ja b.rs s y)) = netR b.rs day y e
 unfold netR addR takeR
 have hk := h.k
 by_cases hd : day < e.d
 ·rw [if_pos hd, if_pos hd]
 rw [if_neg hd, if_neg hd]
 have ht : e.k ≠ 4 → ((e.t.toNat : Nat) : Int) = e.t := fun h4 => Int.toNat_of_nonneg (h.th h4).1
 by_cases k1 : e.k = 1
 ·rw [if_pos (.inl k1), if_neg (by omega), if_neg (by omega), if_pos k1]
  dsimp only
  rw [ht (by omega)]; omega
 by_cases k2 : e.k = 2
 ·rw [if_neg (by omega), if_pos k2, if_neg k1, if_pos k2]
  dsimp only
  rw [ht (by omega)]; omega
 by_cases k3 : e.k = 3
 ·rw [if_pos (.inr k3), if_neg k2, if_pos k3, if_neg k1, if_neg k2]
  dsimp only
  rw [ht (by omega), rawO_made hg.rs (h.th (by omega)).2.1 (h.made k3)]
  have e1 : ((partsOf b.rs e.t).map fun p => e.n * p.n * ja b.rs (p.t.toNat : Int) y).sum = ((partsOf b.rs e.t).map fun p => e.n * (p.n * ja b.rs p.t y)).sum := sum_congr fun p hp => by
   have := qj hg.rs hp
   rw [Int.toNat_of_nonneg this.1, Int.mul_assoc]
  rw [e1, sum_mul]; omega
 ·rw [if_neg (by omega), if_neg k2, if_neg k3, if_neg k1, if_neg k2]; rfl
end Go.Bk
set_option linter.unusedVariables false
namespace Go.Proofs.YtpoignmclfdgpaaGreatDoor
open Go.Lw Go.Gl Go.Bk Go.RowKit
abbrev bX (b : Bo) (e : En) : Bo := withB b e
abbrev bY (b : Bo) (e : En) : Bo := withB (bX b e) ⟨e.d, 4, b.es.length, 0⟩
abbrev bZ (b : Bo) (e : En) : Bo := withB (bY b e) ⟨e.d, 4, (b.es.length : Int) + 1, 0⟩
structure TkL (b : Bo) (e : En) (d : Int) : Prop where
 y : bkE (bY b e) = 0
 z : bkE (bZ b e) = 0
 k1 : kg b b.es.length d = 0
 k2 : kg (bX b e) ((b.es.length : Int) + 1) d = 0
 k3 : kg (bY b e) ((b.es.length : Int) + 2) d = 0
 k4 : kg (bZ b e) ((b.es.length : Int) + 3) d = 0
 k5 : kg (bZ b e) b.es.length d = 0
 k6 : kg (bZ b e) ((b.es.length : Int) + 2) d = 0
 l1 : jZ b b.es.length d = jZ (bY b e) ((b.es.length : Int) + 2) d
 l2 : jZ (bX b e) ((b.es.length : Int) + 1) d = jZ (bZ b e) ((b.es.length : Int) + 3) d
 l3 : jZ b b.es.length d = jZ (bZ b e) b.es.length d
 l4 : jZ (bZ b e) ((b.es.length : Int) + 2) d = jZ (bY b e) ((b.es.length : Int) + 2) d
end Go.Proofs.YtpoignmclfdgpaaGreatDoor
set_option linter.unusedVariables false
namespace Go.Proofs.YtpoignmclfdgpaaGreatDoor
open Go.Lw Go.Gl Go.Bk Go.RowKit
theorem first_of {x : Int} (h : 0 ≤ x ∧ x ≤ 255) (n : Nat) : ∃ f : Nat, f ≤ n ∧ x.tmod ((n : Int) + 1) = (f : Int) := by
 have h1 := Int.emod_nonneg x (show ((n : Int) + 1) ≠ 0 by omega)
 have h2 := Int.emod_lt_of_pos x (show 0 < ((n : Int) + 1) by omega)
 exact ⟨(x % ((n : Int) + 1)).toNat, by omega, by rw [Int.tmod_eq_emod_of_nonneg h.1, Int.toNat_of_nonneg h1]⟩
theorem wrap_u8 {x : Int} (h : 0 ≤ x ∧ x ≤ 255) : IntKind.i64.wrap x = x := wrap_fit (Fit.of (by omega) (by omega))
end Go.Proofs.YtpoignmclfdgpaaGreatDoor


set_option linter.unusedVariables false
namespace Go.Bk
open Go.Lw Go.Gl
def mixK (A B : Nat → Int) (k : Nat) : Nat → Int := fun y => if y < k then B y else A y
theorem mix_zero (A B : Nat → Int) : mixK A B 0 = A := by funext y; simp [mixK]
theorem mix_all (A B : Nat → Int) : stC (mixK A B 8) = stC B := stC_ext fun s hs => by unfold mixK; rw [if_pos hs]
theorem mix_at (A B : Nat → Int) (k : Nat) : mixK A B k k = A k := by unfold mixK; rw [if_neg (Nat.lt_irrefl k)]
theorem mix_cell (A B : Nat → Int) {k : Nat} (h : k < 8) : (stC (mixK A B k))[k * 1]? = some (iv (A k)) := by rw [Nat.mul_one, stC_at _ h, mix_at]
theorem mix_set (A B : Nat → Int) {k : Nat} (h : k < 8) : (stC (mixK A B k)).set (k * 1) (iv (B k)) = stC (mixK A B (k + 1)) := by
 rw [Nat.mul_one, jL _ _ h]
 refine stC_ext fun s hs => ?_
 rw [qO]
 unfold mixK
 by_cases e : s = k
 ·subst e; simp
 ·rw [if_neg e]
  by_cases c : s < k
  ·rw [if_pos c, if_pos (by omega)]
  ·rw [if_neg c, if_neg (by omega)]
theorem stC_len (f : Nat → Int) : (stC f).length = 8 := rfl
theorem prod_bd {rs : List Rc} (h : qE (-1) rs) {a m : Int} (ha : 0 ≤ a ∧ a ≤ m) (hm : 0 ≤ m) {g : Int} (hg : g ≤ 7) (y : Int) : 0 ≤ a * ja rs g y ∧ a * ja rs g y ≤ m * 10460353203 := by
 have hr := rawO_bd h hg y
 exact ⟨Int.mul_nonneg ha.1 hr.1, Int.mul_le_mul ha.2 hr.2 hr.1 hm⟩
end Go.Bk
set_option linter.unusedVariables false
namespace Go.Proofs.YtpoignmclfdgpaaGreatDoor
open Go.Lw Go.Gl Go.Bk Go.RowKit
theorem raw_ok {rs : List Rc} (h : crE rs = 0) {g c : Int} (hg : 0 ≤ g ∧ g ≤ 7) (hc : 0 ≤ c ∧ c ≤ 1000) : ko rs g c = 0 ∧ kE rs g c = stL fun y => c * ja rs g y := by
 have hE : ko rs g c = 0 := by unfold ko; rw [if_neg (by rw [h]; simp), if_neg (by omega), if_neg (by omega)]
 exact ⟨hE, by unfold kE; rw [if_neg (by rw [hE]; simp)]⟩
theorem stL_len (f : Nat → Int) : (Bk.stL f).length = 8 := rfl
end Go.Proofs.YtpoignmclfdgpaaGreatDoor
set_option linter.unusedVariables false
namespace Go.Proofs.YtpoignmclfdgpaaGreatDoor
open Go.Lw Go.Gl Go.Bk Go.RowKit
theorem u16_of {o m : Int} (ho : 0 ≤ o ∧ o ≤ 65535) (hm : 1 ≤ m) : ∃ a : Int, (0 ≤ a ∧ a ≤ m - 1) ∧ o.tmod m = a := by
 have h1 := Int.emod_nonneg o (show m ≠ 0 by omega)
 have h2 := Int.emod_lt_of_pos o (show 0 < m by omega)
 exact ⟨o.tmod m, by rw [Int.tmod_eq_emod_of_nonneg ho.1]; omega, rfl⟩
set_option maxHeartbeats 1600000 in
theorem bookRaw_f (rs : List Rc) (x8 o t : Int) (hx8 : 0 ≤ x8 ∧ x8 ≤ 255) (ho : 0 ≤ o ∧ o ≤ 65535) (ht : 0 ≤ t ∧ t ≤ 65535) (V : View) (hg : GvV V) (v : Value) (hv : RsV V v rs) : Fnc Tryz.prog 11 [v, .int .u8 x8, .int .u16 o, .int .u16 t] V fun r _ => r = .bool true := by
 obtain ⟨qs, a0, c0, e0, rfl, i0, j0⟩ := id hv
 clear e0 i0 j0
 refine qh Tryz.func11 rfl Tryz.ntmps11 (Nat.le_of_ble_eq_true rfl) ?_
 intro w0 hw0
 refine At.nrm ?_
 refine At.zh (.q 0 .done) ?_
 refine AtT.ze ?_
 refine AtT.done ?_
 refine At.nrm ?_
 by_cases g1 : grB ⟨rs, []⟩ = true
 ·refine At.zh (.q 0 (.q 1 (.n false 2 (.q 3 (.q 4 (.n false 5 (.q 6 (.q 7 .done)))))))) ?_
  refine AtT.zf ?_
  refine AtT.qG (bd26_0 _ _ _) ?_
  refine AtT.zG rfl rfl ok16 (great_f ⟨rs, []⟩ _ _ ⟨_, none, 0, rfl, hv, Sl.nil _ _ _⟩) ?_
  rintro _ rfl
  refine AtT.qM (d := 27) rfl (g1) ?_
  refine AtT.zf ?_
  all_goals (first | refine AtT.kL 28 ?_ | refine AtT.zA (d := 28) rfl (fun hg28 => ?_) (fun hg28 => ?_) | refine AtT.zz (d := 28) rfl (fun hg28 => ?_) (fun hg28 => ?_))
  all_goals first|refine AtT.zi ?_|refine AtT.zg ?_|(refine AtT.zf ?_)
  all_goals first|refine AtT.qg ?_|refine AtT.zW ?_|((fail))
  all_goals first|refine AtT.zi ?_|refine AtT.zg ?_|(refine AtT.qH ?_)
  all_goals (refine AtT.zB ?_)
  all_goals refine AtT.done ?_
  all_goals (refine At.nrm ?_)
  all_goals refine At.qb rfl rfl ?_
  refine At.nrm ?_
  refine At.zh (.n false 0 (.q 1 .done)) ?_
  refine AtT.zG rfl rfl ok17 (works_f _ hg) ?_
  rintro _ rfl
  refine AtT.ze ?_
  refine AtT.done ?_
  refine At.nrm ?_
  exact At.qi rfl (.tmp rfl) rfl
 have g1' : grB ⟨rs, []⟩ = false := by simpa using g1
 by_cases hcr : crE rs = 0
 rotate_left
 ·refine At.zh (.q 0 (.q 1 (.n false 2 (.q 3 (.q 4 (.n false 5 (.q 6 (.q 7 .done)))))))) ?_
  refine AtT.zf ?_
  refine AtT.qG (bd26_0 _ _ _) ?_
  refine AtT.zG rfl rfl ok16 (great_f ⟨rs, []⟩ _ _ ⟨_, none, 0, rfl, hv, Sl.nil _ _ _⟩) ?_
  rintro _ rfl
  refine AtT.qM (d := 27) rfl (g1') ?_
  refine AtT.zf ?_
  all_goals (first | refine AtT.kL 28 ?_ | refine AtT.zA (d := 28) rfl (fun hg28 => ?_) (fun hg28 => ?_) | refine AtT.zz (d := 28) rfl (fun hg28 => ?_) (fun hg28 => ?_))
  all_goals first|refine AtT.zi ?_|refine AtT.zg ?_|(refine AtT.zf ?_)
  all_goals first|refine AtT.qg ?_|refine AtT.zW ?_|((refine AtT.zG rfl rfl ok21 (jW rs _ _ hv) ?_) ; (rintro _ rfl))
  all_goals first|refine AtT.zi ?_|refine AtT.zg ?_|(refine AtT.qH ?_)
  all_goals (refine AtT.qm (d := 31) rfl (hcr) ?_)
  all_goals (refine AtT.zB ?_)
  all_goals refine AtT.done ?_
  all_goals (refine At.nrm ?_)
  all_goals refine At.qb rfl rfl ?_
  refine At.nrm ?_
  refine At.zh (.n false 0 (.q 1 .done)) ?_
  refine AtT.zG rfl rfl ok17 (works_f _ hg) ?_
  rintro _ rfl
  refine AtT.ze ?_
  refine AtT.done ?_
  refine At.nrm ?_
  exact At.qi rfl (.tmp rfl) rfl
 refine At.zh (.q 0 (.q 1 (.n false 2 (.q 3 (.q 4 (.n false 5 (.q 6 (.q 7 .done)))))))) ?_
 refine AtT.zf ?_
 refine AtT.qG (bd26_0 _ _ _) ?_
 refine AtT.zG rfl rfl ok16 (great_f ⟨rs, []⟩ _ _ ⟨_, none, 0, rfl, hv, Sl.nil _ _ _⟩) ?_
 rintro _ rfl
 refine AtT.qM (d := 27) rfl (g1') ?_
 refine AtT.zf ?_
 all_goals (first | refine AtT.kL 28 ?_ | refine AtT.zA (d := 28) rfl (fun hg28 => ?_) (fun hg28 => ?_) | refine AtT.zz (d := 28) rfl (fun hg28 => ?_) (fun hg28 => ?_))
 all_goals first|refine AtT.zi ?_|refine AtT.zg ?_|(refine AtT.zf ?_)
 all_goals first|refine AtT.qg ?_|refine AtT.zW ?_|((refine AtT.zG rfl rfl ok21 (jW rs _ _ hv) ?_) ; (rintro _ rfl))
 all_goals first|refine AtT.zi ?_|refine AtT.zg ?_|(refine AtT.qH ?_)
 all_goals (refine AtT.zU (d := 31) rfl ((fun h => h hcr)) ?_)
 all_goals (refine AtT.zB ?_)
 all_goals refine AtT.done ?_
 all_goals (refine At.nrm ?_)
 all_goals refine At.qf rfl rfl ?_
 refine At.nrm ?_
 have hrs : qE (-1) rs := recsE_iff.1 hcr
 obtain ⟨g, hg8, hge⟩ := first_of hx8 7
 have hge' : x8.tmod 8 = (g : Int) := hge
 have hw8 := wrap_u8 hx8
 obtain ⟨a, ha, hae⟩ := u16_of ho (m := 501) (by decide)
 obtain ⟨b, hb, hbe⟩ := u16_of ht (m := 500) (by decide)
 have hwa : IntKind.i64.wrap a = a := wrap_fit (Fit.of (by omega) (by omega))
 have hwb : IntKind.i64.wrap b = b := wrap_fit (Fit.of (by omega) (by omega))
 obtain ⟨m1, m2⟩ := raw_ok hcr (g := (g : Int)) (c := a) (by omega) (by omega)
 obtain ⟨n1, n2⟩ := raw_ok hcr (g := (g : Int)) (c := b) (by omega) (by omega)
 obtain ⟨p1, p2⟩ := raw_ok hcr (g := (g : Int)) (c := a + b) (by omega) (by omega)
 refine At.zh (.q 0 (.q 1 (.q 2 (.q 3 (.q 4 (.q 5 (.q 6 (.q 7 (.q 8 (.q 9 (.q 10 (.q 11 .done)))))))))))) ?_
 refine AtT.zf ?_
 refine AtT.kconv un5 Tryz.underlying3 ?_
 rw [hw8]
 refine AtT.krem ?_
 rw [hge']
 refine AtT.zf ?_
 refine AtT.krem ?_
 rw [hae]
 refine AtT.kconv un55 Tryz.underlying2 ?_
 rw [hwa]
 refine AtT.zf ?_
 refine AtT.krem ?_
 rw [hbe]
 refine AtT.kconv un55 Tryz.underlying2 ?_
 rw [hwb]
 refine AtT.ze ?_
 refine AtT.ze ?_
 refine AtT.ze ?_
 refine AtT.done ?_
 refine At.nrm ?_
 refine At.zh (.q 0 (.q 1 (.q 2 (.n false 3 (.q 4 (.q 5 (.q 6 (.q 7 (.q 8 .done))))))))) ?_
 refine AtT.zf ?_
 refine AtT.zf ?_
 refine AtT.zf ?_
 refine AtT.qa rfl rfl ok47 (made_f rs g a _ _ hv) ?_
 rintro _ V47 hV47 ⟨u47, rfl, h47⟩; rw [decide_eq_true m1]; rw [m2] at h47
 refine AtT.zf ?_
 refine AtT.zt ?_
 refine AtT.zt ?_
 refine AtT.ze ?_
 refine AtT.ze ?_
 refine AtT.done ?_
 refine At.nrm ?_
 obtain ⟨a47, c47, rfl, _, _, _, _⟩ := id h47
 replace hg := hg.le hV47
 replace hv := hv.le hV47
 refine At.zh (.q 0 (.q 1 (.q 2 (.n false 3 (.q 4 (.q 5 (.q 6 (.q 7 (.q 8 .done))))))))) ?_
 refine AtT.zf ?_
 refine AtT.zf ?_
 refine AtT.zf ?_
 refine AtT.qa rfl rfl ok47 (made_f rs g b _ _ hv) ?_
 rintro _ V54 hV54 ⟨u54, rfl, h54⟩; rw [decide_eq_true n1]; rw [n2] at h54
 refine AtT.zf ?_
 refine AtT.zt ?_
 refine AtT.zt ?_
 refine AtT.ze ?_
 refine AtT.ze ?_
 refine AtT.done ?_
 refine At.nrm ?_
 obtain ⟨a54, c54, rfl, _, _, _, _⟩ := id h54
 replace hg := hg.le hV54
 replace hv := hv.le hV54
 replace h47 := h47.le hV54
 refine At.zh (.q 0 (.q 1 (.q 2 (.q 3 (.q 4 (.n false 5 (.q 6 (.q 7 (.q 8 (.q 9 (.q 10 .done))))))))))) ?_
 refine AtT.zf ?_
 refine AtT.zf ?_
 refine AtT.zf ?_
 refine AtT.zf ?_
 first | refine AtT.qI ?_ | refine AtT.ql ?_
 refine AtT.qa rfl rfl ok47 (made_f rs g (a + b) _ _ hv) ?_
 rintro _ V63 hV63 ⟨u63, rfl, h63⟩; rw [decide_eq_true p1]; rw [p2] at h63
 refine AtT.zf ?_
 refine AtT.zt ?_
 refine AtT.zt ?_
 refine AtT.ze ?_
 refine AtT.ze ?_
 refine AtT.done ?_
 refine At.nrm ?_
 obtain ⟨a63, c63, rfl, _, _, _, _⟩ := id h63
 replace hg := hg.le hV63
 replace hv := hv.le hV63
 replace h47 := h47.le hV63
 replace h54 := h54.le hV63
 refine At.zh (.q 0 (.q 1 (.q 2 (.q 3 (.q 4 (.q 5 (.q 6 (.q 7 (.q 8 (.q 9 .done)))))))))) ?_
 refine AtT.zf ?_
 refine AtT.qF ?_
 refine AtT.qM (d := 67) rfl ((show (!true) = false from rfl)) ?_
 refine AtT.zf ?_
 all_goals (first | refine AtT.kL 68 ?_ | refine AtT.zA (d := 68) rfl (fun hg68 => ?_) (fun hg68 => ?_) | refine AtT.zz (d := 68) rfl (fun hg68 => ?_) (fun hg68 => ?_))
 all_goals first|refine AtT.zi ?_|refine AtT.zg ?_|(refine AtT.zf ?_)
 all_goals first|refine AtT.zi ?_|refine AtT.zg ?_|(refine AtT.qF ?_)
 all_goals (refine AtT.qM (d := 70) rfl ((show (!true) = false from rfl)) ?_)
 all_goals (refine AtT.zB ?_)
 all_goals (refine AtT.zf ?_)
 all_goals (first | refine AtT.kL 72 ?_ | refine AtT.zA (d := 72) rfl (fun hg72 => ?_) (fun hg72 => ?_) | refine AtT.zz (d := 72) rfl (fun hg72 => ?_) (fun hg72 => ?_))
 all_goals first|refine AtT.zi ?_|refine AtT.zg ?_|(refine AtT.zf ?_)
 all_goals first|refine AtT.zi ?_|refine AtT.zg ?_|(refine AtT.qF ?_)
 all_goals (refine AtT.qM (d := 74) rfl ((show (!true) = false from rfl)) ?_)
 all_goals (refine AtT.zB ?_)
 all_goals refine AtT.done ?_
 all_goals (refine At.nrm ?_)
 all_goals refine At.qf rfl rfl ?_
 refine At.nrm ?_
 refine At.zh (.q 0 .done) ?_
 refine AtT.ze ?_
 refine AtT.done ?_
 refine At.nrm ?_
 refine At.lp (ι := Nat) (KS := fun i => [(0, .slice a0 qs.length c0), (9, iv g), (10, iv a), (12, .slice a47 (Bk.stL fun y => a * ja rs g y).length c47), (14, .slice a54 (Bk.stL fun y => b * ja rs g y).length c54), (16, .slice a63 (Bk.stL fun y => (a + b) * ja rs g y).length c63), (18, iv i)]) (OS := fun i => []) (VS := fun i V' => Le V63 V' ∧ i ≤ 8) (μ := fun i => 8 - i) 0 ?_ ?_ ?_ ?_
 ·exact ⟨rfl, rfl, rfl, rfl, rfl, rfl, rfl, trivial⟩
 ·exact Pt.zH
 ·exact ⟨Le.refl _, Nat.zero_le _⟩
 rintro i V1 ks' O' ⟨hVV, hi⟩ hk hO hl1
 subst hk hO
 have hv' := hv.le hVV
 have h47' := h47.le hVV
 have h54' := h54.le hVV
 have h63' := h63.le hVV
 refine At.nrm ?_
 refine At.zh (.q 0 (.q 1 (.q 2 (.q 3 .done)))) ?_
 refine AtT.zf ?_
 refine AtT.zf ?_
 refine AtT.zN Tryz.underlying28 ?_
 refine AtT.qp ?_
 rw [stL_len]
 refine AtT.done ?_
 refine At.nrm ?_
 refine At.zX rfl (fun hp => ?_) (fun hp => ?_)
 ·have hi8 : i < 8 := by omega
  have r1 := rawO_bd hrs (g := (g : Int)) (by omega) (i : Int)
  have r2 := prod_bd hrs (a := a) (m := 1000) (by omega) (by decide) (g := (g : Int)) (by omega) (i : Int)
  have r3 := prod_bd hrs (a := b) (m := 1000) (by omega) (by decide) (g := (g : Int)) (by omega) (i : Int)
  have r4 : (a + b) * ja rs g i = a * ja rs g i + b * ja rs g i := Int.add_mul _ _ _
  have hQ : ∀ (c e : Int), (Bk.stL fun y => c * ja rs g y)[(i : Int).toNat]? = some e → c * ja rs g i = e := fun c e he => by rw [Int.toNat_natCast, stL_at _ hi8] at he; exact Option.some.inj he
  refine At.nrm ?_
  by_cases hp0 : partsOf rs (i : Int) = []
  ·refine At.cutG (ι := Unit) (fun _ => [(0, .slice a0 qs.length c0), (9, iv g), (10, iv a), (12, .slice a47 (Bk.stL fun y => a * ja rs g y).length c47), (14, .slice a54 (Bk.stL fun y => b * ja rs g y).length c54), (16, .slice a63 (Bk.stL fun y => (a + b) * ja rs g y).length c63), (18, iv i), (109, .bool false)]) (fun _ => []) (fun _ V'' => Le V1 V'') ?_ ?_
   ·refine At.draw (.q 0 (.q 1 (.q 2 (.q 3 (.q 4 (.q 5 (.q 6 (.q 7 (.q 8 (.q 9 (.q 10 (.q 11 (.q 12 (.q 13 (.q 14 (.q 15 (.q 16 (.n false 17 (.q 18 (.q 19 (.q 20 (.q 21 (.q 22 (.q 23 (.q 24 (.q 25 (.q 26 (.q 27 .done)))))))))))))))))))))))))))) ffm (by kernel_rfl) ?_
    refine AtT.zf ?_
    refine AtT.zf ?_
    refine AtT.idx rfl trivial Tryz.underlying28 tk2 rfl h63' rfl (by omega) (by rw [stL_len]; omega) (by decide) ?_
    intro p84 e84 he84 hc84
    obtain rfl := hQ _ _ he84
    first | refine AtT.zm tk2 ?_ | refine AtT.zo tk2 ?_
    refine AtT.zf ?_
    refine AtT.zf ?_
    refine AtT.idx rfl trivial Tryz.underlying28 tk2 rfl h47' rfl (by omega) (by rw [stL_len]; omega) (by decide) ?_
    intro p88 e88 he88 hc88
    obtain rfl := hQ _ _ he88
    first | refine AtT.zm tk2 ?_ | refine AtT.zo tk2 ?_
    refine AtT.zf ?_
    refine AtT.zf ?_
    refine AtT.idx rfl trivial Tryz.underlying28 tk2 rfl h54' rfl (by omega) (by rw [stL_len]; omega) (by decide) ?_
    intro p92 e92 he92 hc92
    obtain rfl := hQ _ _ he92
    first | refine AtT.zm tk2 ?_ | refine AtT.zo tk2 ?_
    refine AtT.add rfl trivial rfl rfl (by decide) (Fit.of (by omega) (by omega)) ?_
    refine AtT.qH ?_
    refine AtT.zU (d := 95) rfl ((fun h => h r4)) ?_
    refine AtT.zf ?_
    all_goals (first | refine AtT.kL 96 ?_ | refine AtT.zA (d := 96) rfl (fun hg96 => ?_) (fun hg96 => ?_) | refine AtT.zz (d := 96) rfl (fun hg96 => ?_) (fun hg96 => ?_))
    all_goals first|refine AtT.zi ?_|refine AtT.zg ?_|(refine AtT.zf ?_)
    all_goals first|refine AtT.zi ?_|refine AtT.zg ?_|(refine AtT.zf ?_)
    all_goals first|refine AtT.qg ?_|refine AtT.zW ?_|((refine AtT.qa rfl rfl ok48 (partsOf_f rs i _ _ hv') ?_) ; (rintro _ V99 hV99 ⟨a99, c99, rfl, h99⟩))
    all_goals first|refine AtT.zi ?_|refine AtT.zg ?_|(first | refine AtT.zR Tryz.underlying66 ?_ | refine AtT.zN Tryz.underlying66 ?_)
    all_goals first|refine AtT.zi ?_|refine AtT.zg ?_|(refine AtT.qJ ?_)
    all_goals (refine AtT.zU (d := 101) rfl ((by rw [hp0]; simp)) ?_)
    all_goals first|refine AtT.zi ?_|refine AtT.zg ?_|(refine AtT.zf ?_)
    all_goals (first | refine AtT.kL 102 ?_ | refine AtT.zA (d := 102) rfl (fun hg102 => ?_) (fun hg102 => ?_) | refine AtT.zz (d := 102) rfl (fun hg102 => ?_) (fun hg102 => ?_))
    all_goals first|refine AtT.zi ?_|refine AtT.zg ?_|(refine AtT.zf ?_)
    all_goals first|refine AtT.zi ?_|refine AtT.zg ?_|(refine AtT.zf ?_)
    all_goals first|refine AtT.zi ?_|refine AtT.zg ?_|(refine AtT.qB Tryz.underlying28 tk2 ?_) ; (intro p105 e105 he105 hc105)
    all_goals first|refine AtT.zi ?_|refine AtT.zg ?_|(first | refine AtT.zm tk2 ?_ | refine AtT.zo tk2 ?_)
    all_goals first|refine AtT.zi ?_|refine AtT.zg ?_|(refine AtT.qH ?_)
    all_goals first|refine AtT.zi ?_|refine AtT.zg ?_|(refine AtT.zB ?_)
    all_goals (refine AtT.zB ?_)
    all_goals refine AtT.done ?_
    all_goals (refine At.nrm ?_)
    all_goals exact At.kC () hV99 ⟨rfl, rfl, rfl, rfl, rfl, rfl, rfl, rfl, trivial⟩ Pt.zH
   rintro - Vc ks' O' hVc hk hO hlc
   subst hk hO
   refine At.nrm ?_
   refine At.qf rfl rfl ?_
   refine At.nrm ?_
   refine At.zh (.q 0 (.q 1 (.q 2 .done))) ?_
   refine AtT.zf ?_
   first | refine AtT.qI ?_ | refine AtT.ql ?_
   refine AtT.ze ?_
   refine AtT.done ?_
   refine At.nrm ?_
   refine At.round (i + 1) ?_ ?_ ?_ ?_
   ·show 8 - (i + 1) < 8 - i; omega
   ·exact ⟨hVV.trans hVc, by omega⟩
   ·exact ⟨rfl, rfl, rfl, rfl, rfl, rfl, ivs (by omega), trivial⟩
   ·exact Pt.zH
  ·have hz : ja rs g i = 0 := rawO_zero hrs hp0 8 (by omega) (by omega)
   have hl0 : 0 < (partsOf rs (i : Int)).length := List.length_pos_iff.2 hp0
   refine At.cutG (ι := Unit) (fun _ => [(0, .slice a0 qs.length c0), (9, iv g), (10, iv a), (12, .slice a47 (Bk.stL fun y => a * ja rs g y).length c47), (14, .slice a54 (Bk.stL fun y => b * ja rs g y).length c54), (16, .slice a63 (Bk.stL fun y => (a + b) * ja rs g y).length c63), (18, iv i), (109, .bool false)]) (fun _ => []) (fun _ V'' => Le V1 V'') ?_ ?_
   ·refine At.draw (.q 0 (.q 1 (.q 2 (.q 3 (.q 4 (.q 5 (.q 6 (.q 7 (.q 8 (.q 9 (.q 10 (.q 11 (.q 12 (.q 13 (.q 14 (.q 15 (.q 16 (.n false 17 (.q 18 (.q 19 (.q 20 (.q 21 (.q 22 (.q 23 (.q 24 (.q 25 (.q 26 (.q 27 .done)))))))))))))))))))))))))))) ffm (by kernel_rfl) ?_
    refine AtT.zf ?_
    refine AtT.zf ?_
    refine AtT.idx rfl trivial Tryz.underlying28 tk2 rfl h63' rfl (by omega) (by rw [stL_len]; omega) (by decide) ?_
    intro p84 e84 he84 hc84
    obtain rfl := hQ _ _ he84
    first | refine AtT.zm tk2 ?_ | refine AtT.zo tk2 ?_
    refine AtT.zf ?_
    refine AtT.zf ?_
    refine AtT.idx rfl trivial Tryz.underlying28 tk2 rfl h47' rfl (by omega) (by rw [stL_len]; omega) (by decide) ?_
    intro p88 e88 he88 hc88
    obtain rfl := hQ _ _ he88
    first | refine AtT.zm tk2 ?_ | refine AtT.zo tk2 ?_
    refine AtT.zf ?_
    refine AtT.zf ?_
    refine AtT.idx rfl trivial Tryz.underlying28 tk2 rfl h54' rfl (by omega) (by rw [stL_len]; omega) (by decide) ?_
    intro p92 e92 he92 hc92
    obtain rfl := hQ _ _ he92
    first | refine AtT.zm tk2 ?_ | refine AtT.zo tk2 ?_
    refine AtT.add rfl trivial rfl rfl (by decide) (Fit.of (by omega) (by omega)) ?_
    refine AtT.qH ?_
    refine AtT.zU (d := 95) rfl ((fun h => h r4)) ?_
    refine AtT.zf ?_
    all_goals (first | refine AtT.kL 96 ?_ | refine AtT.zA (d := 96) rfl (fun hg96 => ?_) (fun hg96 => ?_) | refine AtT.zz (d := 96) rfl (fun hg96 => ?_) (fun hg96 => ?_))
    all_goals first|refine AtT.zi ?_|refine AtT.zg ?_|(refine AtT.zf ?_)
    all_goals first|refine AtT.zi ?_|refine AtT.zg ?_|(refine AtT.zf ?_)
    all_goals first|refine AtT.qg ?_|refine AtT.zW ?_|((refine AtT.qa rfl rfl ok48 (partsOf_f rs i _ _ hv') ?_) ; (rintro _ V99 hV99 ⟨a99, c99, rfl, h99⟩; have h63'' := h63'.le hV99))
    all_goals first|refine AtT.zi ?_|refine AtT.zg ?_|(first | refine AtT.zR Tryz.underlying66 ?_ | refine AtT.zN Tryz.underlying66 ?_)
    all_goals first|refine AtT.zi ?_|refine AtT.zg ?_|(refine AtT.qJ ?_)
    all_goals (refine AtT.qm (d := 101) rfl ((by omega)) ?_)
    all_goals first|refine AtT.zi ?_|refine AtT.zg ?_|(refine AtT.zf ?_)
    all_goals (first | refine AtT.kL 102 ?_ | refine AtT.zA (d := 102) rfl (fun hg102 => ?_) (fun hg102 => ?_) | refine AtT.zz (d := 102) rfl (fun hg102 => ?_) (fun hg102 => ?_))
    all_goals first|refine AtT.zi ?_|refine AtT.zg ?_|(refine AtT.zf ?_)
    all_goals first|refine AtT.zi ?_|refine AtT.zg ?_|(refine AtT.zf ?_)
    all_goals first|refine AtT.zi ?_|refine AtT.zg ?_|(refine AtT.idx rfl ⟨_, _, rfl, rfl, rfl⟩ Tryz.underlying28 tk2 rfl h63'' rfl (by omega) (by rw [stL_len]; omega) (by decide) ?_) ; (intro p105 e105 he105 hc105)
    all_goals (obtain rfl := hQ _ _ he105)
    all_goals first|refine AtT.zi ?_|refine AtT.zg ?_|(first | refine AtT.zm tk2 ?_ | refine AtT.zo tk2 ?_)
    all_goals first|refine AtT.zi ?_|refine AtT.zg ?_|(refine AtT.qH ?_)
    all_goals (refine AtT.zU (d := 107) rfl ((fun h => h (by rw [hz, Int.mul_zero]))) ?_)
    all_goals first|refine AtT.zi ?_|refine AtT.zg ?_|(refine AtT.zB ?_)
    all_goals (refine AtT.zB ?_)
    all_goals refine AtT.done ?_
    all_goals (refine At.nrm ?_)
    all_goals exact At.kC () hV99 ⟨rfl, rfl, rfl, rfl, rfl, rfl, rfl, rfl, trivial⟩ Pt.zH
   rintro - Vc ks' O' hVc hk hO hlc
   subst hk hO
   refine At.nrm ?_
   refine At.qf rfl rfl ?_
   refine At.nrm ?_
   refine At.zh (.q 0 (.q 1 (.q 2 .done))) ?_
   refine AtT.zf ?_
   first | refine AtT.qI ?_ | refine AtT.ql ?_
   refine AtT.ze ?_
   refine AtT.done ?_
   refine At.nrm ?_
   refine At.round (i + 1) ?_ ?_ ?_ ?_
   ·show 8 - (i + 1) < 8 - i; omega
   ·exact ⟨hVV.trans hVc, by omega⟩
   ·exact ⟨rfl, rfl, rfl, rfl, rfl, rfl, ivs (by omega), trivial⟩
   ·exact Pt.zH
 refine At.nrm ?_
 refine At.zh (.q 0 (.q 1 (.n false 2 (.q 3 .done)))) ?_
 refine AtT.zf ?_
 refine AtT.zf ?_
 refine AtT.qa rfl rfl ok48 (partsOf_f rs g _ _ hv') ?_
 rintro _ V112 hV112 ⟨a112, c112, rfl, h112⟩
 refine AtT.ze ?_
 refine AtT.done ?_
 refine At.nrm ?_
 replace hv' := hv'.le hV112
 replace h112 := h112.le hV112
 have hg' := (hg.le hVV).le hV112
 replace h47' := h47'.le hV112
 by_cases hp0 : partsOf rs (g : Int) = []
 ·have hone : a * ja rs g g = a := by rw [rawO_raw hp0, if_pos rfl, Int.mul_one]
  have hQ : ∀ e, (Bk.stL fun y => a * ja rs g y)[(g : Int).toNat]? = some e → a * ja rs g g = e := fun e he => by rw [Int.toNat_natCast, stL_at _ (by omega)] at he; exact Option.some.inj he
  refine At.zh (.q 0 (.q 1 (.q 2 .done))) ?_
  refine AtT.zf ?_
  first | refine AtT.zR Tryz.underlying66 ?_ | refine AtT.zN Tryz.underlying66 ?_
  refine AtT.qK ?_
  refine AtT.qm (d := 115) rfl ((by rw [hp0]; rfl)) ?_
  refine AtT.done ?_
  refine At.nrm ?_
  refine At.qb rfl rfl ?_
  refine At.nrm ?_
  refine At.zh (.q 0 (.q 1 (.q 2 (.q 3 (.q 4 (.q 5 (.q 6 (.n false 7 (.q 8 (.q 9 .done)))))))))) ?_
  refine AtT.zf ?_
  refine AtT.zf ?_
  refine AtT.idx rfl trivial Tryz.underlying28 tk2 rfl h47' rfl (by omega) (by rw [stL_len]; omega) (by decide) ?_
  intro p118 e118 he118 hc118
  obtain rfl := hQ _ he118
  first | refine AtT.zm tk2 ?_ | refine AtT.zo tk2 ?_
  refine AtT.zf ?_
  refine AtT.qK ?_
  refine AtT.qm (d := 121) rfl (hone) ?_
  refine AtT.zf ?_
  all_goals (first | refine AtT.kL 122 ?_ | refine AtT.zA (d := 122) rfl (fun hg122 => ?_) (fun hg122 => ?_) | refine AtT.zz (d := 122) rfl (fun hg122 => ?_) (fun hg122 => ?_))
  all_goals first|refine AtT.qg ?_|refine AtT.zW ?_|((refine AtT.zG rfl rfl ok17 (works_f _ hg') ?_) ; (rintro _ rfl))
  all_goals (refine AtT.zB ?_)
  all_goals (refine AtT.ze ?_)
  all_goals refine AtT.done ?_
  all_goals (refine At.nrm ?_)
  all_goals (exact At.qi rfl (.tmp rfl) rfl)
 have hlen0 : ¬ ((partsOf rs (g : Int)).length : Int) = 0 := fun h => hp0 (List.length_eq_zero_iff.1 (by omega))
 refine At.zh (.q 0 (.q 1 (.q 2 .done))) ?_
 refine AtT.zf ?_
 first | refine AtT.zR Tryz.underlying66 ?_ | refine AtT.zN Tryz.underlying66 ?_
 refine AtT.qK ?_
 refine AtT.zU (d := 115) rfl (hlen0) ?_
 refine AtT.done ?_
 refine At.nrm ?_
 refine At.qf rfl rfl ?_
 refine At.nrm ?_
 refine At.zh (.n false 0 (.q 1 .done)) ?_
 refine AtT.makeSl rfl trivial ei rfl Tryz.underlying28 rw2 rfl rfl (by decide) rfl rfl (by omega) (by omega) (by decide) (m := 8) (za := (0 : Int)) ?_
 intro b125
 refine AtT.ze ?_
 refine AtT.done ?_
 refine At.nrm ?_
 refine At.zh (.q 0 .done) ?_
 refine AtT.ze ?_
 refine AtT.done ?_
 refine At.nrm ?_
 have hpn : ∀ q ∈ partsOf rs (g : Int), 1 ≤ q.n ∧ q.n ≤ 9 ∧ q.t ≤ 7 := fun q hq => by have := qj hrs hq; omega
 have hpl := kz hrs (g : Int)
 refine At.lp (ι := Nat) (KS := fun i => [(0, .slice a0 qs.length c0), (10, iv a), (12, .slice a47 (Bk.stL fun y => a * ja rs g y).length c47), (19, .slice a112 (partsOf rs (g : Int)).length c112), (20, .slice (some ⟨b125, 0, none⟩) 8 8), (21, iv i)]) (OS := fun i => [.blk b125 (LC (stC (rawJ rs a ((partsOf rs (g : Int)).take i))) 2)]) (VS := fun i V' => Le V112 V' ∧ i ≤ (partsOf rs (g : Int)).length) (μ := fun i => (partsOf rs (g : Int)).length - i) 0 ?_ ?_ ?_ ?_
 ·exact ⟨rfl, rfl, rfl, rfl, rfl, rfl, trivial⟩
 ·rw [List.take_zero, show rawJ rs a [] = fun _ => 0 from funext fun y => rawJ_nil rs a y]; exact Pt.zH
 ·exact ⟨Le.refl _, Nat.zero_le _⟩
 rintro i V2 ks' O' ⟨hVW, hil⟩ hk hO hl2
 subst hk hO
 have hv2 := hv'.le hVW
 have h112' := h112.le hVW
 have h47'' := h47'.le hVW
 refine At.nrm ?_
 refine At.zh (.q 0 (.q 1 (.q 2 (.q 3 .done)))) ?_
 refine AtT.zf ?_
 refine AtT.zf ?_
 first | refine AtT.zR Tryz.underlying66 ?_ | refine AtT.zN Tryz.underlying66 ?_
 refine AtT.qp ?_
 refine AtT.done ?_
 refine At.nrm ?_
 refine At.zX rfl (fun hp => ?_) (fun hp => ?_)
 ·obtain ⟨p, hpi⟩ : ∃ p, (partsOf rs (g : Int))[i]? = some p := ⟨_, List.getElem?_eq_getElem (by omega)⟩
  have hpin := qj hrs (List.mem_of_getElem? hpi)
  have htk := take_snoc2 hpi
  have hP : ∀ e, (partsOf rs (g : Int))[(i : Int).toNat]? = some e → p = e := fun e he => by rw [Int.toNat_natCast, hpi] at he; exact Option.some.inj he
  obtain ⟨q1, q2⟩ := raw_ok hcr (g := p.t) (c := p.n) (by omega) (by omega)
  refine At.nrm ?_
  refine At.cutG (ι := Option Addr × Nat) (fun z => [(0, .slice a0 qs.length c0), (10, iv a), (12, .slice a47 (Bk.stL fun y => a * ja rs g y).length c47), (19, .slice a112 (partsOf rs (g : Int)).length c112), (20, .slice (some ⟨b125, 0, none⟩) 8 8), (21, iv i), (22, .slice z.1 (Bk.stL fun y => p.n * ja rs p.t y).length z.2), (23, .bool true)]) (fun _ => [.blk b125 (LC (stC (rawJ rs a ((partsOf rs (g : Int)).take i))) 2)]) (fun z V'' => Le V2 V'' ∧ SlI V'' (.slice z.1 (Bk.stL fun y => p.n * ja rs p.t y).length z.2) (Bk.stL fun y => p.n * ja rs p.t y)) ?_ ?_
  ·refine At.draw (.q 0 (.q 1 (.q 2 (.q 3 (.q 4 (.q 5 (.q 6 (.q 7 (.q 8 (.q 9 (.q 10 (.n false 11 (.q 12 (.q 13 (.q 14 (.q 15 (.q 16 .done))))))))))))))))) ffm (by kernel_rfl) ?_
   refine AtT.zf ?_
   refine AtT.zf ?_
   refine AtT.zf ?_
   refine AtT.qB Tryz.underlying66 qX ?_
   intro p136 e136 he136 hc136
   obtain rfl := hP _ he136
   first | refine AtT.zk zV ?_ | with_reducible refine AtT.zl zV ?_ | refine AtT.zn zV ?_
   first | refine AtT.zm tk3 ?_ | refine AtT.zo tk3 ?_
   refine AtT.zf ?_
   refine AtT.zf ?_
   refine AtT.qB Tryz.underlying66 qX ?_
   intro p141 e141 he141 hc141
   obtain rfl := hP _ he141
   first | refine AtT.zk qc ?_ | with_reducible refine AtT.zl qc ?_ | refine AtT.zn qc ?_
   first | refine AtT.zm tk2 ?_ | refine AtT.zo tk2 ?_
   refine AtT.qa rfl rfl ok47 (made_f rs p.t p.n _ _ hv2) ?_
   rintro _ V144 hV144 ⟨u144, rfl, h144⟩; rw [decide_eq_true q1]; rw [q2] at h144; obtain ⟨a144, c144, rfl, _, _, _, _⟩ := id h144
   refine AtT.zf ?_
   refine AtT.zt ?_
   refine AtT.zt ?_
   refine AtT.ze ?_
   refine AtT.ze ?_
   refine AtT.done ?_
   refine At.nrm ?_
   all_goals exact At.kC (a144, c144) ⟨hV144, h144⟩ ⟨rfl, rfl, rfl, rfl, rfl, rfl, rfl, rfl, trivial⟩ Pt.zH
  rintro ⟨a144, c144⟩ V144 ks' O' ⟨hV144, h144⟩ hk hO hlc
  dsimp only at hk hO h144
  subst hk hO
  refine At.nrm ?_
  refine At.zh (.q 0 (.q 1 .done)) ?_
  refine AtT.zf ?_
  refine AtT.qF ?_
  refine AtT.qM (d := 148) rfl ((show (!true) = false from rfl)) ?_
  refine AtT.done ?_
  refine At.nrm ?_
  refine At.qf rfl rfl ?_
  refine At.nrm ?_
  refine At.zh (.q 0 .done) ?_
  refine AtT.ze ?_
  refine AtT.done ?_
  refine At.nrm ?_
  refine At.lp (ι := Nat) (KS := fun k => [(0, .slice a0 qs.length c0), (10, iv a), (12, .slice a47 (Bk.stL fun y => a * ja rs g y).length c47), (19, .slice a112 (partsOf rs (g : Int)).length c112), (20, .slice (some ⟨b125, 0, none⟩) 8 8), (21, iv i), (22, .slice a144 (Bk.stL fun y => p.n * ja rs p.t y).length c144), (24, iv k)]) (OS := fun k => [.blk b125 (LC (stC (mixK (rawJ rs a ((partsOf rs (g : Int)).take i)) (rawJ rs a ((partsOf rs (g : Int)).take (i + 1))) k)) 2)]) (VS := fun k V' => V' = V144 ∧ k ≤ 8) (μ := fun k => 8 - k) 0 ?_ ?_ ?_ ?_
  ·exact ⟨rfl, rfl, rfl, rfl, rfl, rfl, rfl, rfl, trivial⟩
  ·rw [mix_zero]; exact Pt.zH
  ·exact ⟨rfl, Nat.zero_le _⟩
  rintro k V3 ks' O' ⟨rfl, hkl⟩ hk hO hl3
  subst hk hO
  refine At.nrm ?_
  refine At.zh (.q 0 (.q 1 (.q 2 (.q 3 .done)))) ?_
  refine AtT.zf ?_
  refine AtT.zf ?_
  refine AtT.zN Tryz.underlying28 ?_
  refine AtT.qp ?_
  refine AtT.done ?_
  refine At.nrm ?_
  refine At.zX rfl (fun hp2 => ?_) (fun hp2 => ?_)
  ·have hk8 : k < 8 := by omega
   have hat := mix_cell (rawJ rs a ((partsOf rs (g : Int)).take i)) (rawJ rs a ((partsOf rs (g : Int)).take (i + 1))) hk8
   have hset := mix_set (rawJ rs a ((partsOf rs (g : Int)).take i)) (rawJ rs a ((partsOf rs (g : Int)).take (i + 1))) hk8
   have hB : rawJ rs a ((partsOf rs (g : Int)).take (i + 1)) k = rawJ rs a ((partsOf rs (g : Int)).take i) k + a * (p.n * ja rs p.t k) := by rw [htk, rawJ_snoc, Int.mul_assoc]
   rw [hB] at hset
   have hj1 := rawJ_bd hrs (c := a) (by omega) (ps := (partsOf rs (g : Int)).take i) (fun q hq => hpn q (List.mem_of_mem_take hq)) (by rw [List.length_take]; omega) k
   have hr1 := prod_bd hrs (a := p.n) (m := 9) (by omega) (by decide) (g := p.t) (by omega) (k : Int)
   have hm2 := Int.mul_nonneg (show 0 ≤ a by omega) hr1.1
   have hm3 : a * (p.n * ja rs p.t k) ≤ 1000 * (9 * 10460353203) := Int.mul_le_mul (by omega) hr1.2 hr1.1 (by decide)
   have hQ : ∀ e, (Bk.stL fun y => p.n * ja rs p.t y)[(k : Int).toNat]? = some e → p.n * ja rs p.t k = e := fun e he => by rw [Int.toNat_natCast, stL_at _ hk8] at he; exact Option.some.inj he
   refine At.nrm ?_
   refine At.draw (.q 0 (.q 1 (.q 2 (.q 3 (.q 4 (.q 5 (.q 6 (.q 7 (.q 8 (.q 9 (.q 10 (.q 11 (.n true 12 .done))))))))))))) ffm (by kernel_rfl) ?_
   refine AtT.zf ?_
   refine AtT.zf ?_
   refine AtT.jV rfl trivial Tryz.underlying28 tk2 rfl rfl hk8 (by decide) ?_
   refine AtT.jE rfl trivial rfl tk2 zP.zH hat (by decide) ?_
   refine AtT.zf ?_
   refine AtT.zf ?_
   refine AtT.zf ?_
   refine AtT.idx rfl trivial Tryz.underlying28 tk2 rfl h144 rfl (by omega) (by rw [stL_len]; omega) (by decide) ?_
   intro p162 e162 he162 hc162
   obtain rfl := hQ _ he162
   first | refine AtT.zm tk2 ?_ | refine AtT.zo tk2 ?_
   refine AtT.mul rfl trivial rfl rfl (by decide) (Fit.of (by omega) (by omega)) ?_
   refine AtT.add rfl trivial rfl rfl (by decide) (Fit.of (by omega) (by omega)) ?_
   refine AtT.jV rfl trivial Tryz.underlying28 tk2 rfl rfl hk8 (by decide) ?_
   refine AtT.jk rfl trivial rfl rfl tk2 rfl rfl (by repeat first|exact Upd.here|apply Upd.there) (qR (by rw [stC_len]; omega) hset) ?_
   refine AtT.done ?_
   refine At.nrm ?_
   refine At.nrm ?_
   refine At.zh (.q 0 (.q 1 (.q 2 .done))) ?_
   refine AtT.zf ?_
   first | refine AtT.qI ?_ | refine AtT.ql ?_
   refine AtT.ze ?_
   refine AtT.done ?_
   refine At.nrm ?_
   refine At.round (k + 1) ?_ ?_ ?_ ?_
   ·show 8 - (k + 1) < 8 - k; omega
   ·exact ⟨rfl, by omega⟩
   ·exact ⟨rfl, rfl, rfl, rfl, rfl, rfl, rfl, ivs (by omega), trivial⟩
   ·exact Pt.zH
  obtain rfl : k = 8 := by omega
  rw [mix_all]
  refine At.nrm ?_
  refine At.zh (.q 0 (.q 1 (.q 2 .done))) ?_
  refine AtT.zf ?_
  first | refine AtT.qI ?_ | refine AtT.ql ?_
  refine AtT.ze ?_
  refine AtT.done ?_
  refine At.nrm ?_
  refine At.round (i + 1) ?_ ?_ ?_ ?_
  ·show (partsOf rs (g : Int)).length - (i + 1) < (partsOf rs (g : Int)).length - i; omega
  ·exact ⟨hVW.trans hV144, by omega⟩
  ·exact ⟨rfl, rfl, rfl, rfl, rfl, ivs (by omega), trivial⟩
  ·exact Pt.zH
 obtain rfl : i = (partsOf rs (g : Int)).length := by omega
 rw [List.take_length, show rawJ rs a (partsOf rs (g : Int)) = fun y : Nat => a * ja rs g y from funext fun y => rawJ_all hrs (by omega) hp0 a y]
 refine At.giveB (b := b125) zP.zH (fun V4 hV4 hb4 => ?_)
 refine At.nrm ?_
 refine At.zh (.q 0 (.q 1 (.n false 2 (.q 3 (.n false 4 (.q 5 (.q 6 .done))))))) ?_
 refine AtT.zf ?_
 refine AtT.zf ?_
 refine AtT.zG rfl rfl ok22 (longs_f _ _ _ _ _ (sl_stL hb4) (h47''.le hV4)) ?_
 rintro _ rfl
 refine AtT.qm (d := 169) rfl (rfl) ?_
 refine AtT.zf ?_
 all_goals (first | refine AtT.kL 170 ?_ | refine AtT.zA (d := 170) rfl (fun hg170 => ?_) (fun hg170 => ?_) | refine AtT.zz (d := 170) rfl (fun hg170 => ?_) (fun hg170 => ?_))
 all_goals first|refine AtT.qg ?_|refine AtT.zW ?_|((refine AtT.zG rfl rfl ok17 (works_f _ ((hg'.le hVW).le hV4)) ?_) ; (rintro _ rfl))
 all_goals (refine AtT.zB ?_)
 all_goals (refine AtT.ze ?_)
 all_goals refine AtT.done ?_
 all_goals (refine At.nrm ?_)
 all_goals (exact At.qi rfl (.tmp rfl) rfl)
end Go.Proofs.YtpoignmclfdgpaaGreatDoor
