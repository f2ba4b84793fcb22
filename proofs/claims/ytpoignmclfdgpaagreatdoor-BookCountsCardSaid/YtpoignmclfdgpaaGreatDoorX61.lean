/- Texts that the last one of this claim imports. -/
import Derived.Test.YtpoignmclfdgpaaGreatDoorB6
set_option linter.unusedVariables false
set_option linter.unusedSimpArgs false
set_option linter.unusedSectionVars false

set_option linter.unusedVariables false
namespace Go.Bk
open Go.Lw Go.Gl
theorem goneK_congr {es es' : List En} {first : Nat} (h : ∀ i, i < first → enA es i = enA es' i) : ∀ {k : Nat} {s : Nat}, k ≤ first → qW es first k s = qW es' first k s
 | 0, s, _ => rfl
 | k + 1, s, hk => by
  simp only [qW]
  rw [goneK_congr h (k := k) (s := s) (by omega), goneK_congr h (k := k) (s := first - 1 - k) (by omega), h (first - 1 - k) (by omega)]
theorem cntS_congr {es es' : List En} {first : Nat} (h : ∀ i, i < first → enA es i = enA es' i) : cntS es first = cntS es' first := by
 unfold cntS gone
 exact List.filter_congr fun i _ => by rw [goneK_congr h (Nat.le_refl _)]
theorem runS_congr {rs : List Rc} {es es' : List En} {first : Nat} (h : ∀ i, i < first → enA es i = enA es' i) (day : Int) : runS rs es first day = runS rs es' first day := by
 unfold runS
 rw [cntS_congr h, List.map_congr_left fun i hi => h i (cntS_lt hi)]
theorem enA_take {es : List En} {i n : Nat} (h : i < n) : enA (es.take n) i = enA es i := by
 unfold enA List.getD; rw [List.getElem?_take, if_pos h]
def lastD (last : Int) : List En → Int
 | [] => last
 | e :: es => lastD e.d es
theorem ens_take {rs : List Rc} : ∀ {es : List En} {index last : Int} (n : Nat), EnsOk rs index last es → EnsOk rs index last (es.take n)
 | [], _, _, n, h => by rw [List.take_nil]; exact h
 | e :: es, _, _, 0, h => .nil _ _
 | e :: es, _, _, n + 1, h => by
  cases h with
  | cons h1 h2 => exact .cons h1 (ens_take n h2)
theorem lastD_bd {rs : List Rc} : ∀ {es : List En} {index last : Int}, EnsOk rs index last es → (0 ≤ last ∧ last ≤ 999) → 0 ≤ lastD last es ∧ lastD last es ≤ 999
 | [], _, _, _, h => h
 | e :: es, _, _, h, hl => by
  cases h with
  | cons h1 h2 => show 0 ≤ lastD e.d es ∧ lastD e.d es ≤ 999; exact lastD_bd h2 h1.d
theorem Right.ens {b : Bo} (h : Right b) : EnsOk b.rs 0 0 b.es := entsE_iff.1 h.en
theorem Right.last {b : Bo} (h : Right b) : 0 ≤ lastD 0 b.es ∧ lastD 0 b.es ≤ 999 := lastD_bd h.ens (by decide)
theorem Right.take {b : Bo} (h : Right b) (n : Nat) : Right ⟨b.rs, b.es.take n⟩ := by
 refine ⟨h.cr, ?_, entsE_iff.2 (ens_take n h.ens), fun k hk => ?_⟩
 ·have := h.len; simp only [List.length_take]; omega
 ·simp only [List.length_take] at hk
  show (runS b.rs (b.es.take n) (k + 1) 999).isSome = true
  rw [runS_congr (es' := b.es) (fun i hi => enA_take (by omega))]
  exact h.run k (by omega)
theorem gone_out {es : List En} {first : Nat} (hv : BkOk es first) {s : Nat} (h : first ≤ s + 1) : gone es first s = false := by
 cases hg : gone es first s with
 | false => rfl
 | true =>
  obtain ⟨k, h1, h2, _⟩ := (gone_iff hv).1 hg
  omega
end Go.Bk
set_option linter.unusedVariables false
namespace Go.Bk
open Go.Lw Go.Gl
def netR (rs : List Rc) (day : Int) (y : Int) (e : En) : Int := if day < e.d then 0 else if e.k = 1 then e.n * ja rs e.t y else if e.k = 2 then - (e.n * ja rs e.t y) else 0
theorem kept {b : Bo} (hb : Right b) {first : Nat} (hf : first ≤ b.es.length) {day : Int} {st : Nat → Int} (hst : runS b.rs b.es first day = some st) (y : Nat) :
  ji st (fun s => ja b.rs s y) 8 = ((cntS b.es first).map fun i => netR b.rs day y (enA b.es i)).sum := by
 have hg := hb.bog
 have hin : ∀ e ∈ (cntS b.es first).map (enA b.es), ∃ k l, EnOk b.rs e k l := fun e he => by
  obtain ⟨i, hi, rfl⟩ := List.mem_map.1 he
  have hx := List.getElem?_eq_getElem (l := b.es) (i := i) (by have := cntS_lt hi; omega)
  rw [enA_at hx]
  obtain ⟨l, h1, _⟩ := ensOk_at hb.ens hx
  exact ⟨_, l, h1⟩
 unfold runS at hst
 rw [run_dot hg.rs (r := fun s => ja b.rs s y) (fun e he h4 => by
  obtain ⟨k, l, h⟩ := hin e he
  exact ⟨(h.th h4).1, (h.th h4).2.1⟩) hst, dot_zero, Int.zero_add, List.map_map]
 refine sum_congr fun i hi => ?_
 obtain ⟨k, l, h⟩ := hin _ (List.mem_map.2 ⟨i, hi, rfl⟩)
 show (if day < (enA b.es i).d then 0 else addR (enA b.es i) (fun s => ja b.rs s y) - takeR b.rs (enA b.es i) (fun s => ja b.rs s y)) = netR b.rs day y (enA b.es i)
 generalize enA b.es i = e at h
 show (if day < e.d then 0 else addR e (fun s => ja b.rs s y) - takeR b.rs e (fun s => ja b.rs s y)) = netR b.rs day y e
 unfold netR addR takeR
 have hk := h.k
 by_cases hd : day < e.d
 ·rw [if_pos hd, if_pos hd]
 rw [if_neg hd, if_neg hd]
 have ht : e.k ≠ 4 → ((e.t.toNat : Nat) : Int) = e.t := fun h4 => Int.toNat_of_nonneg (h.th h4).1
 by_cases k1 : e.k = 1
 ·rw [if_pos (.inl k1), if_neg (by omega), if_neg (by omega), if_pos k1]
  dsimp only
  rw [ht (by omega)]; omega
 by_cases k2 : e.k = 2
 ·rw [if_neg (by omega), if_pos k2, if_neg k1, if_pos k2]
  dsimp only
  rw [ht (by omega)]; omega
 by_cases k3 : e.k = 3
 ·rw [if_pos (.inr k3), if_neg k2, if_pos k3, if_neg k1, if_neg k2]
  dsimp only
  rw [ht (by omega), rawO_made hg.rs (h.th (by omega)).2.1 (h.made k3)]
  have e1 : ((partsOf b.rs e.t).map fun p => e.n * p.n * ja b.rs (p.t.toNat : Int) y).sum = ((partsOf b.rs e.t).map fun p => e.n * (p.n * ja b.rs p.t y)).sum := sum_congr fun p hp => by
   have := qj hg.rs hp
   rw [Int.toNat_of_nonneg this.1, Int.mul_assoc]
  rw [e1, sum_mul]; omega
 ·rw [if_neg (by omega), if_neg k2, if_neg k3, if_neg k1, if_neg k2]; rfl
end Go.Bk
set_option linter.unusedVariables false
namespace Go.Proofs.YtpoignmclfdgpaaGreatDoor
open Go.Lw Go.Gl Go.Bk Go.RowKit
theorem cnt_ok {b : Bo} (hR : Right b) {n : Nat} (hn : n ≤ b.es.length) : cntE b n = 0 ∧ cntL b n = cntI b.es n := by
 have h : cntE b n = 0 := by unfold cntE; rw [if_neg (by rw [jA.2 hR]; simp), if_neg (by omega)]
 exact ⟨h, by unfold cntL; rw [if_neg (by rw [h]; simp), Int.toNat_natCast]⟩
theorem fine_ok {b : Bo} (h : (!grB b && decide (bkE b = 0)) = true) : grB b = false ∧ bkE b = 0 := by
 simpa using h
abbrev bX (b : Bo) (e : En) : Bo := withB b e
abbrev bY (b : Bo) (e : En) : Bo := withB (bX b e) ⟨e.d, 4, b.es.length, 0⟩
abbrev bZ (b : Bo) (e : En) : Bo := withB (bY b e) ⟨e.d, 4, (b.es.length : Int) + 1, 0⟩
structure TkL (b : Bo) (e : En) (d : Int) : Prop where
 y : bkE (bY b e) = 0
 z : bkE (bZ b e) = 0
 k1 : kg b b.es.length d = 0
 k2 : kg (bX b e) ((b.es.length : Int) + 1) d = 0
 k3 : kg (bY b e) ((b.es.length : Int) + 2) d = 0
 k4 : kg (bZ b e) ((b.es.length : Int) + 3) d = 0
 k5 : kg (bZ b e) b.es.length d = 0
 k6 : kg (bZ b e) ((b.es.length : Int) + 2) d = 0
 l1 : jZ b b.es.length d = jZ (bY b e) ((b.es.length : Int) + 2) d
 l2 : jZ (bX b e) ((b.es.length : Int) + 1) d = jZ (bZ b e) ((b.es.length : Int) + 3) d
 l3 : jZ b b.es.length d = jZ (bZ b e) b.es.length d
 l4 : jZ (bZ b e) ((b.es.length : Int) + 2) d = jZ (bY b e) ((b.es.length : Int) + 2) d
end Go.Proofs.YtpoignmclfdgpaaGreatDoor
set_option linter.unusedVariables false
namespace Go.Proofs.YtpoignmclfdgpaaGreatDoor
open Go.Lw Go.Gl Go.Bk Go.RowKit
theorem first_of {x : Int} (h : 0 ≤ x ∧ x ≤ 255) (n : Nat) : ∃ f : Nat, f ≤ n ∧ x.tmod ((n : Int) + 1) = (f : Int) := by
 have h1 := Int.emod_nonneg x (show ((n : Int) + 1) ≠ 0 by omega)
 have h2 := Int.emod_lt_of_pos x (show 0 < ((n : Int) + 1) by omega)
 exact ⟨(x % ((n : Int) + 1)).toNat, by omega, by rw [Int.tmod_eq_emod_of_nonneg h.1, Int.toNat_of_nonneg h1]⟩
theorem wrap_u8 {x : Int} (h : 0 ≤ x ∧ x ≤ 255) : IntKind.i64.wrap x = x := wrap_fit (Fit.of (by omega) (by omega))
end Go.Proofs.YtpoignmclfdgpaaGreatDoor
set_option linter.unusedVariables false
namespace Go.Bk
open Go.Lw Go.Gl
theorem cnt_strict (es : List En) (n : Nat) : (cntS es n).Pairwise (· < ·) := List.Pairwise.sublist List.filter_sublist List.pairwise_lt_range
theorem mem_cnt {es : List En} {n s : Nat} : s ∈ cntS es n ↔ s < n ∧ gone es n s = false := by
 unfold cntS
 rw [List.mem_filter, List.mem_range, Bool.not_eq_true']
def mkC (es : List En) (n i : Nat) : List Int := (List.range n).map fun s => if s ∈ (cntS es n).take i then 1 else 0
theorem mkC_len (es : List En) (n i : Nat) : (mkC es n i).length = n := by simp [mkC]
theorem mkC_zero (es : List En) (n : Nat) : mkC es n 0 = List.replicate n 0 := by
 apply List.ext_getElem?
 intro i
 by_cases hi : i < n
 ·simp [mkC, List.getElem?_replicate, List.getElem?_range hi, hi]
 ·rw [List.getElem?_eq_none (by simp [mkC]; omega), List.getElem?_eq_none (by simp; omega)]
theorem mkC_put {es : List En} {n i c : Nat} (hc : (cntS es n)[i]? = some c) : (flat ei (mkC es n i)).set (c * 1) (iv 1) = flat ei (mkC es n (i + 1)) := by
 have h : (mkC es n i).set c 1 = mkC es n (i + 1) := set_map_range _ _ _ _ _ fun s _ => by
  rw [List.take_add_one, hc]
  by_cases e : s = c
  ·subst e; simp
  ·simp [e]
 rw [flat_ei, flat_ei, Nat.mul_one, ← h, List.map_set]
theorem mkC_flen (es : List En) (n i : Nat) : (flat ei (mkC es n i)).length = n := by rw [jB Lw.kv, mkC_len]; omega
theorem mkC_full {es : List En} {n s : Nat} (h : s < n) : (flat ei (mkC es n (cntS es n).length))[s * 1]? = some (iv (if gone es n s = true then 0 else 1)) := by
 rw [flat_ei, Nat.mul_one, List.getElem?_map]
 unfold mkC
 rw [List.getElem?_map, List.getElem?_range h, List.take_length]
 simp only [Option.map_some, mem_cnt]
 cases hg : gone es n s with
 | true => simp
 | false => simp [h]
def bkK (es : List En) (n i k : Nat) : Int := if ((List.range k).any fun j => decide (i < j) && decide ((enA es j).k = 4) && decide ((enA es j).t = (i : Int)) && !gone es n j) = true then 1 else 0
theorem bkK_zero (es : List En) (n i : Nat) : bkK es n i (i + 1) = 0 := by
 unfold bkK
 rw [if_neg]
 rw [List.any_eq_true]
 rintro ⟨j, hj, h⟩
 have := List.mem_range.1 hj
 simp only [Bool.and_eq_true, decide_eq_true_eq] at h
 omega
theorem bkK_yes {es : List En} {n i k : Nat} (h : i < k) (h4 : (enA es k).k = 4) (ht : (enA es k).t = (i : Int)) (hg : gone es n k = false) : bkK es n i (k + 1) = 1 := by
 unfold bkK
 rw [if_pos]
 rw [List.any_eq_true]
 exact ⟨k, List.mem_range.2 (Nat.lt_succ_self k), by simp [h, h4, ht, hg]⟩
theorem bkK_no {es : List En} {n i k : Nat} (h : ¬ ((enA es k).k = 4 ∧ (enA es k).t = (i : Int) ∧ gone es n k = false)) : bkK es n i (k + 1) = bkK es n i k := by
 unfold bkK
 rw [List.range_succ, List.any_append]
 have e : ([k].any fun j => decide (i < j) && decide ((enA es j).k = 4) && decide ((enA es j).t = (i : Int)) && !gone es n j) = false := by
  simp only [List.any_cons, List.any_nil, Bool.or_false]
  cases hh : (decide (i < k) && decide ((enA es k).k = 4) && decide ((enA es k).t = (i : Int)) && !gone es n k) with
  | false => rfl
  | true =>
   simp only [Bool.and_eq_true, decide_eq_true_eq, Bool.not_eq_true'] at hh
   exact absurd ⟨hh.1.1.2, hh.1.2, hh.2⟩ h
 rw [e, Bool.or_false]
theorem bkK_end {es : List En} {n i : Nat} (hv : BkOk es n) : (if gone es n i = true then (0 : Int) else 1) + bkK es n i n = 1 := by
 unfold bkK
 by_cases hg : gone es n i = true
 ·rw [if_pos hg, if_pos]
  ·rfl
  ·rw [List.any_eq_true]
   obtain ⟨k, h1, h2, h3, h4, h5⟩ := (gone_iff hv).1 hg
   exact ⟨k, List.mem_range.2 h2, by simp [h1, h3, h4, h5]⟩
 ·rw [if_neg hg, if_neg]
  ·rfl
  ·rw [List.any_eq_true]
   rintro ⟨j, hj, h⟩
   simp only [Bool.and_eq_true, decide_eq_true_eq, Bool.not_eq_true'] at h
   exact hg ((gone_iff hv).2 ⟨j, h.1.1.1, List.mem_range.1 hj, h.1.1.2, h.1.2, h.2⟩)
theorem cntI_at {es : List En} {n i : Nat} (h : i < (cntI es n).length) : ∃ c : Nat, (cntS es n)[i]? = some c ∧ (cntI es n)[i]? = some (c : Int) ∧ c < n := by
 have hl : i < (cntS es n).length := by simpa using h
 have hx : (cntS es n)[i]? = some (cntS es n)[i] := List.getElem?_eq_getElem hl
 exact ⟨_, hx, by rw [List.getElem?_map, hx]; rfl, cntS_lt (List.getElem_mem hl)⟩
theorem cnt_lt2 {es : List En} {n i c d : Nat} (hc : (cntS es n)[i]? = some c) (hd : (cntS es n)[i + 1]? = some d) : c < d := by
 obtain ⟨h1, rfl⟩ := List.getElem?_eq_some_iff.1 hc
 obtain ⟨h2, rfl⟩ := List.getElem?_eq_some_iff.1 hd
 exact List.pairwise_iff_getElem.1 (cnt_strict es n) i (i + 1) h1 h2 (by omega)
theorem cntI_len (es : List En) (n : Nat) : (cntI es n).length ≤ n := by
 have := cntJ_len es n n
 rw [cntJ_all] at this
 simpa using this
end Go.Bk
set_option linter.unusedVariables false
namespace Go.Proofs.YtpoignmclfdgpaaGreatDoor
open Go.Lw Go.Gl Go.Bk Go.RowKit
set_option maxHeartbeats 1600000 in
theorem bookCounts_f (b : Bo) (x8 : Int) (hx8 : 0 ≤ x8 ∧ x8 ≤ 255) (V : View) (hg : GvV V) (v : Value) (hv : BoV V v b) : Fnc Tryz.prog 8 [v, .int .u8 x8] V fun r _ => r = .bool true := by
 obtain ⟨w0, a0, c0, rfl, ⟨q0, z0, y0, e0, rfl, i0, j0⟩, s0⟩ := id hv
 clear e0 i0 j0
 refine qh Tryz.func8 rfl Tryz.ntmps8 (Nat.le_of_ble_eq_true rfl) ?_
 intro w0 hw0
 refine At.nrm ?_
 refine At.zh (.n false 0 (.q 1 .done)) ?_
 refine AtT.jd ?_
 intro b2
 refine AtT.ze ?_
 refine AtT.done ?_
 refine At.nrm ?_
 cases hfine : (!grB b && decide (bkE b = 0)) with
 | false =>
  refine At.zh (.q 0 (.n false 1 (.q 2 .done))) ?_
  first | refine AtT.zD zK ?_ | refine AtT.zI zK ?_ | refine AtT.zC zK ?_
  refine AtT.zG rfl rfl ok41 (fine_f b _ _ hv) ?_
  rintro _ rfl
  refine AtT.qM (d := 14) rfl (hfine) ?_
  refine AtT.qF ?_
  refine AtT.qM (d := 15) rfl ((show (!false) = true from rfl)) ?_
  refine AtT.done ?_
  refine At.nrm ?_
  all_goals refine At.qb rfl rfl ?_
  refine At.nrm ?_
  refine At.zh (.n false 0 (.q 1 .done)) ?_
  refine AtT.zG rfl rfl ok17 (works_f _ hg) ?_
  rintro _ rfl
  refine AtT.ze ?_
  refine AtT.done ?_
  refine At.nrm ?_
  exact At.qi rfl (.tmp rfl) rfl
 | true =>
 refine At.zh (.q 0 (.n false 1 (.q 2 .done))) ?_
 first | refine AtT.zD zK ?_ | refine AtT.zI zK ?_ | refine AtT.zC zK ?_
 refine AtT.zG rfl rfl ok41 (fine_f b _ _ hv) ?_
 rintro _ rfl
 refine AtT.qM (d := 14) rfl (hfine) ?_
 refine AtT.qF ?_
 refine AtT.qM (d := 15) rfl ((show (!true) = false from rfl)) ?_
 refine AtT.done ?_
 refine At.nrm ?_
 all_goals refine At.qf rfl rfl ?_
 refine At.nrm ?_
 obtain ⟨hgr, hb0⟩ := fine_ok hfine
 have hR := jA.1 hb0
 have hlen := hR.len
 obtain ⟨n, hn, hne⟩ := first_of hx8 b.es.length
 have hw8 := wrap_u8 hx8
 have hbk := hR.bk hn
 have hcl := cntI_len b.es n
 refine At.zh (.q 0 (.q 1 (.q 2 (.q 3 (.q 4 (.q 5 (.q 6 (.q 7 .done)))))))) ?_
 refine AtT.zf ?_
 refine AtT.kconv un5 Tryz.underlying3 ?_
 rw [hw8]
 first | refine AtT.zk zu ?_ | with_reducible refine AtT.zl zu ?_ | refine AtT.zn zu ?_
 first | refine AtT.zm qo ?_ | refine AtT.zo qo ?_
 first | refine AtT.zR Tryz.underlying24 ?_ | refine AtT.zN Tryz.underlying24 ?_
 first | refine AtT.qI ?_ | refine AtT.ql ?_
 refine AtT.krem ?_
 rw [hne]
 refine AtT.ze ?_
 refine AtT.done ?_
 refine At.nrm ?_
 refine At.zh (.q 0 (.q 1 (.n false 2 (.q 3 (.q 4 (.q 5 (.q 6 (.q 7 .done)))))))) ?_
 first | refine AtT.zD zK ?_ | refine AtT.zI zK ?_ | refine AtT.zC zK ?_
 refine AtT.zf ?_
 refine AtT.qa rfl rfl ok23 (pcounting_f b n _ _ hv) ?_
 rintro _ V27 hV27 ⟨u27, rfl, h27⟩; rw [(cnt_ok hR hn).1]; rw [(cnt_ok hR hn).2] at h27
 refine AtT.zf ?_
 refine AtT.zt ?_
 refine AtT.zt ?_
 refine AtT.ze ?_
 refine AtT.ze ?_
 refine AtT.done ?_
 refine At.nrm ?_
 replace hg := hg.le hV27
 replace s0 := s0.le hV27
 obtain ⟨au, cu, rfl, _, _, _, _⟩ := id h27
 refine At.zh (.q 0 (.q 1 (.q 2 (.q 3 (.q 4 (.q 5 (.q 6 (.q 7 .done)))))))) ?_
 refine AtT.zf ?_
 refine AtT.qH ?_
 refine AtT.zU (d := 31) rfl ((fun h => h rfl)) ?_
 refine AtT.zf ?_
 all_goals (first | refine AtT.kL 32 ?_ | refine AtT.zA (d := 32) rfl (fun hg32 => ?_) (fun hg32 => ?_) | refine AtT.zz (d := 32) rfl (fun hg32 => ?_) (fun hg32 => ?_))
 all_goals first|refine AtT.zi ?_|refine AtT.zg ?_|(refine AtT.zf ?_)
 all_goals first|refine AtT.zi ?_|refine AtT.zg ?_|(first | refine AtT.zR Tryz.underlying37 ?_ | refine AtT.zN Tryz.underlying37 ?_)
 all_goals first|refine AtT.zi ?_|refine AtT.zg ?_|(refine AtT.zf ?_)
 all_goals first|refine AtT.zi ?_|refine AtT.zg ?_|(refine AtT.qJ ?_)
 all_goals (refine AtT.zU (d := 36) rfl ((by omega)) ?_)
 all_goals (refine AtT.zB ?_)
 all_goals refine AtT.done ?_
 all_goals (refine At.nrm ?_)
 refine At.qf rfl rfl ?_
 refine At.nrm ?_
 refine At.zh (.q 0 (.n false 1 (.q 2 .done))) ?_
 refine AtT.zf ?_
 refine AtT.makeSl rfl trivial ei rfl Tryz.underlying37 rw3 rfl rfl (by decide) rfl rfl (by omega) (by omega) (by decide) (za := (0 : Int)) ?_
 intro b39
 refine AtT.ze ?_
 refine AtT.done ?_
 refine At.nrm ?_
 refine At.zh (.q 0 .done) ?_
 refine AtT.ze ?_
 refine AtT.done ?_
 refine At.nrm ?_
 rw [← mkC_zero b.es n]
 refine At.lp (ι := Nat) (KS := fun i => [(2, .pointer (some ⟨b2, 0, none⟩)), (5, iv n), (6, .slice au (cntI b.es n).length cu), (8, .slice (some ⟨b39, 0, none⟩) n n), (9, iv i)]) (OS := fun i => [.blk b2 (LC [.slice z0 q0.length y0, .slice a0 b.es.length c0] 26), .blk b39 (LC (flat ei (mkC b.es n i)) 3)]) (VS := fun i V' => V' = V27 ∧ i ≤ (cntI b.es n).length) (μ := fun i => (cntI b.es n).length - i) 0 ?_ ?_ ?_ ?_
 ·exact ⟨rfl, rfl, rfl, rfl, rfl, trivial⟩
 ·exact Pt.zH
 ·exact ⟨rfl, Nat.zero_le _⟩
 rintro i V' ks' O' ⟨rfl, hi⟩ hk hO hl1
 subst hk hO
 refine At.nrm ?_
 refine At.zh (.q 0 (.q 1 (.q 2 (.q 3 .done)))) ?_
 refine AtT.zf ?_
 refine AtT.zf ?_
 first | refine AtT.zR Tryz.underlying37 ?_ | refine AtT.zN Tryz.underlying37 ?_
 refine AtT.qp ?_
 refine AtT.done ?_
 refine At.nrm ?_
 refine At.zX rfl (fun hp => ?_) (fun hp => ?_)
 ·obtain ⟨c, hc, hci, hcn⟩ := cntI_at (es := b.es) (n := n) (i := i) (by omega)
  have hP : ∀ e, (cntI b.es n)[(i : Int).toNat]? = some e → (c : Int) = e := fun e he => by rw [Int.toNat_natCast, hci] at he; exact Option.some.inj he
  have hput := mkC_put hc
  have hlt : c * 1 < (flat ei (mkC b.es n i)).length := by rw [mkC_flen]; omega
  refine At.nrm ?_
  by_cases h0 : (i : Int) > 0
  ·obtain ⟨m, rfl⟩ : ∃ m, i = m + 1 := ⟨i - 1, by omega⟩
   obtain ⟨d, hd, hdi, hdn⟩ := cntI_at (es := b.es) (n := n) (i := m) (by omega)
   have hdc := cnt_lt2 hd hc
   have hQ : ∀ e, (cntI b.es n)[(((m + 1 : Nat) : Int) - 1).toNat]? = some e → (d : Int) = e := fun e he => by rw [show (((m + 1 : Nat) : Int) - 1).toNat = m by omega, hdi] at he; exact Option.some.inj he
   refine At.draw (.q 0 (.q 1 (.q 2 (.q 3 (.q 4 (.q 5 (.q 6 (.q 7 (.q 8 (.q 9 (.q 10 (.q 11 (.q 12 (.q 13 (.q 14 (.q 15 (.q 16 (.q 17 (.q 18 (.q 19 (.q 20 (.q 21 (.q 22 (.q 23 (.q 24 (.q 25 (.q 26 (.q 27 (.q 28 .done))))))))))))))))))))))))))))) ffm (by kernel_rfl) ?_
   refine AtT.zf ?_
   refine AtT.zf ?_
   refine AtT.qB Tryz.underlying37 tk3 ?_
   intro p48 e48 he48 hc48
   obtain rfl := hP _ he48
   first | refine AtT.zm tk3 ?_ | refine AtT.zo tk3 ?_
   refine AtT.qp ?_
   refine AtT.zU (d := 50) rfl ((by omega)) ?_
   refine AtT.zf ?_
   all_goals (first | refine AtT.kL 51 ?_ | refine AtT.zA (d := 51) rfl (fun hg51 => ?_) (fun hg51 => ?_) | refine AtT.zz (d := 51) rfl (fun hg51 => ?_) (fun hg51 => ?_))
   all_goals first|refine AtT.zi ?_|refine AtT.zg ?_|(refine AtT.zf ?_)
   all_goals first|refine AtT.zi ?_|refine AtT.zg ?_|(refine AtT.zf ?_)
   all_goals first|refine AtT.zi ?_|refine AtT.zg ?_|(refine AtT.qB Tryz.underlying37 tk3 ?_) ; (intro p54 e54 he54 hc54)
   all_goals (obtain rfl := hP _ he54)
   all_goals first|refine AtT.zi ?_|refine AtT.zg ?_|(first | refine AtT.zm tk3 ?_ | refine AtT.zo tk3 ?_)
   all_goals first|refine AtT.zi ?_|refine AtT.zg ?_|(refine AtT.zf ?_)
   all_goals first|refine AtT.zi ?_|refine AtT.zg ?_|(refine AtT.kgeq ?_)
   all_goals (refine AtT.zU (d := 57) rfl ((by omega)) ?_)
   all_goals (refine AtT.zB ?_)
   all_goals (refine AtT.zf ?_)
   all_goals (first | refine AtT.kL 59 ?_ | refine AtT.zA (d := 59) rfl (fun hg59 => ?_) (fun hg59 => ?_) | refine AtT.zz (d := 59) rfl (fun hg59 => ?_) (fun hg59 => ?_))
   all_goals first|refine AtT.zi ?_|refine AtT.zg ?_|(refine AtT.zf ?_)
   all_goals first|refine AtT.zi ?_|refine AtT.zg ?_|(refine AtT.qJ ?_)
   all_goals (refine AtT.qm (d := 61) rfl (h0) ?_)
   all_goals first|refine AtT.zi ?_|refine AtT.zg ?_|(refine AtT.zf ?_)
   all_goals (first | refine AtT.kL 62 ?_ | refine AtT.zA (d := 62) rfl (fun hg62 => ?_) (fun hg62 => ?_) | refine AtT.zz (d := 62) rfl (fun hg62 => ?_) (fun hg62 => ?_))
   all_goals first|refine AtT.zi ?_|refine AtT.zg ?_|(refine AtT.zf ?_)
   all_goals first|refine AtT.zi ?_|refine AtT.zg ?_|(refine AtT.zf ?_)
   all_goals first|refine AtT.zi ?_|refine AtT.zg ?_|(refine AtT.qB Tryz.underlying37 tk3 ?_) ; (intro p65 e65 he65 hc65)
   all_goals (obtain rfl := hP _ he65)
   all_goals first|refine AtT.zi ?_|refine AtT.zg ?_|(first | refine AtT.zm tk3 ?_ | refine AtT.zo tk3 ?_)
   all_goals first|refine AtT.zi ?_|refine AtT.zg ?_|(refine AtT.zf ?_)
   all_goals first|refine AtT.zi ?_|refine AtT.zg ?_|(refine AtT.zf ?_)
   all_goals first|refine AtT.zi ?_|refine AtT.zg ?_|(first | refine AtT.je ?_ | refine AtT.jf ?_)
   all_goals first|refine AtT.zi ?_|refine AtT.zg ?_|(refine AtT.qB Tryz.underlying37 tk3 ?_) ; (intro p70 e70 he70 hc70)
   all_goals (obtain rfl := hQ _ he70)
   all_goals first|refine AtT.zi ?_|refine AtT.zg ?_|(first | refine AtT.zm tk3 ?_ | refine AtT.zo tk3 ?_)
   all_goals first|refine AtT.zi ?_|refine AtT.zg ?_|(refine AtT.kleq ?_)
   all_goals (refine AtT.zU (d := 72) rfl ((by omega)) ?_)
   all_goals first|refine AtT.zi ?_|refine AtT.zg ?_|(refine AtT.zB ?_)
   all_goals (refine AtT.zB ?_)
   all_goals refine AtT.done ?_
   all_goals (refine At.nrm ?_)
   all_goals skip
   refine At.qf rfl rfl ?_
   refine At.nrm ?_
   refine At.zh (.q 0 (.q 1 (.q 2 (.q 3 (.q 4 (.q 5 (.n true 6 .done))))))) ?_
   refine AtT.zf ?_
   refine AtT.zf ?_
   refine AtT.zf ?_
   refine AtT.qB Tryz.underlying37 tk3 ?_
   intro p78 e78 he78 hc78
   obtain rfl := hP _ he78
   first | refine AtT.zm tk3 ?_ | refine AtT.zo tk3 ?_
   refine AtT.jV rfl trivial Tryz.underlying37 tk3 rfl rfl (by omega) (by decide) ?_
   refine AtT.jk rfl trivial rfl rfl tk3 rfl rfl (by repeat first|exact Upd.here|apply Upd.there) (qR hlt hput) ?_
   refine AtT.done ?_
   refine At.nrm ?_
   refine At.nrm ?_
   refine At.zh (.q 0 (.q 1 (.q 2 .done))) ?_
   refine AtT.zf ?_
   first | refine AtT.qI ?_ | refine AtT.ql ?_
   refine AtT.ze ?_
   refine AtT.done ?_
   refine At.nrm ?_
   refine At.round (m + 1 + 1) ?_ ?_ ?_ ?_
   ·show (cntI b.es n).length - (m + 1 + 1) < (cntI b.es n).length - (m + 1); omega
   ·exact ⟨rfl, by omega⟩
   ·exact ⟨rfl, rfl, rfl, rfl, ivs (by omega), trivial⟩
   ·exact Pt.zH
  ·refine At.draw (.q 0 (.q 1 (.q 2 (.q 3 (.q 4 (.q 5 (.q 6 (.q 7 (.q 8 (.q 9 (.q 10 (.q 11 (.q 12 (.q 13 (.q 14 (.q 15 (.q 16 (.q 17 (.q 18 (.q 19 (.q 20 (.q 21 (.q 22 (.q 23 (.q 24 (.q 25 (.q 26 (.q 27 (.q 28 .done))))))))))))))))))))))))))))) ffm (by kernel_rfl) ?_
   refine AtT.zf ?_
   refine AtT.zf ?_
   refine AtT.qB Tryz.underlying37 tk3 ?_
   intro p48 e48 he48 hc48
   obtain rfl := hP _ he48
   first | refine AtT.zm tk3 ?_ | refine AtT.zo tk3 ?_
   refine AtT.qp ?_
   refine AtT.zU (d := 50) rfl ((by omega)) ?_
   refine AtT.zf ?_
   all_goals (first | refine AtT.kL 51 ?_ | refine AtT.zA (d := 51) rfl (fun hg51 => ?_) (fun hg51 => ?_) | refine AtT.zz (d := 51) rfl (fun hg51 => ?_) (fun hg51 => ?_))
   all_goals first|refine AtT.zi ?_|refine AtT.zg ?_|(refine AtT.zf ?_)
   all_goals first|refine AtT.zi ?_|refine AtT.zg ?_|(refine AtT.zf ?_)
   all_goals first|refine AtT.zi ?_|refine AtT.zg ?_|(refine AtT.qB Tryz.underlying37 tk3 ?_) ; (intro p54 e54 he54 hc54)
   all_goals (obtain rfl := hP _ he54)
   all_goals first|refine AtT.zi ?_|refine AtT.zg ?_|(first | refine AtT.zm tk3 ?_ | refine AtT.zo tk3 ?_)
   all_goals first|refine AtT.zi ?_|refine AtT.zg ?_|(refine AtT.zf ?_)
   all_goals first|refine AtT.zi ?_|refine AtT.zg ?_|(refine AtT.kgeq ?_)
   all_goals (refine AtT.zU (d := 57) rfl ((by omega)) ?_)
   all_goals (refine AtT.zB ?_)
   all_goals (refine AtT.zf ?_)
   all_goals (first | refine AtT.kL 59 ?_ | refine AtT.zA (d := 59) rfl (fun hg59 => ?_) (fun hg59 => ?_) | refine AtT.zz (d := 59) rfl (fun hg59 => ?_) (fun hg59 => ?_))
   all_goals first|refine AtT.zi ?_|refine AtT.zg ?_|(refine AtT.zf ?_)
   all_goals first|refine AtT.zi ?_|refine AtT.zg ?_|(refine AtT.qJ ?_)
   all_goals (refine AtT.zU (d := 61) rfl (h0) ?_)
   all_goals first|refine AtT.zi ?_|refine AtT.zg ?_|(refine AtT.zf ?_)
   all_goals (first | refine AtT.kL 62 ?_ | refine AtT.zA (d := 62) rfl (fun hg62 => ?_) (fun hg62 => ?_) | refine AtT.zz (d := 62) rfl (fun hg62 => ?_) (fun hg62 => ?_))
   all_goals first|refine AtT.zi ?_|refine AtT.zg ?_|(refine AtT.zf ?_)
   all_goals first|refine AtT.zi ?_|refine AtT.zg ?_|(refine AtT.zf ?_)
   all_goals first|refine AtT.zi ?_|refine AtT.zg ?_|(refine AtT.qB Tryz.underlying37 tk3 ?_) ; (intro p65 e65 he65 hc65)
   all_goals first|refine AtT.zi ?_|refine AtT.zg ?_|(first | refine AtT.zm tk3 ?_ | refine AtT.zo tk3 ?_)
   all_goals first|refine AtT.zi ?_|refine AtT.zg ?_|(refine AtT.zf ?_)
   all_goals first|refine AtT.zi ?_|refine AtT.zg ?_|(refine AtT.zf ?_)
   all_goals first|refine AtT.zi ?_|refine AtT.zg ?_|(first | refine AtT.je ?_ | refine AtT.jf ?_)
   all_goals first|refine AtT.zi ?_|refine AtT.zg ?_|(refine AtT.qB Tryz.underlying37 tk3 ?_) ; (intro p70 e70 he70 hc70)
   all_goals first|refine AtT.zi ?_|refine AtT.zg ?_|(first | refine AtT.zm tk3 ?_ | refine AtT.zo tk3 ?_)
   all_goals first|refine AtT.zi ?_|refine AtT.zg ?_|(refine AtT.kleq ?_)
   all_goals first|refine AtT.zi ?_|refine AtT.zg ?_|(refine AtT.zB ?_)
   all_goals (refine AtT.zB ?_)
   all_goals refine AtT.done ?_
   all_goals (refine At.nrm ?_)
   all_goals skip
   refine At.qf rfl rfl ?_
   refine At.nrm ?_
   refine At.zh (.q 0 (.q 1 (.q 2 (.q 3 (.q 4 (.q 5 (.n true 6 .done))))))) ?_
   refine AtT.zf ?_
   refine AtT.zf ?_
   refine AtT.zf ?_
   refine AtT.qB Tryz.underlying37 tk3 ?_
   intro p78 e78 he78 hc78
   obtain rfl := hP _ he78
   first | refine AtT.zm tk3 ?_ | refine AtT.zo tk3 ?_
   refine AtT.jV rfl trivial Tryz.underlying37 tk3 rfl rfl (by omega) (by decide) ?_
   refine AtT.jk rfl trivial rfl rfl tk3 rfl rfl (by repeat first|exact Upd.here|apply Upd.there) (qR hlt hput) ?_
   refine AtT.done ?_
   refine At.nrm ?_
   refine At.nrm ?_
   refine At.zh (.q 0 (.q 1 (.q 2 .done))) ?_
   refine AtT.zf ?_
   first | refine AtT.qI ?_ | refine AtT.ql ?_
   refine AtT.ze ?_
   refine AtT.done ?_
   refine At.nrm ?_
   refine At.round (i + 1) ?_ ?_ ?_ ?_
   ·show (cntI b.es n).length - (i + 1) < (cntI b.es n).length - (i); omega
   ·exact ⟨rfl, by omega⟩
   ·exact ⟨rfl, rfl, rfl, rfl, ivs (by omega), trivial⟩
   ·exact Pt.zH
 obtain rfl : i = (cntS b.es n).length := by simp at hi hp; omega
 refine At.nrm ?_
 refine At.zh (.q 0 .done) ?_
 refine AtT.ze ?_
 refine AtT.done ?_
 refine At.nrm ?_
 refine At.lp (ι := Nat) (KS := fun i => [(2, .pointer (some ⟨b2, 0, none⟩)), (5, iv n), (8, .slice (some ⟨b39, 0, none⟩) n n), (10, iv i)]) (OS := fun i => [.blk b2 (LC [.slice z0 q0.length y0, .slice a0 b.es.length c0] 26), .blk b39 (LC (flat ei (mkC b.es n (cntS b.es n).length)) 3)]) (VS := fun i V'' => V'' = V' ∧ i ≤ n) (μ := fun i => n - i) 0 ?_ ?_ ?_ ?_
 ·exact ⟨rfl, rfl, rfl, rfl, trivial⟩
 ·exact Pt.zH
 ·exact ⟨rfl, Nat.zero_le _⟩
 rintro i V'' ks' O' ⟨rfl, hi2⟩ hk hO hl2
 subst hk hO
 refine At.nrm ?_
 refine At.zh (.q 0 (.q 1 (.q 2 .done))) ?_
 refine AtT.zf ?_
 refine AtT.zf ?_
 refine AtT.qp ?_
 refine AtT.done ?_
 refine At.nrm ?_
 refine At.zX rfl (fun hp2 => ?_) (fun hp2 => ?_)
 ·refine At.nrm ?_
  refine At.zh (.q 0 .done) ?_
  refine AtT.ze ?_
  refine AtT.done ?_
  refine At.nrm ?_
  refine At.zh (.q 0 (.q 1 (.q 2 .done))) ?_
  refine AtT.zf ?_
  first | refine AtT.qI ?_ | refine AtT.ql ?_
  refine AtT.ze ?_
  refine AtT.done ?_
  refine At.nrm ?_
  rw [show (0 : Int) = bkK b.es n i (i + 1) from (bkK_zero _ _ _).symm, show ((i : Int) + 1) = ((i + 1 : Nat) : Int) by omega]
  refine At.lp (ι := Nat) (KS := fun k => [(2, .pointer (some ⟨b2, 0, none⟩)), (5, iv n), (8, .slice (some ⟨b39, 0, none⟩) n n), (10, iv i), (11, iv (bkK b.es n i k)), (12, iv k)]) (OS := fun k => [.blk b2 (LC [.slice z0 q0.length y0, .slice a0 b.es.length c0] 26), .blk b39 (LC (flat ei (mkC b.es n (cntS b.es n).length)) 3)]) (VS := fun k V3 => V3 = V'' ∧ i + 1 ≤ k ∧ k ≤ n) (μ := fun k => n - k) (i + 1) ?_ ?_ ?_ ?_
  ·exact ⟨rfl, rfl, rfl, rfl, rfl, rfl, trivial⟩
  ·exact Pt.zH
  ·exact ⟨rfl, Nat.le_refl _, by omega⟩
  rintro k V3 ks' O' ⟨rfl, hki, hkn⟩ hk hO hl3
  subst hk hO
  refine At.nrm ?_
  refine At.zh (.q 0 (.q 1 (.q 2 .done))) ?_
  refine AtT.zf ?_
  refine AtT.zf ?_
  refine AtT.qp ?_
  refine AtT.done ?_
  refine At.nrm ?_
  refine At.zX rfl (fun hp3 => ?_) (fun hp3 => ?_)
  ·obtain ⟨e, he⟩ : ∃ e, b.es[k]? = some e := ⟨_, List.getElem?_eq_getElem (by omega)⟩
   have hen := enA_at he
   have hE : ∀ e', b.es[(k : Int).toNat]? = some e' → e = e' := fun e' h => by rw [Int.toNat_natCast, he] at h; exact Option.some.inj h
   have hcell := mkC_full (es := b.es) (n := n) (s := k) (by omega)
   refine At.nrm ?_
   by_cases h4 : e.k = 4
   rotate_left
   ·refine At.zh (.q 0 (.q 1 (.q 2 (.q 3 (.q 4 (.q 5 (.q 6 (.q 7 (.q 8 (.q 9 (.q 10 (.q 11 (.q 12 (.q 13 (.q 14 (.q 15 (.q 16 (.q 17 (.q 18 (.q 19 (.q 20 (.q 21 (.q 22 (.q 23 .done)))))))))))))))))))))))) ?_
    first | refine AtT.zk zu ?_ | with_reducible refine AtT.zl zu ?_ | refine AtT.zn zu ?_
    first | refine AtT.zm qo ?_ | refine AtT.zo qo ?_
    refine AtT.zf ?_
    refine AtT.qB Tryz.underlying24 qD ?_
    intro p96 e96 he96 hc96
    obtain rfl := hE _ he96
    first | refine AtT.zk zy ?_ | with_reducible refine AtT.zl zy ?_ | refine AtT.zn zy ?_
    first | refine AtT.zm tk3 ?_ | refine AtT.zo tk3 ?_
    refine AtT.qK ?_
    refine AtT.zU (d := 99) rfl (h4) ?_
    refine AtT.zf ?_
    all_goals (first | refine AtT.kL 100 ?_ | refine AtT.zA (d := 100) rfl (fun hg100 => ?_) (fun hg100 => ?_) | refine AtT.zz (d := 100) rfl (fun hg100 => ?_) (fun hg100 => ?_))
    all_goals first|refine AtT.zi ?_|refine AtT.zg ?_|(first | refine AtT.zk zu ?_ | with_reducible refine AtT.zl zu ?_ | refine AtT.zn zu ?_)
    all_goals first|refine AtT.zi ?_|refine AtT.zg ?_|(first | refine AtT.zm qo ?_ | refine AtT.zo qo ?_)
    all_goals first|refine AtT.zi ?_|refine AtT.zg ?_|(refine AtT.zf ?_)
    all_goals first|refine AtT.zi ?_|refine AtT.zg ?_|(refine AtT.qB Tryz.underlying24 qD ?_) ; (intro p104 e104 he104 hc104)
    all_goals first|refine AtT.zi ?_|refine AtT.zg ?_|(first | refine AtT.zk zJ ?_ | with_reducible refine AtT.zl zJ ?_ | refine AtT.zn zJ ?_)
    all_goals first|refine AtT.zi ?_|refine AtT.zg ?_|(first | refine AtT.zm tk3 ?_ | refine AtT.zo tk3 ?_)
    all_goals first|refine AtT.zi ?_|refine AtT.zg ?_|(refine AtT.zf ?_)
    all_goals first|refine AtT.zi ?_|refine AtT.zg ?_|(refine AtT.qK ?_)
    all_goals (refine AtT.zB ?_)
    all_goals (refine AtT.zf ?_)
    all_goals (first | refine AtT.kL 110 ?_ | refine AtT.zA (d := 110) rfl (fun hg110 => ?_) (fun hg110 => ?_) | refine AtT.zz (d := 110) rfl (fun hg110 => ?_) (fun hg110 => ?_))
    all_goals first|refine AtT.zi ?_|refine AtT.zg ?_|(refine AtT.zf ?_)
    all_goals first|refine AtT.zi ?_|refine AtT.zg ?_|(refine AtT.zf ?_)
    all_goals first|refine AtT.zi ?_|refine AtT.zg ?_|(refine AtT.qB Tryz.underlying37 tk3 ?_) ; (intro p113 e113 he113 hc113)
    all_goals first|refine AtT.zi ?_|refine AtT.zg ?_|(first | refine AtT.zm tk3 ?_ | refine AtT.zo tk3 ?_)
    all_goals first|refine AtT.zi ?_|refine AtT.zg ?_|(refine AtT.qK ?_)
    all_goals (refine AtT.zB ?_)
    all_goals refine AtT.done ?_
    all_goals (refine At.nrm ?_)
    all_goals refine At.qf rfl rfl ?_
    refine At.nrm ?_
    refine At.zh (.q 0 (.q 1 (.q 2 .done))) ?_
    refine AtT.zf ?_
    first | refine AtT.qI ?_ | refine AtT.ql ?_
    refine AtT.ze ?_
    refine AtT.done ?_
    refine At.nrm ?_
    refine At.round (k + 1) ?_ ?_ ?_ ?_
    ·show n - (k + 1) < n - k; omega
    ·exact ⟨rfl, by omega, by omega⟩
    ·exact ⟨rfl, rfl, rfl, rfl, ivs (bkK_no (by rw [hen]; exact fun h => h4 h.1)).symm, ivs (by omega), trivial⟩
    ·exact Pt.zH
   by_cases ht : e.t = (i : Int)
   rotate_left
   ·refine At.zh (.q 0 (.q 1 (.q 2 (.q 3 (.q 4 (.q 5 (.q 6 (.q 7 (.q 8 (.q 9 (.q 10 (.q 11 (.q 12 (.q 13 (.q 14 (.q 15 (.q 16 (.q 17 (.q 18 (.q 19 (.q 20 (.q 21 (.q 22 (.q 23 .done)))))))))))))))))))))))) ?_
    first | refine AtT.zk zu ?_ | with_reducible refine AtT.zl zu ?_ | refine AtT.zn zu ?_
    first | refine AtT.zm qo ?_ | refine AtT.zo qo ?_
    refine AtT.zf ?_
    refine AtT.qB Tryz.underlying24 qD ?_
    intro p96 e96 he96 hc96
    obtain rfl := hE _ he96
    first | refine AtT.zk zy ?_ | with_reducible refine AtT.zl zy ?_ | refine AtT.zn zy ?_
    first | refine AtT.zm tk3 ?_ | refine AtT.zo tk3 ?_
    refine AtT.qK ?_
    refine AtT.qm (d := 99) rfl (h4) ?_
    refine AtT.zf ?_
    all_goals (first | refine AtT.kL 100 ?_ | refine AtT.zA (d := 100) rfl (fun hg100 => ?_) (fun hg100 => ?_) | refine AtT.zz (d := 100) rfl (fun hg100 => ?_) (fun hg100 => ?_))
    all_goals first|refine AtT.zi ?_|refine AtT.zg ?_|(first | refine AtT.zk zu ?_ | with_reducible refine AtT.zl zu ?_ | refine AtT.zn zu ?_)
    all_goals first|refine AtT.zi ?_|refine AtT.zg ?_|(first | refine AtT.zm qo ?_ | refine AtT.zo qo ?_)
    all_goals first|refine AtT.zi ?_|refine AtT.zg ?_|(refine AtT.zf ?_)
    all_goals first|refine AtT.zi ?_|refine AtT.zg ?_|(refine AtT.qB Tryz.underlying24 qD ?_) ; (intro p104 e104 he104 hc104)
    all_goals (obtain rfl := hE _ he104)
    all_goals first|refine AtT.zi ?_|refine AtT.zg ?_|(first | refine AtT.zk zJ ?_ | with_reducible refine AtT.zl zJ ?_ | refine AtT.zn zJ ?_)
    all_goals first|refine AtT.zi ?_|refine AtT.zg ?_|(first | refine AtT.zm tk3 ?_ | refine AtT.zo tk3 ?_)
    all_goals first|refine AtT.zi ?_|refine AtT.zg ?_|(refine AtT.zf ?_)
    all_goals first|refine AtT.zi ?_|refine AtT.zg ?_|(refine AtT.qK ?_)
    all_goals (refine AtT.zU (d := 108) rfl (ht) ?_)
    all_goals (refine AtT.zB ?_)
    all_goals (refine AtT.zf ?_)
    all_goals (first | refine AtT.kL 110 ?_ | refine AtT.zA (d := 110) rfl (fun hg110 => ?_) (fun hg110 => ?_) | refine AtT.zz (d := 110) rfl (fun hg110 => ?_) (fun hg110 => ?_))
    all_goals first|refine AtT.zi ?_|refine AtT.zg ?_|(refine AtT.zf ?_)
    all_goals first|refine AtT.zi ?_|refine AtT.zg ?_|(refine AtT.zf ?_)
    all_goals first|refine AtT.zi ?_|refine AtT.zg ?_|(refine AtT.qB Tryz.underlying37 tk3 ?_) ; (intro p113 e113 he113 hc113)
    all_goals first|refine AtT.zi ?_|refine AtT.zg ?_|(first | refine AtT.zm tk3 ?_ | refine AtT.zo tk3 ?_)
    all_goals first|refine AtT.zi ?_|refine AtT.zg ?_|(refine AtT.qK ?_)
    all_goals (refine AtT.zB ?_)
    all_goals refine AtT.done ?_
    all_goals (refine At.nrm ?_)
    all_goals refine At.qf rfl rfl ?_
    refine At.nrm ?_
    refine At.zh (.q 0 (.q 1 (.q 2 .done))) ?_
    refine AtT.zf ?_
    first | refine AtT.qI ?_ | refine AtT.ql ?_
    refine AtT.ze ?_
    refine AtT.done ?_
    refine At.nrm ?_
    refine At.round (k + 1) ?_ ?_ ?_ ?_
    ·show n - (k + 1) < n - k; omega
    ·exact ⟨rfl, by omega, by omega⟩
    ·exact ⟨rfl, rfl, rfl, rfl, ivs (bkK_no (by rw [hen]; exact fun h => ht h.2.1)).symm, ivs (by omega), trivial⟩
    ·exact Pt.zH
   cases hgn : gone b.es n k with
   | true =>
    rw [hgn, if_pos rfl] at hcell
    refine At.zh (.q 0 (.q 1 (.q 2 (.q 3 (.q 4 (.q 5 (.q 6 (.q 7 (.q 8 (.q 9 (.q 10 (.q 11 (.q 12 (.q 13 (.q 14 (.q 15 (.q 16 (.q 17 (.q 18 (.q 19 (.q 20 (.q 21 (.q 22 (.q 23 .done)))))))))))))))))))))))) ?_
    first | refine AtT.zk zu ?_ | with_reducible refine AtT.zl zu ?_ | refine AtT.zn zu ?_
    first | refine AtT.zm qo ?_ | refine AtT.zo qo ?_
    refine AtT.zf ?_
    refine AtT.qB Tryz.underlying24 qD ?_
    intro p96 e96 he96 hc96
    obtain rfl := hE _ he96
    first | refine AtT.zk zy ?_ | with_reducible refine AtT.zl zy ?_ | refine AtT.zn zy ?_
    first | refine AtT.zm tk3 ?_ | refine AtT.zo tk3 ?_
    refine AtT.qK ?_
    refine AtT.qm (d := 99) rfl (h4) ?_
    refine AtT.zf ?_
    all_goals (first | refine AtT.kL 100 ?_ | refine AtT.zA (d := 100) rfl (fun hg100 => ?_) (fun hg100 => ?_) | refine AtT.zz (d := 100) rfl (fun hg100 => ?_) (fun hg100 => ?_))
    all_goals first|refine AtT.zi ?_|refine AtT.zg ?_|(first | refine AtT.zk zu ?_ | with_reducible refine AtT.zl zu ?_ | refine AtT.zn zu ?_)
    all_goals first|refine AtT.zi ?_|refine AtT.zg ?_|(first | refine AtT.zm qo ?_ | refine AtT.zo qo ?_)
    all_goals first|refine AtT.zi ?_|refine AtT.zg ?_|(refine AtT.zf ?_)
    all_goals first|refine AtT.zi ?_|refine AtT.zg ?_|(refine AtT.qB Tryz.underlying24 qD ?_) ; (intro p104 e104 he104 hc104)
    all_goals (obtain rfl := hE _ he104)
    all_goals first|refine AtT.zi ?_|refine AtT.zg ?_|(first | refine AtT.zk zJ ?_ | with_reducible refine AtT.zl zJ ?_ | refine AtT.zn zJ ?_)
    all_goals first|refine AtT.zi ?_|refine AtT.zg ?_|(first | refine AtT.zm tk3 ?_ | refine AtT.zo tk3 ?_)
    all_goals first|refine AtT.zi ?_|refine AtT.zg ?_|(refine AtT.zf ?_)
    all_goals first|refine AtT.zi ?_|refine AtT.zg ?_|(refine AtT.qK ?_)
    all_goals (refine AtT.qm (d := 108) rfl (ht) ?_)
    all_goals (refine AtT.zB ?_)
    all_goals (refine AtT.zf ?_)
    all_goals (first | refine AtT.kL 110 ?_ | refine AtT.zA (d := 110) rfl (fun hg110 => ?_) (fun hg110 => ?_) | refine AtT.zz (d := 110) rfl (fun hg110 => ?_) (fun hg110 => ?_))
    all_goals first|refine AtT.zi ?_|refine AtT.zg ?_|(refine AtT.zf ?_)
    all_goals first|refine AtT.zi ?_|refine AtT.zg ?_|(refine AtT.zf ?_)
    all_goals first|refine AtT.zi ?_|refine AtT.zg ?_|(refine AtT.jV rfl ⟨_, _, rfl, rfl, rfl⟩ Tryz.underlying37 tk3 rfl rfl (by omega) (by decide) ?_)
    all_goals first|refine AtT.zi ?_|refine AtT.zg ?_|(refine AtT.jE rfl ⟨_, _, rfl, rfl, rfl⟩ rfl tk3 zP.zH hcell (by decide) ?_)
    all_goals first|refine AtT.zi ?_|refine AtT.zg ?_|(refine AtT.qK ?_)
    all_goals (refine AtT.zU (d := 115) rfl ((by decide)) ?_)
    all_goals (refine AtT.zB ?_)
    all_goals refine AtT.done ?_
    all_goals (refine At.nrm ?_)
    all_goals refine At.qf rfl rfl ?_
    refine At.nrm ?_
    refine At.zh (.q 0 (.q 1 (.q 2 .done))) ?_
    refine AtT.zf ?_
    first | refine AtT.qI ?_ | refine AtT.ql ?_
    refine AtT.ze ?_
    refine AtT.done ?_
    refine At.nrm ?_
    refine At.round (k + 1) ?_ ?_ ?_ ?_
    ·show n - (k + 1) < n - k; omega
    ·exact ⟨rfl, by omega, by omega⟩
    ·exact ⟨rfl, rfl, rfl, rfl, ivs (bkK_no (by rw [hgn]; exact fun h => by cases h.2.2)).symm, ivs (by omega), trivial⟩
    ·exact Pt.zH
   | false =>
    rw [hgn, if_neg (by simp)] at hcell
    refine At.zh (.q 0 (.q 1 (.q 2 (.q 3 (.q 4 (.q 5 (.q 6 (.q 7 (.q 8 (.q 9 (.q 10 (.q 11 (.q 12 (.q 13 (.q 14 (.q 15 (.q 16 (.q 17 (.q 18 (.q 19 (.q 20 (.q 21 (.q 22 (.q 23 .done)))))))))))))))))))))))) ?_
    first | refine AtT.zk zu ?_ | with_reducible refine AtT.zl zu ?_ | refine AtT.zn zu ?_
    first | refine AtT.zm qo ?_ | refine AtT.zo qo ?_
    refine AtT.zf ?_
    refine AtT.qB Tryz.underlying24 qD ?_
    intro p96 e96 he96 hc96
    obtain rfl := hE _ he96
    first | refine AtT.zk zy ?_ | with_reducible refine AtT.zl zy ?_ | refine AtT.zn zy ?_
    first | refine AtT.zm tk3 ?_ | refine AtT.zo tk3 ?_
    refine AtT.qK ?_
    refine AtT.qm (d := 99) rfl (h4) ?_
    refine AtT.zf ?_
    all_goals (first | refine AtT.kL 100 ?_ | refine AtT.zA (d := 100) rfl (fun hg100 => ?_) (fun hg100 => ?_) | refine AtT.zz (d := 100) rfl (fun hg100 => ?_) (fun hg100 => ?_))
    all_goals first|refine AtT.zi ?_|refine AtT.zg ?_|(first | refine AtT.zk zu ?_ | with_reducible refine AtT.zl zu ?_ | refine AtT.zn zu ?_)
    all_goals first|refine AtT.zi ?_|refine AtT.zg ?_|(first | refine AtT.zm qo ?_ | refine AtT.zo qo ?_)
    all_goals first|refine AtT.zi ?_|refine AtT.zg ?_|(refine AtT.zf ?_)
    all_goals first|refine AtT.zi ?_|refine AtT.zg ?_|(refine AtT.qB Tryz.underlying24 qD ?_) ; (intro p104 e104 he104 hc104)
    all_goals (obtain rfl := hE _ he104)
    all_goals first|refine AtT.zi ?_|refine AtT.zg ?_|(first | refine AtT.zk zJ ?_ | with_reducible refine AtT.zl zJ ?_ | refine AtT.zn zJ ?_)
    all_goals first|refine AtT.zi ?_|refine AtT.zg ?_|(first | refine AtT.zm tk3 ?_ | refine AtT.zo tk3 ?_)
    all_goals first|refine AtT.zi ?_|refine AtT.zg ?_|(refine AtT.zf ?_)
    all_goals first|refine AtT.zi ?_|refine AtT.zg ?_|(refine AtT.qK ?_)
    all_goals (refine AtT.qm (d := 108) rfl (ht) ?_)
    all_goals (refine AtT.zB ?_)
    all_goals (refine AtT.zf ?_)
    all_goals (first | refine AtT.kL 110 ?_ | refine AtT.zA (d := 110) rfl (fun hg110 => ?_) (fun hg110 => ?_) | refine AtT.zz (d := 110) rfl (fun hg110 => ?_) (fun hg110 => ?_))
    all_goals first|refine AtT.zi ?_|refine AtT.zg ?_|(refine AtT.zf ?_)
    all_goals first|refine AtT.zi ?_|refine AtT.zg ?_|(refine AtT.zf ?_)
    all_goals first|refine AtT.zi ?_|refine AtT.zg ?_|(refine AtT.jV rfl ⟨_, _, rfl, rfl, rfl⟩ Tryz.underlying37 tk3 rfl rfl (by omega) (by decide) ?_)
    all_goals first|refine AtT.zi ?_|refine AtT.zg ?_|(refine AtT.jE rfl ⟨_, _, rfl, rfl, rfl⟩ rfl tk3 zP.zH hcell (by decide) ?_)
    all_goals first|refine AtT.zi ?_|refine AtT.zg ?_|(refine AtT.qK ?_)
    all_goals (refine AtT.qm (d := 115) rfl (rfl) ?_)
    all_goals (refine AtT.zB ?_)
    all_goals refine AtT.done ?_
    all_goals (refine At.nrm ?_)
    all_goals refine At.qb rfl rfl ?_
    refine At.nrm ?_
    refine At.zh (.q 0 .done) ?_
    refine AtT.ze ?_
    refine AtT.done ?_
    refine At.nrm ?_
    refine At.zh (.q 0 (.q 1 (.q 2 .done))) ?_
    refine AtT.zf ?_
    first | refine AtT.qI ?_ | refine AtT.ql ?_
    refine AtT.ze ?_
    refine AtT.done ?_
    refine At.nrm ?_
    refine At.round (k + 1) ?_ ?_ ?_ ?_
    ·show n - (k + 1) < n - k; omega
    ·exact ⟨rfl, by omega, by omega⟩
    ·exact ⟨rfl, rfl, rfl, rfl, ivs (bkK_yes (by omega) (by rw [hen]; exact h4) (by rw [hen]; exact ht) hgn).symm, ivs (by omega), trivial⟩
    ·exact Pt.zH
  obtain rfl : k = n := by omega
  have hcell := mkC_full (es := b.es) (n := k) (s := i) (by omega)
  have hend := bkK_end (i := i) hbk
  refine At.nrm ?_
  refine At.zh (.q 0 (.q 1 (.q 2 (.q 3 (.q 4 (.q 5 (.q 6 .done))))))) ?_
  refine AtT.zf ?_
  refine AtT.zf ?_
  refine AtT.jV rfl trivial Tryz.underlying37 tk3 rfl rfl (by omega) (by decide) ?_
  refine AtT.jE rfl trivial rfl tk3 zP.zH hcell (by decide) ?_
  refine AtT.zf ?_
  first | refine AtT.qI ?_ | refine AtT.ql ?_
  rw [hend]
  refine AtT.qH ?_
  refine AtT.zU (d := 123) rfl ((fun h => h rfl)) ?_
  refine AtT.done ?_
  refine At.nrm ?_
  refine At.qf rfl rfl ?_
  refine At.nrm ?_
  refine At.zh (.q 0 (.q 1 (.q 2 .done))) ?_
  refine AtT.zf ?_
  first | refine AtT.qI ?_ | refine AtT.ql ?_
  refine AtT.ze ?_
  refine AtT.done ?_
  refine At.nrm ?_
  refine At.round (i + 1) ?_ ?_ ?_ ?_
  ·show k - (i + 1) < k - i; omega
  ·exact ⟨rfl, by omega⟩
  ·exact ⟨rfl, rfl, rfl, ivs (by omega), trivial⟩
  ·exact Pt.zH
 refine At.nrm ?_
 by_cases hn0 : (n : Int) = 0
 ·refine At.zh (.q 0 (.q 1 (.q 2 (.q 3 (.q 4 (.q 5 (.q 6 (.q 7 (.q 8 (.q 9 (.q 10 (.n false 11 (.q 12 (.q 13 .done)))))))))))))) ?_
  refine AtT.zf ?_
  refine AtT.qK ?_
  refine AtT.qm (d := 125) rfl (hn0) ?_
  refine AtT.zf ?_
  all_goals (first | refine AtT.kL 126 ?_ | refine AtT.zA (d := 126) rfl (fun hg126 => ?_) (fun hg126 => ?_) | refine AtT.zz (d := 126) rfl (fun hg126 => ?_) (fun hg126 => ?_))
  all_goals first|refine AtT.zi ?_|refine AtT.zg ?_|(refine AtT.zf ?_)
  all_goals first|refine AtT.zi ?_|refine AtT.zg ?_|(refine AtT.zf ?_)
  all_goals first|refine AtT.zi ?_|refine AtT.zg ?_|(first | refine AtT.je ?_ | refine AtT.jf ?_)
  all_goals first|refine AtT.zi ?_|refine AtT.zg ?_|(refine AtT.qB Tryz.underlying37 tk3 ?_) ; (intro p130 e130 he130 hc130)
  all_goals first|refine AtT.zi ?_|refine AtT.zg ?_|(first | refine AtT.zm tk3 ?_ | refine AtT.zo tk3 ?_)
  all_goals first|refine AtT.zi ?_|refine AtT.zg ?_|(refine AtT.qK ?_)
  all_goals (refine AtT.zB ?_)
  all_goals (refine AtT.zf ?_)
  all_goals (first | refine AtT.kL 134 ?_ | refine AtT.zA (d := 134) rfl (fun hg134 => ?_) (fun hg134 => ?_) | refine AtT.zz (d := 134) rfl (fun hg134 => ?_) (fun hg134 => ?_))
  all_goals first|refine AtT.qg ?_|refine AtT.zW ?_|((refine AtT.zG rfl rfl ok17 (works_f _ hg) ?_) ; (rintro _ rfl))
  all_goals (refine AtT.zB ?_)
  all_goals (refine AtT.ze ?_)
  all_goals refine AtT.done ?_
  all_goals (refine At.nrm ?_)
  exact At.qi rfl (.tmp rfl) rfl
 obtain ⟨m, rfl⟩ : ∃ m, n = m + 1 := ⟨n - 1, by omega⟩
 have hcell := mkC_full (es := b.es) (n := m + 1) (s := m) (by omega)
 rw [gone_out hbk (by omega), if_neg (by simp)] at hcell
 refine At.zh (.q 0 (.q 1 (.q 2 (.q 3 (.q 4 (.q 5 (.q 6 (.q 7 (.q 8 (.q 9 (.q 10 (.n false 11 (.q 12 (.q 13 .done)))))))))))))) ?_
 refine AtT.zf ?_
 refine AtT.qK ?_
 refine AtT.zU (d := 125) rfl (hn0) ?_
 refine AtT.zf ?_
 all_goals (first | refine AtT.kL 126 ?_ | refine AtT.zA (d := 126) rfl (fun hg126 => ?_) (fun hg126 => ?_) | refine AtT.zz (d := 126) rfl (fun hg126 => ?_) (fun hg126 => ?_))
 all_goals first|refine AtT.zi ?_|refine AtT.zg ?_|(refine AtT.zf ?_)
 all_goals first|refine AtT.zi ?_|refine AtT.zg ?_|(refine AtT.zf ?_)
 all_goals first|refine AtT.zi ?_|refine AtT.zg ?_|(first | refine AtT.je ?_ | refine AtT.jf ?_)
 all_goals (rw [show (((m + 1 : Nat) : Int) - 1) = ((m : Nat) : Int) by omega])
 all_goals first|refine AtT.zi ?_|refine AtT.zg ?_|(refine AtT.jV rfl ⟨_, _, rfl, rfl, rfl⟩ Tryz.underlying37 tk3 rfl rfl (by omega) (by decide) ?_)
 all_goals first|refine AtT.zi ?_|refine AtT.zg ?_|(refine AtT.jE rfl ⟨_, _, rfl, rfl, rfl⟩ rfl tk3 zP.zH hcell (by decide) ?_)
 all_goals first|refine AtT.zi ?_|refine AtT.zg ?_|(refine AtT.qK ?_)
 all_goals (refine AtT.qm (d := 132) rfl (rfl) ?_)
 all_goals (refine AtT.zB ?_)
 all_goals (refine AtT.zf ?_)
 all_goals (first | refine AtT.kL 134 ?_ | refine AtT.zA (d := 134) rfl (fun hg134 => ?_) (fun hg134 => ?_) | refine AtT.zz (d := 134) rfl (fun hg134 => ?_) (fun hg134 => ?_))
 all_goals first|refine AtT.qg ?_|refine AtT.zW ?_|((refine AtT.zG rfl rfl ok17 (works_f _ hg) ?_) ; (rintro _ rfl))
 all_goals (refine AtT.zB ?_)
 all_goals (refine AtT.ze ?_)
 all_goals refine AtT.done ?_
 all_goals (refine At.nrm ?_)
 all_goals (exact At.qi rfl (.tmp rfl) rfl)
end Go.Proofs.YtpoignmclfdgpaaGreatDoor
