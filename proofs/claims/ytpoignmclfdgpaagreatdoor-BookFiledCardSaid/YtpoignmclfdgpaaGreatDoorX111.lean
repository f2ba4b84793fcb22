/- Texts that the last one of this claim imports. -/
import Derived.Test.YtpoignmclfdgpaaGreatDoorB6
set_option linter.unusedVariables false
set_option linter.unusedSimpArgs false
set_option linter.unusedSectionVars false

set_option linter.unusedVariables false
namespace Go.Bk
open Go.Lw Go.Gl
theorem goneK_congr {es es' : List En} {first : Nat} (h : ∀ i, i < first → enA es i = enA es' i) : ∀ {k : Nat} {s : Nat}, k ≤ first → qW es first k s = qW es' first k s
 | 0, s, _ => rfl
 | k + 1, s, hk => by
  simp only [qW]
  rw [goneK_congr h (k := k) (s := s) (by omega), goneK_congr h (k := k) (s := first - 1 - k) (by omega), h (first - 1 - k) (by omega)]
theorem cntS_congr {es es' : List En} {first : Nat} (h : ∀ i, i < first → enA es i = enA es' i) : cntS es first = cntS es' first := by
 unfold cntS gone
 exact List.filter_congr fun i _ => by rw [goneK_congr h (Nat.le_refl _)]
theorem runS_congr {rs : List Rc} {es es' : List En} {first : Nat} (h : ∀ i, i < first → enA es i = enA es' i) (day : Int) : runS rs es first day = runS rs es' first day := by
 unfold runS
 rw [cntS_congr h, List.map_congr_left fun i hi => h i (cntS_lt hi)]
theorem enA_take {es : List En} {i n : Nat} (h : i < n) : enA (es.take n) i = enA es i := by
 unfold enA List.getD; rw [List.getElem?_take, if_pos h]
def lastD (last : Int) : List En → Int
 | [] => last
 | e :: es => lastD e.d es
theorem ens_take {rs : List Rc} : ∀ {es : List En} {index last : Int} (n : Nat), EnsOk rs index last es → EnsOk rs index last (es.take n)
 | [], _, _, n, h => by rw [List.take_nil]; exact h
 | e :: es, _, _, 0, h => .nil _ _
 | e :: es, _, _, n + 1, h => by
  cases h with
  | cons h1 h2 => exact .cons h1 (ens_take n h2)
theorem lastD_bd {rs : List Rc} : ∀ {es : List En} {index last : Int}, EnsOk rs index last es → (0 ≤ last ∧ last ≤ 999) → 0 ≤ lastD last es ∧ lastD last es ≤ 999
 | [], _, _, _, h => h
 | e :: es, _, _, h, hl => by
  cases h with
  | cons h1 h2 => show 0 ≤ lastD e.d es ∧ lastD e.d es ≤ 999; exact lastD_bd h2 h1.d
theorem Right.ens {b : Bo} (h : Right b) : EnsOk b.rs 0 0 b.es := entsE_iff.1 h.en
theorem Right.last {b : Bo} (h : Right b) : 0 ≤ lastD 0 b.es ∧ lastD 0 b.es ≤ 999 := lastD_bd h.ens (by decide)
theorem Right.take {b : Bo} (h : Right b) (n : Nat) : Right ⟨b.rs, b.es.take n⟩ := by
 refine ⟨h.cr, ?_, entsE_iff.2 (ens_take n h.ens), fun k hk => ?_⟩
 ·have := h.len; simp only [List.length_take]; omega
 ·simp only [List.length_take] at hk
  show (runS b.rs (b.es.take n) (k + 1) 999).isSome = true
  rw [runS_congr (es' := b.es) (fun i hi => enA_take (by omega))]
  exact h.run k (by omega)
end Go.Bk
set_option linter.unusedVariables false
namespace Go.Bk
open Go.Lw Go.Gl
def netR (rs : List Rc) (day : Int) (y : Int) (e : En) : Int := if day < e.d then 0 else if e.k = 1 then e.n * ja rs e.t y else if e.k = 2 then - (e.n * ja rs e.t y) else 0
theorem kept {b : Bo} (hb : Right b) {first : Nat} (hf : first ≤ b.es.length) {day : Int} {st : Nat → Int} (hst : runS b.rs b.es first day = some st) (y : Nat) :
  ji st (fun s => ja b.rs s y) 8 = ((cntS b.es first).map fun i => netR b.rs day y (enA b.es i)).sum := by
 have hg := hb.bog
 have hin : ∀ e ∈ (cntS b.es first).map (enA b.es), ∃ k l, EnOk b.rs e k l := fun e he => by
  obtain ⟨i, hi, rfl⟩ := List.mem_map.1 he
  have hx := List.getElem?_eq_getElem (l := b.es) (i := i) (by have := cntS_lt hi; omega)
  rw [enA_at hx]
  obtain ⟨l, h1, _⟩ := ensOk_at hb.ens hx
  exact ⟨_, l, h1⟩
 unfold runS at hst
 rw [run_dot hg.rs (r := fun s => ja b.rs s y) (fun e he h4 => by
  obtain ⟨k, l, h⟩ := hin e he
  exact ⟨(h.th h4).1, (h.th h4).2.1⟩) hst, dot_zero, Int.zero_add, List.map_map]
 refine sum_congr fun i hi => ?_
 obtain ⟨k, l, h⟩ := hin _ (List.mem_map.2 ⟨i, hi, rfl⟩)
 show (if day < (enA b.es i).d then 0 else addR (enA b.es i) (fun s => ja b.rs s y) - takeR b.rs (enA b.es i) (fun s => ja b.rs s y)) = netR b.rs day y (enA b.es i)
 generalize enA b.es i = e at h
 show (if day < e.d then 0 else addR e (fun s => ja b.rs s y) - takeR b.rs e (fun s => ja b.rs s y)) = netR b.rs day y e
 unfold netR addR takeR
 have hk := h.k
 by_cases hd : day < e.d
 ·rw [if_pos hd, if_pos hd]
 rw [if_neg hd, if_neg hd]
 have ht : e.k ≠ 4 → ((e.t.toNat : Nat) : Int) = e.t := fun h4 => Int.toNat_of_nonneg (h.th h4).1
 by_cases k1 : e.k = 1
 ·rw [if_pos (.inl k1), if_neg (by omega), if_neg (by omega), if_pos k1]
  dsimp only
  rw [ht (by omega)]; omega
 by_cases k2 : e.k = 2
 ·rw [if_neg (by omega), if_pos k2, if_neg k1, if_pos k2]
  dsimp only
  rw [ht (by omega)]; omega
 by_cases k3 : e.k = 3
 ·rw [if_pos (.inr k3), if_neg k2, if_pos k3, if_neg k1, if_neg k2]
  dsimp only
  rw [ht (by omega), rawO_made hg.rs (h.th (by omega)).2.1 (h.made k3)]
  have e1 : ((partsOf b.rs e.t).map fun p => e.n * p.n * ja b.rs (p.t.toNat : Int) y).sum = ((partsOf b.rs e.t).map fun p => e.n * (p.n * ja b.rs p.t y)).sum := sum_congr fun p hp => by
   have := qj hg.rs hp
   rw [Int.toNat_of_nonneg this.1, Int.mul_assoc]
  rw [e1, sum_mul]; omega
 ·rw [if_neg (by omega), if_neg k2, if_neg k3, if_neg k1, if_neg k2]; rfl
end Go.Bk
set_option linter.unusedVariables false
namespace Go.Proofs.YtpoignmclfdgpaaGreatDoor
open Go.Lw Go.Gl Go.Bk Go.RowKit
theorem fine_ok {b : Bo} (h : (!grB b && decide (bkE b = 0)) = true) : grB b = false ∧ bkE b = 0 := by
 simpa using h
abbrev bX (b : Bo) (e : En) : Bo := withB b e
abbrev bY (b : Bo) (e : En) : Bo := withB (bX b e) ⟨e.d, 4, b.es.length, 0⟩
abbrev bZ (b : Bo) (e : En) : Bo := withB (bY b e) ⟨e.d, 4, (b.es.length : Int) + 1, 0⟩
structure TkL (b : Bo) (e : En) (d : Int) : Prop where
 y : bkE (bY b e) = 0
 z : bkE (bZ b e) = 0
 k1 : kg b b.es.length d = 0
 k2 : kg (bX b e) ((b.es.length : Int) + 1) d = 0
 k3 : kg (bY b e) ((b.es.length : Int) + 2) d = 0
 k4 : kg (bZ b e) ((b.es.length : Int) + 3) d = 0
 k5 : kg (bZ b e) b.es.length d = 0
 k6 : kg (bZ b e) ((b.es.length : Int) + 2) d = 0
 l1 : jZ b b.es.length d = jZ (bY b e) ((b.es.length : Int) + 2) d
 l2 : jZ (bX b e) ((b.es.length : Int) + 1) d = jZ (bZ b e) ((b.es.length : Int) + 3) d
 l3 : jZ b b.es.length d = jZ (bZ b e) b.es.length d
 l4 : jZ (bZ b e) ((b.es.length : Int) + 2) d = jZ (bY b e) ((b.es.length : Int) + 2) d
end Go.Proofs.YtpoignmclfdgpaaGreatDoor
set_option linter.unusedVariables false
namespace Go.Proofs.YtpoignmclfdgpaaGreatDoor
open Go.Lw Go.Gl Go.Bk Go.RowKit
theorem bookFiled_f (b : Bo) (s : List UInt8) (hsl : s.length ≤ 9223372036854775807) (V : View) (hg : GvV V) (v : Value) (hv : BoV V v b) : Fnc Tryz.prog 13 [v, sT s] V fun r _ => r = .bool true := by
 obtain ⟨w0, a0, c0, rfl, ⟨q0, z0, y0, e0, rfl, i0, j0⟩, s0⟩ := id hv
 clear e0 i0 j0 s0
 refine qh Tryz.func13 rfl Tryz.ntmps13 (Nat.le_of_ble_eq_true rfl) ?_
 intro w0 hw0
 refine At.nrm ?_
 refine At.zh (.n false 0 (.q 1 .done)) ?_
 refine AtT.jd ?_
 intro b2
 refine AtT.ze ?_
 refine AtT.done ?_
 refine At.nrm ?_
 cases hfine : (!grB b && decide (bkE b = 0)) with
 | false =>
  refine At.zh (.q 0 (.n false 1 (.q 2 (.q 3 (.q 4 (.q 5 (.q 6 (.q 7 .done)))))))) ?_
  first | refine AtT.zD zK ?_ | refine AtT.zI zK ?_ | refine AtT.zC zK ?_
  refine AtT.zG rfl rfl ok41 (fine_f b _ _ hv) ?_
  rintro _ rfl
  refine AtT.qM (d := 13) rfl (hfine) ?_
  refine AtT.qF ?_
  refine AtT.qM (d := 14) rfl ((show (!false) = true from rfl)) ?_
  refine AtT.zf ?_
  all_goals (first | refine AtT.kL 15 ?_ | refine AtT.zA (d := 15) rfl (fun hg15 => ?_) (fun hg15 => ?_) | refine AtT.zz (d := 15) rfl (fun hg15 => ?_) (fun hg15 => ?_))
  all_goals first|refine AtT.zi ?_|refine AtT.zg ?_|(refine AtT.zf ?_)
  all_goals first|refine AtT.zi ?_|refine AtT.zg ?_|(refine AtT.lenT rfl ⟨_, _, rfl, rfl, rfl⟩ Tryz.underlying9 rfl (by decide) ?_)
  all_goals first|refine AtT.zi ?_|refine AtT.zg ?_|(refine AtT.qJ ?_)
  all_goals (refine AtT.zB ?_)
  all_goals refine AtT.done ?_
  all_goals (refine At.nrm ?_)
  all_goals refine At.qb rfl rfl ?_
  refine At.nrm ?_
  refine At.zh (.n false 0 (.q 1 .done)) ?_
  refine AtT.zG rfl rfl ok17 (works_f _ hg) ?_
  rintro _ rfl
  refine AtT.ze ?_
  refine AtT.done ?_
  refine At.nrm ?_
  exact At.qi rfl (.tmp rfl) rfl
 | true =>
 by_cases hl : 4000 < (s.length : Int)
 ·refine At.zh (.q 0 (.n false 1 (.q 2 (.q 3 (.q 4 (.q 5 (.q 6 (.q 7 .done)))))))) ?_
  first | refine AtT.zD zK ?_ | refine AtT.zI zK ?_ | refine AtT.zC zK ?_
  refine AtT.zG rfl rfl ok41 (fine_f b _ _ hv) ?_
  rintro _ rfl
  refine AtT.qM (d := 13) rfl (hfine) ?_
  refine AtT.qF ?_
  refine AtT.qM (d := 14) rfl ((show (!true) = false from rfl)) ?_
  refine AtT.zf ?_
  all_goals (first | refine AtT.kL 15 ?_ | refine AtT.zA (d := 15) rfl (fun hg15 => ?_) (fun hg15 => ?_) | refine AtT.zz (d := 15) rfl (fun hg15 => ?_) (fun hg15 => ?_))
  all_goals first|refine AtT.zi ?_|refine AtT.zg ?_|(refine AtT.zf ?_)
  all_goals first|refine AtT.zi ?_|refine AtT.zg ?_|(refine AtT.lenT rfl ⟨_, _, rfl, rfl, rfl⟩ Tryz.underlying9 rfl (by decide) ?_)
  all_goals first|refine AtT.zi ?_|refine AtT.zg ?_|(refine AtT.qJ ?_)
  all_goals (refine AtT.qm (d := 18) rfl (hl) ?_)
  all_goals (refine AtT.zB ?_)
  all_goals refine AtT.done ?_
  all_goals (refine At.nrm ?_)
  all_goals refine At.qb rfl rfl ?_
  refine At.nrm ?_
  refine At.zh (.n false 0 (.q 1 .done)) ?_
  refine AtT.zG rfl rfl ok17 (works_f _ hg) ?_
  rintro _ rfl
  refine AtT.ze ?_
  refine AtT.done ?_
  refine At.nrm ?_
  exact At.qi rfl (.tmp rfl) rfl
 refine At.zh (.q 0 (.n false 1 (.q 2 (.q 3 (.q 4 (.q 5 (.q 6 (.q 7 .done)))))))) ?_
 first | refine AtT.zD zK ?_ | refine AtT.zI zK ?_ | refine AtT.zC zK ?_
 refine AtT.zG rfl rfl ok41 (fine_f b _ _ hv) ?_
 rintro _ rfl
 refine AtT.qM (d := 13) rfl (hfine) ?_
 refine AtT.qF ?_
 refine AtT.qM (d := 14) rfl ((show (!true) = false from rfl)) ?_
 refine AtT.zf ?_
 all_goals (first | refine AtT.kL 15 ?_ | refine AtT.zA (d := 15) rfl (fun hg15 => ?_) (fun hg15 => ?_) | refine AtT.zz (d := 15) rfl (fun hg15 => ?_) (fun hg15 => ?_))
 all_goals first|refine AtT.zi ?_|refine AtT.zg ?_|(refine AtT.zf ?_)
 all_goals first|refine AtT.zi ?_|refine AtT.zg ?_|(refine AtT.lenT rfl ⟨_, _, rfl, rfl, rfl⟩ Tryz.underlying9 rfl (by decide) ?_)
 all_goals first|refine AtT.zi ?_|refine AtT.zg ?_|(refine AtT.qJ ?_)
 all_goals (refine AtT.zU (d := 18) rfl (hl) ?_)
 all_goals (refine AtT.zB ?_)
 all_goals refine AtT.done ?_
 all_goals (refine At.nrm ?_)
 all_goals refine At.qf rfl rfl ?_
 refine At.nrm ?_
 obtain ⟨hgr, hb0⟩ := fine_ok hfine
 have hR := jA.1 hb0
 have hfl := hR.file_len
 have hld : loadR (kJ b) = (b, 0) := load_file hR.nm hb0 (by omega)
 refine At.zh (.q 0 (.n false 1 (.q 2 (.q 3 (.q 4 (.q 5 (.q 6 .done))))))) ?_
 first | refine AtT.zD zK ?_ | refine AtT.zI zK ?_ | refine AtT.zC zK ?_
 refine AtT.zG rfl rfl ok37 (file_f b _ hg _ hv) ?_
 rintro _ rfl; rw [hb0, if_pos rfl]
 refine AtT.zf ?_
 refine AtT.zt ?_
 refine AtT.zt ?_
 refine AtT.ze ?_
 refine AtT.ze ?_
 refine AtT.done ?_
 refine At.nrm ?_
 refine At.zh (.q 0 (.q 1 (.q 2 (.q 3 (.q 4 (.q 5 (.q 6 .done))))))) ?_
 refine AtT.zf ?_
 refine AtT.qH ?_
 refine AtT.zU (d := 27) rfl ((fun h => h rfl)) ?_
 refine AtT.zf ?_
 all_goals (first | refine AtT.kL 28 ?_ | refine AtT.zA (d := 28) rfl (fun hg28 => ?_) (fun hg28 => ?_) | refine AtT.zz (d := 28) rfl (fun hg28 => ?_) (fun hg28 => ?_))
 all_goals first|refine AtT.zi ?_|refine AtT.zg ?_|(refine AtT.zf ?_)
 all_goals first|refine AtT.zi ?_|refine AtT.zg ?_|(refine AtT.lenT rfl ⟨_, _, rfl, rfl, rfl⟩ Tryz.underlying9 rfl (by decide) ?_)
 all_goals first|refine AtT.zi ?_|refine AtT.zg ?_|(refine AtT.qJ ?_)
 all_goals (refine AtT.zU (d := 31) rfl ((by omega)) ?_)
 all_goals (refine AtT.zB ?_)
 all_goals refine AtT.done ?_
 all_goals (refine At.nrm ?_)
 all_goals refine At.qf rfl rfl ?_
 refine At.nrm ?_
 refine At.zh (.q 0 (.n false 1 (.q 2 (.q 3 (.q 4 (.n false 5 (.n true 6 (.q 7 .done)))))))) ?_
 refine AtT.zf ?_
 refine AtT.qa rfl rfl ok39 (load_f (kJ b) (by omega) _ hg) ?_
 rintro _ V35 hV35 ⟨u35, rfl, h35⟩; rw [hld] at h35; rw [hld]; obtain ⟨w35, a35, c35, rfl, ⟨q35, z35, y35, e35, rfl, i35, j35⟩, s35⟩ := id h35; clear e35 i35 j35 s35
 refine AtT.zf ?_
 refine AtT.zt ?_
 refine AtT.zt ?_
 refine AtT.zT z26 ?_
 intro b7
 refine AtT.zF zK ?_
 refine AtT.ze ?_
 refine AtT.done ?_
 refine At.nrm ?_
 replace hg := hg.le hV35
 replace hv := hv.le hV35
 refine At.zh (.q 0 (.q 1 (.q 2 (.q 3 (.q 4 (.n false 5 (.q 6 (.q 7 .done)))))))) ?_
 refine AtT.zf ?_
 refine AtT.qH ?_
 refine AtT.zU (d := 39) rfl ((fun h => h rfl)) ?_
 refine AtT.zf ?_
 all_goals (first | refine AtT.kL 40 ?_ | refine AtT.zA (d := 40) rfl (fun hg40 => ?_) (fun hg40 => ?_) | refine AtT.zz (d := 40) rfl (fun hg40 => ?_) (fun hg40 => ?_))
 all_goals first|refine AtT.zi ?_|refine AtT.zg ?_|(first | refine AtT.zD zK ?_ | refine AtT.zI zK ?_ | refine AtT.zC zK ?_)
 all_goals first|refine AtT.zi ?_|refine AtT.zg ?_|(first | refine AtT.zD zK ?_ | refine AtT.zI zK ?_ | refine AtT.zC zK ?_)
 all_goals first|refine AtT.qg ?_|refine AtT.zW ?_|((refine AtT.zG rfl rfl ok30 (same_f b b _ _ _ h35 hv) ?_) ; (rintro _ rfl))
 all_goals (refine AtT.qm (d := 43) rfl (rfl) ?_)
 all_goals first|refine AtT.zi ?_|refine AtT.zg ?_|(refine AtT.qF ?_)
 all_goals (refine AtT.qM (d := 44) rfl ((show (!true) = false from rfl)) ?_)
 all_goals (refine AtT.zB ?_)
 all_goals refine AtT.done ?_
 all_goals (refine At.nrm ?_)
 all_goals refine At.qf rfl rfl ?_
 refine At.nrm ?_
 refine At.zh (.q 0 (.n false 1 (.q 2 (.q 3 (.q 4 (.n false 5 (.n true 6 (.q 7 .done)))))))) ?_
 refine AtT.zf ?_
 refine AtT.qa rfl rfl ok39 (load_f s (by omega) _ hg) ?_
 rintro _ V48 hV48 ⟨u48, rfl, h48⟩; obtain ⟨w48, a48, c48, rfl, ⟨q48, z48, y48, e48, rfl, i48, j48⟩, s48⟩ := id h48; clear e48 i48 j48 s48
 refine AtT.zf ?_
 refine AtT.zt ?_
 refine AtT.zt ?_
 refine AtT.zT z26 ?_
 intro b9
 refine AtT.zF zK ?_
 refine AtT.ze ?_
 refine AtT.done ?_
 refine At.nrm ?_
 replace hg := hg.le hV48
 by_cases he : (loadR s).2 = 0
 rotate_left
 ·refine At.zh (.q 0 (.q 1 .done)) ?_
  refine AtT.zf ?_
  refine AtT.qH ?_
  refine AtT.qm (d := 52) rfl (he) ?_
  refine AtT.done ?_
  refine At.nrm ?_
  refine At.qb rfl rfl ?_
  refine At.nrm ?_
  refine At.zh (.n false 0 (.q 1 .done)) ?_
  refine AtT.zG rfl rfl ok17 (works_f _ hg) ?_
  rintro _ rfl
  refine AtT.ze ?_
  refine AtT.done ?_
  refine At.nrm ?_
  exact At.qi rfl (.tmp rfl) rfl
 obtain ⟨hp1, hp2, _⟩ := load_print he
 refine At.zh (.q 0 (.q 1 .done)) ?_
 refine AtT.zf ?_
 refine AtT.qH ?_
 refine AtT.zU (d := 52) rfl ((fun h => h he)) ?_
 refine AtT.done ?_
 refine At.nrm ?_
 refine At.qf rfl rfl ?_
 refine At.nrm ?_
 refine At.zh (.q 0 (.n false 1 (.q 2 (.q 3 (.q 4 (.q 5 (.q 6 .done))))))) ?_
 first | refine AtT.zD zK ?_ | refine AtT.zI zK ?_ | refine AtT.zC zK ?_
 refine AtT.zG rfl rfl ok37 (file_f (loadR s).1 _ hg _ h48) ?_
 rintro _ rfl; rw [hp2, if_pos rfl, hp1]
 refine AtT.zf ?_
 refine AtT.zt ?_
 refine AtT.zt ?_
 refine AtT.ze ?_
 refine AtT.ze ?_
 refine AtT.done ?_
 refine At.nrm ?_
 refine At.zh (.q 0 (.q 1 (.q 2 (.q 3 (.q 4 (.q 5 (.q 6 (.q 7 (.n false 8 (.q 9 (.q 10 .done))))))))))) ?_
 refine AtT.zf ?_
 refine AtT.qK ?_
 refine AtT.qm (d := 60) rfl (rfl) ?_
 refine AtT.zf ?_
 all_goals (first | refine AtT.kL 61 ?_ | refine AtT.zA (d := 61) rfl (fun hg61 => ?_) (fun hg61 => ?_) | refine AtT.zz (d := 61) rfl (fun hg61 => ?_) (fun hg61 => ?_))
 all_goals first|refine AtT.zi ?_|refine AtT.zg ?_|(refine AtT.zf ?_)
 all_goals first|refine AtT.zi ?_|refine AtT.zg ?_|(refine AtT.zf ?_)
 all_goals first|refine AtT.zi ?_|refine AtT.zg ?_|(refine AtT.eqT rfl ⟨_, _, rfl, rfl, rfl⟩ rfl rfl (by decide) ?_)
 all_goals (refine AtT.qm (d := 64) rfl (rfl) ?_)
 all_goals (refine AtT.zB ?_)
 all_goals (refine AtT.zf ?_)
 all_goals (first | refine AtT.kL 66 ?_ | refine AtT.zA (d := 66) rfl (fun hg66 => ?_) (fun hg66 => ?_) | refine AtT.zz (d := 66) rfl (fun hg66 => ?_) (fun hg66 => ?_))
 all_goals first|refine AtT.qg ?_|refine AtT.zW ?_|((refine AtT.zG rfl rfl ok17 (works_f _ hg) ?_) ; (rintro _ rfl))
 all_goals (refine AtT.zB ?_)
 all_goals (refine AtT.ze ?_)
 all_goals refine AtT.done ?_
 all_goals (refine At.nrm ?_)
 all_goals (exact At.qi rfl (.tmp rfl) rfl)
end Go.Proofs.YtpoignmclfdgpaaGreatDoor
