/- Texts that the last one of this claim imports. -/
import Derived.Test.YtpoignmclfdgpaaGreatDoorB6
set_option linter.unusedVariables false
set_option linter.unusedSimpArgs false
set_option linter.unusedSectionVars false

set_option linter.unusedVariables false
namespace Go.Bk
open Go.Lw Go.Gl
theorem goneK_congr {es es' : List En} {first : Nat} (h : ∀ i, i < first → enA es i = enA es' i) : ∀ {k : Nat} {s : Nat}, k ≤ first → qW es first k s = qW es' first k s
 | 0, s, _ => rfl
 | k + 1, s, hk => by
  simp only [qW]
  rw [goneK_congr h (k := k) (s := s) (by omega), goneK_congr h (k := k) (s := first - 1 - k) (by omega), h (first - 1 - k) (by omega)]
theorem cntS_congr {es es' : List En} {first : Nat} (h : ∀ i, i < first → enA es i = enA es' i) : cntS es first = cntS es' first := by
 unfold cntS gone
 exact List.filter_congr fun i _ => by rw [goneK_congr h (Nat.le_refl _)]
theorem runS_congr {rs : List Rc} {es es' : List En} {first : Nat} (h : ∀ i, i < first → enA es i = enA es' i) (day : Int) : runS rs es first day = runS rs es' first day := by
 unfold runS
 rw [cntS_congr h, List.map_congr_left fun i hi => h i (cntS_lt hi)]
theorem enA_take {es : List En} {i n : Nat} (h : i < n) : enA (es.take n) i = enA es i := by
 unfold enA List.getD; rw [List.getElem?_take, if_pos h]
def lastD (last : Int) : List En → Int
 | [] => last
 | e :: es => lastD e.d es
theorem ens_take {rs : List Rc} : ∀ {es : List En} {index last : Int} (n : Nat), EnsOk rs index last es → EnsOk rs index last (es.take n)
 | [], _, _, n, h => by rw [List.take_nil]; exact h
 | e :: es, _, _, 0, h => .nil _ _
 | e :: es, _, _, n + 1, h => by
  cases h with
  | cons h1 h2 => exact .cons h1 (ens_take n h2)
theorem lastD_bd {rs : List Rc} : ∀ {es : List En} {index last : Int}, EnsOk rs index last es → (0 ≤ last ∧ last ≤ 999) → 0 ≤ lastD last es ∧ lastD last es ≤ 999
 | [], _, _, _, h => h
 | e :: es, _, _, h, hl => by
  cases h with
  | cons h1 h2 => show 0 ≤ lastD e.d es ∧ lastD e.d es ≤ 999; exact lastD_bd h2 h1.d
theorem Right.ens {b : Bo} (h : Right b) : EnsOk b.rs 0 0 b.es := entsE_iff.1 h.en
theorem Right.last {b : Bo} (h : Right b) : 0 ≤ lastD 0 b.es ∧ lastD 0 b.es ≤ 999 := lastD_bd h.ens (by decide)
theorem Right.take {b : Bo} (h : Right b) (n : Nat) : Right ⟨b.rs, b.es.take n⟩ := by
 refine ⟨h.cr, ?_, entsE_iff.2 (ens_take n h.ens), fun k hk => ?_⟩
 ·have := h.len; simp only [List.length_take]; omega
 ·simp only [List.length_take] at hk
  show (runS b.rs (b.es.take n) (k + 1) 999).isSome = true
  rw [runS_congr (es' := b.es) (fun i hi => enA_take (by omega))]
  exact h.run k (by omega)
end Go.Bk
set_option linter.unusedVariables false
namespace Go.Bk
open Go.Lw Go.Gl
def netR (rs : List Rc) (day : Int) (y : Int) (e : En) : Int := if day < e.d then 0 else if e.k = 1 then e.n * ja rs e.t y else if e.k = 2 then - (e.n * ja rs e.t y) else 0
theorem kept {b : Bo} (hb : Right b) {first : Nat} (hf : first ≤ b.es.length) {day : Int} {st : Nat → Int} (hst : runS b.rs b.es first day = some st) (y : Nat) :
  ji st (fun s => ja b.rs s y) 8 = ((cntS b.es first).map fun i => netR b.rs day y (enA b.es i)).sum := by
 have hg := hb.bog
 have hin : ∀ e ∈ (cntS b.es first).map (enA b.es), ∃ k l, EnOk b.rs e k l := fun e he => by
  obtain ⟨i, hi, rfl⟩ := List.mem_map.1 he
  have hx := List.getElem?_eq_getElem (l := b.es) (i := i) (by have := cntS_lt hi; omega)
  rw [enA_at hx]
  obtain ⟨l, h1, _⟩ := ensOk_at hb.ens hx
  exact ⟨_, l, h1⟩
 unfold runS at hst
 rw [run_dot hg.rs (r := fun s => ja b.rs s y) (fun e he h4 => by
  obtain ⟨k, l, h⟩ := hin e he
  exact ⟨(h.th h4).1, (h.th h4).2.1⟩) hst, dot_zero, Int.zero_add, List.map_map]
 refine sum_congr fun i hi => ?_
 obtain ⟨k, l, h⟩ := hin _ (List.mem_map.2 ⟨i, hi, rfl⟩)
 show (if day < (enA b.es i).d then 0 else addR (enA b.es i) (fun s => ja b.rs s y) - takeR b.rs (enA b.es i) (fun s => ja b.rs s y)) = netR b.rs day y (enA b.es i)
 generalize enA b.es i = e at h
 show (if day < e.d then 0 else addR e (fun s => ja b.rs s y) - takeR b.rs e (fun s => ja b.rs s y)) = netR b.rs day y e
 unfold netR addR takeR
 have hk := h.k
 by_cases hd : day < e.d
 ·rw [if_pos hd, if_pos hd]
 rw [if_neg hd, if_neg hd]
 have ht : e.k ≠ 4 → ((e.t.toNat : Nat) : Int) = e.t := fun h4 => Int.toNat_of_nonneg (h.th h4).1
 by_cases k1 : e.k = 1
 ·rw [if_pos (.inl k1), if_neg (by omega), if_neg (by omega), if_pos k1]
  dsimp only
  rw [ht (by omega)]; omega
 by_cases k2 : e.k = 2
 ·rw [if_neg (by omega), if_pos k2, if_neg k1, if_pos k2]
  dsimp only
  rw [ht (by omega)]; omega
 by_cases k3 : e.k = 3
 ·rw [if_pos (.inr k3), if_neg k2, if_pos k3, if_neg k1, if_neg k2]
  dsimp only
  rw [ht (by omega), rawO_made hg.rs (h.th (by omega)).2.1 (h.made k3)]
  have e1 : ((partsOf b.rs e.t).map fun p => e.n * p.n * ja b.rs (p.t.toNat : Int) y).sum = ((partsOf b.rs e.t).map fun p => e.n * (p.n * ja b.rs p.t y)).sum := sum_congr fun p hp => by
   have := qj hg.rs hp
   rw [Int.toNat_of_nonneg this.1, Int.mul_assoc]
  rw [e1, sum_mul]; omega
 ·rw [if_neg (by omega), if_neg k2, if_neg k3, if_neg k1, if_neg k2]; rfl
end Go.Bk
set_option linter.unusedVariables false
namespace Go.Proofs.YtpoignmclfdgpaaGreatDoor
open Go.Lw Go.Gl Go.Bk Go.RowKit
abbrev bX (b : Bo) (e : En) : Bo := withB b e
abbrev bY (b : Bo) (e : En) : Bo := withB (bX b e) ⟨e.d, 4, b.es.length, 0⟩
abbrev bZ (b : Bo) (e : En) : Bo := withB (bY b e) ⟨e.d, 4, (b.es.length : Int) + 1, 0⟩
structure TkL (b : Bo) (e : En) (d : Int) : Prop where
 y : bkE (bY b e) = 0
 z : bkE (bZ b e) = 0
 k1 : kg b b.es.length d = 0
 k2 : kg (bX b e) ((b.es.length : Int) + 1) d = 0
 k3 : kg (bY b e) ((b.es.length : Int) + 2) d = 0
 k4 : kg (bZ b e) ((b.es.length : Int) + 3) d = 0
 k5 : kg (bZ b e) b.es.length d = 0
 k6 : kg (bZ b e) ((b.es.length : Int) + 2) d = 0
 l1 : jZ b b.es.length d = jZ (bY b e) ((b.es.length : Int) + 2) d
 l2 : jZ (bX b e) ((b.es.length : Int) + 1) d = jZ (bZ b e) ((b.es.length : Int) + 3) d
 l3 : jZ b b.es.length d = jZ (bZ b e) b.es.length d
 l4 : jZ (bZ b e) ((b.es.length : Int) + 2) d = jZ (bY b e) ((b.es.length : Int) + 2) d
end Go.Proofs.YtpoignmclfdgpaaGreatDoor
set_option linter.unusedVariables false
namespace Go.Proofs.YtpoignmclfdgpaaGreatDoor
open Go.Lw Go.Gl Go.Bk Go.RowKit
theorem bookKnown_f (V : View) (hg : GvV V) : Fnc Tryz.prog 15 [] V fun r _ => r = .bool true := by
 refine qh Tryz.func15 rfl Tryz.ntmps15 (Nat.le_of_ble_eq_true rfl) ?_
 intro w0 hw0
 refine At.nrm ?_
 refine At.zh (.q 0 .done) ?_
 refine AtT.ze ?_
 refine AtT.done ?_
 refine At.nrm ?_
 refine At.zh (.n false 0 (.n false 1 (.q 2 (.q 3 (.q 4 (.q 5 (.q 6 .done))))))) ?_
 refine AtT.qa rfl rfl ok51 (two_f _) ?_
 rintro v10 V10 hV10 hr
 refine AtT.qa rfl rfl ok18 (praw_f rs2 2 3 _ _ hr) ?_
 rintro _ V11 hV11 ⟨u11, rfl, h11⟩; rw [c_r4E]
 refine AtT.zf ?_
 refine AtT.zt ?_
 refine AtT.zt ?_
 refine AtT.ze ?_
 refine AtT.ze ?_
 refine AtT.done ?_
 refine At.nrm ?_
 rw [c_r4] at h11
 replace hg := (hg.le hV10).le hV11
 clear hV10 hV11
 refine At.zh (.n false 0 (.q 1 (.q 2 (.q 3 (.q 4 (.q 5 .done)))))) ?_
 refine AtT.zG rfl rfl ok35 (pcheck_f [] (by decide) _ hg) ?_
 rintro _ rfl; rw [if_neg (by decide), if_neg (by decide), c_k0]
 refine AtT.zf ?_
 refine AtT.zt ?_
 refine AtT.zt ?_
 refine AtT.ze ?_
 refine AtT.ze ?_
 refine AtT.done ?_
 refine At.nrm ?_
 refine At.zh (.q 0 (.n false 1 (.q 2 (.q 3 (.q 4 (.q 5 (.q 6 .done))))))) ?_
 refine AtT.qG (bd26) ?_
 refine AtT.zG rfl rfl ok37 (file_f ⟨[], []⟩ _ hg _ (BoV.nil _)) ?_
 rintro _ rfl; rw [c_0, if_pos rfl, c_f0]
 refine AtT.zf ?_
 refine AtT.zt ?_
 refine AtT.zt ?_
 refine AtT.ze ?_
 refine AtT.ze ?_
 refine AtT.done ?_
 refine At.nrm ?_
 refine At.zh (.n false 0 (.q 1 (.q 2 (.q 3 (.n false 4 (.n true 5 (.q 6 .done))))))) ?_
 refine AtT.qa rfl rfl ok39 (load_f [99, 104, 101, 99, 107, 32, 48, 48, 48, 48, 48, 48, 48, 49, 10] (by decide) _ hg) ?_
 rintro _ V24 hV24 ⟨u24, rfl, h24⟩; rw [c_l0] at h24; rw [c_l0]; obtain ⟨w24, a24, c24, rfl, ⟨q24, z24, y24, e24, rfl, i24, j24⟩, s24⟩ := id h24; clear e24 i24 j24 s24
 refine AtT.zf ?_
 refine AtT.zt ?_
 refine AtT.zt ?_
 refine AtT.zT z26 ?_
 intro b7
 refine AtT.zF zK ?_
 refine AtT.ze ?_
 refine AtT.done ?_
 refine At.nrm ?_
 replace hg := hg.le hV24
 replace h11 := h11.le hV24
 clear hV24
 refine At.zh (.q 0 (.q 1 (.q 2 (.q 3 (.n false 4 (.n false 5 (.n false 6 (.q 7 (.q 8 (.q 9 (.q 10 (.q 11 (.q 12 (.q 13 (.q 14 (.q 15 (.q 16 (.q 17 (.q 18 (.q 19 (.q 20 (.q 21 (.q 22 (.q 23 (.q 24 (.q 25 (.q 26 (.q 27 (.q 28 (.q 29 (.q 30 (.n false 31 (.q 32 (.q 33 (.n false 34 (.n false 35 (.q 36 (.q 37 (.q 38 (.n false 39 (.n false 40 (.q 41 (.q 42 (.q 43 (.n false 44 (.q 45 (.q 46 .done))))))))))))))))))))))))))))))))))))))))))))))) ?_
 refine AtT.zf ?_
 refine AtT.qK ?_
 refine AtT.qm (d := 28) rfl (rfl) ?_
 refine AtT.zf ?_
 all_goals (first | refine AtT.kL 29 ?_ | refine AtT.zA (d := 29) rfl (fun hg29 => ?_) (fun hg29 => ?_) | refine AtT.zz (d := 29) rfl (fun hg29 => ?_) (fun hg29 => ?_))
 all_goals first|refine AtT.zi ?_|refine AtT.zg ?_|(refine AtT.zf ?_)
 all_goals first|refine AtT.qg ?_|refine AtT.zW ?_|((refine AtT.zQ (bs28_2_0_1 _ _) ?_) ; (intro q31 V31 hV31 hq31))
 all_goals (replace hg := hg.le hV31; replace h11 := h11.le hV31; replace h24 := h24.le hV31)
 all_goals first|refine AtT.qg ?_|refine AtT.zW ?_|((refine AtT.qa rfl rfl ok52 (longsZ_f [6, 3] (by decide) q31 _ (show Cells _ _ (flat ei [6, 3]) from hq31)) ?_) ; (rintro v32 V32 hV32 hs32; replace hg := hg.le hV32; replace h11 := h11.le hV32; replace h24 := h24.le hV32))
 all_goals first|refine AtT.qg ?_|refine AtT.zW ?_|((refine AtT.zG rfl rfl ok22 (longs_f _ _ _ _ _ h11 hs32) ?_) ; (rintro _ rfl))
 all_goals (refine AtT.qm (d := 33) rfl (rfl) ?_)
 all_goals (refine AtT.zB ?_)
 all_goals (refine AtT.zf ?_)
 all_goals (first | refine AtT.kL 35 ?_ | refine AtT.zA (d := 35) rfl (fun hg35 => ?_) (fun hg35 => ?_) | refine AtT.zz (d := 35) rfl (fun hg35 => ?_) (fun hg35 => ?_))
 all_goals first|refine AtT.zi ?_|refine AtT.zg ?_|(refine AtT.zf ?_)
 all_goals first|refine AtT.zi ?_|refine AtT.zg ?_|(refine AtT.qK ?_)
 all_goals (refine AtT.qm (d := 37) rfl (rfl) ?_)
 all_goals (refine AtT.zB ?_)
 all_goals (refine AtT.zf ?_)
 all_goals (first | refine AtT.kL 39 ?_ | refine AtT.zA (d := 39) rfl (fun hg39 => ?_) (fun hg39 => ?_) | refine AtT.zz (d := 39) rfl (fun hg39 => ?_) (fun hg39 => ?_))
 all_goals first|refine AtT.zi ?_|refine AtT.zg ?_|(refine AtT.zf ?_)
 all_goals first|refine AtT.zi ?_|refine AtT.zg ?_|(refine AtT.eqT rfl ⟨_, _, rfl, rfl, rfl⟩ rfl rfl (by decide) ?_)
 all_goals (refine AtT.qm (d := 41) rfl (rfl) ?_)
 all_goals (refine AtT.zB ?_)
 all_goals (refine AtT.zf ?_)
 all_goals (first | refine AtT.kL 43 ?_ | refine AtT.zA (d := 43) rfl (fun hg43 => ?_) (fun hg43 => ?_) | refine AtT.zz (d := 43) rfl (fun hg43 => ?_) (fun hg43 => ?_))
 all_goals first|refine AtT.zi ?_|refine AtT.zg ?_|(refine AtT.zf ?_)
 all_goals first|refine AtT.zi ?_|refine AtT.zg ?_|(refine AtT.qK ?_)
 all_goals (refine AtT.qm (d := 45) rfl (rfl) ?_)
 all_goals (refine AtT.zB ?_)
 all_goals (refine AtT.zf ?_)
 all_goals (first | refine AtT.kL 47 ?_ | refine AtT.zA (d := 47) rfl (fun hg47 => ?_) (fun hg47 => ?_) | refine AtT.zz (d := 47) rfl (fun hg47 => ?_) (fun hg47 => ?_))
 all_goals first|refine AtT.zi ?_|refine AtT.zg ?_|(refine AtT.zf ?_)
 all_goals first|refine AtT.zi ?_|refine AtT.zg ?_|(refine AtT.eqT rfl ⟨_, _, rfl, rfl, rfl⟩ rfl rfl (by decide) ?_)
 all_goals (refine AtT.qm (d := 49) rfl (rfl) ?_)
 all_goals (refine AtT.zB ?_)
 all_goals (refine AtT.zf ?_)
 all_goals (first | refine AtT.kL 51 ?_ | refine AtT.zA (d := 51) rfl (fun hg51 => ?_) (fun hg51 => ?_) | refine AtT.zz (d := 51) rfl (fun hg51 => ?_) (fun hg51 => ?_))
 all_goals first|refine AtT.zi ?_|refine AtT.zg ?_|(refine AtT.zf ?_)
 all_goals first|refine AtT.zi ?_|refine AtT.zg ?_|(refine AtT.qK ?_)
 all_goals (refine AtT.qm (d := 53) rfl (rfl) ?_)
 all_goals (refine AtT.zB ?_)
 all_goals (refine AtT.zf ?_)
 all_goals (first | refine AtT.kL 55 ?_ | refine AtT.zA (d := 55) rfl (fun hg55 => ?_) (fun hg55 => ?_) | refine AtT.zz (d := 55) rfl (fun hg55 => ?_) (fun hg55 => ?_))
 all_goals first|refine AtT.zi ?_|refine AtT.zg ?_|(first | refine AtT.zD zK ?_ | refine AtT.zI zK ?_ | refine AtT.zC zK ?_)
 all_goals first|refine AtT.zi ?_|refine AtT.zg ?_|(refine AtT.qG (bd26) ?_)
 all_goals first|refine AtT.qg ?_|refine AtT.zW ?_|((refine AtT.zG rfl rfl ok30 (same_f ⟨[], []⟩ ⟨[], []⟩ _ _ _ h24 (BoV.nil _)) ?_) ; (rintro _ rfl))
 all_goals (refine AtT.qm (d := 58) rfl (rfl) ?_)
 all_goals (refine AtT.zB ?_)
 all_goals (refine AtT.zf ?_)
 all_goals (first | refine AtT.kL 60 ?_ | refine AtT.zA (d := 60) rfl (fun hg60 => ?_) (fun hg60 => ?_) | refine AtT.zz (d := 60) rfl (fun hg60 => ?_) (fun hg60 => ?_))
 all_goals first|refine AtT.qg ?_|refine AtT.zW ?_|((refine AtT.qa rfl rfl ok51 (two_f _) ?_) ; (rintro v61 V61 hV61 hr61; replace hg := hg.le hV61))
 all_goals first|refine AtT.qg ?_|refine AtT.zW ?_|((refine AtT.zG rfl rfl ok20 (checkRecipes_f rs2 _ _ hr61) ?_) ; (rintro _ rfl; rw [c_r]))
 all_goals first|refine AtT.zi ?_|refine AtT.zg ?_|(refine AtT.qK ?_)
 all_goals (refine AtT.qm (d := 63) rfl (rfl) ?_)
 all_goals (refine AtT.zB ?_)
 all_goals (refine AtT.zf ?_)
 all_goals (first | refine AtT.kL 65 ?_ | refine AtT.zA (d := 65) rfl (fun hg65 => ?_) (fun hg65 => ?_) | refine AtT.zz (d := 65) rfl (fun hg65 => ?_) (fun hg65 => ?_))
 all_goals first|refine AtT.qg ?_|refine AtT.zW ?_|((refine AtT.qa rfl rfl ok53 (six_f _) ?_) ; (rintro v66 V66 hV66 hr66; replace hg := hg.le hV66))
 all_goals first|refine AtT.qg ?_|refine AtT.zW ?_|((refine AtT.zG rfl rfl ok27 (checkBook_f bo6 _ _ hr66) ?_) ; (rintro _ rfl; rw [c_b]))
 all_goals first|refine AtT.zi ?_|refine AtT.zg ?_|(refine AtT.qK ?_)
 all_goals (refine AtT.qm (d := 68) rfl (rfl) ?_)
 all_goals (refine AtT.zB ?_)
 all_goals (refine AtT.zf ?_)
 all_goals (first | refine AtT.kL 70 ?_ | refine AtT.zA (d := 70) rfl (fun hg70 => ?_) (fun hg70 => ?_) | refine AtT.zz (d := 70) rfl (fun hg70 => ?_) (fun hg70 => ?_))
 all_goals first|refine AtT.qg ?_|refine AtT.zW ?_|((refine AtT.zG rfl rfl ok17 (works_f _ hg) ?_) ; (rintro _ rfl))
 all_goals (refine AtT.zB ?_)
 all_goals (refine AtT.ze ?_)
 all_goals refine AtT.done ?_
 all_goals (refine At.nrm ?_)
 all_goals (exact At.qi rfl (.tmp rfl) rfl)
end Go.Proofs.YtpoignmclfdgpaaGreatDoor
