/- Texts that the last one of this claim imports. -/
import Derived.Test.YtpoignmclfdgpaaGreatDoorB6
set_option linter.unusedVariables false
set_option linter.unusedSimpArgs false
set_option linter.unusedSectionVars false

set_option linter.unusedVariables false
namespace Go.Bk
open Go.Lw Go.Gl
theorem goneK_congr {es es' : List En} {first : Nat} (h : ∀ i, i < first → enA es i = enA es' i) : ∀ {k : Nat} {s : Nat}, k ≤ first → qW es first k s = qW es' first k s
 | 0, s, _ => rfl
 | k + 1, s, hk => by
  simp only [qW]
  rw [goneK_congr h (k := k) (s := s) (by omega), goneK_congr h (k := k) (s := first - 1 - k) (by omega), h (first - 1 - k) (by omega)]
theorem cntS_congr {es es' : List En} {first : Nat} (h : ∀ i, i < first → enA es i = enA es' i) : cntS es first = cntS es' first := by
 unfold cntS gone
 exact List.filter_congr fun i _ => by rw [goneK_congr h (Nat.le_refl _)]
theorem runS_congr {rs : List Rc} {es es' : List En} {first : Nat} (h : ∀ i, i < first → enA es i = enA es' i) (day : Int) : runS rs es first day = runS rs es' first day := by
 unfold runS
 rw [cntS_congr h, List.map_congr_left fun i hi => h i (cntS_lt hi)]
theorem enA_take {es : List En} {i n : Nat} (h : i < n) : enA (es.take n) i = enA es i := by
 unfold enA List.getD; rw [List.getElem?_take, if_pos h]
def lastD (last : Int) : List En → Int
 | [] => last
 | e :: es => lastD e.d es
theorem ens_take {rs : List Rc} : ∀ {es : List En} {index last : Int} (n : Nat), EnsOk rs index last es → EnsOk rs index last (es.take n)
 | [], _, _, n, h => by rw [List.take_nil]; exact h
 | e :: es, _, _, 0, h => .nil _ _
 | e :: es, _, _, n + 1, h => by
  cases h with
  | cons h1 h2 => exact .cons h1 (ens_take n h2)
theorem lastD_bd {rs : List Rc} : ∀ {es : List En} {index last : Int}, EnsOk rs index last es → (0 ≤ last ∧ last ≤ 999) → 0 ≤ lastD last es ∧ lastD last es ≤ 999
 | [], _, _, _, h => h
 | e :: es, _, _, h, hl => by
  cases h with
  | cons h1 h2 => show 0 ≤ lastD e.d es ∧ lastD e.d es ≤ 999; exact lastD_bd h2 h1.d
theorem Right.ens {b : Bo} (h : Right b) : EnsOk b.rs 0 0 b.es := entsE_iff.1 h.en
theorem Right.last {b : Bo} (h : Right b) : 0 ≤ lastD 0 b.es ∧ lastD 0 b.es ≤ 999 := lastD_bd h.ens (by decide)
theorem Right.take {b : Bo} (h : Right b) (n : Nat) : Right ⟨b.rs, b.es.take n⟩ := by
 refine ⟨h.cr, ?_, entsE_iff.2 (ens_take n h.ens), fun k hk => ?_⟩
 ·have := h.len; simp only [List.length_take]; omega
 ·simp only [List.length_take] at hk
  show (runS b.rs (b.es.take n) (k + 1) 999).isSome = true
  rw [runS_congr (es' := b.es) (fun i hi => enA_take (by omega))]
  exact h.run k (by omega)
theorem runL_same {rs : List Rc} {d1 d2 : Int} : ∀ {l : List En} {f : Nat → Int}, (∀ e ∈ l, e.d ≤ d1 ∧ e.d ≤ d2) → runL rs d1 l f = runL rs d2 l f
 | [], f, _ => rfl
 | e :: l, f, h => by
  have h1 := h e List.mem_cons_self
  have e1 := runL_step (rs := rs) (day := d1) (e := e) (l := l) (f := f)
  have e2 := runL_step (rs := rs) (day := d2) (e := e) (l := l) (f := f)
  rw [if_neg (by omega)] at e1 e2
  rw [e1, e2]
  split
  ·exact runL_same fun x hx => h x (List.mem_cons_of_mem _ hx)
  ·rfl
theorem runS_late {b : Bo} (h : Right b) {n : Nat} (hn : b.es.length = n + 1) : runS b.rs b.es (n + 1) 999 = runS b.rs b.es (n + 1) (enA b.es n).d := by
 obtain ⟨hs, h9⟩ := ens_sorted h.ens
 unfold runS
 refine runL_same fun e he => ?_
 obtain ⟨i, hi, rfl⟩ := List.mem_map.1 he
 have hi' := cntS_lt hi
 refine ⟨(h9 _ (enA_mem (by omega))).2, ?_⟩
 by_cases c : i = n
 ·subst c; exact Int.le_refl _
 ·rw [enA_at (List.getElem?_eq_getElem (show i < b.es.length by omega)), enA_at (List.getElem?_eq_getElem (show n < b.es.length by omega))]
  exact List.pairwise_iff_getElem.1 hs i n (by omega) (by omega) (by omega)
end Go.Bk
set_option linter.unusedVariables false
namespace Go.Bk
open Go.Lw Go.Gl
def netR (rs : List Rc) (day : Int) (y : Int) (e : En) : Int := if day < e.d then 0 else if e.k = 1 then e.n * ja rs e.t y else if e.k = 2 then - (e.n * ja rs e.t y) else 0
theorem kept {b : Bo} (hb : Right b) {first : Nat} (hf : first ≤ b.es.length) {day : Int} {st : Nat → Int} (hst : runS b.rs b.es first day = some st) (y : Nat) :
  ji st (fun s => ja b.rs s y) 8 = ((cntS b.es first).map fun i => netR b.rs day y (enA b.es i)).sum := by
 have hg := hb.bog
 have hin : ∀ e ∈ (cntS b.es first).map (enA b.es), ∃ k l, EnOk b.rs e k l := fun e he => by
  obtain ⟨i, hi, rfl⟩ := List.mem_map.1 he
  have hx := List.getElem?_eq_getElem (l := b.es) (i := i) (by have := cntS_lt hi; omega)
  rw [enA_at hx]
  obtain ⟨l, h1, _⟩ := ensOk_at hb.ens hx
  exact ⟨_, l, h1⟩
 unfold runS at hst
 rw [run_dot hg.rs (r := fun s => ja b.rs s y) (fun e he h4 => by
  obtain ⟨k, l, h⟩ := hin e he
  exact ⟨(h.th h4).1, (h.th h4).2.1⟩) hst, dot_zero, Int.zero_add, List.map_map]
 refine sum_congr fun i hi => ?_
 obtain ⟨k, l, h⟩ := hin _ (List.mem_map.2 ⟨i, hi, rfl⟩)
 show (if day < (enA b.es i).d then 0 else addR (enA b.es i) (fun s => ja b.rs s y) - takeR b.rs (enA b.es i) (fun s => ja b.rs s y)) = netR b.rs day y (enA b.es i)
 generalize enA b.es i = e at h
 show (if day < e.d then 0 else addR e (fun s => ja b.rs s y) - takeR b.rs e (fun s => ja b.rs s y)) = netR b.rs day y e
 unfold netR addR takeR
 have hk := h.k
 by_cases hd : day < e.d
 ·rw [if_pos hd, if_pos hd]
 rw [if_neg hd, if_neg hd]
 have ht : e.k ≠ 4 → ((e.t.toNat : Nat) : Int) = e.t := fun h4 => Int.toNat_of_nonneg (h.th h4).1
 by_cases k1 : e.k = 1
 ·rw [if_pos (.inl k1), if_neg (by omega), if_neg (by omega), if_pos k1]
  dsimp only
  rw [ht (by omega)]; omega
 by_cases k2 : e.k = 2
 ·rw [if_neg (by omega), if_pos k2, if_neg k1, if_pos k2]
  dsimp only
  rw [ht (by omega)]; omega
 by_cases k3 : e.k = 3
 ·rw [if_pos (.inr k3), if_neg k2, if_pos k3, if_neg k1, if_neg k2]
  dsimp only
  rw [ht (by omega), rawO_made hg.rs (h.th (by omega)).2.1 (h.made k3)]
  have e1 : ((partsOf b.rs e.t).map fun p => e.n * p.n * ja b.rs (p.t.toNat : Int) y).sum = ((partsOf b.rs e.t).map fun p => e.n * (p.n * ja b.rs p.t y)).sum := sum_congr fun p hp => by
   have := qj hg.rs hp
   rw [Int.toNat_of_nonneg this.1, Int.mul_assoc]
  rw [e1, sum_mul]; omega
 ·rw [if_neg (by omega), if_neg k2, if_neg k3, if_neg k1, if_neg k2]; rfl
end Go.Bk
set_option linter.unusedVariables false
namespace Go.Proofs.YtpoignmclfdgpaaGreatDoor
open Go.Lw Go.Gl Go.Bk Go.RowKit
theorem stk_ok {b : Bo} (hR : Right b) {n : Nat} (hn : n ≤ b.es.length) {d : Int} (hd : 0 ≤ d ∧ d ≤ 999) : kg b n d = 0 ∧ jZ b n d = stL (stkF b n d) := by
 have h : kg b n d = 0 := by unfold kg; rw [if_neg (by rw [jA.2 hR]; simp), if_neg (by omega), if_neg (by omega)]
 exact ⟨h, by unfold jZ; rw [if_neg (by rw [h]; simp), Int.toNat_natCast]⟩
theorem cnt_ok {b : Bo} (hR : Right b) {n : Nat} (hn : n ≤ b.es.length) : cntE b n = 0 ∧ cntL b n = cntI b.es n := by
 have h : cntE b n = 0 := by unfold cntE; rw [if_neg (by rw [jA.2 hR]; simp), if_neg (by omega)]
 exact ⟨h, by unfold cntL; rw [if_neg (by rw [h]; simp), Int.toNat_natCast]⟩
theorem stk_same {b b' : Bo} (hR : Right b) (hR' : Right b') {n n' : Nat} (hn : n ≤ b.es.length) (hn' : n' ≤ b'.es.length) {d d' : Int} (hd : 0 ≤ d ∧ d ≤ 999) (hd' : 0 ≤ d' ∧ d' ≤ 999) (h : runS b.rs b.es n d = runS b'.rs b'.es n' d') : jZ b n d = jZ b' n' d' := by
 rw [(stk_ok hR hn hd).2, (stk_ok hR' hn' hd').2]
 unfold stkF; rw [h]
theorem fine_ok {b : Bo} (h : (!grB b && decide (bkE b = 0)) = true) : grB b = false ∧ bkE b = 0 := by
 simpa using h
abbrev bX (b : Bo) (e : En) : Bo := withB b e
abbrev bY (b : Bo) (e : En) : Bo := withB (bX b e) ⟨e.d, 4, b.es.length, 0⟩
abbrev bZ (b : Bo) (e : En) : Bo := withB (bY b e) ⟨e.d, 4, (b.es.length : Int) + 1, 0⟩
structure TkL (b : Bo) (e : En) (d : Int) : Prop where
 y : bkE (bY b e) = 0
 z : bkE (bZ b e) = 0
 k1 : kg b b.es.length d = 0
 k2 : kg (bX b e) ((b.es.length : Int) + 1) d = 0
 k3 : kg (bY b e) ((b.es.length : Int) + 2) d = 0
 k4 : kg (bZ b e) ((b.es.length : Int) + 3) d = 0
 k5 : kg (bZ b e) b.es.length d = 0
 k6 : kg (bZ b e) ((b.es.length : Int) + 2) d = 0
 l1 : jZ b b.es.length d = jZ (bY b e) ((b.es.length : Int) + 2) d
 l2 : jZ (bX b e) ((b.es.length : Int) + 1) d = jZ (bZ b e) ((b.es.length : Int) + 3) d
 l3 : jZ b b.es.length d = jZ (bZ b e) b.es.length d
 l4 : jZ (bZ b e) ((b.es.length : Int) + 2) d = jZ (bY b e) ((b.es.length : Int) + 2) d
end Go.Proofs.YtpoignmclfdgpaaGreatDoor
set_option linter.unusedVariables false
namespace Go.Proofs.YtpoignmclfdgpaaGreatDoor
open Go.Lw Go.Gl Go.Bk Go.RowKit
theorem first_of {x : Int} (h : 0 ≤ x ∧ x ≤ 255) (n : Nat) : ∃ f : Nat, f ≤ n ∧ x.tmod ((n : Int) + 1) = (f : Int) := by
 have h1 := Int.emod_nonneg x (show ((n : Int) + 1) ≠ 0 by omega)
 have h2 := Int.emod_lt_of_pos x (show 0 < ((n : Int) + 1) by omega)
 exact ⟨(x % ((n : Int) + 1)).toNat, by omega, by rw [Int.tmod_eq_emod_of_nonneg h.1, Int.toNat_of_nonneg h1]⟩
theorem wrap_u8 {x : Int} (h : 0 ≤ x ∧ x ≤ 255) : IntKind.i64.wrap x = x := wrap_fit (Fit.of (by omega) (by omega))
abbrev bT (b : Bo) (n : Nat) : Bo := ⟨b.rs, b.es.take n⟩
theorem then_ok {b : Bo} (hR : Right b) {n : Nat} (hn : n ≤ b.es.length) {d : Int} (hd : 0 ≤ d ∧ d ≤ 999) : jZ b n d = jZ (bT b n) n d ∧ cntL b n = cntL (bT b n) n := by
 have hl : (bT b n).es.length = n := by simp; omega
 have hc : ∀ i, i < n → enA b.es i = enA (bT b n).es i := fun i hi => (enA_take hi).symm
 refine ⟨stk_same hR (hR.take n) hn (Nat.le_of_eq hl.symm) hd hd (runS_congr hc d), ?_⟩
 rw [(cnt_ok hR hn).2, (cnt_ok (hR.take n) (Nat.le_of_eq hl.symm)).2]
 unfold cntI; rw [cntS_congr hc]
theorem late_ok {b : Bo} (hR : Right b) {n : Nat} (hn : n + 1 ≤ b.es.length) {e : En} (he : (b.es.take (n + 1))[n]? = some e) : (0 ≤ e.d ∧ e.d ≤ 999) ∧ jZ (bT b (n + 1)) (n + 1 : Nat) 999 = jZ (bT b (n + 1)) (n + 1 : Nat) e.d := by
 have hl : (bT b (n + 1)).es.length = n + 1 := by simp; omega
 have hRx : Right (bT b (n + 1)) := hR.take _
 have h1 := runS_late hRx hl
 have h2 : enA (bT b (n + 1)).es n = e := enA_at he
 rw [h2] at h1
 have hd : 0 ≤ e.d ∧ e.d ≤ 999 := by
  obtain ⟨l, h3, _⟩ := ensOk_at hRx.ens he
  exact h3.d
 exact ⟨hd, stk_same hRx hRx (by omega) (by omega) (by decide) hd h1⟩
set_option maxHeartbeats 1600000 in
theorem bookThen_f (b : Bo) (x8 x : Int) (hx8 : 0 ≤ x8 ∧ x8 ≤ 255) (hx16 : 0 ≤ x ∧ x ≤ 65535) (V : View) (hg : GvV V) (v : Value) (hv : BoV V v b) : Fnc Tryz.prog 10 [v, .int .u8 x8, .int .u16 x] V fun r _ => r = .bool true := by
 obtain ⟨w0, a0, c0, rfl, ⟨q0, z0, y0, e0, rfl, i0, j0⟩, s0⟩ := id hv
 have hvr : RsV V (.slice z0 q0.length y0) b.rs := ⟨q0, z0, y0, e0, rfl, i0, j0⟩
 clear e0 i0 j0
 refine qh Tryz.func10 rfl Tryz.ntmps10 (Nat.le_of_ble_eq_true rfl) ?_
 intro w0 hw0
 refine At.nrm ?_
 refine At.zh (.n false 0 (.q 1 .done)) ?_
 refine AtT.jd ?_
 intro b3
 refine AtT.ze ?_
 refine AtT.done ?_
 refine At.nrm ?_
 cases hfine : (!grB b && decide (bkE b = 0)) with
 | false =>
  refine At.zh (.q 0 (.n false 1 (.q 2 .done))) ?_
  first | refine AtT.zD zK ?_ | refine AtT.zI zK ?_ | refine AtT.zC zK ?_
  refine AtT.zG rfl rfl ok41 (fine_f b _ _ hv) ?_
  rintro _ rfl
  refine AtT.qM (d := 21) rfl (hfine) ?_
  refine AtT.qF ?_
  refine AtT.qM (d := 22) rfl ((show (!false) = true from rfl)) ?_
  refine AtT.done ?_
  refine At.nrm ?_
  all_goals refine At.qb rfl rfl ?_
  refine At.nrm ?_
  refine At.zh (.n false 0 (.q 1 .done)) ?_
  refine AtT.zG rfl rfl ok17 (works_f _ hg) ?_
  rintro _ rfl
  refine AtT.ze ?_
  refine AtT.done ?_
  refine At.nrm ?_
  exact At.qi rfl (.tmp rfl) rfl
 | true =>
 refine At.zh (.q 0 (.n false 1 (.q 2 .done))) ?_
 first | refine AtT.zD zK ?_ | refine AtT.zI zK ?_ | refine AtT.zC zK ?_
 refine AtT.zG rfl rfl ok41 (fine_f b _ _ hv) ?_
 rintro _ rfl
 refine AtT.qM (d := 21) rfl (hfine) ?_
 refine AtT.qF ?_
 refine AtT.qM (d := 22) rfl ((show (!true) = false from rfl)) ?_
 refine AtT.done ?_
 refine At.nrm ?_
 all_goals refine At.qf rfl rfl ?_
 refine At.nrm ?_
 obtain ⟨hgr, hb0⟩ := fine_ok hfine
 have hR := jA.1 hb0
 have hlen := hR.len
 obtain ⟨n, hn, hne⟩ := first_of hx8 b.es.length
 have hw8 := wrap_u8 hx8
 have hd : 0 ≤ x % 1000 ∧ x % 1000 ≤ 999 := by omega
 have hTl : (b.es.take n).length = n := by rw [List.length_take]; omega
 have hRT : Right (bT b n) := hR.take n
 obtain ⟨hsT, hcT⟩ := then_ok hR hn hd
 have k1 := (stk_ok hR hn hd).1
 have k2 := (stk_ok hRT (n := n) (by show n ≤ (b.es.take n).length; omega) hd).1
 have k3 := (cnt_ok hR hn).1
 have k4 := (cnt_ok hRT (n := n) (by show n ≤ (b.es.take n).length; omega)).1
 refine At.draw (.q 0 (.q 1 (.q 2 (.q 3 (.q 4 (.q 5 (.q 6 (.q 7 (.n false 8 (.q 9 (.q 10 .done))))))))))) ffm (by kernel_rfl) ?_
 refine AtT.zf ?_
 refine AtT.kconv un5 Tryz.underlying3 ?_
 rw [hw8]
 first | refine AtT.zk zu ?_ | with_reducible refine AtT.zl zu ?_ | refine AtT.zn zu ?_
 first | refine AtT.zm qo ?_ | refine AtT.zo qo ?_
 first | refine AtT.zR Tryz.underlying24 ?_ | refine AtT.zN Tryz.underlying24 ?_
 first | refine AtT.qI ?_ | refine AtT.ql ?_
 refine AtT.krem ?_
 rw [hne]
 refine AtT.zf ?_
 refine AtT.zG rfl rfl ok43 (day_f x hx16 _) ?_
 rintro _ rfl
 refine AtT.ze ?_
 refine AtT.ze ?_
 refine AtT.done ?_
 refine At.nrm ?_
 refine At.nrm ?_
 refine At.draw (.q 0 (.q 1 (.q 2 (.q 3 (.q 4 (.q 5 (.q 6 (.n false 7 (.n true 8 .done))))))))) ffm (by kernel_rfl) ?_
 first | refine AtT.zk zw ?_ | with_reducible refine AtT.zl zw ?_ | refine AtT.zn zw ?_
 first | refine AtT.zm qy ?_ | refine AtT.zo qy ?_
 first | refine AtT.zk zu ?_ | with_reducible refine AtT.zl zu ?_ | refine AtT.zn zu ?_
 first | refine AtT.zm qo ?_ | refine AtT.zo qo ?_
 refine AtT.zf ?_
 refine AtT.khead Tryz.underlying24 qD ?_
 intro a38 c38 hs38
 rw [Int.toNat_natCast] at hs38
 rw [Int.toNat_natCast]
 refine AtT.qG (bd26_0_1 _ _ _ _ _ _) ?_
 refine AtT.zT z26 ?_
 intro b9
 refine AtT.zF zK ?_
 refine AtT.done ?_
 refine At.nrm ?_
 all_goals (try clear hne)
 have hvT : BoV V (.agg #[.slice z0 q0.length y0, .slice a38 (bT b n).es.length c38]) (bT b n) := ⟨_, _, _, rfl, hvr, hs38⟩
 refine At.nrm ?_
 refine At.zh (.q 0 (.q 1 (.q 2 (.n false 3 (.q 4 (.q 5 (.q 6 (.q 7 (.q 8 .done))))))))) ?_
 first | refine AtT.zD zK ?_ | refine AtT.zI zK ?_ | refine AtT.zC zK ?_
 refine AtT.zf ?_
 refine AtT.zf ?_
 refine AtT.qa rfl rfl ok45 (stock_f b n (x % 1000) _ _ hv) ?_
 rintro _ V44 hV44 ⟨u44, rfl, h44⟩; rw [decide_eq_true k1]
 refine AtT.zf ?_
 refine AtT.zt ?_
 refine AtT.zt ?_
 refine AtT.ze ?_
 refine AtT.ze ?_
 refine AtT.done ?_
 refine At.nrm ?_
 replace hg := hg.le hV44
 replace hv := hv.le hV44
 replace hvT := hvT.le hV44
 replace hs38 := hs38.le hV44
 refine At.zh (.q 0 (.q 1 (.q 2 (.n false 3 (.q 4 (.q 5 (.q 6 (.q 7 (.q 8 .done))))))))) ?_
 first | refine AtT.zD zK ?_ | refine AtT.zI zK ?_ | refine AtT.zC zK ?_
 refine AtT.zf ?_
 refine AtT.zf ?_
 refine AtT.qa rfl rfl ok45 (stock_f (bT b n) n (x % 1000) _ _ hvT) ?_
 rintro _ V51 hV51 ⟨u51, rfl, h51⟩; rw [decide_eq_true k2]
 refine AtT.zf ?_
 refine AtT.zt ?_
 refine AtT.zt ?_
 refine AtT.ze ?_
 refine AtT.ze ?_
 refine AtT.done ?_
 refine At.nrm ?_
 replace hg := hg.le hV51
 replace hv := hv.le hV51
 replace hvT := hvT.le hV51
 replace hs38 := hs38.le hV51
 replace h44 := h44.le hV51
 refine At.zh (.q 0 (.q 1 (.n false 2 (.q 3 (.q 4 (.q 5 (.q 6 (.q 7 .done)))))))) ?_
 first | refine AtT.zD zK ?_ | refine AtT.zI zK ?_ | refine AtT.zC zK ?_
 refine AtT.zf ?_
 refine AtT.qa rfl rfl ok23 (pcounting_f b n _ _ hv) ?_
 rintro _ V57 hV57 ⟨u57, rfl, h57⟩; rw [k3]
 refine AtT.zf ?_
 refine AtT.zt ?_
 refine AtT.zt ?_
 refine AtT.ze ?_
 refine AtT.ze ?_
 refine AtT.done ?_
 refine At.nrm ?_
 replace hg := hg.le hV57
 replace hv := hv.le hV57
 replace hvT := hvT.le hV57
 replace hs38 := hs38.le hV57
 replace h44 := h44.le hV57
 replace h51 := h51.le hV57
 refine At.zh (.q 0 (.q 1 (.n false 2 (.q 3 (.q 4 (.q 5 (.q 6 (.q 7 .done)))))))) ?_
 first | refine AtT.zD zK ?_ | refine AtT.zI zK ?_ | refine AtT.zC zK ?_
 refine AtT.zf ?_
 refine AtT.qa rfl rfl ok23 (pcounting_f (bT b n) n _ _ hvT) ?_
 rintro _ V63 hV63 ⟨u63, rfl, h63⟩; rw [k4]
 refine AtT.zf ?_
 refine AtT.zt ?_
 refine AtT.zt ?_
 refine AtT.ze ?_
 refine AtT.ze ?_
 refine AtT.done ?_
 refine At.nrm ?_
 replace hg := hg.le hV63
 replace hv := hv.le hV63
 replace hvT := hvT.le hV63
 replace hs38 := hs38.le hV63
 replace h44 := h44.le hV63
 replace h51 := h51.le hV63
 replace h57 := h57.le hV63
 refine At.zh (.q 0 (.n false 1 (.q 2 (.q 3 (.q 4 (.q 5 (.q 6 (.q 7 (.q 8 (.q 9 (.q 10 (.q 11 (.q 12 (.q 13 (.n false 14 (.q 15 (.q 16 (.q 17 (.q 18 (.q 19 (.q 20 (.q 21 (.q 22 (.q 23 (.q 24 (.q 25 (.q 26 (.q 27 (.n false 28 (.q 29 (.q 30 .done))))))))))))))))))))))))))))))) ?_
 first | refine AtT.zD zK ?_ | refine AtT.zI zK ?_ | refine AtT.zC zK ?_
 refine AtT.zG rfl rfl ok27 (checkBook_f (bT b n) _ _ hvT) ?_
 rintro _ rfl; rw [jA.2 hRT]
 refine AtT.qH ?_
 refine AtT.zU (d := 68) rfl ((fun h => h rfl)) ?_
 refine AtT.zf ?_
 all_goals (first | refine AtT.kL 69 ?_ | refine AtT.zA (d := 69) rfl (fun hg69 => ?_) (fun hg69 => ?_) | refine AtT.zz (d := 69) rfl (fun hg69 => ?_) (fun hg69 => ?_))
 all_goals first|refine AtT.zi ?_|refine AtT.zg ?_|(refine AtT.zf ?_)
 all_goals first|refine AtT.zi ?_|refine AtT.zg ?_|(refine AtT.qF ?_)
 all_goals (refine AtT.qM (d := 71) rfl ((show (!true) = false from rfl)) ?_)
 all_goals (refine AtT.zB ?_)
 all_goals (refine AtT.zf ?_)
 all_goals (first | refine AtT.kL 73 ?_ | refine AtT.zA (d := 73) rfl (fun hg73 => ?_) (fun hg73 => ?_) | refine AtT.zz (d := 73) rfl (fun hg73 => ?_) (fun hg73 => ?_))
 all_goals first|refine AtT.zi ?_|refine AtT.zg ?_|(refine AtT.zf ?_)
 all_goals first|refine AtT.zi ?_|refine AtT.zg ?_|(refine AtT.qF ?_)
 all_goals (refine AtT.qM (d := 75) rfl ((show (!true) = false from rfl)) ?_)
 all_goals (refine AtT.zB ?_)
 all_goals (refine AtT.zf ?_)
 all_goals (first | refine AtT.kL 77 ?_ | refine AtT.zA (d := 77) rfl (fun hg77 => ?_) (fun hg77 => ?_) | refine AtT.zz (d := 77) rfl (fun hg77 => ?_) (fun hg77 => ?_))
 all_goals first|refine AtT.zi ?_|refine AtT.zg ?_|(refine AtT.zf ?_)
 all_goals first|refine AtT.zi ?_|refine AtT.zg ?_|(refine AtT.zf ?_)
 all_goals first|refine AtT.qg ?_|refine AtT.zW ?_|((refine AtT.zG rfl rfl ok22 (longs_f _ _ _ _ _ h44 h51) ?_) ; (rintro _ rfl))
 all_goals (refine AtT.qm (d := 80) rfl (hsT) ?_)
 all_goals first|refine AtT.zi ?_|refine AtT.zg ?_|(refine AtT.qF ?_)
 all_goals (refine AtT.qM (d := 81) rfl ((show (!true) = false from rfl)) ?_)
 all_goals (refine AtT.zB ?_)
 all_goals (refine AtT.zf ?_)
 all_goals (first | refine AtT.kL 83 ?_ | refine AtT.zA (d := 83) rfl (fun hg83 => ?_) (fun hg83 => ?_) | refine AtT.zz (d := 83) rfl (fun hg83 => ?_) (fun hg83 => ?_))
 all_goals first|refine AtT.zi ?_|refine AtT.zg ?_|(refine AtT.zf ?_)
 all_goals first|refine AtT.zi ?_|refine AtT.zg ?_|(refine AtT.qH ?_)
 all_goals (refine AtT.zU (d := 85) rfl ((fun h => h rfl)) ?_)
 all_goals (refine AtT.zB ?_)
 all_goals (refine AtT.zf ?_)
 all_goals (first | refine AtT.kL 87 ?_ | refine AtT.zA (d := 87) rfl (fun hg87 => ?_) (fun hg87 => ?_) | refine AtT.zz (d := 87) rfl (fun hg87 => ?_) (fun hg87 => ?_))
 all_goals first|refine AtT.zi ?_|refine AtT.zg ?_|(refine AtT.zf ?_)
 all_goals first|refine AtT.zi ?_|refine AtT.zg ?_|(refine AtT.qH ?_)
 all_goals (refine AtT.zU (d := 89) rfl ((fun h => h rfl)) ?_)
 all_goals (refine AtT.zB ?_)
 all_goals (refine AtT.zf ?_)
 all_goals (first | refine AtT.kL 91 ?_ | refine AtT.zA (d := 91) rfl (fun hg91 => ?_) (fun hg91 => ?_) | refine AtT.zz (d := 91) rfl (fun hg91 => ?_) (fun hg91 => ?_))
 all_goals first|refine AtT.zi ?_|refine AtT.zg ?_|(refine AtT.zf ?_)
 all_goals first|refine AtT.zi ?_|refine AtT.zg ?_|(refine AtT.zf ?_)
 all_goals first|refine AtT.qg ?_|refine AtT.zW ?_|((refine AtT.zG rfl rfl ok29 (ints_f _ _ _ _ _ h57 h63) ?_) ; (rintro _ rfl))
 all_goals (refine AtT.qm (d := 94) rfl (hcT) ?_)
 all_goals first|refine AtT.zi ?_|refine AtT.zg ?_|(refine AtT.qF ?_)
 all_goals (refine AtT.qM (d := 95) rfl ((show (!true) = false from rfl)) ?_)
 all_goals (refine AtT.zB ?_)
 all_goals refine AtT.done ?_
 all_goals (refine At.nrm ?_)
 all_goals refine At.qf rfl rfl ?_
 refine At.nrm ?_
 by_cases h0 : (n : Int) = 0
 ·refine At.zh (.q 0 (.q 1 .done)) ?_
  refine AtT.zf ?_
  refine AtT.qK ?_
  refine AtT.qm (d := 98) rfl (h0) ?_
  refine AtT.done ?_
  refine At.nrm ?_
  refine At.qb rfl rfl ?_
  refine At.nrm ?_
  refine At.zh (.n false 0 (.q 1 .done)) ?_
  refine AtT.zG rfl rfl ok17 (works_f _ hg) ?_
  rintro _ rfl
  refine AtT.ze ?_
  refine AtT.done ?_
  refine At.nrm ?_
  exact At.qi rfl (.tmp rfl) rfl
 refine At.zh (.q 0 (.q 1 .done)) ?_
 refine AtT.zf ?_
 refine AtT.qK ?_
 refine AtT.zU (d := 98) rfl (h0) ?_
 refine AtT.done ?_
 refine At.nrm ?_
 refine At.qf rfl rfl ?_
 refine At.nrm ?_
 obtain ⟨m, rfl⟩ : ∃ m, n = m + 1 := ⟨n - 1, by omega⟩
 have hsx := (stk_ok hRT (n := m + 1) (by show m + 1 ≤ (b.es.take (m + 1)).length; omega) (d := 999) (by decide)).1
 refine At.zh (.q 0 (.q 1 (.n false 2 (.q 3 (.q 4 (.q 5 (.q 6 (.q 7 .done)))))))) ?_
 first | refine AtT.zD zK ?_ | refine AtT.zI zK ?_ | refine AtT.zC zK ?_
 refine AtT.zf ?_
 refine AtT.qa rfl rfl ok45 (stock_f (bT b (m + 1)) (m + 1 : Nat) 999 _ _ hvT) ?_
 rintro _ V103 hV103 ⟨u103, rfl, h103⟩; rw [decide_eq_true hsx]
 refine AtT.zf ?_
 refine AtT.zt ?_
 refine AtT.zt ?_
 refine AtT.ze ?_
 refine AtT.ze ?_
 refine AtT.done ?_
 refine At.nrm ?_
 replace hg := hg.le hV103
 replace hv := hv.le hV103
 replace hvT := hvT.le hV103
 replace hs38 := hs38.le hV103
 replace h44 := h44.le hV103
 replace h51 := h51.le hV103
 replace h57 := h57.le hV103
 replace h63 := h63.le hV103
 obtain ⟨e, he⟩ : ∃ e, (b.es.take (m + 1))[m]? = some e := ⟨_, List.getElem?_eq_getElem (by omega)⟩
 obtain ⟨hed, hee⟩ := late_ok hR hn he
 have hsy := (stk_ok hRT (n := m + 1) (by show m + 1 ≤ (b.es.take (m + 1)).length; omega) hed).1
 have hmi : (((m + 1 : Nat) : Int) - 1).toNat = m := by omega
 refine At.draw (.q 0 (.q 1 (.q 2 (.q 3 (.q 4 (.q 5 (.q 6 (.q 7 (.q 8 (.n false 9 (.q 10 (.q 11 (.q 12 (.q 13 (.q 14 .done))))))))))))))) ffm (by kernel_rfl) ?_
 first | refine AtT.zD zK ?_ | refine AtT.zI zK ?_ | refine AtT.zC zK ?_
 refine AtT.zf ?_
 first | refine AtT.zk zu ?_ | with_reducible refine AtT.zl zu ?_ | refine AtT.zn zu ?_
 first | refine AtT.zm qo ?_ | refine AtT.zo qo ?_
 refine AtT.zf ?_
 first | refine AtT.je ?_ | refine AtT.jf ?_
 refine AtT.qB Tryz.underlying24 qD ?_
 intro p113 e113 he113 hc113
 obtain rfl : e = e113 := by rw [hmi, he] at he113; exact Option.some.inj he113
 first | refine AtT.zk qd ?_ | with_reducible refine AtT.zl qd ?_ | refine AtT.zn qd ?_
 first | refine AtT.zm tk3 ?_ | refine AtT.zo tk3 ?_
 refine AtT.qa rfl rfl ok45 (stock_f (bT b (m + 1)) (m + 1 : Nat) e.d _ _ hvT) ?_
 rintro _ V116 hV116 ⟨u116, rfl, h116⟩; rw [decide_eq_true hsy]; replace h103 := h103.le hV116; replace hg := hg.le hV116
 refine AtT.zf ?_
 refine AtT.zt ?_
 refine AtT.zt ?_
 refine AtT.ze ?_
 refine AtT.ze ?_
 refine AtT.done ?_
 refine At.nrm ?_
 refine At.nrm ?_
 refine At.zh (.q 0 (.q 1 (.q 2 (.q 3 (.q 4 (.q 5 (.q 6 (.n false 7 (.q 8 (.q 9 (.n false 10 (.q 11 (.q 12 .done))))))))))))) ?_
 refine AtT.zf ?_
 refine AtT.zf ?_
 all_goals (first | refine AtT.kL 120 ?_ | refine AtT.zA (d := 120) rfl (fun hg120 => ?_) (fun hg120 => ?_) | refine AtT.zz (d := 120) rfl (fun hg120 => ?_) (fun hg120 => ?_))
 all_goals first|refine AtT.zi ?_|refine AtT.zg ?_|(refine AtT.zf ?_)
 all_goals (refine AtT.zB ?_)
 all_goals (refine AtT.zf ?_)
 all_goals (first | refine AtT.kL 123 ?_ | refine AtT.zA (d := 123) rfl (fun hg123 => ?_) (fun hg123 => ?_) | refine AtT.zz (d := 123) rfl (fun hg123 => ?_) (fun hg123 => ?_))
 all_goals first|refine AtT.zi ?_|refine AtT.zg ?_|(refine AtT.zf ?_)
 all_goals first|refine AtT.zi ?_|refine AtT.zg ?_|(refine AtT.zf ?_)
 all_goals first|refine AtT.qg ?_|refine AtT.zW ?_|((refine AtT.zG rfl rfl ok22 (longs_f _ _ _ _ _ h103 h116) ?_) ; (rintro _ rfl))
 all_goals (refine AtT.qm (d := 126) rfl (hee) ?_)
 all_goals (refine AtT.zB ?_)
 all_goals (refine AtT.zf ?_)
 all_goals (first | refine AtT.kL 128 ?_ | refine AtT.zA (d := 128) rfl (fun hg128 => ?_) (fun hg128 => ?_) | refine AtT.zz (d := 128) rfl (fun hg128 => ?_) (fun hg128 => ?_))
 all_goals first|refine AtT.qg ?_|refine AtT.zW ?_|((refine AtT.zG rfl rfl ok17 (works_f _ hg) ?_) ; (rintro _ rfl))
 all_goals (refine AtT.zB ?_)
 all_goals (refine AtT.ze ?_)
 all_goals refine AtT.done ?_
 all_goals (refine At.nrm ?_)
 all_goals (exact At.qi rfl (.tmp rfl) rfl)
end Go.Proofs.YtpoignmclfdgpaaGreatDoor
