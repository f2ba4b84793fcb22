/- Texts that the last one of this claim imports. -/
import Derived.Test.YtpoignmclfdgpaaGreatDoorB4
set_option linter.unusedVariables false
set_option linter.unusedSimpArgs false
set_option linter.unusedSectionVars false
set_option linter.unusedVariables false
namespace Go.Proofs.YtpoignmclfdgpaaGreatDoor
open Go.Lw Go.Gl Go.Bk Go.RowKit
def cutS (st : Nat → Int) : Nat → Int := fun s => if s < 8 then st s else 0
theorem cutS_C (st : Nat → Int) : stC (cutS st) = stC st := stC_ext fun s hs => by unfold cutS; rw [if_pos hs]
theorem cutS_sum (st : Nat → Int) : jB (cutS st) 8 = jB st 8 := by simp [jB, cutS]
structure StkOk (l : Nat → Int) : Prop where
 bd : ∀ s, 0 ≤ l s ∧ l s ≤ 24000
 sum : jB l 8 ≤ 24000
theorem stkOk_of {b : Bo} (hb : BoG b) {first : Nat} (hf : first ≤ b.es.length) {day : Int} {st : Nat → Int} (h : runS b.rs b.es first day = some st) : StkOk (cutS st) := by
 refine ⟨fun s => ?_, by rw [cutS_sum]; exact runS_sum hb hf h⟩
 unfold cutS
 split
 ·rename_i hs; exact runS_nn hb hf h s hs
 ·omega
def mostE (b : Bo) (g : Int) : Int := if bkE b ≠ 0 then bkE b else if ¬ (0 ≤ g ∧ g ≤ 7) then 2 else if partsOf b.rs g = [] then 16 else 0
def mostV (b : Bo) (g : Int) : Int := if mostE b g ≠ 0 then 0 else (mostS b.rs (cutS (stkF b b.es.length 999)) g.toNat : Int)
def sp : Nat → Nat
 | 0 => 0
 | i + 1 => 2 ^ i
theorem sp_half (i : Nat) : (((2 ^ i : Nat) : Int)).tdiv 2 = ((sp i : Nat) : Int) := by
 show (((2 ^ i / 2 : Nat)) : Int) = _
 cases i with
 | zero => rfl
 | succ i => simp only [sp]; rw [Nat.pow_succ, Nat.mul_div_cancel _ (by decide)]
theorem pmost_f (b : Bo) (g : Int) (V : View) (v : Value) (hv : BoV V v b) : Fnc Tryz.prog 33 [v, iv g] V fun r _ => r = .tuple #[iv (mostV b g), iv (mostE b g)] := by
 obtain ⟨v1, a, c, rfl, hr, hes⟩ := id hv
 have hlen := hes.jE
 by_cases h0 : bkE b = 0
 rotate_left
 ·have hE : mostE b g = bkE b := by unfold mostE; rw [if_pos h0]
  have hL : mostV b g = 0 := by unfold mostV; rw [if_pos (by rw [hE]; exact h0)]
  rw [hE, hL]
  refine qm Tryz.func33 rfl Tryz.ntmps33 (Nat.le_of_ble_eq_true rfl) ?_
  intro w0 hw0
  refine At.nrm ?_
  refine At.zh (.n false 0 (.q 1 (.q 2 .done))) ?_
  refine AtT.jh ?_
  intro b2
  refine AtT.zf ?_
  refine AtT.zf ?_
  refine AtT.done ?_
  refine At.nrm ?_
  refine At.zh (.q 0 (.n true 1 (.q 2 (.q 3 (.q 4 (.q 5 (.q 6 .done))))))) ?_
  first | refine AtT.zG zQ ?_ | refine AtT.zK zQ ?_ | refine AtT.zF zQ ?_
  refine AtT.jd rfl trivial rfl ok62 (by decide) (List.Perm.refl _) (open_bad b h0 _ _ hv) ?_
  rintro _ _ V14 ⟨hV14, rfl, rfl⟩
  refine AtT.zg ?_
  refine AtT.zt ?_
  refine AtT.zt ?_
  refine AtT.zf ?_
  refine AtT.zf ?_
  refine AtT.done ?_
  refine At.nrm ?_
  refine At.nrm ?_
  refine At.zh (.q 0 (.q 1 (.q 2 .done))) ?_
  refine AtT.zg ?_
  refine AtT.qH ?_
  refine AtT.zf ?_
  refine AtT.done ?_
  refine At.nrm ?_
  refine At.qb rfl (decide_eq_true h0) ?_
  refine At.nrm ?_
  refine At.zh (.q 0 (.q 1 (.q 2 .done))) ?_
  refine AtT.zg ?_
  refine AtT.zf ?_
  refine AtT.zf ?_
  refine AtT.done ?_
  refine At.nrm ?_
  exact At.qX rfl (.tmp rfl) (.tmp rfl) rfl
 have hR := jZ.1 h0
 have hrs := hR.bog.rs
 have h0' : ¬ bkE b ≠ 0 := fun h => h h0
 refine qm Tryz.func33 rfl Tryz.ntmps33 (Nat.le_of_ble_eq_true rfl) ?_
 intro w0 hw0
 refine At.nrm ?_
 refine At.zh (.n false 0 (.q 1 (.q 2 .done))) ?_
 refine AtT.jh ?_
 intro b2
 refine AtT.zf ?_
 refine AtT.zf ?_
 refine AtT.done ?_
 refine At.nrm ?_
 refine At.zh (.q 0 (.n true 1 (.q 2 (.q 3 (.q 4 (.q 5 (.q 6 .done))))))) ?_
 first | refine AtT.zG zQ ?_ | refine AtT.zK zQ ?_ | refine AtT.zF zQ ?_
 refine AtT.jd rfl trivial rfl ok62 (by decide) (List.Perm.refl _) (open_ok b h0 _ _ hv) ?_
 rintro _ _ V14 ⟨hV14, p, m1, m2, rfl, rfl, hop⟩
 refine AtT.zg ?_
 refine AtT.zt ?_
 refine AtT.zt ?_
 refine AtT.zf ?_
 refine AtT.zf ?_
 refine AtT.done ?_
 refine At.nrm ?_
 refine At.nrm ?_
 refine At.zh (.q 0 (.q 1 (.q 2 .done))) ?_
 refine AtT.zg ?_
 refine AtT.qH ?_
 refine AtT.zf ?_
 refine AtT.done ?_
 refine At.nrm ?_
 refine At.qd rfl rfl ?_
 refine At.nrm ?_
 by_cases g1 : 0 ≤ g ∧ g ≤ 7
 rotate_left
 ·refine At.zh (.q 0 (.n false 1 (.n false 2 (.q 3 (.q 4 .done))))) ?_
  refine AtT.zg ?_
  refine AtT.zO (qo _) ?_
  intro q23 V23 hV23 hq23
  have g23 : Le V V23 := by first | exact hV23 | exact Le.trans (by assumption) hV23
  refine AtT.qa rfl rfl jM (qA 0 7 g _ _ (Sl.lit (l := [g]) hq23 rfl (by simp))) ?_
  rintro v24 V24 hV24 rfl
  refine AtT.zW (d := 24) rfl (g1) ?_
  refine AtT.qE ?_
  refine AtT.qJ (d := 25) rfl ((show (!false) = true from rfl)) ?_
  refine AtT.zf ?_
  refine AtT.done ?_
  refine At.nrm ?_
  all_goals refine At.qb rfl rfl ?_
  refine At.nrm ?_
  have hE : mostE b g = 2 := by unfold mostE; rw [if_neg h0', if_pos g1]
  have hL : mostV b g = 0 := by unfold mostV; rw [if_pos (by rw [hE]; decide)]
  rw [hE, hL]
  refine At.zh (.q 0 (.q 1 .done)) ?_
  refine AtT.zf ?_
  refine AtT.zf ?_
  refine AtT.done ?_
  refine At.nrm ?_
  exact At.qX rfl (.tmp rfl) (.tmp rfl) rfl
 refine At.zh (.q 0 (.n false 1 (.n false 2 (.q 3 (.q 4 .done))))) ?_
 refine AtT.zg ?_
 refine AtT.zO (qo _) ?_
 intro q23 V23 hV23 hq23
 have g23 : Le V V23 := by first | exact hV23 | exact Le.trans (by assumption) hV23
 refine AtT.qa rfl rfl jM (qA 0 7 g _ _ (Sl.lit (l := [g]) hq23 rfl (by simp))) ?_
 rintro v24 V24 hV24 rfl
 refine AtT.ql (d := 24) rfl (g1) ?_
 refine AtT.qE ?_
 refine AtT.qJ (d := 25) rfl ((show (!true) = false from rfl)) ?_
 refine AtT.zf ?_
 refine AtT.done ?_
 refine At.nrm ?_
 all_goals refine At.qd rfl rfl ?_
 refine At.nrm ?_
 obtain ⟨G, rfl⟩ : ∃ G : Nat, g = (G : Int) := ⟨g.toNat, by omega⟩
 have hG8 : G < 8 := by omega
 obtain ⟨u1, ae, ce, hsto, _, hes2, hrm⟩ := hop.le (hV23.trans hV24)
 have hc2 := hsto.c2
 obtain ⟨Mr, cr, hr1, hr2⟩ := id hrm
 obtain ⟨hr3, hr4⟩ := hr2 (G : Int)
 have hrcs : rcs (qW (G : Int) zq Mr) = .slice (qW (G : Int) zq Mr).2.1 (partsOf b.rs (G : Int)).length (qW (G : Int) zq Mr).2.2 := by
  show Value.slice _ (qW (G : Int) zq Mr).1.ps.length _ = _
  rw [hr3]
 rw [hrcs] at hr4
 have hlen0 : ((partsOf b.rs (G : Int)).length : Int) = 0 ↔ partsOf b.rs (G : Int) = [] := by rw [← List.length_eq_zero_iff]; omega
 refine At.zh (.q 0 (.q 1 (.q 2 (.q 3 (.q 4 (.q 5 (.q 6 (.q 7 (.q 8 (.q 9 .done)))))))))) ?_
 refine AtT.zg ?_
 refine AtT.jF ?_
 first | refine AtT.zk qZ ?_ | with_reducible refine AtT.zl qZ ?_ | refine AtT.zn qZ ?_
 first | refine AtT.zm tk87 ?_ | refine AtT.zo tk87 ?_
 refine AtT.zg ?_
 refine AtT.qF (bd92_0 _) ?_
 refine AtT.lookupV rfl trivial key92 (G : Int) zq Tryz.underlying87 z66 rfl rfl rfl hr1 (by decide) ?_
 rw [hrcs]
 first | refine AtT.zS Tryz.underlying66 ?_ | refine AtT.zR Tryz.underlying66 ?_
 refine AtT.qL ?_
 refine AtT.zf ?_
 refine AtT.done ?_
 refine At.nrm ?_
 refine At.qf rfl (fun hp => ?_) (fun hp => ?_)
 ·have hE : mostE b G = 16 := by unfold mostE; rw [if_neg h0', if_neg (fun h => h g1), if_pos (hlen0.1 hp)]
  have hL : mostV b G = 0 := by unfold mostV; rw [if_pos (by rw [hE]; decide)]
  rw [hE, hL]
  refine At.nrm ?_
  refine At.zh (.q 0 (.q 1 .done)) ?_
  refine AtT.zf ?_
  refine AtT.zf ?_
  refine AtT.done ?_
  refine At.nrm ?_
  exact At.qX rfl (.tmp rfl) (.tmp rfl) rfl
 obtain ⟨st, hst⟩ := hR.st (first := b.es.length) (Nat.le_refl _) 999
 have hT := runT_some hst
 have hok := stkOk_of hR.bog (Nat.le_refl _) hst
 have hE : mostE b G = 0 := by unfold mostE; rw [if_neg h0', if_neg (fun h => h g1), if_neg (fun h => hp (hlen0.2 h))]
 have hL : mostV b G = (mostS b.rs (cutS st) G : Int) := by unfold mostV; rw [if_neg (by rw [hE]; simp), stkF_some hst, Int.toNat_natCast]
 rw [hE, hL]
 refine At.nrm ?_
 refine At.zh (.q 0 (.q 1 (.q 2 (.q 3 (.n false 4 (.q 5 (.q 6 (.q 7 (.n false 8 (.n true 9 (.q 10 .done))))))))))) ?_
 refine AtT.zg ?_
 first | refine AtT.zk zw ?_ | with_reducible refine AtT.zl zw ?_ | refine AtT.zn zw ?_
 first | refine AtT.zm qx ?_ | refine AtT.zo qx ?_
 first | refine AtT.zS Tryz.underlying24 ?_ | refine AtT.zR Tryz.underlying24 ?_
 refine AtT.zI rfl rfl ok68 (run_f b hR.bog b.es.length (Nat.le_refl _) (hR.bk (Nat.le_refl _)) 999 p m1 m2 u1 ae ce _ hsto hes2 hrm) ?_
 rintro _ rfl; rw [hT]
 refine AtT.zg ?_
 refine AtT.zt ?_
 refine AtT.zt ?_
 refine AtT.zT z105 ?_
 intro b8
 refine AtT.zD qh ?_
 refine AtT.zf ?_
 refine AtT.done ?_
 refine At.nrm ?_
 rw [← cutS_C st]
 generalize cutS st = l at hok ⊢
 refine At.zh (.q 0 .done) ?_
 refine AtT.zf ?_
 refine AtT.done ?_
 refine At.nrm ?_
 refine At.zh (.q 0 .done) ?_
 refine AtT.zf ?_
 refine AtT.done ?_
 refine At.nrm ?_
 refine At.lp (ι := Nat × Nat × MM Int Int × Nat) (KS := fun q => [(1, iv G), (6, .pointer (some ⟨p, 0, none⟩)), (8, .pointer (some ⟨b8, 0, none⟩)), (10, iv q.2.1), (11, iv (sp q.1))]) (OS := fun q => [.blk b8 (LC (stC l) 105), .blk m2 (qV ekT iv q.2.2.1 q.2.2.2)])
  (VS := fun q V' => V' = V24 ∧ q.1 ≤ 16 ∧ q.2.1 + 2 ^ q.1 ≤ 65536 ∧ (q.2.1 = 0 ∨ canS b.rs l G q.2.1 = true) ∧ ∀ x : Nat, q.2.1 + 2 ^ q.1 ≤ x → canS b.rs l G x = false) (μ := fun q => q.1) (16, 0, [], 0) ?_ ?_ ?_ ?_
 ·exact ⟨rfl, rfl, rfl, rfl, rfl, trivial⟩
 ·exact Pt.zJ
 ·refine ⟨rfl, Nat.le_refl _, by decide, .inl rfl, fun x hx => ?_⟩
  dsimp only at hx
  cases h : canS b.rs l G x with
  | false => rfl
  | true =>
   have h1 := canS_le hrs (fun s => (hok.bd s).1) hG8 (Int.natCast_nonneg x) h
   have h2 := hok.sum
   have h3 : (2 : Nat) ^ 16 = 65536 := by decide
   omega
 rintro ⟨i, m, M, cM⟩ V' ks' O' ⟨rfl, hi16, hm6, hmc, hmn⟩ hk hO hl2
 dsimp only at hi16 hm6 hmc hmn hk hO
 subst hk hO
 refine At.nrm ?_
 refine At.zh (.q 0 (.q 1 .done)) ?_
 refine AtT.zg ?_
 refine AtT.qM ?_
 refine AtT.done ?_
 refine At.nrm ?_
 refine At.qf rfl (fun hp2 => ?_) (fun hp2 => ?_)
 rotate_left
 ·obtain rfl : i = 0 := by
   cases i with
   | zero => rfl
   | succ i => exfalso; apply hp2; show (0 : Int) < ((2 ^ i : Nat) : Int); have := Nat.two_pow_pos i; omega
  have hfin := mostS_of hrs (fun s => (hok.bd s).1) hok.sum hG8 hmc (fun x hx => hmn x (by simp; omega))
  refine At.nrm ?_
  refine At.zh (.q 0 (.q 1 (.q 2 .done))) ?_
  refine AtT.zg ?_
  refine AtT.zf ?_
  refine AtT.zf ?_
  refine AtT.done ?_
  refine At.nrm ?_
  exact At.qX rfl (.tmp rfl) (.tmp rfl) (by rw [hfin])
 obtain ⟨i, rfl⟩ : ∃ i', i = i' + 1 := by
  cases i with
  | zero => simp [sp] at hp2
  | succ i => exact ⟨i, rfl⟩
 have hpow : (2 : Nat) ^ (i + 1) = 2 ^ i + 2 ^ i := by rw [Nat.pow_succ]; omega
 have hpos := Nat.two_pow_pos i
 have hhalf := sp_half i
 have hspi : sp i ≤ 2 ^ i := by
  cases i with
  | zero => simp [sp]
  | succ i => simp only [sp]; exact Nat.pow_le_pow_right (by decide) (by omega)
 have hfh : Fit ((((2 ^ i : Nat) : Int)).tdiv 2) := by rw [hhalf]; exact Fit.of (by omega) (by omega)
 have hsum : (m : Int) + ((2 ^ i : Nat) : Int) = ((m + 2 ^ i : Nat) : Int) := by push_cast; rfl
 have hss : (iv (sp (i + 1)) : Value) = iv ((2 ^ i : Nat) : Int) := rfl
 rw [hss]
 refine At.nrm ?_
 cases hcan : canS b.rs l G ((m + 2 ^ i : Nat) : Int) with
 | true =>
  refine At.zh (.q 0 (.q 1 (.q 2 (.q 3 (.q 4 (.q 5 (.n true 6 .done))))))) ?_
  refine AtT.zg ?_
  first | refine AtT.zG qh ?_ | refine AtT.zK qh ?_ | refine AtT.zF qh ?_
  refine AtT.zg ?_
  refine AtT.zg ?_
  refine AtT.zg ?_
  first | refine AtT.qN ?_ | refine AtT.qw ?_
  rw [hsum]
  refine AtT.jd rfl trivial rfl ok70 (by decide) (zP.perm zP.zJ) (can_f b.rs hrs l (fun s _ => hok.bd s) G hG8 ((m + 2 ^ i : Nat) : Int) (by omega) M cM p m1 m2 _ _ _ hsto hrm) ?_
  rintro _ _ V54 ⟨rfl, rfl, M', c', rfl⟩; rw [hcan]
  refine AtT.done ?_
  refine At.nrm ?_
  refine At.qb rfl rfl ?_
  refine At.nrm ?_
  refine At.zh (.q 0 (.q 1 (.q 2 (.q 3 .done)))) ?_
  refine AtT.zg ?_
  refine AtT.zg ?_
  first | refine AtT.qN ?_ | refine AtT.qw ?_
  rw [hsum]
  refine AtT.zf ?_
  refine AtT.done ?_
  refine At.nrm ?_
  refine At.nrm ?_
  refine At.zh (.q 0 (.q 1 (.q 2 .done))) ?_
  refine AtT.zg ?_
  refine AtT.kquo ?_
  rw [hhalf]
  refine AtT.zf ?_
  refine AtT.done ?_
  refine At.nrm ?_
  refine At.round (i, m + 2 ^ i, M', c') ?_ ?_ ?_ ?_
  ·show i < i + 1; omega
  ·refine ⟨rfl, by dsimp only; omega, by dsimp only; omega, .inr hcan, fun x hx => hmn x (by dsimp only at hx; omega)⟩
  ·exact ⟨rfl, rfl, rfl, rfl, rfl, trivial⟩
  ·exact Pt.zJ
 | false =>
  refine At.zh (.q 0 (.q 1 (.q 2 (.q 3 (.q 4 (.q 5 (.n true 6 .done))))))) ?_
  refine AtT.zg ?_
  first | refine AtT.zG qh ?_ | refine AtT.zK qh ?_ | refine AtT.zF qh ?_
  refine AtT.zg ?_
  refine AtT.zg ?_
  refine AtT.zg ?_
  first | refine AtT.qN ?_ | refine AtT.qw ?_
  rw [hsum]
  refine AtT.jd rfl trivial rfl ok70 (by decide) (zP.perm zP.zJ) (can_f b.rs hrs l (fun s _ => hok.bd s) G hG8 ((m + 2 ^ i : Nat) : Int) (by omega) M cM p m1 m2 _ _ _ hsto hrm) ?_
  rintro _ _ V54 ⟨rfl, rfl, M', c', rfl⟩; rw [hcan]
  refine AtT.done ?_
  refine At.nrm ?_
  refine At.qd rfl rfl ?_
  refine At.nrm ?_
  refine At.zh (.q 0 (.q 1 (.q 2 .done))) ?_
  refine AtT.zg ?_
  refine AtT.kquo ?_
  rw [hhalf]
  refine AtT.zf ?_
  refine AtT.done ?_
  refine At.nrm ?_
  refine At.round (i, m, M', c') ?_ ?_ ?_ ?_
  ·show i < i + 1; omega
  ·refine ⟨rfl, by dsimp only; omega, by dsimp only; omega, hmc, fun x hx => canS_up hrs hx hcan⟩
  ·exact ⟨rfl, rfl, rfl, rfl, rfl, trivial⟩
  ·exact Pt.zJ
end Go.Proofs.YtpoignmclfdgpaaGreatDoor
set_option linter.unusedVariables false
namespace Go.Proofs.YtpoignmclfdgpaaGreatDoor
open Go.Lw Go.Gl Go.Bk Go.RowKit
theorem list_same {α : Type} {l m : List α} (hl : l.length = m.length) (h : ∀ j, j < l.length → l[j]? = m[j]?) : l = m := by
 apply List.ext_getElem?
 intro i
 by_cases hi : i < l.length
 ·exact h i hi
 ·rw [List.getElem?_eq_none (by omega), List.getElem?_eq_none (by omega)]
theorem bo_ne {x y : Bo} {k : Nat} {r q : Rc} (h1 : x.rs[k]? = some r) (h2 : y.rs[k]? = some q) (h : r ≠ q) : decide (x = y) = false := decide_eq_false fun e => by subst e; rw [h1] at h2; exact h (Option.some.inj h2)
theorem same_f (x y : Bo) (V : View) (v u : Value) (hx : BoV V v x) (hy : BoV V u y) : Fnc Tryz.prog 30 [v, u] V fun r _ => r = .bool (decide (x = y)) := by
 obtain ⟨v1, a1, c1, rfl, hr1, he1⟩ := hx
 obtain ⟨v2, a2, c2, rfl, hr2, he2⟩ := hy
 obtain ⟨qs, aq, cq, hqr, rfl, hsq, hq⟩ := hr1
 obtain ⟨ps, ap, cp, hpr, rfl, hsp, hp⟩ := hr2
 have hl1 := hsq.jE
 have hl2 := hsp.jE
 have hl3 := he1.jE
 have hl4 := he2.jE
 have hql : qs.length = x.rs.length := by rw [← hqr, List.length_map]
 have hpl : ps.length = y.rs.length := by rw [← hpr, List.length_map]
 refine qm Tryz.func30 rfl Tryz.ntmps30 (Nat.le_of_ble_eq_true rfl) ?_
 intro w0 hw0
 refine At.nrm ?_
 refine At.zh (.n false 0 (.n false 1 (.q 2 .done))) ?_
 refine AtT.jh ?_
 intro b2
 refine AtT.jh ?_
 intro b3
 refine AtT.zf ?_
 refine AtT.done ?_
 refine At.nrm ?_
 refine At.nrm ?_
 by_cases d1 : (qs.length : Int) ≠ ps.length
 ·refine At.zh (.q 0 (.q 1 (.q 2 (.q 3 (.q 4 (.q 5 (.q 6 (.q 7 (.q 8 (.q 9 (.q 10 (.q 11 (.q 12 (.q 13 (.q 14 (.q 15 .done)))))))))))))))) ?_
  first | refine AtT.zk zy ?_ | with_reducible refine AtT.zl zy ?_ | refine AtT.zn zy ?_
  first | refine AtT.zm qy ?_ | refine AtT.zo qy ?_
  first | refine AtT.zS Tryz.underlying22 ?_ | refine AtT.zR Tryz.underlying22 ?_
  first | refine AtT.zk zy ?_ | with_reducible refine AtT.zl zy ?_ | refine AtT.zn zy ?_
  first | refine AtT.zm qy ?_ | refine AtT.zo qy ?_
  first | refine AtT.zS Tryz.underlying22 ?_ | refine AtT.zR Tryz.underlying22 ?_
  refine AtT.qH ?_
  refine AtT.ql (d := 14) rfl (d1) ?_
  refine AtT.zg ?_
  all_goals (first | refine AtT.kL 15 ?_ | refine AtT.zB (d := 15) rfl (fun hg15 => ?_) (fun hg15 => ?_) | refine AtT.zA (d := 15) rfl (fun hg15 => ?_) (fun hg15 => ?_))
  all_goals first|refine AtT.zi ?_|refine AtT.ze ?_|(first | refine AtT.zk zw ?_ | with_reducible refine AtT.zl zw ?_ | refine AtT.zn zw ?_)
  all_goals first|refine AtT.zi ?_|refine AtT.ze ?_|(first | refine AtT.zm qx ?_ | refine AtT.zo qx ?_)
  all_goals first|refine AtT.zi ?_|refine AtT.ze ?_|(first | refine AtT.zS Tryz.underlying24 ?_ | refine AtT.zR Tryz.underlying24 ?_)
  all_goals first|refine AtT.zi ?_|refine AtT.ze ?_|(first | refine AtT.zk zw ?_ | with_reducible refine AtT.zl zw ?_ | refine AtT.zn zw ?_)
  all_goals first|refine AtT.zi ?_|refine AtT.ze ?_|(first | refine AtT.zm qx ?_ | refine AtT.zo qx ?_)
  all_goals first|refine AtT.zi ?_|refine AtT.ze ?_|(first | refine AtT.zS Tryz.underlying24 ?_ | refine AtT.zR Tryz.underlying24 ?_)
  all_goals first|refine AtT.zi ?_|refine AtT.ze ?_|(refine AtT.qH ?_)
  all_goals (refine AtT.zC ?_)
  all_goals refine AtT.done ?_
  all_goals (refine At.nrm ?_)
  all_goals refine At.qb rfl rfl ?_
  refine At.nrm ?_
  refine At.zh (.q 0 .done) ?_
  refine AtT.zf ?_
  refine AtT.done ?_
  refine At.nrm ?_
  exact At.qi rfl (.tmp rfl) (by rw [decide_eq_false]; rintro rfl; omega)
 by_cases d2 : (x.es.length : Int) ≠ y.es.length
 ·refine At.zh (.q 0 (.q 1 (.q 2 (.q 3 (.q 4 (.q 5 (.q 6 (.q 7 (.q 8 (.q 9 (.q 10 (.q 11 (.q 12 (.q 13 (.q 14 (.q 15 .done)))))))))))))))) ?_
  first | refine AtT.zk zy ?_ | with_reducible refine AtT.zl zy ?_ | refine AtT.zn zy ?_
  first | refine AtT.zm qy ?_ | refine AtT.zo qy ?_
  first | refine AtT.zS Tryz.underlying22 ?_ | refine AtT.zR Tryz.underlying22 ?_
  first | refine AtT.zk zy ?_ | with_reducible refine AtT.zl zy ?_ | refine AtT.zn zy ?_
  first | refine AtT.zm qy ?_ | refine AtT.zo qy ?_
  first | refine AtT.zS Tryz.underlying22 ?_ | refine AtT.zR Tryz.underlying22 ?_
  refine AtT.qH ?_
  refine AtT.zW (d := 14) rfl (d1) ?_
  refine AtT.zg ?_
  all_goals (first | refine AtT.kL 15 ?_ | refine AtT.zB (d := 15) rfl (fun hg15 => ?_) (fun hg15 => ?_) | refine AtT.zA (d := 15) rfl (fun hg15 => ?_) (fun hg15 => ?_))
  all_goals first|refine AtT.zi ?_|refine AtT.ze ?_|(first | refine AtT.zk zw ?_ | with_reducible refine AtT.zl zw ?_ | refine AtT.zn zw ?_)
  all_goals first|refine AtT.zi ?_|refine AtT.ze ?_|(first | refine AtT.zm qx ?_ | refine AtT.zo qx ?_)
  all_goals first|refine AtT.zi ?_|refine AtT.ze ?_|(first | refine AtT.zS Tryz.underlying24 ?_ | refine AtT.zR Tryz.underlying24 ?_)
  all_goals first|refine AtT.zi ?_|refine AtT.ze ?_|(first | refine AtT.zk zw ?_ | with_reducible refine AtT.zl zw ?_ | refine AtT.zn zw ?_)
  all_goals first|refine AtT.zi ?_|refine AtT.ze ?_|(first | refine AtT.zm qx ?_ | refine AtT.zo qx ?_)
  all_goals first|refine AtT.zi ?_|refine AtT.ze ?_|(first | refine AtT.zS Tryz.underlying24 ?_ | refine AtT.zR Tryz.underlying24 ?_)
  all_goals first|refine AtT.zi ?_|refine AtT.ze ?_|(refine AtT.qH ?_)
  all_goals (refine AtT.ql (d := 22) rfl (d2) ?_)
  all_goals (refine AtT.zC ?_)
  all_goals refine AtT.done ?_
  all_goals (refine At.nrm ?_)
  all_goals refine At.qb rfl rfl ?_
  refine At.nrm ?_
  refine At.zh (.q 0 .done) ?_
  refine AtT.zf ?_
  refine AtT.done ?_
  refine At.nrm ?_
  exact At.qi rfl (.tmp rfl) (by rw [decide_eq_false]; rintro rfl; omega)
 refine At.zh (.q 0 (.q 1 (.q 2 (.q 3 (.q 4 (.q 5 (.q 6 (.q 7 (.q 8 (.q 9 (.q 10 (.q 11 (.q 12 (.q 13 (.q 14 (.q 15 .done)))))))))))))))) ?_
 first | refine AtT.zk zy ?_ | with_reducible refine AtT.zl zy ?_ | refine AtT.zn zy ?_
 first | refine AtT.zm qy ?_ | refine AtT.zo qy ?_
 first | refine AtT.zS Tryz.underlying22 ?_ | refine AtT.zR Tryz.underlying22 ?_
 first | refine AtT.zk zy ?_ | with_reducible refine AtT.zl zy ?_ | refine AtT.zn zy ?_
 first | refine AtT.zm qy ?_ | refine AtT.zo qy ?_
 first | refine AtT.zS Tryz.underlying22 ?_ | refine AtT.zR Tryz.underlying22 ?_
 refine AtT.qH ?_
 refine AtT.zW (d := 14) rfl (d1) ?_
 refine AtT.zg ?_
 all_goals (first | refine AtT.kL 15 ?_ | refine AtT.zB (d := 15) rfl (fun hg15 => ?_) (fun hg15 => ?_) | refine AtT.zA (d := 15) rfl (fun hg15 => ?_) (fun hg15 => ?_))
 all_goals first|refine AtT.zi ?_|refine AtT.ze ?_|(first | refine AtT.zk zw ?_ | with_reducible refine AtT.zl zw ?_ | refine AtT.zn zw ?_)
 all_goals first|refine AtT.zi ?_|refine AtT.ze ?_|(first | refine AtT.zm qx ?_ | refine AtT.zo qx ?_)
 all_goals first|refine AtT.zi ?_|refine AtT.ze ?_|(first | refine AtT.zS Tryz.underlying24 ?_ | refine AtT.zR Tryz.underlying24 ?_)
 all_goals first|refine AtT.zi ?_|refine AtT.ze ?_|(first | refine AtT.zk zw ?_ | with_reducible refine AtT.zl zw ?_ | refine AtT.zn zw ?_)
 all_goals first|refine AtT.zi ?_|refine AtT.ze ?_|(first | refine AtT.zm qx ?_ | refine AtT.zo qx ?_)
 all_goals first|refine AtT.zi ?_|refine AtT.ze ?_|(first | refine AtT.zS Tryz.underlying24 ?_ | refine AtT.zR Tryz.underlying24 ?_)
 all_goals first|refine AtT.zi ?_|refine AtT.ze ?_|(refine AtT.qH ?_)
 all_goals (refine AtT.zW (d := 22) rfl (d2) ?_)
 all_goals (refine AtT.zC ?_)
 all_goals refine AtT.done ?_
 all_goals (refine At.nrm ?_)
 all_goals refine At.qd rfl rfl ?_
 refine At.nrm ?_
 have hRl : x.rs.length = y.rs.length := by omega
 have hEl : x.es.length = y.es.length := by omega
 refine At.zh (.q 0 .done) ?_
 refine AtT.zf ?_
 refine AtT.done ?_
 refine At.nrm ?_
 refine At.lp (ι := Nat) (KS := fun k => [(2, .pointer (some ⟨b2, 0, none⟩)), (3, .pointer (some ⟨b3, 0, none⟩)), (5, iv k)]) (OS := fun _ => [.blk b2 (LC [.slice aq qs.length cq, .slice a1 x.es.length c1] 26), .blk b3 (LC [.slice ap ps.length cp, .slice a2 y.es.length c2] 26)]) (VS := fun k V' => V' = V ∧ k ≤ qs.length ∧ ∀ j, j < k → x.rs[j]? = y.rs[j]?) (μ := fun k => qs.length - k) 0 ?_ ?_ ?_ ?_
 ·exact ⟨rfl, rfl, rfl, trivial⟩
 ·exact Pt.zJ
 ·exact ⟨rfl, Nat.zero_le _, fun j hj => absurd hj (Nat.not_lt_zero j)⟩
 rintro k V' ks' O' ⟨rfl, hkl, hall⟩ hk hO hl2
 subst hk hO
 refine At.nrm ?_
 refine At.zh (.q 0 (.q 1 (.q 2 (.q 3 (.q 4 .done))))) ?_
 refine AtT.zg ?_
 first | refine AtT.zk zy ?_ | with_reducible refine AtT.zl zy ?_ | refine AtT.zn zy ?_
 first | refine AtT.zm qy ?_ | refine AtT.zo qy ?_
 first | refine AtT.zS Tryz.underlying22 ?_ | refine AtT.zR Tryz.underlying22 ?_
 refine AtT.qB ?_
 refine AtT.done ?_
 refine At.nrm ?_
 refine At.qf rfl (fun hp1 => ?_) (fun hp1 => ?_)
 ·obtain ⟨q, hqk⟩ : ∃ q, qs[k]? = some q := ⟨_, List.getElem?_eq_getElem (by omega)⟩
  obtain ⟨p, hpk⟩ : ∃ p, ps[k]? = some p := ⟨_, List.getElem?_eq_getElem (by omega)⟩
  have hxk : x.rs[k]? = some q.1 := by rw [← hqr]; exact qs_at hqk
  have hyk : y.rs[k]? = some p.1 := by rw [← hpr]; exact qs_at hpk
  have hsA := hq q (qs_mem hqk)
  have hsB := hp p (qs_mem hpk)
  have hlA := hsA.jE
  refine At.nrm ?_
  by_cases g1 : q.1.g ≠ p.1.g
  ·refine At.draw (.q 0 (.q 1 (.q 2 (.q 3 (.q 4 (.q 5 (.q 6 (.q 7 (.q 8 (.q 9 (.q 10 (.q 11 (.q 12 (.q 13 (.q 14 (.q 15 (.q 16 (.q 17 (.q 18 (.q 19 (.q 20 (.q 21 (.q 22 (.q 23 (.q 24 (.q 25 (.q 26 (.q 27 (.q 28 (.q 29 .done)))))))))))))))))))))))))))))) ffm (by kernel_rfl) ?_
   first | refine AtT.zk zy ?_ | with_reducible refine AtT.zl zy ?_ | refine AtT.zn zy ?_
   first | refine AtT.zm qy ?_ | refine AtT.zo qy ?_
   refine AtT.zg ?_
   refine AtT.qC Tryz.underlying22 qP ?_
   intro p34 e34 he34 hc34
   obtain rfl : q = e34 := by have : qs[k]? = some e34 := (by rw [Int.toNat_natCast] at he34; exact he34); rw [hqk] at this; exact Option.some.inj this
   first | refine AtT.zk zX ?_ | with_reducible refine AtT.zl zX ?_ | refine AtT.zn zX ?_
   first | refine AtT.zm tk3 ?_ | refine AtT.zo tk3 ?_
   first | refine AtT.zk zy ?_ | with_reducible refine AtT.zl zy ?_ | refine AtT.zn zy ?_
   first | refine AtT.zm qy ?_ | refine AtT.zo qy ?_
   refine AtT.zg ?_
   refine AtT.qC Tryz.underlying22 qP ?_
   intro p40 e40 he40 hc40
   obtain rfl : p = e40 := by have : ps[k]? = some e40 := (by rw [Int.toNat_natCast] at he40; exact he40); rw [hpk] at this; exact Option.some.inj this
   first | refine AtT.zk zX ?_ | with_reducible refine AtT.zl zX ?_ | refine AtT.zn zX ?_
   first | refine AtT.zm tk3 ?_ | refine AtT.zo tk3 ?_
   refine AtT.qH ?_
   refine AtT.ql (d := 43) rfl (g1) ?_
   refine AtT.zg ?_
   all_goals (first | refine AtT.kL 44 ?_ | refine AtT.zB (d := 44) rfl (fun hg44 => ?_) (fun hg44 => ?_) | refine AtT.zA (d := 44) rfl (fun hg44 => ?_) (fun hg44 => ?_))
   all_goals first|refine AtT.zi ?_|refine AtT.ze ?_|(first | refine AtT.zk zy ?_ | with_reducible refine AtT.zl zy ?_ | refine AtT.zn zy ?_)
   all_goals first|refine AtT.zi ?_|refine AtT.ze ?_|(first | refine AtT.zm qy ?_ | refine AtT.zo qy ?_)
   all_goals first|refine AtT.zi ?_|refine AtT.ze ?_|(refine AtT.zg ?_)
   all_goals first|refine AtT.zi ?_|refine AtT.ze ?_|(refine AtT.qC Tryz.underlying22 qP ?_) ; (intro p48 e48 he48 hc48)
   all_goals first|refine AtT.zi ?_|refine AtT.ze ?_|(first | refine AtT.zk zL ?_ | with_reducible refine AtT.zl zL ?_ | refine AtT.zn zL ?_)
   all_goals first|refine AtT.zi ?_|refine AtT.ze ?_|(first | refine AtT.zm qK ?_ | refine AtT.zo qK ?_)
   all_goals first|refine AtT.zi ?_|refine AtT.ze ?_|(first | refine AtT.zS Tryz.underlying66 ?_ | refine AtT.zR Tryz.underlying66 ?_)
   all_goals first|refine AtT.zi ?_|refine AtT.ze ?_|(first | refine AtT.zk zy ?_ | with_reducible refine AtT.zl zy ?_ | refine AtT.zn zy ?_)
   all_goals first|refine AtT.zi ?_|refine AtT.ze ?_|(first | refine AtT.zm qy ?_ | refine AtT.zo qy ?_)
   all_goals first|refine AtT.zi ?_|refine AtT.ze ?_|(refine AtT.zg ?_)
   all_goals first|refine AtT.zi ?_|refine AtT.ze ?_|(refine AtT.qC Tryz.underlying22 qP ?_) ; (intro p55 e55 he55 hc55)
   all_goals first|refine AtT.zi ?_|refine AtT.ze ?_|(first | refine AtT.zk zL ?_ | with_reducible refine AtT.zl zL ?_ | refine AtT.zn zL ?_)
   all_goals first|refine AtT.zi ?_|refine AtT.ze ?_|(first | refine AtT.zm qK ?_ | refine AtT.zo qK ?_)
   all_goals first|refine AtT.zi ?_|refine AtT.ze ?_|(first | refine AtT.zS Tryz.underlying66 ?_ | refine AtT.zR Tryz.underlying66 ?_)
   all_goals first|refine AtT.zi ?_|refine AtT.ze ?_|(refine AtT.qH ?_)
   all_goals (refine AtT.zC ?_)
   all_goals refine AtT.done ?_
   all_goals (refine At.nrm ?_)
   all_goals refine At.qb rfl rfl ?_
   refine At.nrm ?_
   refine At.zh (.q 0 .done) ?_
   refine AtT.zf ?_
   refine AtT.done ?_
   refine At.nrm ?_
   exact At.qi rfl (.tmp rfl) (by rw [bo_ne hxk hyk (fun e => by rw [e] at g1; exact g1 rfl)])
  by_cases g2 : (q.1.ps.length : Int) ≠ p.1.ps.length
  ·refine At.draw (.q 0 (.q 1 (.q 2 (.q 3 (.q 4 (.q 5 (.q 6 (.q 7 (.q 8 (.q 9 (.q 10 (.q 11 (.q 12 (.q 13 (.q 14 (.q 15 (.q 16 (.q 17 (.q 18 (.q 19 (.q 20 (.q 21 (.q 22 (.q 23 (.q 24 (.q 25 (.q 26 (.q 27 (.q 28 (.q 29 .done)))))))))))))))))))))))))))))) ffm (by kernel_rfl) ?_
   first | refine AtT.zk zy ?_ | with_reducible refine AtT.zl zy ?_ | refine AtT.zn zy ?_
   first | refine AtT.zm qy ?_ | refine AtT.zo qy ?_
   refine AtT.zg ?_
   refine AtT.qC Tryz.underlying22 qP ?_
   intro p34 e34 he34 hc34
   obtain rfl : q = e34 := by have : qs[k]? = some e34 := (by rw [Int.toNat_natCast] at he34; exact he34); rw [hqk] at this; exact Option.some.inj this
   first | refine AtT.zk zX ?_ | with_reducible refine AtT.zl zX ?_ | refine AtT.zn zX ?_
   first | refine AtT.zm tk3 ?_ | refine AtT.zo tk3 ?_
   first | refine AtT.zk zy ?_ | with_reducible refine AtT.zl zy ?_ | refine AtT.zn zy ?_
   first | refine AtT.zm qy ?_ | refine AtT.zo qy ?_
   refine AtT.zg ?_
   refine AtT.qC Tryz.underlying22 qP ?_
   intro p40 e40 he40 hc40
   obtain rfl : p = e40 := by have : ps[k]? = some e40 := (by rw [Int.toNat_natCast] at he40; exact he40); rw [hpk] at this; exact Option.some.inj this
   first | refine AtT.zk zX ?_ | with_reducible refine AtT.zl zX ?_ | refine AtT.zn zX ?_
   first | refine AtT.zm tk3 ?_ | refine AtT.zo tk3 ?_
   refine AtT.qH ?_
   refine AtT.zW (d := 43) rfl (g1) ?_
   refine AtT.zg ?_
   all_goals (first | refine AtT.kL 44 ?_ | refine AtT.zB (d := 44) rfl (fun hg44 => ?_) (fun hg44 => ?_) | refine AtT.zA (d := 44) rfl (fun hg44 => ?_) (fun hg44 => ?_))
   all_goals first|refine AtT.zi ?_|refine AtT.ze ?_|(first | refine AtT.zk zy ?_ | with_reducible refine AtT.zl zy ?_ | refine AtT.zn zy ?_)
   all_goals first|refine AtT.zi ?_|refine AtT.ze ?_|(first | refine AtT.zm qy ?_ | refine AtT.zo qy ?_)
   all_goals first|refine AtT.zi ?_|refine AtT.ze ?_|(refine AtT.zg ?_)
   all_goals first|refine AtT.zi ?_|refine AtT.ze ?_|(refine AtT.qC Tryz.underlying22 qP ?_) ; (intro p48 e48 he48 hc48)
   all_goals (obtain rfl : q = e48 := by have : qs[k]? = some e48 := (by rw [Int.toNat_natCast] at he48; exact he48); rw [hqk] at this; exact Option.some.inj this)
   all_goals first|refine AtT.zi ?_|refine AtT.ze ?_|(first | refine AtT.zk zL ?_ | with_reducible refine AtT.zl zL ?_ | refine AtT.zn zL ?_)
   all_goals first|refine AtT.zi ?_|refine AtT.ze ?_|(first | refine AtT.zm qK ?_ | refine AtT.zo qK ?_)
   all_goals first|refine AtT.zi ?_|refine AtT.ze ?_|(first | refine AtT.zS Tryz.underlying66 ?_ | refine AtT.zR Tryz.underlying66 ?_)
   all_goals first|refine AtT.zi ?_|refine AtT.ze ?_|(first | refine AtT.zk zy ?_ | with_reducible refine AtT.zl zy ?_ | refine AtT.zn zy ?_)
   all_goals first|refine AtT.zi ?_|refine AtT.ze ?_|(first | refine AtT.zm qy ?_ | refine AtT.zo qy ?_)
   all_goals first|refine AtT.zi ?_|refine AtT.ze ?_|(refine AtT.zg ?_)
   all_goals first|refine AtT.zi ?_|refine AtT.ze ?_|(refine AtT.qC Tryz.underlying22 qP ?_) ; (intro p55 e55 he55 hc55)
   all_goals (obtain rfl : p = e55 := by have : ps[k]? = some e55 := (by rw [Int.toNat_natCast] at he55; exact he55); rw [hpk] at this; exact Option.some.inj this)
   all_goals first|refine AtT.zi ?_|refine AtT.ze ?_|(first | refine AtT.zk zL ?_ | with_reducible refine AtT.zl zL ?_ | refine AtT.zn zL ?_)
   all_goals first|refine AtT.zi ?_|refine AtT.ze ?_|(first | refine AtT.zm qK ?_ | refine AtT.zo qK ?_)
   all_goals first|refine AtT.zi ?_|refine AtT.ze ?_|(first | refine AtT.zS Tryz.underlying66 ?_ | refine AtT.zR Tryz.underlying66 ?_)
   all_goals first|refine AtT.zi ?_|refine AtT.ze ?_|(refine AtT.qH ?_)
   all_goals (refine AtT.ql (d := 59) rfl (g2) ?_)
   all_goals (refine AtT.zC ?_)
   all_goals refine AtT.done ?_
   all_goals (refine At.nrm ?_)
   all_goals refine At.qb rfl rfl ?_
   refine At.nrm ?_
   refine At.zh (.q 0 .done) ?_
   refine AtT.zf ?_
   refine AtT.done ?_
   refine At.nrm ?_
   exact At.qi rfl (.tmp rfl) (by rw [bo_ne hxk hyk (fun e => by rw [e] at g2; exact g2 rfl)])
  refine At.draw (.q 0 (.q 1 (.q 2 (.q 3 (.q 4 (.q 5 (.q 6 (.q 7 (.q 8 (.q 9 (.q 10 (.q 11 (.q 12 (.q 13 (.q 14 (.q 15 (.q 16 (.q 17 (.q 18 (.q 19 (.q 20 (.q 21 (.q 22 (.q 23 (.q 24 (.q 25 (.q 26 (.q 27 (.q 28 (.q 29 .done)))))))))))))))))))))))))))))) ffm (by kernel_rfl) ?_
  first | refine AtT.zk zy ?_ | with_reducible refine AtT.zl zy ?_ | refine AtT.zn zy ?_
  first | refine AtT.zm qy ?_ | refine AtT.zo qy ?_
  refine AtT.zg ?_
  refine AtT.qC Tryz.underlying22 qP ?_
  intro p34 e34 he34 hc34
  obtain rfl : q = e34 := by have : qs[k]? = some e34 := (by rw [Int.toNat_natCast] at he34; exact he34); rw [hqk] at this; exact Option.some.inj this
  first | refine AtT.zk zX ?_ | with_reducible refine AtT.zl zX ?_ | refine AtT.zn zX ?_
  first | refine AtT.zm tk3 ?_ | refine AtT.zo tk3 ?_
  first | refine AtT.zk zy ?_ | with_reducible refine AtT.zl zy ?_ | refine AtT.zn zy ?_
  first | refine AtT.zm qy ?_ | refine AtT.zo qy ?_
  refine AtT.zg ?_
  refine AtT.qC Tryz.underlying22 qP ?_
  intro p40 e40 he40 hc40
  obtain rfl : p = e40 := by have : ps[k]? = some e40 := (by rw [Int.toNat_natCast] at he40; exact he40); rw [hpk] at this; exact Option.some.inj this
  first | refine AtT.zk zX ?_ | with_reducible refine AtT.zl zX ?_ | refine AtT.zn zX ?_
  first | refine AtT.zm tk3 ?_ | refine AtT.zo tk3 ?_
  refine AtT.qH ?_
  refine AtT.zW (d := 43) rfl (g1) ?_
  refine AtT.zg ?_
  all_goals (first | refine AtT.kL 44 ?_ | refine AtT.zB (d := 44) rfl (fun hg44 => ?_) (fun hg44 => ?_) | refine AtT.zA (d := 44) rfl (fun hg44 => ?_) (fun hg44 => ?_))
  all_goals first|refine AtT.zi ?_|refine AtT.ze ?_|(first | refine AtT.zk zy ?_ | with_reducible refine AtT.zl zy ?_ | refine AtT.zn zy ?_)
  all_goals first|refine AtT.zi ?_|refine AtT.ze ?_|(first | refine AtT.zm qy ?_ | refine AtT.zo qy ?_)
  all_goals first|refine AtT.zi ?_|refine AtT.ze ?_|(refine AtT.zg ?_)
  all_goals first|refine AtT.zi ?_|refine AtT.ze ?_|(refine AtT.qC Tryz.underlying22 qP ?_) ; (intro p48 e48 he48 hc48)
  all_goals (obtain rfl : q = e48 := by have : qs[k]? = some e48 := (by rw [Int.toNat_natCast] at he48; exact he48); rw [hqk] at this; exact Option.some.inj this)
  all_goals first|refine AtT.zi ?_|refine AtT.ze ?_|(first | refine AtT.zk zL ?_ | with_reducible refine AtT.zl zL ?_ | refine AtT.zn zL ?_)
  all_goals first|refine AtT.zi ?_|refine AtT.ze ?_|(first | refine AtT.zm qK ?_ | refine AtT.zo qK ?_)
  all_goals first|refine AtT.zi ?_|refine AtT.ze ?_|(first | refine AtT.zS Tryz.underlying66 ?_ | refine AtT.zR Tryz.underlying66 ?_)
  all_goals first|refine AtT.zi ?_|refine AtT.ze ?_|(first | refine AtT.zk zy ?_ | with_reducible refine AtT.zl zy ?_ | refine AtT.zn zy ?_)
  all_goals first|refine AtT.zi ?_|refine AtT.ze ?_|(first | refine AtT.zm qy ?_ | refine AtT.zo qy ?_)
  all_goals first|refine AtT.zi ?_|refine AtT.ze ?_|(refine AtT.zg ?_)
  all_goals first|refine AtT.zi ?_|refine AtT.ze ?_|(refine AtT.qC Tryz.underlying22 qP ?_) ; (intro p55 e55 he55 hc55)
  all_goals (obtain rfl : p = e55 := by have : ps[k]? = some e55 := (by rw [Int.toNat_natCast] at he55; exact he55); rw [hpk] at this; exact Option.some.inj this)
  all_goals first|refine AtT.zi ?_|refine AtT.ze ?_|(first | refine AtT.zk zL ?_ | with_reducible refine AtT.zl zL ?_ | refine AtT.zn zL ?_)
  all_goals first|refine AtT.zi ?_|refine AtT.ze ?_|(first | refine AtT.zm qK ?_ | refine AtT.zo qK ?_)
  all_goals first|refine AtT.zi ?_|refine AtT.ze ?_|(first | refine AtT.zS Tryz.underlying66 ?_ | refine AtT.zR Tryz.underlying66 ?_)
  all_goals first|refine AtT.zi ?_|refine AtT.ze ?_|(refine AtT.qH ?_)
  all_goals (refine AtT.zW (d := 59) rfl (g2) ?_)
  all_goals (refine AtT.zC ?_)
  all_goals refine AtT.done ?_
  all_goals (refine At.nrm ?_)
  all_goals refine At.qd rfl rfl ?_
  refine At.nrm ?_
  have hpsl : q.1.ps.length = p.1.ps.length := by omega
  refine At.zh (.q 0 .done) ?_
  refine AtT.zf ?_
  refine AtT.done ?_
  refine At.nrm ?_
  refine At.lp (ι := Nat) (KS := fun j => [(2, .pointer (some ⟨b2, 0, none⟩)), (3, .pointer (some ⟨b3, 0, none⟩)), (5, iv k), (6, iv j)]) (OS := fun _ => [.blk b2 (LC [.slice aq qs.length cq, .slice a1 x.es.length c1] 26), .blk b3 (LC [.slice ap ps.length cp, .slice a2 y.es.length c2] 26)]) (VS := fun j V'' => V'' = V' ∧ j ≤ q.1.ps.length ∧ ∀ i, i < j → q.1.ps[i]? = p.1.ps[i]?) (μ := fun j => q.1.ps.length - j) 0 ?_ ?_ ?_ ?_
  ·exact ⟨rfl, rfl, rfl, rfl, trivial⟩
  ·exact Pt.zJ
  ·exact ⟨rfl, Nat.zero_le _, fun j hj => absurd hj (Nat.not_lt_zero j)⟩
  rintro j V2 ks' O' ⟨rfl, hjl, hpa⟩ hk hO hl3
  subst hk hO
  refine At.nrm ?_
  refine At.zh (.q 0 (.q 1 (.q 2 (.q 3 (.q 4 (.q 5 (.q 6 (.q 7 (.q 8 .done))))))))) ?_
  refine AtT.zg ?_
  first | refine AtT.zk zy ?_ | with_reducible refine AtT.zl zy ?_ | refine AtT.zn zy ?_
  first | refine AtT.zm qy ?_ | refine AtT.zo qy ?_
  refine AtT.zg ?_
  refine AtT.qC Tryz.underlying22 qP ?_
  intro p65 e65 he65 hc65
  obtain rfl : q = e65 := by have : qs[k]? = some e65 := (by rw [Int.toNat_natCast] at he65; exact he65); rw [hqk] at this; exact Option.some.inj this
  first | refine AtT.zk zL ?_ | with_reducible refine AtT.zl zL ?_ | refine AtT.zn zL ?_
  first | refine AtT.zm qK ?_ | refine AtT.zo qK ?_
  first | refine AtT.zS Tryz.underlying66 ?_ | refine AtT.zR Tryz.underlying66 ?_
  refine AtT.qB ?_
  refine AtT.done ?_
  refine At.nrm ?_
  refine At.qf rfl (fun hp2 => ?_) (fun hp2 => ?_)
  rotate_left
  ·obtain rfl : j = q.1.ps.length := by omega
   have hrc : q.1 = p.1 := by
    by_cases hgg : q.1.g = p.1.g
    ·have := list_same hpsl hpa
     cases hq1 : q.1
     cases hp1' : p.1
     rw [hq1, hp1'] at hgg this
     simp only at hgg this
     rw [hgg, this]
    ·exact absurd hgg g1
   refine At.nrm ?_
   refine At.zh (.q 0 (.q 1 (.q 2 .done))) ?_
   refine AtT.zg ?_
   first | refine AtT.qN ?_ | refine AtT.qw ?_
   refine AtT.zf ?_
   refine AtT.done ?_
   refine At.nrm ?_
   refine At.round (k + 1) ?_ ?_ ?_ ?_
   ·show qs.length - (k + 1) < qs.length - k; omega
   ·refine ⟨rfl, by omega, fun i hi => ?_⟩
    by_cases e : i = k
    ·subst e; rw [hxk, hyk, hrc]
    ·exact hall i (by omega)
   ·exact ⟨rfl, rfl, ivs (by omega), trivial⟩
   ·exact Pt.zJ
  obtain ⟨A, hA⟩ : ∃ A, q.1.ps[j]? = some A := ⟨_, List.getElem?_eq_getElem (by omega)⟩
  obtain ⟨B, hB⟩ : ∃ B, p.1.ps[j]? = some B := ⟨_, List.getElem?_eq_getElem (by omega)⟩
  have hAB : (A.t = B.t ∧ A.n = B.n) ↔ A = B := by cases A; cases B; simp
  refine At.nrm ?_
  by_cases hab : A = B
  ·refine At.draw (.q 0 (.q 1 (.q 2 (.q 3 (.q 4 (.q 5 (.q 6 (.q 7 (.q 8 (.q 9 (.q 10 (.q 11 (.q 12 (.q 13 (.q 14 (.q 15 (.q 16 (.q 17 (.q 18 .done))))))))))))))))))) ffm (by kernel_rfl) ?_
   first | refine AtT.zk zy ?_ | with_reducible refine AtT.zl zy ?_ | refine AtT.zn zy ?_
   first | refine AtT.zm qy ?_ | refine AtT.zo qy ?_
   refine AtT.zg ?_
   refine AtT.qC Tryz.underlying22 qP ?_
   intro p75 e75 he75 hc75
   obtain rfl : q = e75 := by have : qs[k]? = some e75 := (by rw [Int.toNat_natCast] at he75; exact he75); rw [hqk] at this; exact Option.some.inj this
   first | refine AtT.zk zL ?_ | with_reducible refine AtT.zl zL ?_ | refine AtT.zn zL ?_
   first | refine AtT.zm qK ?_ | refine AtT.zo qK ?_
   refine AtT.zg ?_
   refine AtT.idx rfl trivial Tryz.underlying66 qY rfl hsA rfl (by omega) (by omega) (by decide) ?_
   intro p79 e79 he79 hc79
   obtain rfl : A = e79 := by have : q.1.ps[j]? = some e79 := (by rw [Int.toNat_natCast] at he79; exact he79); rw [hA] at this; exact Option.some.inj this
   first | refine AtT.zG qY ?_ | refine AtT.zK qY ?_ | refine AtT.zF qY ?_
   first | refine AtT.zk zy ?_ | with_reducible refine AtT.zl zy ?_ | refine AtT.zn zy ?_
   first | refine AtT.zm qy ?_ | refine AtT.zo qy ?_
   refine AtT.zg ?_
   refine AtT.qC Tryz.underlying22 qP ?_
   intro p84 e84 he84 hc84
   obtain rfl : p = e84 := by have : ps[k]? = some e84 := (by rw [Int.toNat_natCast] at he84; exact he84); rw [hpk] at this; exact Option.some.inj this
   first | refine AtT.zk zL ?_ | with_reducible refine AtT.zl zL ?_ | refine AtT.zn zL ?_
   first | refine AtT.zm qK ?_ | refine AtT.zo qK ?_
   refine AtT.zg ?_
   refine AtT.idx rfl trivial Tryz.underlying66 qY rfl hsB rfl (by omega) (by omega) (by decide) ?_
   intro p88 e88 he88 hc88
   obtain rfl : B = e88 := by have : p.1.ps[j]? = some e88 := (by rw [Int.toNat_natCast] at he88; exact he88); rw [hB] at this; exact Option.some.inj this
   first | refine AtT.zG qY ?_ | refine AtT.zK qY ?_ | refine AtT.zF qY ?_
   refine AtT.kneS (eqS69 _ _ _ _) ?_
   refine AtT.done ?_
   refine At.nrm ?_
   refine At.qd rfl (by rw [decide_eq_true (hAB.2 hab)]; rfl) ?_
   refine At.nrm ?_
   refine At.zh (.q 0 (.q 1 (.q 2 .done))) ?_
   refine AtT.zg ?_
   first | refine AtT.qN ?_ | refine AtT.qw ?_
   refine AtT.zf ?_
   refine AtT.done ?_
   refine At.nrm ?_
   refine At.round (j + 1) ?_ ?_ ?_ ?_
   ·show q.1.ps.length - (j + 1) < q.1.ps.length - j; omega
   ·refine ⟨rfl, by omega, fun i hi => ?_⟩
    by_cases e : i = j
    ·subst e; rw [hA, hB, hab]
    ·exact hpa i (by omega)
   ·exact ⟨rfl, rfl, rfl, ivs (by omega), trivial⟩
   ·exact Pt.zJ
  ·refine At.draw (.q 0 (.q 1 (.q 2 (.q 3 (.q 4 (.q 5 (.q 6 (.q 7 (.q 8 (.q 9 (.q 10 (.q 11 (.q 12 (.q 13 (.q 14 (.q 15 (.q 16 (.q 17 (.q 18 .done))))))))))))))))))) ffm (by kernel_rfl) ?_
   first | refine AtT.zk zy ?_ | with_reducible refine AtT.zl zy ?_ | refine AtT.zn zy ?_
   first | refine AtT.zm qy ?_ | refine AtT.zo qy ?_
   refine AtT.zg ?_
   refine AtT.qC Tryz.underlying22 qP ?_
   intro p75 e75 he75 hc75
   obtain rfl : q = e75 := by have : qs[k]? = some e75 := (by rw [Int.toNat_natCast] at he75; exact he75); rw [hqk] at this; exact Option.some.inj this
   first | refine AtT.zk zL ?_ | with_reducible refine AtT.zl zL ?_ | refine AtT.zn zL ?_
   first | refine AtT.zm qK ?_ | refine AtT.zo qK ?_
   refine AtT.zg ?_
   refine AtT.idx rfl trivial Tryz.underlying66 qY rfl hsA rfl (by omega) (by omega) (by decide) ?_
   intro p79 e79 he79 hc79
   obtain rfl : A = e79 := by have : q.1.ps[j]? = some e79 := (by rw [Int.toNat_natCast] at he79; exact he79); rw [hA] at this; exact Option.some.inj this
   first | refine AtT.zG qY ?_ | refine AtT.zK qY ?_ | refine AtT.zF qY ?_
   first | refine AtT.zk zy ?_ | with_reducible refine AtT.zl zy ?_ | refine AtT.zn zy ?_
   first | refine AtT.zm qy ?_ | refine AtT.zo qy ?_
   refine AtT.zg ?_
   refine AtT.qC Tryz.underlying22 qP ?_
   intro p84 e84 he84 hc84
   obtain rfl : p = e84 := by have : ps[k]? = some e84 := (by rw [Int.toNat_natCast] at he84; exact he84); rw [hpk] at this; exact Option.some.inj this
   first | refine AtT.zk zL ?_ | with_reducible refine AtT.zl zL ?_ | refine AtT.zn zL ?_
   first | refine AtT.zm qK ?_ | refine AtT.zo qK ?_
   refine AtT.zg ?_
   refine AtT.idx rfl trivial Tryz.underlying66 qY rfl hsB rfl (by omega) (by omega) (by decide) ?_
   intro p88 e88 he88 hc88
   obtain rfl : B = e88 := by have : p.1.ps[j]? = some e88 := (by rw [Int.toNat_natCast] at he88; exact he88); rw [hB] at this; exact Option.some.inj this
   first | refine AtT.zG qY ?_ | refine AtT.zK qY ?_ | refine AtT.zF qY ?_
   refine AtT.kneS (eqS69 _ _ _ _) ?_
   refine AtT.done ?_
   refine At.nrm ?_
   refine At.qb rfl (by rw [decide_eq_false (fun h => hab (hAB.1 h))]; rfl) ?_
   refine At.nrm ?_
   refine At.zh (.q 0 .done) ?_
   refine AtT.zf ?_
   refine AtT.done ?_
   refine At.nrm ?_
   exact At.qi rfl (.tmp rfl) (by rw [bo_ne hxk hyk (fun e => by rw [e, hB] at hA; exact hab (Option.some.inj hA).symm)])
 obtain rfl : k = qs.length := by omega
 have hrs : x.rs = y.rs := list_same hRl fun j hj => hall j (by omega)
 refine At.nrm ?_
 refine At.zh (.q 0 .done) ?_
 refine AtT.zf ?_
 refine AtT.done ?_
 refine At.nrm ?_
 refine At.lp (ι := Nat) (KS := fun k => [(2, .pointer (some ⟨b2, 0, none⟩)), (3, .pointer (some ⟨b3, 0, none⟩)), (7, iv k)]) (OS := fun _ => [.blk b2 (LC [.slice aq qs.length cq, .slice a1 x.es.length c1] 26), .blk b3 (LC [.slice ap ps.length cp, .slice a2 y.es.length c2] 26)]) (VS := fun k V2 => V2 = V' ∧ k ≤ x.es.length ∧ ∀ j, j < k → x.es[j]? = y.es[j]?) (μ := fun k => x.es.length - k) 0 ?_ ?_ ?_ ?_
 ·exact ⟨rfl, rfl, rfl, trivial⟩
 ·exact Pt.zJ
 ·exact ⟨rfl, Nat.zero_le _, fun j hj => absurd hj (Nat.not_lt_zero j)⟩
 rintro k V2 ks' O' ⟨rfl, hkl2, hea⟩ hk hO hl4
 subst hk hO
 refine At.nrm ?_
 refine At.zh (.q 0 (.q 1 (.q 2 (.q 3 (.q 4 .done))))) ?_
 refine AtT.zg ?_
 first | refine AtT.zk zw ?_ | with_reducible refine AtT.zl zw ?_ | refine AtT.zn zw ?_
 first | refine AtT.zm qx ?_ | refine AtT.zo qx ?_
 first | refine AtT.zS Tryz.underlying24 ?_ | refine AtT.zR Tryz.underlying24 ?_
 refine AtT.qB ?_
 refine AtT.done ?_
 refine At.nrm ?_
 refine At.qf rfl (fun hp2 => ?_) (fun hp2 => ?_)
 rotate_left
 ·obtain rfl : k = x.es.length := by omega
  have hes := list_same hEl hea
  refine At.nrm ?_
  refine At.zh (.q 0 .done) ?_
  refine AtT.zf ?_
  refine AtT.done ?_
  refine At.nrm ?_
  refine At.qi rfl (.tmp rfl) ?_
  rw [decide_eq_true]
  cases x
  cases y
  simp only at hrs hes
  rw [hrs, hes]
 obtain ⟨A, hA⟩ : ∃ A, x.es[k]? = some A := ⟨_, List.getElem?_eq_getElem (by omega)⟩
 obtain ⟨B, hB⟩ : ∃ B, y.es[k]? = some B := ⟨_, List.getElem?_eq_getElem (by omega)⟩
 have hAB : (A.d = B.d ∧ A.k = B.k ∧ A.t = B.t ∧ A.n = B.n) ↔ A = B := by cases A; cases B; simp
 refine At.nrm ?_
 by_cases hab : A = B
 ·refine At.draw (.q 0 (.q 1 (.q 2 (.q 3 (.q 4 (.q 5 (.q 6 (.q 7 (.q 8 (.q 9 (.q 10 .done))))))))))) ffm (by kernel_rfl) ?_
  first | refine AtT.zk zw ?_ | with_reducible refine AtT.zl zw ?_ | refine AtT.zn zw ?_
  first | refine AtT.zm qx ?_ | refine AtT.zo qx ?_
  refine AtT.zg ?_
  refine AtT.qC Tryz.underlying24 qI ?_
  intro p101 e101 he101 hc101
  obtain rfl : A = e101 := by have : x.es[k]? = some e101 := (by rw [Int.toNat_natCast] at he101; exact he101); rw [hA] at this; exact Option.some.inj this
  first | refine AtT.zG qI ?_ | refine AtT.zK qI ?_ | refine AtT.zF qI ?_
  first | refine AtT.zk zw ?_ | with_reducible refine AtT.zl zw ?_ | refine AtT.zn zw ?_
  first | refine AtT.zm qx ?_ | refine AtT.zo qx ?_
  refine AtT.zg ?_
  refine AtT.qC Tryz.underlying24 qI ?_
  intro p106 e106 he106 hc106
  obtain rfl : B = e106 := by have : y.es[k]? = some e106 := (by rw [Int.toNat_natCast] at he106; exact he106); rw [hB] at this; exact Option.some.inj this
  first | refine AtT.zG qI ?_ | refine AtT.zK qI ?_ | refine AtT.zF qI ?_
  refine AtT.kneS (eqS36 _ _ _ _ _ _ _ _) ?_
  refine AtT.done ?_
  refine At.nrm ?_
  refine At.qd rfl (by rw [decide_eq_true (hAB.2 hab)]; rfl) ?_
  refine At.nrm ?_
  refine At.zh (.q 0 (.q 1 (.q 2 .done))) ?_
  refine AtT.zg ?_
  first | refine AtT.qN ?_ | refine AtT.qw ?_
  refine AtT.zf ?_
  refine AtT.done ?_
  refine At.nrm ?_
  refine At.round (k + 1) ?_ ?_ ?_ ?_
  ·show x.es.length - (k + 1) < x.es.length - k; omega
  ·refine ⟨rfl, by omega, fun i hi => ?_⟩
   by_cases e : i = k
   ·subst e; rw [hA, hB, hab]
   ·exact hea i (by omega)
  ·exact ⟨rfl, rfl, ivs (by omega), trivial⟩
  ·exact Pt.zJ
 ·refine At.draw (.q 0 (.q 1 (.q 2 (.q 3 (.q 4 (.q 5 (.q 6 (.q 7 (.q 8 (.q 9 (.q 10 .done))))))))))) ffm (by kernel_rfl) ?_
  first | refine AtT.zk zw ?_ | with_reducible refine AtT.zl zw ?_ | refine AtT.zn zw ?_
  first | refine AtT.zm qx ?_ | refine AtT.zo qx ?_
  refine AtT.zg ?_
  refine AtT.qC Tryz.underlying24 qI ?_
  intro p101 e101 he101 hc101
  obtain rfl : A = e101 := by have : x.es[k]? = some e101 := (by rw [Int.toNat_natCast] at he101; exact he101); rw [hA] at this; exact Option.some.inj this
  first | refine AtT.zG qI ?_ | refine AtT.zK qI ?_ | refine AtT.zF qI ?_
  first | refine AtT.zk zw ?_ | with_reducible refine AtT.zl zw ?_ | refine AtT.zn zw ?_
  first | refine AtT.zm qx ?_ | refine AtT.zo qx ?_
  refine AtT.zg ?_
  refine AtT.qC Tryz.underlying24 qI ?_
  intro p106 e106 he106 hc106
  obtain rfl : B = e106 := by have : y.es[k]? = some e106 := (by rw [Int.toNat_natCast] at he106; exact he106); rw [hB] at this; exact Option.some.inj this
  first | refine AtT.zG qI ?_ | refine AtT.zK qI ?_ | refine AtT.zF qI ?_
  refine AtT.kneS (eqS36 _ _ _ _ _ _ _ _) ?_
  refine AtT.done ?_
  refine At.nrm ?_
  refine At.qb rfl (by rw [decide_eq_false (fun h => hab (hAB.1 h))]; rfl) ?_
  refine At.nrm ?_
  refine At.zh (.q 0 .done) ?_
  refine AtT.zf ?_
  refine AtT.done ?_
  refine At.nrm ?_
  refine At.qi rfl (.tmp rfl) ?_
  rw [decide_eq_false]
  rintro rfl
  rw [hA] at hB
  exact hab (Option.some.inj hB)
theorem sl_emp {α : Type} {enc : α → List Value} {st : Nat} (V : View) (a : Option Addr) : Sl V enc st (.slice a 0 0) ([] : List α) := ⟨a, 0, rfl, Nat.le_refl _, Nat.zero_le _, fun h => absurd rfl h, fun p _ i x h => by simp at h⟩
theorem clone_f (l : List Pt) (h0 : l ≠ []) (hn : l.length ≤ 100) (V : View) (v : Value) (hs : Sl V pte 2 v l) : Fnc Tryz.prog 65 [v] V fun r V' => ∃ a c, r = .slice a l.length c ∧ Sl V' pte 2 (.slice a l.length c) l := by
 obtain ⟨a, c, rfl, k1, k2, ha, k3⟩ := id hs
 obtain ⟨p, rfl⟩ := Option.isSome_iff_exists.1 (ha h0)
 clear k1 k2 k3
 have hcl : Cells V p (flat pte l) := Sl.cells pte_len hs
 refine qm Tryz.func65 rfl Tryz.ntmps65 (Nat.le_of_ble_eq_true rfl) ?_
 intro w0 hw0
 refine At.nrm ?_
 refine At.zh (.q 0 .done) ?_
 refine AtT.zf ?_
 refine AtT.done ?_
 refine At.nrm ?_
 refine At.zh (.q 0 (.q 1 .done)) ?_
 refine AtT.zg ?_
 refine AtT.eqNil rfl trivial Tryz.underlying66 rfl rfl (by decide) ?_
 refine AtT.done ?_
 refine At.nrm ?_
 refine At.qd rfl rfl ?_
 refine At.nrm ?_
 refine At.zh (.n false 0 (.q 1 (.n true 2 (.q 3 .done)))) ?_
 refine AtT.zO (bs66_0) ?_
 intro q5 V5 hV5 hq5
 have g5 : Le V V5 := by first | exact hV5 | exact Le.trans (by assumption) hV5
 refine AtT.zg ?_
 refine AtT.appendC rfl trivial Tryz.underlying66 rw69 rfl (by decide) rfl (sl_emp _ _) rfl rfl (hcl.le hV5) (fun _ => rfl) h0 (by unfold maxLen; simp only [List.length_nil]; omega) (by simp only [List.length_nil]; omega) (by decide) (enc := pte) (l := []) (m := l) ?_
 intro a7 c7 V7 hV7 hs7
 refine AtT.zf ?_
 refine AtT.done ?_
 refine At.nrm ?_
 exact At.qi rfl (.tmp rfl) ⟨a7, c7, rfl, hs7⟩
def withB (b : Bo) (e : En) : Bo := ⟨b.rs, b.es ++ [e]⟩
theorem rc_parts {rs : List Rc} (h : qD (-1) rs) {r : Rc} (hr : r ∈ rs) : r.ps ≠ [] ∧ r.ps.length ≤ 3 := by
 have := (rcsOk_in h r hr).len
 exact ⟨fun e => by rw [e] at this; simp at this, this.2⟩
theorem ene_all (e : En) : (ene e).all Value.oneCell' = true := rfl
theorem pte_all (e : Pt) : (pte e).all Value.oneCell' = true := rfl
theorem rwith_f (b : Bo) (hrs : qD (-1) b.rs) (hr12 : b.rs.length ≤ 100) (he30 : b.es.length ≤ 100) (e : En) (V : View) (v : Value) (hv : BoV V v b) : Fnc Tryz.prog 42 [v, env e] V fun r V' => BoV V' r (withB b e) := by
 obtain ⟨v1, a, c, rfl, hr, hes⟩ := id hv
 obtain ⟨qs, aq, cq, hqr, rfl, hsq, hq⟩ := hr
 have hql : qs.length = b.rs.length := by rw [← hqr, List.length_map]
 refine qm Tryz.func42 rfl Tryz.ntmps42 (Nat.le_of_ble_eq_true rfl) ?_
 intro w0 hw0
 refine At.nrm ?_
 refine At.zh (.n false 0 (.n false 1 (.n false 2 .done))) ?_
 refine AtT.jh ?_
 intro b2
 refine AtT.jh ?_
 intro b3
 refine AtT.zT z26 ?_
 intro b4
 refine AtT.done ?_
 refine At.nrm ?_
 refine At.zh (.n false 0 .done) ?_
 refine AtT.zT z26 ?_
 intro b5
 refine AtT.done ?_
 refine At.nrm ?_
 refine At.zh (.q 0 .done) ?_
 refine AtT.zf ?_
 refine AtT.done ?_
 refine At.nrm ?_
 refine At.newRow 80 2 ?_
 refine At.lp (ι := Nat × List RcQ × Option Addr × Nat) (KS := fun g => [(2, .pointer (some ⟨b2, 0, none⟩)), (3, .pointer (some ⟨b3, 0, none⟩)), (4, .pointer (some ⟨b4, 0, none⟩)), (5, .pointer (some ⟨b5, 0, none⟩)), (6, iv g.1)])
  (OS := fun g => [.blk b2 (LC [.slice aq qs.length cq, .slice a b.es.length c] 26), .blk b3 (LC (ene e) 36), .blk b4 (LC [.slice none 0 0, .slice none 0 0] 26), .blk b5 (LC [.slice g.2.2.1 g.2.1.length g.2.2.2, .slice none 0 0] 26), .row (.slice g.2.2.1 g.2.1.length g.2.2.2) 80 2 g.2.1.length (flat rce g.2.1)])
  (VS := fun g V' => Le V V' ∧ g.1 ≤ qs.length ∧ g.2.1.length = g.1 ∧ g.2.1.map (·.1) = b.rs.take g.1 ∧ RsQ V' g.2.1) (μ := fun g => qs.length - g.1) (0, [], none, 0) ?_ ?_ ?_ ?_
 ·exact ⟨rfl, rfl, rfl, rfl, rfl, trivial⟩
 ·exact Pt.zJ
 ·exact ⟨Le.refl _, Nat.zero_le _, rfl, rfl, fun x hx => by cases hx⟩
 rintro ⟨k, L, ao, co⟩ V' ks' O' ⟨hVV, hkl, hLk, hLr, hLq⟩ hk hO hl2
 dsimp only at hkl hLk hLr hLq hk hO
 subst hk hO
 have hsq' := hsq.le hVV
 have hq' := hq.le hVV
 have hes' := hes.le hVV
 refine At.nrm ?_
 refine At.zh (.q 0 (.q 1 (.q 2 (.q 3 (.q 4 .done))))) ?_
 refine AtT.zg ?_
 first | refine AtT.zk zy ?_ | with_reducible refine AtT.zl zy ?_ | refine AtT.zn zy ?_
 first | refine AtT.zm qy ?_ | refine AtT.zo qy ?_
 first | refine AtT.zS Tryz.underlying22 ?_ | refine AtT.zR Tryz.underlying22 ?_
 refine AtT.qB ?_
 refine AtT.done ?_
 refine At.nrm ?_
 refine At.qf rfl (fun hp => ?_) (fun hp => ?_)
 ·obtain ⟨x, hx⟩ : ∃ x, qs[k]? = some x := ⟨_, List.getElem?_eq_getElem (by omega)⟩
  have hbx : b.rs[k]? = some x.1 := by rw [← hqr]; exact qs_at hx
  have htk := take_snoc2 hbx
  have hpx := rc_parts hrs (List.mem_of_getElem? hbx)
  have hsx := hq' x (qs_mem hx)
  refine At.nrm ?_
  refine At.zh (.q 0 (.q 1 (.q 2 (.q 3 (.q 4 (.n false 5 (.n true 6 .done))))))) ?_
  first | refine AtT.zk zy ?_ | with_reducible refine AtT.zl zy ?_ | refine AtT.zn zy ?_
  first | refine AtT.zm qy ?_ | refine AtT.zo qy ?_
  refine AtT.zg ?_
  refine AtT.qC Tryz.underlying22 qP ?_
  intro p18 e18 he18 hc18
  obtain rfl : x = e18 := by have : qs[k]? = some e18 := (by rw [Int.toNat_natCast] at he18; exact he18); rw [hx] at this; exact Option.some.inj this
  first | refine AtT.zG qP ?_ | refine AtT.zK qP ?_ | refine AtT.zF qP ?_
  refine AtT.zT z80 ?_
  intro b7
  refine AtT.zD qP ?_
  refine AtT.done ?_
  refine At.nrm ?_
  refine At.nrm ?_
  refine At.drawC [.blk b2 (LC [.slice aq qs.length cq, .slice a b.es.length c] 26), .blk b7 (LC (rce x) 80), .blk b5 (LC [.slice ao L.length co, .slice none 0 0] 26)] (.q 0 (.q 1 (.q 2 (.q 3 (.q 5 (.q 6 (.n false 4 (.n false 7 (.q 8 (.n false 9 (.n true 10 (.q 11 (.n true 12 .done))))))))))))) ffm (by kernel_rfl) Pt.zJ ?_
  refine AtC.pre (fun hle0 => ?_)
  refine AtC.kq (by (first | refine AtT.zk zy ?_ | with_reducible refine AtT.zl zy ?_ | refine AtT.zn zy ?_); exact At.knows) ?_
  refine AtC.kq (by (first | refine AtT.zm qy ?_ | refine AtT.zo qy ?_); exact At.knows) ?_
  refine AtC.kq (by (first | refine AtT.zk zX ?_ | with_reducible refine AtT.zl zX ?_ | refine AtT.zn zX ?_); exact At.knows) ?_
  refine AtC.kq (by (first | refine AtT.zm tk3 ?_ | refine AtT.zo tk3 ?_); exact At.knows) ?_
  refine AtC.kq (by (first | refine AtT.zk zL ?_ | with_reducible refine AtT.zl zL ?_ | refine AtT.zn zL ?_); exact At.knows) ?_
  refine AtC.kq (by (first | refine AtT.zm qK ?_ | refine AtT.zo qK ?_); exact At.knows) ?_
  refine AtC.nz ?_
  refine AtT.bsliceR0 rfl trivial rfl bs66_0 (by decide) (s := 2) (fun b24 => ?_)
  refine AtC.kgo ?_
  refine AtC.nz ?_
  refine AtT.appendRS rfl trivial Tryz.underlying66 rw69 rfl (by decide) rfl rfl zP.zJ (enc := pte) (m := x.1.ps) (by first | exact hsx | exact hsx.le (by assumption)) pte_len pte_all (by unfold maxLen; omega) (by omega) (by decide) (fun a27 c27 => ?_)
  refine AtC.kgo ?_
  rw [Nat.zero_add x.1.ps.length]
  refine AtC.kq (by (refine AtT.qF (bd80_0_1 _ _ _ _) ?_); exact At.knows) ?_
  refine AtC.nz ?_
  refine AtT.zO (bs22_1_0 _ _ _ _) ?_
  intro q29 V29 hV29 hq29
  have g29 : Le V V29 := by first | exact hV29 | exact Le.trans (by assumption) hV29
  refine AtC.kgo ?_
  refine AtC.toT ?_
  first | refine AtT.jq Tryz.underlying22 rw80 ?_
  intro a30 c30
  first | refine AtT.zk zy ?_ | with_reducible refine AtT.zl zy ?_ | refine AtT.zn zy ?_
  first | refine AtT.ja qy ?_ | refine AtT.zD qy ?_
  refine AtT.done ?_
  refine At.nrm ?_
  refine At.jW (l := x.1.ps) (v := .slice a27 x.1.ps.length c27) (e := 69) (s := 2) (m := x.1.ps.length) (xs := [] ++ flat pte x.1.ps) pte_len (by simp) rfl zP.zJ (fun V4 hV4 hs4 => ?_)
  refine At.nrm ?_
  refine At.zh (.q 0 (.q 1 (.q 2 .done))) ?_
  refine AtT.zg ?_
  first | refine AtT.qN ?_ | refine AtT.qw ?_
  refine AtT.zf ?_
  refine AtT.done ?_
  refine At.nrm ?_
  refine At.round (k + 1, L ++ [(x.1, a27, c27)], a30, c30) ?_ ?_ ?_ ?_
  ·show qs.length - (k + 1) < qs.length - k; omega
  ·refine ⟨by first | exact hVV.trans hV4 | exact (hVV.trans (by assumption)).trans hV4, by dsimp only; omega, by dsimp only; rw [List.length_append, hLk]; rfl, by dsimp only; rw [List.map_append, hLr, htk]; rfl, fun y hy => ?_⟩
   rcases List.mem_append.1 hy with h | h
   ·exact (hLq y h).le (by first | exact hV4 | exact Le.trans (by assumption) hV4)
   ·rw [List.mem_singleton] at h; subst h
    exact hs4
  ·exact ⟨rfl, rfl, rfl, rfl, ivs (by push_cast; omega), trivial⟩
  dsimp only
  rw [jA, List.length_append]
  ·exact Pt.zJ
 obtain rfl : k = qs.length := by omega
 rw [hql, List.take_length] at hLr
 refine At.nrm ?_
 refine At.jW (l := L) (m := L.length) rce_len rfl rfl zP.zJ (fun V3 hV3 hs3 => ?_)
 have hes3 := hes'.le hV3
 refine At.cutG (ι := Option Addr × Nat) (fun _ => [(4, .pointer (some ⟨b4, 0, none⟩)), (5, .pointer (some ⟨b5, 0, none⟩))]) (fun g => [.blk b4 (LC [.slice none 0 0, .slice none 0 0] 26), .blk b5 (LC [.slice ao L.length co, .slice g.1 (b.es.length + 1) g.2] 26), .row (.slice g.1 (b.es.length + 1) g.2) 36 4 (b.es.length + 1) ([] ++ flat ene b.es ++ ene e)]) (fun _ V'' => Le V3 V'') ?_ ?_
 ·refine At.drawC [.blk b2 (LC [.slice aq qs.length cq, .slice a b.es.length c] 26), .blk b3 (LC (ene e) 36), .blk b5 (LC [.slice ao L.length co, .slice none 0 0] 26)] (.q 1 (.q 2 (.q 4 (.two 0 (.two 3 (.n false 5 (.n true 6 (.q 7 (.n true 8 .done)))) 5 (.n false 3 (.n true 6 (.q 7 (.n true 8 .done))))) 5 (.n false 0 (.n false 3 (.n true 6 (.q 7 (.n true 8 .done))))))))) ffm (by kernel_rfl) Pt.zJ ?_
  refine AtC.pre (fun hle0 => ?_)
  refine AtC.kq (by (first | refine AtT.zk zw ?_ | with_reducible refine AtT.zl zw ?_ | refine AtT.zn zw ?_); exact At.knows) ?_
  refine AtC.kq (by (first | refine AtT.zm qx ?_ | refine AtT.zo qx ?_); exact At.knows) ?_
  refine AtC.kq (by (first | refine AtT.zG qI ?_ | refine AtT.zK qI ?_ | refine AtT.zF qI ?_); exact At.knows) ?_
  refine AtC.two ?_ ?_
  focus
   refine AtC.nz ?_
   refine AtT.bsliceR0 rfl trivial rfl bs24_0 (by decide) (s := 4) (fun b32 => ?_)
   refine AtC.kgo ?_
   refine AtC.two ?_ ?_
   focus
    refine AtC.nz ?_
    refine AtT.appendRS rfl trivial Tryz.underlying24 rw36 rfl (by decide) rfl rfl zP.zJ (enc := ene) (m := b.es) (by first | exact hes3 | exact hes3.le (by assumption)) ene_len ene_all (by unfold maxLen; omega) (by omega) (by decide) (fun a35 c35 => ?_)
    refine AtC.kgo ?_
    rw [Nat.zero_add b.es.length]
    refine AtC.nz ?_
    refine AtT.zO (bs24_1_0 _ _ _ _) ?_
    intro q37 V37 hV37 hq37
    have g37 : Le V V37 := by first | exact hV37 | exact Le.trans (by assumption) hV37
    refine AtC.kgo ?_
    refine AtC.toT ?_
    first | refine AtT.jq Tryz.underlying24 rw36 ?_
    intro a38 c38
    first | refine AtT.zk zw ?_ | with_reducible refine AtT.zl zw ?_ | refine AtT.zn zw ?_
    first | refine AtT.ja qx ?_ | refine AtT.zD qx ?_
    refine AtT.done ?_
   rotate_right
   focus
    refine AtC.nz ?_
    refine AtT.zO (bs24_1_0 _ _ _ _) ?_
    intro q37 V37 hV37 hq37
    have g37 : Le V V37 := by first | exact hV37 | exact Le.trans (by assumption) hV37
    refine AtC.kgo ?_
    refine AtC.nz ?_
    refine AtT.appendRS rfl trivial Tryz.underlying24 rw36 rfl (by decide) rfl rfl zP.zJ (enc := ene) (m := b.es) (by first | exact hes3 | exact hes3.le (by assumption)) ene_len ene_all (by unfold maxLen; omega) (by omega) (by decide) (fun a35 c35 => ?_)
    refine AtC.kgo ?_
    rw [Nat.zero_add b.es.length]
    refine AtC.toT ?_
    first | refine AtT.jq Tryz.underlying24 rw36 ?_
    intro a38 c38
    first | refine AtT.zk zw ?_ | with_reducible refine AtT.zl zw ?_ | refine AtT.zn zw ?_
    first | refine AtT.ja qx ?_ | refine AtT.zD qx ?_
    refine AtT.done ?_
  rotate_right
  focus
   refine AtC.nz ?_
   refine AtT.zO (bs24_1_0 _ _ _ _) ?_
   intro q37 V37 hV37 hq37
   have g37 : Le V V37 := by first | exact hV37 | exact Le.trans (by assumption) hV37
   refine AtC.kgo ?_
   refine AtC.nz ?_
   refine AtT.bsliceR0 rfl trivial rfl bs24_0 (by decide) (s := 4) (fun b32 => ?_)
   refine AtC.kgo ?_
   refine AtC.nz ?_
   refine AtT.appendRS rfl trivial Tryz.underlying24 rw36 rfl (by decide) rfl rfl zP.zJ (enc := ene) (m := b.es) (by first | exact hes3 | exact hes3.le (by assumption)) ene_len ene_all (by unfold maxLen; omega) (by omega) (by decide) (fun a35 c35 => ?_)
   refine AtC.kgo ?_
   rw [Nat.zero_add b.es.length]
   refine AtC.toT ?_
   first | refine AtT.jq Tryz.underlying24 rw36 ?_
   intro a38 c38
   first | refine AtT.zk zw ?_ | with_reducible refine AtT.zl zw ?_ | refine AtT.zn zw ?_
   first | refine AtT.ja qx ?_ | refine AtT.zD qx ?_
   refine AtT.done ?_
  all_goals (refine At.nrm ?_)
  all_goals (exact At.meetG (a38, c38) (by assumption) ⟨rfl, rfl, trivial⟩ Pt.zJ)
 rintro ⟨a38, c38⟩ V4 ks' O' hV4 hk hO hl4
 dsimp only at hk hO
 subst hk hO
 refine At.nrm ?_
 refine At.zh (.q 0 (.n true 1 .done)) ?_
 first | refine AtT.zG zQ ?_ | refine AtT.zK zQ ?_ | refine AtT.zF zQ ?_
 refine AtT.zD zQ ?_
 refine AtT.done ?_
 refine At.nrm ?_
 refine At.jW (l := b.es ++ [e]) (v := .slice a38 (b.es.length + 1) c38) (e := 36) (s := 4) (m := b.es.length + 1) (xs := [] ++ flat ene b.es ++ ene e) ene_len (by rw [jA]; rfl) (by rw [List.length_append]; rfl) zP.zJ (fun V5 hV5 hs5 => ?_)
 have hV35 := hV4.trans hV5
 refine At.qi rfl (.agg rfl zQ zP.zJ rfl) ⟨.slice ao L.length co, a38, c38, ?_, ⟨L, ao, co, hLr, rfl, hs3.le hV35, (hLq.le hV3).le hV35⟩, ?_⟩
 ·show _ = Value.agg #[.slice ao L.length co, .slice a38 (b.es ++ [e]).length c38]
  rw [List.length_append]; rfl
 ·show Sl V5 ene 4 (.slice a38 (b.es ++ [e]).length c38) (b.es ++ [e])
  rw [List.length_append]; exact hs5
end Go.Proofs.YtpoignmclfdgpaaGreatDoor
set_option linter.unusedVariables false
namespace Go.Proofs.YtpoignmclfdgpaaGreatDoor
open Go.Lw Go.Gl Go.Bk Go.RowKit
def addE (b : Bo) (e : En) : Int := if bkE b ≠ 0 then bkE b else bkE (withB b e)
def addB (b : Bo) (e : En) : Bo := if addE b e ≠ 0 then ⟨[], []⟩ else withB b e
theorem rcs_len {rs : List Rc} (h : qD (-1) rs) : rs.length ≤ 8 := by
 have key : ∀ {l : List Rc} {m : Int}, qD m l → -1 ≤ m → (l.length : Int) + m ≤ 7 ∨ l = [] := by
  intro l
  induction l with
  | nil => intro m _ _; exact .inr rfl
  | cons a l ih =>
   intro m h hm
   cases h with
   | cons h1 h2 =>
    left
    have := h1.lt
    have := h1.g
    rw [List.length_cons]
    push_cast
    rcases ih h2 (by omega) with h | h
    ·omega
    ·subst h; simp; omega
 rcases key h (by omega) with h | h
 ·omega
 ·subst h; simp
theorem jP (b : Bo) (e : En) (V : View) (v : Value) (hv : BoV V v b) : Fnc Tryz.prog 25 [v, env e] V fun r V' => ∃ u, r = .tuple #[u, iv (addE b e)] ∧ BoV V' u (addB b e) := by
 obtain ⟨v1, a, c, rfl, hr, hes⟩ := id hv
 obtain ⟨qs, aq, cq, hqr, rfl, hsq, hq⟩ := id hr
 have hql : qs.length = b.rs.length := by rw [← hqr, List.length_map]
 have hlenS := hsq.jE
 refine qm Tryz.func25 rfl Tryz.ntmps25 (Nat.le_of_ble_eq_true rfl) ?_
 intro w0 hw0
 refine At.nrm ?_
 refine At.zh (.n false 0 (.n false 1 (.n false 2 (.q 3 .done)))) ?_
 refine AtT.jh ?_
 intro b2
 refine AtT.jh ?_
 intro b3
 refine AtT.zT z26 ?_
 intro b4
 refine AtT.zf ?_
 refine AtT.done ?_
 refine At.nrm ?_
 refine At.zh (.q 0 (.n false 1 (.q 2 .done))) ?_
 first | refine AtT.zG zQ ?_ | refine AtT.zK zQ ?_ | refine AtT.zF zQ ?_
 refine AtT.zI rfl rfl ok27 (checkBook_f b _ _ hv) ?_
 rintro _ rfl
 refine AtT.zf ?_
 refine AtT.done ?_
 refine At.nrm ?_
 refine At.nrm ?_
 refine At.zh (.q 0 (.q 1 .done)) ?_
 refine AtT.zg ?_
 refine AtT.qH ?_
 refine AtT.done ?_
 refine At.nrm ?_
 refine At.qf rfl (fun h0 => ?_) (fun h0 => ?_)
 ·have hE : addE b e = bkE b := by unfold addE; rw [if_pos h0]
  have hB : addB b e = ⟨[], []⟩ := by unfold addB; rw [if_pos (by rw [hE]; exact h0)]
  rw [hE, hB]
  refine At.nrm ?_
  refine At.zh (.q 0 (.q 1 (.n true 2 (.q 3 .done)))) ?_
  refine AtT.qF (bd26) ?_
  refine AtT.zg ?_
  refine AtT.zD zQ ?_
  refine AtT.zf ?_
  refine AtT.done ?_
  refine At.nrm ?_
  exact At.qX rfl (.agg rfl zQ zP.zJ rfl) (.tmp rfl) ⟨_, rfl, BoV.nil _⟩
 have hR := jZ.1 (Classical.not_not.1 h0)
 have hrs := hR.bog.rs
 have hl8 := rcs_len hrs
 have hl24 := hR.len
 have hE : addE b e = bkE (withB b e) := by unfold addE; rw [if_neg h0]
 refine At.nrm ?_
 refine At.zh (.n false 0 .done) ?_
 refine AtT.zT z26 ?_
 intro b7
 refine AtT.done ?_
 refine At.nrm ?_
 refine At.zh (.q 0 (.q 1 (.q 2 (.q 3 .done)))) ?_
 first | refine AtT.zk zy ?_ | with_reducible refine AtT.zl zy ?_ | refine AtT.zn zy ?_
 first | refine AtT.zm qy ?_ | refine AtT.zo qy ?_
 first | refine AtT.zS Tryz.underlying22 ?_ | refine AtT.zR Tryz.underlying22 ?_
 refine AtT.zg ?_
 refine AtT.done ?_
 refine At.nrm ?_
 refine At.newRow 80 2 ?_
 refine At.lp (ι := Nat × List RcQ × Option Addr × Nat) (KS := fun g => [(2, .pointer (some ⟨b2, 0, none⟩)), (3, .pointer (some ⟨b3, 0, none⟩)), (4, .pointer (some ⟨b4, 0, none⟩)), (7, .pointer (some ⟨b7, 0, none⟩)), (18, .slice aq qs.length cq), (19, iv qs.length), (20, iv g.1)])
  (OS := fun g => [.blk b2 (LC [.slice aq qs.length cq, .slice a b.es.length c] 26), .blk b3 (LC (ene e) 36), .blk b4 (LC [.slice none 0 0, .slice none 0 0] 26), .blk b7 (LC [.slice g.2.2.1 g.2.1.length g.2.2.2, .slice none 0 0] 26), .row (.slice g.2.2.1 g.2.1.length g.2.2.2) 80 2 g.2.1.length (flat rce g.2.1)])
  (VS := fun g V' => Le V V' ∧ g.1 ≤ qs.length ∧ g.2.1.length = g.1 ∧ g.2.1.map (·.1) = b.rs.take g.1 ∧ RsQ V' g.2.1) (μ := fun g => qs.length - g.1) (0, [], none, 0) ?_ ?_ ?_ ?_
 ·exact ⟨rfl, rfl, rfl, rfl, rfl, rfl, rfl, trivial⟩
 ·exact Pt.zJ
 ·exact ⟨Le.refl _, Nat.zero_le _, rfl, rfl, fun x hx => by cases hx⟩
 rintro ⟨k, L, ao, co⟩ V' ks' O' ⟨hVV, hkl, hLk, hLr, hLq⟩ hk hO hl2
 dsimp only at hkl hLk hLr hLq hk hO
 subst hk hO
 have hsq' := hsq.le hVV
 have hq' := hq.le hVV
 have hes' := hes.le hVV
 refine At.nrm ?_
 refine At.zh (.q 0 .done) ?_
 refine AtT.qB ?_
 refine AtT.done ?_
 refine At.nrm ?_
 refine At.qf rfl (fun hp => ?_) (fun hp => ?_)
 ·obtain ⟨x, hx⟩ : ∃ x, qs[k]? = some x := ⟨_, List.getElem?_eq_getElem (by omega)⟩
  have hbx : b.rs[k]? = some x.1 := by rw [← hqr]; exact qs_at hx
  have htk := take_snoc2 hbx
  have hpx := rc_parts hrs (List.mem_of_getElem? hbx)
  have hsx := hq' x (qs_mem hx)
  refine At.nrm ?_
  refine At.zh (.q 0 (.q 1 (.n false 2 (.n true 3 .done)))) ?_
  refine AtT.qC Tryz.underlying22 qP ?_
  intro p22 e22 he22 hc22
  obtain rfl : x = e22 := by have : qs[k]? = some e22 := (by rw [Int.toNat_natCast] at he22; exact he22); rw [hx] at this; exact Option.some.inj this
  first | refine AtT.zG qP ?_ | refine AtT.zK qP ?_ | refine AtT.zF qP ?_
  refine AtT.zT z80 ?_
  intro b9
  refine AtT.zD qP ?_
  refine AtT.done ?_
  refine At.nrm ?_
  refine At.nrm ?_
  refine At.draw (.q 0 (.q 1 (.q 2 (.q 3 (.q 4 (.q 5 (.n false 6 (.q 7 (.n false 8 (.n true 9 (.q 10 (.n true 11 .done)))))))))))) ffm (by kernel_rfl) ?_
  first | refine AtT.zk zy ?_ | with_reducible refine AtT.zl zy ?_ | refine AtT.zn zy ?_
  first | refine AtT.zm qy ?_ | refine AtT.zo qy ?_
  first | refine AtT.zk zX ?_ | with_reducible refine AtT.zl zX ?_ | refine AtT.zn zX ?_
  first | refine AtT.zm tk3 ?_ | refine AtT.zo tk3 ?_
  first | refine AtT.zk zL ?_ | with_reducible refine AtT.zl zL ?_ | refine AtT.zn zL ?_
  first | refine AtT.zm qK ?_ | refine AtT.zo qK ?_
  refine AtT.qa rfl rfl ok65 (clone_f x.1.ps hpx.1 (by omega) _ _ hsx) ?_
  rintro v30 V30 hV30 ⟨a30, c30, rfl, hs30⟩; have k30 := hVV.trans hV30
  refine AtT.qF (bd80_0_1 _ _ _ _) ?_
  refine AtT.zO (bs22_1_0 _ _ _ _) ?_
  intro q32 V32 hV32 hq32
  have g32 : Le V V32 := by first | exact hV32 | exact Le.trans (by assumption) hV32
  first | refine AtT.jq Tryz.underlying22 rw80 ?_
  intro a33 c33
  first | refine AtT.zk zy ?_ | with_reducible refine AtT.zl zy ?_ | refine AtT.zn zy ?_
  first | refine AtT.ja qy ?_ | refine AtT.zD qy ?_
  refine AtT.done ?_
  refine At.nrm ?_
  refine At.nrm ?_
  refine At.zh (.q 0 (.q 1 .done)) ?_
  first | refine AtT.qN ?_ | refine AtT.qw ?_
  refine AtT.zg ?_
  refine AtT.done ?_
  refine At.nrm ?_
  refine At.round (k + 1, L ++ [(x.1, a30, c30)], a33, c33) ?_ ?_ ?_ ?_
  ·show qs.length - (k + 1) < qs.length - k; omega
  ·refine ⟨by first | assumption | exact hVV.trans (by assumption) | exact (hVV.trans hV30).trans (by assumption), by dsimp only; omega, by dsimp only; rw [List.length_append, hLk]; rfl, by dsimp only; rw [List.map_append, hLr, htk]; rfl, fun y hy => ?_⟩
   rcases List.mem_append.1 hy with h | h
   ·exact (hLq y h).le (by first | assumption | exact Le.trans hV30 (by assumption))
   ·rw [List.mem_singleton] at h; subst h
    exact hs30.le (by assumption)
  ·exact ⟨rfl, rfl, rfl, rfl, rfl, rfl, ivs (by push_cast; omega), trivial⟩
  dsimp only
  rw [jA, List.length_append]
  ·exact Pt.zJ
 obtain rfl : k = qs.length := by omega
 rw [hql, List.take_length] at hLr
 refine At.nrm ?_
 refine At.jW (l := L) (m := L.length) rce_len rfl rfl zP.zJ (fun V3 hV3 hs3 => ?_)
 have hes3 := hes'.le hV3
 have kV3 := hVV.trans hV3
 refine At.cutG (ι := Option Addr × Nat) (fun _ => [(4, .pointer (some ⟨b4, 0, none⟩)), (7, .pointer (some ⟨b7, 0, none⟩))]) (fun g => [.blk b4 (LC [.slice none 0 0, .slice none 0 0] 26), .blk b7 (LC [.slice ao L.length co, .slice g.1 (b.es ++ [e]).length g.2] 26)]) (fun g V'' => Le V3 V'' ∧ Sl V'' ene 4 (.slice g.1 (b.es ++ [e]).length g.2) (b.es ++ [e])) ?_ ?_
 ·refine At.draw (.q 0 (.q 1 (.q 2 (.q 3 (.q 4 (.q 5 (.q 6 (.q 7 (.q 8 (.q 9 (.n false 10 (.n false 11 (.q 12 (.n true 13 .done)))))))))))))) ffm (by kernel_rfl) ?_
  first | refine AtT.zk zw ?_ | with_reducible refine AtT.zl zw ?_ | refine AtT.zn zw ?_
  first | refine AtT.zm qx ?_ | refine AtT.zo qx ?_
  first | refine AtT.zk zw ?_ | with_reducible refine AtT.zl zw ?_ | refine AtT.zn zw ?_
  first | refine AtT.zm qx ?_ | refine AtT.zo qx ?_
  first | refine AtT.zS Tryz.underlying24 ?_ | refine AtT.zR Tryz.underlying24 ?_
  first | refine AtT.zk zw ?_ | with_reducible refine AtT.zl zw ?_ | refine AtT.zn zw ?_
  first | refine AtT.zm qx ?_ | refine AtT.zo qx ?_
  first | refine AtT.zS Tryz.underlying24 ?_ | refine AtT.zR Tryz.underlying24 ?_
  first | refine AtT.kclipAll Tryz.underlying24 qI ?_ | refine AtT.kclip Tryz.underlying24 qI ?_
  intro a44 hs44
  first | refine AtT.zG qI ?_ | refine AtT.zK qI ?_ | refine AtT.zF qI ?_
  refine AtT.zO (bs24_1_0 _ _ _ _) ?_
  intro q46 V46 hV46 hq46
  have g46 : Le V V46 := by first | exact hV46 | exact Le.trans (by assumption) hV46
  refine AtT.appendC rfl trivial Tryz.underlying24 rw36 rfl (by decide) rfl (by first | assumption | exact Sl.le (by assumption) (by assumption)) rfl rfl (by first | assumption | exact Cells.le (by assumption) (by assumption)) (fun _ => rfl) (by simp) (by unfold maxLen; simp only [List.length_cons, List.length_nil]; omega) (by simp only [List.length_cons, List.length_nil]; omega) (by decide) (enc := ene) (m := [e]) ?_
  intro a47 c47 V47 hV47 hs47
  have g47 : Le V V47 := by first | exact hV47 | exact Le.trans (by assumption) hV47
  first | refine AtT.zk zw ?_ | with_reducible refine AtT.zl zw ?_ | refine AtT.zn zw ?_
  first | refine AtT.ja qx ?_ | refine AtT.zD qx ?_
  refine AtT.done ?_
  refine At.nrm ?_
  all_goals (exact At.meetG (a47, c47) ⟨by first | assumption | exact Le.trans (by assumption) (by assumption), hs47⟩ ⟨rfl, rfl, trivial⟩ Pt.zJ)
 rintro ⟨ae, ce⟩ V4 ks' O' ⟨hV4, hse⟩ hk hO hl4
 dsimp only at hse hk hO
 subst hk hO
 have hvw : BoV V4 (.agg #[.slice ao L.length co, .slice ae (b.es ++ [e]).length ce]) (withB b e) := ⟨_, ae, ce, rfl, ⟨L, ao, co, hLr, rfl, hs3.le hV4, (hLq.le hV3).le hV4⟩, hse⟩
 refine At.nrm ?_
 refine At.zh (.q 0 (.n false 1 (.q 2 .done))) ?_
 first | refine AtT.zG zQ ?_ | refine AtT.zK zQ ?_ | refine AtT.zF zQ ?_
 refine AtT.zI rfl rfl ok27 (checkBook_f (withB b e) _ _ hvw) ?_
 rintro _ rfl
 refine AtT.zf ?_
 refine AtT.done ?_
 refine At.nrm ?_
 refine At.nrm ?_
 refine At.zh (.q 0 (.q 1 .done)) ?_
 refine AtT.zg ?_
 refine AtT.qH ?_
 refine AtT.done ?_
 refine At.nrm ?_
 refine At.qf rfl (fun h1 => ?_) (fun h1 => ?_)
 ·have hB : addB b e = ⟨[], []⟩ := by unfold addB; rw [if_pos (by rw [hE]; exact h1)]
  rw [hE, hB]
  refine At.nrm ?_
  refine At.zh (.q 0 (.q 1 (.n true 2 (.q 3 .done)))) ?_
  refine AtT.qF (bd26) ?_
  refine AtT.zg ?_
  refine AtT.zD zQ ?_
  refine AtT.zf ?_
  refine AtT.done ?_
  refine At.nrm ?_
  exact At.qX rfl (.agg rfl zQ zP.zJ rfl) (.tmp rfl) ⟨_, rfl, BoV.nil _⟩
 have hB : addB b e = withB b e := by unfold addB; rw [if_neg (by rw [hE]; exact h1)]
 have hE0 : addE b e = 0 := by rw [hE]; exact Classical.not_not.1 h1
 rw [hE0, hB]
 refine At.nrm ?_
 refine At.zh (.q 0 (.n true 1 (.q 2 .done))) ?_
 first | refine AtT.zG zQ ?_ | refine AtT.zK zQ ?_ | refine AtT.zF zQ ?_
 refine AtT.zD zQ ?_
 refine AtT.zf ?_
 refine AtT.done ?_
 refine At.nrm ?_
 exact At.qX rfl (.agg rfl zQ zP.zJ rfl) (.tmp rfl) ⟨_, rfl, hvw⟩
end Go.Proofs.YtpoignmclfdgpaaGreatDoor
set_option linter.unusedVariables false
namespace Go.Proofs.YtpoignmclfdgpaaGreatDoor
open Go.Lw Go.Gl Go.Bk Go.RowKit
/-! What the examples of the chapter come to. -/
abbrev box : Bo := withB bo6 ⟨6, 4, 4, 0⟩
theorem c_r1E : rawE rs2 3 1 = 0 := by decide +kernel
theorem c_r1 : rawL rs2 3 1 = [4, 2] ++ List.replicate 6 0 := by decide +kernel
theorem c_r2E : rawE rs2 0 4 = 0 := by decide +kernel
theorem c_r2 : rawL rs2 0 4 = [4] ++ List.replicate 7 0 := by decide +kernel
theorem c_r3E : rawE rs2 8 1 = 2 := by decide +kernel
theorem c_b : bkE bo6 = 0 := by decide +kernel
theorem c_n6E : cntE bo6 6 = 0 := by decide +kernel
theorem c_n6 : cntL bo6 6 = [0, 1, 2, 4, 5] := by decide +kernel
theorem c_n4E : cntE bo6 4 = 0 := by decide +kernel
theorem c_n4 : cntL bo6 4 = [0, 1, 2, 3] := by decide +kernel
theorem c_n7E : cntE bo6 7 = 2 := by decide +kernel
theorem c_s1E : stkE bo6 6 9 = 0 := by decide +kernel
theorem c_s1 : stkL bo6 6 9 = [3, 2, 1, 1] ++ List.replicate 4 0 := by decide +kernel
theorem c_s2E : stkE bo6 4 9 = 0 := by decide +kernel
theorem c_s2 : stkL bo6 4 9 = [3, 2, 2] ++ List.replicate 5 0 := by decide +kernel
theorem c_s3E : stkE bo6 6 2 = 0 := by decide +kernel
theorem c_s3 : stkL bo6 6 2 = [3, 2, 3] ++ List.replicate 5 0 := by decide +kernel
theorem c_a1 : addE bo6 ⟨6, 4, 4, 0⟩ = 0 := by decide +kernel
theorem c_a1B : addB bo6 ⟨6, 4, 4, 0⟩ = box := by unfold addB; rw [if_neg (by rw [c_a1]; decide)]
theorem c_a2 : addE bo6 ⟨6, 2, 2, 2⟩ = 28 := by decide +kernel
theorem c_a3 : addE bo6 ⟨4, 1, 0, 1⟩ = 12 := by decide +kernel
theorem c_a4 : addE bo6 ⟨6, 3, 4, 1⟩ = 16 := by decide +kernel
theorem c_a5 : addE bo6 ⟨6, 4, 6, 0⟩ = 2 := by decide +kernel
theorem c_m1E : mostE bo6 2 = 0 := by decide +kernel
theorem c_m2E : mostE bo6 3 = 0 := by decide +kernel
theorem c_m3E : mostE bo6 0 = 16 := by decide +kernel
theorem most_of {b : Bo} {g : Nat} (hg : g < 8) (hb : bkE b = 0) (hE : mostE b g = 0) {m : Nat} (h1 : canS b.rs (cutS (stkF b b.es.length 999)) g m = true) (h2 : canS b.rs (cutS (stkF b b.es.length 999)) g (m + 1 : Nat) = false) : mostV b g = m := by
 have hR := jZ.1 hb
 obtain ⟨st, hst⟩ := hR.st (Nat.le_refl _) 999
 have hF : stkF b b.es.length 999 = st := stkF_some hst
 have hk := stkOk_of hR.bog (Nat.le_refl _) hst
 unfold mostV
 rw [if_neg (by rw [hE]; decide), Int.toNat_natCast]
 rw [hF] at h1 h2 ⊢
 have := mostS_of hR.bog.rs (fun s => (hk.bd s).1) hk.sum hg (.inr h1) fun c hc => canS_up hR.bog.rs (show m + 1 ≤ c by omega) h2
 omega
theorem c_m1 : mostV bo6 2 = 1 := most_of (g := 2) (m := 1) (by decide) c_b c_m1E (by decide +kernel) (by decide +kernel)
theorem c_m2 : mostV bo6 3 = 1 := most_of (g := 3) (m := 1) (by decide) c_b c_m2E (by decide +kernel) (by decide +kernel)
theorem c_k1 : chk [97] = [48, 48, 54, 50, 48, 48, 54, 50] := by decide +kernel
theorem c_k2 : chk [114, 32, 50, 32, 48, 32, 50, 32, 49, 32, 49, 10, 114, 32, 51, 32, 50, 32, 50, 10] = [50, 56, 48, 52, 48, 51, 56, 54] := by decide +kernel
theorem c_x : bkE box = 0 := by decide +kernel
theorem c_x1E : stkE box 7 9 = 0 := by decide +kernel
theorem c_x1 : stkL box 7 9 = [3, 2, 0, 1] ++ List.replicate 4 0 := by decide +kernel
theorem c_fl : (fileT bo6).length ≤ 4000 := by have := (jZ.1 c_b).file_len; omega
theorem c_load : loadR (fileT bo6) = (bo6, 0) := load_file (jZ.1 c_b).nm c_b c_fl
end Go.Proofs.YtpoignmclfdgpaaGreatDoor
set_option linter.unusedVariables false
set_option maxRecDepth 20000
namespace Go.Proofs.YtpoignmclfdgpaaGreatDoor
open Go.Lw Go.Gl Go.Bk Go.RowKit
set_option maxHeartbeats 3200000 in
theorem works_f (V : View) (hg : GvV V) : Fnc Tryz.prog 17 [] V fun r _ => r = .bool true := by
 refine qm Tryz.func17 rfl Tryz.ntmps17 (Nat.le_of_ble_eq_true rfl) ?_
 intro w0 hw0
 refine At.nrm ?_
 refine At.zh (.q 0 .done) ?_
 refine AtT.zf ?_
 refine AtT.done ?_
 refine At.nrm ?_
 refine At.zh (.n false 0 (.n false 1 (.n false 2 (.q 3 (.n true 4 .done))))) ?_
 refine AtT.qa rfl rfl ok51 (two_f _) ?_
 rintro v46 V46 hV46 hr
 refine AtT.qa rfl rfl ok53 (six_f _) ?_
 rintro _ V47 hV47 ⟨w47, a47, c47, rfl, ⟨q47, z47, y47, e47, rfl, i47, j47⟩, hs47⟩
 refine AtT.zT z26 ?_
 intro b2
 refine AtT.zf ?_
 refine AtT.zD zQ ?_
 refine AtT.done ?_
 refine At.nrm ?_
 have hb : BoV V47 (.agg #[.slice z47 q47.length y47, .slice a47 bo6.es.length c47]) bo6 := ⟨_, _, _, rfl, ⟨q47, z47, y47, e47, rfl, i47, j47⟩, hs47⟩
 clear e47 i47 j47 hs47
 replace hg := (hg.le hV46).le hV47
 replace hr := hr.le hV47
 clear hV46 hV47
 refine At.zh (.q 0 (.n false 1 (.q 2 (.q 3 (.q 4 (.q 5 (.q 6 .done))))))) ?_
 refine AtT.zg ?_
 refine AtT.qa rfl rfl ok18 (praw_f rs2 3 1 _ _ hr) ?_
 rintro _ V50 hV50 ⟨u50, rfl, h50⟩; rw [c_r1E]
 refine AtT.zg ?_
 refine AtT.zt ?_
 refine AtT.zt ?_
 refine AtT.zf ?_
 refine AtT.zf ?_
 refine AtT.done ?_
 refine At.nrm ?_
 replace hg := hg.le hV50
 replace hr := hr.le hV50
 replace hb := hb.le hV50
 clear hV50
 rw [c_r1] at h50
 refine At.zh (.q 0 (.n false 1 (.q 2 (.q 3 (.q 4 (.q 5 (.q 6 .done))))))) ?_
 refine AtT.zg ?_
 refine AtT.qa rfl rfl ok18 (praw_f rs2 0 4 _ _ hr) ?_
 rintro _ V55 hV55 ⟨u55, rfl, h55⟩; rw [c_r2E]
 refine AtT.zg ?_
 refine AtT.zt ?_
 refine AtT.zt ?_
 refine AtT.zf ?_
 refine AtT.zf ?_
 refine AtT.done ?_
 refine At.nrm ?_
 replace hg := hg.le hV55
 replace hr := hr.le hV55
 replace hb := hb.le hV55
 replace h50 := h50.le hV55
 clear hV55
 rw [c_r2] at h55
 refine At.zh (.q 0 (.n false 1 (.q 2 (.q 3 (.q 4 (.q 5 (.q 6 .done))))))) ?_
 refine AtT.zg ?_
 refine AtT.qa rfl rfl ok18 (praw_f rs2 8 1 _ _ hr) ?_
 rintro _ V60 hV60 ⟨u60, rfl, h60⟩; rw [c_r3E]
 refine AtT.zg ?_
 refine AtT.zt ?_
 refine AtT.zt ?_
 refine AtT.zf ?_
 refine AtT.zf ?_
 refine AtT.done ?_
 refine At.nrm ?_
 replace hg := hg.le hV60
 replace hr := hr.le hV60
 replace hb := hb.le hV60
 replace h50 := h50.le hV60
 replace h55 := h55.le hV60
 clear hV60
 clear h60
 refine At.zh (.q 0 (.n false 1 (.q 2 (.q 3 (.q 4 (.q 5 (.q 6 .done))))))) ?_
 first | refine AtT.zG zQ ?_ | refine AtT.zK zQ ?_ | refine AtT.zF zQ ?_
 refine AtT.qa rfl rfl ok23 (pcounting_f bo6 6 _ _ hb) ?_
 rintro _ V65 hV65 ⟨u65, rfl, h65⟩; rw [c_n6E]
 refine AtT.zg ?_
 refine AtT.zt ?_
 refine AtT.zt ?_
 refine AtT.zf ?_
 refine AtT.zf ?_
 refine AtT.done ?_
 refine At.nrm ?_
 replace hg := hg.le hV65
 replace hr := hr.le hV65
 replace hb := hb.le hV65
 replace h50 := h50.le hV65
 replace h55 := h55.le hV65
 clear hV65
 rw [c_n6] at h65
 refine At.zh (.q 0 (.n false 1 (.q 2 (.q 3 (.q 4 (.q 5 (.q 6 .done))))))) ?_
 first | refine AtT.zG zQ ?_ | refine AtT.zK zQ ?_ | refine AtT.zF zQ ?_
 refine AtT.qa rfl rfl ok23 (pcounting_f bo6 4 _ _ hb) ?_
 rintro _ V70 hV70 ⟨u70, rfl, h70⟩; rw [c_n4E]
 refine AtT.zg ?_
 refine AtT.zt ?_
 refine AtT.zt ?_
 refine AtT.zf ?_
 refine AtT.zf ?_
 refine AtT.done ?_
 refine At.nrm ?_
 replace hg := hg.le hV70
 replace hr := hr.le hV70
 replace hb := hb.le hV70
 replace h50 := h50.le hV70
 replace h55 := h55.le hV70
 replace h65 := h65.le hV70
 clear hV70
 rw [c_n4] at h70
 refine At.zh (.q 0 (.n false 1 (.q 2 (.q 3 (.q 4 (.q 5 (.q 6 .done))))))) ?_
 first | refine AtT.zG zQ ?_ | refine AtT.zK zQ ?_ | refine AtT.zF zQ ?_
 refine AtT.qa rfl rfl ok23 (pcounting_f bo6 7 _ _ hb) ?_
 rintro _ V75 hV75 ⟨u75, rfl, h75⟩; rw [c_n7E]
 refine AtT.zg ?_
 refine AtT.zt ?_
 refine AtT.zt ?_
 refine AtT.zf ?_
 refine AtT.zf ?_
 refine AtT.done ?_
 refine At.nrm ?_
 replace hg := hg.le hV75
 replace hr := hr.le hV75
 replace hb := hb.le hV75
 replace h50 := h50.le hV75
 replace h55 := h55.le hV75
 replace h65 := h65.le hV75
 replace h70 := h70.le hV75
 clear hV75
 clear h75
 refine At.zh (.q 0 (.n false 1 (.q 2 (.q 3 (.q 4 (.q 5 (.q 6 .done))))))) ?_
 first | refine AtT.zG zQ ?_ | refine AtT.zK zQ ?_ | refine AtT.zF zQ ?_
 refine AtT.qa rfl rfl ok31 (pstock_f bo6 6 9 _ _ hb) ?_
 rintro _ V80 hV80 ⟨u80, rfl, h80⟩; rw [c_s1E]
 refine AtT.zg ?_
 refine AtT.zt ?_
 refine AtT.zt ?_
 refine AtT.zf ?_
 refine AtT.zf ?_
 refine AtT.done ?_
 refine At.nrm ?_
 replace hg := hg.le hV80
 replace hr := hr.le hV80
 replace hb := hb.le hV80
 replace h50 := h50.le hV80
 replace h55 := h55.le hV80
 replace h65 := h65.le hV80
 replace h70 := h70.le hV80
 clear hV80
 rw [c_s1] at h80
 refine At.zh (.q 0 (.n false 1 (.q 2 (.q 3 (.q 4 (.q 5 (.q 6 .done))))))) ?_
 first | refine AtT.zG zQ ?_ | refine AtT.zK zQ ?_ | refine AtT.zF zQ ?_
 refine AtT.qa rfl rfl ok31 (pstock_f bo6 4 9 _ _ hb) ?_
 rintro _ V85 hV85 ⟨u85, rfl, h85⟩; rw [c_s2E]
 refine AtT.zg ?_
 refine AtT.zt ?_
 refine AtT.zt ?_
 refine AtT.zf ?_
 refine AtT.zf ?_
 refine AtT.done ?_
 refine At.nrm ?_
 replace hg := hg.le hV85
 replace hr := hr.le hV85
 replace hb := hb.le hV85
 replace h50 := h50.le hV85
 replace h55 := h55.le hV85
 replace h65 := h65.le hV85
 replace h70 := h70.le hV85
 replace h80 := h80.le hV85
 clear hV85
 rw [c_s2] at h85
 refine At.zh (.q 0 (.n false 1 (.q 2 (.q 3 (.q 4 (.q 5 (.q 6 .done))))))) ?_
 first | refine AtT.zG zQ ?_ | refine AtT.zK zQ ?_ | refine AtT.zF zQ ?_
 refine AtT.qa rfl rfl ok31 (pstock_f bo6 6 2 _ _ hb) ?_
 rintro _ V90 hV90 ⟨u90, rfl, h90⟩; rw [c_s3E]
 refine AtT.zg ?_
 refine AtT.zt ?_
 refine AtT.zt ?_
 refine AtT.zf ?_
 refine AtT.zf ?_
 refine AtT.done ?_
 refine At.nrm ?_
 replace hg := hg.le hV90
 replace hr := hr.le hV90
 replace hb := hb.le hV90
 replace h50 := h50.le hV90
 replace h55 := h55.le hV90
 replace h65 := h65.le hV90
 replace h70 := h70.le hV90
 replace h80 := h80.le hV90
 replace h85 := h85.le hV90
 clear hV90
 rw [c_s3] at h90
 refine At.cutG (ι := Nat × Option Addr × Nat × Nat × Option Addr × Nat) (fun g => [(1, v46), (2, .pointer (some ⟨b2, 0, none⟩)), (3, u50), (4, iv 0), (5, u55), (6, iv 0), (8, iv 2), (9, u65), (10, iv 0), (11, u70), (12, iv 0), (14, iv 2), (15, u80), (16, iv 0), (17, u85), (18, iv 0), (19, u90), (20, iv 0), (21, .pointer (some ⟨g.1, 0, none⟩)), (22, iv 0)]) (fun g => [.blk b2 (LC [.slice z47 q47.length y47, .slice a47 bo6.es.length c47] 26), .blk g.1 (LC [.slice g.2.1 g.2.2.1 g.2.2.2.1, .slice g.2.2.2.2.1 box.es.length g.2.2.2.2.2] 26)]) (fun g V'' => GvV V'' ∧ RsV V'' v46 rs2 ∧ BoV V'' (.agg #[.slice z47 q47.length y47, .slice a47 bo6.es.length c47]) bo6 ∧ SlI V'' u50 ([4, 2] ++ List.replicate 6 0) ∧ SlI V'' u55 ([4] ++ List.replicate 7 0) ∧ SlI V'' u65 [0, 1, 2, 4, 5] ∧ SlI V'' u70 [0, 1, 2, 3] ∧ SlI V'' u80 ([3, 2, 1, 1] ++ List.replicate 4 0) ∧ SlI V'' u85 ([3, 2, 2] ++ List.replicate 5 0) ∧ SlI V'' u90 ([3, 2, 3] ++ List.replicate 5 0) ∧ BoV V'' (.agg #[.slice g.2.1 g.2.2.1 g.2.2.2.1, .slice g.2.2.2.2.1 box.es.length g.2.2.2.2.2]) box) ?_ ?_
 ·refine At.draw (.q 0 (.two 1 (.two 2 (.q 3 (.q 4 (.q 5 (.n false 6 (.n false 7 (.q 8 .done)))))) 6 (.n false 2 (.q 3 (.q 4 (.q 5 (.n false 7 (.q 8 .done))))))) 6 (.n false 1 (.n false 2 (.q 3 (.q 4 (.q 5 (.n false 7 (.q 8 .done))))))))) ffm (by kernel_rfl) ?_
  refine AtC.start ?_
  refine AtC.pre (fun hle0 => ?_)
  refine AtC.kq (by (first | refine AtT.zG zQ ?_ | refine AtT.zK zQ ?_ | refine AtT.zF zQ ?_); exact At.knows) ?_
  refine AtC.two ?_ ?_
  focus
   refine AtC.nz ?_
   refine AtT.zI rfl rfl ok44 (ji 6 4 4 0 _) ?_
   rintro _ rfl
   refine AtC.kgo ?_
   refine AtC.two ?_ ?_
   focus
    refine AtC.nz ?_
    refine AtT.qa rfl rfl ok25 (jP bo6 ⟨6, 4, 4, 0⟩ _ _ hb) ?_
    rintro _ V96 hV96 ⟨u96, rfl, hu96⟩; rw [c_a1]; rw [c_a1B] at hu96; replace hg := hg.le hV96; replace hr := hr.le hV96; replace hb := hb.le hV96; replace h50 := h50.le hV96; replace h55 := h55.le hV96; replace h65 := h65.le hV96; replace h70 := h70.le hV96; replace h80 := h80.le hV96; replace h85 := h85.le hV96; replace h90 := h90.le hV96; obtain ⟨w96, a96, c96, rfl, ⟨q96, z96, y96, e96, rfl, i96, j96⟩, hs96⟩ := id hu96; clear e96 i96 j96 hs96
    refine AtC.kgo ?_
    refine AtC.kq (by (refine AtT.zg ?_); exact At.knows) ?_
    refine AtC.kq (by (refine AtT.zt ?_); exact At.knows) ?_
    refine AtC.kq (by (refine AtT.zt ?_); exact At.knows) ?_
    refine AtC.nz ?_
    refine AtT.zT z26 ?_
    intro b21
    refine AtC.kgo ?_
    refine AtC.nz ?_
    refine AtT.zD zQ ?_
    refine AtC.kgo ?_
    refine AtC.kq (by (refine AtT.zf ?_); exact At.knows) ?_
    refine AtC.done ?_
   rotate_right
   focus
    refine AtC.nz ?_
    refine AtT.zT z26 ?_
    intro b21
    refine AtC.kgo ?_
    refine AtC.nz ?_
    refine AtT.qa rfl rfl ok25 (jP bo6 ⟨6, 4, 4, 0⟩ _ _ hb) ?_
    rintro _ V96 hV96 ⟨u96, rfl, hu96⟩; rw [c_a1]; rw [c_a1B] at hu96; replace hg := hg.le hV96; replace hr := hr.le hV96; replace hb := hb.le hV96; replace h50 := h50.le hV96; replace h55 := h55.le hV96; replace h65 := h65.le hV96; replace h70 := h70.le hV96; replace h80 := h80.le hV96; replace h85 := h85.le hV96; replace h90 := h90.le hV96; obtain ⟨w96, a96, c96, rfl, ⟨q96, z96, y96, e96, rfl, i96, j96⟩, hs96⟩ := id hu96; clear e96 i96 j96 hs96
    refine AtC.kgo ?_
    refine AtC.kq (by (refine AtT.zg ?_); exact At.knows) ?_
    refine AtC.kq (by (refine AtT.zt ?_); exact At.knows) ?_
    refine AtC.kq (by (refine AtT.zt ?_); exact At.knows) ?_
    refine AtC.nz ?_
    refine AtT.zD zQ ?_
    refine AtC.kgo ?_
    refine AtC.kq (by (refine AtT.zf ?_); exact At.knows) ?_
    refine AtC.done ?_
  rotate_right
  focus
   refine AtC.nz ?_
   refine AtT.zT z26 ?_
   intro b21
   refine AtC.kgo ?_
   refine AtC.nz ?_
   refine AtT.zI rfl rfl ok44 (ji 6 4 4 0 _) ?_
   rintro _ rfl
   refine AtC.kgo ?_
   refine AtC.nz ?_
   refine AtT.qa rfl rfl ok25 (jP bo6 ⟨6, 4, 4, 0⟩ _ _ hb) ?_
   rintro _ V96 hV96 ⟨u96, rfl, hu96⟩; rw [c_a1]; rw [c_a1B] at hu96; replace hg := hg.le hV96; replace hr := hr.le hV96; replace hb := hb.le hV96; replace h50 := h50.le hV96; replace h55 := h55.le hV96; replace h65 := h65.le hV96; replace h70 := h70.le hV96; replace h80 := h80.le hV96; replace h85 := h85.le hV96; replace h90 := h90.le hV96; obtain ⟨w96, a96, c96, rfl, ⟨q96, z96, y96, e96, rfl, i96, j96⟩, hs96⟩ := id hu96; clear e96 i96 j96 hs96
   refine AtC.kgo ?_
   refine AtC.kq (by (refine AtT.zg ?_); exact At.knows) ?_
   refine AtC.kq (by (refine AtT.zt ?_); exact At.knows) ?_
   refine AtC.kq (by (refine AtT.zt ?_); exact At.knows) ?_
   refine AtC.nz ?_
   refine AtT.zD zQ ?_
   refine AtC.kgo ?_
   refine AtC.kq (by (refine AtT.zf ?_); exact At.knows) ?_
   refine AtC.done ?_
  all_goals (refine At.nrm ?_)
  all_goals exact At.meetG (b21, z96, q96.length, y96, a96, c96) ⟨hg, hr, hb, h50, h55, h65, h70, h80, h85, h90, hu96⟩ ⟨rfl, rfl, rfl, rfl, rfl, rfl, rfl, rfl, rfl, rfl, rfl, rfl, rfl, rfl, rfl, rfl, rfl, rfl, rfl, rfl, trivial⟩ Pt.zJ
 rintro ⟨b21, z96, n96, y96, a96, c96⟩ Vc11 ks' O' ⟨hg, hr, hb, h50, h55, h65, h70, h80, h85, h90, hu96⟩ hk hO hl11
 dsimp only at hk hO hu96
 subst hk hO
 refine At.nrm ?_
 refine At.cutG (ι := Unit) (fun _ => [(1, v46), (2, .pointer (some ⟨b2, 0, none⟩)), (3, u50), (4, iv 0), (5, u55), (6, iv 0), (8, iv 2), (9, u65), (10, iv 0), (11, u70), (12, iv 0), (14, iv 2), (15, u80), (16, iv 0), (17, u85), (18, iv 0), (19, u90), (20, iv 0), (21, .pointer (some ⟨b21, 0, none⟩)), (22, iv 0), (24, iv 28)]) (fun _ => [.blk b2 (LC [.slice z47 q47.length y47, .slice a47 bo6.es.length c47] 26), .blk b21 (LC [.slice z96 n96 y96, .slice a96 box.es.length c96] 26)]) (fun _ V'' => GvV V'' ∧ RsV V'' v46 rs2 ∧ BoV V'' (.agg #[.slice z47 q47.length y47, .slice a47 bo6.es.length c47]) bo6 ∧ SlI V'' u50 ([4, 2] ++ List.replicate 6 0) ∧ SlI V'' u55 ([4] ++ List.replicate 7 0) ∧ SlI V'' u65 [0, 1, 2, 4, 5] ∧ SlI V'' u70 [0, 1, 2, 3] ∧ SlI V'' u80 ([3, 2, 1, 1] ++ List.replicate 4 0) ∧ SlI V'' u85 ([3, 2, 2] ++ List.replicate 5 0) ∧ SlI V'' u90 ([3, 2, 3] ++ List.replicate 5 0) ∧ BoV V'' (.agg #[.slice z96 n96 y96, .slice a96 box.es.length c96]) box) ?_ ?_
 ·refine At.draw (.q 0 (.two 1 (.two 2 (.q 3 (.q 4 (.q 5 (.n false 6 (.n false 7 (.q 8 .done)))))) 6 (.n false 2 (.q 3 (.q 4 (.q 5 (.n false 7 (.q 8 .done))))))) 6 (.n false 1 (.n false 2 (.q 3 (.q 4 (.q 5 (.n false 7 (.q 8 .done))))))))) ffm (by kernel_rfl) ?_
  refine AtC.start ?_
  refine AtC.pre (fun hle0 => ?_)
  refine AtC.kq (by (first | refine AtT.zG zQ ?_ | refine AtT.zK zQ ?_ | refine AtT.zF zQ ?_); exact At.knows) ?_
  refine AtC.two ?_ ?_
  focus
   refine AtC.nz ?_
   refine AtT.zI rfl rfl ok44 (ji 6 2 2 2 _) ?_
   rintro _ rfl
   refine AtC.kgo ?_
   refine AtC.two ?_ ?_
   focus
    refine AtC.nz ?_
    refine AtT.qa rfl rfl ok25 (jP bo6 ⟨6, 2, 2, 2⟩ _ _ hb) ?_
    rintro _ V102 hV102 ⟨u102, rfl, hu102⟩; rw [c_a2]; replace hg := hg.le hV102; replace hr := hr.le hV102; replace hb := hb.le hV102; replace h50 := h50.le hV102; replace h55 := h55.le hV102; replace h65 := h65.le hV102; replace h70 := h70.le hV102; replace h80 := h80.le hV102; replace h85 := h85.le hV102; replace h90 := h90.le hV102; replace hu96 := hu96.le hV102; obtain ⟨w102, a102, c102, rfl, ⟨q102, z102, y102, e102, rfl, i102, j102⟩, hs102⟩ := id hu102; clear e102 i102 j102 hs102
    refine AtC.kgo ?_
    refine AtC.kq (by (refine AtT.zg ?_); exact At.knows) ?_
    refine AtC.kq (by (refine AtT.zt ?_); exact At.knows) ?_
    refine AtC.kq (by (refine AtT.zt ?_); exact At.knows) ?_
    refine AtC.nz ?_
    refine AtT.zT z26 ?_
    intro b23
    refine AtC.kgo ?_
    refine AtC.nz ?_
    refine AtT.zD zQ ?_
    refine AtC.kgo ?_
    refine AtC.kq (by (refine AtT.zf ?_); exact At.knows) ?_
    refine AtC.done ?_
   rotate_right
   focus
    refine AtC.nz ?_
    refine AtT.zT z26 ?_
    intro b23
    refine AtC.kgo ?_
    refine AtC.nz ?_
    refine AtT.qa rfl rfl ok25 (jP bo6 ⟨6, 2, 2, 2⟩ _ _ hb) ?_
    rintro _ V102 hV102 ⟨u102, rfl, hu102⟩; rw [c_a2]; replace hg := hg.le hV102; replace hr := hr.le hV102; replace hb := hb.le hV102; replace h50 := h50.le hV102; replace h55 := h55.le hV102; replace h65 := h65.le hV102; replace h70 := h70.le hV102; replace h80 := h80.le hV102; replace h85 := h85.le hV102; replace h90 := h90.le hV102; replace hu96 := hu96.le hV102; obtain ⟨w102, a102, c102, rfl, ⟨q102, z102, y102, e102, rfl, i102, j102⟩, hs102⟩ := id hu102; clear e102 i102 j102 hs102
    refine AtC.kgo ?_
    refine AtC.kq (by (refine AtT.zg ?_); exact At.knows) ?_
    refine AtC.kq (by (refine AtT.zt ?_); exact At.knows) ?_
    refine AtC.kq (by (refine AtT.zt ?_); exact At.knows) ?_
    refine AtC.nz ?_
    refine AtT.zD zQ ?_
    refine AtC.kgo ?_
    refine AtC.kq (by (refine AtT.zf ?_); exact At.knows) ?_
    refine AtC.done ?_
  rotate_right
  focus
   refine AtC.nz ?_
   refine AtT.zT z26 ?_
   intro b23
   refine AtC.kgo ?_
   refine AtC.nz ?_
   refine AtT.zI rfl rfl ok44 (ji 6 2 2 2 _) ?_
   rintro _ rfl
   refine AtC.kgo ?_
   refine AtC.nz ?_
   refine AtT.qa rfl rfl ok25 (jP bo6 ⟨6, 2, 2, 2⟩ _ _ hb) ?_
   rintro _ V102 hV102 ⟨u102, rfl, hu102⟩; rw [c_a2]; replace hg := hg.le hV102; replace hr := hr.le hV102; replace hb := hb.le hV102; replace h50 := h50.le hV102; replace h55 := h55.le hV102; replace h65 := h65.le hV102; replace h70 := h70.le hV102; replace h80 := h80.le hV102; replace h85 := h85.le hV102; replace h90 := h90.le hV102; replace hu96 := hu96.le hV102; obtain ⟨w102, a102, c102, rfl, ⟨q102, z102, y102, e102, rfl, i102, j102⟩, hs102⟩ := id hu102; clear e102 i102 j102 hs102
   refine AtC.kgo ?_
   refine AtC.kq (by (refine AtT.zg ?_); exact At.knows) ?_
   refine AtC.kq (by (refine AtT.zt ?_); exact At.knows) ?_
   refine AtC.kq (by (refine AtT.zt ?_); exact At.knows) ?_
   refine AtC.nz ?_
   refine AtT.zD zQ ?_
   refine AtC.kgo ?_
   refine AtC.kq (by (refine AtT.zf ?_); exact At.knows) ?_
   refine AtC.done ?_
  all_goals (refine At.nrm ?_)
  all_goals exact At.meetG () ⟨hg, hr, hb, h50, h55, h65, h70, h80, h85, h90, hu96⟩ ⟨rfl, rfl, rfl, rfl, rfl, rfl, rfl, rfl, rfl, rfl, rfl, rfl, rfl, rfl, rfl, rfl, rfl, rfl, rfl, rfl, rfl, trivial⟩ Pt.zJ
 rintro - Vc12 ks' O' ⟨hg, hr, hb, h50, h55, h65, h70, h80, h85, h90, hu96⟩ hk hO hl12
 subst hk hO
 refine At.nrm ?_
 refine At.cutG (ι := Unit) (fun _ => [(1, v46), (2, .pointer (some ⟨b2, 0, none⟩)), (3, u50), (4, iv 0), (5, u55), (6, iv 0), (8, iv 2), (9, u65), (10, iv 0), (11, u70), (12, iv 0), (14, iv 2), (15, u80), (16, iv 0), (17, u85), (18, iv 0), (19, u90), (20, iv 0), (21, .pointer (some ⟨b21, 0, none⟩)), (22, iv 0), (24, iv 28), (26, iv 12)]) (fun _ => [.blk b2 (LC [.slice z47 q47.length y47, .slice a47 bo6.es.length c47] 26), .blk b21 (LC [.slice z96 n96 y96, .slice a96 box.es.length c96] 26)]) (fun _ V'' => GvV V'' ∧ RsV V'' v46 rs2 ∧ BoV V'' (.agg #[.slice z47 q47.length y47, .slice a47 bo6.es.length c47]) bo6 ∧ SlI V'' u50 ([4, 2] ++ List.replicate 6 0) ∧ SlI V'' u55 ([4] ++ List.replicate 7 0) ∧ SlI V'' u65 [0, 1, 2, 4, 5] ∧ SlI V'' u70 [0, 1, 2, 3] ∧ SlI V'' u80 ([3, 2, 1, 1] ++ List.replicate 4 0) ∧ SlI V'' u85 ([3, 2, 2] ++ List.replicate 5 0) ∧ SlI V'' u90 ([3, 2, 3] ++ List.replicate 5 0) ∧ BoV V'' (.agg #[.slice z96 n96 y96, .slice a96 box.es.length c96]) box) ?_ ?_
 ·refine At.draw (.q 0 (.two 1 (.two 2 (.q 3 (.q 4 (.q 5 (.n false 6 (.n false 7 (.q 8 .done)))))) 6 (.n false 2 (.q 3 (.q 4 (.q 5 (.n false 7 (.q 8 .done))))))) 6 (.n false 1 (.n false 2 (.q 3 (.q 4 (.q 5 (.n false 7 (.q 8 .done))))))))) ffm (by kernel_rfl) ?_
  refine AtC.start ?_
  refine AtC.pre (fun hle0 => ?_)
  refine AtC.kq (by (first | refine AtT.zG zQ ?_ | refine AtT.zK zQ ?_ | refine AtT.zF zQ ?_); exact At.knows) ?_
  refine AtC.two ?_ ?_
  focus
   refine AtC.nz ?_
   refine AtT.zI rfl rfl ok44 (ji 4 1 0 1 _) ?_
   rintro _ rfl
   refine AtC.kgo ?_
   refine AtC.two ?_ ?_
   focus
    refine AtC.nz ?_
    refine AtT.qa rfl rfl ok25 (jP bo6 ⟨4, 1, 0, 1⟩ _ _ hb) ?_
    rintro _ V108 hV108 ⟨u108, rfl, hu108⟩; rw [c_a3]; replace hg := hg.le hV108; replace hr := hr.le hV108; replace hb := hb.le hV108; replace h50 := h50.le hV108; replace h55 := h55.le hV108; replace h65 := h65.le hV108; replace h70 := h70.le hV108; replace h80 := h80.le hV108; replace h85 := h85.le hV108; replace h90 := h90.le hV108; replace hu96 := hu96.le hV108; obtain ⟨w108, a108, c108, rfl, ⟨q108, z108, y108, e108, rfl, i108, j108⟩, hs108⟩ := id hu108; clear e108 i108 j108 hs108
    refine AtC.kgo ?_
    refine AtC.kq (by (refine AtT.zg ?_); exact At.knows) ?_
    refine AtC.kq (by (refine AtT.zt ?_); exact At.knows) ?_
    refine AtC.kq (by (refine AtT.zt ?_); exact At.knows) ?_
    refine AtC.nz ?_
    refine AtT.zT z26 ?_
    intro b25
    refine AtC.kgo ?_
    refine AtC.nz ?_
    refine AtT.zD zQ ?_
    refine AtC.kgo ?_
    refine AtC.kq (by (refine AtT.zf ?_); exact At.knows) ?_
    refine AtC.done ?_
   rotate_right
   focus
    refine AtC.nz ?_
    refine AtT.zT z26 ?_
    intro b25
    refine AtC.kgo ?_
    refine AtC.nz ?_
    refine AtT.qa rfl rfl ok25 (jP bo6 ⟨4, 1, 0, 1⟩ _ _ hb) ?_
    rintro _ V108 hV108 ⟨u108, rfl, hu108⟩; rw [c_a3]; replace hg := hg.le hV108; replace hr := hr.le hV108; replace hb := hb.le hV108; replace h50 := h50.le hV108; replace h55 := h55.le hV108; replace h65 := h65.le hV108; replace h70 := h70.le hV108; replace h80 := h80.le hV108; replace h85 := h85.le hV108; replace h90 := h90.le hV108; replace hu96 := hu96.le hV108; obtain ⟨w108, a108, c108, rfl, ⟨q108, z108, y108, e108, rfl, i108, j108⟩, hs108⟩ := id hu108; clear e108 i108 j108 hs108
    refine AtC.kgo ?_
    refine AtC.kq (by (refine AtT.zg ?_); exact At.knows) ?_
    refine AtC.kq (by (refine AtT.zt ?_); exact At.knows) ?_
    refine AtC.kq (by (refine AtT.zt ?_); exact At.knows) ?_
    refine AtC.nz ?_
    refine AtT.zD zQ ?_
    refine AtC.kgo ?_
    refine AtC.kq (by (refine AtT.zf ?_); exact At.knows) ?_
    refine AtC.done ?_
  rotate_right
  focus
   refine AtC.nz ?_
   refine AtT.zT z26 ?_
   intro b25
   refine AtC.kgo ?_
   refine AtC.nz ?_
   refine AtT.zI rfl rfl ok44 (ji 4 1 0 1 _) ?_
   rintro _ rfl
   refine AtC.kgo ?_
   refine AtC.nz ?_
   refine AtT.qa rfl rfl ok25 (jP bo6 ⟨4, 1, 0, 1⟩ _ _ hb) ?_
   rintro _ V108 hV108 ⟨u108, rfl, hu108⟩; rw [c_a3]; replace hg := hg.le hV108; replace hr := hr.le hV108; replace hb := hb.le hV108; replace h50 := h50.le hV108; replace h55 := h55.le hV108; replace h65 := h65.le hV108; replace h70 := h70.le hV108; replace h80 := h80.le hV108; replace h85 := h85.le hV108; replace h90 := h90.le hV108; replace hu96 := hu96.le hV108; obtain ⟨w108, a108, c108, rfl, ⟨q108, z108, y108, e108, rfl, i108, j108⟩, hs108⟩ := id hu108; clear e108 i108 j108 hs108
   refine AtC.kgo ?_
   refine AtC.kq (by (refine AtT.zg ?_); exact At.knows) ?_
   refine AtC.kq (by (refine AtT.zt ?_); exact At.knows) ?_
   refine AtC.kq (by (refine AtT.zt ?_); exact At.knows) ?_
   refine AtC.nz ?_
   refine AtT.zD zQ ?_
   refine AtC.kgo ?_
   refine AtC.kq (by (refine AtT.zf ?_); exact At.knows) ?_
   refine AtC.done ?_
  all_goals (refine At.nrm ?_)
  all_goals exact At.meetG () ⟨hg, hr, hb, h50, h55, h65, h70, h80, h85, h90, hu96⟩ ⟨rfl, rfl, rfl, rfl, rfl, rfl, rfl, rfl, rfl, rfl, rfl, rfl, rfl, rfl, rfl, rfl, rfl, rfl, rfl, rfl, rfl, rfl, trivial⟩ Pt.zJ
 rintro - Vc13 ks' O' ⟨hg, hr, hb, h50, h55, h65, h70, h80, h85, h90, hu96⟩ hk hO hl13
 subst hk hO
 refine At.nrm ?_
 refine At.cutG (ι := Unit) (fun _ => [(1, v46), (2, .pointer (some ⟨b2, 0, none⟩)), (3, u50), (4, iv 0), (5, u55), (6, iv 0), (8, iv 2), (9, u65), (10, iv 0), (11, u70), (12, iv 0), (14, iv 2), (15, u80), (16, iv 0), (17, u85), (18, iv 0), (19, u90), (20, iv 0), (21, .pointer (some ⟨b21, 0, none⟩)), (22, iv 0), (24, iv 28), (26, iv 12), (28, iv 16)]) (fun _ => [.blk b2 (LC [.slice z47 q47.length y47, .slice a47 bo6.es.length c47] 26), .blk b21 (LC [.slice z96 n96 y96, .slice a96 box.es.length c96] 26)]) (fun _ V'' => GvV V'' ∧ RsV V'' v46 rs2 ∧ BoV V'' (.agg #[.slice z47 q47.length y47, .slice a47 bo6.es.length c47]) bo6 ∧ SlI V'' u50 ([4, 2] ++ List.replicate 6 0) ∧ SlI V'' u55 ([4] ++ List.replicate 7 0) ∧ SlI V'' u65 [0, 1, 2, 4, 5] ∧ SlI V'' u70 [0, 1, 2, 3] ∧ SlI V'' u80 ([3, 2, 1, 1] ++ List.replicate 4 0) ∧ SlI V'' u85 ([3, 2, 2] ++ List.replicate 5 0) ∧ SlI V'' u90 ([3, 2, 3] ++ List.replicate 5 0) ∧ BoV V'' (.agg #[.slice z96 n96 y96, .slice a96 box.es.length c96]) box) ?_ ?_
 ·refine At.draw (.q 0 (.two 1 (.two 2 (.q 3 (.q 4 (.q 5 (.n false 6 (.n false 7 (.q 8 .done)))))) 6 (.n false 2 (.q 3 (.q 4 (.q 5 (.n false 7 (.q 8 .done))))))) 6 (.n false 1 (.n false 2 (.q 3 (.q 4 (.q 5 (.n false 7 (.q 8 .done))))))))) ffm (by kernel_rfl) ?_
  refine AtC.start ?_
  refine AtC.pre (fun hle0 => ?_)
  refine AtC.kq (by (first | refine AtT.zG zQ ?_ | refine AtT.zK zQ ?_ | refine AtT.zF zQ ?_); exact At.knows) ?_
  refine AtC.two ?_ ?_
  focus
   refine AtC.nz ?_
   refine AtT.zI rfl rfl ok44 (ji 6 3 4 1 _) ?_
   rintro _ rfl
   refine AtC.kgo ?_
   refine AtC.two ?_ ?_
   focus
    refine AtC.nz ?_
    refine AtT.qa rfl rfl ok25 (jP bo6 ⟨6, 3, 4, 1⟩ _ _ hb) ?_
    rintro _ V114 hV114 ⟨u114, rfl, hu114⟩; rw [c_a4]; replace hg := hg.le hV114; replace hr := hr.le hV114; replace hb := hb.le hV114; replace h50 := h50.le hV114; replace h55 := h55.le hV114; replace h65 := h65.le hV114; replace h70 := h70.le hV114; replace h80 := h80.le hV114; replace h85 := h85.le hV114; replace h90 := h90.le hV114; replace hu96 := hu96.le hV114; obtain ⟨w114, a114, c114, rfl, ⟨q114, z114, y114, e114, rfl, i114, j114⟩, hs114⟩ := id hu114; clear e114 i114 j114 hs114
    refine AtC.kgo ?_
    refine AtC.kq (by (refine AtT.zg ?_); exact At.knows) ?_
    refine AtC.kq (by (refine AtT.zt ?_); exact At.knows) ?_
    refine AtC.kq (by (refine AtT.zt ?_); exact At.knows) ?_
    refine AtC.nz ?_
    refine AtT.zT z26 ?_
    intro b27
    refine AtC.kgo ?_
    refine AtC.nz ?_
    refine AtT.zD zQ ?_
    refine AtC.kgo ?_
    refine AtC.kq (by (refine AtT.zf ?_); exact At.knows) ?_
    refine AtC.done ?_
   rotate_right
   focus
    refine AtC.nz ?_
    refine AtT.zT z26 ?_
    intro b27
    refine AtC.kgo ?_
    refine AtC.nz ?_
    refine AtT.qa rfl rfl ok25 (jP bo6 ⟨6, 3, 4, 1⟩ _ _ hb) ?_
    rintro _ V114 hV114 ⟨u114, rfl, hu114⟩; rw [c_a4]; replace hg := hg.le hV114; replace hr := hr.le hV114; replace hb := hb.le hV114; replace h50 := h50.le hV114; replace h55 := h55.le hV114; replace h65 := h65.le hV114; replace h70 := h70.le hV114; replace h80 := h80.le hV114; replace h85 := h85.le hV114; replace h90 := h90.le hV114; replace hu96 := hu96.le hV114; obtain ⟨w114, a114, c114, rfl, ⟨q114, z114, y114, e114, rfl, i114, j114⟩, hs114⟩ := id hu114; clear e114 i114 j114 hs114
    refine AtC.kgo ?_
    refine AtC.kq (by (refine AtT.zg ?_); exact At.knows) ?_
    refine AtC.kq (by (refine AtT.zt ?_); exact At.knows) ?_
    refine AtC.kq (by (refine AtT.zt ?_); exact At.knows) ?_
    refine AtC.nz ?_
    refine AtT.zD zQ ?_
    refine AtC.kgo ?_
    refine AtC.kq (by (refine AtT.zf ?_); exact At.knows) ?_
    refine AtC.done ?_
  rotate_right
  focus
   refine AtC.nz ?_
   refine AtT.zT z26 ?_
   intro b27
   refine AtC.kgo ?_
   refine AtC.nz ?_
   refine AtT.zI rfl rfl ok44 (ji 6 3 4 1 _) ?_
   rintro _ rfl
   refine AtC.kgo ?_
   refine AtC.nz ?_
   refine AtT.qa rfl rfl ok25 (jP bo6 ⟨6, 3, 4, 1⟩ _ _ hb) ?_
   rintro _ V114 hV114 ⟨u114, rfl, hu114⟩; rw [c_a4]; replace hg := hg.le hV114; replace hr := hr.le hV114; replace hb := hb.le hV114; replace h50 := h50.le hV114; replace h55 := h55.le hV114; replace h65 := h65.le hV114; replace h70 := h70.le hV114; replace h80 := h80.le hV114; replace h85 := h85.le hV114; replace h90 := h90.le hV114; replace hu96 := hu96.le hV114; obtain ⟨w114, a114, c114, rfl, ⟨q114, z114, y114, e114, rfl, i114, j114⟩, hs114⟩ := id hu114; clear e114 i114 j114 hs114
   refine AtC.kgo ?_
   refine AtC.kq (by (refine AtT.zg ?_); exact At.knows) ?_
   refine AtC.kq (by (refine AtT.zt ?_); exact At.knows) ?_
   refine AtC.kq (by (refine AtT.zt ?_); exact At.knows) ?_
   refine AtC.nz ?_
   refine AtT.zD zQ ?_
   refine AtC.kgo ?_
   refine AtC.kq (by (refine AtT.zf ?_); exact At.knows) ?_
   refine AtC.done ?_
  all_goals (refine At.nrm ?_)
  all_goals exact At.meetG () ⟨hg, hr, hb, h50, h55, h65, h70, h80, h85, h90, hu96⟩ ⟨rfl, rfl, rfl, rfl, rfl, rfl, rfl, rfl, rfl, rfl, rfl, rfl, rfl, rfl, rfl, rfl, rfl, rfl, rfl, rfl, rfl, rfl, rfl, trivial⟩ Pt.zJ
 rintro - Vc14 ks' O' ⟨hg, hr, hb, h50, h55, h65, h70, h80, h85, h90, hu96⟩ hk hO hl14
 subst hk hO
 refine At.nrm ?_
 refine At.cutG (ι := Unit) (fun _ => [(1, v46), (2, .pointer (some ⟨b2, 0, none⟩)), (3, u50), (4, iv 0), (5, u55), (6, iv 0), (8, iv 2), (9, u65), (10, iv 0), (11, u70), (12, iv 0), (14, iv 2), (15, u80), (16, iv 0), (17, u85), (18, iv 0), (19, u90), (20, iv 0), (21, .pointer (some ⟨b21, 0, none⟩)), (22, iv 0), (24, iv 28), (26, iv 12), (28, iv 16), (30, iv 2)]) (fun _ => [.blk b2 (LC [.slice z47 q47.length y47, .slice a47 bo6.es.length c47] 26), .blk b21 (LC [.slice z96 n96 y96, .slice a96 box.es.length c96] 26)]) (fun _ V'' => GvV V'' ∧ RsV V'' v46 rs2 ∧ BoV V'' (.agg #[.slice z47 q47.length y47, .slice a47 bo6.es.length c47]) bo6 ∧ SlI V'' u50 ([4, 2] ++ List.replicate 6 0) ∧ SlI V'' u55 ([4] ++ List.replicate 7 0) ∧ SlI V'' u65 [0, 1, 2, 4, 5] ∧ SlI V'' u70 [0, 1, 2, 3] ∧ SlI V'' u80 ([3, 2, 1, 1] ++ List.replicate 4 0) ∧ SlI V'' u85 ([3, 2, 2] ++ List.replicate 5 0) ∧ SlI V'' u90 ([3, 2, 3] ++ List.replicate 5 0) ∧ BoV V'' (.agg #[.slice z96 n96 y96, .slice a96 box.es.length c96]) box) ?_ ?_
 ·refine At.draw (.q 0 (.two 1 (.two 2 (.q 3 (.q 4 (.q 5 (.n false 6 (.n false 7 (.q 8 .done)))))) 6 (.n false 2 (.q 3 (.q 4 (.q 5 (.n false 7 (.q 8 .done))))))) 6 (.n false 1 (.n false 2 (.q 3 (.q 4 (.q 5 (.n false 7 (.q 8 .done))))))))) ffm (by kernel_rfl) ?_
  refine AtC.start ?_
  refine AtC.pre (fun hle0 => ?_)
  refine AtC.kq (by (first | refine AtT.zG zQ ?_ | refine AtT.zK zQ ?_ | refine AtT.zF zQ ?_); exact At.knows) ?_
  refine AtC.two ?_ ?_
  focus
   refine AtC.nz ?_
   refine AtT.zI rfl rfl ok44 (ji 6 4 6 0 _) ?_
   rintro _ rfl
   refine AtC.kgo ?_
   refine AtC.two ?_ ?_
   focus
    refine AtC.nz ?_
    refine AtT.qa rfl rfl ok25 (jP bo6 ⟨6, 4, 6, 0⟩ _ _ hb) ?_
    rintro _ V120 hV120 ⟨u120, rfl, hu120⟩; rw [c_a5]; replace hg := hg.le hV120; replace hr := hr.le hV120; replace hb := hb.le hV120; replace h50 := h50.le hV120; replace h55 := h55.le hV120; replace h65 := h65.le hV120; replace h70 := h70.le hV120; replace h80 := h80.le hV120; replace h85 := h85.le hV120; replace h90 := h90.le hV120; replace hu96 := hu96.le hV120; obtain ⟨w120, a120, c120, rfl, ⟨q120, z120, y120, e120, rfl, i120, j120⟩, hs120⟩ := id hu120; clear e120 i120 j120 hs120
    refine AtC.kgo ?_
    refine AtC.kq (by (refine AtT.zg ?_); exact At.knows) ?_
    refine AtC.kq (by (refine AtT.zt ?_); exact At.knows) ?_
    refine AtC.kq (by (refine AtT.zt ?_); exact At.knows) ?_
    refine AtC.nz ?_
    refine AtT.zT z26 ?_
    intro b29
    refine AtC.kgo ?_
    refine AtC.nz ?_
    refine AtT.zD zQ ?_
    refine AtC.kgo ?_
    refine AtC.kq (by (refine AtT.zf ?_); exact At.knows) ?_
    refine AtC.done ?_
   rotate_right
   focus
    refine AtC.nz ?_
    refine AtT.zT z26 ?_
    intro b29
    refine AtC.kgo ?_
    refine AtC.nz ?_
    refine AtT.qa rfl rfl ok25 (jP bo6 ⟨6, 4, 6, 0⟩ _ _ hb) ?_
    rintro _ V120 hV120 ⟨u120, rfl, hu120⟩; rw [c_a5]; replace hg := hg.le hV120; replace hr := hr.le hV120; replace hb := hb.le hV120; replace h50 := h50.le hV120; replace h55 := h55.le hV120; replace h65 := h65.le hV120; replace h70 := h70.le hV120; replace h80 := h80.le hV120; replace h85 := h85.le hV120; replace h90 := h90.le hV120; replace hu96 := hu96.le hV120; obtain ⟨w120, a120, c120, rfl, ⟨q120, z120, y120, e120, rfl, i120, j120⟩, hs120⟩ := id hu120; clear e120 i120 j120 hs120
    refine AtC.kgo ?_
    refine AtC.kq (by (refine AtT.zg ?_); exact At.knows) ?_
    refine AtC.kq (by (refine AtT.zt ?_); exact At.knows) ?_
    refine AtC.kq (by (refine AtT.zt ?_); exact At.knows) ?_
    refine AtC.nz ?_
    refine AtT.zD zQ ?_
    refine AtC.kgo ?_
    refine AtC.kq (by (refine AtT.zf ?_); exact At.knows) ?_
    refine AtC.done ?_
  rotate_right
  focus
   refine AtC.nz ?_
   refine AtT.zT z26 ?_
   intro b29
   refine AtC.kgo ?_
   refine AtC.nz ?_
   refine AtT.zI rfl rfl ok44 (ji 6 4 6 0 _) ?_
   rintro _ rfl
   refine AtC.kgo ?_
   refine AtC.nz ?_
   refine AtT.qa rfl rfl ok25 (jP bo6 ⟨6, 4, 6, 0⟩ _ _ hb) ?_
   rintro _ V120 hV120 ⟨u120, rfl, hu120⟩; rw [c_a5]; replace hg := hg.le hV120; replace hr := hr.le hV120; replace hb := hb.le hV120; replace h50 := h50.le hV120; replace h55 := h55.le hV120; replace h65 := h65.le hV120; replace h70 := h70.le hV120; replace h80 := h80.le hV120; replace h85 := h85.le hV120; replace h90 := h90.le hV120; replace hu96 := hu96.le hV120; obtain ⟨w120, a120, c120, rfl, ⟨q120, z120, y120, e120, rfl, i120, j120⟩, hs120⟩ := id hu120; clear e120 i120 j120 hs120
   refine AtC.kgo ?_
   refine AtC.kq (by (refine AtT.zg ?_); exact At.knows) ?_
   refine AtC.kq (by (refine AtT.zt ?_); exact At.knows) ?_
   refine AtC.kq (by (refine AtT.zt ?_); exact At.knows) ?_
   refine AtC.nz ?_
   refine AtT.zD zQ ?_
   refine AtC.kgo ?_
   refine AtC.kq (by (refine AtT.zf ?_); exact At.knows) ?_
   refine AtC.done ?_
  all_goals (refine At.nrm ?_)
  all_goals exact At.meetG () ⟨hg, hr, hb, h50, h55, h65, h70, h80, h85, h90, hu96⟩ ⟨rfl, rfl, rfl, rfl, rfl, rfl, rfl, rfl, rfl, rfl, rfl, rfl, rfl, rfl, rfl, rfl, rfl, rfl, rfl, rfl, rfl, rfl, rfl, rfl, trivial⟩ Pt.zJ
 rintro - Vc15 ks' O' ⟨hg, hr, hb, h50, h55, h65, h70, h80, h85, h90, hu96⟩ hk hO hl15
 subst hk hO
 refine At.nrm ?_
 refine At.zh (.q 0 (.n false 1 (.q 2 (.q 3 (.q 4 (.q 5 (.q 6 .done))))))) ?_
 first | refine AtT.zG zQ ?_ | refine AtT.zK zQ ?_ | refine AtT.zF zQ ?_
 refine AtT.zI rfl rfl ok33 (pmost_f bo6 2 _ _ hb) ?_
 rintro _ rfl; rw [c_m1, c_m1E]
 refine AtT.zg ?_
 refine AtT.zt ?_
 refine AtT.zt ?_
 refine AtT.zf ?_
 refine AtT.zf ?_
 refine AtT.done ?_
 refine At.nrm ?_
 refine At.zh (.q 0 (.n false 1 (.q 2 (.q 3 (.q 4 (.q 5 (.q 6 .done))))))) ?_
 first | refine AtT.zG zQ ?_ | refine AtT.zK zQ ?_ | refine AtT.zF zQ ?_
 refine AtT.zI rfl rfl ok33 (pmost_f bo6 3 _ _ hb) ?_
 rintro _ rfl; rw [c_m2, c_m2E]
 refine AtT.zg ?_
 refine AtT.zt ?_
 refine AtT.zt ?_
 refine AtT.zf ?_
 refine AtT.zf ?_
 refine AtT.done ?_
 refine At.nrm ?_
 refine At.zh (.q 0 (.n false 1 (.q 2 (.q 3 (.q 4 (.q 5 (.q 6 .done))))))) ?_
 first | refine AtT.zG zQ ?_ | refine AtT.zK zQ ?_ | refine AtT.zF zQ ?_
 refine AtT.zI rfl rfl ok33 (pmost_f bo6 0 _ _ hb) ?_
 rintro _ rfl; rw [c_m3E]
 refine AtT.zg ?_
 refine AtT.zt ?_
 refine AtT.zt ?_
 refine AtT.zf ?_
 refine AtT.zf ?_
 refine AtT.done ?_
 refine At.nrm ?_
 refine At.zh (.n false 0 (.q 1 (.q 2 (.q 3 (.q 4 (.q 5 .done)))))) ?_
 refine AtT.zI rfl rfl ok35 (pcheck_f [97] (by decide) _ hg) ?_
 rintro _ rfl; rw [if_neg (by decide), if_neg (by decide), c_k1]
 refine AtT.zg ?_
 refine AtT.zt ?_
 refine AtT.zt ?_
 refine AtT.zf ?_
 refine AtT.zf ?_
 refine AtT.done ?_
 refine At.nrm ?_
 refine At.zh (.n false 0 (.q 1 (.q 2 (.q 3 (.q 4 (.q 5 .done)))))) ?_
 refine AtT.zI rfl rfl ok35 (pcheck_f [114, 32, 50, 32, 48, 32, 50, 32, 49, 32, 49, 10, 114, 32, 51, 32, 50, 32, 50, 10] (by decide) _ hg) ?_
 rintro _ rfl; rw [if_neg (by decide), if_neg (by decide), c_k2]
 refine AtT.zg ?_
 refine AtT.zt ?_
 refine AtT.zt ?_
 refine AtT.zf ?_
 refine AtT.zf ?_
 refine AtT.done ?_
 refine At.nrm ?_
 refine At.zh (.q 0 (.n false 1 (.q 2 (.q 3 (.q 4 (.q 5 (.q 6 .done))))))) ?_
 first | refine AtT.zG zQ ?_ | refine AtT.zK zQ ?_ | refine AtT.zF zQ ?_
 refine AtT.zI rfl rfl ok37 (file_f bo6 _ hg _ hb) ?_
 rintro _ rfl; rw [c_b, if_pos rfl]
 refine AtT.zg ?_
 refine AtT.zt ?_
 refine AtT.zt ?_
 refine AtT.zf ?_
 refine AtT.zf ?_
 refine AtT.done ?_
 refine At.nrm ?_
 refine At.zh (.q 0 (.q 1 (.q 2 (.q 3 (.q 4 (.q 5 (.q 6 (.q 7 (.q 8 (.q 9 (.q 10 (.q 11 (.q 12 (.q 13 (.q 14 (.q 15 (.q 16 (.q 17 (.q 18 (.q 19 (.q 20 (.q 21 (.q 22 (.q 23 (.q 24 (.q 25 (.q 26 (.q 27 (.q 28 (.q 29 (.q 30 (.q 31 (.q 32 (.q 33 (.q 34 (.q 35 (.q 36 (.q 37 (.q 38 (.q 39 (.q 40 (.q 41 (.q 42 (.q 43 (.q 44 (.q 45 (.q 46 (.q 47 (.q 48 (.q 49 (.q 50 (.q 51 (.q 52 (.q 53 (.q 54 (.q 55 (.q 56 (.q 57 (.q 58 (.q 59 (.q 60 (.q 61 (.q 62 (.q 63 (.q 64 (.q 65 (.q 66 (.q 67 (.q 68 (.q 69 (.q 70 (.q 71 (.q 72 (.q 73 (.q 74 (.q 75 (.q 76 (.q 77 (.q 78 (.q 79 (.q 80 (.q 81 (.q 82 .done))))))))))))))))))))))))))))))))))))))))))))))))))))))))))))))))))))))))))))))))))) ?_
 refine AtT.zg ?_
 refine AtT.qH ?_
 refine AtT.zW (d := 152) rfl ((fun h => h rfl)) ?_
 refine AtT.zg ?_
 all_goals (first | refine AtT.kL 153 ?_ | refine AtT.zB (d := 153) rfl (fun hg153 => ?_) (fun hg153 => ?_) | refine AtT.zA (d := 153) rfl (fun hg153 => ?_) (fun hg153 => ?_))
 all_goals first|refine AtT.zi ?_|refine AtT.ze ?_|(refine AtT.zg ?_)
 all_goals first|refine AtT.zi ?_|refine AtT.ze ?_|(refine AtT.qH ?_)
 all_goals (refine AtT.zW (d := 155) rfl ((fun h => h rfl)) ?_)
 all_goals (refine AtT.zC ?_)
 all_goals (refine AtT.zg ?_)
 all_goals (first | refine AtT.kL 157 ?_ | refine AtT.zB (d := 157) rfl (fun hg157 => ?_) (fun hg157 => ?_) | refine AtT.zA (d := 157) rfl (fun hg157 => ?_) (fun hg157 => ?_))
 all_goals first|refine AtT.zi ?_|refine AtT.ze ?_|(refine AtT.zg ?_)
 all_goals first|refine AtT.zi ?_|refine AtT.ze ?_|(refine AtT.qH ?_)
 all_goals (refine AtT.zW (d := 159) rfl ((fun h => h rfl)) ?_)
 all_goals (refine AtT.zC ?_)
 all_goals (refine AtT.zg ?_)
 all_goals (first | refine AtT.kL 161 ?_ | refine AtT.zB (d := 161) rfl (fun hg161 => ?_) (fun hg161 => ?_) | refine AtT.zA (d := 161) rfl (fun hg161 => ?_) (fun hg161 => ?_))
 all_goals first|refine AtT.zi ?_|refine AtT.ze ?_|(refine AtT.zg ?_)
 all_goals first|refine AtT.zi ?_|refine AtT.ze ?_|(refine AtT.qH ?_)
 all_goals (refine AtT.zW (d := 163) rfl ((fun h => h rfl)) ?_)
 all_goals (refine AtT.zC ?_)
 all_goals (refine AtT.zg ?_)
 all_goals (first | refine AtT.kL 165 ?_ | refine AtT.zB (d := 165) rfl (fun hg165 => ?_) (fun hg165 => ?_) | refine AtT.zA (d := 165) rfl (fun hg165 => ?_) (fun hg165 => ?_))
 all_goals first|refine AtT.zi ?_|refine AtT.ze ?_|(refine AtT.zg ?_)
 all_goals first|refine AtT.zi ?_|refine AtT.ze ?_|(refine AtT.qH ?_)
 all_goals (refine AtT.zW (d := 167) rfl ((fun h => h rfl)) ?_)
 all_goals (refine AtT.zC ?_)
 all_goals (refine AtT.zg ?_)
 all_goals (first | refine AtT.kL 169 ?_ | refine AtT.zB (d := 169) rfl (fun hg169 => ?_) (fun hg169 => ?_) | refine AtT.zA (d := 169) rfl (fun hg169 => ?_) (fun hg169 => ?_))
 all_goals first|refine AtT.zi ?_|refine AtT.ze ?_|(refine AtT.zg ?_)
 all_goals first|refine AtT.zi ?_|refine AtT.ze ?_|(refine AtT.qH ?_)
 all_goals (refine AtT.zW (d := 171) rfl ((fun h => h rfl)) ?_)
 all_goals (refine AtT.zC ?_)
 all_goals (refine AtT.zg ?_)
 all_goals (first | refine AtT.kL 173 ?_ | refine AtT.zB (d := 173) rfl (fun hg173 => ?_) (fun hg173 => ?_) | refine AtT.zA (d := 173) rfl (fun hg173 => ?_) (fun hg173 => ?_))
 all_goals first|refine AtT.zi ?_|refine AtT.ze ?_|(refine AtT.zg ?_)
 all_goals first|refine AtT.zi ?_|refine AtT.ze ?_|(refine AtT.qH ?_)
 all_goals (refine AtT.zW (d := 175) rfl ((fun h => h rfl)) ?_)
 all_goals (refine AtT.zC ?_)
 all_goals (refine AtT.zg ?_)
 all_goals (first | refine AtT.kL 177 ?_ | refine AtT.zB (d := 177) rfl (fun hg177 => ?_) (fun hg177 => ?_) | refine AtT.zA (d := 177) rfl (fun hg177 => ?_) (fun hg177 => ?_))
 all_goals first|refine AtT.zi ?_|refine AtT.ze ?_|(refine AtT.zg ?_)
 all_goals first|refine AtT.zi ?_|refine AtT.ze ?_|(refine AtT.qH ?_)
 all_goals (refine AtT.zW (d := 179) rfl ((fun h => h rfl)) ?_)
 all_goals (refine AtT.zC ?_)
 all_goals (refine AtT.zg ?_)
 all_goals (first | refine AtT.kL 181 ?_ | refine AtT.zB (d := 181) rfl (fun hg181 => ?_) (fun hg181 => ?_) | refine AtT.zA (d := 181) rfl (fun hg181 => ?_) (fun hg181 => ?_))
 all_goals first|refine AtT.zi ?_|refine AtT.ze ?_|(refine AtT.zg ?_)
 all_goals first|refine AtT.zi ?_|refine AtT.ze ?_|(refine AtT.qH ?_)
 all_goals (refine AtT.zW (d := 183) rfl ((fun h => h rfl)) ?_)
 all_goals (refine AtT.zC ?_)
 all_goals (refine AtT.zg ?_)
 all_goals (first | refine AtT.kL 185 ?_ | refine AtT.zB (d := 185) rfl (fun hg185 => ?_) (fun hg185 => ?_) | refine AtT.zA (d := 185) rfl (fun hg185 => ?_) (fun hg185 => ?_))
 all_goals first|refine AtT.zi ?_|refine AtT.ze ?_|(refine AtT.zg ?_)
 all_goals first|refine AtT.zi ?_|refine AtT.ze ?_|(refine AtT.qH ?_)
 all_goals (refine AtT.zW (d := 187) rfl ((fun h => h rfl)) ?_)
 all_goals (refine AtT.zC ?_)
 all_goals (refine AtT.zg ?_)
 all_goals (first | refine AtT.kL 189 ?_ | refine AtT.zB (d := 189) rfl (fun hg189 => ?_) (fun hg189 => ?_) | refine AtT.zA (d := 189) rfl (fun hg189 => ?_) (fun hg189 => ?_))
 all_goals first|refine AtT.zi ?_|refine AtT.ze ?_|(refine AtT.zg ?_)
 all_goals first|refine AtT.zi ?_|refine AtT.ze ?_|(refine AtT.qH ?_)
 all_goals (refine AtT.zW (d := 191) rfl ((fun h => h rfl)) ?_)
 all_goals (refine AtT.zC ?_)
 all_goals (refine AtT.zg ?_)
 all_goals (first | refine AtT.kL 193 ?_ | refine AtT.zB (d := 193) rfl (fun hg193 => ?_) (fun hg193 => ?_) | refine AtT.zA (d := 193) rfl (fun hg193 => ?_) (fun hg193 => ?_))
 all_goals first|refine AtT.zi ?_|refine AtT.ze ?_|(refine AtT.zg ?_)
 all_goals first|refine AtT.zi ?_|refine AtT.ze ?_|(refine AtT.qH ?_)
 all_goals (refine AtT.zW (d := 195) rfl ((fun h => h rfl)) ?_)
 all_goals (refine AtT.zC ?_)
 all_goals (refine AtT.zg ?_)
 all_goals (first | refine AtT.kL 197 ?_ | refine AtT.zB (d := 197) rfl (fun hg197 => ?_) (fun hg197 => ?_) | refine AtT.zA (d := 197) rfl (fun hg197 => ?_) (fun hg197 => ?_))
 all_goals first|refine AtT.zi ?_|refine AtT.ze ?_|(refine AtT.zg ?_)
 all_goals first|refine AtT.zi ?_|refine AtT.ze ?_|(refine AtT.qH ?_)
 all_goals (refine AtT.zW (d := 199) rfl ((fun h => h rfl)) ?_)
 all_goals (refine AtT.zC ?_)
 all_goals (refine AtT.zg ?_)
 all_goals (first | refine AtT.kL 201 ?_ | refine AtT.zB (d := 201) rfl (fun hg201 => ?_) (fun hg201 => ?_) | refine AtT.zA (d := 201) rfl (fun hg201 => ?_) (fun hg201 => ?_))
 all_goals first|refine AtT.zi ?_|refine AtT.ze ?_|(refine AtT.zg ?_)
 all_goals first|refine AtT.zi ?_|refine AtT.ze ?_|(refine AtT.qH ?_)
 all_goals (refine AtT.zW (d := 203) rfl ((fun h => h rfl)) ?_)
 all_goals (refine AtT.zC ?_)
 all_goals (refine AtT.zg ?_)
 all_goals (first | refine AtT.kL 205 ?_ | refine AtT.zB (d := 205) rfl (fun hg205 => ?_) (fun hg205 => ?_) | refine AtT.zA (d := 205) rfl (fun hg205 => ?_) (fun hg205 => ?_))
 all_goals first|refine AtT.zi ?_|refine AtT.ze ?_|(refine AtT.zg ?_)
 all_goals first|refine AtT.zi ?_|refine AtT.ze ?_|(refine AtT.qH ?_)
 all_goals (refine AtT.zW (d := 207) rfl ((fun h => h rfl)) ?_)
 all_goals (refine AtT.zC ?_)
 all_goals (refine AtT.zg ?_)
 all_goals (first | refine AtT.kL 209 ?_ | refine AtT.zB (d := 209) rfl (fun hg209 => ?_) (fun hg209 => ?_) | refine AtT.zA (d := 209) rfl (fun hg209 => ?_) (fun hg209 => ?_))
 all_goals first|refine AtT.zi ?_|refine AtT.ze ?_|(refine AtT.zg ?_)
 all_goals first|refine AtT.zi ?_|refine AtT.ze ?_|(refine AtT.qH ?_)
 all_goals (refine AtT.zW (d := 211) rfl ((fun h => h rfl)) ?_)
 all_goals (refine AtT.zC ?_)
 all_goals (refine AtT.zg ?_)
 all_goals (first | refine AtT.kL 213 ?_ | refine AtT.zB (d := 213) rfl (fun hg213 => ?_) (fun hg213 => ?_) | refine AtT.zA (d := 213) rfl (fun hg213 => ?_) (fun hg213 => ?_))
 all_goals first|refine AtT.zi ?_|refine AtT.ze ?_|(refine AtT.zg ?_)
 all_goals first|refine AtT.zi ?_|refine AtT.ze ?_|(refine AtT.qH ?_)
 all_goals (refine AtT.zW (d := 215) rfl ((fun h => h rfl)) ?_)
 all_goals (refine AtT.zC ?_)
 all_goals (refine AtT.zg ?_)
 all_goals (first | refine AtT.kL 217 ?_ | refine AtT.zB (d := 217) rfl (fun hg217 => ?_) (fun hg217 => ?_) | refine AtT.zA (d := 217) rfl (fun hg217 => ?_) (fun hg217 => ?_))
 all_goals first|refine AtT.zi ?_|refine AtT.ze ?_|(refine AtT.zg ?_)
 all_goals first|refine AtT.zi ?_|refine AtT.ze ?_|(refine AtT.qH ?_)
 all_goals (refine AtT.zW (d := 219) rfl ((fun h => h rfl)) ?_)
 all_goals (refine AtT.zC ?_)
 all_goals (refine AtT.zg ?_)
 all_goals (first | refine AtT.kL 221 ?_ | refine AtT.zB (d := 221) rfl (fun hg221 => ?_) (fun hg221 => ?_) | refine AtT.zA (d := 221) rfl (fun hg221 => ?_) (fun hg221 => ?_))
 all_goals first|refine AtT.zi ?_|refine AtT.ze ?_|(refine AtT.zg ?_)
 all_goals first|refine AtT.zi ?_|refine AtT.ze ?_|(refine AtT.qH ?_)
 all_goals (refine AtT.zW (d := 223) rfl ((fun h => h rfl)) ?_)
 all_goals (refine AtT.zC ?_)
 all_goals (refine AtT.zg ?_)
 all_goals (first | refine AtT.kL 225 ?_ | refine AtT.zB (d := 225) rfl (fun hg225 => ?_) (fun hg225 => ?_) | refine AtT.zA (d := 225) rfl (fun hg225 => ?_) (fun hg225 => ?_))
 all_goals first|refine AtT.zi ?_|refine AtT.ze ?_|(refine AtT.zg ?_)
 all_goals first|refine AtT.zi ?_|refine AtT.ze ?_|(refine AtT.qH ?_)
 all_goals (refine AtT.zW (d := 227) rfl ((fun h => h rfl)) ?_)
 all_goals (refine AtT.zC ?_)
 all_goals (refine AtT.zg ?_)
 all_goals (first | refine AtT.kL 229 ?_ | refine AtT.zB (d := 229) rfl (fun hg229 => ?_) (fun hg229 => ?_) | refine AtT.zA (d := 229) rfl (fun hg229 => ?_) (fun hg229 => ?_))
 all_goals first|refine AtT.zi ?_|refine AtT.ze ?_|(refine AtT.zg ?_)
 all_goals first|refine AtT.zi ?_|refine AtT.ze ?_|(refine AtT.lenT rfl ⟨_, _, rfl, rfl, rfl⟩ Tryz.underlying9 rfl (by decide) ?_)
 all_goals first|refine AtT.zi ?_|refine AtT.ze ?_|(refine AtT.qM ?_)
 all_goals (refine AtT.zW (d := 232) rfl ((by have := c_fl; omega)) ?_)
 all_goals (refine AtT.zC ?_)
 all_goals refine AtT.done ?_
 all_goals (refine At.nrm ?_)
 refine At.qd rfl rfl ?_
 refine At.nrm ?_
 refine At.zh (.q 0 (.n false 1 (.n false 2 (.n false 3 (.q 4 (.q 5 (.q 6 (.n false 7 (.n false 8 (.n false 9 (.q 10 (.q 11 (.q 12 (.q 13 (.n false 14 (.n false 15 (.n false 16 (.q 17 (.q 18 (.q 19 (.q 20 (.n false 21 (.n false 22 (.n false 23 (.q 24 (.q 25 (.q 26 (.q 27 (.n false 28 (.n false 29 (.n false 30 (.q 31 (.q 32 (.q 33 (.q 34 (.n false 35 (.n false 36 (.n false 37 (.q 38 (.q 39 (.q 40 (.q 41 (.n false 42 (.n false 43 (.n false 44 (.q 45 (.q 46 (.q 47 (.q 48 (.q 49 (.q 50 (.q 51 (.q 52 (.q 53 (.q 54 (.q 55 (.q 56 (.q 57 (.q 58 (.q 59 (.q 60 (.q 61 (.q 62 .done))))))))))))))))))))))))))))))))))))))))))))))))))))))))))))))) ?_
 refine AtT.zg ?_
 refine AtT.zO (bs28_2_0_1 _ _) ?_
 intro q235 V235 hV235 hq235
 (try replace hg:=hg.le hV235);(try replace hr:=hr.le hV235);(try replace hb:=hb.le hV235);(try replace h50:=h50.le hV235);(try replace h55:=h55.le hV235);(try replace h65:=h65.le hV235);(try replace h70:=h70.le hV235);(try replace h80:=h80.le hV235);(try replace h85:=h85.le hV235);(try replace h90:=h90.le hV235);(try replace hu96:=hu96.le hV235)
 refine AtT.qa rfl rfl ok52 (longsZ_f [4, 2] (by decide) q235 _ (show Cells _ _ (flat ei [4, 2]) from hq235)) ?_
 rintro v236 V236 hV236 hs236
 (try replace hg:=hg.le hV236);(try replace hr:=hr.le hV236);(try replace hb:=hb.le hV236);(try replace h50:=h50.le hV236);(try replace h55:=h55.le hV236);(try replace h65:=h65.le hV236);(try replace h70:=h70.le hV236);(try replace h80:=h80.le hV236);(try replace h85:=h85.le hV236);(try replace h90:=h90.le hV236);(try replace hu96:=hu96.le hV236)
 refine AtT.zI rfl rfl ok22 (longs_f _ _ _ _ _ h50 hs236) ?_
 rintro _ rfl
 refine AtT.ql (d := 237) rfl (rfl) ?_
 refine AtT.qE ?_
 refine AtT.qJ (d := 238) rfl ((show (!true) = false from rfl)) ?_
 refine AtT.zg ?_
 all_goals (first | refine AtT.kL 239 ?_ | refine AtT.zB (d := 239) rfl (fun hg239 => ?_) (fun hg239 => ?_) | refine AtT.zA (d := 239) rfl (fun hg239 => ?_) (fun hg239 => ?_))
 all_goals first|refine AtT.zi ?_|refine AtT.ze ?_|(refine AtT.zg ?_)
 all_goals first|refine AtT.qc ?_|refine AtT.zU ?_|((refine AtT.zO (bs28_1_0 _) ?_) ; (intro q241 V241 hV241 hq241))
 all_goals ((try replace hg:=hg.le hV241);(try replace hr:=hr.le hV241);(try replace hb:=hb.le hV241);(try replace h50:=h50.le hV241);(try replace h55:=h55.le hV241);(try replace h65:=h65.le hV241);(try replace h70:=h70.le hV241);(try replace h80:=h80.le hV241);(try replace h85:=h85.le hV241);(try replace h90:=h90.le hV241);(try replace hu96:=hu96.le hV241))
 all_goals first|refine AtT.qc ?_|refine AtT.zU ?_|((refine AtT.qa rfl rfl ok52 (longsZ_f [4] (by decide) q241 _ (show Cells _ _ (flat ei [4]) from hq241)) ?_) ; (rintro v242 V242 hV242 hs242))
 all_goals ((try replace hg:=hg.le hV242);(try replace hr:=hr.le hV242);(try replace hb:=hb.le hV242);(try replace h50:=h50.le hV242);(try replace h55:=h55.le hV242);(try replace h65:=h65.le hV242);(try replace h70:=h70.le hV242);(try replace h80:=h80.le hV242);(try replace h85:=h85.le hV242);(try replace h90:=h90.le hV242);(try replace hu96:=hu96.le hV242))
 all_goals first|refine AtT.qc ?_|refine AtT.zU ?_|((refine AtT.zI rfl rfl ok22 (longs_f _ _ _ _ _ h55 hs242) ?_) ; (rintro _ rfl))
 all_goals (refine AtT.ql (d := 243) rfl (rfl) ?_)
 all_goals first|refine AtT.zi ?_|refine AtT.ze ?_|(refine AtT.qE ?_)
 all_goals (refine AtT.qJ (d := 244) rfl ((show (!true) = false from rfl)) ?_)
 all_goals (refine AtT.zC ?_)
 all_goals (refine AtT.zg ?_)
 all_goals (first | refine AtT.kL 246 ?_ | refine AtT.zB (d := 246) rfl (fun hg246 => ?_) (fun hg246 => ?_) | refine AtT.zA (d := 246) rfl (fun hg246 => ?_) (fun hg246 => ?_))
 all_goals first|refine AtT.zi ?_|refine AtT.ze ?_|(refine AtT.zg ?_)
 all_goals first|refine AtT.qc ?_|refine AtT.zU ?_|((refine AtT.zO (bs37_5_0_1_2_3_4 _ _ _ _ _) ?_) ; (intro q248 V248 hV248 hq248))
 all_goals ((try replace hg:=hg.le hV248);(try replace hr:=hr.le hV248);(try replace hb:=hb.le hV248);(try replace h50:=h50.le hV248);(try replace h55:=h55.le hV248);(try replace h65:=h65.le hV248);(try replace h70:=h70.le hV248);(try replace h80:=h80.le hV248);(try replace h85:=h85.le hV248);(try replace h90:=h90.le hV248);(try replace hu96:=hu96.le hV248))
 all_goals (have s248 : SlI V248 _ [0, 1, 2, 4, 5] := Sl.lit hq248 rfl (by decide))
 all_goals first|refine AtT.qc ?_|refine AtT.zU ?_|((refine AtT.zI rfl rfl ok54 (of_f _ _) ?_) ; (rintro _ rfl))
 all_goals first|refine AtT.qc ?_|refine AtT.zU ?_|((refine AtT.zI rfl rfl ok29 (ints_f _ _ _ _ _ h65 s248) ?_) ; (rintro _ rfl))
 all_goals (refine AtT.ql (d := 250) rfl (rfl) ?_)
 all_goals first|refine AtT.zi ?_|refine AtT.ze ?_|(refine AtT.qE ?_)
 all_goals (refine AtT.qJ (d := 251) rfl ((show (!true) = false from rfl)) ?_)
 all_goals (refine AtT.zC ?_)
 all_goals (refine AtT.zg ?_)
 all_goals (first | refine AtT.kL 253 ?_ | refine AtT.zB (d := 253) rfl (fun hg253 => ?_) (fun hg253 => ?_) | refine AtT.zA (d := 253) rfl (fun hg253 => ?_) (fun hg253 => ?_))
 all_goals first|refine AtT.zi ?_|refine AtT.ze ?_|(refine AtT.zg ?_)
 all_goals first|refine AtT.qc ?_|refine AtT.zU ?_|((refine AtT.zO (bs37_4_0_1_2_3 _ _ _ _) ?_) ; (intro q255 V255 hV255 hq255))
 all_goals ((try replace hg:=hg.le hV255);(try replace hr:=hr.le hV255);(try replace hb:=hb.le hV255);(try replace h50:=h50.le hV255);(try replace h55:=h55.le hV255);(try replace h65:=h65.le hV255);(try replace h70:=h70.le hV255);(try replace h80:=h80.le hV255);(try replace h85:=h85.le hV255);(try replace h90:=h90.le hV255);(try replace hu96:=hu96.le hV255))
 all_goals (have s255 : SlI V255 _ [0, 1, 2, 3] := Sl.lit hq255 rfl (by decide))
 all_goals first|refine AtT.qc ?_|refine AtT.zU ?_|((refine AtT.zI rfl rfl ok54 (of_f _ _) ?_) ; (rintro _ rfl))
 all_goals first|refine AtT.qc ?_|refine AtT.zU ?_|((refine AtT.zI rfl rfl ok29 (ints_f _ _ _ _ _ h70 s255) ?_) ; (rintro _ rfl))
 all_goals (refine AtT.ql (d := 257) rfl (rfl) ?_)
 all_goals first|refine AtT.zi ?_|refine AtT.ze ?_|(refine AtT.qE ?_)
 all_goals (refine AtT.qJ (d := 258) rfl ((show (!true) = false from rfl)) ?_)
 all_goals (refine AtT.zC ?_)
 all_goals (refine AtT.zg ?_)
 all_goals (first | refine AtT.kL 260 ?_ | refine AtT.zB (d := 260) rfl (fun hg260 => ?_) (fun hg260 => ?_) | refine AtT.zA (d := 260) rfl (fun hg260 => ?_) (fun hg260 => ?_))
 all_goals first|refine AtT.zi ?_|refine AtT.ze ?_|(refine AtT.zg ?_)
 all_goals first|refine AtT.qc ?_|refine AtT.zU ?_|((refine AtT.zO (bs28_4_0_1_2_3 _ _ _ _) ?_) ; (intro q262 V262 hV262 hq262))
 all_goals ((try replace hg:=hg.le hV262);(try replace hr:=hr.le hV262);(try replace hb:=hb.le hV262);(try replace h50:=h50.le hV262);(try replace h55:=h55.le hV262);(try replace h65:=h65.le hV262);(try replace h70:=h70.le hV262);(try replace h80:=h80.le hV262);(try replace h85:=h85.le hV262);(try replace h90:=h90.le hV262);(try replace hu96:=hu96.le hV262))
 all_goals first|refine AtT.qc ?_|refine AtT.zU ?_|((refine AtT.qa rfl rfl ok52 (longsZ_f [3, 2, 1, 1] (by decide) q262 _ (show Cells _ _ (flat ei [3, 2, 1, 1]) from hq262)) ?_) ; (rintro v263 V263 hV263 hs263))
 all_goals ((try replace hg:=hg.le hV263);(try replace hr:=hr.le hV263);(try replace hb:=hb.le hV263);(try replace h50:=h50.le hV263);(try replace h55:=h55.le hV263);(try replace h65:=h65.le hV263);(try replace h70:=h70.le hV263);(try replace h80:=h80.le hV263);(try replace h85:=h85.le hV263);(try replace h90:=h90.le hV263);(try replace hu96:=hu96.le hV263))
 all_goals first|refine AtT.qc ?_|refine AtT.zU ?_|((refine AtT.zI rfl rfl ok22 (longs_f _ _ _ _ _ h80 hs263) ?_) ; (rintro _ rfl))
 all_goals (refine AtT.ql (d := 264) rfl (rfl) ?_)
 all_goals first|refine AtT.zi ?_|refine AtT.ze ?_|(refine AtT.qE ?_)
 all_goals (refine AtT.qJ (d := 265) rfl ((show (!true) = false from rfl)) ?_)
 all_goals (refine AtT.zC ?_)
 all_goals (refine AtT.zg ?_)
 all_goals (first | refine AtT.kL 267 ?_ | refine AtT.zB (d := 267) rfl (fun hg267 => ?_) (fun hg267 => ?_) | refine AtT.zA (d := 267) rfl (fun hg267 => ?_) (fun hg267 => ?_))
 all_goals first|refine AtT.zi ?_|refine AtT.ze ?_|(refine AtT.zg ?_)
 all_goals first|refine AtT.qc ?_|refine AtT.zU ?_|((refine AtT.zO (bs28_3_0_1_2 _ _ _) ?_) ; (intro q269 V269 hV269 hq269))
 all_goals ((try replace hg:=hg.le hV269);(try replace hr:=hr.le hV269);(try replace hb:=hb.le hV269);(try replace h50:=h50.le hV269);(try replace h55:=h55.le hV269);(try replace h65:=h65.le hV269);(try replace h70:=h70.le hV269);(try replace h80:=h80.le hV269);(try replace h85:=h85.le hV269);(try replace h90:=h90.le hV269);(try replace hu96:=hu96.le hV269))
 all_goals first|refine AtT.qc ?_|refine AtT.zU ?_|((refine AtT.qa rfl rfl ok52 (longsZ_f [3, 2, 2] (by decide) q269 _ (show Cells _ _ (flat ei [3, 2, 2]) from hq269)) ?_) ; (rintro v270 V270 hV270 hs270))
 all_goals ((try replace hg:=hg.le hV270);(try replace hr:=hr.le hV270);(try replace hb:=hb.le hV270);(try replace h50:=h50.le hV270);(try replace h55:=h55.le hV270);(try replace h65:=h65.le hV270);(try replace h70:=h70.le hV270);(try replace h80:=h80.le hV270);(try replace h85:=h85.le hV270);(try replace h90:=h90.le hV270);(try replace hu96:=hu96.le hV270))
 all_goals first|refine AtT.qc ?_|refine AtT.zU ?_|((refine AtT.zI rfl rfl ok22 (longs_f _ _ _ _ _ h85 hs270) ?_) ; (rintro _ rfl))
 all_goals (refine AtT.ql (d := 271) rfl (rfl) ?_)
 all_goals first|refine AtT.zi ?_|refine AtT.ze ?_|(refine AtT.qE ?_)
 all_goals (refine AtT.qJ (d := 272) rfl ((show (!true) = false from rfl)) ?_)
 all_goals (refine AtT.zC ?_)
 all_goals (refine AtT.zg ?_)
 all_goals (first | refine AtT.kL 274 ?_ | refine AtT.zB (d := 274) rfl (fun hg274 => ?_) (fun hg274 => ?_) | refine AtT.zA (d := 274) rfl (fun hg274 => ?_) (fun hg274 => ?_))
 all_goals first|refine AtT.zi ?_|refine AtT.ze ?_|(refine AtT.zg ?_)
 all_goals first|refine AtT.qc ?_|refine AtT.zU ?_|((refine AtT.zO (bs28_3_0_1_2 _ _ _) ?_) ; (intro q276 V276 hV276 hq276))
 all_goals ((try replace hg:=hg.le hV276);(try replace hr:=hr.le hV276);(try replace hb:=hb.le hV276);(try replace h50:=h50.le hV276);(try replace h55:=h55.le hV276);(try replace h65:=h65.le hV276);(try replace h70:=h70.le hV276);(try replace h80:=h80.le hV276);(try replace h85:=h85.le hV276);(try replace h90:=h90.le hV276);(try replace hu96:=hu96.le hV276))
 all_goals first|refine AtT.qc ?_|refine AtT.zU ?_|((refine AtT.qa rfl rfl ok52 (longsZ_f [3, 2, 3] (by decide) q276 _ (show Cells _ _ (flat ei [3, 2, 3]) from hq276)) ?_) ; (rintro v277 V277 hV277 hs277))
 all_goals ((try replace hg:=hg.le hV277);(try replace hr:=hr.le hV277);(try replace hb:=hb.le hV277);(try replace h50:=h50.le hV277);(try replace h55:=h55.le hV277);(try replace h65:=h65.le hV277);(try replace h70:=h70.le hV277);(try replace h80:=h80.le hV277);(try replace h85:=h85.le hV277);(try replace h90:=h90.le hV277);(try replace hu96:=hu96.le hV277))
 all_goals first|refine AtT.qc ?_|refine AtT.zU ?_|((refine AtT.zI rfl rfl ok22 (longs_f _ _ _ _ _ h90 hs277) ?_) ; (rintro _ rfl))
 all_goals (refine AtT.ql (d := 278) rfl (rfl) ?_)
 all_goals first|refine AtT.zi ?_|refine AtT.ze ?_|(refine AtT.qE ?_)
 all_goals (refine AtT.qJ (d := 279) rfl ((show (!true) = false from rfl)) ?_)
 all_goals (refine AtT.zC ?_)
 all_goals (refine AtT.zg ?_)
 all_goals (first | refine AtT.kL 281 ?_ | refine AtT.zB (d := 281) rfl (fun hg281 => ?_) (fun hg281 => ?_) | refine AtT.zA (d := 281) rfl (fun hg281 => ?_) (fun hg281 => ?_))
 all_goals first|refine AtT.zi ?_|refine AtT.ze ?_|(refine AtT.zg ?_)
 all_goals first|refine AtT.zi ?_|refine AtT.ze ?_|(refine AtT.qH ?_)
 all_goals (refine AtT.zW (d := 283) rfl ((fun h => h rfl)) ?_)
 all_goals (refine AtT.zC ?_)
 all_goals (refine AtT.zg ?_)
 all_goals (first | refine AtT.kL 285 ?_ | refine AtT.zB (d := 285) rfl (fun hg285 => ?_) (fun hg285 => ?_) | refine AtT.zA (d := 285) rfl (fun hg285 => ?_) (fun hg285 => ?_))
 all_goals first|refine AtT.zi ?_|refine AtT.ze ?_|(refine AtT.zg ?_)
 all_goals first|refine AtT.zi ?_|refine AtT.ze ?_|(refine AtT.qH ?_)
 all_goals (refine AtT.zW (d := 287) rfl ((fun h => h rfl)) ?_)
 all_goals (refine AtT.zC ?_)
 all_goals (refine AtT.zg ?_)
 all_goals (first | refine AtT.kL 289 ?_ | refine AtT.zB (d := 289) rfl (fun hg289 => ?_) (fun hg289 => ?_) | refine AtT.zA (d := 289) rfl (fun hg289 => ?_) (fun hg289 => ?_))
 all_goals first|refine AtT.zi ?_|refine AtT.ze ?_|(refine AtT.zg ?_)
 all_goals first|refine AtT.zi ?_|refine AtT.ze ?_|(refine AtT.neT rfl ⟨_, _, rfl, rfl, rfl⟩ rfl rfl (by decide) ?_)
 all_goals (refine AtT.zW (d := 291) rfl ((fun h => h rfl)) ?_)
 all_goals (refine AtT.zC ?_)
 all_goals (refine AtT.zg ?_)
 all_goals (first | refine AtT.kL 293 ?_ | refine AtT.zB (d := 293) rfl (fun hg293 => ?_) (fun hg293 => ?_) | refine AtT.zA (d := 293) rfl (fun hg293 => ?_) (fun hg293 => ?_))
 all_goals first|refine AtT.zi ?_|refine AtT.ze ?_|(refine AtT.zg ?_)
 all_goals first|refine AtT.zi ?_|refine AtT.ze ?_|(refine AtT.neT rfl ⟨_, _, rfl, rfl, rfl⟩ rfl rfl (by decide) ?_)
 all_goals (refine AtT.zW (d := 295) rfl ((fun h => h rfl)) ?_)
 all_goals (refine AtT.zC ?_)
 all_goals refine AtT.done ?_
 all_goals (refine At.nrm ?_)
 refine At.qd rfl rfl ?_
 refine At.nrm ?_
 refine At.zh (.q 0 (.n false 1 (.q 2 (.q 3 (.q 4 (.n false 5 (.n true 6 (.q 7 .done)))))))) ?_
 refine AtT.zg ?_
 refine AtT.qa rfl rfl ok39 (load_f (fileT bo6) (by have := c_fl; omega) _ hg) ?_
 rintro _ V299 hV299 ⟨u299, rfl, hu299⟩; rw [c_load] at hu299; rw [c_load]; obtain ⟨w299, a299, c299, rfl, ⟨q299, z299, y299, e299, rfl, i299, j299⟩, hs299⟩ := id hu299; clear e299 i299 j299 hs299
 refine AtT.zg ?_
 refine AtT.zt ?_
 refine AtT.zt ?_
 refine AtT.zT z26 ?_
 intro b43
 refine AtT.zD zQ ?_
 refine AtT.zf ?_
 refine AtT.done ?_
 refine At.nrm ?_
 replace hg := hg.le hV299
 replace hr := hr.le hV299
 replace hb := hb.le hV299
 replace h50 := h50.le hV299
 replace h55 := h55.le hV299
 replace h65 := h65.le hV299
 replace h70 := h70.le hV299
 replace h80 := h80.le hV299
 replace h85 := h85.le hV299
 replace h90 := h90.le hV299
 replace hu96 := hu96.le hV299
 clear hV299
 refine At.zh (.q 0 (.q 1 (.q 2 (.q 3 (.q 4 (.n false 5 (.q 6 (.q 7 (.q 8 (.q 9 (.n false 10 (.q 11 (.q 12 .done))))))))))))) ?_
 refine AtT.zg ?_
 refine AtT.qH ?_
 refine AtT.zW (d := 303) rfl ((fun h => h rfl)) ?_
 refine AtT.zg ?_
 all_goals (first | refine AtT.kL 304 ?_ | refine AtT.zB (d := 304) rfl (fun hg304 => ?_) (fun hg304 => ?_) | refine AtT.zA (d := 304) rfl (fun hg304 => ?_) (fun hg304 => ?_))
 all_goals first|refine AtT.zi ?_|refine AtT.ze ?_|(first | refine AtT.zG zQ ?_ | refine AtT.zK zQ ?_ | refine AtT.zF zQ ?_)
 all_goals first|refine AtT.zi ?_|refine AtT.ze ?_|(first | refine AtT.zG zQ ?_ | refine AtT.zK zQ ?_ | refine AtT.zF zQ ?_)
 all_goals first|refine AtT.qc ?_|refine AtT.zU ?_|((refine AtT.zI rfl rfl ok30 (same_f bo6 bo6 _ _ _ hu299 hb) ?_) ; (rintro _ rfl))
 all_goals (refine AtT.ql (d := 307) rfl (rfl) ?_)
 all_goals first|refine AtT.zi ?_|refine AtT.ze ?_|(refine AtT.qE ?_)
 all_goals (refine AtT.qJ (d := 308) rfl ((show (!true) = false from rfl)) ?_)
 all_goals (refine AtT.zC ?_)
 all_goals (refine AtT.zg ?_)
 all_goals (first | refine AtT.kL 310 ?_ | refine AtT.zB (d := 310) rfl (fun hg310 => ?_) (fun hg310 => ?_) | refine AtT.zA (d := 310) rfl (fun hg310 => ?_) (fun hg310 => ?_))
 all_goals first|refine AtT.zi ?_|refine AtT.ze ?_|(first | refine AtT.zG zQ ?_ | refine AtT.zK zQ ?_ | refine AtT.zF zQ ?_)
 all_goals first|refine AtT.qc ?_|refine AtT.zU ?_|((refine AtT.zI rfl rfl ok28 (rcheckBook_f box _ _ hu96) ?_) ; (rintro _ rfl; rw [c_x]))
 all_goals first|refine AtT.zi ?_|refine AtT.ze ?_|(refine AtT.qH ?_)
 all_goals (refine AtT.zW (d := 313) rfl ((fun h => h rfl)) ?_)
 all_goals (refine AtT.zC ?_)
 all_goals refine AtT.done ?_
 all_goals (refine At.nrm ?_)
 refine At.qd rfl rfl ?_
 refine At.nrm ?_
 refine At.zh (.q 0 (.n false 1 (.q 2 (.q 3 (.q 4 (.q 5 (.q 6 .done))))))) ?_
 first | refine AtT.zG zQ ?_ | refine AtT.zK zQ ?_ | refine AtT.zF zQ ?_
 refine AtT.qa rfl rfl ok31 (pstock_f box 7 9 _ _ hu96) ?_
 rintro _ V317 hV317 ⟨u317, rfl, h317⟩; rw [c_x1E]
 refine AtT.zg ?_
 refine AtT.zt ?_
 refine AtT.zt ?_
 refine AtT.zf ?_
 refine AtT.zf ?_
 refine AtT.done ?_
 refine At.nrm ?_
 replace hg := hg.le hV317
 replace hr := hr.le hV317
 replace hb := hb.le hV317
 replace h50 := h50.le hV317
 replace h55 := h55.le hV317
 replace h65 := h65.le hV317
 replace h70 := h70.le hV317
 replace h80 := h80.le hV317
 replace h85 := h85.le hV317
 replace h90 := h90.le hV317
 replace hu96 := hu96.le hV317
 replace hu299 := hu299.le hV317
 clear hV317
 rw [c_x1] at h317
 refine At.zh (.q 0 (.q 1 (.q 2 (.q 3 (.n false 4 (.n false 5 (.n false 6 (.q 7 (.q 8 .done))))))))) ?_
 refine AtT.zg ?_
 refine AtT.qL ?_
 refine AtT.ql (d := 321) rfl (rfl) ?_
 refine AtT.zg ?_
 all_goals (first | refine AtT.kL 322 ?_ | refine AtT.zB (d := 322) rfl (fun hg322 => ?_) (fun hg322 => ?_) | refine AtT.zA (d := 322) rfl (fun hg322 => ?_) (fun hg322 => ?_))
 all_goals first|refine AtT.zi ?_|refine AtT.ze ?_|(refine AtT.zg ?_)
 all_goals first|refine AtT.qc ?_|refine AtT.zU ?_|((refine AtT.zO (bs28_4_0_1_2_3 _ _ _ _) ?_) ; (intro q324 V324 hV324 hq324))
 all_goals ((try replace hg:=hg.le hV324);(try replace h317:=h317.le hV324))
 all_goals first|refine AtT.qc ?_|refine AtT.zU ?_|((refine AtT.qa rfl rfl ok52 (longsZ_f [3, 2, 0, 1] (by decide) q324 _ (show Cells _ _ (flat ei [3, 2, 0, 1]) from hq324)) ?_) ; (rintro v325 V325 hV325 hs325))
 all_goals ((try replace hg:=hg.le hV325);(try replace h317:=h317.le hV325))
 all_goals first|refine AtT.qc ?_|refine AtT.zU ?_|((refine AtT.zI rfl rfl ok22 (longs_f _ _ _ _ _ h317 hs325) ?_) ; (rintro _ rfl))
 all_goals (refine AtT.ql (d := 326) rfl (rfl) ?_)
 all_goals (refine AtT.zC ?_)
 all_goals (refine AtT.zf ?_)
 all_goals refine AtT.done ?_
 all_goals (refine At.nrm ?_)
 all_goals (exact At.qi rfl (.tmp rfl) rfl)
end Go.Proofs.YtpoignmclfdgpaaGreatDoor
