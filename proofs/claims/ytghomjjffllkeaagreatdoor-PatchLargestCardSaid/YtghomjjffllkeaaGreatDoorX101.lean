/- No given patch that can lie has more cells than the largest one, which can lie; one is enough just if the least rectangle of all knots can lie, and none just if there is no knot: for all valid sheets, and any patch. No condition. -/
import Derived.Test.YtghomjjffllkeaaGreatDoorB5
set_option linter.unusedVariables false
set_option linter.unusedSimpArgs false
set_option linter.unusedSectionVars false


set_option linter.unusedVariables false
namespace Go.Pm
open Go.Gl Go.Lw
def ShC (g : Gd) (a b : Cl) : Prop := ∃ p, Lies g p ∧ inP p a ∧ inP p b
def AlC (g : Gd) (K l : List Cl) : Prop := l.Pairwise (fun a b => ¬ ShC g a b) ∧ l.Nodup ∧ ∀ x ∈ l, x ∈ K
structure AlM (g : Gd) (K : List Cl) (m : Nat) : Prop where
 ex : ∃ l, AlC g K l ∧ l.length = m
 le : ∀ l, AlC g K l → l.length ≤ m
inductive RcC (g : Gd) (K : List Cl) (a : Cl) : Cl → Prop
 | refl : RcC g K a a
 | step {b c : Cl} : RcC g K a b → c ∈ K → ShC g b c → RcC g K a c
structure Rps (g : Gd) (K l : List Cl) : Prop where
 sub : ∀ x ∈ l, x ∈ K
 apart : l.Pairwise fun a b => ¬ RcC g K a b
 all : ∀ k ∈ K, ∃ x ∈ l, RcC g K x k
end Go.Pm
set_option linter.unusedVariables false
namespace Go.Pm
open Go.Gl Go.Lw
def rwS (s : Sh) (i : Nat) : ByteArray := s.rows.getD i ByteArray.empty
structure Dt (s x : Sh) (D : Cl → Prop) : Prop where
 most : x.most = s.most
 n : x.rows.length = s.rows.length
 sz : ∀ i, i < s.rows.length → (rwS x i).size = (rwS s i).size
 dot : ∀ (i k : Nat), i < s.rows.length → k < (rwS s i).size → D ⟨i, k⟩ → chS x i k = 46
 ch : ∀ (i k : Nat), i < s.rows.length → ¬ D ⟨i, k⟩ → chS x i k = chS s i k
structure Frm (s x : Sh) : Prop where
 n : x.rows.length = s.rows.length
 sz : ∀ i, i < s.rows.length → (rwS x i).size = (rwS s i).size
end Go.Pm
set_option linter.unusedVariables false
namespace Go.Pm
open Go.Gl Go.Lw
structure TnG (g g' : Gd) : Prop where
 R : g'.R = g.C
 C : g'.C = g.R
 most : g'.most = g.most
 fig : ∀ r c, 0 ≤ r → r < g.R → 0 ≤ c → c < g.C → g'.fig c (g.R - 1 - r) = g.fig r c
structure Emb (g g' : Gd) (K : List Cl) (f : Cl → Cl) (F B : Pc → Pc) : Prop where
 to : ∀ p, Lies g p → Lies g' (F p)
 bk : ∀ q k, Lies g' q → k ∈ K → inP q (f k) → Lies g (B q)
 fb : ∀ q, F (B q) = q
 inj : ∀ a b, f a = f b → a = b
 mem : ∀ p k, inP (F p) (f k) ↔ inP p k
 ar : ∀ p, arP (F p) = arP p
theorem pcN_all {g : Gd} (hg : GOk g) {p : Pc} (h : Lies g p) : ∃ k, k < 1296 ∧ p = pcN k := by
 have := h.h; have := h.w; have := h.t; have := h.l; have := hg.R; have := hg.C
 refine ⟨((p.t.toNat * 6 + p.l.toNat) * 6 + (p.h - 1).toNat) * 6 + (p.w - 1).toNat, by omega, ?_⟩
 rw [pcN_at (by omega) (by omega) (by omega) (by omega)]
 cases p; simp only [Pc.mk.injEq] at *; omega
theorem la_none {s : Sh} (h : ShOk s) (he : (laR s).2 ≠ 0) : (laR s) = (pc0, 5) ∧ ∀ p, ¬ Lies (gdS s) p := by
 unfold laR at *
 rw [if_neg (by rw [chE_of h]; simp)] at *
 split at he
 ·rename_i c
  rw [if_pos c]
  refine ⟨rfl, fun p hp => ?_⟩
  have := (lyN_mem (n := 1296)).2 ⟨hp, pcN_all (sh_gok h) hp⟩
  rw [c] at this; cases this
 ·exact absurd rfl he
theorem laO_ge {g : Gd} {n : Nat} : ∀ p ∈ lyN g n, arP p ≤ arP (laO g n) := by
 induction n with
 | zero => intro p hp; cases hp
 | succ n ih =>
  intro p hp
  rw [lyN_snoc] at hp
  rw [laO_snoc]
  split at hp
  ·rename_i h0
   by_cases c : arP (laO g n) < arP (pcN n)
   ·rw [if_pos ⟨h0, c⟩]
    rcases List.mem_append.1 hp with h | h
    ·have := ih p h; omega
    ·rw [List.mem_singleton] at h; subst h; exact Int.le_refl _
   ·rw [if_neg (fun h => c h.2)]
    rcases List.mem_append.1 hp with h | h
    ·exact ih p h
    ·rw [List.mem_singleton] at h; subst h; omega
  ·rename_i h0
   rw [if_neg (fun h => h0 h.1)]
   exact ih p hp
theorem la_some {s : Sh} (h : ShOk s) (he : (laR s).2 = 0) : Lies (gdS s) (laR s).1 ∧ ∀ p, Lies (gdS s) p → arP p ≤ arP (laR s).1 := by
 unfold laR at *
 rw [if_neg (by rw [chE_of h]; simp)] at *
 split at he
 ·cases he
 ·rename_i c
  rw [if_neg c]
  refine ⟨?_, fun p hp => ?_⟩
  ·dsimp only
   rcases laO_in (gdS s) 1296 with e | e
   ·have : (laO (gdS s) 1296).h = 0 := by rw [e]; rfl
    exact absurd (laO_h.1 this) c
   ·exact (lyN_mem.1 e).1
  ·dsimp only
   exact laO_ge p ((lyN_mem (n := 1296)).2 ⟨hp, pcN_all (sh_gok h) hp⟩)
end Go.Pm


set_option linter.unusedVariables false
namespace Go.Proofs.YtghomjjffllkeaaGreatDoor
open Go.Lw Go.Gl Go.Pm Go.RowKit Go.Shelf
theorem ckR_pe {s : Sh} (h : chE s = 0) (p : Pc) : ckR s p = peE (gdS s) p := by unfold ckR; rw [if_neg (by rw [h]; simp)]
theorem fine_no {s : Sh} (h : ¬ (!grB s && decide (chE s = 0)) = true) : (!grB s && decide (chE s = 0)) = false := by simpa using h
theorem fine_ok {s : Sh} (h : (!grB s && decide (chE s = 0)) = true) : grB s = false ∧ chE s = 0 := by simpa using h
end Go.Proofs.YtghomjjffllkeaaGreatDoor

set_option linter.unusedVariables false
namespace Go.Pm
open Go.Gl Go.Lw
theorem best_zero {g : Gd} {K : List Cl} {n : Nat} {c : Int} (h : jy g K n c) : n = 0 ↔ K.length = 0 := by
 constructor
 ·rintro rfl
  obtain ⟨ps, p1, p2, p3⟩ := h.ex
  cases K with
  | nil => rfl
  | cons k K =>
   obtain ⟨p, hp, _⟩ := p1.has k List.mem_cons_self
   rw [List.eq_nil_of_length_eq_zero p2] at hp; cases hp
 ·intro e
  rw [List.eq_nil_of_length_eq_zero e] at h
  exact (best_uniq h best_nil).1
theorem sel_full {K : List Cl} (x : Cl) : x ∈ sel K (2 ^ K.length - 1) ↔ x ∈ K := by
 rw [ja]
 constructor
 ·rintro ⟨i, hi, _⟩; exact List.mem_of_getElem? hi
 ·intro hx
  obtain ⟨i, hi⟩ := List.getElem?_of_mem hx
  exact ⟨i, hi, by rw [Nat.testBit_two_pow_sub_one]; exact decide_eq_true (List.getElem?_eq_some_iff.1 hi).1⟩
theorem best_is1 {g : Gd} (hg : GOk g) {K : List Cl} (hon : ∀ k ∈ K, OnG g k) (hne : K.length ≠ 0) {n : Nat} {c : Int} (h : jy g K n c) : n = 1 ↔ peE g (bbx (sel K (2 ^ K.length - 1))) = 0 := by
 have hs : sel K (2 ^ K.length - 1) ≠ [] := fun e => by
  cases K with
  | nil => exact hne rfl
  | cons k K =>
   have := (sel_full k).2 (List.mem_cons_self (l := K) (a := k))
   rw [e] at this; cases this
 rw [peE_iff]
 constructor
 ·rintro rfl
  obtain ⟨ps, p1, p2, p3⟩ := h.ex
  match ps, p2 with
  | [p], _ =>
   refine lies_le (bbx_le hs (fun k hk => on_bd hg (hon k (sel_in hk))) fun k hk => ?_) (bbx_pos hs).1 (bbx_pos hs).2 (p1.lies p List.mem_cons_self)
   obtain ⟨q, hq, hi⟩ := p1.has k (sel_in hk)
   rw [List.mem_singleton] at hq; subst hq; exact hi
 ·intro hl
  have a := h.le [bbx (sel K (2 ^ K.length - 1))] ⟨fun p hp => (by rw [List.mem_singleton] at hp; subst hp; exact hl), fun k hk => ⟨_, List.mem_cons_self, bbx_in ((sel_full k).2 hk)⟩⟩
  have b : n ≠ 0 := fun e => hne ((best_zero h).1 e)
  rw [List.length_singleton] at a; omega
end Go.Pm
set_option linter.unusedVariables false
namespace Go.Proofs.YtghomjjffllkeaaGreatDoor
open Go.Lw Go.Gl Go.Pm Go.RowKit Go.Shelf
theorem patchLargest_f (s : Sh) (p : Pc) (V : View) (v : Value) (hv : ShV V v s) : Fnc Tryz.prog 12 [v, pcv p] V fun r _ => r = .bool true := by
 obtain ⟨a, c, rfl, hs⟩ := id hv
 refine qf Tryz.func12 rfl Tryz.ntmps12 (Nat.le_of_ble_eq_true rfl) ?_
 intro w0 hw0
 refine At.nrm ?_
 refine At.zl (.n false 0 (.n false 1 (.q 2 .done))) ?_
 refine AtT.jb ?_
 intro b2
 refine AtT.jb ?_
 intro b3
 refine AtT.zf ?_
 refine AtT.done ?_
 refine At.nrm ?_
 by_cases gf : (!grB s && decide (chE s = 0)) = true
 rotate_left
 ·refine At.zl (.q 0 (.n false 1 (.q 2 .done))) ?_
  first | refine AtT.zD zM ?_ | refine AtT.zJ zM ?_ | refine AtT.zC zM ?_
  refine AtT.zq rfl rfl ok43 (fine_f s _ _ hv) ?_
  rintro _ rfl
  refine AtT.setB (d := 14) rfl ((fine_no gf)) ?_
  refine AtT.qZ ?_
  refine AtT.setB (d := 15) rfl ((show (!false) = true from rfl)) ?_
  refine AtT.done ?_
  refine At.nrm ?_
  refine At.qB rfl rfl ?_
  refine At.nrm ?_
  refine At.zl (.n false 0 (.q 1 .done)) ?_
  refine AtT.zq rfl rfl ok16 (works_f _) ?_
  rintro _ rfl
  refine AtT.zf ?_
  refine AtT.done ?_
  refine At.nrm ?_
  exact At.qb rfl (.tmp rfl) rfl
 obtain ⟨gg, h0⟩ := fine_ok gf
 have hok := jo h0
 have hkn := hok.kn
 have hg := sh_gok hok
 have hon := kn_on hok
 have hkb : ∀ k ∈ knL s, 0 ≤ k.r ∧ k.r ≤ 99 ∧ 0 ≤ k.c ∧ k.c ≤ 99 := fun k hk => by
  have h1 := hon k hk
  have h2 := on_bd hg h1
  unfold OnG at h1
  omega
 have hp2 : 2 ^ (knL s).length ≤ 2 ^ 10 := Nat.pow_le_pow_right (by decide) hkn
 have hp0 := Nat.two_pow_pos (knL s).length
 refine At.zl (.q 0 (.n false 1 (.q 2 .done))) ?_
 first | refine AtT.zD zM ?_ | refine AtT.zJ zM ?_ | refine AtT.zC zM ?_
 refine AtT.zq rfl rfl ok43 (fine_f s _ _ hv) ?_
 rintro _ rfl
 refine AtT.setB (d := 14) rfl (gf) ?_
 refine AtT.qZ ?_
 refine AtT.setB (d := 15) rfl ((show (!true) = false from rfl)) ?_
 refine AtT.done ?_
 refine At.nrm ?_
 refine At.qW rfl rfl ?_
 refine At.nrm ?_
 refine At.zl (.q 0 (.n false 1 (.q 2 .done))) ?_
 first | refine AtT.zD zM ?_ | refine AtT.zJ zM ?_ | refine AtT.zC zM ?_
 refine AtT.qg rfl rfl ok44 (knotsOf_f s (by have := hok.n; omega) (fun r hr => by rw [hok.sz r hr]; have := hok.w; omega) _ _ hv) ?_
 rintro _ V18 hV18 hk18; obtain ⟨a18, c18, rfl, k1, k2, _⟩ := id hk18; clear k1 k2
 refine AtT.zf ?_
 refine AtT.done ?_
 refine At.nrm ?_
 replace hv := hv.le hV18
 clear hV18
 refine At.zl (.q 0 (.n false 1 (.q 2 (.q 3 (.q 4 (.q 5 (.q 6 (.q 7 (.q 8 (.q 9 (.q 10 .done))))))))))) ?_
 first | refine AtT.zD zM ?_ | refine AtT.zJ zM ?_ | refine AtT.zC zM ?_
 refine AtT.qg rfl rfl ok45 (few_f s h0 _ _ hv) ?_
 rintro _ V21 hV21 ⟨a21, c21, ps, rfl, hs21, hm⟩
 refine AtT.zh ?_
 refine AtT.zL ?_
 refine AtT.zL ?_
 refine AtT.zL ?_
 refine AtT.zL ?_
 refine AtT.zf ?_
 refine AtT.zf ?_
 refine AtT.zf ?_
 refine AtT.zf ?_
 refine AtT.done ?_
 refine At.nrm ?_
 replace hv := hv.le hV21
 replace hk18 := hk18.le hV21
 clear hV21
 refine At.zl (.q 0 (.n false 1 (.q 2 (.q 3 (.q 4 (.n false 5 (.n true 6 (.q 7 .done)))))))) ?_
 first | refine AtT.zD zM ?_ | refine AtT.zJ zM ?_ | refine AtT.zC zM ?_
 refine AtT.zq rfl rfl ok36 (largest_f s _ _ hv) ?_
 rintro _ rfl
 refine AtT.zh ?_
 refine AtT.zL ?_
 refine AtT.zL ?_
 refine AtT.qx z26 ?_
 intro b10
 refine AtT.zW zS ?_
 refine AtT.zf ?_
 refine AtT.done ?_
 refine At.nrm ?_
 generalize hL : laR s = L at *
 obtain ⟨x, e⟩ := L
 dsimp only
 refine At.zl (.q 0 (.q 1 (.n false 2 (.q 3 .done)))) ?_
 first | refine AtT.zD zM ?_ | refine AtT.zJ zM ?_ | refine AtT.zC zM ?_
 first | refine AtT.zD zS ?_ | refine AtT.zJ zS ?_ | refine AtT.zC zS ?_
 refine AtT.zq rfl rfl ok21 (qo s p _ _ hv) ?_
 rintro _ rfl; rw [ckR_pe h0]
 refine AtT.zf ?_
 refine AtT.done ?_
 refine At.nrm ?_
 have hz := best_zero hm.best
 by_cases hK : (knL s).length = 0
 ·have hps := hz.2 hK
  refine At.zl (.q 0 (.q 1 (.q 2 (.q 3 (.q 4 (.q 5 (.n false 6 (.q 7 (.q 8 (.q 9 (.q 10 (.q 11 (.q 12 (.q 13 (.q 14 (.q 15 (.q 16 .done))))))))))))))))) ?_
  refine AtT.zh ?_
  refine AtT.setB (d := 34) rfl (rfl) ?_
  refine AtT.qZ ?_
  refine AtT.setB (d := 35) rfl ((show (!true) = false from rfl)) ?_
  refine AtT.zh ?_
  all_goals (first | refine AtT.kL 36 ?_ | refine AtT.zB (d := 36) rfl (fun hg36 => ?_) (fun hg36 => ?_) | refine AtT.zA (d := 36) rfl (fun hg36 => ?_) (fun hg36 => ?_))
  all_goals first|refine AtT.zg ?_|refine AtT.ze ?_|(refine AtT.zh ?_)
  all_goals first|refine AtT.zg ?_|refine AtT.ze ?_|(first | refine AtT.zD zM ?_ | refine AtT.zJ zM ?_ | refine AtT.zC zM ?_)
  all_goals first|refine AtT.zg ?_|refine AtT.ze ?_|(first | refine AtT.zD zS ?_ | refine AtT.zJ zS ?_ | refine AtT.zC zS ?_)
  all_goals first|refine AtT.zP ?_|refine AtT.zI ?_|((refine AtT.zq rfl rfl ok51 (rpe_f s hok p _ _ hv) ?_) ; (rintro _ rfl))
  all_goals first|refine AtT.zg ?_|refine AtT.ze ?_|(refine AtT.qH ?_)
  all_goals (refine AtT.qm (d := 41) rfl ((fun h => h rfl)) ?_)
  all_goals (refine AtT.zz ?_)
  all_goals (refine AtT.zh ?_)
  all_goals (first | refine AtT.kL 43 ?_ | refine AtT.zB (d := 43) rfl (fun hg43 => ?_) (fun hg43 => ?_) | refine AtT.zA (d := 43) rfl (fun hg43 => ?_) (fun hg43 => ?_))
  all_goals first|refine AtT.zg ?_|refine AtT.ze ?_|(refine AtT.zh ?_)
  all_goals first|refine AtT.zg ?_|refine AtT.ze ?_|(refine AtT.jg ?_)
  all_goals (refine AtT.qJ (d := 45) rfl ((by omega)) ?_)
  all_goals first|refine AtT.zg ?_|refine AtT.ze ?_|(refine AtT.zh ?_)
  all_goals first|refine AtT.zg ?_|refine AtT.ze ?_|(first | refine AtT.zY Tryz.underlying58 ?_ | refine AtT.zZ Tryz.underlying58 ?_)
  all_goals first|refine AtT.zg ?_|refine AtT.ze ?_|(refine AtT.jg ?_)
  all_goals (refine AtT.qJ (d := 48) rfl ((by omega)) ?_)
  all_goals first|refine AtT.zg ?_|refine AtT.ze ?_|(refine AtT.neB rfl ⟨_, _, rfl, rfl, rfl⟩ Tryz.underlying4 rfl rfl (by decide) ?_)
  all_goals (refine AtT.setB (d := 49) rfl ((show (true != true) = false from rfl)) ?_)
  all_goals (refine AtT.zz ?_)
  all_goals refine AtT.done ?_
  all_goals (refine At.nrm ?_)
  refine At.qW rfl rfl ?_
  refine At.nrm ?_
  refine At.draw (.q 0 (.q 1 (.q 2 (.q 3 (.q 4 (.q 5 (.q 6 (.q 7 (.q 8 (.q 9 (.q 10 (.q 11 (.n false 12 (.n false 13 (.q 14 (.q 15 (.q 16 .done))))))))))))))))) ffm (by kernel_rfl) ?_
  refine AtT.zh ?_
  first | refine AtT.zY Tryz.underlying58 ?_ | refine AtT.zZ Tryz.underlying58 ?_
  refine AtT.qw ?_
  refine AtT.qm (d := 53) rfl ((by omega)) ?_
  refine AtT.zh ?_
  all_goals (first | refine AtT.kL 54 ?_ | refine AtT.zB (d := 54) rfl (fun hg54 => ?_) (fun hg54 => ?_) | refine AtT.zA (d := 54) rfl (fun hg54 => ?_) (fun hg54 => ?_))
  all_goals first|refine AtT.zg ?_|refine AtT.ze ?_|(refine AtT.zh ?_)
  all_goals first|refine AtT.zg ?_|refine AtT.ze ?_|(refine AtT.jg ?_)
  all_goals first|refine AtT.zg ?_|refine AtT.ze ?_|(first | refine AtT.zD zM ?_ | refine AtT.zJ zM ?_ | refine AtT.zC zM ?_)
  all_goals first|refine AtT.zg ?_|refine AtT.ze ?_|(refine AtT.zh ?_)
  all_goals first|refine AtT.zg ?_|refine AtT.ze ?_|(refine AtT.zh ?_)
  all_goals first|refine AtT.zg ?_|refine AtT.ze ?_|(first | refine AtT.zY Tryz.underlying58 ?_ | refine AtT.zZ Tryz.underlying58 ?_)
  all_goals first|refine AtT.zg ?_|refine AtT.ze ?_|(fail)
  all_goals first|refine AtT.zg ?_|refine AtT.ze ?_|(first | refine AtT.qD ?_ | refine AtT.qE ?_)
  all_goals first|refine AtT.zP ?_|refine AtT.zI ?_|((fail))
  all_goals first|refine AtT.zP ?_|refine AtT.zI ?_|((fail))
  all_goals first|refine AtT.zg ?_|refine AtT.ze ?_|(refine AtT.jg ?_)
  all_goals first|refine AtT.zg ?_|refine AtT.ze ?_|(refine AtT.neB rfl ⟨_, _, rfl, rfl, rfl⟩ Tryz.underlying4 rfl rfl (by decide) ?_)
  all_goals (refine AtT.zz ?_)
  all_goals refine AtT.done ?_
  all_goals (refine At.nrm ?_)
  refine At.qW rfl rfl ?_
  refine At.nrm ?_
  refine At.zl (.q 0 (.q 1 .done)) ?_
  refine AtT.zh ?_
  refine AtT.qH ?_
  refine AtT.done ?_
  refine At.nrm ?_
  by_cases he : e = 0
  ·subst he
   have hla := la_some hok (by rw [hL])
   rw [hL] at hla
   dsimp only at hla
   refine At.qW rfl rfl ?_
   refine At.nrm ?_
   by_cases hf : peE (gdS s) p = 0
   ·have hlp := peE_iff.1 hf
    have hle := hla.2 p hlp
    have b1 := ar_pos hlp
    have b2 := hlp.most
    have b3 := ar_pos hla.1
    have b4 := hla.1.most
    have hmo := hok.m
    have hgm : (gdS s).most = s.most := rfl
    unfold arP at hle b1 b2 b3 b4
    have f1 : Fit (p.h * p.w) := Fit.of (by omega) (by omega)
    have f2 : Fit (x.h * x.w) := Fit.of (by omega) (by omega)
    refine At.zl (.q 0 (.q 1 (.n false 2 (.q 3 (.q 4 (.q 5 (.q 6 (.n false 7 (.q 8 (.q 9 (.q 10 (.q 11 (.q 12 (.q 13 (.q 14 (.q 15 (.q 16 (.q 17 (.q 18 (.q 19 (.q 20 (.q 21 (.q 22 (.q 23 (.q 24 (.q 25 (.q 26 (.q 27 (.n false 28 (.q 29 (.q 30 .done))))))))))))))))))))))))))))))) ?_
    first | refine AtT.zD zM ?_ | refine AtT.zJ zM ?_ | refine AtT.zC zM ?_
    first | refine AtT.zD zS ?_ | refine AtT.zJ zS ?_ | refine AtT.zC zS ?_
    refine AtT.zq rfl rfl ok21 (qo s x _ _ hv) ?_
    rintro _ rfl; rw [ckR_pe h0]
    refine AtT.jg ?_
    refine AtT.qJ (d := 87) rfl ((peE_iff.2 hla.1)) ?_
    refine AtT.zh ?_
    all_goals (first | refine AtT.kL 88 ?_ | refine AtT.zB (d := 88) rfl (fun hg88 => ?_) (fun hg88 => ?_) | refine AtT.zA (d := 88) rfl (fun hg88 => ?_) (fun hg88 => ?_))
    all_goals first|refine AtT.zg ?_|refine AtT.ze ?_|(first | refine AtT.zD zM ?_ | refine AtT.zJ zM ?_ | refine AtT.zC zM ?_)
    all_goals first|refine AtT.zg ?_|refine AtT.ze ?_|(first | refine AtT.zD zS ?_ | refine AtT.zJ zS ?_ | refine AtT.zC zS ?_)
    all_goals first|refine AtT.zP ?_|refine AtT.zI ?_|((refine AtT.zq rfl rfl ok51 (rpe_f s hok x _ _ hv) ?_) ; (rintro _ rfl))
    all_goals first|refine AtT.zg ?_|refine AtT.ze ?_|(refine AtT.jg ?_)
    all_goals (refine AtT.qJ (d := 92) rfl ((peE_iff.2 hla.1)) ?_)
    all_goals (refine AtT.zz ?_)
    all_goals (refine AtT.zh ?_)
    all_goals (first | refine AtT.kL 94 ?_ | refine AtT.zB (d := 94) rfl (fun hg94 => ?_) (fun hg94 => ?_) | refine AtT.zA (d := 94) rfl (fun hg94 => ?_) (fun hg94 => ?_))
    all_goals first|refine AtT.zg ?_|refine AtT.ze ?_|(refine AtT.zh ?_)
    all_goals first|refine AtT.zg ?_|refine AtT.ze ?_|(refine AtT.qH ?_)
    all_goals (refine AtT.qm (d := 96) rfl ((fun h => h hf)) ?_)
    all_goals first|refine AtT.zg ?_|refine AtT.ze ?_|(refine AtT.zh ?_)
    all_goals (first | refine AtT.kL 97 ?_ | refine AtT.zB (d := 97) rfl (fun hg97 => ?_) (fun hg97 => ?_) | refine AtT.zA (d := 97) rfl (fun hg97 => ?_) (fun hg97 => ?_))
    all_goals first|refine AtT.zg ?_|refine AtT.ze ?_|(first | refine AtT.zi zy ?_ | with_reducible refine AtT.zk zy ?_ | refine AtT.zn zy ?_)
    all_goals first|refine AtT.zg ?_|refine AtT.ze ?_|(first | refine AtT.zm tk3 ?_ | refine AtT.zo tk3 ?_)
    all_goals first|refine AtT.zg ?_|refine AtT.ze ?_|(first | refine AtT.zi zx ?_ | with_reducible refine AtT.zk zx ?_ | refine AtT.zn zx ?_)
    all_goals first|refine AtT.zg ?_|refine AtT.ze ?_|(first | refine AtT.zm tk3 ?_ | refine AtT.zo tk3 ?_)
    all_goals first|refine AtT.zg ?_|refine AtT.ze ?_|(first | refine AtT.kmul ?_ | refine AtT.kmulW ?_)
    all_goals first|refine AtT.zg ?_|refine AtT.ze ?_|(first | refine AtT.zi zy ?_ | with_reducible refine AtT.zk zy ?_ | refine AtT.zn zy ?_)
    all_goals first|refine AtT.zg ?_|refine AtT.ze ?_|(first | refine AtT.zm tk3 ?_ | refine AtT.zo tk3 ?_)
    all_goals first|refine AtT.zg ?_|refine AtT.ze ?_|(first | refine AtT.zi zx ?_ | with_reducible refine AtT.zk zx ?_ | refine AtT.zn zx ?_)
    all_goals first|refine AtT.zg ?_|refine AtT.ze ?_|(first | refine AtT.zm tk3 ?_ | refine AtT.zo tk3 ?_)
    all_goals first|refine AtT.zg ?_|refine AtT.ze ?_|(first | refine AtT.kmul ?_ | refine AtT.kmulW ?_)
    all_goals first|refine AtT.zg ?_|refine AtT.ze ?_|(refine AtT.kleq ?_)
    all_goals (refine AtT.qJ (d := 108) rfl (hle) ?_)
    all_goals first|refine AtT.zg ?_|refine AtT.ze ?_|(refine AtT.zz ?_)
    all_goals (refine AtT.zz ?_)
    all_goals (refine AtT.zh ?_)
    all_goals (first | refine AtT.kL 111 ?_ | refine AtT.zB (d := 111) rfl (fun hg111 => ?_) (fun hg111 => ?_) | refine AtT.zA (d := 111) rfl (fun hg111 => ?_) (fun hg111 => ?_))
    all_goals first|refine AtT.zP ?_|refine AtT.zI ?_|((refine AtT.zq rfl rfl ok16 (works_f _) ?_) ; (rintro _ rfl))
    all_goals (refine AtT.zz ?_)
    all_goals (refine AtT.zf ?_)
    all_goals refine AtT.done ?_
    all_goals (refine At.nrm ?_)
    exact At.qb rfl (.tmp rfl) rfl
   ·refine At.zl (.q 0 (.q 1 (.n false 2 (.q 3 (.q 4 (.q 5 (.q 6 (.n false 7 (.q 8 (.q 9 (.q 10 (.q 11 (.q 12 (.q 13 (.q 14 (.q 15 (.q 16 (.q 17 (.q 18 (.q 19 (.q 20 (.q 21 (.q 22 (.q 23 (.q 24 (.q 25 (.q 26 (.q 27 (.n false 28 (.q 29 (.q 30 .done))))))))))))))))))))))))))))))) ?_
    first | refine AtT.zD zM ?_ | refine AtT.zJ zM ?_ | refine AtT.zC zM ?_
    first | refine AtT.zD zS ?_ | refine AtT.zJ zS ?_ | refine AtT.zC zS ?_
    refine AtT.zq rfl rfl ok21 (qo s x _ _ hv) ?_
    rintro _ rfl; rw [ckR_pe h0]
    refine AtT.jg ?_
    refine AtT.qJ (d := 87) rfl ((peE_iff.2 hla.1)) ?_
    refine AtT.zh ?_
    all_goals (first | refine AtT.kL 88 ?_ | refine AtT.zB (d := 88) rfl (fun hg88 => ?_) (fun hg88 => ?_) | refine AtT.zA (d := 88) rfl (fun hg88 => ?_) (fun hg88 => ?_))
    all_goals first|refine AtT.zg ?_|refine AtT.ze ?_|(first | refine AtT.zD zM ?_ | refine AtT.zJ zM ?_ | refine AtT.zC zM ?_)
    all_goals first|refine AtT.zg ?_|refine AtT.ze ?_|(first | refine AtT.zD zS ?_ | refine AtT.zJ zS ?_ | refine AtT.zC zS ?_)
    all_goals first|refine AtT.zP ?_|refine AtT.zI ?_|((refine AtT.zq rfl rfl ok51 (rpe_f s hok x _ _ hv) ?_) ; (rintro _ rfl))
    all_goals first|refine AtT.zg ?_|refine AtT.ze ?_|(refine AtT.jg ?_)
    all_goals (refine AtT.qJ (d := 92) rfl ((peE_iff.2 hla.1)) ?_)
    all_goals (refine AtT.zz ?_)
    all_goals (refine AtT.zh ?_)
    all_goals (first | refine AtT.kL 94 ?_ | refine AtT.zB (d := 94) rfl (fun hg94 => ?_) (fun hg94 => ?_) | refine AtT.zA (d := 94) rfl (fun hg94 => ?_) (fun hg94 => ?_))
    all_goals first|refine AtT.zg ?_|refine AtT.ze ?_|(refine AtT.zh ?_)
    all_goals first|refine AtT.zg ?_|refine AtT.ze ?_|(refine AtT.qH ?_)
    all_goals (refine AtT.qJ (d := 96) rfl (hf) ?_)
    all_goals first|refine AtT.zg ?_|refine AtT.ze ?_|(refine AtT.zh ?_)
    all_goals (first | refine AtT.kL 97 ?_ | refine AtT.zB (d := 97) rfl (fun hg97 => ?_) (fun hg97 => ?_) | refine AtT.zA (d := 97) rfl (fun hg97 => ?_) (fun hg97 => ?_))
    all_goals first|refine AtT.zg ?_|refine AtT.ze ?_|(first | refine AtT.zi zy ?_ | with_reducible refine AtT.zk zy ?_ | refine AtT.zn zy ?_)
    all_goals first|refine AtT.zg ?_|refine AtT.ze ?_|(first | refine AtT.zm tk3 ?_ | refine AtT.zo tk3 ?_)
    all_goals first|refine AtT.zg ?_|refine AtT.ze ?_|(first | refine AtT.zi zx ?_ | with_reducible refine AtT.zk zx ?_ | refine AtT.zn zx ?_)
    all_goals first|refine AtT.zg ?_|refine AtT.ze ?_|(first | refine AtT.zm tk3 ?_ | refine AtT.zo tk3 ?_)
    all_goals first|refine AtT.zg ?_|refine AtT.ze ?_|(first | refine AtT.kmul ?_ | refine AtT.kmulW ?_)
    all_goals first|refine AtT.zg ?_|refine AtT.ze ?_|(first | refine AtT.zi zy ?_ | with_reducible refine AtT.zk zy ?_ | refine AtT.zn zy ?_)
    all_goals first|refine AtT.zg ?_|refine AtT.ze ?_|(first | refine AtT.zm tk3 ?_ | refine AtT.zo tk3 ?_)
    all_goals first|refine AtT.zg ?_|refine AtT.ze ?_|(first | refine AtT.zi zx ?_ | with_reducible refine AtT.zk zx ?_ | refine AtT.zn zx ?_)
    all_goals first|refine AtT.zg ?_|refine AtT.ze ?_|(first | refine AtT.zm tk3 ?_ | refine AtT.zo tk3 ?_)
    all_goals first|refine AtT.zg ?_|refine AtT.ze ?_|(first | refine AtT.kmul ?_ | refine AtT.kmulW ?_)
    all_goals first|refine AtT.zg ?_|refine AtT.ze ?_|(refine AtT.kleq ?_)
    all_goals first|refine AtT.zg ?_|refine AtT.ze ?_|(refine AtT.zz ?_)
    all_goals (refine AtT.zz ?_)
    all_goals (refine AtT.zh ?_)
    all_goals (first | refine AtT.kL 111 ?_ | refine AtT.zB (d := 111) rfl (fun hg111 => ?_) (fun hg111 => ?_) | refine AtT.zA (d := 111) rfl (fun hg111 => ?_) (fun hg111 => ?_))
    all_goals first|refine AtT.zP ?_|refine AtT.zI ?_|((refine AtT.zq rfl rfl ok16 (works_f _) ?_) ; (rintro _ rfl))
    all_goals (refine AtT.zz ?_)
    all_goals (refine AtT.zf ?_)
    all_goals refine AtT.done ?_
    all_goals (refine At.nrm ?_)
    exact At.qb rfl (.tmp rfl) rfl
  ·have hla := la_none hok (by rw [hL]; exact he)
   rw [hL] at hla
   obtain ⟨he5, hno⟩ := hla
   obtain ⟨rfl, rfl⟩ : x = pc0 ∧ e = 5 := by simpa using he5
   refine At.qB rfl rfl ?_
   refine At.nrm ?_
   refine At.zl (.q 0 (.q 1 (.q 2 (.q 3 (.q 4 (.q 5 (.q 6 (.q 7 (.q 8 (.q 9 (.q 10 (.q 11 (.n false 12 (.q 13 (.q 14 .done))))))))))))))) ?_
   refine AtT.zh ?_
   refine AtT.jg ?_
   refine AtT.qJ (d := 71) rfl (rfl) ?_
   refine AtT.zh ?_
   all_goals (first | refine AtT.kL 72 ?_ | refine AtT.zB (d := 72) rfl (fun hg72 => ?_) (fun hg72 => ?_) | refine AtT.zA (d := 72) rfl (fun hg72 => ?_) (fun hg72 => ?_))
   all_goals first|refine AtT.zg ?_|refine AtT.ze ?_|(refine AtT.zh ?_)
   all_goals first|refine AtT.zg ?_|refine AtT.ze ?_|(refine AtT.qH ?_)
   all_goals (refine AtT.qJ (d := 74) rfl ((fun h => hno p (peE_iff.1 h))) ?_)
   all_goals (refine AtT.zz ?_)
   all_goals (refine AtT.zh ?_)
   all_goals (first | refine AtT.kL 76 ?_ | refine AtT.zB (d := 76) rfl (fun hg76 => ?_) (fun hg76 => ?_) | refine AtT.zA (d := 76) rfl (fun hg76 => ?_) (fun hg76 => ?_))
   all_goals first|refine AtT.zg ?_|refine AtT.ze ?_|(refine AtT.zh ?_)
   all_goals first|refine AtT.zg ?_|refine AtT.ze ?_|(first | refine AtT.zY Tryz.underlying58 ?_ | refine AtT.zZ Tryz.underlying58 ?_)
   all_goals first|refine AtT.zg ?_|refine AtT.ze ?_|(refine AtT.jg ?_)
   all_goals (refine AtT.qJ (d := 79) rfl ((by omega)) ?_)
   all_goals (refine AtT.zz ?_)
   all_goals (refine AtT.zh ?_)
   all_goals (first | refine AtT.kL 81 ?_ | refine AtT.zB (d := 81) rfl (fun hg81 => ?_) (fun hg81 => ?_) | refine AtT.zA (d := 81) rfl (fun hg81 => ?_) (fun hg81 => ?_))
   all_goals first|refine AtT.zP ?_|refine AtT.zI ?_|((refine AtT.zq rfl rfl ok16 (works_f _) ?_) ; (rintro _ rfl))
   all_goals (refine AtT.zz ?_)
   all_goals (refine AtT.zf ?_)
   all_goals refine AtT.done ?_
   all_goals (refine At.nrm ?_)
   exact At.qb rfl (.tmp rfl) rfl
 ·have hps : ps.length ≠ 0 := fun h => hK (hz.1 h)
  have h1 := best_is1 hg hon hK hm.best
  obtain ⟨k0, hk0⟩ : ∃ k0, k0 ∈ knL s := by
   cases hl : knL s with
   | nil => rw [hl] at hK; exact absurd rfl hK
   | cons k l => exact ⟨k, List.mem_cons_self⟩
  have hl0 := lies_one hg (hon k0 hk0) (kn_fig hok k0 hk0)
  have he : e = 0 := Classical.byContradiction fun he => by
   have hla := la_none hok (by rw [hL]; exact he)
   exact hla.2 _ hl0
  subst he
  have hla := la_some hok (by rw [hL])
  rw [hL] at hla
  dsimp only at hla
  refine At.zl (.q 0 (.q 1 (.q 2 (.q 3 (.q 4 (.q 5 (.n false 6 (.q 7 (.q 8 (.q 9 (.q 10 (.q 11 (.q 12 (.q 13 (.q 14 (.q 15 (.q 16 .done))))))))))))))))) ?_
  refine AtT.zh ?_
  refine AtT.setB (d := 34) rfl (rfl) ?_
  refine AtT.qZ ?_
  refine AtT.setB (d := 35) rfl ((show (!true) = false from rfl)) ?_
  refine AtT.zh ?_
  all_goals (first | refine AtT.kL 36 ?_ | refine AtT.zB (d := 36) rfl (fun hg36 => ?_) (fun hg36 => ?_) | refine AtT.zA (d := 36) rfl (fun hg36 => ?_) (fun hg36 => ?_))
  all_goals first|refine AtT.zg ?_|refine AtT.ze ?_|(refine AtT.zh ?_)
  all_goals first|refine AtT.zg ?_|refine AtT.ze ?_|(first | refine AtT.zD zM ?_ | refine AtT.zJ zM ?_ | refine AtT.zC zM ?_)
  all_goals first|refine AtT.zg ?_|refine AtT.ze ?_|(first | refine AtT.zD zS ?_ | refine AtT.zJ zS ?_ | refine AtT.zC zS ?_)
  all_goals first|refine AtT.zP ?_|refine AtT.zI ?_|((refine AtT.zq rfl rfl ok51 (rpe_f s hok p _ _ hv) ?_) ; (rintro _ rfl))
  all_goals first|refine AtT.zg ?_|refine AtT.ze ?_|(refine AtT.qH ?_)
  all_goals (refine AtT.qm (d := 41) rfl ((fun h => h rfl)) ?_)
  all_goals (refine AtT.zz ?_)
  all_goals (refine AtT.zh ?_)
  all_goals (first | refine AtT.kL 43 ?_ | refine AtT.zB (d := 43) rfl (fun hg43 => ?_) (fun hg43 => ?_) | refine AtT.zA (d := 43) rfl (fun hg43 => ?_) (fun hg43 => ?_))
  all_goals first|refine AtT.zg ?_|refine AtT.ze ?_|(refine AtT.zh ?_)
  all_goals first|refine AtT.zg ?_|refine AtT.ze ?_|(refine AtT.jg ?_)
  all_goals (refine AtT.qm (d := 45) rfl ((by omega)) ?_)
  all_goals first|refine AtT.zg ?_|refine AtT.ze ?_|(refine AtT.zh ?_)
  all_goals first|refine AtT.zg ?_|refine AtT.ze ?_|(first | refine AtT.zY Tryz.underlying58 ?_ | refine AtT.zZ Tryz.underlying58 ?_)
  all_goals first|refine AtT.zg ?_|refine AtT.ze ?_|(refine AtT.jg ?_)
  all_goals (refine AtT.qm (d := 48) rfl ((by omega)) ?_)
  all_goals first|refine AtT.zg ?_|refine AtT.ze ?_|(refine AtT.neB rfl ⟨_, _, rfl, rfl, rfl⟩ Tryz.underlying4 rfl rfl (by decide) ?_)
  all_goals (refine AtT.setB (d := 49) rfl ((show (false != false) = false from rfl)) ?_)
  all_goals (refine AtT.zz ?_)
  all_goals refine AtT.done ?_
  all_goals (refine At.nrm ?_)
  refine At.qW rfl rfl ?_
  refine At.nrm ?_
  refine At.jr (ι := Unit) (fun _ => [(2, .pointer (some ⟨b2, 0, none⟩)), (3, .pointer (some ⟨b3, 0, none⟩)), (10, .pointer (some ⟨b10, 0, none⟩)), (11, iv 0), (12, iv (peE (gdS s) p)), (67, .bool false)])
   (fun _ => [.blk b2 (LC [.slice a s.rows.length c, iv s.most] 24), .blk b3 (LC (pce p) 26), .blk b10 (LC (pce x) 26)]) (fun _ V'' => V'' = V21) ?_ ?_
  ·by_cases hone : ps.length = 1
   ·refine At.draw (.q 0 (.q 1 (.q 2 (.q 3 (.q 4 (.q 5 (.q 6 (.q 7 (.q 8 (.q 9 (.q 10 (.q 11 (.n false 12 (.n false 13 (.q 14 (.q 15 (.q 16 .done))))))))))))))))) ffm (by kernel_rfl) ?_
    refine AtT.zh ?_
    first | refine AtT.zY Tryz.underlying58 ?_ | refine AtT.zZ Tryz.underlying58 ?_
    refine AtT.qw ?_
    refine AtT.qJ (d := 53) rfl ((by omega)) ?_
    refine AtT.zh ?_
    all_goals (first | refine AtT.kL 54 ?_ | refine AtT.zB (d := 54) rfl (fun hg54 => ?_) (fun hg54 => ?_) | refine AtT.zA (d := 54) rfl (fun hg54 => ?_) (fun hg54 => ?_))
    all_goals first|refine AtT.zg ?_|refine AtT.ze ?_|(refine AtT.zh ?_)
    all_goals first|refine AtT.zg ?_|refine AtT.ze ?_|(refine AtT.jg ?_)
    all_goals (refine AtT.qJ (d := 56) rfl ((by omega)) ?_)
    all_goals first|refine AtT.zg ?_|refine AtT.ze ?_|(first | refine AtT.zD zM ?_ | refine AtT.zJ zM ?_ | refine AtT.zC zM ?_)
    all_goals first|refine AtT.zg ?_|refine AtT.ze ?_|(refine AtT.zh ?_)
    all_goals first|refine AtT.zg ?_|refine AtT.ze ?_|(refine AtT.zh ?_)
    all_goals first|refine AtT.zg ?_|refine AtT.ze ?_|(first | refine AtT.zY Tryz.underlying58 ?_ | refine AtT.zZ Tryz.underlying58 ?_)
    all_goals first|refine AtT.zg ?_|refine AtT.ze ?_|(refine AtT.shlN rfl ⟨_, _, rfl, rfl, rfl⟩ rfl rfl rfl (by omega) (by decide) (N := (knL s).length) ?_)
    all_goals first|refine AtT.zg ?_|refine AtT.ze ?_|(first | refine AtT.qD ?_ | refine AtT.qE ?_)
    all_goals (rw [show ((2 ^ (knL s).length : Nat) : Int) - 1 = ((2 ^ (knL s).length - 1 : Nat) : Int) by omega])
    all_goals first|refine AtT.zP ?_|refine AtT.zI ?_|((refine AtT.zq rfl rfl ok49 (rleast_f (knL s) hkb (by omega) (2 ^ (knL s).length - 1) (by omega) _ _ hk18) ?_) ; (rintro _ rfl))
    all_goals first|refine AtT.zP ?_|refine AtT.zI ?_|((refine AtT.zq rfl rfl ok21 (qo s (bbx (sel (knL s) (2 ^ (knL s).length - 1))) _ _ hv) ?_) ; (rintro _ rfl; rw [ckR_pe h0]))
    all_goals first|refine AtT.zg ?_|refine AtT.ze ?_|(refine AtT.jg ?_)
    all_goals (refine AtT.qJ (d := 65) rfl ((h1.1 hone)) ?_)
    all_goals first|refine AtT.zg ?_|refine AtT.ze ?_|(refine AtT.neB rfl ⟨_, _, rfl, rfl, rfl⟩ Tryz.underlying4 rfl rfl (by decide) ?_)
    all_goals (refine AtT.setB (d := 66) rfl ((show (true != true) = false from rfl)) ?_)
    all_goals (refine AtT.zz ?_)
    all_goals refine AtT.done ?_
    all_goals (refine At.nrm ?_)
    all_goals exact At.qC () rfl ⟨rfl, rfl, rfl, rfl, rfl, rfl, trivial⟩ Pt.zO
   ·refine At.draw (.q 0 (.q 1 (.q 2 (.q 3 (.q 4 (.q 5 (.q 6 (.q 7 (.q 8 (.q 9 (.q 10 (.q 11 (.n false 12 (.n false 13 (.q 14 (.q 15 (.q 16 .done))))))))))))))))) ffm (by kernel_rfl) ?_
    refine AtT.zh ?_
    first | refine AtT.zY Tryz.underlying58 ?_ | refine AtT.zZ Tryz.underlying58 ?_
    refine AtT.qw ?_
    refine AtT.qJ (d := 53) rfl ((by omega)) ?_
    refine AtT.zh ?_
    all_goals (first | refine AtT.kL 54 ?_ | refine AtT.zB (d := 54) rfl (fun hg54 => ?_) (fun hg54 => ?_) | refine AtT.zA (d := 54) rfl (fun hg54 => ?_) (fun hg54 => ?_))
    all_goals first|refine AtT.zg ?_|refine AtT.ze ?_|(refine AtT.zh ?_)
    all_goals first|refine AtT.zg ?_|refine AtT.ze ?_|(refine AtT.jg ?_)
    all_goals (refine AtT.qm (d := 56) rfl ((by omega)) ?_)
    all_goals first|refine AtT.zg ?_|refine AtT.ze ?_|(first | refine AtT.zD zM ?_ | refine AtT.zJ zM ?_ | refine AtT.zC zM ?_)
    all_goals first|refine AtT.zg ?_|refine AtT.ze ?_|(refine AtT.zh ?_)
    all_goals first|refine AtT.zg ?_|refine AtT.ze ?_|(refine AtT.zh ?_)
    all_goals first|refine AtT.zg ?_|refine AtT.ze ?_|(first | refine AtT.zY Tryz.underlying58 ?_ | refine AtT.zZ Tryz.underlying58 ?_)
    all_goals first|refine AtT.zg ?_|refine AtT.ze ?_|(refine AtT.shlN rfl ⟨_, _, rfl, rfl, rfl⟩ rfl rfl rfl (by omega) (by decide) (N := (knL s).length) ?_)
    all_goals first|refine AtT.zg ?_|refine AtT.ze ?_|(first | refine AtT.qD ?_ | refine AtT.qE ?_)
    all_goals (rw [show ((2 ^ (knL s).length : Nat) : Int) - 1 = ((2 ^ (knL s).length - 1 : Nat) : Int) by omega])
    all_goals first|refine AtT.zP ?_|refine AtT.zI ?_|((refine AtT.zq rfl rfl ok49 (rleast_f (knL s) hkb (by omega) (2 ^ (knL s).length - 1) (by omega) _ _ hk18) ?_) ; (rintro _ rfl))
    all_goals first|refine AtT.zP ?_|refine AtT.zI ?_|((refine AtT.zq rfl rfl ok21 (qo s (bbx (sel (knL s) (2 ^ (knL s).length - 1))) _ _ hv) ?_) ; (rintro _ rfl; rw [ckR_pe h0]))
    all_goals first|refine AtT.zg ?_|refine AtT.ze ?_|(refine AtT.jg ?_)
    all_goals (refine AtT.qm (d := 65) rfl ((fun h => hone (h1.2 h))) ?_)
    all_goals first|refine AtT.zg ?_|refine AtT.ze ?_|(refine AtT.neB rfl ⟨_, _, rfl, rfl, rfl⟩ Tryz.underlying4 rfl rfl (by decide) ?_)
    all_goals (refine AtT.setB (d := 66) rfl ((show (false != false) = false from rfl)) ?_)
    all_goals (refine AtT.zz ?_)
    all_goals refine AtT.done ?_
    all_goals (refine At.nrm ?_)
    all_goals exact At.qC () rfl ⟨rfl, rfl, rfl, rfl, rfl, rfl, trivial⟩ Pt.zO
  rintro - V6 ks' O' rfl hk2 hO hl6
  subst hk2 hO
  refine At.nrm ?_
  refine At.qW rfl rfl ?_
  refine At.nrm ?_
  refine At.zl (.q 0 (.q 1 .done)) ?_
  refine AtT.zh ?_
  refine AtT.qH ?_
  refine AtT.done ?_
  refine At.nrm ?_
  refine At.qW rfl rfl ?_
  refine At.nrm ?_
  by_cases hf : peE (gdS s) p = 0
  ·have hlp := peE_iff.1 hf
   have hle := hla.2 p hlp
   have b1 := ar_pos hlp
   have b2 := hlp.most
   have b3 := ar_pos hla.1
   have b4 := hla.1.most
   have hmo := hok.m
   have hgm : (gdS s).most = s.most := rfl
   unfold arP at hle b1 b2 b3 b4
   have f1 : Fit (p.h * p.w) := Fit.of (by omega) (by omega)
   have f2 : Fit (x.h * x.w) := Fit.of (by omega) (by omega)
   refine At.zl (.q 0 (.q 1 (.n false 2 (.q 3 (.q 4 (.q 5 (.q 6 (.n false 7 (.q 8 (.q 9 (.q 10 (.q 11 (.q 12 (.q 13 (.q 14 (.q 15 (.q 16 (.q 17 (.q 18 (.q 19 (.q 20 (.q 21 (.q 22 (.q 23 (.q 24 (.q 25 (.q 26 (.q 27 (.n false 28 (.q 29 (.q 30 .done))))))))))))))))))))))))))))))) ?_
   first | refine AtT.zD zM ?_ | refine AtT.zJ zM ?_ | refine AtT.zC zM ?_
   first | refine AtT.zD zS ?_ | refine AtT.zJ zS ?_ | refine AtT.zC zS ?_
   refine AtT.zq rfl rfl ok21 (qo s x _ _ hv) ?_
   rintro _ rfl; rw [ckR_pe h0]
   refine AtT.jg ?_
   refine AtT.qJ (d := 87) rfl ((peE_iff.2 hla.1)) ?_
   refine AtT.zh ?_
   all_goals (first | refine AtT.kL 88 ?_ | refine AtT.zB (d := 88) rfl (fun hg88 => ?_) (fun hg88 => ?_) | refine AtT.zA (d := 88) rfl (fun hg88 => ?_) (fun hg88 => ?_))
   all_goals first|refine AtT.zg ?_|refine AtT.ze ?_|(first | refine AtT.zD zM ?_ | refine AtT.zJ zM ?_ | refine AtT.zC zM ?_)
   all_goals first|refine AtT.zg ?_|refine AtT.ze ?_|(first | refine AtT.zD zS ?_ | refine AtT.zJ zS ?_ | refine AtT.zC zS ?_)
   all_goals first|refine AtT.zP ?_|refine AtT.zI ?_|((refine AtT.zq rfl rfl ok51 (rpe_f s hok x _ _ hv) ?_) ; (rintro _ rfl))
   all_goals first|refine AtT.zg ?_|refine AtT.ze ?_|(refine AtT.jg ?_)
   all_goals (refine AtT.qJ (d := 92) rfl ((peE_iff.2 hla.1)) ?_)
   all_goals (refine AtT.zz ?_)
   all_goals (refine AtT.zh ?_)
   all_goals (first | refine AtT.kL 94 ?_ | refine AtT.zB (d := 94) rfl (fun hg94 => ?_) (fun hg94 => ?_) | refine AtT.zA (d := 94) rfl (fun hg94 => ?_) (fun hg94 => ?_))
   all_goals first|refine AtT.zg ?_|refine AtT.ze ?_|(refine AtT.zh ?_)
   all_goals first|refine AtT.zg ?_|refine AtT.ze ?_|(refine AtT.qH ?_)
   all_goals (refine AtT.qm (d := 96) rfl ((fun h => h hf)) ?_)
   all_goals first|refine AtT.zg ?_|refine AtT.ze ?_|(refine AtT.zh ?_)
   all_goals (first | refine AtT.kL 97 ?_ | refine AtT.zB (d := 97) rfl (fun hg97 => ?_) (fun hg97 => ?_) | refine AtT.zA (d := 97) rfl (fun hg97 => ?_) (fun hg97 => ?_))
   all_goals first|refine AtT.zg ?_|refine AtT.ze ?_|(first | refine AtT.zi zy ?_ | with_reducible refine AtT.zk zy ?_ | refine AtT.zn zy ?_)
   all_goals first|refine AtT.zg ?_|refine AtT.ze ?_|(first | refine AtT.zm tk3 ?_ | refine AtT.zo tk3 ?_)
   all_goals first|refine AtT.zg ?_|refine AtT.ze ?_|(first | refine AtT.zi zx ?_ | with_reducible refine AtT.zk zx ?_ | refine AtT.zn zx ?_)
   all_goals first|refine AtT.zg ?_|refine AtT.ze ?_|(first | refine AtT.zm tk3 ?_ | refine AtT.zo tk3 ?_)
   all_goals first|refine AtT.zg ?_|refine AtT.ze ?_|(first | refine AtT.kmul ?_ | refine AtT.kmulW ?_)
   all_goals first|refine AtT.zg ?_|refine AtT.ze ?_|(first | refine AtT.zi zy ?_ | with_reducible refine AtT.zk zy ?_ | refine AtT.zn zy ?_)
   all_goals first|refine AtT.zg ?_|refine AtT.ze ?_|(first | refine AtT.zm tk3 ?_ | refine AtT.zo tk3 ?_)
   all_goals first|refine AtT.zg ?_|refine AtT.ze ?_|(first | refine AtT.zi zx ?_ | with_reducible refine AtT.zk zx ?_ | refine AtT.zn zx ?_)
   all_goals first|refine AtT.zg ?_|refine AtT.ze ?_|(first | refine AtT.zm tk3 ?_ | refine AtT.zo tk3 ?_)
   all_goals first|refine AtT.zg ?_|refine AtT.ze ?_|(first | refine AtT.kmul ?_ | refine AtT.kmulW ?_)
   all_goals first|refine AtT.zg ?_|refine AtT.ze ?_|(refine AtT.kleq ?_)
   all_goals (refine AtT.qJ (d := 108) rfl (hle) ?_)
   all_goals first|refine AtT.zg ?_|refine AtT.ze ?_|(refine AtT.zz ?_)
   all_goals (refine AtT.zz ?_)
   all_goals (refine AtT.zh ?_)
   all_goals (first | refine AtT.kL 111 ?_ | refine AtT.zB (d := 111) rfl (fun hg111 => ?_) (fun hg111 => ?_) | refine AtT.zA (d := 111) rfl (fun hg111 => ?_) (fun hg111 => ?_))
   all_goals first|refine AtT.zP ?_|refine AtT.zI ?_|((refine AtT.zq rfl rfl ok16 (works_f _) ?_) ; (rintro _ rfl))
   all_goals (refine AtT.zz ?_)
   all_goals (refine AtT.zf ?_)
   all_goals refine AtT.done ?_
   all_goals (refine At.nrm ?_)
   exact At.qb rfl (.tmp rfl) rfl
  ·refine At.zl (.q 0 (.q 1 (.n false 2 (.q 3 (.q 4 (.q 5 (.q 6 (.n false 7 (.q 8 (.q 9 (.q 10 (.q 11 (.q 12 (.q 13 (.q 14 (.q 15 (.q 16 (.q 17 (.q 18 (.q 19 (.q 20 (.q 21 (.q 22 (.q 23 (.q 24 (.q 25 (.q 26 (.q 27 (.n false 28 (.q 29 (.q 30 .done))))))))))))))))))))))))))))))) ?_
   first | refine AtT.zD zM ?_ | refine AtT.zJ zM ?_ | refine AtT.zC zM ?_
   first | refine AtT.zD zS ?_ | refine AtT.zJ zS ?_ | refine AtT.zC zS ?_
   refine AtT.zq rfl rfl ok21 (qo s x _ _ hv) ?_
   rintro _ rfl; rw [ckR_pe h0]
   refine AtT.jg ?_
   refine AtT.qJ (d := 87) rfl ((peE_iff.2 hla.1)) ?_
   refine AtT.zh ?_
   all_goals (first | refine AtT.kL 88 ?_ | refine AtT.zB (d := 88) rfl (fun hg88 => ?_) (fun hg88 => ?_) | refine AtT.zA (d := 88) rfl (fun hg88 => ?_) (fun hg88 => ?_))
   all_goals first|refine AtT.zg ?_|refine AtT.ze ?_|(first | refine AtT.zD zM ?_ | refine AtT.zJ zM ?_ | refine AtT.zC zM ?_)
   all_goals first|refine AtT.zg ?_|refine AtT.ze ?_|(first | refine AtT.zD zS ?_ | refine AtT.zJ zS ?_ | refine AtT.zC zS ?_)
   all_goals first|refine AtT.zP ?_|refine AtT.zI ?_|((refine AtT.zq rfl rfl ok51 (rpe_f s hok x _ _ hv) ?_) ; (rintro _ rfl))
   all_goals first|refine AtT.zg ?_|refine AtT.ze ?_|(refine AtT.jg ?_)
   all_goals (refine AtT.qJ (d := 92) rfl ((peE_iff.2 hla.1)) ?_)
   all_goals (refine AtT.zz ?_)
   all_goals (refine AtT.zh ?_)
   all_goals (first | refine AtT.kL 94 ?_ | refine AtT.zB (d := 94) rfl (fun hg94 => ?_) (fun hg94 => ?_) | refine AtT.zA (d := 94) rfl (fun hg94 => ?_) (fun hg94 => ?_))
   all_goals first|refine AtT.zg ?_|refine AtT.ze ?_|(refine AtT.zh ?_)
   all_goals first|refine AtT.zg ?_|refine AtT.ze ?_|(refine AtT.qH ?_)
   all_goals (refine AtT.qJ (d := 96) rfl (hf) ?_)
   all_goals first|refine AtT.zg ?_|refine AtT.ze ?_|(refine AtT.zh ?_)
   all_goals (first | refine AtT.kL 97 ?_ | refine AtT.zB (d := 97) rfl (fun hg97 => ?_) (fun hg97 => ?_) | refine AtT.zA (d := 97) rfl (fun hg97 => ?_) (fun hg97 => ?_))
   all_goals first|refine AtT.zg ?_|refine AtT.ze ?_|(first | refine AtT.zi zy ?_ | with_reducible refine AtT.zk zy ?_ | refine AtT.zn zy ?_)
   all_goals first|refine AtT.zg ?_|refine AtT.ze ?_|(first | refine AtT.zm tk3 ?_ | refine AtT.zo tk3 ?_)
   all_goals first|refine AtT.zg ?_|refine AtT.ze ?_|(first | refine AtT.zi zx ?_ | with_reducible refine AtT.zk zx ?_ | refine AtT.zn zx ?_)
   all_goals first|refine AtT.zg ?_|refine AtT.ze ?_|(first | refine AtT.zm tk3 ?_ | refine AtT.zo tk3 ?_)
   all_goals first|refine AtT.zg ?_|refine AtT.ze ?_|(first | refine AtT.kmul ?_ | refine AtT.kmulW ?_)
   all_goals first|refine AtT.zg ?_|refine AtT.ze ?_|(first | refine AtT.zi zy ?_ | with_reducible refine AtT.zk zy ?_ | refine AtT.zn zy ?_)
   all_goals first|refine AtT.zg ?_|refine AtT.ze ?_|(first | refine AtT.zm tk3 ?_ | refine AtT.zo tk3 ?_)
   all_goals first|refine AtT.zg ?_|refine AtT.ze ?_|(first | refine AtT.zi zx ?_ | with_reducible refine AtT.zk zx ?_ | refine AtT.zn zx ?_)
   all_goals first|refine AtT.zg ?_|refine AtT.ze ?_|(first | refine AtT.zm tk3 ?_ | refine AtT.zo tk3 ?_)
   all_goals first|refine AtT.zg ?_|refine AtT.ze ?_|(first | refine AtT.kmul ?_ | refine AtT.kmulW ?_)
   all_goals first|refine AtT.zg ?_|refine AtT.ze ?_|(refine AtT.kleq ?_)
   all_goals first|refine AtT.zg ?_|refine AtT.ze ?_|(refine AtT.zz ?_)
   all_goals (refine AtT.zz ?_)
   all_goals (refine AtT.zh ?_)
   all_goals (first | refine AtT.kL 111 ?_ | refine AtT.zB (d := 111) rfl (fun hg111 => ?_) (fun hg111 => ?_) | refine AtT.zA (d := 111) rfl (fun hg111 => ?_) (fun hg111 => ?_))
   all_goals first|refine AtT.zP ?_|refine AtT.zI ?_|((refine AtT.zq rfl rfl ok16 (works_f _) ?_) ; (rintro _ rfl))
   all_goals (refine AtT.zz ?_)
   all_goals (refine AtT.zf ?_)
   all_goals refine AtT.done ?_
   all_goals (refine At.nrm ?_)
   exact At.qb rfl (.tmp rfl) rfl
end Go.Proofs.YtghomjjffllkeaaGreatDoor
set_option linter.unusedVariables false
namespace Go.Proofs.YtghomjjffllkeaaGreatDoor.c10
open Go.Lw Go.Gl Go.Pm Go.RowKit Go.ChangeShapes Go.WideShapes Go.ChangeAt
set_option maxRecDepth 100000 in
theorem lifted (os : Os) (started : os.Started) (H : Type) (enc : TypeId × Value → H) :
    ReturnsInHanded {} Tryz.checked os 12 .any (fun w args => (Rows.patchLargestSpec.pre enc Tryz.prog Tryz.f12 [] false w args ∧ laidMetH Tryz.prog seatLaid w) ∧ sizedMet enc Tryz.prog Tryz.f12 (OpenSpec.ofChange Rows.patchLargestSpec) false w args) (Rows.patchLargestSpec.post enc Tryz.prog Tryz.f12 false true false false) := by
  refine law_liftL (tb := 4) (laid := seatLaid) (fun ds hd => by match ds, hd with | [d0, d1], _ => rfl) rfl (by kernel_rfl) Tryz.underlying4 laidOut (by kernel_rfl) own started (by kernel_rfl) Tryz.func12
    (ChangeSpec.witness_shaped (enc := enc) (C := Tryz.checked) (os := os) (X := fun w _ => laidMetH Tryz.prog seatLaid w) false (World.laidAll Tryz.prog os seatLaid) #[.agg #[.slice none 0 0, .int .i64 0], .agg #[.int .i64 0, .int .i64 0, .int .i64 0, .int .i64 0]] 8 (World.laidAll_os _ _ _)
      (World.shaped_of_ZipB (by kernel_rfl) (by kernel_rfl)) (by kernel_rfl) (by kernel_rfl) (by kernel_rfl) (seat_laid os _)) ?_
  intro W base args ds ps hval hA
  rw [Tryz.params12] at hA hval
  obtain ⟨v0, vs0, d0, ds0, p0, q0, hargs, rfl, rfl, h0, r0⟩ := trodAll_cons hA
  obtain ⟨v1, vs1, d1, ds1, p1, q1, rfl, rfl, rfl, h1, r1⟩ := trodAll_cons r0
  obtain ⟨rfl, rfl, rfl⟩ := trodAll_nil r1
  obtain rfl : args = #[v0, v1] := by cases args; simp_all
  obtain ⟨s0, k0⟩ := open_sheet (hval 0 24 v0 rfl rfl) h0
  obtain ⟨x1, rfl⟩ := open_piece (hval 1 26 v1 rfl rfl) h1
  exact ⟨[v0, pcv x1], rfl, patchLargest_f s0 x1 _ _ k0⟩

theorem over : Rows.patchLargestRow.holds Tryz.pinned (OpenSpec.ofChange Rows.patchLargestSpec) :=
  OpenClaim.holds_of_wide 12 Tryz.f12 rfl rfl rfl rfl rfl rfl rfl ⟨rfl, rfl, rfl, rfl, rfl⟩ rfl rfl rfl rfl rfl (by kernel_rfl) Tryz.func12 (by kernel_rfl)
    (of_decide_eq_true (by kernel_rfl)) (by unfold Func.isWrapper; first | (rw [if_pos (by decide +kernel)]; kernel_rfl) | (rw [if_neg (by decide +kernel)]; exact ⟨rfl, rfl⟩))
    (fun os started H enc _ => lifted os started H enc)

theorem proved : Rows.PatchLargestCardSaid :=
  Claim7.holds_tied_plain_at .later [] [.data, .pinned] true (true, "0d2a6361d0117277170b6b99c938bda2455ed98009332320e2a28814b9346cbd") false over (fun _ h => by cases h) (by kernel_rfl) (fun _ h => by cases h) patchLargest_row_tie rfl ⟨rfl, rfl⟩ (by kernel_rfl) rfl
    (fun f fn hf hfn => by
      obtain rfl : f = 12 := Option.some.inj ((show Tryz.prog.funcNamed "crossband/crossbandlaw04.PatchLargest" = some 12 by kernel_rfl).symm.trans hf) |>.symm
      obtain rfl : fn = Tryz.f12 := (Option.some.inj (Tryz.func12.symm.trans hfn)).symm
      exact ⟨by kernel_rfl, fun j t ht => by
        rw [Tryz.params12] at ht
        have hm : t ∈ [24, 26] := by simpa using Array.mem_of_getElem? ht
        have hall : ([24, 26].all fun u => !Tryz.prog.wantsStandIn u) = true := by kernel_rfl
        exact (show Tryz.prog.wantsStandIn t = false by simpa using List.all_eq_true.1 hall t hm)⟩)
    (by kernel_rfl)
#print axioms proved
end Go.Proofs.YtghomjjffllkeaaGreatDoor.c10
