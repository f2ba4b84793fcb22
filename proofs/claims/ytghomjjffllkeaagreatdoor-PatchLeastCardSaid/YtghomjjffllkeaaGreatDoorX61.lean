/- Each of the patches that are returned is the least rectangle with all knots that it has; knots can be under one patch just if their least rectangle can lie: for all valid sheets, knots by bits, how much wider a patch is by numbers. No condition. -/
import Derived.Test.YtghomjjffllkeaaGreatDoorB6
set_option linter.unusedVariables false
set_option linter.unusedSimpArgs false
set_option linter.unusedSectionVars false
set_option linter.unusedVariables false
namespace Go.Lw
open Go.RowKit
section
variable {cx : Cx} {n : Nat} {ks : List (Nat × Value)} {O : List Own} {V : View} {P : Program} {ops : Array Oper} {Qn : Act → World → Prop} {t : Tr} {i d : Nat} {T : TypeId} {pos : String} {after : Array Edge} {gd : Option (Nat × Bool)} {X Z : TypeId} {x y : Operand} {p q : Int}
end
end Go.Lw
set_option linter.unusedVariables false
namespace Go.Proofs.YtghomjjffllkeaaGreatDoor
open Go.Lw Go.Gl Go.Pm Go.RowKit Go.Shelf
end Go.Proofs.YtghomjjffllkeaaGreatDoor
set_option linter.unusedVariables false
namespace Go.Pm
open Go.Gl Go.Lw
def ShC (g : Gd) (a b : Cl) : Prop := ∃ p, Lies g p ∧ inP p a ∧ inP p b
def AlC (g : Gd) (K l : List Cl) : Prop := l.Pairwise (fun a b => ¬ ShC g a b) ∧ l.Nodup ∧ ∀ x ∈ l, x ∈ K
structure AlM (g : Gd) (K : List Cl) (m : Nat) : Prop where
 ex : ∃ l, AlC g K l ∧ l.length = m
 le : ∀ l, AlC g K l → l.length ≤ m
inductive RcC (g : Gd) (K : List Cl) (a : Cl) : Cl → Prop
 | refl : RcC g K a a
 | step {b c : Cl} : RcC g K a b → c ∈ K → ShC g b c → RcC g K a c
structure Rps (g : Gd) (K l : List Cl) : Prop where
 sub : ∀ x ∈ l, x ∈ K
 apart : l.Pairwise fun a b => ¬ RcC g K a b
 all : ∀ k ∈ K, ∃ x ∈ l, RcC g K x k
end Go.Pm
set_option linter.unusedVariables false
namespace Go.Pm
open Go.Gl Go.Lw
def rwS (s : Sh) (i : Nat) : ByteArray := s.rows.getD i ByteArray.empty
structure Dt (s x : Sh) (D : Cl → Prop) : Prop where
 most : x.most = s.most
 n : x.rows.length = s.rows.length
 sz : ∀ i, i < s.rows.length → (rwS x i).size = (rwS s i).size
 dot : ∀ (i k : Nat), i < s.rows.length → k < (rwS s i).size → D ⟨i, k⟩ → chS x i k = 46
 ch : ∀ (i k : Nat), i < s.rows.length → ¬ D ⟨i, k⟩ → chS x i k = chS s i k
structure Frm (s x : Sh) : Prop where
 n : x.rows.length = s.rows.length
 sz : ∀ i, i < s.rows.length → (rwS x i).size = (rwS s i).size
end Go.Pm
set_option linter.unusedVariables false
namespace Go.Pm
open Go.Gl Go.Lw
structure TnG (g g' : Gd) : Prop where
 R : g'.R = g.C
 C : g'.C = g.R
 most : g'.most = g.most
 fig : ∀ r c, 0 ≤ r → r < g.R → 0 ≤ c → c < g.C → g'.fig c (g.R - 1 - r) = g.fig r c
structure Emb (g g' : Gd) (K : List Cl) (f : Cl → Cl) (F B : Pc → Pc) : Prop where
 to : ∀ p, Lies g p → Lies g' (F p)
 bk : ∀ q k, Lies g' q → k ∈ K → inP q (f k) → Lies g (B q)
 fb : ∀ q, F (B q) = q
 inj : ∀ a b, f a = f b → a = b
 mem : ∀ p k, inP (F p) (f k) ↔ inP p k
 ar : ∀ p, arP (F p) = arP p
section
variable {g g' : Gd} {K : List Cl} {f : Cl → Cl} {F B : Pc → Pc} (E : Emb g g' K f F B)
include E
end
end Go.Pm
set_option linter.unusedVariables false
namespace Go.Pm
open Go.Gl Go.Lw
section
variable {s : Sh} (hs : jH s) {i k : Nat} (hi : i < s.rows.length) (hk : k < wdS s) (hc : chS s i k = 46)
include hs hi hk hc
end
end Go.Pm
set_option linter.unusedVariables false
namespace Go.Pm
open Go.Gl Go.Lw
end Go.Pm
set_option linter.unusedVariables false
namespace Go.Proofs.YtghomjjffllkeaaGreatDoor
open Go.Lw Go.Gl Go.Pm Go.RowKit Go.Shelf
theorem ckR_pe {s : Sh} (h : chE s = 0) (p : Pc) : ckR s p = peE (gdS s) p := by unfold ckR; rw [if_neg (by rw [h]; simp)]
theorem fine_no {s : Sh} (h : ¬ (!grB s && decide (chE s = 0)) = true) : (!grB s && decide (chE s = 0)) = false := by simpa using h
theorem fine_ok {s : Sh} (h : (!grB s && decide (chE s = 0)) = true) : grB s = false ∧ chE s = 0 := by simpa using h
end Go.Proofs.YtghomjjffllkeaaGreatDoor
set_option linter.unusedVariables false
namespace Go.Pm
open Go.Gl Go.Lw
def inB (p : Pc) (K : List Cl) : Nat → Nat
 | 0 => 0
 | k + 1 => match K[k]? with
  | some x => if inP p x then inB p K k ||| 2 ^ k else inB p K k
  | none => inB p K k
theorem inB_at {p : Pc} {K : List Cl} {k : Nat} {x : Cl} (h : K[k]? = some x) : inB p K (k + 1) = if inP p x then inB p K k ||| 2 ^ k else inB p K k := by simp only [inB, h]
theorem inB_lt (p : Pc) (K : List Cl) : ∀ n, inB p K n < 2 ^ n
 | 0 => by simp [inB]
 | n + 1 => by
  have ih := inB_lt p K n
  have h2 : 2 ^ n < 2 ^ (n + 1) := Nat.pow_lt_pow_right (by decide) (by omega)
  simp only [inB]
  split
  ·split
   ·exact Nat.or_lt_two_pow (by omega) h2
   ·omega
  ·omega
theorem inB_bit (p : Pc) (K : List Cl) (j : Nat) : ∀ n, (inB p K n).testBit j = true ↔ j < n ∧ ∃ x, K[j]? = some x ∧ inP p x
 | 0 => by simp [inB]
 | n + 1 => by
  have ih := inB_bit p K j n
  simp only [inB]
  split
  ·rename_i x hx
   split
   ·rename_i hp
    rw [Nat.testBit_or, Bool.or_eq_true, ih, Nat.testBit_two_pow, decide_eq_true_eq]
    constructor
    ·rintro (⟨h1, h2⟩ | rfl)
     ·exact ⟨by omega, h2⟩
     ·exact ⟨by omega, x, hx, hp⟩
    ·rintro ⟨h1, y, hy, hi⟩
     by_cases e : n = j
     ·exact .inr e
     ·exact .inl ⟨by omega, y, hy, hi⟩
   ·rename_i hp
    rw [ih]
    constructor
    ·rintro ⟨h1, h2⟩; exact ⟨by omega, h2⟩
    ·rintro ⟨h1, y, hy, hi⟩
     by_cases e : n = j
     ·subst e; rw [hx] at hy; cases hy; exact absurd hi hp
     ·exact ⟨by omega, y, hy, hi⟩
  ·rename_i hx
   rw [ih]
   constructor
   ·rintro ⟨h1, h2⟩; exact ⟨by omega, h2⟩
   ·rintro ⟨h1, y, hy, hi⟩
    by_cases e : n = j
    ·subst e; rw [hx] at hy; cases hy
    ·exact ⟨by omega, y, hy, hi⟩
theorem pcLe_anti {p q : Pc} (h : PcLe p q) (k : PcLe q p) : p = q := by
 unfold PcLe at h k; cases p; cases q; simp only [Pc.mk.injEq] at *; omega
theorem in_least {g : Gd} (hg : GOk g) {K : List Cl} (hon : ∀ k ∈ K, OnG g k) {ps : List Pc} (hm : MnR g K ps) {p : Pc} (hp : p ∈ ps) : inB p K K.length ≠ 0 ∧ bbx (sel K (inB p K K.length)) = p := by
 obtain ⟨q, q0, ql, rfl⟩ := hm.least p hp
 obtain ⟨j, hj⟩ : ∃ j, q.testBit j = true := by
  obtain ⟨i, hi, _⟩ := low_at q0
  exact ⟨i, hi⟩
 have hsub : ∀ x ∈ sel K q, x ∈ sel K (inB (bbx (sel K q)) K K.length) := fun x hx => by
  obtain ⟨i, hi, hb⟩ := jd.1 hx
  exact jd.2 ⟨i, hi, (inB_bit _ _ _ _).2 ⟨(List.getElem?_eq_some_iff.1 hi).1, x, hi, bbx_in hx⟩⟩
 have hin : ∀ x ∈ sel K (inB (bbx (sel K q)) K K.length), inP (bbx (sel K q)) x := fun x hx => by
  obtain ⟨i, hi, hb⟩ := jd.1 hx
  obtain ⟨_, y, hy, hp⟩ := (inB_bit _ _ _ _).1 hb
  rw [hi] at hy; cases hy; exact hp
 have hne := sel_ne q0 ql
 obtain ⟨x, hx⟩ := List.exists_mem_of_ne_nil _ hne
 have hx2 := hsub x hx
 have hne2 : sel K (inB (bbx (sel K q)) K K.length) ≠ [] := fun e => by rw [e] at hx2; cases hx2
 refine ⟨fun e => ?_, ?_⟩
 ·obtain ⟨i, hi, hb⟩ := jd.1 hx2
  rw [e, Nat.zero_testBit] at hb; cases hb
 ·exact pcLe_anti (bbx_le hne2 (fun k hk => on_bd hg (hon k (sel_in hk))) hin) (bbx_le hne (fun k hk => on_bd hg (hon k (sel_in hk))) fun k hk => bbx_in (hsub k hk))
theorem bbx_on {g : Gd} {l : List Cl} (hg : GOk g) (h : l ≠ []) (hon : ∀ k ∈ l, OnG g k) : 0 ≤ (bbx l).t ∧ (bbx l).t + (bbx l).h ≤ g.R ∧ 0 ≤ (bbx l).l ∧ (bbx l).l + (bbx l).w ≤ g.C := by
 have hR := hg.R
 have hC := hg.C
 have := bbx_le (p := ⟨0, 0, g.R, g.C⟩) h (fun k hk => on_bd hg (hon k hk)) fun k hk => by
  have := hon k hk
  unfold OnG at this
  unfold inP
  dsimp only; omega
 unfold PcLe at this
 dsimp only at this; omega
theorem peE_on {g : Gd} {l : List Cl} (hg : GOk g) (h : l ≠ []) (hon : ∀ k ∈ l, OnG g k) : peE g (bbx l) ≠ 3 := by
 have h1 := bbx_on hg h hon
 have h2 := bbx_pos h
 unfold peE
 rw [if_neg (by omega)]
 split
 ·decide
 ·split <;> decide
theorem wide_no {g : Gd} {l : List Cl} (h : l ≠ []) {a b c d : Int} (ha : 0 ≤ a) (hb : 0 ≤ b) (hc : 0 ≤ c) (hd : 0 ≤ d) (h0 : peE g (bbx l) ≠ 0) : peE g ⟨(bbx l).t - a, (bbx l).l - b, (bbx l).h + a + c, (bbx l).w + b + d⟩ ≠ 0 := fun he => h0 (jB.2 (lies_le (by unfold PcLe; dsimp only; omega) (bbx_pos h).1 (bbx_pos h).2 (jB.1 he)))
end Go.Pm
set_option linter.unusedVariables false
namespace Go.Pm
open Go.Gl Go.Lw
theorem tm2 {z : Int} (h : 0 ≤ z) : 0 ≤ Int.tmod z 2 ∧ Int.tmod z 2 ≤ 1 := ⟨Int.tmod_nonneg _ h, by have := Int.tmod_lt_of_pos z (b := 2) (by decide); omega⟩
theorem td_bd {z k : Int} (h : 0 ≤ z ∧ z ≤ 255) (hk : 1 ≤ k) : 0 ≤ Int.tdiv z k ∧ Int.tdiv z k ≤ 255 := by
 rw [Int.tdiv_eq_ediv_of_nonneg h.1]
 exact ⟨Int.ediv_nonneg h.1 (by omega), Int.le_trans (Int.ediv_le_self _ h.1) h.2⟩
end Go.Pm
namespace Go.Proofs.YtghomjjffllkeaaGreatDoor
open Go.Lw Go.Gl Go.Pm Go.RowKit Go.Shelf
theorem patchLeast_f (s : Sh) (bt W : Int) (hbt : 0 ≤ bt ∧ bt ≤ 65535) (hW : 0 ≤ W ∧ W ≤ 255) (V : View) (v : Value) (hv : ShV V v s) : Fnc Tryz.prog 8 [v, .int .u16 bt, .int .u8 W] V fun r _ => r = .bool true := by
 obtain ⟨a, c, rfl, hs⟩ := id hv
 obtain ⟨A, rfl⟩ : ∃ A : Nat, bt = (A : Int) := ⟨bt.toNat, by omega⟩
 refine qc Tryz.func8 rfl Tryz.ntmps8 (Nat.le_of_ble_eq_true rfl) ?_
 intro w0 hw0
 refine At.nrm ?_
 refine At.zi (.n false 0 (.q 1 .done)) ?_
 refine AtT.qV ?_
 intro b3
 refine AtT.zh ?_
 refine AtT.done ?_
 refine At.nrm ?_
 by_cases gf : (!grB s && decide (chE s = 0)) = true
 rotate_left
 ·refine At.zi (.q 0 (.n false 1 (.q 2 .done))) ?_
  first | refine AtT.zu zx ?_ | refine AtT.zC zx ?_ | refine AtT.zt zx ?_
  refine AtT.zq rfl rfl ok43 (fine_f s _ _ hv) ?_
  rintro _ rfl
  refine AtT.setB (d := 21) rfl ((fine_no gf)) ?_
  refine AtT.jh ?_
  refine AtT.setB (d := 22) rfl ((show (!false) = true from rfl)) ?_
  refine AtT.done ?_
  refine At.nrm ?_
  refine At.qB rfl rfl ?_
  refine At.nrm ?_
  refine At.zi (.n false 0 (.q 1 .done)) ?_
  refine AtT.zq rfl rfl ok16 (works_f _) ?_
  rintro _ rfl
  refine AtT.zh ?_
  refine AtT.done ?_
  refine At.nrm ?_
  exact At.qd rfl (.tmp rfl) rfl
 obtain ⟨gg, h0⟩ := fine_ok gf
 have hok := jl h0
 have hkn := hok.kn
 have hg := sh_gok hok
 have hon := kn_on hok
 have hkb : ∀ k ∈ knL s, 0 ≤ k.r ∧ k.r ≤ 99 ∧ 0 ≤ k.c ∧ k.c ≤ 99 := fun k hk => by
  have h1 := hon k hk
  have h2 := on_bd hg h1
  unfold OnG at h1
  omega
 have hp2 : 2 ^ (knL s).length ≤ 2 ^ 10 := Nat.pow_le_pow_right (by decide) hkn
 have hp0 := Nat.two_pow_pos (knL s).length
 refine At.zi (.q 0 (.n false 1 (.q 2 .done))) ?_
 first | refine AtT.zu zx ?_ | refine AtT.zC zx ?_ | refine AtT.zt zx ?_
 refine AtT.zq rfl rfl ok43 (fine_f s _ _ hv) ?_
 rintro _ rfl
 refine AtT.setB (d := 21) rfl (gf) ?_
 refine AtT.jh ?_
 refine AtT.setB (d := 22) rfl ((show (!true) = false from rfl)) ?_
 refine AtT.done ?_
 refine At.nrm ?_
 refine At.qE rfl rfl ?_
 refine At.nrm ?_
 refine At.zi (.q 0 (.n false 1 (.q 2 .done))) ?_
 first | refine AtT.zu zx ?_ | refine AtT.zC zx ?_ | refine AtT.zt zx ?_
 refine AtT.qg rfl rfl ok44 (jr s (by have := hok.n; omega) (fun r hr => by rw [hok.sz r hr]; have := hok.w; omega) _ _ hv) ?_
 rintro _ V25 hV25 hk25; obtain ⟨a25, c25, rfl, k1, k2, _⟩ := id hk25; clear k1 k2
 refine AtT.zh ?_
 refine AtT.done ?_
 refine At.nrm ?_
 replace hv := hv.le hV25
 clear hV25
 refine At.zi (.q 0 (.n false 1 (.q 2 (.q 3 (.q 4 (.q 5 (.q 6 (.q 7 (.q 8 (.q 9 (.q 10 .done))))))))))) ?_
 first | refine AtT.zu zx ?_ | refine AtT.zC zx ?_ | refine AtT.zt zx ?_
 refine AtT.qg rfl rfl ok45 (few_f s h0 _ _ hv) ?_
 rintro _ V28 hV28 ⟨a28, c28, ps, rfl, hs28, hm⟩
 refine AtT.zf ?_
 refine AtT.zO ?_
 refine AtT.zO ?_
 refine AtT.zO ?_
 refine AtT.zO ?_
 refine AtT.zh ?_
 refine AtT.zh ?_
 refine AtT.zh ?_
 refine AtT.zh ?_
 refine AtT.done ?_
 refine At.nrm ?_
 replace hv := hv.le hV28
 replace hk25 := hk25.le hV28
 clear hV28
 have hbl := best_le_len hg hon (kn_fig hok) hm.best
 refine At.zi (.q 0 (.q 1 .done)) ?_
 refine AtT.zf ?_
 refine AtT.setB (d := 33) rfl (rfl) ?_
 refine AtT.jh ?_
 refine AtT.setB (d := 34) rfl ((show (!true) = false from rfl)) ?_
 refine AtT.done ?_
 refine At.nrm ?_
 refine At.qE rfl rfl ?_
 refine At.nrm ?_
 refine At.zi (.q 0 .done) ?_
 refine AtT.zh ?_
 refine AtT.done ?_
 refine At.nrm ?_
 refine At.lp (ι := Nat) (KS := fun i => [(1, .int .u16 A), (2, .int .u8 W), (3, .pointer (some ⟨b3, 0, none⟩)), (7, .slice a25 (knL s).length c25), (10, .slice a28 ps.length c28), (12, iv i)])
  (OS := fun _ => [.blk b3 (LC [.slice a s.rows.length c, iv s.most] 24)]) (VS := fun i V' => V' = V28 ∧ i ≤ ps.length) (μ := fun i => ps.length - i) 0 ?_ ?_ ?_ ?_
 ·exact ⟨rfl, rfl, rfl, rfl, rfl, rfl, trivial⟩
 ·exact Pt.zI
 ·exact ⟨rfl, Nat.zero_le _⟩
 rintro i V' ks' O' ⟨rfl, hil⟩ hk hO hl2
 subst hk hO
 refine At.nrm ?_
 refine At.zi (.q 0 (.q 1 (.q 2 (.q 3 .done)))) ?_
 refine AtT.zf ?_
 refine AtT.zf ?_
 first | refine AtT.zU Tryz.underlying27 ?_ | refine AtT.zV Tryz.underlying27 ?_
 refine AtT.zY ?_
 refine AtT.done ?_
 refine At.nrm ?_
 refine At.zX rfl (fun hp => ?_) (fun hp => ?_)
 ·obtain ⟨p, hpk⟩ : ∃ p, ps[i]? = some p := ⟨_, List.getElem?_eq_getElem (by omega)⟩
  have hpm := List.mem_of_getElem? hpk
  have hbd := lies_bd hok (hm.mends.lies p hpm)
  obtain ⟨hin0, hinb⟩ := in_least hg hon hm hpm
  have hinl := inB_lt p (knL s) (knL s).length
  have hpt : ((i : Int)).toNat = i := Int.toNat_natCast i
  refine At.nrm ?_
  refine At.zi (.q 0 .done) ?_
  refine AtT.zh ?_
  refine AtT.done ?_
  refine At.nrm ?_
  refine At.zi (.q 0 .done) ?_
  refine AtT.zh ?_
  refine AtT.done ?_
  refine At.nrm ?_
  refine At.lp (ι := Nat) (KS := fun k => [(1, .int .u16 A), (2, .int .u8 W), (3, .pointer (some ⟨b3, 0, none⟩)), (7, .slice a25 (knL s).length c25), (10, .slice a28 ps.length c28), (12, iv i), (13, iv (inB p (knL s) k)), (14, iv k)])
   (OS := fun _ => [.blk b3 (LC [.slice a s.rows.length c, iv s.most] 24)]) (VS := fun k V'' => V'' = V' ∧ k ≤ (knL s).length) (μ := fun k => (knL s).length - k) 0 ?_ ?_ ?_ ?_
  ·exact ⟨rfl, rfl, rfl, rfl, rfl, rfl, rfl, rfl, trivial⟩
  ·exact Pt.zI
  ·exact ⟨rfl, Nat.zero_le _⟩
  rintro k V'' ks' O' ⟨rfl, hkl⟩ hk hO hl3
  subst hk hO
  refine At.nrm ?_
  refine At.zi (.q 0 (.q 1 (.q 2 (.q 3 .done)))) ?_
  refine AtT.zf ?_
  refine AtT.zf ?_
  first | refine AtT.zU Tryz.underlying58 ?_ | refine AtT.zV Tryz.underlying58 ?_
  refine AtT.zY ?_
  refine AtT.done ?_
  refine At.nrm ?_
  refine At.zX rfl (fun hp3 => ?_) (fun hp3 => ?_)
  ·obtain ⟨x, hx⟩ : ∃ x, (knL s)[k]? = some x := ⟨_, List.getElem?_eq_getElem (by omega)⟩
   have hat := inB_at (p := p) hx
   have hl5 := inB_lt p (knL s) k
   have hk10 : 2 ^ k ≤ 2 ^ 10 := Nat.pow_le_pow_right (by decide) (by omega)
   refine At.nrm ?_
   refine At.draw (.q 0 (.q 1 (.q 2 (.q 3 (.q 4 (.q 5 (.q 6 (.q 7 (.n false 8 .done))))))))) ffm (by kernel_rfl) ?_
   refine AtT.zf ?_
   refine AtT.zf ?_
   refine AtT.qi Tryz.underlying27 zQ ?_
   intro p49 e49 he49 hc49
   first | refine AtT.zu zQ ?_ | refine AtT.zC zQ ?_ | refine AtT.zt zQ ?_
   obtain rfl : p = e49 := by have : ps[i]? = some e49 := (by simpa using he49); rw [hpk] at this; simpa using this
   refine AtT.zf ?_
   refine AtT.zf ?_
   refine AtT.qi Tryz.underlying58 tk67 ?_
   intro p53 e53 he53 hc53
   first | refine AtT.zu tk67 ?_ | refine AtT.zC tk67 ?_ | refine AtT.zt tk67 ?_
   obtain rfl : x = e53 := by have : (knL s)[k]? = some e53 := (by simpa using he53); rw [hx] at this; simpa using this
   refine AtT.zq rfl rfl ok48 (rhas_f p x hbd _) ?_
   rintro _ rfl
   refine AtT.done ?_
   refine At.nrm ?_
   refine At.zX rfl (fun hc => ?_) (fun hc => ?_)
   ·rw [if_pos hc] at hat
    refine At.nrm ?_
    refine At.zi (.q 0 (.q 1 (.q 2 (.q 3 (.q 4 .done))))) ?_
    refine AtT.zf ?_
    refine AtT.zf ?_
    refine AtT.shlN rfl trivial rfl rfl rfl (by omega) (by decide) (N := k) ?_
    refine AtT.orN rfl trivial rfl rfl rfl rfl (by omega) (by omega) (by decide) (A := inB p (knL s) k) (B := 2 ^ k) ?_
    refine AtT.zh ?_
    refine AtT.done ?_
    refine At.nrm ?_
    refine At.nrm ?_
    refine At.zi (.q 0 (.q 1 (.q 2 .done))) ?_
    refine AtT.zf ?_
    first | refine AtT.qh ?_ | refine AtT.zT ?_
    refine AtT.zh ?_
    refine AtT.done ?_
    refine At.nrm ?_
    refine At.round (k + 1) ?_ ?_ ?_ ?_
    ·show (knL s).length - (k + 1) < (knL s).length - k; omega
    ·exact ⟨rfl, by omega⟩
    ·rw [hat]; exact ⟨rfl, rfl, rfl, rfl, rfl, rfl, rfl, ivs (by omega), trivial⟩
    ·exact Pt.zI
   ·rw [if_neg hc] at hat
    refine At.nrm ?_
    refine At.zi (.q 0 (.q 1 (.q 2 .done))) ?_
    refine AtT.zf ?_
    first | refine AtT.qh ?_ | refine AtT.zT ?_
    refine AtT.zh ?_
    refine AtT.done ?_
    refine At.nrm ?_
    refine At.round (k + 1) ?_ ?_ ?_ ?_
    ·show (knL s).length - (k + 1) < (knL s).length - k; omega
    ·exact ⟨rfl, by omega⟩
    ·rw [hat]; exact ⟨rfl, rfl, rfl, rfl, rfl, rfl, rfl, ivs (by omega), trivial⟩
    ·exact Pt.zI
  obtain rfl : k = (knL s).length := by omega
  refine At.nrm ?_
  refine At.draw (.q 0 (.q 1 (.q 2 (.q 3 (.q 4 (.q 6 (.q 7 (.q 8 (.q 9 (.n false 5 (.q 10 (.q 11 .done)))))))))))) ffm (by kernel_rfl) ?_
  refine AtT.zf ?_
  refine AtT.qK ?_
  refine AtT.qj (d := 61) rfl ((by omega)) ?_
  refine AtT.zf ?_
  all_goals (first | refine AtT.kL 62 ?_ | refine AtT.zA (d := 62) rfl (fun hg62 => ?_) (fun hg62 => ?_) | refine AtT.zz (d := 62) rfl (fun hg62 => ?_) (fun hg62 => ?_))
  all_goals first|refine AtT.zg ?_|refine AtT.ze ?_|(refine AtT.zf ?_)
  all_goals first|refine AtT.zg ?_|refine AtT.ze ?_|(refine AtT.zf ?_)
  all_goals first|refine AtT.zg ?_|refine AtT.ze ?_|(refine AtT.zf ?_)
  all_goals first|refine AtT.zg ?_|refine AtT.ze ?_|(refine AtT.zf ?_)
  all_goals first|refine AtT.zg ?_|refine AtT.ze ?_|(refine AtT.qi Tryz.underlying27 zQ ?_) ; (intro p68 e68 he68 hc68)
  all_goals first|refine AtT.zg ?_|refine AtT.ze ?_|(first | refine AtT.zu zQ ?_ | refine AtT.zC zQ ?_ | refine AtT.zt zQ ?_)
  all_goals (obtain rfl : p = e68 := by have : ps[i]? = some e68 := (by simpa using he68); rw [hpk] at this; simpa using this)
  all_goals (first | refine AtT.zP ?_ | refine AtT.zJ ?_ | ((refine AtT.zq rfl rfl ok49 (rleast_f (knL s) hkb (by omega) (inB p (knL s) (knL s).length) (by omega) _ _ hk25) ?_) ; (rintro _ rfl; rw [hinb])))
  all_goals first|refine AtT.zg ?_|refine AtT.ze ?_|(refine AtT.kneS (eqS26 _ _ _ _ _ _ _ _) ?_)
  all_goals (refine AtT.setB (d := 70) rfl ((show (!decide (p.t = p.t ∧ p.l = p.l ∧ p.h = p.h ∧ p.w = p.w)) = false from by simp)) ?_)
  all_goals (refine AtT.zy ?_)
  all_goals refine AtT.done ?_
  all_goals (refine At.nrm ?_)
  refine At.qE rfl rfl ?_
  refine At.nrm ?_
  refine At.zi (.q 0 (.q 1 (.q 2 .done))) ?_
  refine AtT.zf ?_
  first | refine AtT.qh ?_ | refine AtT.zT ?_
  refine AtT.zh ?_
  refine AtT.done ?_
  refine At.nrm ?_
  refine At.round (i + 1) ?_ ?_ ?_ ?_
  ·show ps.length - (i + 1) < ps.length - i; omega
  ·exact ⟨rfl, by omega⟩
  ·exact ⟨rfl, rfl, rfl, rfl, rfl, ivs (by omega), trivial⟩
  ·exact Pt.zI
 obtain rfl : i = ps.length := by omega
 have han : A &&& (2 ^ (knL s).length - 1) < 9223372036854775808 := Nat.lt_of_le_of_lt Nat.and_le_right (by omega)
 have hal : A &&& (2 ^ (knL s).length - 1) < 2 ^ (knL s).length := Nat.and_lt_two_pow _ (by omega)
 refine At.nrm ?_
 refine At.zi (.q 0 (.q 1 (.q 2 (.q 3 (.q 4 (.q 5 (.q 6 (.q 7 .done)))))))) ?_
 refine AtT.zf ?_
 refine AtT.kconv un57 Tryz.underlying3 ?_
 rw [wrap_fit (Fit.of (by omega) (by omega))]
 refine AtT.zf ?_
 first | refine AtT.zU Tryz.underlying58 ?_ | refine AtT.zV Tryz.underlying58 ?_
 refine AtT.shlN rfl trivial rfl rfl rfl (by omega) (by decide) (N := (knL s).length) ?_
 first | refine AtT.qz ?_ | refine AtT.qA ?_
 refine AtT.andN rfl trivial rfl rfl rfl (by omega) (by omega) (by omega) (by decide) (A := A) (B := 2 ^ (knL s).length - 1) ?_
 refine AtT.zh ?_
 refine AtT.done ?_
 refine At.nrm ?_
 refine At.zi (.q 0 (.q 1 .done)) ?_
 refine AtT.zf ?_
 refine AtT.qK ?_
 refine AtT.done ?_
 refine At.nrm ?_
 by_cases ho : A &&& (2 ^ (knL s).length - 1) = 0
 ·refine At.qB rfl (decide_eq_true (by omega)) ?_
  refine At.nrm ?_
  refine At.zi (.n false 0 (.q 1 .done)) ?_
  refine AtT.zq rfl rfl ok16 (works_f _) ?_
  rintro _ rfl
  refine AtT.zh ?_
  refine AtT.done ?_
  refine At.nrm ?_
  exact At.qd rfl (.tmp rfl) rfl
 refine At.qE rfl (decide_eq_false (by omega)) ?_
 have hne := sel_ne ho hal
 have hson : ∀ k ∈ sel (knL s) (A &&& (2 ^ (knL s).length - 1)), OnG (gdS s) k := fun k hk => hon k (sel_in hk)
 have hxo := bbx_on hg hne hson
 have hxp := bbx_pos hne
 have hR := hg.R
 have hC := hg.C
 have q2 := td_bd hW (k := 2) (by decide)
 have q4 := td_bd hW (k := 4) (by decide)
 have q8 := td_bd hW (k := 8) (by decide)
 have m1 := tm2 hW.1
 have m2 := tm2 q2.1
 have m4 := tm2 q4.1
 have m8 := tm2 q8.1
 refine At.nrm ?_
 refine At.zi (.q 0 (.q 1 (.n false 2 (.n false 3 (.n true 4 .done))))) ?_
 refine AtT.zf ?_
 refine AtT.zf ?_
 refine AtT.zq rfl rfl ok49 (rleast_f (knL s) hkb (by omega) (A &&& (2 ^ (knL s).length - 1)) han _ _ hk25) ?_
 rintro _ rfl
 refine AtT.qw z26 ?_
 intro b16
 refine AtT.zW zQ ?_
 refine AtT.done ?_
 refine At.nrm ?_
 generalize hX : bbx (sel (knL s) (A &&& (2 ^ (knL s).length - 1))) = X at *
 refine At.zi (.q 0 (.q 1 (.q 2 (.q 3 (.q 4 (.q 5 (.q 6 (.q 7 (.q 8 (.q 9 (.q 10 (.q 11 (.q 12 (.q 13 (.q 14 (.q 15 (.q 16 (.q 17 (.q 18 (.q 19 (.q 20 (.q 21 (.q 22 (.q 23 (.q 24 (.q 25 (.q 26 (.q 27 (.q 28 (.q 29 (.q 30 (.q 31 (.q 32 (.q 33 (.q 34 (.q 35 (.q 36 (.n false 37 (.n true 38 .done))))))))))))))))))))))))))))))))))))))) ?_
 first | refine AtT.zk zL ?_ | with_reducible refine AtT.zl zL ?_ | refine AtT.zn zL ?_
 first | refine AtT.zm tk3 ?_ | refine AtT.zo tk3 ?_
 refine AtT.zf ?_
 refine AtT.kconv un5 Tryz.underlying3 ?_
 rw [wrap_fit (Fit.of (by omega) (by omega))]
 refine AtT.krem ?_
 first | refine AtT.qz ?_ | refine AtT.qA ?_
 first | refine AtT.zk zK ?_ | with_reducible refine AtT.zl zK ?_ | refine AtT.zn zK ?_
 first | refine AtT.zm tk3 ?_ | refine AtT.zo tk3 ?_
 refine AtT.zf ?_
 refine AtT.kconv un5 Tryz.underlying3 ?_
 rw [wrap_fit (Fit.of (by omega) (by omega))]
 refine AtT.kquo ?_
 refine AtT.krem ?_
 first | refine AtT.qz ?_ | refine AtT.qA ?_
 first | refine AtT.zk zG ?_ | with_reducible refine AtT.zl zG ?_ | refine AtT.zn zG ?_
 first | refine AtT.zm tk3 ?_ | refine AtT.zo tk3 ?_
 refine AtT.zf ?_
 refine AtT.kconv un5 Tryz.underlying3 ?_
 rw [wrap_fit (Fit.of (by omega) (by omega))]
 refine AtT.krem ?_
 first | refine AtT.qh ?_ | refine AtT.zT ?_
 refine AtT.zf ?_
 refine AtT.kconv un5 Tryz.underlying3 ?_
 rw [wrap_fit (Fit.of (by omega) (by omega))]
 refine AtT.kquo ?_
 refine AtT.krem ?_
 first | refine AtT.qh ?_ | refine AtT.zT ?_
 first | refine AtT.zk zH ?_ | with_reducible refine AtT.zl zH ?_ | refine AtT.zn zH ?_
 first | refine AtT.zm tk3 ?_ | refine AtT.zo tk3 ?_
 refine AtT.zf ?_
 refine AtT.kconv un5 Tryz.underlying3 ?_
 rw [wrap_fit (Fit.of (by omega) (by omega))]
 refine AtT.kquo ?_
 refine AtT.krem ?_
 first | refine AtT.qh ?_ | refine AtT.zT ?_
 refine AtT.zf ?_
 refine AtT.kconv un5 Tryz.underlying3 ?_
 rw [wrap_fit (Fit.of (by omega) (by omega))]
 refine AtT.kquo ?_
 refine AtT.krem ?_
 first | refine AtT.qh ?_ | refine AtT.zT ?_
 refine AtT.qU (jL _ _ _ _) ?_
 refine AtT.qw z26 ?_
 intro b17
 refine AtT.zW zQ ?_
 refine AtT.done ?_
 refine At.nrm ?_
 have h3 := peE_on hg hne hson
 have hwd := wide_no (g := gdS s) hne m1.1 m2.1 m4.1 m8.1
 rw [hX] at h3 hwd
 refine At.draw (.q 0 (.q 1 (.q 3 (.q 4 (.n false 2 (.n false 5 (.q 6 (.q 7 .done)))))))) ffm (by kernel_rfl) ?_
 first | refine AtT.zu zx ?_ | refine AtT.zC zx ?_ | refine AtT.zt zx ?_
 first | refine AtT.zu zQ ?_ | refine AtT.zC zQ ?_ | refine AtT.zt zQ ?_
 first | refine AtT.zu zx ?_ | refine AtT.zC zx ?_ | refine AtT.zt zx ?_
 first | refine AtT.zu zQ ?_ | refine AtT.zC zQ ?_ | refine AtT.zt zQ ?_
 refine AtT.zq rfl rfl ok21 (qD s X _ _ hv) ?_
 rintro _ rfl; rw [ckR_pe h0]
 refine AtT.zq rfl rfl ok21 (qD s ⟨X.t - Int.tmod W 2, X.l - Int.tmod (Int.tdiv W 2) 2, X.h + Int.tmod W 2 + Int.tmod (Int.tdiv W 4) 2, X.w + Int.tmod (Int.tdiv W 2) 2 + Int.tmod (Int.tdiv W 8) 2⟩ _ _ hv) ?_
 rintro _ rfl; rw [ckR_pe h0]
 refine AtT.zh ?_
 refine AtT.zh ?_
 refine AtT.done ?_
 refine At.nrm ?_
 by_cases hz : peE (gdS s) X = 0
 ·refine At.zi (.q 0 (.q 1 (.q 2 (.q 3 (.q 4 (.q 5 (.q 6 (.q 7 (.q 8 (.q 9 (.q 10 (.n false 11 (.q 12 (.q 13 .done)))))))))))))) ?_
  refine AtT.zf ?_
  refine AtT.qC ?_
  refine AtT.qp (d := 129) rfl (h3) ?_
  refine AtT.zf ?_
  all_goals (first | refine AtT.kL 130 ?_ | refine AtT.zA (d := 130) rfl (fun hg130 => ?_) (fun hg130 => ?_) | refine AtT.zz (d := 130) rfl (fun hg130 => ?_) (fun hg130 => ?_))
  all_goals first|refine AtT.zg ?_|refine AtT.ze ?_|(refine AtT.zf ?_)
  all_goals first|refine AtT.zg ?_|refine AtT.ze ?_|(refine AtT.qK ?_)
  all_goals (refine AtT.qp (d := 132) rfl (hz) ?_)
  all_goals first|refine AtT.zg ?_|refine AtT.ze ?_|(refine AtT.zf ?_)
  all_goals (first | refine AtT.kL 133 ?_ | refine AtT.zA (d := 133) rfl (fun hg133 => ?_) (fun hg133 => ?_) | refine AtT.zz (d := 133) rfl (fun hg133 => ?_) (fun hg133 => ?_))
  all_goals first|refine AtT.zg ?_|refine AtT.ze ?_|(refine AtT.zf ?_)
  all_goals first|refine AtT.zg ?_|refine AtT.ze ?_|(refine AtT.qC ?_)
  all_goals first|refine AtT.zg ?_|refine AtT.ze ?_|(refine AtT.zy ?_)
  all_goals (refine AtT.zy ?_)
  all_goals (refine AtT.zf ?_)
  all_goals (first | refine AtT.kL 138 ?_ | refine AtT.zA (d := 138) rfl (fun hg138 => ?_) (fun hg138 => ?_) | refine AtT.zz (d := 138) rfl (fun hg138 => ?_) (fun hg138 => ?_))
  all_goals (first | refine AtT.zP ?_ | refine AtT.zJ ?_ | ((refine AtT.zq rfl rfl ok16 (works_f _) ?_) ; (rintro _ rfl)))
  all_goals (refine AtT.zy ?_)
  all_goals (refine AtT.zh ?_)
  all_goals refine AtT.done ?_
  all_goals (refine At.nrm ?_)
  exact At.qd rfl (.tmp rfl) rfl
 ·refine At.zi (.q 0 (.q 1 (.q 2 (.q 3 (.q 4 (.q 5 (.q 6 (.q 7 (.q 8 (.q 9 (.q 10 (.n false 11 (.q 12 (.q 13 .done)))))))))))))) ?_
  refine AtT.zf ?_
  refine AtT.qC ?_
  refine AtT.qp (d := 129) rfl (h3) ?_
  refine AtT.zf ?_
  all_goals (first | refine AtT.kL 130 ?_ | refine AtT.zA (d := 130) rfl (fun hg130 => ?_) (fun hg130 => ?_) | refine AtT.zz (d := 130) rfl (fun hg130 => ?_) (fun hg130 => ?_))
  all_goals first|refine AtT.zg ?_|refine AtT.ze ?_|(refine AtT.zf ?_)
  all_goals first|refine AtT.zg ?_|refine AtT.ze ?_|(refine AtT.qK ?_)
  all_goals (refine AtT.qj (d := 132) rfl (hz) ?_)
  all_goals first|refine AtT.zg ?_|refine AtT.ze ?_|(refine AtT.zf ?_)
  all_goals (first | refine AtT.kL 133 ?_ | refine AtT.zA (d := 133) rfl (fun hg133 => ?_) (fun hg133 => ?_) | refine AtT.zz (d := 133) rfl (fun hg133 => ?_) (fun hg133 => ?_))
  all_goals first|refine AtT.zg ?_|refine AtT.ze ?_|(refine AtT.zf ?_)
  all_goals first|refine AtT.zg ?_|refine AtT.ze ?_|(refine AtT.qC ?_)
  all_goals (refine AtT.qp (d := 135) rfl ((hwd hz)) ?_)
  all_goals first|refine AtT.zg ?_|refine AtT.ze ?_|(refine AtT.zy ?_)
  all_goals (refine AtT.zy ?_)
  all_goals (refine AtT.zf ?_)
  all_goals (first | refine AtT.kL 138 ?_ | refine AtT.zA (d := 138) rfl (fun hg138 => ?_) (fun hg138 => ?_) | refine AtT.zz (d := 138) rfl (fun hg138 => ?_) (fun hg138 => ?_))
  all_goals (first | refine AtT.zP ?_ | refine AtT.zJ ?_ | ((refine AtT.zq rfl rfl ok16 (works_f _) ?_) ; (rintro _ rfl)))
  all_goals (refine AtT.zy ?_)
  all_goals (refine AtT.zh ?_)
  all_goals refine AtT.done ?_
  all_goals (refine At.nrm ?_)
  exact At.qd rfl (.tmp rfl) rfl
end Go.Proofs.YtghomjjffllkeaaGreatDoor
set_option linter.unusedVariables false
namespace Go.Proofs.YtghomjjffllkeaaGreatDoor.c6
open Go.Lw Go.Gl Go.Pm Go.RowKit Go.ChangeShapes Go.WideShapes Go.ChangeAt
set_option maxRecDepth 100000 in
theorem lifted (os : Os) (started : os.Started) (H : Type) (enc : TypeId × Value → H) :
    ReturnsInHanded {} Tryz.checked os 8 .any (fun w args => (Rows.patchLeastSpec.pre enc Tryz.prog Tryz.f8 [] false w args ∧ laidMetH Tryz.prog seatLaid w) ∧ sizedMet enc Tryz.prog Tryz.f8 (OpenSpec.ofChange Rows.patchLeastSpec) false w args) (Rows.patchLeastSpec.post enc Tryz.prog Tryz.f8 false true false false) := by
  refine law_liftL (tb := 4) (laid := seatLaid) (fun ds hd => by match ds, hd with | [d0, d1, d2], _ => rfl) rfl (by kernel_rfl) Tryz.underlying4 laidOut (by kernel_rfl) own started (by kernel_rfl) Tryz.func8
    (ChangeSpec.witness_shaped (enc := enc) (C := Tryz.checked) (os := os) (X := fun w _ => laidMetH Tryz.prog seatLaid w) false (World.laidAll Tryz.prog os seatLaid) #[.agg #[.slice none 0 0, .int .i64 0], .int .u16 0, .int .u8 0] 8 (World.laidAll_os _ _ _)
      (World.shaped_of_ZipB (by kernel_rfl) (by kernel_rfl)) (by kernel_rfl) (by kernel_rfl) (by kernel_rfl) (seat_laid os _)) ?_
  intro W base args ds ps hval hA
  rw [Tryz.params8] at hA hval
  obtain ⟨v0, vs0, d0, ds0, p0, q0, hargs, rfl, rfl, h0, r0⟩ := trodAll_cons hA
  obtain ⟨v1, vs1, d1, ds1, p1, q1, rfl, rfl, rfl, h1, r1⟩ := trodAll_cons r0
  obtain ⟨v2, vs2, d2, ds2, p2, q2, rfl, rfl, rfl, h2, r2⟩ := trodAll_cons r1
  obtain ⟨rfl, rfl, rfl⟩ := trodAll_nil r2
  obtain rfl : args = #[v0, v1, v2] := by cases args; simp_all
  obtain ⟨s0, k0⟩ := open_sheet (hval 0 24 v0 rfl rfl) h0
  obtain ⟨x1, rfl, _, _, w1⟩ := open_int Tryz.underlying57 (hval 1 57 v1 rfl rfl) h1
  have b1 := bd_u16 w1
  obtain ⟨x2, rfl, _, _, w2⟩ := open_int Tryz.underlying5 (hval 2 5 v2 rfl rfl) h2
  have b2 := bd_u8 w2
  exact ⟨[v0, .int .u16 x1, .int .u8 x2], rfl, patchLeast_f s0 x1 x2 b1 b2 _ _ k0⟩

theorem over : Rows.patchLeastRow.holds Tryz.pinned (OpenSpec.ofChange Rows.patchLeastSpec) :=
  OpenClaim.holds_of_wide 8 Tryz.f8 rfl rfl rfl rfl rfl rfl rfl ⟨rfl, rfl, rfl, rfl, rfl⟩ rfl rfl rfl rfl rfl (by kernel_rfl) Tryz.func8 (by kernel_rfl)
    (of_decide_eq_true (by kernel_rfl)) (by unfold Func.isWrapper; first | (rw [if_pos (by decide +kernel)]; kernel_rfl) | (rw [if_neg (by decide +kernel)]; exact ⟨rfl, rfl⟩))
    (fun os started H enc _ => lifted os started H enc)

theorem proved : Rows.PatchLeastCardSaid :=
  Claim7.holds_tied_plain_at .later [] [.data, .pinned] true (true, "0d2a6361d0117277170b6b99c938bda2455ed98009332320e2a28814b9346cbd") false over (fun _ h => by cases h) (by kernel_rfl) (fun _ h => by cases h) patchLeast_row_tie rfl ⟨rfl, rfl⟩ (by kernel_rfl) rfl
    (fun f fn hf hfn => by
      obtain rfl : f = 8 := Option.some.inj ((show Tryz.prog.funcNamed "crossband/crossbandlaw04.PatchLeast" = some 8 by kernel_rfl).symm.trans hf) |>.symm
      obtain rfl : fn = Tryz.f8 := (Option.some.inj (Tryz.func8.symm.trans hfn)).symm
      exact ⟨by kernel_rfl, fun j t ht => by
        rw [Tryz.params8] at ht
        have hm : t ∈ [24, 57, 5] := by simpa using Array.mem_of_getElem? ht
        have hall : ([24, 57, 5].all fun u => !Tryz.prog.wantsStandIn u) = true := by kernel_rfl
        exact (show Tryz.prog.wantsStandIn t = false by simpa using List.all_eq_true.1 hall t hm)⟩)
    (by kernel_rfl)
#print axioms proved
end Go.Proofs.YtghomjjffllkeaaGreatDoor.c6
