/- With one more knot no fewer patches are needed, and at most one more; with one more cell of figure no fewer; with a greater Most no more; with more figure no fewer knots are alone, with a greater Most no more: for all valid sheets, a cell, and how much greater, by numbers. No condition. -/
import Derived.Test.YtghomjjffllkeaaGreatDoorB6
set_option linter.unusedVariables false
set_option linter.unusedSimpArgs false
set_option linter.unusedSectionVars false
set_option linter.unusedVariables false
namespace Go.Lw
open Go.RowKit
section
variable {cx : Cx} {n : Nat} {ks : List (Nat × Value)} {O : List Own} {V : View} {P : Program} {ops : Array Oper} {Qn : Act → World → Prop} {t : Tr} {i d : Nat} {T : TypeId} {pos : String} {after : Array Edge} {gd : Option (Nat × Bool)} {X Z : TypeId} {x y : Operand} {p q : Int}
end
end Go.Lw
set_option linter.unusedVariables false
namespace Go.Proofs.YtghomjjffllkeaaGreatDoor
open Go.Lw Go.Gl Go.Pm Go.RowKit Go.Shelf
end Go.Proofs.YtghomjjffllkeaaGreatDoor
set_option linter.unusedVariables false
namespace Go.Pm
open Go.Gl Go.Lw
def ShC (g : Gd) (a b : Cl) : Prop := ∃ p, Lies g p ∧ inP p a ∧ inP p b
theorem shC_symm {g : Gd} {a b : Cl} (h : ShC g a b) : ShC g b a := by obtain ⟨p, h1, h2, h3⟩ := h; exact ⟨p, h1, h3, h2⟩
theorem sh_iff {g : Gd} (hg : GOk g) {K : List Cl} (hon : ∀ k ∈ K, OnG g k) {i k : Nat} {a b : Cl} (ha : K[i]? = some a) (hb : K[k]? = some b) : shN g K i k = true ↔ ShC g a b := by
 constructor
 ·intro h
  unfold shN at h
  rw [decide_eq_true_eq, jB] at h
  exact ⟨_, h, bbx_in ((two_mem ha hb a).2 (.inl rfl)), bbx_in ((two_mem ha hb b).2 (.inr rfl))⟩
 ·rintro ⟨p, h1, h2, h3⟩
  exact sh_of hg hon ha hb h1 h2 h3
theorem len_sub {α : Type} [DecidableEq α] : ∀ {l m : List α}, l.Nodup → (∀ x ∈ l, x ∈ m) → l.length ≤ m.length := by
 intro l
 induction l with
 | nil => intro m _ _; exact Nat.zero_le _
 | cons a l ih =>
  intro m hn h
  have hn' := List.nodup_cons.1 hn
  have ha := h a List.mem_cons_self
  have := ih (m := m.erase a) hn'.2 fun x hx => (List.mem_erase_of_ne (fun e => by subst e; exact hn'.1 hx)).2 (h x (List.mem_cons_of_mem _ hx))
  rw [List.length_erase_of_mem ha] at this
  have := List.length_pos_of_mem ha
  rw [List.length_cons]; omega
def AlC (g : Gd) (K l : List Cl) : Prop := l.Pairwise (fun a b => ¬ ShC g a b) ∧ l.Nodup ∧ ∀ x ∈ l, x ∈ K
structure AlM (g : Gd) (K : List Cl) (m : Nat) : Prop where
 ex : ∃ l, AlC g K l ∧ l.length = m
 le : ∀ l, AlC g K l → l.length ≤ m
theorem alM_mem {g : Gd} {K K' : List Cl} {m : Nat} (h : AlM g K m) (hs : ∀ k, k ∈ K ↔ k ∈ K') : AlM g K' m := by
 obtain ⟨l, h1, h2⟩ := h.ex
 exact ⟨⟨l, ⟨h1.1, h1.2.1, fun x hx => (hs x).1 (h1.2.2 x hx)⟩, h2⟩, fun l hl => h.le l ⟨hl.1, hl.2.1, fun x hx => (hs x).2 (hl.2.2 x hx)⟩⟩
theorem al_cells {g : Gd} (hg : GOk g) {K : List Cl} (hon : ∀ k ∈ K, OnG g k) (hnd : K.Nodup) : ∀ {l : List Int}, Al K.length (shI g K) l → ∃ m, AlC g K m ∧ m.length = l.length ∧ ∀ x ∈ m, ∃ i ∈ l, K[i.toNat]? = some x := by
 intro l
 induction l with
 | nil => intro _; exact ⟨[], ⟨List.Pairwise.nil, List.nodup_nil, fun x hx => by cases hx⟩, rfl, fun x hx => by cases hx⟩
 | cons i l ih =>
  rintro ⟨h1, h2⟩
  have h1' := List.pairwise_cons.1 h1
  obtain ⟨m, m1, m2, m3⟩ := ih ⟨h1'.2, fun x hx => h2 x (List.mem_cons_of_mem _ hx)⟩
  have hi := h2 i List.mem_cons_self
  obtain ⟨a, ha⟩ : ∃ a, K[i.toNat]? = some a := ⟨_, List.getElem?_eq_getElem (by omega)⟩
  refine ⟨a :: m, ⟨List.pairwise_cons.2 ⟨fun b hb hs => ?_, m1.1⟩, List.nodup_cons.2 ⟨fun hc => ?_, m1.2.1⟩, fun x hx => ?_⟩, by simp [m2], fun x hx => ?_⟩
  ·obtain ⟨j, hj, hjb⟩ := m3 b hb
   have h3 := (h1'.1 j hj).2
   unfold shI at h3
   rw [(sh_iff hg hon ha hjb).2 hs] at h3
   cases h3
  ·obtain ⟨j, hj, hjb⟩ := m3 a hc
   have h3 := h1'.1 j hj
   have h4 := h2 j (List.mem_cons_of_mem _ hj)
   have := (List.getElem?_inj (by omega) hnd).1 (ha.trans hjb.symm)
   omega
  ·rcases List.mem_cons.1 hx with rfl | hx
   ·exact List.mem_of_getElem? ha
   ·exact m1.2.2 x hx
  ·rcases List.mem_cons.1 hx with rfl | hx
   ·exact ⟨i, List.mem_cons_self, ha⟩
   ·obtain ⟨j, hj, e⟩ := m3 x hx; exact ⟨j, List.mem_cons_of_mem _ hj, e⟩
theorem al_of_cells {g : Gd} (hg : GOk g) {K : List Cl} (hon : ∀ k ∈ K, OnG g k) (hnd : K.Nodup) {m : List Cl} (h : AlC g K m) : ∃ l, Al K.length (shI g K) l ∧ m.length ≤ l.length := by
 refine ⟨((List.range K.length).filter fun i => m.any fun x => decide (K[i]? = some x)).map (fun i : Nat => (i : Int)), ⟨?_, fun x hx => ?_⟩, ?_⟩
 ·rw [List.pairwise_map]
  have hin : ∀ i ∈ (List.range K.length).filter (fun i => m.any fun x => decide (K[i]? = some x)), ∃ x ∈ m, K[i]? = some x := fun i hi => by
   obtain ⟨x, hx, e⟩ := List.any_eq_true.1 (List.mem_filter.1 hi).2
   exact ⟨x, hx, of_decide_eq_true e⟩
  have hp : ((List.range K.length).filter (fun i => m.any fun x => decide (K[i]? = some x))).Pairwise (· < ·) := List.pairwise_lt_range.filter _
  refine hp.imp_of_mem fun {a b} ha hb hab => ⟨by omega, ?_⟩
  obtain ⟨x, hx, ex⟩ := hin a ha
  obtain ⟨y, hy, ey⟩ := hin b hb
  unfold shI
  rw [Int.toNat_natCast, Int.toNat_natCast]
  cases c : shN g K a b with
  | false => rfl
  | true =>
   have hs := (sh_iff hg hon ex ey).1 c
   by_cases e : x = y
   ·subst e
    have hal : a < K.length := List.mem_range.1 (List.mem_filter.1 ha).1
    have := (List.getElem?_inj hal hnd).1 (ex.trans ey.symm)
    omega
   ·exact absurd hs (by
     have : ∀ {m : List Cl}, m.Pairwise (fun a b => ¬ ShC g a b) → ∀ x ∈ m, ∀ y ∈ m, x ≠ y → ¬ ShC g x y := by
      intro m
      induction m with
      | nil => intro _ x hx; cases hx
      | cons z m ih =>
       intro hp x hx y hy hne
       have hp' := List.pairwise_cons.1 hp
       rcases List.mem_cons.1 hx with rfl | hx' <;> rcases List.mem_cons.1 hy with rfl | hy'
       ·exact absurd rfl hne
       ·exact hp'.1 y hy'
       ·exact fun hs => hp'.1 x hx' (shC_symm hs)
       ·exact ih hp'.2 x hx' y hy' hne
     exact this h.1 x hx y hy e)
 ·obtain ⟨i, hi, rfl⟩ := List.mem_map.1 hx
  have := List.mem_range.1 (List.mem_filter.1 hi).1
  omega
 ·rw [List.length_map]
  have := len_sub (m := ((List.range K.length).filter fun i => m.any fun x => decide (K[i]? = some x)).map fun i => K.getD i ⟨0, 0⟩) h.2.1 fun x hx => by
   obtain ⟨i, hi⟩ := List.getElem?_of_mem (h.2.2 x hx)
   refine List.mem_map.2 ⟨i, List.mem_filter.2 ⟨List.mem_range.2 (List.getElem?_eq_some_iff.1 hi).1, List.any_eq_true.2 ⟨x, hx, decide_eq_true hi⟩⟩, ?_⟩
   simp [List.getD, hi]
  rwa [List.length_map] at this
theorem alM_first {g : Gd} (hg : GOk g) {K : List Cl} (hon : ∀ k ∈ K, OnG g k) (hnd : K.Nodup) {r : List Int} (h : FirstS K.length (shI g K) r) : AlM g K r.length := by
 obtain ⟨m, m1, m2, _⟩ := al_cells hg hon hnd h.1
 refine ⟨⟨m, m1, m2⟩, fun l hl => ?_⟩
 obtain ⟨l', h1, h2⟩ := al_of_cells hg hon hnd hl
 have := h.2 l' h1
 omega
inductive RcC (g : Gd) (K : List Cl) (a : Cl) : Cl → Prop
 | refl : RcC g K a a
 | step {b c : Cl} : RcC g K a b → c ∈ K → ShC g b c → RcC g K a c
structure Rps (g : Gd) (K l : List Cl) : Prop where
 sub : ∀ x ∈ l, x ∈ K
 apart : l.Pairwise fun a b => ¬ RcC g K a b
 all : ∀ k ∈ K, ∃ x ∈ l, RcC g K x k
end Go.Pm
set_option linter.unusedVariables false
namespace Go.Pm
open Go.Gl Go.Lw
theorem fr_iff {r : ByteArray} : frR r = true ↔ ∀ k, k < r.size → okC (bv r k) = true := by
 unfold frR bv
 rw [List.all_eq_true]
 constructor
 ·intro h k hk
  have hk' : k < (bt r).length := by rw [bt_len]; exact hk
  have := h _ (List.getElem_mem hk')
  rw [List.getD_eq_getElem?_getD, List.getElem?_eq_getElem hk']; exact this
 ·intro h b hb
  obtain ⟨k, hk⟩ := List.getElem?_of_mem hb
  have := h k (by have := (List.getElem?_eq_some_iff.1 hk).1; rwa [bt_len] at this)
  rw [List.getD_eq_getElem?_getD, hk] at this; exact this
def rwS (s : Sh) (i : Nat) : ByteArray := s.rows.getD i ByteArray.empty
theorem rwS_at {s : Sh} {i : Nat} (h : i < s.rows.length) : s.rows[i]? = some (rwS s i) := by
 unfold rwS
 rw [List.getD_eq_getElem?_getD, List.getElem?_eq_getElem h]; rfl
theorem rwS_sz {s : Sh} (h : jH s) {i : Nat} (hi : i < s.rows.length) : (rwS s i).size = wdS s := h.sz _ (List.mem_of_getElem? (rwS_at hi))
theorem ch_ok {s : Sh} (h : jH s) {i k : Nat} (hi : i < s.rows.length) (hk : k < wdS s) : okC (chS s i k) = true := fr_iff.1 (h.fr _ (List.mem_of_getElem? (rwS_at hi))) k (by rw [rwS_sz h hi]; exact hk)
theorem kn_at {s : Sh} (h : jH s) {c : Cl} : c ∈ knL s ↔ ∃ (i k : Nat), i < s.rows.length ∧ k < wdS s ∧ chS s i k = 111 ∧ c = ⟨(i : Int), (k : Int)⟩ := by
 rw [kn_mem]
 constructor
 ·rintro ⟨i, r, k, h1, h2, h3, h4⟩
  have hi := (List.getElem?_eq_some_iff.1 h1).1
  have e := rwS_at hi
  rw [h1] at e; cases e
  exact ⟨i, k, hi, by rw [← rwS_sz h hi]; exact h2, h3, h4⟩
 ·rintro ⟨i, k, hi, hk, h3, h4⟩
  exact ⟨i, _, k, rwS_at hi, by rw [rwS_sz h hi]; exact hk, h3, h4⟩
def befC (a b : Cl) : Prop := a.r < b.r ∨ a.r = b.r ∧ a.c < b.c
theorem knR_pw (r : ByteArray) (i : Nat) : ∀ n, (knR r i n).Pairwise befC
 | 0 => List.Pairwise.nil
 | n + 1 => by
  simp only [knR]
  split
  ·refine List.pairwise_append.2 ⟨knR_pw r i n, by simp, fun x hx y hy => ?_⟩
   obtain ⟨k, hk, _, rfl⟩ := (knR_mem n).1 hx
   rw [List.mem_singleton] at hy; subst hy
   refine .inr ⟨rfl, ?_⟩
   dsimp only; omega
  ·exact knR_pw r i n
theorem knK_pw (rows : List ByteArray) : ∀ n, (knK rows n).Pairwise befC
 | 0 => List.Pairwise.nil
 | n + 1 => by
  simp only [knK]
  split
  ·rename_i r hr
   refine List.pairwise_append.2 ⟨knK_pw rows n, knR_pw _ _ _, fun x hx y hy => ?_⟩
   obtain ⟨i, _, k, hi, _, _, _, rfl⟩ := (knK_mem n).1 hx
   obtain ⟨k', _, _, rfl⟩ := (knR_mem _).1 hy
   refine .inl ?_
   dsimp only; omega
  ·exact knK_pw rows n
theorem kn_pw (s : Sh) : (knL s).Pairwise befC := knK_pw _ _
theorem kn_nd (s : Sh) : (knL s).Nodup := (kn_pw s).imp fun h e => by subst e; rcases h with h | h <;> omega
structure Dt (s x : Sh) (D : Cl → Prop) : Prop where
 most : x.most = s.most
 n : x.rows.length = s.rows.length
 sz : ∀ i, i < s.rows.length → (rwS x i).size = (rwS s i).size
 dot : ∀ (i k : Nat), i < s.rows.length → k < (rwS s i).size → D ⟨i, k⟩ → chS x i k = 46
 ch : ∀ (i k : Nat), i < s.rows.length → ¬ D ⟨i, k⟩ → chS x i k = chS s i k
structure Frm (s x : Sh) : Prop where
 n : x.rows.length = s.rows.length
 sz : ∀ i, i < s.rows.length → (rwS x i).size = (rwS s i).size
theorem frm_wd {s x : Sh} (h : Frm s x) (h1 : 1 ≤ s.rows.length) : wdS x = wdS s := h.sz 0 (by omega)
theorem frm_ok {s x : Sh} (hs : jH s) (h : Frm s x) (hm : 1 ≤ x.most ∧ x.most ≤ 36) (hf : ∀ i k, i < s.rows.length → k < wdS s → okC (chS x i k) = true) (hk : (∀ i k, i < s.rows.length → k < wdS s → chS x i k = 111 → chS s i k = 111) ∨ (knL x).length ≤ 10) : jH x := by
 have hw := frm_wd h hs.n.1
 have hsz : ∀ r ∈ x.rows, r.size = wdS x := fun r hr => by
  obtain ⟨i, hi⟩ := List.getElem?_of_mem hr
  have hil := (List.getElem?_eq_some_iff.1 hi).1
  have e := rwS_at hil
  rw [hi] at e; cases e
  rw [h.n] at hil
  rw [h.sz i hil, hw, rwS_sz hs hil]
 have hfr : ∀ r ∈ x.rows, frR r = true := fun r hr => by
  obtain ⟨i, hi⟩ := List.getElem?_of_mem hr
  have hil := (List.getElem?_eq_some_iff.1 hi).1
  have e := rwS_at hil
  rw [hi] at e; cases e
  rw [h.n] at hil
  exact fr_iff.2 fun k hk => hf i k hil (by rw [h.sz i hil, rwS_sz hs hil] at hk; exact hk)
 refine ⟨by rw [h.n]; exact hs.n, by rw [hw]; exact hs.w, hm, hsz, hfr, ?_⟩
 rcases hk with hk | hk
 ·refine Nat.le_trans (len_sub (kn_nd x) fun c hc => ?_) hs.kn
  obtain ⟨i, r, k, h1, h2, h3, rfl⟩ := kn_mem.1 hc
  have hil := (List.getElem?_eq_some_iff.1 h1).1
  have e := rwS_at hil
  rw [h1] at e; cases e
  rw [h.n] at hil
  have hkw : k < wdS s := by rw [h.sz i hil, rwS_sz hs hil] at h2; exact h2
  exact (kn_at hs).2 ⟨i, k, hil, hkw, hk i k hil hkw h3, rfl⟩
 ·exact hk
theorem gd_eq {s x : Sh} (h : Frm s x) (h1 : 1 ≤ s.rows.length) (hm : x.most = s.most) (hc : ∀ i k, chS x i k = 35 ↔ chS s i k = 35) : gdS x = gdS s := by
 unfold gdS
 rw [h.n, frm_wd h h1, hm]
 congr 1
 funext i k
 exact decide_eq_decide.2 (hc _ _)
def wtR (r : ByteArray) (k : Nat) (b : UInt8) : ByteArray := ⟨((bt r).take k ++ [b] ++ (bt r).drop (k + 1)).toArray⟩
theorem wtR_bt {r : ByteArray} {k : Nat} {b : UInt8} (h : k < r.size) : bt (wtR r k b) = (bt r).set k b := by
 have : k < (bt r).length := by rw [bt_len]; exact h
 unfold wtR
 show (bt r).take k ++ [b] ++ (bt r).drop (k + 1) = _
 rw [List.set_eq_take_append_cons_drop, if_pos this]; simp
theorem wtR_sz {r : ByteArray} {k : Nat} {b : UInt8} (h : k < r.size) : (wtR r k b).size = r.size := by
 rw [← bt_len, wtR_bt h, List.length_set, bt_len]
theorem wtR_bv {r : ByteArray} {k : Nat} {b : UInt8} (h : k < r.size) (j : Nat) : bv (wtR r k b) j = if j = k then (b.toNat : Int) else bv r j := by
 unfold bv
 rw [wtR_bt h, List.getD_eq_getElem?_getD, List.getD_eq_getElem?_getD, List.getElem?_set]
 have : k < (bt r).length := by rw [bt_len]; exact h
 by_cases e : k = j
 ·subst e; rw [if_pos rfl, if_pos rfl, if_pos this]; rfl
 ·rw [if_neg e, if_neg (fun h => e h.symm)]
def wtS (s : Sh) (i k : Nat) (b : UInt8) : Sh := ⟨s.rows.set i (wtR (rwS s i) k b), s.most⟩
theorem wtS_rw {s : Sh} {i k : Nat} {b : UInt8} (hi : i < s.rows.length) (j : Nat) : rwS (wtS s i k b) j = if j = i then wtR (rwS s i) k b else rwS s j := by
 unfold rwS wtS
 dsimp only
 rw [List.getD_eq_getElem?_getD, List.getElem?_set]
 by_cases e : i = j
 ·subst e; rw [if_pos rfl, if_pos rfl, if_pos hi]; rfl
 ·rw [if_neg e, if_neg (fun h => e h.symm), ← List.getD_eq_getElem?_getD]
theorem wtS_frm {s : Sh} {i k : Nat} {b : UInt8} (hi : i < s.rows.length) (hk : k < (rwS s i).size) : Frm s (wtS s i k b) := by
 refine ⟨by unfold wtS; simp, fun j hj => ?_⟩
 rw [wtS_rw hi]
 split
 ·rename_i e; subst e; exact wtR_sz hk
 ·rfl
theorem wtS_ch {s : Sh} {i k : Nat} {b : UInt8} (hi : i < s.rows.length) (hk : k < (rwS s i).size) (j m : Nat) : chS (wtS s i k b) j m = if j = i ∧ m = k then (b.toNat : Int) else chS s j m := by
 have e1 : chS (wtS s i k b) j m = bv (rwS (wtS s i k b) j) m := rfl
 have e2 : chS s j m = bv (rwS s j) m := rfl
 rw [e1, e2, wtS_rw hi]
 by_cases e : j = i
 ·subst e
  rw [if_pos rfl, wtR_bv hk]
  by_cases f : m = k
  ·rw [if_pos f, if_pos ⟨rfl, f⟩]
  ·rw [if_neg f, if_neg fun h => f h.2]
 ·rw [if_neg e, if_neg fun h => e h.1]
end Go.Pm
set_option linter.unusedVariables false
namespace Go.Pm
open Go.Gl Go.Lw
structure TnG (g g' : Gd) : Prop where
 R : g'.R = g.C
 C : g'.C = g.R
 most : g'.most = g.most
 fig : ∀ r c, 0 ≤ r → r < g.R → 0 ≤ c → c < g.C → g'.fig c (g.R - 1 - r) = g.fig r c
structure Emb (g g' : Gd) (K : List Cl) (f : Cl → Cl) (F B : Pc → Pc) : Prop where
 to : ∀ p, Lies g p → Lies g' (F p)
 bk : ∀ q k, Lies g' q → k ∈ K → inP q (f k) → Lies g (B q)
 fb : ∀ q, F (B q) = q
 inj : ∀ a b, f a = f b → a = b
 mem : ∀ p k, inP (F p) (f k) ↔ inP p k
 ar : ∀ p, arP (F p) = arP p
section
variable {g g' : Gd} {K : List Cl} {f : Cl → Cl} {F B : Pc → Pc} (E : Emb g g' K f F B)
include E
end
end Go.Pm
set_option linter.unusedVariables false
namespace Go.Pm
open Go.Gl Go.Lw
theorem best_mono {g g' : Gd} {K : List Cl} {n m : Nat} {c d : Int} (hL : ∀ p, Lies g' p → Lies g p) (h : jA g K n c) (k : jA g' K m d) : n ≤ m := by
 obtain ⟨ps, p1, p2, p3⟩ := k.ex
 have := h.le ps ⟨fun p hp => hL p (p1.lies p hp), p1.has⟩
 omega
theorem alM_mono {g g' : Gd} {K : List Cl} {a b : Nat} (hL : ∀ p, Lies g' p → Lies g p) (h : AlM g K a) (k : AlM g' K b) : a ≤ b := by
 obtain ⟨l, h1, h2⟩ := h.ex
 have := k.le l ⟨h1.1.imp fun hn hs => hn (by obtain ⟨p, p1, p2⟩ := hs; exact ⟨p, hL p p1, p2⟩), h1.2⟩
 omega
theorem best_one {g : Gd} (hg : GOk g) {K K' : List Cl} {k0 : Cl} {n m : Nat} {c d : Int} (h0 : OnG g k0) (hf : g.fig k0.r k0.c = false) (hK : ∀ k, k ∈ K' ↔ k = k0 ∨ k ∈ K) (h : jA g K n c) (k : jA g K' m d) : n ≤ m ∧ m ≤ n + 1 := by
 obtain ⟨ps, p1, p2, p3⟩ := h.ex
 obtain ⟨qs, q1, q2, q3⟩ := k.ex
 have a := h.le qs (mends_mem q1 fun x hx => (hK x).2 (.inr hx))
 have b := k.le (ps ++ [bbx [k0]]) ⟨fun p hp => ?_, fun x hx => ?_⟩
 ·rw [List.length_append, List.length_singleton] at b; omega
 ·rcases List.mem_append.1 hp with hp | hp
  ·exact p1.lies p hp
  ·rw [List.mem_singleton] at hp; subst hp; exact lies_one hg h0 hf
 ·rcases (hK x).1 hx with rfl | hx
  ·exact ⟨bbx [x], by simp, bbx_in (by simp)⟩
  ·obtain ⟨p, hp, hi⟩ := p1.has x hx; exact ⟨p, List.mem_append_left _ hp, hi⟩
section
variable {s : Sh} (hs : jH s) {i k : Nat} (hi : i < s.rows.length) (hk : k < wdS s) (hc : chS s i k = 46)
include hs hi hk hc
theorem mo_knot (hx : jH (wtS s i k 111)) : gdS (wtS s i k 111) = gdS s ∧ OnG (gdS s) ⟨i, k⟩ ∧ (gdS s).fig i k = false ∧ ∀ c, c ∈ knL (wtS s i k 111) ↔ c = ⟨i, k⟩ ∨ c ∈ knL s := by
 have hk' : k < (rwS s i).size := by rw [rwS_sz hs hi]; exact hk
 have hf := wtS_frm (b := 111) hi hk'
 refine ⟨gd_eq hf hs.n.1 rfl fun a b => ?_, ?_, ?_, fun c => ?_⟩
 ·rw [wtS_ch hi hk']
  by_cases e : a = i ∧ b = k
  ·rw [if_pos e, e.1, e.2, hc]; decide
  ·rw [if_neg e]
 ·unfold OnG gdS; dsimp only; omega
 ·show decide (chS s (i : Int).toNat (k : Int).toNat = 35) = false
  rw [Int.toNat_natCast, Int.toNat_natCast, hc]; decide
 ·rw [kn_at hx, kn_at hs, hf.n, frm_wd hf hs.n.1]
  constructor
  ·rintro ⟨a, b, h1, h2, h3, rfl⟩
   rw [wtS_ch hi hk'] at h3
   by_cases e : a = i ∧ b = k
   ·obtain ⟨rfl, rfl⟩ := e; exact .inl rfl
   ·rw [if_neg e] at h3; exact .inr ⟨a, b, h1, h2, h3, rfl⟩
  ·rintro (rfl | ⟨a, b, h1, h2, h3, rfl⟩)
   ·exact ⟨i, k, hi, hk, by rw [wtS_ch hi hk', if_pos ⟨rfl, rfl⟩]; rfl, rfl⟩
   ·refine ⟨a, b, h1, h2, ?_, rfl⟩
    rw [wtS_ch hi hk', if_neg (fun e => by rw [e.1, e.2, hc] at h3; cases h3)]; exact h3
theorem mo_fig : jH (wtS s i k 35) ∧ (∀ p, Lies (gdS (wtS s i k 35)) p → Lies (gdS s) p) ∧ ∀ c, c ∈ knL (wtS s i k 35) ↔ c ∈ knL s := by
 have hk' : k < (rwS s i).size := by rw [rwS_sz hs hi]; exact hk
 have hf := wtS_frm (b := 35) hi hk'
 have hch := fun a b => wtS_ch (b := 35) hi hk' a b
 have hx : jH (wtS s i k 35) := frm_ok hs hf hs.m (fun a b ha hb => by
  rw [hch]
  by_cases e : a = i ∧ b = k
  ·rw [if_pos e]; decide
  ·rw [if_neg e]; exact ch_ok hs ha hb) (.inl fun a b ha hb h => by
  rw [hch] at h
  by_cases e : a = i ∧ b = k
  ·rw [if_pos e] at h; cases h
  ·rw [if_neg e] at h; exact h)
 refine ⟨hx, fun p hp => ?_, fun c => ?_⟩
 ·have hR : (gdS (wtS s i k 35)).R = (gdS s).R := by show (((wtS s i k 35).rows.length : Nat) : Int) = _; rw [hf.n]; rfl
  have hC : (gdS (wtS s i k 35)).C = (gdS s).C := by show ((wdS (wtS s i k 35) : Nat) : Int) = _; rw [frm_wd hf hs.n.1]; rfl
  refine ⟨by rw [← hR]; exact hp.h, by rw [← hC]; exact hp.w, by rw [← hR]; exact hp.t, by rw [← hC]; exact hp.l, fun a b h1 h2 h3 h4 => ?_, hp.most⟩
  have := hp.fig a b h1 h2 h3 h4
  have t1 : decide (chS (wtS s i k 35) a.toNat b.toNat = 35) = false := this
  show decide (chS s a.toNat b.toNat = 35) = false
  rw [hch] at t1
  by_cases e : a.toNat = i ∧ b.toNat = k
  ·rw [e.1, e.2, hc]; decide
  ·rw [if_neg e] at t1; exact t1
 ·rw [kn_at hx, kn_at hs, hf.n, frm_wd hf hs.n.1]
  constructor
  ·rintro ⟨a, b, h1, h2, h3, rfl⟩
   rw [hch] at h3
   by_cases e : a = i ∧ b = k
   ·rw [if_pos e] at h3; cases h3
   ·rw [if_neg e] at h3; exact ⟨a, b, h1, h2, h3, rfl⟩
  ·rintro ⟨a, b, h1, h2, h3, rfl⟩
   exact ⟨a, b, h1, h2, by rw [hch, if_neg (fun e => by rw [e.1, e.2, hc] at h3; cases h3)]; exact h3, rfl⟩
end
theorem mo_most {s : Sh} (hs : jH s) {m : Int} (h1 : s.most ≤ m) (h2 : m ≤ 36) : jH ⟨s.rows, m⟩ ∧ (∀ p, Lies (gdS s) p → Lies (gdS ⟨s.rows, m⟩) p) ∧ knL ⟨s.rows, m⟩ = knL s :=
 ⟨⟨hs.n, hs.w, by have := hs.m; dsimp only; omega, hs.sz, hs.fr, hs.kn⟩, fun p hp => ⟨hp.h, hp.w, hp.t, hp.l, hp.fig, Int.le_trans hp.most h1⟩, rfl⟩
end Go.Pm
set_option linter.unusedVariables false
namespace Go.Pm
open Go.Gl Go.Lw
theorem aloL_is (s : Sh) : FirstS (knL s).length (shI (gdS s) (knL s)) (aloL s) := alG_is
end Go.Pm
set_option linter.unusedVariables false
namespace Go.Proofs.YtghomjjffllkeaaGreatDoor
open Go.Lw Go.Gl Go.Pm Go.RowKit Go.Shelf
theorem fine_no {s : Sh} (h : ¬ (!grB s && decide (chE s = 0)) = true) : (!grB s && decide (chE s = 0)) = false := by simpa using h
theorem fine_ok {s : Sh} (h : (!grB s && decide (chE s = 0)) = true) : grB s = false ∧ chE s = 0 := by simpa using h
end Go.Proofs.YtghomjjffllkeaaGreatDoor
set_option linter.unusedVariables false
namespace Go.Pm
open Go.Gl Go.Lw
theorem bt_sub (r : ByteArray) (i j : Nat) : bt (r.extract i j) = ((bt r).drop i).take (j - i) := by
 unfold bt
 rw [ByteArray.data_extract, Array.toList_extract, List.extract_eq_take_drop]
theorem wt_cat {r : ByteArray} {k : Nat} {b : UInt8} (h : k < r.size) : r.extract 0 k ++ (⟨#[b]⟩ : ByteArray) ++ r.extract (k + 1) r.size = wtR r k b := by
 apply bt_ext
 have e : bt (⟨#[b]⟩ : ByteArray) = [b] := rfl
 rw [bt_app, bt_app, bt_sub, bt_sub, e, wtR_bt h, List.set_eq_take_append_cons_drop, if_pos (by rw [bt_len]; exact h), List.drop_zero, Nat.sub_zero, List.take_of_length_le (l := (bt r).drop (k + 1)) (by rw [List.length_drop, bt_len]; omega), List.append_assoc, List.singleton_append]
theorem sub_sz (r : ByteArray) {i j : Nat} (h : i ≤ j) (hj : j ≤ r.size) : (r.extract i j).size = j - i := by
 rw [← bt_len, bt_sub, List.length_take, List.length_drop, bt_len]; omega
theorem flat_bse : ∀ l : List ByteArray, flat bse l = l.map Value.string
 | [] => rfl
 | x :: l => by
  have ih := flat_bse l
  unfold flat at *
  rw [List.flatMap_cons, ih]; rfl
end Go.Pm
namespace Go.Proofs.YtghomjjffllkeaaGreatDoor
open Go.Lw Go.Gl Go.Pm Go.RowKit Go.Shelf
theorem with_f (s : Sh) (hok : jH s) (i k : Nat) (hi : i < s.rows.length) (hk : k < wdS s) (b : UInt8) (V : View) (v : Value) (hv : ShV V v s) : Fnc Tryz.prog 50 [v, iv i, iv k, .string ⟨#[b]⟩] V fun r V' => ShV V' r (wtS s i k b) := by
 obtain ⟨a, c, rfl, hs⟩ := id hv
 have hn := hok.n
 have hw := hok.w
 have hr := rwS_at hi
 have hsz := rwS_sz hok hi
 refine qc Tryz.func50 rfl Tryz.ntmps50 (Nat.le_of_ble_eq_true rfl) ?_
 intro w0 hw0
 refine At.nrm ?_
 refine At.zi (.n false 0 (.n false 1 .done)) ?_
 refine AtT.qV ?_
 intro b4
 refine AtT.qw z24 ?_
 intro b8
 refine AtT.done ?_
 refine At.nrm ?_
 refine At.jo (ι := Option Addr × Nat × Nat) (fun g => [(1, iv i), (2, iv k), (3, .string ⟨#[b]⟩), (8, .pointer (some ⟨b8, 0, none⟩)), (9, .pointer (some ⟨g.2.2, 0, none⟩))])
  (fun g => [.blk b8 (LC [.slice none 0 0, iv 0] 24), .blk g.2.2 (LC [.slice g.1 s.rows.length g.2.1, iv s.most] 24), .row (.slice g.1 s.rows.length g.2.1) 9 1 s.rows.length (flat bse s.rows)]) (fun g V'' => True) ?_ ?_
 ·refine At.draw (.q 1 (.q 2 (.q 4 (.q 5 (.two 0 (.two 3 (.q 6 (.n false 7 (.n false 8 .done))) 7 (.n false 3 (.q 6 (.n false 8 .done)))) 7 (.n false 0 (.n false 3 (.q 6 (.n false 8 .done))))))))) ffm (by kernel_rfl) ?_
  refine AtC.start ?_
  refine AtC.pre (fun hle0 => ?_)
  refine AtC.kq (by (first | refine AtT.zk zw ?_ | with_reducible refine AtT.zl zw ?_ | refine AtT.zn zw ?_); exact At.knows) ?_
  refine AtC.kq (by (first | refine AtT.zm qa ?_ | refine AtT.zo qa ?_); exact At.knows) ?_
  refine AtC.kq (by (first | refine AtT.zk zR ?_ | with_reducible refine AtT.zl zR ?_ | refine AtT.zn zR ?_); exact At.knows) ?_
  refine AtC.kq (by (first | refine AtT.zm tk3 ?_ | refine AtT.zo tk3 ?_); exact At.knows) ?_
  refine AtC.two ?_ ?_
  focus
   refine AtC.nz ?_
   refine AtT.bsliceR0 rfl trivial rfl bs22_0 (by decide) (s := 1) (fun b10 => ?_)
   refine AtC.kgo ?_
   refine AtC.two ?_ ?_
   focus
    refine AtC.nz ?_
    refine AtT.appendRS rfl trivial Tryz.underlying22 rw9 rfl (by decide) rfl rfl zZ.zI (enc := bse) (m := s.rows) (by first | exact hs | exact hs.le (by assumption)) bse_len (fun _ => rfl) (by unfold maxLen; omega) (by omega) (by decide) (fun a13 c13 => ?_)
    refine AtC.kgo ?_
    rw [Nat.zero_add, List.nil_append]
    refine AtC.kq (by (refine AtT.qU (bd24_0_1 _ _ _ _) ?_); exact At.knows) ?_
    refine AtC.nz ?_
    refine AtT.qw z24 ?_
    intro b9
    refine AtC.kgo ?_
    refine AtC.nz ?_
    refine AtT.zW zx ?_
    refine AtC.kgo ?_
    refine AtC.done ?_
   rotate_right
   focus
    refine AtC.nz ?_
    refine AtT.qw z24 ?_
    intro b9
    refine AtC.kgo ?_
    refine AtC.nz ?_
    refine AtT.appendRS rfl trivial Tryz.underlying22 rw9 rfl (by decide) rfl rfl zZ.zI (enc := bse) (m := s.rows) (by first | exact hs | exact hs.le (by assumption)) bse_len (fun _ => rfl) (by unfold maxLen; omega) (by omega) (by decide) (fun a13 c13 => ?_)
    refine AtC.kgo ?_
    rw [Nat.zero_add, List.nil_append]
    refine AtC.kq (by (refine AtT.qU (bd24_0_1 _ _ _ _) ?_); exact At.knows) ?_
    refine AtC.nz ?_
    refine AtT.zW zx ?_
    refine AtC.kgo ?_
    refine AtC.done ?_
  rotate_right
  focus
   refine AtC.nz ?_
   refine AtT.qw z24 ?_
   intro b9
   refine AtC.kgo ?_
   refine AtC.nz ?_
   refine AtT.bsliceR0 rfl trivial rfl bs22_0 (by decide) (s := 1) (fun b10 => ?_)
   refine AtC.kgo ?_
   refine AtC.nz ?_
   refine AtT.appendRS rfl trivial Tryz.underlying22 rw9 rfl (by decide) rfl rfl zZ.zI (enc := bse) (m := s.rows) (by first | exact hs | exact hs.le (by assumption)) bse_len (fun _ => rfl) (by unfold maxLen; omega) (by omega) (by decide) (fun a13 c13 => ?_)
   refine AtC.kgo ?_
   rw [Nat.zero_add, List.nil_append]
   refine AtC.kq (by (refine AtT.qU (bd24_0_1 _ _ _ _) ?_); exact At.knows) ?_
   refine AtC.nz ?_
   refine AtT.zW zx ?_
   refine AtC.kgo ?_
   refine AtC.done ?_
  all_goals (refine At.nrm ?_)
  all_goals exact At.qf (a13, c13, b9) trivial ⟨rfl, rfl, rfl, rfl, rfl, trivial⟩ Pt.zI
 rintro ⟨ax, cx', b9⟩ V3 ks' O' - hk2 hO hl3
 dsimp only at hk2 hO
 subst hk2 hO
 refine At.rowBlk (v := .slice ax s.rows.length cx') zZ.zI (by omega) (fun bb cap rest hbb hcap hcm => ?_)
 cases hbb
 have hfl := flat_bse s.rows
 have hlen : (flat bse s.rows).length = s.rows.length := by rw [hfl, List.length_map]
 have hat : (flat bse s.rows ++ rest)[i * 1]? = some (.string (rwS s i)) := by
  rw [Nat.mul_one, List.getElem?_append_left (by omega), hfl, List.getElem?_map, hr]; rfl
 have hlt : i * 1 < (flat bse s.rows ++ rest).length := by rw [List.length_append]; omega
 have hset : (flat bse s.rows ++ rest).set (i * 1) (.string (wtR (rwS s i) k b)) = flat bse (s.rows.set i (wtR (rwS s i) k b)) ++ rest := by
  rw [Nat.mul_one, List.set_append, if_pos (by omega), hfl, flat_bse, List.map_set]
 have hk1 : ((k : Int) + 1).toNat = k + 1 := by omega
 have hwt := wt_cat (b := b) (show k < (rwS s i).size by omega)
 have z1 := sub_sz (rwS s i) (Nat.zero_le k) (by omega)
 have z2 := sub_sz (rwS s i) (i := k + 1) (j := (rwS s i).size) (by omega) (Nat.le_refl _)
 have z3 : ((rwS s i).extract 0 k ++ (⟨#[b]⟩ : ByteArray)).size = k - 0 + 1 := by rw [ByteArray.size_append, z1]; rfl
 have z4 : (⟨#[b]⟩ : ByteArray).size = 1 := rfl
 refine At.nrm ?_
 refine At.draw (.q 0 (.q 1 (.q 2 (.q 3 (.q 4 (.q 5 (.q 6 (.q 7 (.q 8 (.q 9 (.q 10 (.q 11 (.q 12 (.q 13 (.q 14 (.q 15 (.q 16 (.q 17 (.q 18 (.q 19 (.q 20 (.q 21 (.n true 22 .done))))))))))))))))))))))) ffm (by kernel_rfl) ?_
 first | refine AtT.zk zw ?_ | with_reducible refine AtT.zl zw ?_ | refine AtT.zn zw ?_
 first | refine AtT.zm qa ?_ | refine AtT.zo qa ?_
 refine AtT.zf ?_
 first | refine AtT.zk zw ?_ | with_reducible refine AtT.zl zw ?_ | refine AtT.zn zw ?_
 first | refine AtT.zm qa ?_ | refine AtT.zo qa ?_
 refine AtT.zf ?_
 refine AtT.idxZ rfl trivial Tryz.underlying22 tk9 rfl rfl hi (by decide) ?_
 refine AtT.loadO rfl trivial rfl tk9 zZ.zI hat (by decide) ?_
 refine AtT.zf ?_
 refine AtT.subH rfl trivial Tryz.underlying9 rfl rfl (by omega) (by omega) (by decide) ?_
 rw [Int.toNat_natCast]
 refine AtT.zf ?_
 refine AtT.catS rfl trivial rfl rfl (by omega) (by decide) ?_
 first | refine AtT.zk zw ?_ | with_reducible refine AtT.zl zw ?_ | refine AtT.zn zw ?_
 first | refine AtT.zm qa ?_ | refine AtT.zo qa ?_
 refine AtT.zf ?_
 refine AtT.idxZ rfl trivial Tryz.underlying22 tk9 rfl rfl hi (by decide) ?_
 refine AtT.loadO rfl trivial rfl tk9 zZ.zI hat (by decide) ?_
 refine AtT.zf ?_
 first | refine AtT.qh ?_ | refine AtT.zT ?_
 refine AtT.subL rfl trivial Tryz.underlying9 rfl rfl (by omega) (by omega) (by decide) ?_
 rw [hk1]
 refine AtT.catS rfl trivial rfl rfl (by omega) (by decide) ?_
 rw [hwt]
 refine AtT.idxZ rfl trivial Tryz.underlying22 tk9 rfl rfl hi (by decide) ?_
 refine AtT.store1 rfl trivial rfl rfl tk9 rfl rfl (by repeat first|exact Upd.here|apply Upd.there) (setAt_of hlt hset) ?_
 refine AtT.done ?_
 refine At.nrm ?_
 refine At.nrm ?_
 refine At.zi (.q 0 (.n true 1 .done)) ?_
 first | refine AtT.zu zx ?_ | refine AtT.zC zx ?_ | refine AtT.zt zx ?_
 refine AtT.zW zx ?_
 refine AtT.done ?_
 refine At.nrm ?_
 refine At.giveB (b := bb) zZ.zI (fun V6 hV6 hb6 => ?_)
 refine At.qd rfl (.agg rfl zx zZ.zI rfl) ⟨some ⟨bb, 0, none⟩, cx', ?_, ?_⟩
 ·show _ = Value.agg #[.slice _ (s.rows.set i (wtR (rwS s i) k b)).length _, _]
  rw [List.length_set]; rfl
 ·show Sl V6 bse 1 (.slice _ (s.rows.set i (wtR (rwS s i) k b)).length _) (s.rows.set i (wtR (rwS s i) k b))
  exact Sl.of_cells bse_len (cells_pre hb6) (by rw [List.length_set]; exact hcap) hcm
end Go.Proofs.YtghomjjffllkeaaGreatDoor
set_option linter.unusedVariables false
namespace Go.Proofs.YtghomjjffllkeaaGreatDoor
open Go.Lw Go.Gl Go.Pm Go.RowKit Go.Shelf
theorem alM_of {s : Sh} (hok : jH s) : AlM (gdS s) (knL s) (aloL s).length := alM_first (sh_gok hok) (kn_on hok) (kn_nd s) (aloL_is s)
set_option maxHeartbeats 1600000 in
theorem patchMore_f (s : Sh) (R C M : Int) (hR : 0 ≤ R ∧ R ≤ 255) (hC : 0 ≤ C ∧ C ≤ 255) (hM : 0 ≤ M ∧ M ≤ 255) (V : View) (v : Value) (hv : ShV V v s) : Fnc Tryz.prog 10 [v, .int .u8 R, .int .u8 C, .int .u8 M] V fun r _ => r = .bool true := by
 obtain ⟨a, c, rfl, hs⟩ := id hv
 refine qc Tryz.func10 rfl Tryz.ntmps10 (Nat.le_of_ble_eq_true rfl) ?_
 intro w0 hw0
 refine At.nrm ?_
 refine At.zi (.n false 0 (.q 1 .done)) ?_
 refine AtT.qV ?_
 intro b4
 refine AtT.zh ?_
 refine AtT.done ?_
 refine At.nrm ?_
 by_cases gf : (!grB s && decide (chE s = 0)) = true
 rotate_left
 ·refine At.zi (.q 0 (.n false 1 (.q 2 .done))) ?_
  first | refine AtT.zu zx ?_ | refine AtT.zC zx ?_ | refine AtT.zt zx ?_
  refine AtT.zq rfl rfl ok43 (fine_f s _ _ hv) ?_
  rintro _ rfl
  refine AtT.setB (d := 34) rfl ((fine_no gf)) ?_
  refine AtT.jh ?_
  refine AtT.setB (d := 35) rfl ((show (!false) = true from rfl)) ?_
  refine AtT.done ?_
  refine At.nrm ?_
  refine At.qB rfl rfl ?_
  refine At.nrm ?_
  refine At.zi (.n false 0 (.q 1 .done)) ?_
  refine AtT.zq rfl rfl ok16 (works_f _) ?_
  rintro _ rfl
  refine AtT.zh ?_
  refine AtT.done ?_
  refine At.nrm ?_
  exact At.qd rfl (.tmp rfl) rfl
 obtain ⟨gg, h0⟩ := fine_ok gf
 have hok := jl h0
 have hn := hok.n
 have hw := hok.w
 have hmo := hok.m
 have hg := sh_gok hok
 have hon := kn_on hok
 have hz0 : (rwS s 0).size = wdS s := rfl
 obtain ⟨i, hi⟩ : ∃ i : Nat, Int.tmod R (s.rows.length : Int) = (i : Int) := ⟨(Int.tmod R (s.rows.length : Int)).toNat, by have := Int.tmod_nonneg (s.rows.length : Int) hR.1; omega⟩
 obtain ⟨k, hk⟩ : ∃ k : Nat, Int.tmod C ((rwS s 0).size : Int) = (k : Int) := ⟨(Int.tmod C ((rwS s 0).size : Int)).toNat, by have := Int.tmod_nonneg ((rwS s 0).size : Int) hC.1; omega⟩
 have hil : i < s.rows.length := by have := Int.tmod_lt_of_pos R (b := (s.rows.length : Int)) (by omega); omega
 have hkl : k < wdS s := by have := Int.tmod_lt_of_pos C (b := ((rwS s 0).size : Int)) (by omega); omega
 have hrow := rwS_at hil
 have hrow0 := rwS_at (s := s) (i := 0) (by omega)
 have hsz := rwS_sz hok hil
 refine At.zi (.q 0 (.n false 1 (.q 2 .done))) ?_
 first | refine AtT.zu zx ?_ | refine AtT.zC zx ?_ | refine AtT.zt zx ?_
 refine AtT.zq rfl rfl ok43 (fine_f s _ _ hv) ?_
 rintro _ rfl
 refine AtT.setB (d := 34) rfl (gf) ?_
 refine AtT.jh ?_
 refine AtT.setB (d := 35) rfl ((show (!true) = false from rfl)) ?_
 refine AtT.done ?_
 refine At.nrm ?_
 refine At.qE rfl rfl ?_
 refine At.nrm ?_
 refine At.draw (.q 0 (.q 1 (.q 2 (.q 3 (.q 4 (.q 5 (.q 6 (.q 7 (.q 8 (.q 9 (.q 10 (.q 11 (.q 12 (.q 13 (.q 14 (.q 15 .done)))))))))))))))) ffm (by kernel_rfl) ?_
 refine AtT.zf ?_
 refine AtT.kconv un5 Tryz.underlying3 ?_
 rw [wrap_fit (Fit.of (by omega) (by omega))]
 first | refine AtT.zk zw ?_ | with_reducible refine AtT.zl zw ?_ | refine AtT.zn zw ?_
 first | refine AtT.zm qa ?_ | refine AtT.zo qa ?_
 first | refine AtT.zU Tryz.underlying22 ?_ | refine AtT.zV Tryz.underlying22 ?_
 refine AtT.krem ?_
 rw [hi]
 refine AtT.zf ?_
 refine AtT.kconv un5 Tryz.underlying3 ?_
 rw [wrap_fit (Fit.of (by omega) (by omega))]
 first | refine AtT.zk zw ?_ | with_reducible refine AtT.zl zw ?_ | refine AtT.zn zw ?_
 first | refine AtT.zm qa ?_ | refine AtT.zo qa ?_
 refine AtT.qi Tryz.underlying22 tk9 ?_
 intro p47 e47 he47 hc47
 first | refine AtT.zm tk9 ?_ | refine AtT.zo tk9 ?_
 obtain rfl : rwS s 0 = e47 := by have : s.rows[0]? = some e47 := (by simpa using he47); rw [hrow0] at this; simpa using this
 refine AtT.qQ rfl trivial Tryz.underlying9 rfl (by decide) ?_
 refine AtT.krem ?_
 rw [hk]
 refine AtT.zh ?_
 refine AtT.zh ?_
 refine AtT.done ?_
 refine At.nrm ?_
 refine At.zi (.q 0 (.n false 1 (.q 2 (.q 3 (.q 4 (.q 5 (.q 6 (.q 7 (.q 8 (.q 9 (.q 10 .done))))))))))) ?_
 first | refine AtT.zu zx ?_ | refine AtT.zC zx ?_ | refine AtT.zt zx ?_
 refine AtT.qg rfl rfl ok45 (few_f s h0 _ _ hv) ?_
 rintro _ V53 hV53 ⟨a53, c53, ps, rfl, hs53, hm⟩
 refine AtT.zf ?_
 refine AtT.zO ?_
 refine AtT.zO ?_
 refine AtT.zO ?_
 refine AtT.zO ?_
 refine AtT.zh ?_
 refine AtT.zh ?_
 refine AtT.zh ?_
 refine AtT.zh ?_
 refine AtT.done ?_
 refine At.nrm ?_
 replace hv := hv.le hV53
 replace hs := hs.le hV53
 clear hV53
 have hbl := best_le_len hg hon (kn_fig hok) hm.best
 have hkn := hok.kn
 refine At.zi (.q 0 (.n false 1 (.q 2 (.q 3 (.q 4 (.q 5 (.q 6 .done))))))) ?_
 first | refine AtT.zu zx ?_ | refine AtT.zC zx ?_ | refine AtT.zt zx ?_
 refine AtT.qg rfl rfl ok28 (aloneP_f s _ _ hv) ?_
 rintro _ V60 hV60 ⟨u60, rfl, hu60⟩; rw [h0]
 refine AtT.zf ?_
 refine AtT.zO ?_
 refine AtT.zO ?_
 refine AtT.zh ?_
 refine AtT.zh ?_
 refine AtT.done ?_
 refine At.nrm ?_
 rw [if_pos h0] at hu60
 obtain ⟨a60, c60, rfl, k1, k2, _⟩ := id hu60
 clear k1 k2
 replace hv := hv.le hV60
 replace hs := hs.le hV60
 clear hV60
 refine At.zi (.q 0 (.q 1 (.q 2 (.q 3 (.q 4 (.q 5 .done)))))) ?_
 refine AtT.zf ?_
 refine AtT.setB (d := 63) rfl (rfl) ?_
 refine AtT.jh ?_
 refine AtT.setB (d := 64) rfl ((show (!true) = false from rfl)) ?_
 refine AtT.zf ?_
 all_goals (first | refine AtT.kL 65 ?_ | refine AtT.zA (d := 65) rfl (fun hg65 => ?_) (fun hg65 => ?_) | refine AtT.zz (d := 65) rfl (fun hg65 => ?_) (fun hg65 => ?_))
 all_goals first|refine AtT.zg ?_|refine AtT.ze ?_|(refine AtT.zf ?_)
 all_goals first|refine AtT.zg ?_|refine AtT.ze ?_|(refine AtT.qC ?_)
 all_goals (refine AtT.qj (d := 67) rfl ((fun h => h rfl)) ?_)
 all_goals (refine AtT.zy ?_)
 all_goals refine AtT.done ?_
 all_goals (refine At.nrm ?_)
 refine At.qE rfl rfl ?_
 refine At.nrm ?_
 refine At.zi (.q 0 (.q 1 (.q 2 (.n false 3 (.n false 4 (.n true 5 .done)))))) ?_
 first | refine AtT.zu zx ?_ | refine AtT.zC zx ?_ | refine AtT.zt zx ?_
 refine AtT.zf ?_
 refine AtT.zf ?_
 refine AtT.qg rfl rfl ok50 (with_f s hok i k hil hkl 111 _ _ hv) ?_
 rintro _ V72 hV72 hx72; obtain ⟨a72, c72, rfl, hx72s⟩ := id hx72
 refine AtT.qw z24 ?_
 intro b17
 refine AtT.zW zx ?_
 refine AtT.done ?_
 refine At.nrm ?_
 replace hv := hv.le hV72
 replace hs := hs.le hV72
 replace hu60 := hu60.le hV72
 clear hV72
 refine At.jo (ι := Unit) (fun _ => [(3, .int .u8 M), (4, .pointer (some ⟨b4, 0, none⟩)), (9, iv i), (10, iv k), (11, iv ps.length), (15, .slice a60 (aloL s).length c60), (17, .pointer (some ⟨b17, 0, none⟩)), (84, .bool (decide (chS s i k = 46) && (!grB (wtS s i k 111) && decide (chE (wtS s i k 111) = 0))))])
  (fun _ => [.blk b4 (LC [.slice a s.rows.length c, iv s.most] 24), .blk b17 (LC [.slice a72 (wtS s i k 111).rows.length c72, iv (wtS s i k 111).most] 24)]) (fun _ V'' => V'' = V72) ?_ ?_
 ·by_cases hc : chS s i k = 46
  ·refine At.zi (.q 0 (.q 1 (.q 2 (.q 3 (.q 4 (.q 5 (.q 6 (.q 7 (.q 8 (.q 9 (.n false 10 (.q 11 .done)))))))))))) ?_
   first | refine AtT.zk zw ?_ | with_reducible refine AtT.zl zw ?_ | refine AtT.zn zw ?_
   first | refine AtT.zm qa ?_ | refine AtT.zo qa ?_
   refine AtT.zf ?_
   refine AtT.qi Tryz.underlying22 tk9 ?_
   intro p76 e76 he76 hc76
   first | refine AtT.zm tk9 ?_ | refine AtT.zo tk9 ?_
   obtain rfl : rwS s i = e76 := by have : s.rows[i]? = some e76 := (by simpa using he76); rw [hrow] at this; simpa using this
   refine AtT.zf ?_
   refine AtT.ixS rfl trivial Tryz.underlying9 rfl rfl (by omega) (by omega) (by decide) ?_
   refine AtT.qK ?_
   refine AtT.qp (d := 80) rfl (hc) ?_
   refine AtT.zf ?_
   all_goals (first | refine AtT.kL 81 ?_ | refine AtT.zA (d := 81) rfl (fun hg81 => ?_) (fun hg81 => ?_) | refine AtT.zz (d := 81) rfl (fun hg81 => ?_) (fun hg81 => ?_))
   all_goals first|refine AtT.zg ?_|refine AtT.ze ?_|(first | refine AtT.zu zx ?_ | refine AtT.zC zx ?_ | refine AtT.zt zx ?_)
   all_goals (first | refine AtT.zP ?_ | refine AtT.zJ ?_ | ((refine AtT.zq rfl rfl ok43 (fine_f (wtS s i k 111) _ _ hx72) ?_) ; (rintro _ rfl)))
   all_goals (refine AtT.zy ?_)
   all_goals refine AtT.done ?_
   all_goals (refine At.nrm ?_)
   exact At.qf () rfl ⟨rfl, rfl, rfl, rfl, rfl, rfl, rfl, by rw [decide_eq_true hc, Bool.true_and]; rfl, trivial⟩ Pt.zI
  ·refine At.zi (.q 0 (.q 1 (.q 2 (.q 3 (.q 4 (.q 5 (.q 6 (.q 7 (.q 8 (.q 9 (.n false 10 (.q 11 .done)))))))))))) ?_
   first | refine AtT.zk zw ?_ | with_reducible refine AtT.zl zw ?_ | refine AtT.zn zw ?_
   first | refine AtT.zm qa ?_ | refine AtT.zo qa ?_
   refine AtT.zf ?_
   refine AtT.qi Tryz.underlying22 tk9 ?_
   intro p76 e76 he76 hc76
   first | refine AtT.zm tk9 ?_ | refine AtT.zo tk9 ?_
   obtain rfl : rwS s i = e76 := by have : s.rows[i]? = some e76 := (by simpa using he76); rw [hrow] at this; simpa using this
   refine AtT.zf ?_
   refine AtT.ixS rfl trivial Tryz.underlying9 rfl rfl (by omega) (by omega) (by decide) ?_
   refine AtT.qK ?_
   refine AtT.qj (d := 80) rfl (hc) ?_
   refine AtT.zf ?_
   all_goals (first | refine AtT.kL 81 ?_ | refine AtT.zA (d := 81) rfl (fun hg81 => ?_) (fun hg81 => ?_) | refine AtT.zz (d := 81) rfl (fun hg81 => ?_) (fun hg81 => ?_))
   all_goals first|refine AtT.zg ?_|refine AtT.ze ?_|(first | refine AtT.zu zx ?_ | refine AtT.zC zx ?_ | refine AtT.zt zx ?_)
   all_goals (first | refine AtT.zP ?_ | refine AtT.zJ ?_ | ((fail)))
   all_goals (refine AtT.zy ?_)
   all_goals refine AtT.done ?_
   all_goals (refine At.nrm ?_)
   exact At.qf () rfl ⟨rfl, rfl, rfl, rfl, rfl, rfl, rfl, by rw [decide_eq_false hc, Bool.false_and]; rfl, trivial⟩ Pt.zI
 rintro - V6 ks' O' rfl hk2 hO hl6
 subst hk2 hO
 refine At.nrm ?_
 refine At.jo (ι := Unit) (fun _ => [(3, .int .u8 M), (4, .pointer (some ⟨b4, 0, none⟩)), (9, iv i), (10, iv k), (11, iv ps.length), (15, .slice a60 (aloL s).length c60)])
  (fun _ => [.blk b4 (LC [.slice a s.rows.length c, iv s.most] 24)]) (fun _ V'' => Le V6 V'') ?_ ?_
 ·refine At.cond rfl (fun hq => ?_) (fun hq => ?_)
  ·obtain ⟨hc, hf⟩ := (Bool.and_eq_true _ _).mp hq
   replace hc := of_decide_eq_true hc
   obtain ⟨_, hx0⟩ := fine_ok hf
   obtain ⟨e1, e2, e3, e4⟩ := mo_knot hok hil hkl hc (jl hx0)
   refine At.nrm ?_
   refine At.zi (.q 0 (.n false 1 (.q 2 (.q 3 (.q 4 (.q 5 (.q 6 (.q 7 (.q 8 (.q 9 (.q 10 .done))))))))))) ?_
   first | refine AtT.zu zx ?_ | refine AtT.zC zx ?_ | refine AtT.zt zx ?_
   refine AtT.qg rfl rfl ok45 (few_f (wtS s i k 111) hx0 _ _ hx72) ?_
   rintro _ V87 hV87 ⟨a87, c87, qs, rfl, hs87, hmx⟩
   refine AtT.zf ?_
   refine AtT.zO ?_
   refine AtT.zO ?_
   refine AtT.zO ?_
   refine AtT.zO ?_
   refine AtT.zh ?_
   refine AtT.zh ?_
   refine AtT.zh ?_
   refine AtT.zh ?_
   refine AtT.done ?_
   refine At.nrm ?_
   have hB := hmx.best
   rw [e1] at hB
   have hmn := best_one hg e2 e3 e4 hm.best hB
   refine At.zi (.q 0 (.q 1 (.q 2 (.q 3 (.q 4 (.q 5 (.q 6 (.q 7 (.q 8 (.q 9 (.q 10 (.q 11 (.q 12 .done))))))))))))) ?_
   refine AtT.zf ?_
   refine AtT.setB (d := 92) rfl (rfl) ?_
   refine AtT.jh ?_
   refine AtT.setB (d := 93) rfl ((show (!true) = false from rfl)) ?_
   refine AtT.zf ?_
   all_goals (first | refine AtT.kL 94 ?_ | refine AtT.zA (d := 94) rfl (fun hg94 => ?_) (fun hg94 => ?_) | refine AtT.zz (d := 94) rfl (fun hg94 => ?_) (fun hg94 => ?_))
   all_goals first|refine AtT.zg ?_|refine AtT.ze ?_|(refine AtT.zf ?_)
   all_goals first|refine AtT.zg ?_|refine AtT.ze ?_|(refine AtT.zf ?_)
   all_goals first|refine AtT.zg ?_|refine AtT.ze ?_|(refine AtT.zY ?_)
   all_goals (refine AtT.qj (d := 97) rfl ((by omega)) ?_)
   all_goals (refine AtT.zy ?_)
   all_goals (refine AtT.zf ?_)
   all_goals (first | refine AtT.kL 99 ?_ | refine AtT.zA (d := 99) rfl (fun hg99 => ?_) (fun hg99 => ?_) | refine AtT.zz (d := 99) rfl (fun hg99 => ?_) (fun hg99 => ?_))
   all_goals first|refine AtT.zg ?_|refine AtT.ze ?_|(refine AtT.zf ?_)
   all_goals first|refine AtT.zg ?_|refine AtT.ze ?_|(refine AtT.zf ?_)
   all_goals first|refine AtT.zg ?_|refine AtT.ze ?_|(first | refine AtT.qh ?_ | refine AtT.zT ?_)
   all_goals first|refine AtT.zg ?_|refine AtT.ze ?_|(refine AtT.qy ?_)
   all_goals (refine AtT.qj (d := 103) rfl ((by omega)) ?_)
   all_goals (refine AtT.zy ?_)
   all_goals refine AtT.done ?_
   all_goals (refine At.nrm ?_)
   refine At.qE rfl rfl ?_
   refine At.nrm ?_
   exact At.qf () hV87 ⟨rfl, rfl, rfl, rfl, rfl, rfl, trivial⟩ Pt.zI
  ·refine At.nrm ?_
   exact At.qf () (Le.refl _) ⟨rfl, rfl, rfl, rfl, rfl, rfl, trivial⟩ Pt.zI
 rintro - V7 ks' O' hV7 hk2 hO hl7
 subst hk2 hO
 replace hv := hv.le hV7
 replace hs := hs.le hV7
 replace hu60 := hu60.le hV7
 clear hV7
 refine At.nrm ?_
 refine At.zi (.q 0 (.q 1 (.q 2 (.q 3 (.q 4 (.q 5 (.q 6 (.q 7 .done)))))))) ?_
 first | refine AtT.zk zw ?_ | with_reducible refine AtT.zl zw ?_ | refine AtT.zn zw ?_
 first | refine AtT.zm qa ?_ | refine AtT.zo qa ?_
 refine AtT.zf ?_
 refine AtT.qi Tryz.underlying22 tk9 ?_
 intro p108 e108 he108 hc108
 first | refine AtT.zm tk9 ?_ | refine AtT.zo tk9 ?_
 obtain rfl : rwS s i = e108 := by have : s.rows[i]? = some e108 := (by simpa using he108); rw [hrow] at this; simpa using this
 refine AtT.zf ?_
 refine AtT.ixS rfl trivial Tryz.underlying9 rfl rfl (by omega) (by omega) (by decide) ?_
 refine AtT.qK ?_
 refine AtT.done ?_
 refine At.nrm ?_
 refine At.jo (ι := Unit) (fun _ => [(3, .int .u8 M), (4, .pointer (some ⟨b4, 0, none⟩)), (9, iv i), (10, iv k), (11, iv ps.length), (15, .slice a60 (aloL s).length c60)])
  (fun _ => [.blk b4 (LC [.slice a s.rows.length c, iv s.most] 24)]) (fun _ V'' => Le V7 V'') ?_ ?_
 ·refine At.zX rfl (fun hc => ?_) (fun hc => ?_)
  ·obtain ⟨f1, f2, f3⟩ := mo_fig hok hil hkl hc
   have hf0 := chE_of f1
   refine At.nrm ?_
   refine At.zi (.q 0 (.q 1 (.q 2 (.n false 3 (.n false 4 (.q 5 (.q 6 (.q 7 (.q 8 (.q 9 (.q 10 (.q 11 (.q 12 (.q 13 .done)))))))))))))) ?_
   first | refine AtT.zu zx ?_ | refine AtT.zC zx ?_ | refine AtT.zt zx ?_
   refine AtT.zf ?_
   refine AtT.zf ?_
   refine AtT.qg rfl rfl ok50 (with_f s hok i k hil hkl 35 _ _ hv) ?_
   rintro _ V117 hV117 hx117
   refine AtT.qg rfl rfl ok45 (few_f (wtS s i k 35) hf0 _ _ hx117) ?_
   rintro _ V118 hV118 ⟨a118, c118, qs, rfl, hs118, hmx⟩
   refine AtT.zf ?_
   refine AtT.zO ?_
   refine AtT.zO ?_
   refine AtT.zO ?_
   refine AtT.zO ?_
   refine AtT.zh ?_
   refine AtT.zh ?_
   refine AtT.zh ?_
   refine AtT.zh ?_
   refine AtT.done ?_
   refine At.nrm ?_
   replace hv := (hv.le hV117).le hV118
   replace hu60 := (hu60.le hV117).le hV118
   refine At.zi (.q 0 (.q 1 (.q 2 (.n false 3 (.n false 4 (.q 5 (.q 6 (.q 7 (.q 8 (.q 9 .done)))))))))) ?_
   first | refine AtT.zu zx ?_ | refine AtT.zC zx ?_ | refine AtT.zt zx ?_
   refine AtT.zf ?_
   refine AtT.zf ?_
   refine AtT.qg rfl rfl ok50 (with_f s hok i k hil hkl 35 _ _ hv) ?_
   rintro _ V127 hV127 hx127
   refine AtT.qg rfl rfl ok28 (aloneP_f (wtS s i k 35) _ _ hx127) ?_
   rintro _ V128 hV128 ⟨u128, rfl, hu128⟩; rw [hf0]
   refine AtT.zf ?_
   refine AtT.zO ?_
   refine AtT.zO ?_
   refine AtT.zh ?_
   refine AtT.zh ?_
   refine AtT.done ?_
   refine At.nrm ?_
   rw [if_pos hf0] at hu128
   obtain ⟨a128, c128, rfl, k1, k2, _⟩ := id hu128
   clear k1 k2
   replace hu60 := (hu60.le hV127).le hV128
   have hnm := best_mono f2 hm.best (best_mem hmx.best f3)
   have ha3 := alM_mono f2 (alM_of hok) (alM_mem (alM_of f1) f3)
   refine At.zi (.q 0 (.q 1 (.q 2 (.q 3 (.q 4 (.q 5 (.q 6 (.q 7 (.q 8 (.q 9 (.q 10 (.q 11 (.q 12 (.q 13 (.q 14 (.q 15 (.q 16 (.q 17 .done)))))))))))))))))) ?_
   refine AtT.zf ?_
   refine AtT.setB (d := 131) rfl (rfl) ?_
   refine AtT.jh ?_
   refine AtT.setB (d := 132) rfl ((show (!true) = false from rfl)) ?_
   refine AtT.zf ?_
   all_goals (first | refine AtT.kL 133 ?_ | refine AtT.zA (d := 133) rfl (fun hg133 => ?_) (fun hg133 => ?_) | refine AtT.zz (d := 133) rfl (fun hg133 => ?_) (fun hg133 => ?_))
   all_goals first|refine AtT.zg ?_|refine AtT.ze ?_|(refine AtT.zf ?_)
   all_goals first|refine AtT.zg ?_|refine AtT.ze ?_|(refine AtT.zf ?_)
   all_goals first|refine AtT.zg ?_|refine AtT.ze ?_|(refine AtT.zY ?_)
   all_goals (refine AtT.qj (d := 136) rfl ((by omega)) ?_)
   all_goals (refine AtT.zy ?_)
   all_goals (refine AtT.zf ?_)
   all_goals (first | refine AtT.kL 138 ?_ | refine AtT.zA (d := 138) rfl (fun hg138 => ?_) (fun hg138 => ?_) | refine AtT.zz (d := 138) rfl (fun hg138 => ?_) (fun hg138 => ?_))
   all_goals first|refine AtT.zg ?_|refine AtT.ze ?_|(refine AtT.zf ?_)
   all_goals first|refine AtT.zg ?_|refine AtT.ze ?_|(refine AtT.qC ?_)
   all_goals (refine AtT.qj (d := 140) rfl ((fun h => h rfl)) ?_)
   all_goals (refine AtT.zy ?_)
   all_goals (refine AtT.zf ?_)
   all_goals (first | refine AtT.kL 142 ?_ | refine AtT.zA (d := 142) rfl (fun hg142 => ?_) (fun hg142 => ?_) | refine AtT.zz (d := 142) rfl (fun hg142 => ?_) (fun hg142 => ?_))
   all_goals first|refine AtT.zg ?_|refine AtT.ze ?_|(refine AtT.zf ?_)
   all_goals first|refine AtT.zg ?_|refine AtT.ze ?_|(first | refine AtT.zU Tryz.underlying39 ?_ | refine AtT.zV Tryz.underlying39 ?_)
   all_goals first|refine AtT.zg ?_|refine AtT.ze ?_|(refine AtT.zf ?_)
   all_goals first|refine AtT.zg ?_|refine AtT.ze ?_|(first | refine AtT.zU Tryz.underlying39 ?_ | refine AtT.zV Tryz.underlying39 ?_)
   all_goals first|refine AtT.zg ?_|refine AtT.ze ?_|(refine AtT.zY ?_)
   all_goals (refine AtT.qj (d := 147) rfl ((by omega)) ?_)
   all_goals (refine AtT.zy ?_)
   all_goals refine AtT.done ?_
   all_goals (refine At.nrm ?_)
   refine At.qE rfl rfl ?_
   refine At.nrm ?_
   exact At.qf () (((hV117.trans hV118).trans hV127).trans hV128) ⟨rfl, rfl, rfl, rfl, rfl, rfl, trivial⟩ Pt.zI
  ·refine At.nrm ?_
   exact At.qf () (Le.refl _) ⟨rfl, rfl, rfl, rfl, rfl, rfl, trivial⟩ Pt.zI
 rintro - V8 ks' O' hV8 hk2 hO hl8
 subst hk2 hO
 replace hv := hv.le hV8
 replace hs := hs.le hV8
 replace hu60 := hu60.le hV8
 clear hV8
 have hq0 := Int.tmod_nonneg 9 hM.1
 have hq1 := Int.tmod_lt_of_pos M (b := 9) (by decide)
 obtain ⟨y1, y2, y3⟩ := mo_most hok (m := min 36 (s.most + Int.tmod M 9)) (by omega) (by omega)
 have y0 := chE_of y1
 have hvy : ∀ {W : View}, Sl W bse 1 (.slice a s.rows.length c) s.rows → ShV W (.agg #[.slice a s.rows.length c, iv (min 36 (s.most + Int.tmod M 9))]) ⟨s.rows, min 36 (s.most + Int.tmod M 9)⟩ := fun h => ⟨a, c, rfl, h⟩
 refine At.nrm ?_
 refine At.zi (.q 0 (.q 1 (.q 2 (.q 3 (.q 4 (.q 5 (.q 6 (.q 7 (.q 8 (.q 9 (.n false 10 (.n true 11 .done)))))))))))) ?_
 first | refine AtT.zk zw ?_ | with_reducible refine AtT.zl zw ?_ | refine AtT.zn zw ?_
 first | refine AtT.zm qa ?_ | refine AtT.zo qa ?_
 first | refine AtT.zk zR ?_ | with_reducible refine AtT.zl zR ?_ | refine AtT.zn zR ?_
 first | refine AtT.zm tk3 ?_ | refine AtT.zo tk3 ?_
 refine AtT.zf ?_
 refine AtT.krem ?_
 refine AtT.kconv un5 Tryz.underlying3 ?_
 rw [wrap_fit (Fit.of (by omega) (by omega))]
 first | refine AtT.qh ?_ | refine AtT.zT ?_
 refine AtT.kmin2 ?_
 refine AtT.qU (bd24_0_1 _ _ _ _) ?_
 refine AtT.qw z24 ?_
 intro b28
 refine AtT.zW zx ?_
 refine AtT.done ?_
 refine At.nrm ?_
 refine At.zi (.q 0 (.n false 1 (.q 2 (.q 3 (.q 4 (.q 5 (.q 6 (.q 7 (.q 8 (.q 9 (.q 10 .done))))))))))) ?_
 first | refine AtT.zu zx ?_ | refine AtT.zC zx ?_ | refine AtT.zt zx ?_
 refine AtT.qg rfl rfl ok45 (few_f ⟨s.rows, min 36 (s.most + Int.tmod M 9)⟩ y0 _ _ (hvy hs)) ?_
 rintro _ V161 hV161 ⟨a161, c161, qs, rfl, hs161, hmy⟩
 refine AtT.zf ?_
 refine AtT.zO ?_
 refine AtT.zO ?_
 refine AtT.zO ?_
 refine AtT.zO ?_
 refine AtT.zh ?_
 refine AtT.zh ?_
 refine AtT.zh ?_
 refine AtT.zh ?_
 refine AtT.done ?_
 refine At.nrm ?_
 replace hs := hs.le hV161
 replace hu60 := hu60.le hV161
 refine At.zi (.q 0 (.n false 1 (.q 2 (.q 3 (.q 4 (.q 5 (.q 6 .done))))))) ?_
 first | refine AtT.zu zx ?_ | refine AtT.zC zx ?_ | refine AtT.zt zx ?_
 refine AtT.qg rfl rfl ok28 (aloneP_f ⟨s.rows, min 36 (s.most + Int.tmod M 9)⟩ _ _ (hvy hs)) ?_
 rintro _ V168 hV168 ⟨u168, rfl, hu168⟩; rw [y0]
 refine AtT.zf ?_
 refine AtT.zO ?_
 refine AtT.zO ?_
 refine AtT.zh ?_
 refine AtT.zh ?_
 refine AtT.done ?_
 refine At.nrm ?_
 rw [if_pos y0] at hu168
 obtain ⟨a168, c168, rfl, k1, k2, _⟩ := id hu168
 clear k1 k2
 replace hu60 := hu60.le hV168
 have hnm := best_mono y2 hmy.best hm.best
 have ha3 := alM_mono y2 (alM_of y1) (alM_of hok)
 refine At.zi (.q 0 (.q 1 (.q 2 (.q 3 (.q 4 (.q 5 (.q 6 (.q 7 (.q 8 (.q 9 (.q 10 (.q 11 (.q 12 (.q 13 (.q 14 (.q 15 (.q 16 (.q 17 (.n false 18 (.q 19 (.q 20 .done))))))))))))))))))))) ?_
 refine AtT.zf ?_
 refine AtT.setB (d := 171) rfl (rfl) ?_
 refine AtT.zf ?_
 all_goals (first | refine AtT.kL 172 ?_ | refine AtT.zA (d := 172) rfl (fun hg172 => ?_) (fun hg172 => ?_) | refine AtT.zz (d := 172) rfl (fun hg172 => ?_) (fun hg172 => ?_))
 all_goals first|refine AtT.zg ?_|refine AtT.ze ?_|(refine AtT.zf ?_)
 all_goals first|refine AtT.zg ?_|refine AtT.ze ?_|(refine AtT.zf ?_)
 all_goals first|refine AtT.zg ?_|refine AtT.ze ?_|(refine AtT.kleq ?_)
 all_goals (refine AtT.qp (d := 175) rfl ((by omega)) ?_)
 all_goals (refine AtT.zy ?_)
 all_goals (refine AtT.zf ?_)
 all_goals (first | refine AtT.kL 177 ?_ | refine AtT.zA (d := 177) rfl (fun hg177 => ?_) (fun hg177 => ?_) | refine AtT.zz (d := 177) rfl (fun hg177 => ?_) (fun hg177 => ?_))
 all_goals first|refine AtT.zg ?_|refine AtT.ze ?_|(refine AtT.zf ?_)
 all_goals first|refine AtT.zg ?_|refine AtT.ze ?_|(refine AtT.qK ?_)
 all_goals (refine AtT.qp (d := 179) rfl (rfl) ?_)
 all_goals (refine AtT.zy ?_)
 all_goals (refine AtT.zf ?_)
 all_goals (first | refine AtT.kL 181 ?_ | refine AtT.zA (d := 181) rfl (fun hg181 => ?_) (fun hg181 => ?_) | refine AtT.zz (d := 181) rfl (fun hg181 => ?_) (fun hg181 => ?_))
 all_goals first|refine AtT.zg ?_|refine AtT.ze ?_|(refine AtT.zf ?_)
 all_goals first|refine AtT.zg ?_|refine AtT.ze ?_|(first | refine AtT.zU Tryz.underlying39 ?_ | refine AtT.zV Tryz.underlying39 ?_)
 all_goals first|refine AtT.zg ?_|refine AtT.ze ?_|(refine AtT.zf ?_)
 all_goals first|refine AtT.zg ?_|refine AtT.ze ?_|(first | refine AtT.zU Tryz.underlying39 ?_ | refine AtT.zV Tryz.underlying39 ?_)
 all_goals first|refine AtT.zg ?_|refine AtT.ze ?_|(refine AtT.kleq ?_)
 all_goals (refine AtT.qp (d := 186) rfl ((by omega)) ?_)
 all_goals (refine AtT.zy ?_)
 all_goals (refine AtT.zf ?_)
 all_goals (first | refine AtT.kL 188 ?_ | refine AtT.zA (d := 188) rfl (fun hg188 => ?_) (fun hg188 => ?_) | refine AtT.zz (d := 188) rfl (fun hg188 => ?_) (fun hg188 => ?_))
 all_goals (first | refine AtT.zP ?_ | refine AtT.zJ ?_ | ((refine AtT.zq rfl rfl ok16 (works_f _) ?_) ; (rintro _ rfl)))
 all_goals (refine AtT.zy ?_)
 all_goals (refine AtT.zh ?_)
 all_goals refine AtT.done ?_
 all_goals (refine At.nrm ?_)
 exact At.qd rfl (.tmp rfl) rfl
end Go.Proofs.YtghomjjffllkeaaGreatDoor
set_option linter.unusedVariables false
namespace Go.Proofs.YtghomjjffllkeaaGreatDoor.c8
open Go.Lw Go.Gl Go.Pm Go.RowKit Go.ChangeShapes Go.WideShapes Go.ChangeAt
set_option maxRecDepth 100000 in
theorem lifted (os : Os) (started : os.Started) (H : Type) (enc : TypeId × Value → H) :
    ReturnsInHanded {} Tryz.checked os 10 .any (fun w args => (Rows.patchMoreSpec.pre enc Tryz.prog Tryz.f10 [] false w args ∧ laidMetH Tryz.prog seatLaid w) ∧ sizedMet enc Tryz.prog Tryz.f10 (OpenSpec.ofChange Rows.patchMoreSpec) false w args) (Rows.patchMoreSpec.post enc Tryz.prog Tryz.f10 false true false false) := by
  refine law_liftL (tb := 4) (laid := seatLaid) (fun ds hd => by match ds, hd with | [d0, d1, d2, d3], _ => rfl) rfl (by kernel_rfl) Tryz.underlying4 laidOut (by kernel_rfl) own started (by kernel_rfl) Tryz.func10
    (ChangeSpec.witness_shaped (enc := enc) (C := Tryz.checked) (os := os) (X := fun w _ => laidMetH Tryz.prog seatLaid w) false (World.laidAll Tryz.prog os seatLaid) #[.agg #[.slice none 0 0, .int .i64 0], .int .u8 0, .int .u8 0, .int .u8 0] 8 (World.laidAll_os _ _ _)
      (World.shaped_of_ZipB (by kernel_rfl) (by kernel_rfl)) (by kernel_rfl) (by kernel_rfl) (by kernel_rfl) (seat_laid os _)) ?_
  intro W base args ds ps hval hA
  rw [Tryz.params10] at hA hval
  obtain ⟨v0, vs0, d0, ds0, p0, q0, hargs, rfl, rfl, h0, r0⟩ := trodAll_cons hA
  obtain ⟨v1, vs1, d1, ds1, p1, q1, rfl, rfl, rfl, h1, r1⟩ := trodAll_cons r0
  obtain ⟨v2, vs2, d2, ds2, p2, q2, rfl, rfl, rfl, h2, r2⟩ := trodAll_cons r1
  obtain ⟨v3, vs3, d3, ds3, p3, q3, rfl, rfl, rfl, h3, r3⟩ := trodAll_cons r2
  obtain ⟨rfl, rfl, rfl⟩ := trodAll_nil r3
  obtain rfl : args = #[v0, v1, v2, v3] := by cases args; simp_all
  obtain ⟨s0, k0⟩ := open_sheet (hval 0 24 v0 rfl rfl) h0
  obtain ⟨x1, rfl, _, _, w1⟩ := open_int Tryz.underlying5 (hval 1 5 v1 rfl rfl) h1
  have b1 := bd_u8 w1
  obtain ⟨x2, rfl, _, _, w2⟩ := open_int Tryz.underlying5 (hval 2 5 v2 rfl rfl) h2
  have b2 := bd_u8 w2
  obtain ⟨x3, rfl, _, _, w3⟩ := open_int Tryz.underlying5 (hval 3 5 v3 rfl rfl) h3
  have b3 := bd_u8 w3
  exact ⟨[v0, .int .u8 x1, .int .u8 x2, .int .u8 x3], rfl, patchMore_f s0 x1 x2 x3 b1 b2 b3 _ _ k0⟩

theorem over : Rows.patchMoreRow.holds Tryz.pinned (OpenSpec.ofChange Rows.patchMoreSpec) :=
  OpenClaim.holds_of_wide 10 Tryz.f10 rfl rfl rfl rfl rfl rfl rfl ⟨rfl, rfl, rfl, rfl, rfl⟩ rfl rfl rfl rfl rfl (by kernel_rfl) Tryz.func10 (by kernel_rfl)
    (of_decide_eq_true (by kernel_rfl)) (by unfold Func.isWrapper; first | (rw [if_pos (by decide +kernel)]; kernel_rfl) | (rw [if_neg (by decide +kernel)]; exact ⟨rfl, rfl⟩))
    (fun os started H enc _ => lifted os started H enc)

theorem proved : Rows.PatchMoreCardSaid :=
  Claim7.holds_tied_plain_at .later [] [.data, .pinned] true (true, "0d2a6361d0117277170b6b99c938bda2455ed98009332320e2a28814b9346cbd") false over (fun _ h => by cases h) (by kernel_rfl) (fun _ h => by cases h) patchMore_row_tie rfl ⟨rfl, rfl⟩ (by kernel_rfl) rfl
    (fun f fn hf hfn => by
      obtain rfl : f = 10 := Option.some.inj ((show Tryz.prog.funcNamed "crossband/crossbandlaw04.PatchMore" = some 10 by kernel_rfl).symm.trans hf) |>.symm
      obtain rfl : fn = Tryz.f10 := (Option.some.inj (Tryz.func10.symm.trans hfn)).symm
      exact ⟨by kernel_rfl, fun j t ht => by
        rw [Tryz.params10] at ht
        have hm : t ∈ [24, 5, 5, 5] := by simpa using Array.mem_of_getElem? ht
        have hall : ([24, 5, 5, 5].all fun u => !Tryz.prog.wantsStandIn u) = true := by kernel_rfl
        exact (show Tryz.prog.wantsStandIn t = false by simpa using List.all_eq_true.1 hall t hm)⟩)
    (by kernel_rfl)
#print axioms proved
end Go.Proofs.YtghomjjffllkeaaGreatDoor.c8
