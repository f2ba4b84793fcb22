/- No two knots of different parts can share; each knot is in one of them; how few patches mend a sheet, and how few cells they cover, are those of the parts together: for all valid sheets, two knots by numbers. No condition. -/
import Derived.Test.YtghomjjffllkeaaGreatDoorB5
set_option linter.unusedVariables false
set_option linter.unusedSimpArgs false
set_option linter.unusedSectionVars false


set_option linter.unusedVariables false
namespace Go.Pm
open Go.Gl Go.Lw
theorem arL_app (a b : List Pc) : arL (a ++ b) = arL a + arL b := by unfold arL; rw [List.map_append, List.sum_append]
theorem arL_split (f : Pc → Bool) : ∀ ps : List Pc, arL (ps.filter f) + arL (ps.filter fun p => !f p) = arL ps
 | [] => rfl
 | p :: ps => by
  have ih := arL_split f ps
  unfold arL at *
  cases h : f p with
  | true => rw [List.filter_cons_of_pos h, List.filter_cons_of_neg (by simp [h]), List.map_cons, List.sum_cons, List.map_cons, List.sum_cons]; omega
  | false => rw [List.filter_cons_of_neg (by simp [h]), List.filter_cons_of_pos (by simp [h]), List.map_cons, List.sum_cons, List.map_cons, List.sum_cons]; omega
theorem len_split {α : Type} (f : α → Bool) : ∀ ps : List α, (ps.filter f).length + (ps.filter fun p => !f p).length = ps.length
 | [] => rfl
 | p :: ps => by
  have ih := len_split f ps
  cases h : f p with
  | true => rw [List.filter_cons_of_pos h, List.filter_cons_of_neg (by simp [h]), List.length_cons, List.length_cons]; omega
  | false => rw [List.filter_cons_of_neg (by simp [h]), List.filter_cons_of_pos (by simp [h]), List.length_cons, List.length_cons]; omega
def Apt (g : Gd) (A B : List Cl) : Prop := ∀ a ∈ A, ∀ b ∈ B, ∀ p, Lies g p → inP p a → inP p b → False
theorem best_sum {g : Gd} {A B : List Cl} {n m : Nat} {c d : Int} (hd : Apt g A B) (hA : jy g A n c) (hB : jy g B m d) : jy g (A ++ B) (n + m) (c + d) := by
 obtain ⟨ps, p1, p2, p3⟩ := hA.ex
 obtain ⟨qs, q1, q2, q3⟩ := hB.ex
 refine ⟨⟨ps ++ qs, ⟨fun p hp => ?_, fun k hk => ?_⟩, by rw [List.length_append]; omega, by rw [arL_app]; omega⟩, fun rs hr => ?_⟩
 ·rcases List.mem_append.1 hp with h | h
  ·exact p1.lies p h
  ·exact q1.lies p h
 ·rcases List.mem_append.1 hk with h | h
  ·obtain ⟨p, hp, hi⟩ := p1.has k h; exact ⟨p, List.mem_append_left _ hp, hi⟩
  ·obtain ⟨p, hp, hi⟩ := q1.has k h; exact ⟨p, List.mem_append_right _ hp, hi⟩
 ·have ha := hA.le (rs.filter fun p => A.any fun k => decide (inP p k)) ⟨fun p hp => hr.lies p (List.mem_filter.1 hp).1, fun k hk => by
   obtain ⟨p, hp, hi⟩ := hr.has k (List.mem_append_left _ hk)
   exact ⟨p, List.mem_filter.2 ⟨hp, List.any_eq_true.2 ⟨k, hk, decide_eq_true hi⟩⟩, hi⟩⟩
  have hb := hB.le (rs.filter fun p => !A.any fun k => decide (inP p k)) ⟨fun p hp => hr.lies p (List.mem_filter.1 hp).1, fun k hk => by
   obtain ⟨p, hp, hi⟩ := hr.has k (List.mem_append_right _ hk)
   refine ⟨p, List.mem_filter.2 ⟨hp, ?_⟩, hi⟩
   cases h : A.any fun k => decide (inP p k) with
   | false => rfl
   | true =>
    obtain ⟨x, hx, hd'⟩ := List.any_eq_true.1 h
    exact (hd x hx k hk p (hr.lies p hp) (of_decide_eq_true hd') hi).elim⟩
  have e1 := len_split (fun p => A.any fun k => decide (inP p k)) rs
  have e2 := arL_split (fun p => A.any fun k => decide (inP p k)) rs
  omega
def ShC (g : Gd) (a b : Cl) : Prop := ∃ p, Lies g p ∧ inP p a ∧ inP p b
theorem sh_iff {g : Gd} (hg : GOk g) {K : List Cl} (hon : ∀ k ∈ K, OnG g k) {i k : Nat} {a b : Cl} (ha : K[i]? = some a) (hb : K[k]? = some b) : shN g K i k = true ↔ ShC g a b := by
 constructor
 ·intro h
  unfold shN at h
  rw [decide_eq_true_eq, peE_iff] at h
  exact ⟨_, h, bbx_in ((two_mem ha hb a).2 (.inl rfl)), bbx_in ((two_mem ha hb b).2 (.inr rfl))⟩
 ·rintro ⟨p, h1, h2, h3⟩
  exact sh_of hg hon ha hb h1 h2 h3
theorem len_sub {α : Type} [DecidableEq α] : ∀ {l m : List α}, l.Nodup → (∀ x ∈ l, x ∈ m) → l.length ≤ m.length := by
 intro l
 induction l with
 | nil => intro m _ _; exact Nat.zero_le _
 | cons a l ih =>
  intro m hn h
  have hn' := List.nodup_cons.1 hn
  have ha := h a List.mem_cons_self
  have := ih (m := m.erase a) hn'.2 fun x hx => (List.mem_erase_of_ne (fun e => by subst e; exact hn'.1 hx)).2 (h x (List.mem_cons_of_mem _ hx))
  rw [List.length_erase_of_mem ha] at this
  have := List.length_pos_of_mem ha
  rw [List.length_cons]; omega
def AlC (g : Gd) (K l : List Cl) : Prop := l.Pairwise (fun a b => ¬ ShC g a b) ∧ l.Nodup ∧ ∀ x ∈ l, x ∈ K
structure AlM (g : Gd) (K : List Cl) (m : Nat) : Prop where
 ex : ∃ l, AlC g K l ∧ l.length = m
 le : ∀ l, AlC g K l → l.length ≤ m
inductive RcC (g : Gd) (K : List Cl) (a : Cl) : Cl → Prop
 | refl : RcC g K a a
 | step {b c : Cl} : RcC g K a b → c ∈ K → ShC g b c → RcC g K a c
structure Rps (g : Gd) (K l : List Cl) : Prop where
 sub : ∀ x ∈ l, x ∈ K
 apart : l.Pairwise fun a b => ¬ RcC g K a b
 all : ∀ k ∈ K, ∃ x ∈ l, RcC g K x k
theorem rch_cells {g : Gd} (hg : GOk g) {K : List Cl} (hon : ∀ k ∈ K, OnG g k) {i k : Nat} {a b : Cl} (ha : K[i]? = some a) (hb : K[k]? = some b) (h : Rch K.length (shN g K) i k) : RcC g K a b := by
 induction h generalizing b with
 | refl => rw [ha] at hb; cases hb; exact .refl
 | step h1 hk hs ih =>
  have hj := rch_lt (List.getElem?_eq_some_iff.1 ha).1 h1
  obtain ⟨c, hc⟩ : ∃ c, K[_]? = some c := ⟨_, List.getElem?_eq_getElem hj⟩
  exact .step (ih hc) (List.mem_of_getElem? hb) ((sh_iff hg hon hc hb).1 hs)
theorem rch_of_cells {g : Gd} (hg : GOk g) {K : List Cl} (hon : ∀ k ∈ K, OnG g k) (hnd : K.Nodup) {i : Nat} {a b : Cl} (ha : K[i]? = some a) (h : RcC g K a b) : ∃ k, K[k]? = some b ∧ Rch K.length (shN g K) i k := by
 induction h with
 | refl => exact ⟨i, ha, .refl⟩
 | step h1 hk hs ih =>
  obtain ⟨j, hj, hr⟩ := ih
  obtain ⟨k, hk⟩ := List.getElem?_of_mem hk
  exact ⟨k, hk, .step hr (List.getElem?_eq_some_iff.1 hk).1 ((sh_iff hg hon hj hk).2 hs)⟩
theorem prt_rps {g : Gd} (hg : GOk g) {K : List Cl} (hon : ∀ k ∈ K, OnG g k) (hnd : K.Nodup) {out : List (List Int)} (h : PrtK K.length (shN g K) K.length out) : ∃ l, Rps g K l ∧ l.length = out.length := by
 have key : ∀ {n : Nat} {out : List (List Int)}, PrtK K.length (shN g K) n out → n ≤ K.length → ∃ l : List Cl, l.length = out.length ∧ (∀ x ∈ l, ∃ i : Nat, i < n ∧ K[i]? = some x ∧ ∃ q ∈ out, IsPart K.length (shN g K) i q) ∧ l.Pairwise (fun a b => ¬ RcC g K a b) ∧ ∀ q ∈ out, ∃ (i : Nat) (x : Cl), x ∈ l ∧ K[i]? = some x ∧ IsPart K.length (shN g K) i q := by
  intro n out h
  induction h with
  | zero => intro _; exact ⟨[], rfl, fun x hx => (by cases hx), List.Pairwise.nil, fun x hx => (by cases hx)⟩
  | skip _ _ ih =>
   intro hn
   obtain ⟨l, l1, l2, l3, l4⟩ := ih (by omega)
   exact ⟨l, l1, fun x hx => (by obtain ⟨i, hi, r⟩ := l2 x hx; exact ⟨i, by omega, r⟩), l3, l4⟩
  | @add n out q h1 h2 h3 ih =>
   intro hn
   obtain ⟨l, l1, l2, l3, l4⟩ := ih (by omega)
   obtain ⟨a, ha⟩ : ∃ a, K[n]? = some a := ⟨_, List.getElem?_eq_getElem (by omega)⟩
   refine ⟨l ++ [a], by simp [l1], fun x hx => ?_, List.pairwise_append.2 ⟨l3, by simp, fun x hx y hy hc => ?_⟩, fun q' hq' => ?_⟩
   ·rcases List.mem_append.1 hx with hx | hx
    ·obtain ⟨i, hi, e, q', hq', r⟩ := l2 x hx; exact ⟨i, by omega, e, q', List.mem_append_left _ hq', r⟩
    ·rw [List.mem_singleton] at hx; subst hx; exact ⟨n, by omega, ha, q, by simp, h3⟩
   ·rw [List.mem_singleton] at hy; subst hy
    obtain ⟨i, hi, e, q', hq', r⟩ := l2 x hx
    obtain ⟨k, hk, hr⟩ := rch_of_cells hg hon hnd e hc
    have hkl := (List.getElem?_eq_some_iff.1 hk).1
    have := (List.getElem?_inj hkl hnd).1 (hk.trans ha.symm)
    subst this
    exact h2 ⟨q', hq', (r.2 _).2 ⟨k, rfl, hr⟩⟩
   ·rcases List.mem_append.1 hq' with hq' | hq'
    ·obtain ⟨i, x, hx, r⟩ := l4 q' hq'; exact ⟨i, x, List.mem_append_left _ hx, r⟩
    ·rw [List.mem_singleton] at hq'; subst hq'; exact ⟨n, a, by simp, ha, h3⟩
 obtain ⟨l, l1, l2, l3, l4⟩ := key h (Nat.le_refl _)
 refine ⟨l, ⟨fun x hx => ?_, l3, fun k hk => ?_⟩, l1⟩
 ·obtain ⟨i, _, e, _⟩ := l2 x hx; exact List.mem_of_getElem? e
 ·obtain ⟨i, hi⟩ := List.getElem?_of_mem hk
  obtain ⟨q, hq, hiq⟩ := (prtK_is h).2 i (List.getElem?_eq_some_iff.1 hi).1
  obtain ⟨j, x, hx, hj, hp⟩ := l4 q hq
  obtain ⟨k', e, hr⟩ := (hp.2 _).1 hiq
  obtain rfl : i = k' := by omega
  exact ⟨x, hx, rch_cells hg hon hj hi hr⟩
end Go.Pm
set_option linter.unusedVariables false
namespace Go.Pm
open Go.Gl Go.Lw
theorem fr_iff {r : ByteArray} : frR r = true ↔ ∀ k, k < r.size → okC (bv r k) = true := by
 unfold frR bv
 rw [List.all_eq_true]
 constructor
 ·intro h k hk
  have hk' : k < (bt r).length := by rw [bt_len]; exact hk
  have := h _ (List.getElem_mem hk')
  rw [List.getD_eq_getElem?_getD, List.getElem?_eq_getElem hk']; exact this
 ·intro h b hb
  obtain ⟨k, hk⟩ := List.getElem?_of_mem hb
  have := h k (by have := (List.getElem?_eq_some_iff.1 hk).1; rwa [bt_len] at this)
  rw [List.getD_eq_getElem?_getD, hk] at this; exact this
def rwS (s : Sh) (i : Nat) : ByteArray := s.rows.getD i ByteArray.empty
theorem rwS_at {s : Sh} {i : Nat} (h : i < s.rows.length) : s.rows[i]? = some (rwS s i) := by
 unfold rwS
 rw [List.getD_eq_getElem?_getD, List.getElem?_eq_getElem h]; rfl
theorem rwS_sz {s : Sh} (h : ShOk s) {i : Nat} (hi : i < s.rows.length) : (rwS s i).size = wdS s := h.sz _ (List.mem_of_getElem? (rwS_at hi))
theorem ch_ok {s : Sh} (h : ShOk s) {i k : Nat} (hi : i < s.rows.length) (hk : k < wdS s) : okC (chS s i k) = true := fr_iff.1 (h.fr _ (List.mem_of_getElem? (rwS_at hi))) k (by rw [rwS_sz h hi]; exact hk)
theorem kn_at {s : Sh} (h : ShOk s) {c : Cl} : c ∈ knL s ↔ ∃ (i k : Nat), i < s.rows.length ∧ k < wdS s ∧ chS s i k = 111 ∧ c = ⟨(i : Int), (k : Int)⟩ := by
 rw [kn_mem]
 constructor
 ·rintro ⟨i, r, k, h1, h2, h3, h4⟩
  have hi := (List.getElem?_eq_some_iff.1 h1).1
  have e := rwS_at hi
  rw [h1] at e; cases e
  exact ⟨i, k, hi, by rw [← rwS_sz h hi]; exact h2, h3, h4⟩
 ·rintro ⟨i, k, hi, hk, h3, h4⟩
  exact ⟨i, _, k, rwS_at hi, by rw [rwS_sz h hi]; exact hk, h3, h4⟩
def befC (a b : Cl) : Prop := a.r < b.r ∨ a.r = b.r ∧ a.c < b.c
theorem knR_pw (r : ByteArray) (i : Nat) : ∀ n, (knR r i n).Pairwise befC
 | 0 => List.Pairwise.nil
 | n + 1 => by
  simp only [knR]
  split
  ·refine List.pairwise_append.2 ⟨knR_pw r i n, by simp, fun x hx y hy => ?_⟩
   obtain ⟨k, hk, _, rfl⟩ := (knR_mem n).1 hx
   rw [List.mem_singleton] at hy; subst hy
   refine .inr ⟨rfl, ?_⟩
   dsimp only; omega
  ·exact knR_pw r i n
theorem knK_pw (rows : List ByteArray) : ∀ n, (knK rows n).Pairwise befC
 | 0 => List.Pairwise.nil
 | n + 1 => by
  simp only [knK]
  split
  ·rename_i r hr
   refine List.pairwise_append.2 ⟨knK_pw rows n, knR_pw _ _ _, fun x hx y hy => ?_⟩
   obtain ⟨i, _, k, hi, _, _, _, rfl⟩ := (knK_mem n).1 hx
   obtain ⟨k', _, _, rfl⟩ := (knR_mem _).1 hy
   refine .inl ?_
   dsimp only; omega
  ·exact knK_pw rows n
theorem kn_pw (s : Sh) : (knL s).Pairwise befC := knK_pw _ _
theorem kn_nd (s : Sh) : (knL s).Nodup := (kn_pw s).imp fun h e => by subst e; rcases h with h | h <;> omega
structure Dt (s x : Sh) (D : Cl → Prop) : Prop where
 most : x.most = s.most
 n : x.rows.length = s.rows.length
 sz : ∀ i, i < s.rows.length → (rwS x i).size = (rwS s i).size
 dot : ∀ (i k : Nat), i < s.rows.length → k < (rwS s i).size → D ⟨i, k⟩ → chS x i k = 46
 ch : ∀ (i k : Nat), i < s.rows.length → ¬ D ⟨i, k⟩ → chS x i k = chS s i k
structure Frm (s x : Sh) : Prop where
 n : x.rows.length = s.rows.length
 sz : ∀ i, i < s.rows.length → (rwS x i).size = (rwS s i).size
theorem frm_wd {s x : Sh} (h : Frm s x) (h1 : 1 ≤ s.rows.length) : wdS x = wdS s := h.sz 0 (by omega)
theorem frm_ok {s x : Sh} (hs : ShOk s) (h : Frm s x) (hm : 1 ≤ x.most ∧ x.most ≤ 36) (hf : ∀ i k, i < s.rows.length → k < wdS s → okC (chS x i k) = true) (hk : (∀ i k, i < s.rows.length → k < wdS s → chS x i k = 111 → chS s i k = 111) ∨ (knL x).length ≤ 10) : ShOk x := by
 have hw := frm_wd h hs.n.1
 have hsz : ∀ r ∈ x.rows, r.size = wdS x := fun r hr => by
  obtain ⟨i, hi⟩ := List.getElem?_of_mem hr
  have hil := (List.getElem?_eq_some_iff.1 hi).1
  have e := rwS_at hil
  rw [hi] at e; cases e
  rw [h.n] at hil
  rw [h.sz i hil, hw, rwS_sz hs hil]
 have hfr : ∀ r ∈ x.rows, frR r = true := fun r hr => by
  obtain ⟨i, hi⟩ := List.getElem?_of_mem hr
  have hil := (List.getElem?_eq_some_iff.1 hi).1
  have e := rwS_at hil
  rw [hi] at e; cases e
  rw [h.n] at hil
  exact fr_iff.2 fun k hk => hf i k hil (by rw [h.sz i hil, rwS_sz hs hil] at hk; exact hk)
 refine ⟨by rw [h.n]; exact hs.n, by rw [hw]; exact hs.w, hm, hsz, hfr, ?_⟩
 rcases hk with hk | hk
 ·refine Nat.le_trans (len_sub (kn_nd x) fun c hc => ?_) hs.kn
  obtain ⟨i, r, k, h1, h2, h3, rfl⟩ := kn_mem.1 hc
  have hil := (List.getElem?_eq_some_iff.1 h1).1
  have e := rwS_at hil
  rw [h1] at e; cases e
  rw [h.n] at hil
  have hkw : k < wdS s := by rw [h.sz i hil, rwS_sz hs hil] at h2; exact h2
  exact (kn_at hs).2 ⟨i, k, hil, hkw, hk i k hil hkw h3, rfl⟩
 ·exact hk
theorem gd_eq {s x : Sh} (h : Frm s x) (h1 : 1 ≤ s.rows.length) (hm : x.most = s.most) (hc : ∀ i k, chS x i k = 35 ↔ chS s i k = 35) : gdS x = gdS s := by
 unfold gdS
 rw [h.n, frm_wd h h1, hm]
 congr 1
 funext i k
 exact decide_eq_decide.2 (hc _ _)
theorem ch_out {s : Sh} {i k : Nat} (h : ¬ i < s.rows.length) : chS s i k = 0 := by
 unfold chS
 rw [show s.rows.getD i ByteArray.empty = ByteArray.empty by simp [List.getD, List.getElem?_eq_none (by omega : s.rows.length ≤ i)]]
 rfl
def wtR (r : ByteArray) (k : Nat) (b : UInt8) : ByteArray := ⟨((bt r).take k ++ [b] ++ (bt r).drop (k + 1)).toArray⟩
theorem wtR_bt {r : ByteArray} {k : Nat} {b : UInt8} (h : k < r.size) : bt (wtR r k b) = (bt r).set k b := by
 have : k < (bt r).length := by rw [bt_len]; exact h
 unfold wtR
 show (bt r).take k ++ [b] ++ (bt r).drop (k + 1) = _
 rw [List.set_eq_take_append_cons_drop, if_pos this]; simp
theorem wtR_sz {r : ByteArray} {k : Nat} {b : UInt8} (h : k < r.size) : (wtR r k b).size = r.size := by
 rw [← bt_len, wtR_bt h, List.length_set, bt_len]
theorem wtR_bv {r : ByteArray} {k : Nat} {b : UInt8} (h : k < r.size) (j : Nat) : bv (wtR r k b) j = if j = k then (b.toNat : Int) else bv r j := by
 unfold bv
 rw [wtR_bt h, List.getD_eq_getElem?_getD, List.getD_eq_getElem?_getD, List.getElem?_set]
 have : k < (bt r).length := by rw [bt_len]; exact h
 by_cases e : k = j
 ·subst e; rw [if_pos rfl, if_pos rfl, if_pos this]; rfl
 ·rw [if_neg e, if_neg (fun h => e h.symm)]
def wtS (s : Sh) (i k : Nat) (b : UInt8) : Sh := ⟨s.rows.set i (wtR (rwS s i) k b), s.most⟩
theorem wtS_rw {s : Sh} {i k : Nat} {b : UInt8} (hi : i < s.rows.length) (j : Nat) : rwS (wtS s i k b) j = if j = i then wtR (rwS s i) k b else rwS s j := by
 unfold rwS wtS
 dsimp only
 rw [List.getD_eq_getElem?_getD, List.getElem?_set]
 by_cases e : i = j
 ·subst e; rw [if_pos rfl, if_pos rfl, if_pos hi]; rfl
 ·rw [if_neg e, if_neg (fun h => e h.symm), ← List.getD_eq_getElem?_getD]
theorem wtS_frm {s : Sh} {i k : Nat} {b : UInt8} (hi : i < s.rows.length) (hk : k < (rwS s i).size) : Frm s (wtS s i k b) := by
 refine ⟨by unfold wtS; simp, fun j hj => ?_⟩
 rw [wtS_rw hi]
 split
 ·rename_i e; subst e; exact wtR_sz hk
 ·rfl
theorem wtS_ch {s : Sh} {i k : Nat} {b : UInt8} (hi : i < s.rows.length) (hk : k < (rwS s i).size) (j m : Nat) : chS (wtS s i k b) j m = if j = i ∧ m = k then (b.toNat : Int) else chS s j m := by
 have e1 : chS (wtS s i k b) j m = bv (rwS (wtS s i k b) j) m := rfl
 have e2 : chS s j m = bv (rwS s j) m := rfl
 rw [e1, e2, wtS_rw hi]
 by_cases e : j = i
 ·subst e
  rw [if_pos rfl, wtR_bv hk]
  by_cases f : m = k
  ·rw [if_pos f, if_pos ⟨rfl, f⟩]
  ·rw [if_neg f, if_neg fun h => f h.2]
 ·rw [if_neg e, if_neg fun h => e h.1]
theorem dt_start (s : Sh) : Dt s s fun _ => False := ⟨rfl, rfl, fun i _ => rfl, fun i k _ _ h => h.elim, fun i k _ _ => rfl⟩
theorem dt_step {s x : Sh} {D : Cl → Prop} (h : Dt s x D) {i k : Nat} (hi : i < s.rows.length) (hk : k < (rwS s i).size) : Dt s (wtS x i k 46) fun c => D c ∨ c = ⟨i, k⟩ := by
 have hi' : i < x.rows.length := by rw [h.n]; exact hi
 have hk' : k < (rwS x i).size := by rw [h.sz i hi]; exact hk
 have hf := wtS_frm (b := 46) hi' hk'
 refine ⟨h.most, by rw [hf.n, h.n], fun j hj => by rw [hf.sz j (by rw [h.n]; exact hj), h.sz j hj], fun j m hj hm hd => ?_, fun j m hj hd => ?_⟩
 ·rw [wtS_ch hi' hk']
  by_cases e : j = i ∧ m = k
  ·rw [if_pos e]; rfl
  ·rw [if_neg e]
   rcases hd with hd | hd
   ·exact h.dot j m hj hm hd
   ·simp only [Cl.mk.injEq] at hd
    exact absurd ⟨by omega, by omega⟩ e
 ·rw [wtS_ch hi' hk', if_neg (fun e => hd (.inr (by rw [e.1, e.2])))]
  exact h.ch j m hj fun c => hd (.inl c)
theorem dt_ok {s x : Sh} (hs : ShOk s) {D : Cl → Prop} (h : Dt s x D) (hD : ∀ c, D c → c ∈ knL s) : ShOk x ∧ gdS x = gdS s ∧ ∀ c, c ∈ knL x ↔ c ∈ knL s ∧ ¬ D c := by
 have hf : Frm s x := ⟨h.n, h.sz⟩
 have hk : ∀ i k, i < s.rows.length → k < wdS s → (chS x i k = 46 ∧ D ⟨i, k⟩) ∨ (chS x i k = chS s i k ∧ ¬ D ⟨i, k⟩) := fun i k hi hk => by
  by_cases c : D ⟨i, k⟩
  ·exact .inl ⟨h.dot i k hi (by rw [rwS_sz hs hi]; exact hk) c, c⟩
  ·exact .inr ⟨h.ch i k hi c, c⟩
 have hx : ShOk x := frm_ok hs hf (by rw [h.most]; exact hs.m) (fun i k hi hkw => by
  rcases hk i k hi hkw with h | h
  ·rw [h.1]; decide
  ·rw [h.1]; exact ch_ok hs hi hkw) (.inl fun i k hi hkw he => by
  rcases hk i k hi hkw with h | h
  ·rw [h.1] at he; cases he
  ·rw [← h.1]; exact he)
 refine ⟨hx, gd_eq hf hs.n.1 h.most fun i k => ?_, fun c => ?_⟩
 ·by_cases hi : i < s.rows.length
  ·by_cases c : D ⟨i, k⟩
   ·obtain ⟨i', k', h1, h2, h3, h4⟩ := (kn_at hs).1 (hD _ c)
    simp only [Cl.mk.injEq] at h4
    obtain rfl : i = i' := by omega
    obtain rfl : k = k' := by omega
    rw [h.dot i k hi (by rw [rwS_sz hs hi]; exact h2) c, h3]; decide
   ·rw [h.ch i k hi c]
  ·rw [ch_out hi, ch_out (by rw [h.n]; exact hi)]
 ·rw [kn_at hx, kn_at hs, h.n, frm_wd hf hs.n.1]
  constructor
  ·rintro ⟨i, k, h1, h2, h3, rfl⟩
   rcases hk i k h1 h2 with h | h
   ·rw [h.1] at h3; cases h3
   ·exact ⟨⟨i, k, h1, h2, by rw [← h.1]; exact h3, rfl⟩, h.2⟩
  ·rintro ⟨⟨i, k, h1, h2, h3, rfl⟩, hn⟩
   exact ⟨i, k, h1, h2, by rw [h.ch i k h1 hn]; exact h3, rfl⟩
end Go.Pm
set_option linter.unusedVariables false
namespace Go.Pm
open Go.Gl Go.Lw
structure TnG (g g' : Gd) : Prop where
 R : g'.R = g.C
 C : g'.C = g.R
 most : g'.most = g.most
 fig : ∀ r c, 0 ≤ r → r < g.R → 0 ≤ c → c < g.C → g'.fig c (g.R - 1 - r) = g.fig r c
structure Emb (g g' : Gd) (K : List Cl) (f : Cl → Cl) (F B : Pc → Pc) : Prop where
 to : ∀ p, Lies g p → Lies g' (F p)
 bk : ∀ q k, Lies g' q → k ∈ K → inP q (f k) → Lies g (B q)
 fb : ∀ q, F (B q) = q
 inj : ∀ a b, f a = f b → a = b
 mem : ∀ p k, inP (F p) (f k) ↔ inP p k
 ar : ∀ p, arP (F p) = arP p
end Go.Pm
set_option linter.unusedVariables false
namespace Go.Pm
open Go.Gl Go.Lw
theorem prtK_dis {N : Nat} {S : Nat → Nat → Bool} (hS : ∀ a b, S a b = S b a) : ∀ {n : Nat} {out : List (List Int)}, PrtK N S n out → n ≤ N → out.Pairwise fun p q => ∀ x ∈ p, x ∉ q
 | 0, out, h, _ => by cases h; exact List.Pairwise.nil
 | n + 1, out, h, hn => by
  cases h with
  | skip h1 _ => exact prtK_dis hS h1 (by omega)
  | add h1 h2 h3 =>
   refine List.pairwise_append.2 ⟨prtK_dis hS h1 (by omega), by simp, fun p hp q hq x hx hxq => ?_⟩
   rw [List.mem_singleton] at hq; subst hq
   obtain ⟨i, hi, hip⟩ := (prtK_is h1).1 p hp
   obtain ⟨k, rfl, r1⟩ := (hip.2 x).1 hx
   obtain ⟨k', e, r2⟩ := (h3.2 _).1 hxq
   obtain rfl : k = k' := by omega
   exact h2 ⟨p, hp, (hip.2 _).2 ⟨n, rfl, rch_trans r1 (rch_symm hS (by omega) r2)⟩⟩
theorem prtK_in {N : Nat} {S : Nat → Nat → Bool} {out : List (List Int)} (h : PrtK N S N out) {l : List Int} (hl : l ∈ out) {x : Int} (hx : x ∈ l) : ∃ k : Nat, x = k ∧ k < N := by
 obtain ⟨i, hi, hp⟩ := (prtK_is h).1 l hl
 obtain ⟨k, rfl, hr⟩ := (hp.2 x).1 hx
 exact ⟨k, rfl, rch_lt hi hr⟩
theorem prtK_cl {N : Nat} {S : Nat → Nat → Bool} {out : List (List Int)} (h : PrtK N S N out) {l : List Int} (hl : l ∈ out) {j k : Nat} (hj : (j : Int) ∈ l) (hk : k < N) (hs : S j k = true) : (k : Int) ∈ l := by
 obtain ⟨i, hi, hp⟩ := (prtK_is h).1 l hl
 obtain ⟨k', e, hr⟩ := (hp.2 _).1 hj
 obtain rfl : j = k' := by omega
 exact (hp.2 _).2 ⟨k, rfl, .step hr hk hs⟩
end Go.Pm
set_option linter.unusedVariables false
namespace Go.Pm
open Go.Gl Go.Lw
theorem cAe_al {s : Sh} (h : ShOk s) {l : List Int} (hl : Al (knL s).length (shI (gdS s) (knL s)) l) : cAe s l = 0 := by
 obtain ⟨a, b⟩ := al_iff.1 hl
 unfold cAe
 rw [if_neg (by rw [chE_of h]; simp), a, b]; rfl
end Go.Pm
set_option linter.unusedVariables false
namespace Go.Proofs.YtghomjjffllkeaaGreatDoor
open Go.Lw Go.Gl Go.Pm Go.RowKit Go.Shelf
theorem fine_no {s : Sh} (h : ¬ (!grB s && decide (chE s = 0)) = true) : (!grB s && decide (chE s = 0)) = false := by simpa using h
theorem fine_ok {s : Sh} (h : (!grB s && decide (chE s = 0)) = true) : grB s = false ∧ chE s = 0 := by simpa using h
end Go.Proofs.YtghomjjffllkeaaGreatDoor
set_option linter.unusedVariables false
namespace Go.Pm
open Go.Gl Go.Lw
theorem bt_sub (r : ByteArray) (i j : Nat) : bt (r.extract i j) = ((bt r).drop i).take (j - i) := by
 unfold bt
 rw [ByteArray.data_extract, Array.toList_extract, List.extract_eq_take_drop]
theorem wt_cat {r : ByteArray} {k : Nat} {b : UInt8} (h : k < r.size) : r.extract 0 k ++ (⟨#[b]⟩ : ByteArray) ++ r.extract (k + 1) r.size = wtR r k b := by
 apply bt_ext
 have e : bt (⟨#[b]⟩ : ByteArray) = [b] := rfl
 rw [bt_app, bt_app, bt_sub, bt_sub, e, wtR_bt h, List.set_eq_take_append_cons_drop, if_pos (by rw [bt_len]; exact h), List.drop_zero, Nat.sub_zero, List.take_of_length_le (l := (bt r).drop (k + 1)) (by rw [List.length_drop, bt_len]; omega), List.append_assoc, List.singleton_append]
theorem sub_sz (r : ByteArray) {i j : Nat} (h : i ≤ j) (hj : j ≤ r.size) : (r.extract i j).size = j - i := by
 rw [← bt_len, bt_sub, List.length_take, List.length_drop, bt_len]; omega
theorem flat_bse : ∀ l : List ByteArray, flat bse l = l.map Value.string
 | [] => rfl
 | x :: l => by
  have ih := flat_bse l
  unfold flat at *
  rw [List.flatMap_cons, ih]; rfl
end Go.Pm
namespace Go.Proofs.YtghomjjffllkeaaGreatDoor
open Go.Lw Go.Gl Go.Pm Go.RowKit Go.Shelf
theorem with_f (s : Sh) (hok : ShOk s) (i k : Nat) (hi : i < s.rows.length) (hk : k < wdS s) (b : UInt8) (V : View) (v : Value) (hv : ShV V v s) : Fnc Tryz.prog 50 [v, iv i, iv k, .string ⟨#[b]⟩] V fun r V' => ShV V' r (wtS s i k b) := by
 obtain ⟨a, c, rfl, hs⟩ := id hv
 have hn := hok.n
 have hw := hok.w
 have hr := rwS_at hi
 have hsz := rwS_sz hok hi
 refine qf Tryz.func50 rfl Tryz.ntmps50 (Nat.le_of_ble_eq_true rfl) ?_
 intro w0 hw0
 refine At.nrm ?_
 refine At.zl (.n false 0 (.n false 1 .done)) ?_
 refine AtT.jb ?_
 intro b4
 refine AtT.qx z24 ?_
 intro b8
 refine AtT.done ?_
 refine At.nrm ?_
 refine At.jr (ι := Option Addr × Nat × Nat) (fun g => [(1, iv i), (2, iv k), (3, .string ⟨#[b]⟩), (8, .pointer (some ⟨b8, 0, none⟩)), (9, .pointer (some ⟨g.2.2, 0, none⟩))])
  (fun g => [.blk b8 (LC [.slice none 0 0, iv 0] 24), .blk g.2.2 (LC [.slice g.1 s.rows.length g.2.1, iv s.most] 24), .row (.slice g.1 s.rows.length g.2.1) 9 1 s.rows.length (flat bse s.rows)]) (fun g V'' => True) ?_ ?_
 ·refine At.draw (.q 1 (.q 2 (.q 4 (.q 5 (.two 0 (.two 3 (.q 6 (.n false 7 (.n false 8 .done))) 7 (.n false 3 (.q 6 (.n false 8 .done)))) 7 (.n false 0 (.n false 3 (.q 6 (.n false 8 .done))))))))) ffm (by kernel_rfl) ?_
  refine AtC.start ?_
  refine AtC.pre (fun hle0 => ?_)
  refine AtC.kq (by (first | refine AtT.zi zt ?_ | with_reducible refine AtT.zk zt ?_ | refine AtT.zn zt ?_); exact At.knows) ?_
  refine AtC.kq (by (first | refine AtT.zm zV ?_ | refine AtT.zo zV ?_); exact At.knows) ?_
  refine AtC.kq (by (first | refine AtT.zi zR ?_ | with_reducible refine AtT.zk zR ?_ | refine AtT.zn zR ?_); exact At.knows) ?_
  refine AtC.kq (by (first | refine AtT.zm tk3 ?_ | refine AtT.zo tk3 ?_); exact At.knows) ?_
  refine AtC.two ?_ ?_
  focus
   refine AtC.nz ?_
   refine AtT.bsliceR0 rfl trivial rfl bs22_0 (by decide) (s := 1) (fun b10 => ?_)
   refine AtC.kgo ?_
   refine AtC.two ?_ ?_
   focus
    refine AtC.nz ?_
    refine AtT.appendRS rfl trivial Tryz.underlying22 rw9 rfl (by decide) rfl rfl zX.zO (enc := bse) (m := s.rows) (by first | exact hs | exact hs.le (by assumption)) bse_len (fun _ => rfl) (by unfold maxLen; omega) (by omega) (by decide) (fun a13 c13 => ?_)
    refine AtC.kgo ?_
    rw [Nat.zero_add, List.nil_append]
    refine AtC.kq (by (refine AtT.jc (bd24_0_1 _ _ _ _) ?_); exact At.knows) ?_
    refine AtC.nz ?_
    refine AtT.qx z24 ?_
    intro b9
    refine AtC.kgo ?_
    refine AtC.nz ?_
    refine AtT.zW zM ?_
    refine AtC.kgo ?_
    refine AtC.done ?_
   rotate_right
   focus
    refine AtC.nz ?_
    refine AtT.qx z24 ?_
    intro b9
    refine AtC.kgo ?_
    refine AtC.nz ?_
    refine AtT.appendRS rfl trivial Tryz.underlying22 rw9 rfl (by decide) rfl rfl zX.zO (enc := bse) (m := s.rows) (by first | exact hs | exact hs.le (by assumption)) bse_len (fun _ => rfl) (by unfold maxLen; omega) (by omega) (by decide) (fun a13 c13 => ?_)
    refine AtC.kgo ?_
    rw [Nat.zero_add, List.nil_append]
    refine AtC.kq (by (refine AtT.jc (bd24_0_1 _ _ _ _) ?_); exact At.knows) ?_
    refine AtC.nz ?_
    refine AtT.zW zM ?_
    refine AtC.kgo ?_
    refine AtC.done ?_
  rotate_right
  focus
   refine AtC.nz ?_
   refine AtT.qx z24 ?_
   intro b9
   refine AtC.kgo ?_
   refine AtC.nz ?_
   refine AtT.bsliceR0 rfl trivial rfl bs22_0 (by decide) (s := 1) (fun b10 => ?_)
   refine AtC.kgo ?_
   refine AtC.nz ?_
   refine AtT.appendRS rfl trivial Tryz.underlying22 rw9 rfl (by decide) rfl rfl zX.zO (enc := bse) (m := s.rows) (by first | exact hs | exact hs.le (by assumption)) bse_len (fun _ => rfl) (by unfold maxLen; omega) (by omega) (by decide) (fun a13 c13 => ?_)
   refine AtC.kgo ?_
   rw [Nat.zero_add, List.nil_append]
   refine AtC.kq (by (refine AtT.jc (bd24_0_1 _ _ _ _) ?_); exact At.knows) ?_
   refine AtC.nz ?_
   refine AtT.zW zM ?_
   refine AtC.kgo ?_
   refine AtC.done ?_
  all_goals (refine At.nrm ?_)
  all_goals exact At.qC (a13, c13, b9) trivial ⟨rfl, rfl, rfl, rfl, rfl, trivial⟩ Pt.zO
 rintro ⟨ax, cx', b9⟩ V3 ks' O' - hk2 hO hl3
 dsimp only at hk2 hO
 subst hk2 hO
 refine At.rowBlk (v := .slice ax s.rows.length cx') zX.zO (by omega) (fun bb cap rest hbb hcap hcm => ?_)
 cases hbb
 have hfl := flat_bse s.rows
 have hlen : (flat bse s.rows).length = s.rows.length := by rw [hfl, List.length_map]
 have hat : (flat bse s.rows ++ rest)[i * 1]? = some (.string (rwS s i)) := by
  rw [Nat.mul_one, List.getElem?_append_left (by omega), hfl, List.getElem?_map, hr]; rfl
 have hlt : i * 1 < (flat bse s.rows ++ rest).length := by rw [List.length_append]; omega
 have hset : (flat bse s.rows ++ rest).set (i * 1) (.string (wtR (rwS s i) k b)) = flat bse (s.rows.set i (wtR (rwS s i) k b)) ++ rest := by
  rw [Nat.mul_one, List.set_append, if_pos (by omega), hfl, flat_bse, List.map_set]
 have hk1 : ((k : Int) + 1).toNat = k + 1 := by omega
 have hwt := wt_cat (b := b) (show k < (rwS s i).size by omega)
 have z1 := sub_sz (rwS s i) (Nat.zero_le k) (by omega)
 have z2 := sub_sz (rwS s i) (i := k + 1) (j := (rwS s i).size) (by omega) (Nat.le_refl _)
 have z3 : ((rwS s i).extract 0 k ++ (⟨#[b]⟩ : ByteArray)).size = k - 0 + 1 := by rw [ByteArray.size_append, z1]; rfl
 have z4 : (⟨#[b]⟩ : ByteArray).size = 1 := rfl
 refine At.nrm ?_
 refine At.draw (.q 0 (.q 1 (.q 2 (.q 3 (.q 4 (.q 5 (.q 6 (.q 7 (.q 8 (.q 9 (.q 10 (.q 11 (.q 12 (.q 13 (.q 14 (.q 15 (.q 16 (.q 17 (.q 18 (.q 19 (.q 20 (.q 21 (.n true 22 .done))))))))))))))))))))))) ffm (by kernel_rfl) ?_
 first | refine AtT.zi zt ?_ | with_reducible refine AtT.zk zt ?_ | refine AtT.zn zt ?_
 first | refine AtT.zm zV ?_ | refine AtT.zo zV ?_
 refine AtT.zh ?_
 first | refine AtT.zi zt ?_ | with_reducible refine AtT.zk zt ?_ | refine AtT.zn zt ?_
 first | refine AtT.zm zV ?_ | refine AtT.zo zV ?_
 refine AtT.zh ?_
 refine AtT.idxZ rfl trivial Tryz.underlying22 tk9 rfl rfl hi (by decide) ?_
 refine AtT.loadO rfl trivial rfl tk9 zX.zO hat (by decide) ?_
 refine AtT.zh ?_
 refine AtT.subH rfl trivial Tryz.underlying9 rfl rfl (by omega) (by omega) (by decide) ?_
 rw [Int.toNat_natCast]
 refine AtT.zh ?_
 refine AtT.catS rfl trivial rfl rfl (by omega) (by decide) ?_
 first | refine AtT.zi zt ?_ | with_reducible refine AtT.zk zt ?_ | refine AtT.zn zt ?_
 first | refine AtT.zm zV ?_ | refine AtT.zo zV ?_
 refine AtT.zh ?_
 refine AtT.idxZ rfl trivial Tryz.underlying22 tk9 rfl rfl hi (by decide) ?_
 refine AtT.loadO rfl trivial rfl tk9 zX.zO hat (by decide) ?_
 refine AtT.zh ?_
 first | refine AtT.qi ?_ | refine AtT.zT ?_
 refine AtT.subL rfl trivial Tryz.underlying9 rfl rfl (by omega) (by omega) (by decide) ?_
 rw [hk1]
 refine AtT.catS rfl trivial rfl rfl (by omega) (by decide) ?_
 rw [hwt]
 refine AtT.idxZ rfl trivial Tryz.underlying22 tk9 rfl rfl hi (by decide) ?_
 refine AtT.store1 rfl trivial rfl rfl tk9 rfl rfl (by repeat first|exact Upd.here|apply Upd.there) (setAt_of hlt hset) ?_
 refine AtT.done ?_
 refine At.nrm ?_
 refine At.nrm ?_
 refine At.zl (.q 0 (.n true 1 .done)) ?_
 first | refine AtT.zD zM ?_ | refine AtT.zJ zM ?_ | refine AtT.zC zM ?_
 refine AtT.zW zM ?_
 refine AtT.done ?_
 refine At.nrm ?_
 refine At.giveB (b := bb) zX.zO (fun V6 hV6 hb6 => ?_)
 refine At.qb rfl (.agg rfl zM zX.zO rfl) ⟨some ⟨bb, 0, none⟩, cx', ?_, ?_⟩
 ·show _ = Value.agg #[.slice _ (s.rows.set i (wtR (rwS s i) k b)).length _, _]
  rw [List.length_set]; rfl
 ·show Sl V6 bse 1 (.slice _ (s.rows.set i (wtR (rwS s i) k b)).length _) (s.rows.set i (wtR (rwS s i) k b))
  exact Sl.of_cells bse_len (cells_pre hb6) (by rw [List.length_set]; exact hcap) hcm
end Go.Proofs.YtghomjjffllkeaaGreatDoor


set_option linter.unusedVariables false
namespace Go.Pm
open Go.Gl Go.Lw
theorem prt_len {s : Sh} (hok : ShOk s) {out : List (List Int)} (h : PrtK (knL s).length (shN (gdS s) (knL s)) (knL s).length out) : ∃ l, Rps (gdS s) (knL s) l ∧ l.length = out.length := prt_rps (sh_gok hok) (kn_on hok) (kn_nd s) h
end Go.Pm
namespace Go.Proofs.YtghomjjffllkeaaGreatDoor
open Go.Lw Go.Gl Go.Pm Go.RowKit Go.Shelf
theorem pr_ok {s : Sh} (h0 : chE s = 0) {ll : List (List Int)} (h : (chE s ≠ 0 ∧ ll = []) ∨ (chE s = 0 ∧ PrtK (knL s).length (shN (gdS s) (knL s)) (knL s).length ll)) : PrtK (knL s).length (shN (gdS s) (knL s)) (knL s).length ll := by
 rcases h with ⟨h, _⟩ | ⟨_, h⟩
 ·exact absurd h0 h
 ·exact h
end Go.Proofs.YtghomjjffllkeaaGreatDoor


set_option linter.unusedVariables false
namespace Go.Pm
open Go.Gl Go.Lw
def gP (ll : List (List Int)) : Nat → Nat → Int
 | 0, _ => 0
 | i + 1, j => if (j : Int) ∈ ll.getD i [] then (i : Int) + 1 else gP ll i j
def fP (ll : List (List Int)) (i : Nat) (P : List Int) (k j : Nat) : Int := if (j : Int) ∈ P.take k then (i : Int) + 1 else gP ll i j
theorem gP_bd (ll : List (List Int)) (j : Nat) : ∀ i, 0 ≤ gP ll i j ∧ gP ll i j ≤ i
 | 0 => by simp [gP]
 | i + 1 => by
  have ih := gP_bd ll j i
  simp only [gP]
  split <;> omega
theorem gP_zero {ll : List (List Int)} {j : Nat} : ∀ {i : Nat}, (∀ t, t < i → (j : Int) ∉ ll.getD t []) → gP ll i j = 0
 | 0, _ => rfl
 | i + 1, h => by
  simp only [gP]
  rw [if_neg (h i (by omega))]
  exact gP_zero fun t ht => h t (by omega)
theorem gP_pos {ll : List (List Int)} {j : Nat} : ∀ {i : Nat}, gP ll i j ≠ 0 → ∃ t, t < i ∧ (j : Int) ∈ ll.getD t [] ∧ gP ll i j = t + 1
 | 0, h => absurd rfl h
 | i + 1, h => by
  simp only [gP] at h ⊢
  by_cases c : (j : Int) ∈ ll.getD i []
  ·exact ⟨i, by omega, c, by rw [if_pos c]⟩
  ·rw [if_neg c] at h ⊢
   obtain ⟨t, ht, h1, h2⟩ := gP_pos h
   exact ⟨t, by omega, h1, h2⟩
def DisP (ll : List (List Int)) : Prop := ∀ t t' : Nat, t ≠ t' → ∀ x ∈ ll.getD t [], x ∉ ll.getD t' []
theorem disP_of {ll : List (List Int)} (h : ll.Pairwise fun p q => ∀ x ∈ p, x ∉ q) : DisP ll := fun t t' hne x hx hx' => by
 have hl : ∀ {t : Nat} {x : Int}, x ∈ ll.getD t [] → t < ll.length := fun {t x} hx => by
  apply Classical.byContradiction
  intro hc
  rw [List.getD_eq_getElem?_getD, List.getElem?_eq_none (by omega)] at hx
  cases hx
 have h1 := hl hx
 have h2 := hl hx'
 rw [List.getD_eq_getElem?_getD, List.getElem?_eq_getElem h1] at hx
 rw [List.getD_eq_getElem?_getD, List.getElem?_eq_getElem h2] at hx'
 have hp := List.pairwise_iff_getElem.1 h
 rcases Nat.lt_or_gt_of_ne hne with e | e
 ·exact hp t t' h1 h2 e x hx hx'
 ·exact hp t' t h2 h1 e x hx' hx
theorem gP_at {ll : List (List Int)} (hd : DisP ll) {j t : Nat} (hj : (j : Int) ∈ ll.getD t []) : ∀ {i : Nat}, t < i → gP ll i j = t + 1
 | 0, h => absurd h (Nat.not_lt_zero t)
 | i + 1, h => by
  simp only [gP]
  by_cases e : t = i
  ·subst e; rw [if_pos hj]
  ·rw [if_neg (hd t i e _ hj)]
   exact gP_at hd hj (by omega)
theorem fP_end (ll : List (List Int)) (i j : Nat) : fP ll i (ll.getD i []) (ll.getD i []).length j = gP ll (i + 1) j := by
 unfold fP
 rw [List.take_length]
 simp only [gP]
theorem fP_start (ll : List (List Int)) (i : Nat) (P : List Int) (j : Nat) : fP ll i P 0 j = gP ll i j := by unfold fP; simp
theorem fP_set {ll : List (List Int)} {i k x N : Nat} {P : List Int} (h : P[k]? = some (x : Int)) : ((List.range N).map (fP ll i P k)).set x ((i : Int) + 1) = (List.range N).map (fP ll i P (k + 1)) := by
 have htk : P.take (k + 1) = P.take k ++ [(x : Int)] := by rw [List.take_add_one, h]; rfl
 refine List.ext_getElem? fun j => ?_
 rw [List.getElem?_set, List.getElem?_map, List.getElem?_map, List.length_map, List.length_range]
 by_cases hj : j < N
 ·rw [List.getElem?_range hj]
  by_cases e : x = j
  ·subst e
   rw [if_pos rfl, if_pos hj]
   show some _ = some (fP ll i P (k + 1) x)
   unfold fP
   rw [htk, if_pos (by simp)]
  ·rw [if_neg e]
   show some (fP ll i P k j) = some (fP ll i P (k + 1) j)
   unfold fP
   rw [htk]
   have : ((j : Int) ∈ P.take k ++ [(x : Int)]) ↔ (j : Int) ∈ P.take k := by
    rw [List.mem_append, List.mem_singleton]
    constructor
    ·rintro (h | h)
     ·exact h
     ·omega
    ·exact .inl
   simp only [this]
 ·rw [List.getElem?_eq_none (l := List.range N) (by rw [List.length_range]; omega)]
  by_cases e : x = j
  ·rw [if_pos e, if_neg (by omega)]; rfl
  ·rw [if_neg e]; rfl
theorem fP_zero {ll : List (List Int)} (hd : DisP ll) {i k x : Nat} (hnd : (ll.getD i []).Nodup) (h : (ll.getD i [])[k]? = some (x : Int)) : fP ll i (ll.getD i []) k x = 0 := by
 have hm := List.mem_of_getElem? h
 unfold fP
 rw [if_neg (fun hc => ?_), gP_zero fun t ht hc => hd t i (by omega) _ hc hm]
 obtain ⟨j, hj, e⟩ := List.mem_take_iff_getElem.1 hc
 have hkl := (List.getElem?_eq_some_iff.1 h).1
 have hjl : j < (ll.getD i []).length := by omega
 have := (List.getElem?_inj hjl hnd).1 (((List.getElem?_eq_getElem hjl).trans (congrArg some e)).trans h.symm)
 omega
def DP (K : List Cl) (P : List Int) (k : Nat) (c : Cl) : Prop := ∃ j : Nat, j < k ∧ K[j]? = some c ∧ (j : Int) ∉ P
theorem dP_in {K : List Cl} {P : List Int} {k : Nat} (h : (k : Int) ∈ P) : DP K P (k + 1) = DP K P k := by
 funext c
 refine propext ⟨?_, ?_⟩
 ·rintro ⟨j, hj, h1, h2⟩
  have : j ≠ k := fun e => h2 (by subst e; exact h)
  exact ⟨j, by omega, h1, h2⟩
 ·rintro ⟨j, hj, h1, h2⟩; exact ⟨j, by omega, h1, h2⟩
theorem dP_out {K : List Cl} {P : List Int} {k : Nat} {x : Cl} (h : (k : Int) ∉ P) (hx : K[k]? = some x) : DP K P (k + 1) = fun c => DP K P k c ∨ c = x := by
 funext c
 refine propext ⟨?_, ?_⟩
 ·rintro ⟨j, hj, h1, h2⟩
  by_cases e : j = k
  ·subst e; rw [hx] at h1; cases h1; exact .inr rfl
  ·exact .inl ⟨j, by omega, h1, h2⟩
 ·rintro (⟨j, hj, h1, h2⟩ | rfl)
  ·exact ⟨j, by omega, h1, h2⟩
  ·exact ⟨k, by omega, hx, h⟩
theorem dP_zero (K : List Cl) (P : List Int) : DP K P 0 = fun _ => False := by
 funext c
 exact propext ⟨fun ⟨j, hj, _⟩ => absurd hj (Nat.not_lt_zero j), fun h => h.elim⟩
theorem dP_kn {K : List Cl} (hnd : K.Nodup) {P : List Int} (c : Cl) : (c ∈ K ∧ ¬ DP K P K.length c) ↔ ∃ j : Nat, K[j]? = some c ∧ (j : Int) ∈ P := by
 constructor
 ·rintro ⟨h1, h2⟩
  obtain ⟨j, hj⟩ := List.getElem?_of_mem h1
  refine ⟨j, hj, Classical.byContradiction fun hc => h2 ⟨j, (List.getElem?_eq_some_iff.1 hj).1, hj, hc⟩⟩
 ·rintro ⟨j, hj, hp⟩
  refine ⟨List.mem_of_getElem? hj, fun ⟨k, hk, h1, h2⟩ => ?_⟩
  have := (List.getElem?_inj hk hnd).1 (h1.trans hj.symm)
  subst this
  exact h2 hp
def PaS (g : Gd) (K : List Cl) (ll : List (List Int)) (i n : Nat) (c : Int) : Prop := ∃ A, (∀ x, x ∈ A ↔ ∃ j : Nat, K[j]? = some x ∧ gP ll i j ≠ 0) ∧ jy g A n c
theorem pa_start {g : Gd} {K : List Cl} {ll : List (List Int)} : PaS g K ll 0 0 0 := ⟨[], fun x => ⟨fun h => (by cases h), fun ⟨j, _, h⟩ => absurd rfl h⟩, best_nil⟩
theorem pa_step {g : Gd} (hg : GOk g) {K : List Cl} (hon : ∀ k ∈ K, OnG g k) {ll : List (List Int)} (hp : PrtK K.length (shN g K) K.length ll) {i n m : Nat} {c d : Int} (hi : i < ll.length) (h : PaS g K ll i n c) {B : List Cl} (hB : ∀ x, x ∈ B ↔ ∃ j : Nat, K[j]? = some x ∧ (j : Int) ∈ ll.getD i []) (hb : jy g B m d) : PaS g K ll (i + 1) (n + m) (c + d) := by
 obtain ⟨A, hA, ha⟩ := h
 have hd := disP_of (prtK_dis (sh_symm g K) hp (Nat.le_refl _))
 have hmem : ∀ t, t < ll.length → ll.getD t [] ∈ ll := fun t ht => by
  rw [List.getD_eq_getElem?_getD, List.getElem?_eq_getElem ht]
  exact List.getElem_mem ht
 refine ⟨A ++ B, fun x => ?_, best_sum (fun a ha b hb p hlp h1 h2 => ?_) ha hb⟩
 ·rw [List.mem_append, hA, hB]
  constructor
  ·rintro (⟨j, h1, h2⟩ | ⟨j, h1, h2⟩)
   ·refine ⟨j, h1, ?_⟩
    have := gP_bd ll j i
    simp only [gP]; split <;> omega
   ·refine ⟨j, h1, ?_⟩
    simp only [gP]
    rw [if_pos h2]; omega
  ·rintro ⟨j, h1, h2⟩
   simp only [gP] at h2
   by_cases e : (j : Int) ∈ ll.getD i []
   ·exact .inr ⟨j, h1, e⟩
   ·rw [if_neg e] at h2; exact .inl ⟨j, h1, h2⟩
 ·obtain ⟨j, hj, hjn⟩ := (hA a).1 ha
  obtain ⟨k, hk, hki⟩ := (hB b).1 hb
  obtain ⟨t, ht, hjt, _⟩ := gP_pos hjn
  have hs := sh_of hg hon hj hk hlp h1 h2
  have := prtK_cl hp (hmem t (by omega)) hjt (List.getElem?_eq_some_iff.1 hk).1 hs
  exact hd t i (by omega) _ this hki
theorem pa_all {N : Nat} {S : Nat → Nat → Bool} {ll : List (List Int)} (hp : PrtK N S N ll) (hS : ∀ a b, S a b = S b a) {j : Nat} (hj : j < N) : ∃ t, t < ll.length ∧ (j : Int) ∈ ll.getD t [] ∧ gP ll ll.length j = t + 1 := by
 obtain ⟨l, hl, hjl⟩ := (prtK_is hp).2 j hj
 obtain ⟨t, ht⟩ := List.getElem?_of_mem hl
 have htl := (List.getElem?_eq_some_iff.1 ht).1
 have e : (j : Int) ∈ ll.getD t [] := by rw [List.getD_eq_getElem?_getD, ht]; exact hjl
 exact ⟨t, htl, e, gP_at (disP_of (prtK_dis hS hp (Nat.le_refl _))) e htl⟩
theorem pa_end {g : Gd} {K : List Cl} {ll : List (List Int)} (hp : PrtK K.length (shN g K) K.length ll) {n m : Nat} {c d : Int} (h : PaS g K ll ll.length n c) (hB : jy g K m d) : n = m ∧ c = d := by
 obtain ⟨A, hA, ha⟩ := h
 refine best_uniq (best_mem ha fun x => ?_) hB
 rw [hA]
 constructor
 ·rintro ⟨j, hj, _⟩; exact List.mem_of_getElem? hj
 ·intro hx
  obtain ⟨j, hj⟩ := List.getElem?_of_mem hx
  obtain ⟨t, _, _, e⟩ := pa_all hp (sh_symm g K) (List.getElem?_eq_some_iff.1 hj).1
  exact ⟨j, hj, by omega⟩
theorem pa_two {g : Gd} {K : List Cl} {ll : List (List Int)} (hp : PrtK K.length (shN g K) K.length ll) {i k : Nat} (hi : i < K.length) (hk : k < K.length) (h : gP ll ll.length i ≠ gP ll ll.length k) : Al K.length (shI g K) [min (i : Int) k, max (i : Int) k] := by
 have hd := disP_of (prtK_dis (sh_symm g K) hp (Nat.le_refl _))
 have hne : i ≠ k := fun e => h (by rw [e])
 have hS : shN g K i k = false := by
  cases c : shN g K i k with
  | false => rfl
  | true =>
   obtain ⟨t, ht, h1, h2⟩ := pa_all hp (sh_symm g K) hi
   have hm : ll.getD t [] ∈ ll := by
    rw [List.getD_eq_getElem?_getD, List.getElem?_eq_getElem ht]
    exact List.getElem_mem ht
   have := gP_at hd (prtK_cl hp hm h1 hk c) ht
   exact absurd (h2.trans this.symm) h
 refine ⟨List.pairwise_cons.2 ⟨fun y hy => ?_, by simp⟩, fun y hy => ?_⟩
 ·rw [List.mem_singleton] at hy; subst hy
  refine ⟨by omega, ?_⟩
  unfold shI
  rcases Nat.lt_or_gt_of_ne hne with e | e
  ·rw [show (min (i : Int) k).toNat = i by omega, show (max (i : Int) k).toNat = k by omega]; exact hS
  ·rw [show (min (i : Int) k).toNat = k by omega, show (max (i : Int) k).toNat = i by omega, sh_symm]; exact hS
 ·simp only [List.mem_cons, List.not_mem_nil, or_false] at hy
  rcases hy with rfl | rfl <;> omega
theorem prtK_nd {N : Nat} {S : Nat → Nat → Bool} {out : List (List Int)} (h : PrtK N S N out) {l : List Int} (hl : l ∈ out) : l.Nodup := by
 obtain ⟨i, hi, hp⟩ := (prtK_is h).1 l hl
 exact hp.1.imp fun h e => by omega
end Go.Pm
set_option linter.unusedVariables false
namespace Go.Pm
open Go.Gl Go.Lw
theorem rep_map (N : Nat) (ll : List (List Int)) : List.replicate N (0 : Int) = (List.range N).map (gP ll 0) := by
 refine List.ext_getElem? fun j => ?_
 rw [List.getElem?_replicate, List.getElem?_map]
 by_cases h : j < N
 ·rw [if_pos h, List.getElem?_range h]; rfl
 ·rw [if_neg h, List.getElem?_eq_none (by rw [List.length_range]; omega)]; rfl
theorem of_at {N : Nat} (f : Nat → Int) {j : Nat} (h : j < N) : (flat ei ((List.range N).map f))[j * 1]? = some (.int .i64 (f j)) := by
 rw [Nat.mul_one, flat_ei, List.getElem?_map, List.getElem?_map, List.getElem?_range h]; rfl
theorem of_set {N : Nat} {f g : Nat → Int} {j : Nat} {z : Int} (h : ((List.range N).map f).set j z = (List.range N).map g) : (flat ei ((List.range N).map f)).set (j * 1) (.int .i64 z) = flat ei ((List.range N).map g) := by
 rw [Nat.mul_one, flat_ei, flat_ei, ← h, List.map_set]
theorem of_len (N : Nat) (f : Nat → Int) : (flat ei ((List.range N).map f)).length = N := by rw [flat_ei, List.length_map, List.length_map, List.length_range]
end Go.Pm
namespace Go.Proofs.YtghomjjffllkeaaGreatDoor
open Go.Lw Go.Gl Go.Pm Go.RowKit Go.Shelf
set_option maxHeartbeats 3200000 in
theorem patchParted_f (s : Sh) (R1 R2 : Int) (hR1 : 0 ≤ R1 ∧ R1 ≤ 255) (hR2 : 0 ≤ R2 ∧ R2 ≤ 255) (V : View) (v : Value) (hv : ShV V v s) : Fnc Tryz.prog 9 [v, .int .u8 R1, .int .u8 R2] V fun r _ => r = .bool true := by
 obtain ⟨a, c, rfl, hs⟩ := id hv
 refine qf Tryz.func9 rfl Tryz.ntmps9 (Nat.le_of_ble_eq_true rfl) ?_
 intro w0 hw0
 refine At.nrm ?_
 refine At.zl (.n false 0 (.q 1 .done)) ?_
 refine AtT.jb ?_
 intro b3
 refine AtT.zf ?_
 refine AtT.done ?_
 refine At.nrm ?_
 by_cases gf : (!grB s && decide (chE s = 0)) = true
 rotate_left
 ·refine At.zl (.q 0 (.n false 1 (.q 2 .done))) ?_
  first | refine AtT.zD zM ?_ | refine AtT.zJ zM ?_ | refine AtT.zC zM ?_
  refine AtT.zq rfl rfl ok43 (fine_f s _ _ hv) ?_
  rintro _ rfl
  refine AtT.setB (d := 28) rfl ((fine_no gf)) ?_
  refine AtT.qZ ?_
  refine AtT.setB (d := 29) rfl ((show (!false) = true from rfl)) ?_
  refine AtT.done ?_
  refine At.nrm ?_
  refine At.qB rfl rfl ?_
  refine At.nrm ?_
  refine At.zl (.n false 0 (.q 1 .done)) ?_
  refine AtT.zq rfl rfl ok16 (works_f _) ?_
  rintro _ rfl
  refine AtT.zf ?_
  refine AtT.done ?_
  refine At.nrm ?_
  exact At.qb rfl (.tmp rfl) rfl
 obtain ⟨gg, h0⟩ := fine_ok gf
 have hok := jo h0
 have hkn := hok.kn
 have hsn := hok.n
 have hg := sh_gok hok
 have hon := kn_on hok
 have hnd := kn_nd s
 refine At.zl (.q 0 (.n false 1 (.q 2 .done))) ?_
 first | refine AtT.zD zM ?_ | refine AtT.zJ zM ?_ | refine AtT.zC zM ?_
 refine AtT.zq rfl rfl ok43 (fine_f s _ _ hv) ?_
 rintro _ rfl
 refine AtT.setB (d := 28) rfl (gf) ?_
 refine AtT.qZ ?_
 refine AtT.setB (d := 29) rfl ((show (!true) = false from rfl)) ?_
 refine AtT.done ?_
 refine At.nrm ?_
 refine At.qW rfl rfl ?_
 refine At.nrm ?_
 refine At.zl (.q 0 (.n false 1 (.q 2 .done))) ?_
 first | refine AtT.zD zM ?_ | refine AtT.zJ zM ?_ | refine AtT.zC zM ?_
 refine AtT.qg rfl rfl ok44 (knotsOf_f s (by have := hok.n; omega) (fun r hr => by rw [hok.sz r hr]; have := hok.w; omega) _ _ hv) ?_
 rintro _ V32 hV32 hk32; obtain ⟨a32, c32, rfl, k1, k2, _⟩ := id hk32; clear k1 k2
 refine AtT.zf ?_
 refine AtT.done ?_
 refine At.nrm ?_
 replace hv := hv.le hV32
 replace hs := hs.le hV32
 clear hV32
 refine At.zl (.q 0 (.n false 1 (.q 2 (.q 3 (.q 4 (.q 5 (.q 6 (.q 7 (.q 8 (.q 9 (.q 10 .done))))))))))) ?_
 first | refine AtT.zD zM ?_ | refine AtT.zJ zM ?_ | refine AtT.zC zM ?_
 refine AtT.qg rfl rfl ok45 (few_f s h0 _ _ hv) ?_
 rintro _ V35 hV35 ⟨a35, c35, ps, rfl, hs35, hm⟩
 refine AtT.zh ?_
 refine AtT.zL ?_
 refine AtT.zL ?_
 refine AtT.zL ?_
 refine AtT.zL ?_
 refine AtT.zf ?_
 refine AtT.zf ?_
 refine AtT.zf ?_
 refine AtT.zf ?_
 refine AtT.done ?_
 refine At.nrm ?_
 replace hv := hv.le hV35
 replace hs := hs.le hV35
 replace hk32 := hk32.le hV35
 clear hV35
 have hbl := best_le_len hg hon (kn_fig hok) hm.best
 have harb := arL_bd hg hm.mends.lies
 refine At.zl (.q 0 (.n false 1 (.q 2 (.q 3 (.q 4 (.q 5 (.q 6 .done))))))) ?_
 first | refine AtT.zD zM ?_ | refine AtT.zJ zM ?_ | refine AtT.zC zM ?_
 refine AtT.qg rfl rfl ok30 (partsP_f s _ _ hv) ?_
 rintro _ V42 hV42 ⟨u42, ll, rfl, hu42, hr42⟩; rw [h0]
 refine AtT.zh ?_
 refine AtT.zL ?_
 refine AtT.zL ?_
 refine AtT.zf ?_
 refine AtT.zf ?_
 refine AtT.done ?_
 refine At.nrm ?_
 replace hv := hv.le hV42
 replace hs := hs.le hV42
 replace hk32 := hk32.le hV42
 clear hV42
 have hprt := pr_ok h0 hr42
 have hdis := disP_of (prtK_dis (sh_symm (gdS s) (knL s)) hprt (Nat.le_refl _))
 obtain ⟨qs, hqs, hql, hqe⟩ := id hu42
 obtain ⟨a42, c42, rfl, k1, k2, _⟩ := id hqs
 clear k1 k2
 obtain ⟨r1, hr1, hr1l⟩ := prt_len hok hprt
 have hlk : ll.length ≤ (knL s).length := by
  have hnd1 : r1.Nodup := hr1.apart.imp fun {a b} hn e => hn (by subst e; exact .refl)
  have := len_sub hnd1 hr1.sub
  omega
 refine At.zl (.q 0 (.q 1 (.q 2 (.q 3 (.q 4 (.q 5 (.q 6 (.q 7 (.q 8 (.q 9 (.q 10 (.q 11 (.q 12 .done))))))))))))) ?_
 refine AtT.zh ?_
 refine AtT.setB (d := 45) rfl (rfl) ?_
 refine AtT.qZ ?_
 refine AtT.setB (d := 46) rfl ((show (!true) = false from rfl)) ?_
 refine AtT.zh ?_
 all_goals (first | refine AtT.kL 47 ?_ | refine AtT.zB (d := 47) rfl (fun hg47 => ?_) (fun hg47 => ?_) | refine AtT.zA (d := 47) rfl (fun hg47 => ?_) (fun hg47 => ?_))
 all_goals first|refine AtT.zg ?_|refine AtT.ze ?_|(refine AtT.zh ?_)
 all_goals first|refine AtT.zg ?_|refine AtT.ze ?_|(refine AtT.qH ?_)
 all_goals (refine AtT.qm (d := 49) rfl ((fun h => h rfl)) ?_)
 all_goals (refine AtT.zz ?_)
 all_goals (refine AtT.zh ?_)
 all_goals (first | refine AtT.kL 51 ?_ | refine AtT.zB (d := 51) rfl (fun hg51 => ?_) (fun hg51 => ?_) | refine AtT.zA (d := 51) rfl (fun hg51 => ?_) (fun hg51 => ?_))
 all_goals first|refine AtT.zg ?_|refine AtT.ze ?_|(refine AtT.zh ?_)
 all_goals first|refine AtT.zg ?_|refine AtT.ze ?_|(first | refine AtT.zY Tryz.underlying42 ?_ | refine AtT.zZ Tryz.underlying42 ?_)
 all_goals first|refine AtT.zg ?_|refine AtT.ze ?_|(refine AtT.zh ?_)
 all_goals first|refine AtT.zg ?_|refine AtT.ze ?_|(first | refine AtT.zY Tryz.underlying58 ?_ | refine AtT.zZ Tryz.underlying58 ?_)
 all_goals first|refine AtT.zg ?_|refine AtT.ze ?_|(refine AtT.qw ?_)
 all_goals (refine AtT.qm (d := 56) rfl ((by omega)) ?_)
 all_goals (refine AtT.zz ?_)
 all_goals refine AtT.done ?_
 all_goals (refine At.nrm ?_)
 refine At.qW rfl rfl ?_
 refine At.nrm ?_
 refine At.zl (.q 0 (.q 1 (.n false 2 (.q 3 .done)))) ?_
 refine AtT.zh ?_
 first | refine AtT.zY Tryz.underlying58 ?_ | refine AtT.zZ Tryz.underlying58 ?_
 refine AtT.makeSl rfl trivial ei rfl Tryz.underlying39 rw3 rfl rfl (by decide) rfl rfl (by omega) (by omega) (by decide) (za := (0 : Int)) ?_
 intro b60
 refine AtT.zf ?_
 refine AtT.done ?_
 refine At.nrm ?_
 rw [rep_map _ ll]
 refine At.zl (.q 0 .done) ?_
 refine AtT.zf ?_
 refine AtT.done ?_
 refine At.nrm ?_
 refine At.lp (ι := Nat × Nat × Int) (KS := fun g => [(1, .int .u8 R1), (2, .int .u8 R2), (3, .pointer (some ⟨b3, 0, none⟩)), (7, .slice a32 (knL s).length c32), (8, iv ((ps.length : Int) - (g.2.1 : Int))), (9, iv (arL ps - g.2.2)), (12, .slice a42 qs.length c42), (14, .slice (some ⟨b60, 0, none⟩) (knL s).length (knL s).length), (15, iv g.1)])
  (OS := fun g => [.blk b3 (LC [.slice a s.rows.length c, iv s.most] 24), .blk b60 (LC (flat ei ((List.range (knL s).length).map (gP ll g.1))) 3)])
  (VS := fun g V' => Le V42 V' ∧ g.1 ≤ ll.length ∧ g.2.1 ≤ 10 * g.1 ∧ 0 ≤ g.2.2 ∧ g.2.2 ≤ 360 * g.1 ∧ PaS (gdS s) (knL s) ll g.1 g.2.1 g.2.2) (μ := fun g => ll.length - g.1) (0, 0, 0) ?_ ?_ ?_ ?_
 ·exact ⟨rfl, rfl, rfl, rfl, ivs (by dsimp only; omega), ivs (by dsimp only; omega), rfl, rfl, rfl, trivial⟩
 ·exact Pt.zO
 ·exact ⟨Le.refl _, Nat.zero_le _, Nat.le_refl _, Int.le_refl _, Int.le_refl _, pa_start⟩
 rintro ⟨i, nA, cA⟩ V' ks' O' ⟨hVV, hil, hnA, hcA0, hcA, hpa⟩ hk hO hl2
 dsimp only at hil hnA hcA0 hcA hpa hk hO
 subst hk hO
 have hs' := hs.le hVV
 have hk' := hk32.le hVV
 have hqs' := hqs.le hVV
 refine At.nrm ?_
 refine At.zl (.q 0 (.q 1 (.q 2 (.q 3 .done)))) ?_
 refine AtT.zh ?_
 refine AtT.zh ?_
 first | refine AtT.zY Tryz.underlying42 ?_ | refine AtT.zZ Tryz.underlying42 ?_
 refine AtT.qa ?_
 refine AtT.done ?_
 refine At.nrm ?_
 refine At.qc rfl (fun hp => ?_) (fun hp => ?_)
 ·obtain ⟨q, hq⟩ : ∃ q, qs[i]? = some q := ⟨_, List.getElem?_eq_getElem (by omega)⟩
  obtain ⟨P, hP⟩ : ∃ P, ll[i]? = some P := ⟨_, List.getElem?_eq_getElem (by omega)⟩
  have hPg : ll.getD i [] = P := by rw [List.getD_eq_getElem?_getD, hP]; rfl
  have hPm := List.mem_of_getElem? hP
  have hPs := (hqe i q P hq hP).le hVV
  have hPn := prtK_nd hprt hPm
  have hPi : ∀ x ∈ P, ∃ k : Nat, x = k ∧ k < (knL s).length := fun x hx => prtK_in hprt hPm hx
  have hPl : P.length ≤ (knL s).length := by
   have := len_sub (m := (List.range (knL s).length).map fun (i : Nat) => (i : Int)) hPn (fun x hx => by
    obtain ⟨k, rfl, hk⟩ := hPi x hx
    exact List.mem_map.2 ⟨k, List.mem_range.2 hk, rfl⟩)
   rwa [List.length_map, List.length_range] at this
  refine At.nrm ?_
  refine At.jr (ι := Option Addr × Nat × Nat) (fun g => [(1, .int .u8 R1), (2, .int .u8 R2), (3, .pointer (some ⟨b3, 0, none⟩)), (7, .slice a32 (knL s).length c32), (8, iv ((ps.length : Int) - (nA : Int))), (9, iv (arL ps - cA)), (12, .slice a42 qs.length c42), (14, .slice (some ⟨b60, 0, none⟩) (knL s).length (knL s).length), (15, iv i), (16, .pointer (some ⟨g.2.2, 0, none⟩))])
   (fun g => [.blk b3 (LC [.slice a s.rows.length c, iv s.most] 24), .blk b60 (LC (flat ei ((List.range (knL s).length).map (gP ll i))) 3), .blk g.2.2 (LC [.slice g.1 s.rows.length g.2.1, iv s.most] 24)])
   (fun g V'' => Le V' V'' ∧ Sl V'' bse 1 (.slice g.1 s.rows.length g.2.1) s.rows) ?_ ?_
  ·refine At.draw (.q 1 (.q 2 (.q 4 (.q 5 (.two 0 (.two 3 (.q 6 (.n false 7 (.n false 8 .done))) 7 (.n false 3 (.q 6 (.n false 8 .done)))) 7 (.n false 0 (.n false 3 (.q 6 (.n false 8 .done))))))))) ffm (by kernel_rfl) ?_
   refine AtC.start ?_
   refine AtC.pre (fun hle0 => ?_)
   refine AtC.kq (by (first | refine AtT.zi zt ?_ | with_reducible refine AtT.zk zt ?_ | refine AtT.zn zt ?_); exact At.knows) ?_
   refine AtC.kq (by (first | refine AtT.zm zV ?_ | refine AtT.zo zV ?_); exact At.knows) ?_
   refine AtC.kq (by (first | refine AtT.zi zR ?_ | with_reducible refine AtT.zk zR ?_ | refine AtT.zn zR ?_); exact At.knows) ?_
   refine AtC.kq (by (first | refine AtT.zm tk3 ?_ | refine AtT.zo tk3 ?_); exact At.knows) ?_
   refine AtC.two ?_ ?_
   focus
    refine AtC.nz ?_
    refine AtT.bsliceR0 rfl trivial rfl bs22_0 (by decide) (s := 1) (fun b67 => ?_)
    refine AtC.kgo ?_
    refine AtC.two ?_ ?_
    focus
     refine AtC.nz ?_
     refine AtT.appendRS rfl trivial Tryz.underlying22 rw9 rfl (by decide) rfl rfl zX.zO (enc := bse) (m := s.rows) (by first | exact hs' | exact hs'.le (by assumption)) bse_len (fun _ => rfl) (by unfold maxLen; omega) (by omega) (by decide) (fun a70 c70 => ?_)
     refine AtC.kgo ?_
     rw [Nat.zero_add, List.nil_append]
     refine AtC.kq (by (refine AtT.jc (bd24_0_1 _ _ _ _) ?_); exact At.knows) ?_
     refine AtC.nz ?_
     refine AtT.qx z24 ?_
     intro b16
     refine AtC.kgo ?_
     refine AtC.nz ?_
     refine AtT.zW zM ?_
     refine AtC.kgo ?_
     refine AtC.done ?_
    rotate_right
    focus
     refine AtC.nz ?_
     refine AtT.qx z24 ?_
     intro b16
     refine AtC.kgo ?_
     refine AtC.nz ?_
     refine AtT.appendRS rfl trivial Tryz.underlying22 rw9 rfl (by decide) rfl rfl zX.zO (enc := bse) (m := s.rows) (by first | exact hs' | exact hs'.le (by assumption)) bse_len (fun _ => rfl) (by unfold maxLen; omega) (by omega) (by decide) (fun a70 c70 => ?_)
     refine AtC.kgo ?_
     rw [Nat.zero_add, List.nil_append]
     refine AtC.kq (by (refine AtT.jc (bd24_0_1 _ _ _ _) ?_); exact At.knows) ?_
     refine AtC.nz ?_
     refine AtT.zW zM ?_
     refine AtC.kgo ?_
     refine AtC.done ?_
   rotate_right
   focus
    refine AtC.nz ?_
    refine AtT.qx z24 ?_
    intro b16
    refine AtC.kgo ?_
    refine AtC.nz ?_
    refine AtT.bsliceR0 rfl trivial rfl bs22_0 (by decide) (s := 1) (fun b67 => ?_)
    refine AtC.kgo ?_
    refine AtC.nz ?_
    refine AtT.appendRS rfl trivial Tryz.underlying22 rw9 rfl (by decide) rfl rfl zX.zO (enc := bse) (m := s.rows) (by first | exact hs' | exact hs'.le (by assumption)) bse_len (fun _ => rfl) (by unfold maxLen; omega) (by omega) (by decide) (fun a70 c70 => ?_)
    refine AtC.kgo ?_
    rw [Nat.zero_add, List.nil_append]
    refine AtC.kq (by (refine AtT.jc (bd24_0_1 _ _ _ _) ?_); exact At.knows) ?_
    refine AtC.nz ?_
    refine AtT.zW zM ?_
    refine AtC.kgo ?_
    refine AtC.done ?_
   all_goals (refine At.nrm ?_)
   all_goals
    refine At.giveSl (l := s.rows) (m := s.rows.length) bse_len rfl rfl zX.zO (fun V6 hV6 hs6 => ?_)
    exact At.qC (a70, c70, b16) ⟨hV6, hs6⟩ ⟨rfl, rfl, rfl, rfl, rfl, rfl, rfl, rfl, rfl, rfl, trivial⟩ Pt.zO
  rintro ⟨ax, cx', b16⟩ V4 ks' O' ⟨hV4, hx4⟩ hk2 hO hl4
  dsimp only at hx4 hk2 hO
  subst hk2 hO
  replace hk' := hk'.le hV4
  replace hqs' := hqs'.le hV4
  replace hPs := hPs.le hV4
  have hm0 : (List.range (knL s).length).map (gP ll i) = (List.range (knL s).length).map (fP ll i P 0) := List.map_congr_left fun j _ => (fP_start ll i P j).symm
  refine At.nrm ?_
  refine At.zl (.q 0 .done) ?_
  refine AtT.zf ?_
  refine AtT.done ?_
  refine At.nrm ?_
  refine At.lp (ι := Nat) (KS := fun k => [(1, .int .u8 R1), (2, .int .u8 R2), (3, .pointer (some ⟨b3, 0, none⟩)), (7, .slice a32 (knL s).length c32), (8, iv ((ps.length : Int) - (nA : Int))), (9, iv (arL ps - cA)), (12, .slice a42 qs.length c42), (14, .slice (some ⟨b60, 0, none⟩) (knL s).length (knL s).length), (15, iv i), (16, .pointer (some ⟨b16, 0, none⟩)), (17, iv k)])
   (OS := fun k => [.blk b3 (LC [.slice a s.rows.length c, iv s.most] 24), .blk b60 (LC (flat ei ((List.range (knL s).length).map (fP ll i P k))) 3), .blk b16 (LC [.slice ax s.rows.length cx', iv s.most] 24)])
   (VS := fun k V'' => V'' = V4 ∧ k ≤ P.length) (μ := fun k => P.length - k) 0 ?_ ?_ ?_ ?_
  ·exact ⟨rfl, rfl, rfl, rfl, rfl, rfl, rfl, rfl, rfl, rfl, rfl, trivial⟩
  ·rw [hm0]; exact Pt.zO
  ·exact ⟨rfl, Nat.zero_le _⟩
  rintro k V5 ks' O' ⟨rfl, hkl⟩ hk hO hl5
  subst hk hO
  refine At.nrm ?_
  refine At.zl (.q 0 (.q 1 (.q 2 (.q 3 (.q 4 (.q 5 (.q 6 .done))))))) ?_
  refine AtT.zh ?_
  refine AtT.zh ?_
  refine AtT.zh ?_
  refine AtT.qp Tryz.underlying42 tk39 ?_
  intro p77 e77 he77 hc77
  first | refine AtT.zm tk39 ?_ | refine AtT.zo tk39 ?_
  obtain rfl : q = e77 := by have : qs[i]? = some e77 := (by simpa using he77); rw [hq] at this; simpa using this
  first | refine AtT.zY Tryz.underlying39 ?_ | refine AtT.zZ Tryz.underlying39 ?_
  refine AtT.qa ?_
  refine AtT.done ?_
  refine At.nrm ?_
  refine At.qc rfl (fun hp3 => ?_) (fun hp3 => ?_)
  ·obtain ⟨z, hz⟩ : ∃ z, P[k]? = some z := ⟨_, List.getElem?_eq_getElem (by omega)⟩
   obtain ⟨jn, rfl, hjn⟩ := hPi z (List.mem_of_getElem? hz)
   have hf0 : fP ll i P k jn = 0 := by have := fP_zero (ll := ll) hdis (i := i) (k := k) (x := jn) (by rw [hPg]; exact hPn) (by rw [hPg]; exact hz); rw [hPg] at this; exact this
   have hat := of_at (fP ll i P k) hjn
   rw [hf0] at hat
   have hset := of_set (fP_set (ll := ll) (i := i) (N := (knL s).length) hz)
   have hlt : jn * 1 < (flat ei ((List.range (knL s).length).map (fP ll i P k))).length := by rw [of_len]; omega
   refine At.nrm ?_
   refine At.zl (.q 0 (.q 1 (.q 2 (.q 3 (.q 4 (.q 5 (.q 6 (.q 7 .done)))))))) ?_
   refine AtT.zh ?_
   refine AtT.zh ?_
   refine AtT.qp Tryz.underlying42 tk39 ?_
   intro p85 e85 he85 hc85
   first | refine AtT.zm tk39 ?_ | refine AtT.zo tk39 ?_
   obtain rfl : q = e85 := by have : qs[i]? = some e85 := (by simpa using he85); rw [hq] at this; simpa using this
   refine AtT.zh ?_
   refine AtT.qp Tryz.underlying39 tk3 ?_
   intro p88 e88 he88 hc88
   first | refine AtT.zm tk3 ?_ | refine AtT.zo tk3 ?_
   obtain rfl : (jn : Int) = e88 := by have : P[k]? = some e88 := (by simpa using he88); rw [hz] at this; simpa using this
   refine AtT.zf ?_
   refine AtT.done ?_
   refine At.nrm ?_
   refine At.zl (.q 0 (.q 1 (.q 2 (.q 3 (.q 4 (.q 5 (.q 6 (.q 7 (.q 8 (.q 9 (.q 10 (.q 11 (.q 12 (.q 13 (.q 14 .done))))))))))))))) ?_
   refine AtT.zh ?_
   refine AtT.qa ?_
   refine AtT.qm (d := 91) rfl ((by omega)) ?_
   refine AtT.zh ?_
   all_goals (first | refine AtT.kL 92 ?_ | refine AtT.zB (d := 92) rfl (fun hg92 => ?_) (fun hg92 => ?_) | refine AtT.zA (d := 92) rfl (fun hg92 => ?_) (fun hg92 => ?_))
   all_goals first|refine AtT.zg ?_|refine AtT.ze ?_|(refine AtT.zh ?_)
   all_goals first|refine AtT.zg ?_|refine AtT.ze ?_|(refine AtT.zh ?_)
   all_goals first|refine AtT.zg ?_|refine AtT.ze ?_|(first | refine AtT.zY Tryz.underlying58 ?_ | refine AtT.zZ Tryz.underlying58 ?_)
   all_goals first|refine AtT.zg ?_|refine AtT.ze ?_|(refine AtT.kgeq ?_)
   all_goals (refine AtT.qm (d := 96) rfl ((by omega)) ?_)
   all_goals (refine AtT.zz ?_)
   all_goals (refine AtT.zh ?_)
   all_goals (first | refine AtT.kL 98 ?_ | refine AtT.zB (d := 98) rfl (fun hg98 => ?_) (fun hg98 => ?_) | refine AtT.zA (d := 98) rfl (fun hg98 => ?_) (fun hg98 => ?_))
   all_goals first|refine AtT.zg ?_|refine AtT.ze ?_|(refine AtT.zh ?_)
   all_goals first|refine AtT.zg ?_|refine AtT.ze ?_|(refine AtT.zh ?_)
   all_goals first|refine AtT.zg ?_|refine AtT.ze ?_|(refine AtT.idxZ rfl ⟨_, _, rfl, rfl, rfl⟩ Tryz.underlying39 tk3 rfl rfl hjn (by decide) ?_)
   all_goals first|refine AtT.zg ?_|refine AtT.ze ?_|(refine AtT.loadO rfl ⟨_, _, rfl, rfl, rfl⟩ rfl tk3 zX.zO hat (by decide) ?_)
   all_goals first|refine AtT.zg ?_|refine AtT.ze ?_|(refine AtT.qw ?_)
   all_goals (refine AtT.qm (d := 103) rfl ((by decide)) ?_)
   all_goals (refine AtT.zz ?_)
   all_goals refine AtT.done ?_
   all_goals (refine At.nrm ?_)
   refine At.qW rfl rfl ?_
   refine At.nrm ?_
   refine At.zl (.q 0 (.q 1 (.q 2 (.q 3 (.q 4 (.n true 5 .done)))))) ?_
   refine AtT.zh ?_
   refine AtT.zh ?_
   refine AtT.zh ?_
   first | refine AtT.qi ?_ | refine AtT.zT ?_
   refine AtT.idxZ rfl trivial Tryz.underlying39 tk3 rfl rfl hjn (by decide) ?_
   refine AtT.store1 rfl trivial rfl rfl tk3 rfl rfl (by repeat first|exact Upd.here|apply Upd.there) (setAt_of hlt hset) ?_
   refine AtT.done ?_
   refine At.nrm ?_
   refine At.nrm ?_
   refine At.zl (.q 0 (.q 1 (.q 2 .done))) ?_
   refine AtT.zh ?_
   first | refine AtT.qi ?_ | refine AtT.zT ?_
   refine AtT.zf ?_
   refine AtT.done ?_
   refine At.nrm ?_
   refine At.round (k + 1) ?_ ?_ ?_ ?_
   ·show P.length - (k + 1) < P.length - k; omega
   ·exact ⟨rfl, by omega⟩
   ·exact ⟨rfl, rfl, rfl, rfl, rfl, rfl, rfl, rfl, rfl, rfl, ivs (by omega), trivial⟩
   ·exact Pt.zO
  obtain rfl : k = P.length := by omega
  have hm1 : (List.range (knL s).length).map (fP ll i P P.length) = (List.range (knL s).length).map (gP ll (i + 1)) := List.map_congr_left fun j _ => by have := fP_end ll i j; rw [hPg] at this; exact this
  rw [hm1]
  refine At.nrm ?_
  refine At.zl (.q 0 .done) ?_
  refine AtT.zf ?_
  refine AtT.done ?_
  refine At.nrm ?_
  refine At.lp (ι := Nat × Sh × Option Addr × Nat) (KS := fun g => [(1, .int .u8 R1), (2, .int .u8 R2), (3, .pointer (some ⟨b3, 0, none⟩)), (7, .slice a32 (knL s).length c32), (8, iv ((ps.length : Int) - (nA : Int))), (9, iv (arL ps - cA)), (12, .slice a42 qs.length c42), (14, .slice (some ⟨b60, 0, none⟩) (knL s).length (knL s).length), (15, iv i), (16, .pointer (some ⟨b16, 0, none⟩)), (19, iv g.1)])
   (OS := fun g => [.blk b3 (LC [.slice a s.rows.length c, iv s.most] 24), .blk b60 (LC (flat ei ((List.range (knL s).length).map (gP ll (i + 1)))) 3), .blk b16 (LC [.slice g.2.2.1 g.2.1.rows.length g.2.2.2, iv g.2.1.most] 24)])
   (VS := fun g V'' => Le V5 V'' ∧ g.1 ≤ (knL s).length ∧ Sl V'' bse 1 (.slice g.2.2.1 g.2.1.rows.length g.2.2.2) g.2.1.rows ∧ Dt s g.2.1 (DP (knL s) P g.1)) (μ := fun g => (knL s).length - g.1) (0, s, ax, cx') ?_ ?_ ?_ ?_
  ·exact ⟨rfl, rfl, rfl, rfl, rfl, rfl, rfl, rfl, rfl, rfl, rfl, trivial⟩
  ·exact Pt.zO
  ·exact ⟨Le.refl _, Nat.zero_le _, hx4, by dsimp only; rw [dP_zero]; exact dt_start s⟩
  rintro ⟨k, x, ay, cy⟩ V7 ks' O' ⟨hV7, hkl2, hx7, hdt⟩ hk hO hl7
  dsimp only at hkl2 hx7 hdt hk hO
  subst hk hO
  have hk7 := hk'.le hV7
  have hvx : ∀ {W : View}, Sl W bse 1 (.slice ay x.rows.length cy) x.rows → ShV W (.agg #[.slice ay x.rows.length cy, iv x.most]) x := fun h => ⟨ay, cy, rfl, h⟩
  have hDk : ∀ (k : Nat) (c : Cl), DP (knL s) P k c → c ∈ knL s := fun k c ⟨j, _, h1, _⟩ => List.mem_of_getElem? h1
  obtain ⟨xok, xgd, xkn⟩ := dt_ok hok hdt (hDk k)
  refine At.nrm ?_
  refine At.zl (.q 0 (.q 1 (.q 2 (.q 3 .done)))) ?_
  refine AtT.zh ?_
  refine AtT.zh ?_
  first | refine AtT.zY Tryz.underlying58 ?_ | refine AtT.zZ Tryz.underlying58 ?_
  refine AtT.qa ?_
  refine AtT.done ?_
  refine At.nrm ?_
  refine At.qc rfl (fun hp4 => ?_) (fun hp4 => ?_)
  ·obtain ⟨y, hy⟩ : ∃ y, (knL s)[k]? = some y := ⟨_, List.getElem?_eq_getElem (by omega)⟩
   obtain ⟨ri, rk, hri, hrk, hch, rfl⟩ := (kn_at hok).1 (List.mem_of_getElem? hy)
   have hat := of_at (gP ll (i + 1)) (show k < (knL s).length by omega)
   have hgb := gP_bd ll k i
   have hin : gP ll (i + 1) k = (i : Int) + 1 ↔ (k : Int) ∈ P := by
    simp only [gP]
    rw [hPg]
    constructor
    ·intro h
     apply Classical.byContradiction
     intro hc
     rw [if_neg hc] at h; omega
    ·intro h; rw [if_pos h]
   refine At.nrm ?_
   refine At.zl (.q 0 (.q 1 (.q 2 (.q 3 (.q 4 (.q 5 (.q 6 .done))))))) ?_
   refine AtT.zh ?_
   refine AtT.zh ?_
   refine AtT.idxZ rfl trivial Tryz.underlying39 tk3 rfl rfl (by omega) (by decide) ?_
   refine AtT.loadO rfl trivial rfl tk3 zX.zO hat (by decide) ?_
   refine AtT.zh ?_
   first | refine AtT.qi ?_ | refine AtT.zT ?_
   refine AtT.qH ?_
   refine AtT.done ?_
   refine At.nrm ?_
   refine At.qc rfl (fun hc => ?_) (fun hc => ?_)
   ·have hno : (k : Int) ∉ P := fun h => hc (hin.2 h)
    have hst := dt_step hdt hri (show rk < (rwS s ri).size by rw [rwS_sz hok hri]; exact hrk)
    rw [← dP_out hno hy] at hst
    have hxw : wdS x = wdS s := frm_wd ⟨hdt.n, hdt.sz⟩ hsn.1
    refine At.nrm ?_
    refine At.draw (.q 0 (.q 1 (.q 2 (.q 3 (.q 4 (.q 5 (.q 6 (.q 7 (.q 8 (.q 9 (.q 10 (.n false 11 (.n true 12 .done))))))))))))) ffm (by kernel_rfl) ?_
    first | refine AtT.zD zM ?_ | refine AtT.zJ zM ?_ | refine AtT.zC zM ?_
    refine AtT.zh ?_
    refine AtT.zh ?_
    refine AtT.qp Tryz.underlying58 tk67 ?_
    intro p126 e126 he126 hc126
    first | refine AtT.zi qA ?_ | with_reducible refine AtT.zk qA ?_ | refine AtT.zn qA ?_
    first | refine AtT.zm tk3 ?_ | refine AtT.zo tk3 ?_
    obtain rfl : (⟨(ri : Int), (rk : Int)⟩ : Cl) = e126 := by have : (knL s)[k]? = some e126 := (by simpa using he126); rw [hy] at this; simpa using this
    refine AtT.zh ?_
    refine AtT.zh ?_
    refine AtT.qp Tryz.underlying58 tk67 ?_
    intro p131 e131 he131 hc131
    first | refine AtT.zi qz ?_ | with_reducible refine AtT.zk qz ?_ | refine AtT.zn qz ?_
    first | refine AtT.zm tk3 ?_ | refine AtT.zo tk3 ?_
    obtain rfl : (⟨(ri : Int), (rk : Int)⟩ : Cl) = e131 := by have : (knL s)[k]? = some e131 := (by simpa using he131); rw [hy] at this; simpa using this
    refine AtT.qg rfl rfl ok50 (with_f x xok ri rk (by rw [hdt.n]; exact hri) (by rw [hxw]; exact hrk) 46 _ _ (hvx hx7)) ?_
    rintro _ V134 hV134 hx134; obtain ⟨a134, c134, rfl, hxs⟩ := id hx134
    refine AtT.zW zM ?_
    refine AtT.done ?_
    refine At.nrm ?_
    refine At.nrm ?_
    refine At.zl (.q 0 (.q 1 (.q 2 .done))) ?_
    refine AtT.zh ?_
    first | refine AtT.qi ?_ | refine AtT.zT ?_
    refine AtT.zf ?_
    refine AtT.done ?_
    refine At.nrm ?_
    all_goals refine At.round (k + 1, wtS x ri rk 46, a134, c134) ?_ ?_ ?_ ?_
    ·show (knL s).length - (k + 1) < (knL s).length - k; omega
    ·exact ⟨hV7.trans hV134, by dsimp only; omega, hxs, hst⟩
    ·exact ⟨rfl, rfl, rfl, rfl, rfl, rfl, rfl, rfl, rfl, rfl, ivs (by dsimp only; omega), trivial⟩
    ·exact Pt.zO
   ·have hyes : (k : Int) ∈ P := hin.1 (Classical.not_not.1 hc)
    refine At.nrm ?_
    refine At.zl (.q 0 (.q 1 (.q 2 .done))) ?_
    refine AtT.zh ?_
    first | refine AtT.qi ?_ | refine AtT.zT ?_
    refine AtT.zf ?_
    refine AtT.done ?_
    refine At.nrm ?_
    refine At.round (k + 1, x, ay, cy) ?_ ?_ ?_ ?_
    ·show (knL s).length - (k + 1) < (knL s).length - k; omega
    ·exact ⟨hV7, by dsimp only; omega, hx7, by dsimp only; rw [dP_in hyes]; exact hdt⟩
    ·exact ⟨rfl, rfl, rfl, rfl, rfl, rfl, rfl, rfl, rfl, rfl, ivs (by dsimp only; omega), trivial⟩
    ·exact Pt.zO
  obtain rfl : k = (knL s).length := by omega
  have x0 := chE_of xok
  refine At.nrm ?_
  refine At.zl (.q 0 (.n false 1 (.q 2 (.q 3 (.q 4 (.q 5 (.q 6 (.q 7 (.q 8 (.q 9 (.q 10 .done))))))))))) ?_
  first | refine AtT.zD zM ?_ | refine AtT.zJ zM ?_ | refine AtT.zC zM ?_
  refine AtT.qg rfl rfl ok45 (few_f x x0 _ _ (hvx hx7)) ?_
  rintro _ V137 hV137 ⟨a137, c137, rs, rfl, hs137, hmx⟩
  refine AtT.zh ?_
  refine AtT.zL ?_
  refine AtT.zL ?_
  refine AtT.zL ?_
  refine AtT.zL ?_
  refine AtT.zf ?_
  refine AtT.zf ?_
  refine AtT.zf ?_
  refine AtT.zf ?_
  refine AtT.done ?_
  refine At.nrm ?_
  have hB := hmx.best
  rw [xgd] at hB
  have hst := pa_step hg hon hprt (by omega) hpa (B := knL x) (fun z => by rw [xkn, hPg]; exact dP_kn hnd z) hB
  have g1 := best_le_len (sh_gok xok) (kn_on xok) (kn_fig xok) hmx.best
  have g2 := xok.kn
  have g3 := arL_bd (sh_gok xok) hmx.mends.lies
  refine At.zl (.q 0 (.q 1 .done)) ?_
  refine AtT.zh ?_
  refine AtT.setB (d := 142) rfl (rfl) ?_
  refine AtT.qZ ?_
  refine AtT.setB (d := 143) rfl ((show (!true) = false from rfl)) ?_
  refine AtT.done ?_
  refine At.nrm ?_
  refine At.qW rfl rfl ?_
  refine At.nrm ?_
  refine At.zl (.q 0 (.q 1 (.q 2 (.q 3 (.q 4 (.q 5 (.q 6 (.q 7 .done)))))))) ?_
  refine AtT.zh ?_
  refine AtT.zh ?_
  first | refine AtT.qD ?_ | refine AtT.qE ?_
  refine AtT.zh ?_
  refine AtT.zh ?_
  first | refine AtT.qD ?_ | refine AtT.qE ?_
  refine AtT.zf ?_
  refine AtT.zf ?_
  refine AtT.done ?_
  refine At.nrm ?_
  refine At.nrm ?_
  refine At.zl (.q 0 (.q 1 (.q 2 .done))) ?_
  refine AtT.zh ?_
  first | refine AtT.qi ?_ | refine AtT.zT ?_
  refine AtT.zf ?_
  refine AtT.done ?_
  refine At.nrm ?_
  refine At.round (i + 1, nA + rs.length, cA + arL rs) ?_ ?_ ?_ ?_
  ·show ll.length - (i + 1) < ll.length - i; omega
  ·exact ⟨((hVV.trans hV4).trans hV7).trans hV137, by dsimp only; omega, by dsimp only; omega, by dsimp only; omega, by dsimp only; omega, hst⟩
  ·exact ⟨rfl, rfl, rfl, rfl, ivs (by dsimp only; omega), ivs (by dsimp only; omega), rfl, rfl, ivs (by dsimp only; omega), trivial⟩
  ·exact Pt.zO
 obtain rfl : i = ll.length := by omega
 obtain ⟨z1, z2⟩ := pa_end hprt hpa hm.best
 refine At.nrm ?_
 refine At.sub (ks' := [(1, .int .u8 R1), (2, .int .u8 R2), (3, .pointer (some ⟨b3, 0, none⟩)), (7, .slice a32 (knL s).length c32), (8, iv 0), (9, iv 0), (14, .slice (some ⟨b60, 0, none⟩) (knL s).length (knL s).length)]) ⟨rfl, rfl, rfl, rfl, ivs (by omega), ivs (by omega), rfl, trivial⟩ ?_
 refine At.zl (.q 0 .done) ?_
 refine AtT.zf ?_
 refine AtT.done ?_
 refine At.nrm ?_
 refine At.lp (ι := Nat) (KS := fun k => [(1, .int .u8 R1), (2, .int .u8 R2), (3, .pointer (some ⟨b3, 0, none⟩)), (7, .slice a32 (knL s).length c32), (8, iv 0), (9, iv 0), (14, .slice (some ⟨b60, 0, none⟩) (knL s).length (knL s).length), (24, iv k)])
  (OS := fun k => [.blk b3 (LC [.slice a s.rows.length c, iv s.most] 24), .blk b60 (LC (flat ei ((List.range (knL s).length).map (gP ll ll.length))) 3)])
  (VS := fun k V'' => V'' = V' ∧ k ≤ (knL s).length) (μ := fun k => (knL s).length - k) 0 ?_ ?_ ?_ ?_
 ·exact ⟨rfl, rfl, rfl, rfl, rfl, rfl, rfl, rfl, trivial⟩
 ·exact Pt.zO
 ·exact ⟨rfl, Nat.zero_le _⟩
 rintro k V5 ks' O' ⟨rfl, hkl⟩ hk hO hl5
 subst hk hO
 refine At.nrm ?_
 refine At.zl (.q 0 (.q 1 (.q 2 (.q 3 .done)))) ?_
 refine AtT.zh ?_
 refine AtT.zh ?_
 first | refine AtT.zY Tryz.underlying58 ?_ | refine AtT.zZ Tryz.underlying58 ?_
 refine AtT.qa ?_
 refine AtT.done ?_
 refine At.nrm ?_
 refine At.qc rfl (fun hp3 => ?_) (fun hp3 => ?_)
 ·have hat := of_at (gP ll ll.length) (show k < (knL s).length by omega)
  obtain ⟨t, _, _, hgt⟩ := pa_all hprt (sh_symm (gdS s) (knL s)) (show k < (knL s).length by omega)
  refine At.nrm ?_
  refine At.zl (.q 0 (.q 1 (.q 2 (.q 3 (.q 4 .done))))) ?_
  refine AtT.zh ?_
  refine AtT.zh ?_
  refine AtT.idxZ rfl trivial Tryz.underlying39 tk3 rfl rfl (by omega) (by decide) ?_
  refine AtT.loadO rfl trivial rfl tk3 zX.zO hat (by decide) ?_
  refine AtT.jg ?_
  refine AtT.done ?_
  refine At.nrm ?_
  refine At.qW rfl (decide_eq_false (by omega)) ?_
  refine At.nrm ?_
  refine At.zl (.q 0 (.q 1 (.q 2 .done))) ?_
  refine AtT.zh ?_
  first | refine AtT.qi ?_ | refine AtT.zT ?_
  refine AtT.zf ?_
  refine AtT.done ?_
  refine At.nrm ?_
  refine At.round (k + 1) ?_ ?_ ?_ ?_
  ·show (knL s).length - (k + 1) < (knL s).length - k; omega
  ·exact ⟨rfl, by omega⟩
  ·exact ⟨rfl, rfl, rfl, rfl, rfl, rfl, rfl, ivs (by omega), trivial⟩
  ·exact Pt.zO
 obtain rfl : k = (knL s).length := by omega
 refine At.nrm ?_
 by_cases hlow : ((knL s).length : Int) < 2
 ·refine At.zl (.q 0 (.q 1 (.q 2 (.q 3 (.q 4 (.q 5 (.q 6 (.q 7 (.q 8 (.q 9 (.q 10 .done))))))))))) ?_
  refine AtT.zh ?_
  refine AtT.qH ?_
  refine AtT.qm (d := 162) rfl ((fun h => h rfl)) ?_
  refine AtT.zh ?_
  all_goals (first | refine AtT.kL 163 ?_ | refine AtT.zB (d := 163) rfl (fun hg163 => ?_) (fun hg163 => ?_) | refine AtT.zA (d := 163) rfl (fun hg163 => ?_) (fun hg163 => ?_))
  all_goals first|refine AtT.zg ?_|refine AtT.ze ?_|(refine AtT.zh ?_)
  all_goals first|refine AtT.zg ?_|refine AtT.ze ?_|(refine AtT.qH ?_)
  all_goals (refine AtT.qm (d := 165) rfl ((fun h => h rfl)) ?_)
  all_goals (refine AtT.zz ?_)
  all_goals (refine AtT.zh ?_)
  all_goals (first | refine AtT.kL 167 ?_ | refine AtT.zB (d := 167) rfl (fun hg167 => ?_) (fun hg167 => ?_) | refine AtT.zA (d := 167) rfl (fun hg167 => ?_) (fun hg167 => ?_))
  all_goals first|refine AtT.zg ?_|refine AtT.ze ?_|(refine AtT.zh ?_)
  all_goals first|refine AtT.zg ?_|refine AtT.ze ?_|(first | refine AtT.zY Tryz.underlying58 ?_ | refine AtT.zZ Tryz.underlying58 ?_)
  all_goals first|refine AtT.zg ?_|refine AtT.ze ?_|(refine AtT.qa ?_)
  all_goals (refine AtT.qJ (d := 170) rfl (hlow) ?_)
  all_goals (refine AtT.zz ?_)
  all_goals refine AtT.done ?_
  all_goals (refine At.nrm ?_)
  refine At.qB rfl rfl ?_
  refine At.nrm ?_
  refine At.zl (.q 0 (.q 1 (.q 2 (.q 3 (.q 4 (.q 5 (.q 6 (.n false 7 (.q 8 (.q 9 .done)))))))))) ?_
  refine AtT.zh ?_
  refine AtT.jg ?_
  refine AtT.qJ (d := 173) rfl (rfl) ?_
  refine AtT.zh ?_
  all_goals (first | refine AtT.kL 174 ?_ | refine AtT.zB (d := 174) rfl (fun hg174 => ?_) (fun hg174 => ?_) | refine AtT.zA (d := 174) rfl (fun hg174 => ?_) (fun hg174 => ?_))
  all_goals first|refine AtT.zg ?_|refine AtT.ze ?_|(refine AtT.zh ?_)
  all_goals first|refine AtT.zg ?_|refine AtT.ze ?_|(refine AtT.jg ?_)
  all_goals (refine AtT.qJ (d := 176) rfl (rfl) ?_)
  all_goals (refine AtT.zz ?_)
  all_goals (refine AtT.zh ?_)
  all_goals (first | refine AtT.kL 178 ?_ | refine AtT.zB (d := 178) rfl (fun hg178 => ?_) (fun hg178 => ?_) | refine AtT.zA (d := 178) rfl (fun hg178 => ?_) (fun hg178 => ?_))
  all_goals first|refine AtT.zP ?_|refine AtT.zI ?_|((refine AtT.zq rfl rfl ok16 (works_f _) ?_) ; (rintro _ rfl))
  all_goals (refine AtT.zz ?_)
  all_goals (refine AtT.zf ?_)
  all_goals refine AtT.done ?_
  all_goals (refine At.nrm ?_)
  exact At.qb rfl (.tmp rfl) rfl
 refine At.zl (.q 0 (.q 1 (.q 2 (.q 3 (.q 4 (.q 5 (.q 6 (.q 7 (.q 8 (.q 9 (.q 10 .done))))))))))) ?_
 refine AtT.zh ?_
 refine AtT.qH ?_
 refine AtT.qm (d := 162) rfl ((fun h => h rfl)) ?_
 refine AtT.zh ?_
 all_goals (first | refine AtT.kL 163 ?_ | refine AtT.zB (d := 163) rfl (fun hg163 => ?_) (fun hg163 => ?_) | refine AtT.zA (d := 163) rfl (fun hg163 => ?_) (fun hg163 => ?_))
 all_goals first|refine AtT.zg ?_|refine AtT.ze ?_|(refine AtT.zh ?_)
 all_goals first|refine AtT.zg ?_|refine AtT.ze ?_|(refine AtT.qH ?_)
 all_goals (refine AtT.qm (d := 165) rfl ((fun h => h rfl)) ?_)
 all_goals (refine AtT.zz ?_)
 all_goals (refine AtT.zh ?_)
 all_goals (first | refine AtT.kL 167 ?_ | refine AtT.zB (d := 167) rfl (fun hg167 => ?_) (fun hg167 => ?_) | refine AtT.zA (d := 167) rfl (fun hg167 => ?_) (fun hg167 => ?_))
 all_goals first|refine AtT.zg ?_|refine AtT.ze ?_|(refine AtT.zh ?_)
 all_goals first|refine AtT.zg ?_|refine AtT.ze ?_|(first | refine AtT.zY Tryz.underlying58 ?_ | refine AtT.zZ Tryz.underlying58 ?_)
 all_goals first|refine AtT.zg ?_|refine AtT.ze ?_|(refine AtT.qa ?_)
 all_goals (refine AtT.qm (d := 170) rfl (hlow) ?_)
 all_goals (refine AtT.zz ?_)
 all_goals refine AtT.done ?_
 all_goals (refine At.nrm ?_)
 refine At.qW rfl rfl ?_
 obtain ⟨i1, hi1⟩ : ∃ i : Nat, Int.tmod R1 ((knL s).length : Int) = (i : Int) := ⟨(Int.tmod R1 ((knL s).length : Int)).toNat, by have := Int.tmod_nonneg ((knL s).length : Int) hR1.1; omega⟩
 obtain ⟨i2, hi2⟩ : ∃ i : Nat, Int.tmod R2 ((knL s).length : Int) = (i : Int) := ⟨(Int.tmod R2 ((knL s).length : Int)).toNat, by have := Int.tmod_nonneg ((knL s).length : Int) hR2.1; omega⟩
 have l1 : i1 < (knL s).length := by have := Int.tmod_lt_of_pos R1 (b := ((knL s).length : Int)) (by omega); omega
 have l2 : i2 < (knL s).length := by have := Int.tmod_lt_of_pos R2 (b := ((knL s).length : Int)) (by omega); omega
 have at1 := of_at (gP ll ll.length) l1
 have at2 := of_at (gP ll ll.length) l2
 have hv5 := hv.le hVV
 refine At.nrm ?_
 refine At.draw (.q 0 (.q 1 (.q 2 (.q 3 (.q 4 (.q 5 (.q 6 (.q 7 (.q 8 (.q 9 (.q 10 (.q 11 .done)))))))))))) ffm (by kernel_rfl) ?_
 refine AtT.zh ?_
 refine AtT.kconv un5 Tryz.underlying3 ?_
 rw [wrap_fit (Fit.of (by omega) (by omega))]
 refine AtT.zh ?_
 first | refine AtT.zY Tryz.underlying58 ?_ | refine AtT.zZ Tryz.underlying58 ?_
 refine AtT.krem ?_
 rw [hi1]
 refine AtT.zh ?_
 refine AtT.kconv un5 Tryz.underlying3 ?_
 rw [wrap_fit (Fit.of (by omega) (by omega))]
 refine AtT.zh ?_
 first | refine AtT.zY Tryz.underlying58 ?_ | refine AtT.zZ Tryz.underlying58 ?_
 refine AtT.krem ?_
 rw [hi2]
 refine AtT.zf ?_
 refine AtT.zf ?_
 refine AtT.done ?_
 refine At.nrm ?_
 refine At.draw (.q 0 (.q 1 (.q 2 (.q 3 (.q 4 (.q 5 (.q 6 (.q 7 (.q 8 .done))))))))) ffm (by kernel_rfl) ?_
 refine AtT.zh ?_
 refine AtT.zh ?_
 refine AtT.idxZ rfl trivial Tryz.underlying39 tk3 rfl rfl l1 (by decide) ?_
 refine AtT.loadO rfl trivial rfl tk3 zX.zO at1 (by decide) ?_
 refine AtT.zh ?_
 refine AtT.zh ?_
 refine AtT.idxZ rfl trivial Tryz.underlying39 tk3 rfl rfl l2 (by decide) ?_
 refine AtT.loadO rfl trivial rfl tk3 zX.zO at2 (by decide) ?_
 refine AtT.jg ?_
 refine AtT.done ?_
 refine At.nrm ?_
 refine At.qc rfl (fun he => ?_) (fun he => ?_)
 ·refine At.nrm ?_
  refine At.zl (.n false 0 (.q 1 .done)) ?_
  refine AtT.zq rfl rfl ok16 (works_f _) ?_
  rintro _ rfl
  refine AtT.zf ?_
  refine AtT.done ?_
  refine At.nrm ?_
  exact At.qb rfl (.tmp rfl) rfl
 have hal := pa_two hprt l1 l2 he
 have hca := cAe_al hok hal
 refine At.nrm ?_
 refine At.zl (.q 0 (.q 1 (.q 2 (.q 3 (.q 4 (.q 5 (.q 6 (.n false 7 (.n false 8 (.q 9 (.q 10 (.n false 11 (.q 12 (.q 13 .done)))))))))))))) ?_
 first | refine AtT.zD zM ?_ | refine AtT.zJ zM ?_ | refine AtT.zC zM ?_
 refine AtT.zh ?_
 refine AtT.zh ?_
 refine AtT.kmin2 ?_
 refine AtT.zh ?_
 refine AtT.zh ?_
 refine AtT.kmax2 ?_
 refine AtT.zw (zQ _ _) ?_
 intro q208 V208 hV208 hq208
 have g208 : Le V V208 := by first | exact hV208 | exact Le.trans (by assumption) hV208
 refine AtT.zq rfl rfl ok32 (zu s [min (i1 : Int) i2, max (i1 : Int) i2] _ _ _ (hv5.le hV208) (Sl.lit hq208 rfl (by simp))) ?_
 rintro _ rfl; rw [hca]
 refine AtT.jg ?_
 refine AtT.qJ (d := 210) rfl (rfl) ?_
 refine AtT.zh ?_
 all_goals (first | refine AtT.kL 211 ?_ | refine AtT.zB (d := 211) rfl (fun hg211 => ?_) (fun hg211 => ?_) | refine AtT.zA (d := 211) rfl (fun hg211 => ?_) (fun hg211 => ?_))
 all_goals first|refine AtT.zP ?_|refine AtT.zI ?_|((refine AtT.zq rfl rfl ok16 (works_f _) ?_) ; (rintro _ rfl))
 all_goals (refine AtT.zz ?_)
 all_goals (refine AtT.zf ?_)
 all_goals refine AtT.done ?_
 all_goals (refine At.nrm ?_)
 exact At.qb rfl (.tmp rfl) rfl
end Go.Proofs.YtghomjjffllkeaaGreatDoor
set_option linter.unusedVariables false
namespace Go.Proofs.YtghomjjffllkeaaGreatDoor.c7
open Go.Lw Go.Gl Go.Pm Go.RowKit Go.ChangeShapes Go.WideShapes Go.ChangeAt
set_option maxRecDepth 100000 in
theorem lifted (os : Os) (started : os.Started) (H : Type) (enc : TypeId × Value → H) :
    ReturnsInHanded {} Tryz.checked os 9 .any (fun w args => (Rows.patchPartedSpec.pre enc Tryz.prog Tryz.f9 [] false w args ∧ laidMetH Tryz.prog seatLaid w) ∧ sizedMet enc Tryz.prog Tryz.f9 (OpenSpec.ofChange Rows.patchPartedSpec) false w args) (Rows.patchPartedSpec.post enc Tryz.prog Tryz.f9 false true false false) := by
  refine law_liftL (tb := 4) (laid := seatLaid) (fun ds hd => by match ds, hd with | [d0, d1, d2], _ => rfl) rfl (by kernel_rfl) Tryz.underlying4 laidOut (by kernel_rfl) own started (by kernel_rfl) Tryz.func9
    (ChangeSpec.witness_shaped (enc := enc) (C := Tryz.checked) (os := os) (X := fun w _ => laidMetH Tryz.prog seatLaid w) false (World.laidAll Tryz.prog os seatLaid) #[.agg #[.slice none 0 0, .int .i64 0], .int .u8 0, .int .u8 0] 8 (World.laidAll_os _ _ _)
      (World.shaped_of_ZipB (by kernel_rfl) (by kernel_rfl)) (by kernel_rfl) (by kernel_rfl) (by kernel_rfl) (seat_laid os _)) ?_
  intro W base args ds ps hval hA
  rw [Tryz.params9] at hA hval
  obtain ⟨v0, vs0, d0, ds0, p0, q0, hargs, rfl, rfl, h0, r0⟩ := trodAll_cons hA
  obtain ⟨v1, vs1, d1, ds1, p1, q1, rfl, rfl, rfl, h1, r1⟩ := trodAll_cons r0
  obtain ⟨v2, vs2, d2, ds2, p2, q2, rfl, rfl, rfl, h2, r2⟩ := trodAll_cons r1
  obtain ⟨rfl, rfl, rfl⟩ := trodAll_nil r2
  obtain rfl : args = #[v0, v1, v2] := by cases args; simp_all
  obtain ⟨s0, k0⟩ := open_sheet (hval 0 24 v0 rfl rfl) h0
  obtain ⟨x1, rfl, _, _, w1⟩ := open_int Tryz.underlying5 (hval 1 5 v1 rfl rfl) h1
  have b1 := bd_u8 w1
  obtain ⟨x2, rfl, _, _, w2⟩ := open_int Tryz.underlying5 (hval 2 5 v2 rfl rfl) h2
  have b2 := bd_u8 w2
  exact ⟨[v0, .int .u8 x1, .int .u8 x2], rfl, patchParted_f s0 x1 x2 b1 b2 _ _ k0⟩

theorem over : Rows.patchPartedRow.holds Tryz.pinned (OpenSpec.ofChange Rows.patchPartedSpec) :=
  OpenClaim.holds_of_wide 9 Tryz.f9 rfl rfl rfl rfl rfl rfl rfl ⟨rfl, rfl, rfl, rfl, rfl⟩ rfl rfl rfl rfl rfl (by kernel_rfl) Tryz.func9 (by kernel_rfl)
    (of_decide_eq_true (by kernel_rfl)) (by unfold Func.isWrapper; first | (rw [if_pos (by decide +kernel)]; kernel_rfl) | (rw [if_neg (by decide +kernel)]; exact ⟨rfl, rfl⟩))
    (fun os started H enc _ => lifted os started H enc)

theorem proved : Rows.PatchPartedCardSaid :=
  Claim7.holds_tied_plain_at .later [] [.data, .pinned] true (true, "0d2a6361d0117277170b6b99c938bda2455ed98009332320e2a28814b9346cbd") false over (fun _ h => by cases h) (by kernel_rfl) (fun _ h => by cases h) patchParted_row_tie rfl ⟨rfl, rfl⟩ (by kernel_rfl) rfl
    (fun f fn hf hfn => by
      obtain rfl : f = 9 := Option.some.inj ((show Tryz.prog.funcNamed "crossband/crossbandlaw04.PatchParted" = some 9 by kernel_rfl).symm.trans hf) |>.symm
      obtain rfl : fn = Tryz.f9 := (Option.some.inj (Tryz.func9.symm.trans hfn)).symm
      exact ⟨by kernel_rfl, fun j t ht => by
        rw [Tryz.params9] at ht
        have hm : t ∈ [24, 5, 5] := by simpa using Array.mem_of_getElem? ht
        have hall : ([24, 5, 5].all fun u => !Tryz.prog.wantsStandIn u) = true := by kernel_rfl
        exact (show Tryz.prog.wantsStandIn t = false by simpa using List.all_eq_true.1 hall t hm)⟩)
    (by kernel_rfl)
#print axioms proved
end Go.Proofs.YtghomjjffllkeaaGreatDoor.c7
