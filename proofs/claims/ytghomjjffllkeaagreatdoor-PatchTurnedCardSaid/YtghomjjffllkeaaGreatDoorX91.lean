/- A sheet that is turned needs as many patches, which cover as many cells; as many knots are alone, there are as many parts, and its largest patch has as many cells; turned back it is what it was: for all valid sheets, how many times by a number. No condition. -/
import Derived.Test.YtghomjjffllkeaaGreatDoorB5
set_option linter.unusedVariables false
set_option linter.unusedSimpArgs false
set_option linter.unusedSectionVars false


set_option linter.unusedVariables false
namespace Go.Pm
open Go.Gl Go.Lw
theorem arL_split (f : Pc → Bool) : ∀ ps : List Pc, arL (ps.filter f) + arL (ps.filter fun p => !f p) = arL ps
 | [] => rfl
 | p :: ps => by
  have ih := arL_split f ps
  unfold arL at *
  cases h : f p with
  | true => rw [List.filter_cons_of_pos h, List.filter_cons_of_neg (by simp [h]), List.map_cons, List.sum_cons, List.map_cons, List.sum_cons]; omega
  | false => rw [List.filter_cons_of_neg (by simp [h]), List.filter_cons_of_pos (by simp [h]), List.map_cons, List.sum_cons, List.map_cons, List.sum_cons]; omega
theorem len_split {α : Type} (f : α → Bool) : ∀ ps : List α, (ps.filter f).length + (ps.filter fun p => !f p).length = ps.length
 | [] => rfl
 | p :: ps => by
  have ih := len_split f ps
  cases h : f p with
  | true => rw [List.filter_cons_of_pos h, List.filter_cons_of_neg (by simp [h]), List.length_cons, List.length_cons]; omega
  | false => rw [List.filter_cons_of_neg (by simp [h]), List.filter_cons_of_pos (by simp [h]), List.length_cons, List.length_cons]; omega
def ShC (g : Gd) (a b : Cl) : Prop := ∃ p, Lies g p ∧ inP p a ∧ inP p b
theorem shC_symm {g : Gd} {a b : Cl} (h : ShC g a b) : ShC g b a := by obtain ⟨p, h1, h2, h3⟩ := h; exact ⟨p, h1, h3, h2⟩
theorem sh_iff {g : Gd} (hg : GOk g) {K : List Cl} (hon : ∀ k ∈ K, OnG g k) {i k : Nat} {a b : Cl} (ha : K[i]? = some a) (hb : K[k]? = some b) : shN g K i k = true ↔ ShC g a b := by
 constructor
 ·intro h
  unfold shN at h
  rw [decide_eq_true_eq, peE_iff] at h
  exact ⟨_, h, bbx_in ((two_mem ha hb a).2 (.inl rfl)), bbx_in ((two_mem ha hb b).2 (.inr rfl))⟩
 ·rintro ⟨p, h1, h2, h3⟩
  exact sh_of hg hon ha hb h1 h2 h3
theorem len_sub {α : Type} [DecidableEq α] : ∀ {l m : List α}, l.Nodup → (∀ x ∈ l, x ∈ m) → l.length ≤ m.length := by
 intro l
 induction l with
 | nil => intro m _ _; exact Nat.zero_le _
 | cons a l ih =>
  intro m hn h
  have hn' := List.nodup_cons.1 hn
  have ha := h a List.mem_cons_self
  have := ih (m := m.erase a) hn'.2 fun x hx => (List.mem_erase_of_ne (fun e => by subst e; exact hn'.1 hx)).2 (h x (List.mem_cons_of_mem _ hx))
  rw [List.length_erase_of_mem ha] at this
  have := List.length_pos_of_mem ha
  rw [List.length_cons]; omega
def AlC (g : Gd) (K l : List Cl) : Prop := l.Pairwise (fun a b => ¬ ShC g a b) ∧ l.Nodup ∧ ∀ x ∈ l, x ∈ K
structure AlM (g : Gd) (K : List Cl) (m : Nat) : Prop where
 ex : ∃ l, AlC g K l ∧ l.length = m
 le : ∀ l, AlC g K l → l.length ≤ m
theorem alM_uniq {g : Gd} {K : List Cl} {m n : Nat} (h : AlM g K m) (k : AlM g K n) : m = n := by
 obtain ⟨l, h1, h2⟩ := h.ex
 obtain ⟨l', k1, k2⟩ := k.ex
 have := h.le _ k1; have := k.le _ h1
 omega
theorem alM_mem {g : Gd} {K K' : List Cl} {m : Nat} (h : AlM g K m) (hs : ∀ k, k ∈ K ↔ k ∈ K') : AlM g K' m := by
 obtain ⟨l, h1, h2⟩ := h.ex
 exact ⟨⟨l, ⟨h1.1, h1.2.1, fun x hx => (hs x).1 (h1.2.2 x hx)⟩, h2⟩, fun l hl => h.le l ⟨hl.1, hl.2.1, fun x hx => (hs x).2 (hl.2.2 x hx)⟩⟩
theorem al_cells {g : Gd} (hg : GOk g) {K : List Cl} (hon : ∀ k ∈ K, OnG g k) (hnd : K.Nodup) : ∀ {l : List Int}, Al K.length (shI g K) l → ∃ m, AlC g K m ∧ m.length = l.length ∧ ∀ x ∈ m, ∃ i ∈ l, K[i.toNat]? = some x := by
 intro l
 induction l with
 | nil => intro _; exact ⟨[], ⟨List.Pairwise.nil, List.nodup_nil, fun x hx => by cases hx⟩, rfl, fun x hx => by cases hx⟩
 | cons i l ih =>
  rintro ⟨h1, h2⟩
  have h1' := List.pairwise_cons.1 h1
  obtain ⟨m, m1, m2, m3⟩ := ih ⟨h1'.2, fun x hx => h2 x (List.mem_cons_of_mem _ hx)⟩
  have hi := h2 i List.mem_cons_self
  obtain ⟨a, ha⟩ : ∃ a, K[i.toNat]? = some a := ⟨_, List.getElem?_eq_getElem (by omega)⟩
  refine ⟨a :: m, ⟨List.pairwise_cons.2 ⟨fun b hb hs => ?_, m1.1⟩, List.nodup_cons.2 ⟨fun hc => ?_, m1.2.1⟩, fun x hx => ?_⟩, by simp [m2], fun x hx => ?_⟩
  ·obtain ⟨j, hj, hjb⟩ := m3 b hb
   have h3 := (h1'.1 j hj).2
   unfold shI at h3
   rw [(sh_iff hg hon ha hjb).2 hs] at h3
   cases h3
  ·obtain ⟨j, hj, hjb⟩ := m3 a hc
   have h3 := h1'.1 j hj
   have h4 := h2 j (List.mem_cons_of_mem _ hj)
   have := (List.getElem?_inj (by omega) hnd).1 (ha.trans hjb.symm)
   omega
  ·rcases List.mem_cons.1 hx with rfl | hx
   ·exact List.mem_of_getElem? ha
   ·exact m1.2.2 x hx
  ·rcases List.mem_cons.1 hx with rfl | hx
   ·exact ⟨i, List.mem_cons_self, ha⟩
   ·obtain ⟨j, hj, e⟩ := m3 x hx; exact ⟨j, List.mem_cons_of_mem _ hj, e⟩
theorem al_of_cells {g : Gd} (hg : GOk g) {K : List Cl} (hon : ∀ k ∈ K, OnG g k) (hnd : K.Nodup) {m : List Cl} (h : AlC g K m) : ∃ l, Al K.length (shI g K) l ∧ m.length ≤ l.length := by
 refine ⟨((List.range K.length).filter fun i => m.any fun x => decide (K[i]? = some x)).map (fun i : Nat => (i : Int)), ⟨?_, fun x hx => ?_⟩, ?_⟩
 ·rw [List.pairwise_map]
  have hin : ∀ i ∈ (List.range K.length).filter (fun i => m.any fun x => decide (K[i]? = some x)), ∃ x ∈ m, K[i]? = some x := fun i hi => by
   obtain ⟨x, hx, e⟩ := List.any_eq_true.1 (List.mem_filter.1 hi).2
   exact ⟨x, hx, of_decide_eq_true e⟩
  have hp : ((List.range K.length).filter (fun i => m.any fun x => decide (K[i]? = some x))).Pairwise (· < ·) := List.pairwise_lt_range.filter _
  refine hp.imp_of_mem fun {a b} ha hb hab => ⟨by omega, ?_⟩
  obtain ⟨x, hx, ex⟩ := hin a ha
  obtain ⟨y, hy, ey⟩ := hin b hb
  unfold shI
  rw [Int.toNat_natCast, Int.toNat_natCast]
  cases c : shN g K a b with
  | false => rfl
  | true =>
   have hs := (sh_iff hg hon ex ey).1 c
   by_cases e : x = y
   ·subst e
    have hal : a < K.length := List.mem_range.1 (List.mem_filter.1 ha).1
    have := (List.getElem?_inj hal hnd).1 (ex.trans ey.symm)
    omega
   ·exact absurd hs (by
     have : ∀ {m : List Cl}, m.Pairwise (fun a b => ¬ ShC g a b) → ∀ x ∈ m, ∀ y ∈ m, x ≠ y → ¬ ShC g x y := by
      intro m
      induction m with
      | nil => intro _ x hx; cases hx
      | cons z m ih =>
       intro hp x hx y hy hne
       have hp' := List.pairwise_cons.1 hp
       rcases List.mem_cons.1 hx with rfl | hx' <;> rcases List.mem_cons.1 hy with rfl | hy'
       ·exact absurd rfl hne
       ·exact hp'.1 y hy'
       ·exact fun hs => hp'.1 x hx' (shC_symm hs)
       ·exact ih hp'.2 x hx' y hy' hne
     exact this h.1 x hx y hy e)
 ·obtain ⟨i, hi, rfl⟩ := List.mem_map.1 hx
  have := List.mem_range.1 (List.mem_filter.1 hi).1
  omega
 ·rw [List.length_map]
  have := len_sub (m := ((List.range K.length).filter fun i => m.any fun x => decide (K[i]? = some x)).map fun i => K.getD i ⟨0, 0⟩) h.2.1 fun x hx => by
   obtain ⟨i, hi⟩ := List.getElem?_of_mem (h.2.2 x hx)
   refine List.mem_map.2 ⟨i, List.mem_filter.2 ⟨List.mem_range.2 (List.getElem?_eq_some_iff.1 hi).1, List.any_eq_true.2 ⟨x, hx, decide_eq_true hi⟩⟩, ?_⟩
   simp [List.getD, hi]
  rwa [List.length_map] at this
theorem alM_first {g : Gd} (hg : GOk g) {K : List Cl} (hon : ∀ k ∈ K, OnG g k) (hnd : K.Nodup) {r : List Int} (h : FirstS K.length (shI g K) r) : AlM g K r.length := by
 obtain ⟨m, m1, m2, _⟩ := al_cells hg hon hnd h.1
 refine ⟨⟨m, m1, m2⟩, fun l hl => ?_⟩
 obtain ⟨l', h1, h2⟩ := al_of_cells hg hon hnd hl
 have := h.2 l' h1
 omega
inductive RcC (g : Gd) (K : List Cl) (a : Cl) : Cl → Prop
 | refl : RcC g K a a
 | step {b c : Cl} : RcC g K a b → c ∈ K → ShC g b c → RcC g K a c
theorem rcC_in {g : Gd} {K : List Cl} {a b : Cl} (ha : a ∈ K) (h : RcC g K a b) : b ∈ K := by
 cases h with
 | refl => exact ha
 | step _ hk _ => exact hk
theorem rcC_trans {g : Gd} {K : List Cl} {a b c : Cl} (h : RcC g K a b) (k : RcC g K b c) : RcC g K a c := by
 induction k with
 | refl => exact h
 | step _ hk hs ih => exact .step ih hk hs
theorem rcC_symm {g : Gd} {K : List Cl} {a b : Cl} (ha : a ∈ K) (h : RcC g K a b) : RcC g K b a := by
 induction h with
 | refl => exact .refl
 | step h1 hk hs ih => exact rcC_trans (.step .refl (rcC_in ha h1) (shC_symm hs)) ih
theorem rcC_mem {g : Gd} {K K' : List Cl} {a b : Cl} (hs : ∀ k ∈ K, k ∈ K') (h : RcC g K a b) : RcC g K' a b := by
 induction h with
 | refl => exact .refl
 | step _ hk hh ih => exact .step ih (hs _ hk) hh
structure Rps (g : Gd) (K l : List Cl) : Prop where
 sub : ∀ x ∈ l, x ∈ K
 apart : l.Pairwise fun a b => ¬ RcC g K a b
 all : ∀ k ∈ K, ∃ x ∈ l, RcC g K x k
theorem rps_len {g : Gd} {K l m : List Cl} (h : Rps g K l) (k : Rps g K m) : l.length ≤ m.length := by
 have key : ∀ l : List Cl, (∀ x ∈ l, x ∈ K) → l.Pairwise (fun a b => ¬ RcC g K a b) → ∃ r : List Cl, r.length = l.length ∧ r.Nodup ∧ ∀ y ∈ r, y ∈ m ∧ ∃ x ∈ l, RcC g K y x := by
  intro l
  induction l with
  | nil => intro _ _; exact ⟨[], rfl, List.nodup_nil, fun x hx => by cases hx⟩
  | cons x l ih =>
   intro h1 h2
   have h2' := List.pairwise_cons.1 h2
   obtain ⟨r, r1, r2, r3⟩ := ih (fun y hy => h1 y (List.mem_cons_of_mem _ hy)) h2'.2
   obtain ⟨y, hy, hyx⟩ := k.all x (h1 x List.mem_cons_self)
   refine ⟨y :: r, by simp [r1], List.nodup_cons.2 ⟨fun hc => ?_, r2⟩, fun z hz => ?_⟩
   ·obtain ⟨_, x', hx', e⟩ := r3 y hc
    exact h2'.1 x' hx' (rcC_trans (rcC_symm (k.sub y hy) hyx) e)
   ·rcases List.mem_cons.1 hz with rfl | hz
    ·exact ⟨hy, x, List.mem_cons_self, hyx⟩
    ·obtain ⟨a, x', hx', e⟩ := r3 z hz
     exact ⟨a, x', List.mem_cons_of_mem _ hx', e⟩
 obtain ⟨r, r1, r2, r3⟩ := key l h.sub h.apart
 have := len_sub r2 fun y hy => (r3 y hy).1
 omega
theorem rps_uniq {g : Gd} {K l m : List Cl} (h : Rps g K l) (k : Rps g K m) : l.length = m.length := Nat.le_antisymm (rps_len h k) (rps_len k h)
theorem rps_mem {g : Gd} {K K' l : List Cl} (h : Rps g K l) (hs : ∀ k, k ∈ K ↔ k ∈ K') : Rps g K' l :=
 ⟨fun x hx => (hs x).1 (h.sub x hx), h.apart.imp fun hn hc => hn (rcC_mem (fun k hk => (hs k).2 hk) hc), fun k hk => by
  obtain ⟨x, hx, hr⟩ := h.all k ((hs k).2 hk)
  exact ⟨x, hx, rcC_mem (fun k hk => (hs k).1 hk) hr⟩⟩
theorem rch_cells {g : Gd} (hg : GOk g) {K : List Cl} (hon : ∀ k ∈ K, OnG g k) {i k : Nat} {a b : Cl} (ha : K[i]? = some a) (hb : K[k]? = some b) (h : Rch K.length (shN g K) i k) : RcC g K a b := by
 induction h generalizing b with
 | refl => rw [ha] at hb; cases hb; exact .refl
 | step h1 hk hs ih =>
  have hj := rch_lt (List.getElem?_eq_some_iff.1 ha).1 h1
  obtain ⟨c, hc⟩ : ∃ c, K[_]? = some c := ⟨_, List.getElem?_eq_getElem hj⟩
  exact .step (ih hc) (List.mem_of_getElem? hb) ((sh_iff hg hon hc hb).1 hs)
theorem rch_of_cells {g : Gd} (hg : GOk g) {K : List Cl} (hon : ∀ k ∈ K, OnG g k) (hnd : K.Nodup) {i : Nat} {a b : Cl} (ha : K[i]? = some a) (h : RcC g K a b) : ∃ k, K[k]? = some b ∧ Rch K.length (shN g K) i k := by
 induction h with
 | refl => exact ⟨i, ha, .refl⟩
 | step h1 hk hs ih =>
  obtain ⟨j, hj, hr⟩ := ih
  obtain ⟨k, hk⟩ := List.getElem?_of_mem hk
  exact ⟨k, hk, .step hr (List.getElem?_eq_some_iff.1 hk).1 ((sh_iff hg hon hj hk).2 hs)⟩
theorem prt_rps {g : Gd} (hg : GOk g) {K : List Cl} (hon : ∀ k ∈ K, OnG g k) (hnd : K.Nodup) {out : List (List Int)} (h : PrtK K.length (shN g K) K.length out) : ∃ l, Rps g K l ∧ l.length = out.length := by
 have key : ∀ {n : Nat} {out : List (List Int)}, PrtK K.length (shN g K) n out → n ≤ K.length → ∃ l : List Cl, l.length = out.length ∧ (∀ x ∈ l, ∃ i : Nat, i < n ∧ K[i]? = some x ∧ ∃ q ∈ out, IsPart K.length (shN g K) i q) ∧ l.Pairwise (fun a b => ¬ RcC g K a b) ∧ ∀ q ∈ out, ∃ (i : Nat) (x : Cl), x ∈ l ∧ K[i]? = some x ∧ IsPart K.length (shN g K) i q := by
  intro n out h
  induction h with
  | zero => intro _; exact ⟨[], rfl, fun x hx => (by cases hx), List.Pairwise.nil, fun x hx => (by cases hx)⟩
  | skip _ _ ih =>
   intro hn
   obtain ⟨l, l1, l2, l3, l4⟩ := ih (by omega)
   exact ⟨l, l1, fun x hx => (by obtain ⟨i, hi, r⟩ := l2 x hx; exact ⟨i, by omega, r⟩), l3, l4⟩
  | @add n out q h1 h2 h3 ih =>
   intro hn
   obtain ⟨l, l1, l2, l3, l4⟩ := ih (by omega)
   obtain ⟨a, ha⟩ : ∃ a, K[n]? = some a := ⟨_, List.getElem?_eq_getElem (by omega)⟩
   refine ⟨l ++ [a], by simp [l1], fun x hx => ?_, List.pairwise_append.2 ⟨l3, by simp, fun x hx y hy hc => ?_⟩, fun q' hq' => ?_⟩
   ·rcases List.mem_append.1 hx with hx | hx
    ·obtain ⟨i, hi, e, q', hq', r⟩ := l2 x hx; exact ⟨i, by omega, e, q', List.mem_append_left _ hq', r⟩
    ·rw [List.mem_singleton] at hx; subst hx; exact ⟨n, by omega, ha, q, by simp, h3⟩
   ·rw [List.mem_singleton] at hy; subst hy
    obtain ⟨i, hi, e, q', hq', r⟩ := l2 x hx
    obtain ⟨k, hk, hr⟩ := rch_of_cells hg hon hnd e hc
    have hkl := (List.getElem?_eq_some_iff.1 hk).1
    have := (List.getElem?_inj hkl hnd).1 (hk.trans ha.symm)
    subst this
    exact h2 ⟨q', hq', (r.2 _).2 ⟨k, rfl, hr⟩⟩
   ·rcases List.mem_append.1 hq' with hq' | hq'
    ·obtain ⟨i, x, hx, r⟩ := l4 q' hq'; exact ⟨i, x, List.mem_append_left _ hx, r⟩
    ·rw [List.mem_singleton] at hq'; subst hq'; exact ⟨n, a, by simp, ha, h3⟩
 obtain ⟨l, l1, l2, l3, l4⟩ := key h (Nat.le_refl _)
 refine ⟨l, ⟨fun x hx => ?_, l3, fun k hk => ?_⟩, l1⟩
 ·obtain ⟨i, _, e, _⟩ := l2 x hx; exact List.mem_of_getElem? e
 ·obtain ⟨i, hi⟩ := List.getElem?_of_mem hk
  obtain ⟨q, hq, hiq⟩ := (prtK_is h).2 i (List.getElem?_eq_some_iff.1 hi).1
  obtain ⟨j, x, hx, hj, hp⟩ := l4 q hq
  obtain ⟨k', e, hr⟩ := (hp.2 _).1 hiq
  obtain rfl : i = k' := by omega
  exact ⟨x, hx, rch_cells hg hon hj hi hr⟩
end Go.Pm
set_option linter.unusedVariables false
namespace Go.Pm
open Go.Gl Go.Lw
theorem fr_iff {r : ByteArray} : frR r = true ↔ ∀ k, k < r.size → okC (bv r k) = true := by
 unfold frR bv
 rw [List.all_eq_true]
 constructor
 ·intro h k hk
  have hk' : k < (bt r).length := by rw [bt_len]; exact hk
  have := h _ (List.getElem_mem hk')
  rw [List.getD_eq_getElem?_getD, List.getElem?_eq_getElem hk']; exact this
 ·intro h b hb
  obtain ⟨k, hk⟩ := List.getElem?_of_mem hb
  have := h k (by have := (List.getElem?_eq_some_iff.1 hk).1; rwa [bt_len] at this)
  rw [List.getD_eq_getElem?_getD, hk] at this; exact this
def rwS (s : Sh) (i : Nat) : ByteArray := s.rows.getD i ByteArray.empty
theorem rwS_at {s : Sh} {i : Nat} (h : i < s.rows.length) : s.rows[i]? = some (rwS s i) := by
 unfold rwS
 rw [List.getD_eq_getElem?_getD, List.getElem?_eq_getElem h]; rfl
theorem rwS_sz {s : Sh} (h : ShOk s) {i : Nat} (hi : i < s.rows.length) : (rwS s i).size = wdS s := h.sz _ (List.mem_of_getElem? (rwS_at hi))
theorem ch_ok {s : Sh} (h : ShOk s) {i k : Nat} (hi : i < s.rows.length) (hk : k < wdS s) : okC (chS s i k) = true := fr_iff.1 (h.fr _ (List.mem_of_getElem? (rwS_at hi))) k (by rw [rwS_sz h hi]; exact hk)
theorem kn_at {s : Sh} (h : ShOk s) {c : Cl} : c ∈ knL s ↔ ∃ (i k : Nat), i < s.rows.length ∧ k < wdS s ∧ chS s i k = 111 ∧ c = ⟨(i : Int), (k : Int)⟩ := by
 rw [kn_mem]
 constructor
 ·rintro ⟨i, r, k, h1, h2, h3, h4⟩
  have hi := (List.getElem?_eq_some_iff.1 h1).1
  have e := rwS_at hi
  rw [h1] at e; cases e
  exact ⟨i, k, hi, by rw [← rwS_sz h hi]; exact h2, h3, h4⟩
 ·rintro ⟨i, k, hi, hk, h3, h4⟩
  exact ⟨i, _, k, rwS_at hi, by rw [rwS_sz h hi]; exact hk, h3, h4⟩
def befC (a b : Cl) : Prop := a.r < b.r ∨ a.r = b.r ∧ a.c < b.c
theorem knR_pw (r : ByteArray) (i : Nat) : ∀ n, (knR r i n).Pairwise befC
 | 0 => List.Pairwise.nil
 | n + 1 => by
  simp only [knR]
  split
  ·refine List.pairwise_append.2 ⟨knR_pw r i n, by simp, fun x hx y hy => ?_⟩
   obtain ⟨k, hk, _, rfl⟩ := (knR_mem n).1 hx
   rw [List.mem_singleton] at hy; subst hy
   refine .inr ⟨rfl, ?_⟩
   dsimp only; omega
  ·exact knR_pw r i n
theorem knK_pw (rows : List ByteArray) : ∀ n, (knK rows n).Pairwise befC
 | 0 => List.Pairwise.nil
 | n + 1 => by
  simp only [knK]
  split
  ·rename_i r hr
   refine List.pairwise_append.2 ⟨knK_pw rows n, knR_pw _ _ _, fun x hx y hy => ?_⟩
   obtain ⟨i, _, k, hi, _, _, _, rfl⟩ := (knK_mem n).1 hx
   obtain ⟨k', _, _, rfl⟩ := (knR_mem _).1 hy
   refine .inl ?_
   dsimp only; omega
  ·exact knK_pw rows n
theorem kn_pw (s : Sh) : (knL s).Pairwise befC := knK_pw _ _
theorem kn_nd (s : Sh) : (knL s).Nodup := (kn_pw s).imp fun h e => by subst e; rcases h with h | h <;> omega
structure Dt (s x : Sh) (D : Cl → Prop) : Prop where
 most : x.most = s.most
 n : x.rows.length = s.rows.length
 sz : ∀ i, i < s.rows.length → (rwS x i).size = (rwS s i).size
 dot : ∀ (i k : Nat), i < s.rows.length → k < (rwS s i).size → D ⟨i, k⟩ → chS x i k = 46
 ch : ∀ (i k : Nat), i < s.rows.length → ¬ D ⟨i, k⟩ → chS x i k = chS s i k
structure Frm (s x : Sh) : Prop where
 n : x.rows.length = s.rows.length
 sz : ∀ i, i < s.rows.length → (rwS x i).size = (rwS s i).size
end Go.Pm
set_option linter.unusedVariables false
namespace Go.Pm
open Go.Gl Go.Lw
structure TnG (g g' : Gd) : Prop where
 R : g'.R = g.C
 C : g'.C = g.R
 most : g'.most = g.most
 fig : ∀ r c, 0 ≤ r → r < g.R → 0 ≤ c → c < g.C → g'.fig c (g.R - 1 - r) = g.fig r c
def tcC (R : Int) (k : Cl) : Cl := ⟨k.c, R - 1 - k.r⟩
def tcP (R : Int) (p : Pc) : Pc := ⟨p.l, R - p.t - p.h, p.w, p.h⟩
def bkP (R : Int) (q : Pc) : Pc := ⟨R - q.l - q.w, q.t, q.w, q.h⟩
theorem bk_tc (R : Int) (q : Pc) : tcP R (bkP R q) = q := by unfold tcP bkP; cases q; simp only [Pc.mk.injEq, and_true, true_and]; omega
theorem tcC_inj {R : Int} {a b : Cl} (h : tcC R a = tcC R b) : a = b := by
 unfold tcC at h; cases a; cases b; simp only [Cl.mk.injEq] at h ⊢; omega
theorem in_tc {R : Int} {p : Pc} {k : Cl} : inP (tcP R p) (tcC R k) ↔ inP p k := by
 unfold inP tcP tcC; dsimp only; omega
theorem ar_tc (R : Int) (p : Pc) : arP (tcP R p) = arP p := by unfold arP tcP; dsimp only; exact Int.mul_comm _ _
theorem lies_tc {g g' : Gd} (hT : TnG g g') {p : Pc} (h : Lies g p) : Lies g' (tcP g.R p) := by
 have := h.h; have := h.w; have := h.t; have := h.l
 refine ⟨by rw [hT.R]; exact h.w, by rw [hT.C]; exact h.h, by rw [hT.R]; exact h.l, by rw [hT.C]; unfold tcP; dsimp only; omega, fun i k h1 h2 h3 h4 => ?_, by rw [ar_tc, hT.most]; exact h.most⟩
 unfold tcP at h1 h2 h3 h4
 dsimp only at h1 h2 h3 h4
 have e := hT.fig (g.R - 1 - k) i (by omega) (by omega) (by omega) (by omega)
 rw [show g.R - 1 - (g.R - 1 - k) = k by omega] at e
 rw [e]
 exact h.fig _ _ (by omega) (by omega) h1 h2
theorem lies_bk {g g' : Gd} (hT : TnG g g') {q : Pc} (h : Lies g' q) : Lies g (bkP g.R q) := by
 have := h.h; have := h.w; have := h.t; have := h.l
 rw [hT.R, hT.C] at *
 refine ⟨by unfold bkP; dsimp only; omega, by unfold bkP; dsimp only; omega, by unfold bkP; dsimp only; omega, by unfold bkP; dsimp only; omega, fun i k h1 h2 h3 h4 => ?_, by rw [← hT.most, ← ar_tc g.R, bk_tc]; exact h.most⟩
 unfold bkP at h1 h2 h3 h4
 dsimp only at h1 h2 h3 h4
 rw [← hT.fig i k (by omega) (by omega) (by omega) (by omega)]
 exact h.fig _ _ h3 h4 (by omega) (by omega)
theorem arL_map (f : Pc → Pc) (hf : ∀ p, arP (f p) = arP p) : ∀ ps : List Pc, arL (ps.map f) = arL ps
 | [] => rfl
 | p :: ps => by
  have ih := arL_map f hf ps
  unfold arL at *
  rw [List.map_cons, List.map_cons, List.sum_cons, ih, hf, List.map_cons, List.sum_cons]
structure Emb (g g' : Gd) (K : List Cl) (f : Cl → Cl) (F B : Pc → Pc) : Prop where
 to : ∀ p, Lies g p → Lies g' (F p)
 bk : ∀ q k, Lies g' q → k ∈ K → inP q (f k) → Lies g (B q)
 fb : ∀ q, F (B q) = q
 inj : ∀ a b, f a = f b → a = b
 mem : ∀ p k, inP (F p) (f k) ↔ inP p k
 ar : ∀ p, arP (F p) = arP p
theorem tc_emb {g g' : Gd} (hT : TnG g g') (K : List Cl) : Emb g g' K (tcC g.R) (tcP g.R) (bkP g.R) :=
 ⟨fun p h => lies_tc hT h, fun q k h _ _ => lies_bk hT h, bk_tc _, fun a b h => tcC_inj h, fun p k => in_tc, ar_tc _⟩
section
variable {g g' : Gd} {K : List Cl} {f : Cl → Cl} {F B : Pc → Pc} (E : Emb g g' K f F B)
include E
theorem em_in {q : Pc} {k : Cl} (h : inP q (f k)) : inP (B q) k := by rw [← E.fb q, E.mem] at h; exact h
theorem em_ar (q : Pc) : arP (B q) = arP q := by rw [← E.ar, E.fb]
theorem em_sh {a b : Cl} (ha : a ∈ K) : ShC g' (f a) (f b) ↔ ShC g a b := by
 constructor
 ·rintro ⟨q, h1, h2, h3⟩
  exact ⟨_, E.bk q a h1 ha h2, em_in E h2, em_in E h3⟩
 ·rintro ⟨p, h1, h2, h3⟩
  exact ⟨_, E.to p h1, (E.mem _ _).2 h2, (E.mem _ _).2 h3⟩
theorem best_emb {n : Nat} {c : Int} (h : jy g K n c) : jy g' (K.map f) n c := by
 obtain ⟨ps, p1, p2, p3⟩ := h.ex
 refine ⟨⟨ps.map F, ⟨fun p hp => ?_, fun k hk => ?_⟩, by rw [List.length_map]; exact p2, by rw [arL_map _ E.ar]; exact p3⟩, fun qs hq => ?_⟩
 ·obtain ⟨q, hq, rfl⟩ := List.mem_map.1 hp
  exact E.to _ (p1.lies q hq)
 ·obtain ⟨k', hk', rfl⟩ := List.mem_map.1 hk
  obtain ⟨p, hp, hi⟩ := p1.has k' hk'
  exact ⟨_, List.mem_map_of_mem hp, (E.mem _ _).2 hi⟩
 ·have := h.le ((qs.filter fun q => K.any fun k => decide (inP q (f k))).map B) ⟨fun p hp => ?_, fun k hk => ?_⟩
  ·rw [List.length_map, arL_map _ (em_ar E)] at this
   have e1 := len_split (fun q => K.any fun k => decide (inP q (f k))) qs
   have e2 := arL_split (fun q => K.any fun k => decide (inP q (f k))) qs
   have e3 := arL_nn (ps := qs.filter fun q => !K.any fun k => decide (inP q (f k))) fun p hp => by
    have := ar_pos (hq.lies p (List.mem_filter.1 hp).1); omega
   omega
  ·obtain ⟨q, hq', rfl⟩ := List.mem_map.1 hp
   obtain ⟨h1, h2⟩ := List.mem_filter.1 hq'
   obtain ⟨k, hk, hi⟩ := List.any_eq_true.1 h2
   exact E.bk q k (hq.lies q h1) hk (of_decide_eq_true hi)
  ·obtain ⟨q, hq', hi⟩ := hq.has _ (List.mem_map_of_mem hk)
   exact ⟨_, List.mem_map_of_mem (List.mem_filter.2 ⟨hq', List.any_eq_true.2 ⟨k, hk, decide_eq_true hi⟩⟩), em_in E hi⟩
theorem alM_emb {n : Nat} (h : AlM g K n) : AlM g' (K.map f) n := by
 obtain ⟨l, h1, h2⟩ := h.ex
 refine ⟨⟨l.map f, ⟨?_, ?_, fun x hx => ?_⟩, by rw [List.length_map]; exact h2⟩, fun m hm => ?_⟩
 ·rw [List.pairwise_map]
  exact h1.1.imp_of_mem fun {a b} ha _ hn hs => hn ((em_sh E (h1.2.2 a ha)).1 hs)
 ·rw [List.Nodup, List.pairwise_map]
  exact h1.2.1.imp fun hn he => hn (E.inj _ _ he)
 ·obtain ⟨y, hy, rfl⟩ := List.mem_map.1 hx
  exact List.mem_map_of_mem (h1.2.2 y hy)
 ·have : ∃ l : List Cl, m = l.map f ∧ ∀ x ∈ l, x ∈ K := by
   have hm3 := hm.2.2
   clear hm
   induction m with
   | nil => exact ⟨[], rfl, fun x hx => by cases hx⟩
   | cons a m ih =>
    obtain ⟨l, rfl, hl⟩ := ih fun x hx => hm3 x (List.mem_cons_of_mem _ hx)
    obtain ⟨b, hb, rfl⟩ := List.mem_map.1 (hm3 a List.mem_cons_self)
    exact ⟨b :: l, rfl, fun x hx => by
     rcases List.mem_cons.1 hx with rfl | hx
     ·exact hb
     ·exact hl x hx⟩
  obtain ⟨l, rfl, hl⟩ := this
  rw [List.length_map]
  refine h.le l ⟨?_, ?_, hl⟩
  ·have := hm.1
   rw [List.pairwise_map] at this
   exact this.imp_of_mem fun {a b} ha _ hn hs => hn ((em_sh E (hl a ha)).2 hs)
  ·have := hm.2.1
   rw [List.Nodup, List.pairwise_map] at this
   exact this.imp fun hn he => hn (by rw [he])
theorem rc_emb {a b : Cl} (ha : a ∈ K) (h : RcC g K a b) : RcC g' (K.map f) (f a) (f b) := by
 induction h with
 | refl => exact .refl
 | step h1 hk hs ih => exact .step ih (List.mem_map_of_mem hk) ((em_sh E (rcC_in ha h1)).2 hs)
theorem rc_bk {a : Cl} {y : Cl} (ha : a ∈ K) (h : RcC g' (K.map f) (f a) y) : ∃ b, y = f b ∧ RcC g K a b := by
 induction h with
 | refl => exact ⟨a, rfl, .refl⟩
 | step _ hk hs ih =>
  obtain ⟨b, rfl, hb⟩ := ih
  obtain ⟨c, hc, rfl⟩ := List.mem_map.1 hk
  exact ⟨c, rfl, .step hb hc ((em_sh E (rcC_in ha hb)).1 hs)⟩
theorem rps_emb {l : List Cl} (h : Rps g K l) : Rps g' (K.map f) (l.map f) := by
 refine ⟨fun x hx => ?_, ?_, fun k hk => ?_⟩
 ·obtain ⟨y, hy, rfl⟩ := List.mem_map.1 hx
  exact List.mem_map_of_mem (h.sub y hy)
 ·rw [List.pairwise_map]
  exact h.apart.imp_of_mem fun {a b} ha _ hn hs => hn (by
   obtain ⟨b, e, hb⟩ := rc_bk E (h.sub a ha) hs
   rw [E.inj _ _ e]; exact hb)
 ·obtain ⟨y, hy, rfl⟩ := List.mem_map.1 hk
  obtain ⟨x, hx, hr⟩ := h.all y hy
  exact ⟨_, List.mem_map_of_mem hx, rc_emb E (h.sub x hx) hr⟩
end
theorem pcN_all {g : Gd} (hg : GOk g) {p : Pc} (h : Lies g p) : ∃ k, k < 1296 ∧ p = pcN k := by
 have := h.h; have := h.w; have := h.t; have := h.l; have := hg.R; have := hg.C
 refine ⟨((p.t.toNat * 6 + p.l.toNat) * 6 + (p.h - 1).toNat) * 6 + (p.w - 1).toNat, by omega, ?_⟩
 rw [pcN_at (by omega) (by omega) (by omega) (by omega)]
 cases p; simp only [Pc.mk.injEq] at *; omega
theorem la_none {s : Sh} (h : ShOk s) (he : (laR s).2 ≠ 0) : (laR s) = (pc0, 5) ∧ ∀ p, ¬ Lies (gdS s) p := by
 unfold laR at *
 rw [if_neg (by rw [chE_of h]; simp)] at *
 split at he
 ·rename_i c
  rw [if_pos c]
  refine ⟨rfl, fun p hp => ?_⟩
  have := (lyN_mem (n := 1296)).2 ⟨hp, pcN_all (sh_gok h) hp⟩
  rw [c] at this; cases this
 ·exact absurd rfl he
theorem laO_ge {g : Gd} {n : Nat} : ∀ p ∈ lyN g n, arP p ≤ arP (laO g n) := by
 induction n with
 | zero => intro p hp; cases hp
 | succ n ih =>
  intro p hp
  rw [lyN_snoc] at hp
  rw [laO_snoc]
  split at hp
  ·rename_i h0
   by_cases c : arP (laO g n) < arP (pcN n)
   ·rw [if_pos ⟨h0, c⟩]
    rcases List.mem_append.1 hp with h | h
    ·have := ih p h; omega
    ·rw [List.mem_singleton] at h; subst h; exact Int.le_refl _
   ·rw [if_neg (fun h => c h.2)]
    rcases List.mem_append.1 hp with h | h
    ·exact ih p h
    ·rw [List.mem_singleton] at h; subst h; omega
  ·rename_i h0
   rw [if_neg (fun h => h0 h.1)]
   exact ih p hp
theorem la_some {s : Sh} (h : ShOk s) (he : (laR s).2 = 0) : Lies (gdS s) (laR s).1 ∧ ∀ p, Lies (gdS s) p → arP p ≤ arP (laR s).1 := by
 unfold laR at *
 rw [if_neg (by rw [chE_of h]; simp)] at *
 split at he
 ·cases he
 ·rename_i c
  rw [if_neg c]
  refine ⟨?_, fun p hp => ?_⟩
  ·dsimp only
   rcases laO_in (gdS s) 1296 with e | e
   ·have : (laO (gdS s) 1296).h = 0 := by rw [e]; rfl
    exact absurd (laO_h.1 this) c
   ·exact (lyN_mem.1 e).1
  ·dsimp only
   exact laO_ge p ((lyN_mem (n := 1296)).2 ⟨hp, pcN_all (sh_gok h) hp⟩)
end Go.Pm

set_option linter.unusedVariables false
namespace Go.Pm
open Go.Gl Go.Lw
theorem aloL_is (s : Sh) : FirstS (knL s).length (shI (gdS s) (knL s)) (aloL s) := alG_is
end Go.Pm
set_option linter.unusedVariables false
namespace Go.Proofs.YtghomjjffllkeaaGreatDoor
open Go.Lw Go.Gl Go.Pm Go.RowKit Go.Shelf
theorem fine_no {s : Sh} (h : ¬ (!grB s && decide (chE s = 0)) = true) : (!grB s && decide (chE s = 0)) = false := by simpa using h
theorem fine_ok {s : Sh} (h : (!grB s && decide (chE s = 0)) = true) : grB s = false ∧ chE s = 0 := by simpa using h
end Go.Proofs.YtghomjjffllkeaaGreatDoor

set_option linter.unusedVariables false
namespace Go.Proofs.YtghomjjffllkeaaGreatDoor
open Go.Lw Go.Gl Go.Pm Go.RowKit Go.Shelf
theorem alM_of {s : Sh} (hok : ShOk s) : AlM (gdS s) (knL s) (aloL s).length := alM_first (sh_gok hok) (kn_on hok) (kn_nd s) (aloL_is s)
end Go.Proofs.YtghomjjffllkeaaGreatDoor

set_option linter.unusedVariables false
namespace Go.Pm
open Go.Gl Go.Lw
theorem prt_len {s : Sh} (hok : ShOk s) {out : List (List Int)} (h : PrtK (knL s).length (shN (gdS s) (knL s)) (knL s).length out) : ∃ l, Rps (gdS s) (knL s) l ∧ l.length = out.length := prt_rps (sh_gok hok) (kn_on hok) (kn_nd s) h
end Go.Pm
namespace Go.Proofs.YtghomjjffllkeaaGreatDoor
open Go.Lw Go.Gl Go.Pm Go.RowKit Go.Shelf
theorem pr_ok {s : Sh} (h0 : chE s = 0) {ll : List (List Int)} (h : (chE s ≠ 0 ∧ ll = []) ∨ (chE s = 0 ∧ PrtK (knL s).length (shN (gdS s) (knL s)) (knL s).length ll)) : PrtK (knL s).length (shN (gdS s) (knL s)) (knL s).length ll := by
 rcases h with ⟨h, _⟩ | ⟨_, h⟩
 ·exact absurd h0 h
 ·exact h
end Go.Proofs.YtghomjjffllkeaaGreatDoor
set_option linter.unusedVariables false
namespace Go.Pm
open Go.Gl Go.Lw
theorem tn_ch {s : Sh} {c j : Nat} (hc : c < wdS s) (hj : j < s.rows.length) : chS (tnS s) c j = chS s (s.rows.length - 1 - j) c := by
 have e1 : (tnS s).rows.getD c ByteArray.empty = ⟨(colB s.rows c s.rows.length).toArray⟩ := by
  unfold tnS tnK
  rw [List.getD_eq_getElem?_getD, List.getElem?_map, List.getElem?_range hc]; rfl
 unfold chS
 rw [e1]
 show (((colB s.rows c s.rows.length).getD j 0).toNat : Int) = _
 unfold colB
 rw [List.getD_eq_getElem?_getD, List.getElem?_map, List.getElem?_range hj]
 rfl
theorem tn_ok {s : Sh} (h : ShOk s) : ShOk (tnS s) ∧ TnG (gdS s) (gdS (tnS s)) ∧ ∀ k, k ∈ (knL s).map (tcC (gdS s).R) ↔ k ∈ knL (tnS s) := by
 have hr := rct_tn (rct_ok h)
 have hw := tnS_wd (rct_ok h)
 have hl : (tnS s).rows.length = wdS s := tnK_len _ _
 have hn := h.n
 have hfr : ∀ r ∈ (tnS s).rows, frR r = true := fun r hrm => by
  obtain ⟨i, hi⟩ := List.getElem?_of_mem hrm
  have hil := (List.getElem?_eq_some_iff.1 hi).1
  have e := rwS_at hil
  rw [hi] at e; cases e
  refine fr_iff.2 fun k hk => ?_
  rw [hr.sz _ hrm, hw] at hk
  rw [hl] at hil
  show okC (chS (tnS s) i k) = true
  rw [tn_ch hil hk]
  exact ch_ok h (by omega) hil
 have hkn : ∀ k, k ∈ (knL s).map (tcC (gdS s).R) ↔ k ∈ knL (tnS s) := fun k => by
  rw [List.mem_map, kn_mem]
  constructor
  ·rintro ⟨a, ha, rfl⟩
   obtain ⟨i, j, hi, hj, e, rfl⟩ := (kn_at h).1 ha
   refine ⟨j, _, s.rows.length - 1 - i, rwS_at (by rw [hl]; exact hj), ?_, ?_, ?_⟩
   ·rw [hr.sz _ (List.mem_of_getElem? (rwS_at (by rw [hl]; exact hj))), hw]; omega
   ·show chS (tnS s) j _ = 111
    rw [tn_ch hj (by omega), show s.rows.length - 1 - (s.rows.length - 1 - i) = i by omega]; exact e
   ·have e9 : (gdS s).R = (s.rows.length : Int) := rfl
    unfold tcC; rw [e9]; simp only [Cl.mk.injEq, true_and, and_true]; omega
  ·rintro ⟨i, r, j, hi, hj, e, rfl⟩
   have hil := (List.getElem?_eq_some_iff.1 hi).1
   rw [hr.sz _ (List.mem_of_getElem? hi), hw] at hj
   have e' := rwS_at hil
   rw [hi] at e'; cases e'
   rw [hl] at hil
   have e2 : chS (tnS s) i j = 111 := e
   rw [tn_ch hil hj] at e2
   refine ⟨⟨((s.rows.length - 1 - j : Nat) : Int), (i : Int)⟩, (kn_at h).2 ⟨_, _, by omega, hil, e2, rfl⟩, ?_⟩
   have e9 : (gdS s).R = (s.rows.length : Int) := rfl
   unfold tcC; rw [e9]; simp only [Cl.mk.injEq, true_and, and_true]; omega
 refine ⟨⟨hr.n, hr.w, h.m, hr.sz, hfr, ?_⟩, ⟨by show ((tnS s).rows.length : Int) = _; rw [hl]; rfl, by show ((wdS (tnS s) : Nat) : Int) = _; rw [hw]; rfl, rfl, fun r c h1 h2 h3 h4 => ?_⟩, hkn⟩
 ·have := len_sub (kn_nd (tnS s)) fun x hx => (hkn x).2 hx
  rw [List.length_map] at this
  exact Nat.le_trans this h.kn
 ·have h2' : r < (s.rows.length : Int) := h2
  have h4' : c < (wdS s : Int) := h4
  show decide (chS (tnS s) c.toNat ((s.rows.length : Int) - 1 - r).toNat = 35) = decide (chS s r.toNat c.toNat = 35)
  rw [tn_ch (by omega) (by omega), show s.rows.length - 1 - ((s.rows.length : Int) - 1 - r).toNat = r.toNat by omega]
theorem tnN_ok {s : Sh} (h : ShOk s) : ∀ n, ShOk (tnN s n)
 | 0 => h
 | n + 1 => (tn_ok (tnN_ok h n)).1
theorem tnN_best {s : Sh} (h : ShOk s) {m : Nat} {c : Int} (hB : jy (gdS s) (knL s) m c) : ∀ n, jy (gdS (tnN s n)) (knL (tnN s n)) m c
 | 0 => hB
 | n + 1 => by
  obtain ⟨_, a, b⟩ := tn_ok (tnN_ok h n)
  exact best_mem (best_emb (tc_emb a _) (tnN_best h hB n)) b
theorem tnN_alM {s : Sh} (h : ShOk s) {m : Nat} (hB : AlM (gdS s) (knL s) m) : ∀ n, AlM (gdS (tnN s n)) (knL (tnN s n)) m
 | 0 => hB
 | n + 1 => by
  obtain ⟨_, a, b⟩ := tn_ok (tnN_ok h n)
  exact alM_mem (alM_emb (tc_emb a _) (tnN_alM h hB n)) b
theorem tnN_rps {s : Sh} (h : ShOk s) {l : List Cl} (hB : Rps (gdS s) (knL s) l) : ∀ n, ∃ m, Rps (gdS (tnN s n)) (knL (tnN s n)) m ∧ m.length = l.length
 | 0 => ⟨l, hB, rfl⟩
 | n + 1 => by
  obtain ⟨_, a, b⟩ := tn_ok (tnN_ok h n)
  obtain ⟨m, h1, h2⟩ := tnN_rps h hB n
  exact ⟨_, rps_mem (rps_emb (tc_emb a _) h1) b, by rw [List.length_map, h2]⟩
theorem tnN_lies {s : Sh} (h : ShOk s) {p : Pc} (hp : Lies (gdS s) p) : ∀ n, ∃ q, Lies (gdS (tnN s n)) q ∧ arP q = arP p
 | 0 => ⟨p, hp, rfl⟩
 | n + 1 => by
  obtain ⟨_, a, _⟩ := tn_ok (tnN_ok h n)
  obtain ⟨q, h1, h2⟩ := tnN_lies h hp n
  exact ⟨_, lies_tc a h1, by rw [ar_tc, h2]⟩
theorem tnN_bk {s : Sh} (h : ShOk s) : ∀ n {q : Pc}, Lies (gdS (tnN s n)) q → ∃ p, Lies (gdS s) p ∧ arP p = arP q
 | 0, q, hq => ⟨q, hq, rfl⟩
 | n + 1, q, hq => by
  obtain ⟨_, a, _⟩ := tn_ok (tnN_ok h n)
  obtain ⟨p, h1, h2⟩ := tnN_bk h n (lies_bk a hq)
  exact ⟨p, h1, by rw [h2, ← ar_tc _ (bkP _ q), bk_tc]⟩
theorem tnN_add (s : Sh) (a : Nat) : ∀ b, tnN (tnN s a) b = tnN s (a + b)
 | 0 => rfl
 | b + 1 => by show tnS (tnN (tnN s a) b) = tnS (tnN s (a + b)); rw [tnN_add s a b]
theorem rows_eq {s x : Sh} (hs : Rct s) (hx : Rct x) (hn : x.rows.length = s.rows.length) (hw : wdS x = wdS s) (h : ∀ i k, i < s.rows.length → k < wdS s → chS x i k = chS s i k) : x.rows = s.rows := by
 refine List.ext_getElem? fun i => ?_
 by_cases hi : i < s.rows.length
 ·rw [rwS_at hi, rwS_at (by rw [hn]; exact hi)]
  have z1 : (rwS s i).size = wdS s := hs.sz _ (List.mem_of_getElem? (rwS_at hi))
  have z2 : (rwS x i).size = wdS s := by rw [hx.sz _ (List.mem_of_getElem? (rwS_at (by rw [hn]; exact hi))), hw]
  refine congrArg some (bt_ext (List.ext_getElem? fun k => ?_))
  by_cases hk : k < wdS s
  ·have k1 : k < (bt (rwS s i)).length := by rw [bt_len, z1]; exact hk
   have k2 : k < (bt (rwS x i)).length := by rw [bt_len, z2]; exact hk
   have := h i k hi hk
   have e : (((bt (rwS x i)).getD k 0).toNat : Int) = (((bt (rwS s i)).getD k 0).toNat : Int) := this
   rw [List.getD_eq_getElem?_getD, List.getD_eq_getElem?_getD, List.getElem?_eq_getElem k1, List.getElem?_eq_getElem k2] at e
   rw [List.getElem?_eq_getElem k1, List.getElem?_eq_getElem k2]
   congr 1
   exact UInt8.toNat_inj.1 (by simp only [Option.getD_some] at e; omega)
  ·rw [List.getElem?_eq_none (by rw [bt_len, z2]; omega), List.getElem?_eq_none (by rw [bt_len, z1]; omega)]
 ·rw [List.getElem?_eq_none (by omega), List.getElem?_eq_none (by omega)]
theorem tnS_len (s : Sh) : (tnS s).rows.length = wdS s := tnK_len _ _
theorem tn4c {s : Sh} {n w i k : Nat} (hn : s.rows.length = n) (hw : wdS s = w) (hi : i < n) (hk : k < w) (w1 : wdS (tnS s) = n) (l1 : (tnS s).rows.length = w) (w2 : wdS (tnS (tnS s)) = w) (l2 : (tnS (tnS s)).rows.length = n) (w3 : wdS (tnS (tnS (tnS s))) = n) (l3 : (tnS (tnS (tnS s))).rows.length = w) : chS (tnS (tnS (tnS (tnS s)))) i k = chS s i k := by
 have e4 := tn_ch (s := tnS (tnS (tnS s))) (c := i) (j := k) (by rw [w3]; exact hi) (by rw [l3]; exact hk)
 have e3 := tn_ch (s := tnS (tnS s)) (c := w - 1 - k) (j := i) (by rw [w2]; omega) (by rw [l2]; exact hi)
 have e2 := tn_ch (s := tnS s) (c := n - 1 - i) (j := w - 1 - k) (by rw [w1]; omega) (by rw [l1]; omega)
 have e1 := tn_ch (s := s) (c := w - 1 - (w - 1 - k)) (j := n - 1 - i) (by rw [hw]; omega) (by rw [hn]; omega)
 rw [l3] at e4
 rw [l2] at e3
 rw [l1] at e2
 rw [hn] at e1
 rw [e4, e3, e2, e1, show n - 1 - (n - 1 - i) = i by omega, show w - 1 - (w - 1 - k) = k by omega]
theorem tn4 {s : Sh} (h : Rct s) : (tnN s 4).rows = s.rows := by
 have r1 := rct_tn h
 have r2 := rct_tn r1
 have r3 := rct_tn r2
 have r4 := rct_tn r3
 have w1 := tnS_wd h
 have l1 := tnS_len s
 have w2 := (tnS_wd r1).trans l1
 have l2 := (tnS_len (tnS s)).trans w1
 have w3 := (tnS_wd r2).trans l2
 have l3 := (tnS_len (tnS (tnS s))).trans w2
 have w4 := (tnS_wd r3).trans l3
 have l4 := (tnS_len (tnS (tnS (tnS s)))).trans w3
 exact rows_eq h r4 l4 w4 fun i k hi hk => tn4c rfl rfl hi hk w1 l1 w2 l2 w3 l3
theorem tnN_most (s : Sh) : ∀ n, (tnN s n).most = s.most
 | 0 => rfl
 | n + 1 => tnN_most s n
end Go.Pm
set_option linter.unusedVariables false
namespace Go.Pm
open Go.Gl Go.Lw
theorem tuR_n {s : Sh} (h0 : chE s = 0) {n : Nat} (hn : n ≤ 3) : tuR s (n : Int) = (tnN s n, 0) := by
 unfold tuR
 rw [if_neg (by rw [h0]; simp), if_neg (by omega), Int.toNat_natCast]
theorem mxR_bd {rows : List ByteArray} (h : ∀ r ∈ rows, r.size ≤ 12) : ∀ n, mxR rows n ≤ 12
 | 0 => by simp [mxR]
 | n + 1 => by
  have ih := mxR_bd h n
  cases c : rows[n]? with
  | none => simp only [mxR, c]; exact ih
  | some q =>
   rw [mxR_at c]
   have := h q (List.mem_of_getElem? c)
   omega
theorem gr_ok {s : Sh} (h : ShOk s) : grB s = false := by
 have h1 := h.n
 have h2 := h.w
 have := mxR_bd (rows := s.rows) (fun r hr => by rw [h.sz r hr]; omega) s.rows.length
 unfold grB
 rw [Bool.or_eq_false_iff, decide_eq_false_iff_not, decide_eq_false_iff_not]
 omega
theorem sa_tn {s : Sh} (h0 : chE s = 0) {n : Nat} (hx : chE (tnN s n) = 0) (hn : n ≤ 3) : ∃ j : Nat, saR s (tnN s n) = ((j : Int), 0) ∧ j ≤ n := by
 have key : ∀ f k, k ≤ n → n < k + f → ∃ j : Nat, saF s (tnN s n) f k = ((j : Int), 0) ∧ j ≤ n := by
  intro f
  induction f with
  | zero => intro k h1 h2; omega
  | succ f ih =>
   intro k h1 h2
   simp only [saF]
   by_cases e : eqK s (tnN s n) k
   ·rw [if_pos e]; exact ⟨k, rfl, h1⟩
   ·rw [if_neg e]
    have : k ≠ n := fun h => e (by subst h; exact ⟨rfl, rfl⟩)
    exact ih (k + 1) (by omega) (by omega)
 unfold saR
 rw [if_neg (by rw [h0]; simp), if_neg (by rw [hx]; simp)]
 exact key 4 0 (Nat.zero_le _) (by omega)
theorem la_tn {s : Sh} (h : ShOk s) (n : Nat) : (laR s).2 = (laR (tnN s n)).2 ∧ arP (laR s).1 = arP (laR (tnN s n)).1 := by
 have hx := tnN_ok h n
 by_cases e : (laR s).2 = 0
 ·obtain ⟨l1, m1⟩ := la_some h e
  obtain ⟨q, hq, hqa⟩ := tnN_lies h l1 n
  have e2 : (laR (tnN s n)).2 = 0 := Classical.byContradiction fun hc => (la_none hx hc).2 q hq
  obtain ⟨l2, m2⟩ := la_some hx e2
  obtain ⟨p, hp, hpa⟩ := tnN_bk h n l2
  have a := m2 q hq
  have b := m1 p hp
  exact ⟨by rw [e, e2], by omega⟩
 ·obtain ⟨l1, m1⟩ := la_none h e
  have e2 : (laR (tnN s n)).2 ≠ 0 := fun hc => by
   obtain ⟨p, hp, _⟩ := tnN_bk h n (la_some hx hc).1
   exact m1 p hp
  obtain ⟨l2, _⟩ := la_none hx e2
  rw [l1, l2]
  exact ⟨rfl, rfl⟩
theorem la_bd {s : Sh} (h : ShOk s) : 0 ≤ (laR s).1.h ∧ (laR s).1.h ≤ 6 ∧ 0 ≤ (laR s).1.w ∧ (laR s).1.w ≤ 6 := by
 by_cases e : (laR s).2 = 0
 ·have l := (la_some h e).1
  have := l.h; have := l.w; have := (sh_gok h).R; have := (sh_gok h).C
  omega
 ·rw [(la_none h e).1]
  show 0 ≤ pc0.h ∧ pc0.h ≤ 6 ∧ 0 ≤ pc0.w ∧ pc0.w ≤ 6
  decide
theorem md4 {n : Nat} (h : n ≤ 3) : Int.tmod (4 - (n : Int)) 4 = (((4 - n) % 4 : Nat) : Int) := by
 match n, h with
 | 0, _ => rfl
 | 1, _ => rfl
 | 2, _ => rfl
 | 3, _ => rfl
theorem tn_back {s : Sh} (h : Rct s) {n : Nat} (hn : n ≤ 3) : (tnN (tnN s n) ((4 - n) % 4)).rows = s.rows := by
 rw [tnN_add]
 match n, hn with
 | 0, _ => rfl
 | 1, _ => exact tn4 h
 | 2, _ => exact tn4 h
 | 3, _ => exact tn4 h
theorem ar66 {a b : Int} (ha : 0 ≤ a ∧ a ≤ 6) (hb : 0 ≤ b ∧ b ≤ 6) : 0 ≤ a * b ∧ a * b ≤ 36 :=
 ⟨Int.mul_nonneg ha.1 hb.1, Int.mul_le_mul (a := a) (b := b) (c := 6) (d := 6) ha.2 hb.2 hb.1 (by decide)⟩
end Go.Pm
namespace Go.Proofs.YtghomjjffllkeaaGreatDoor
open Go.Lw Go.Gl Go.Pm Go.RowKit Go.Shelf
set_option maxHeartbeats 1600000 in
theorem patchTurned_f (s : Sh) (T : Int) (hT : 0 ≤ T ∧ T ≤ 255) (V : View) (v : Value) (hv : ShV V v s) : Fnc Tryz.prog 11 [v, .int .u8 T] V fun r _ => r = .bool true := by
 obtain ⟨a, c, rfl, hs⟩ := id hv
 refine qf Tryz.func11 rfl Tryz.ntmps11 (Nat.le_of_ble_eq_true rfl) ?_
 intro w0 hw0
 refine At.nrm ?_
 refine At.zl (.n false 0 (.q 1 .done)) ?_
 refine AtT.jb ?_
 intro b2
 refine AtT.zf ?_
 refine AtT.done ?_
 refine At.nrm ?_
 by_cases gf : (!grB s && decide (chE s = 0)) = true
 rotate_left
 ·refine At.zl (.q 0 (.n false 1 (.q 2 .done))) ?_
  first | refine AtT.zD zM ?_ | refine AtT.zJ zM ?_ | refine AtT.zC zM ?_
  refine AtT.zq rfl rfl ok43 (fine_f s _ _ hv) ?_
  rintro _ rfl
  refine AtT.setB (d := 30) rfl ((fine_no gf)) ?_
  refine AtT.qZ ?_
  refine AtT.setB (d := 31) rfl ((show (!false) = true from rfl)) ?_
  refine AtT.done ?_
  refine At.nrm ?_
  refine At.qB rfl rfl ?_
  refine At.nrm ?_
  refine At.zl (.n false 0 (.q 1 .done)) ?_
  refine AtT.zq rfl rfl ok16 (works_f _) ?_
  rintro _ rfl
  refine AtT.zf ?_
  refine AtT.done ?_
  refine At.nrm ?_
  exact At.qb rfl (.tmp rfl) rfl
 obtain ⟨gg, h0⟩ := fine_ok gf
 have hok := jo h0
 obtain ⟨n, hn⟩ : ∃ n : Nat, Int.tmod T 4 = (n : Int) := ⟨(Int.tmod T 4).toNat, by have := Int.tmod_nonneg 4 hT.1; omega⟩
 have hn3 : n ≤ 3 := by have := Int.tmod_lt_of_pos T (b := 4) (by decide); omega
 have xok := tnN_ok hok n
 have x0 := chE_of xok
 have gx : (!grB (tnN s n) && decide (chE (tnN s n) = 0)) = true := by rw [gr_ok xok, x0]; rfl
 obtain ⟨m, hm⟩ : ∃ m : Nat, m = (4 - n) % 4 := ⟨_, rfl⟩
 have hm3 : m ≤ 3 := by omega
 have hmd : Int.tmod (4 - (n : Int)) 4 = (m : Int) := by rw [hm]; exact md4 hn3
 have yok := tnN_ok xok m
 have hyr : (tnN (tnN s n) m).rows = s.rows := by rw [hm]; exact tn_back (rct_ok hok) hn3
 have hym : (tnN (tnN s n) m).most = s.most := by rw [tnN_most, tnN_most]
 obtain ⟨j, hsa, hj⟩ := sa_tn h0 x0 hn3
 have htx := tuR_n h0 hn3
 have hty := tuR_n x0 hm3
 refine At.zl (.q 0 (.n false 1 (.q 2 .done))) ?_
 first | refine AtT.zD zM ?_ | refine AtT.zJ zM ?_ | refine AtT.zC zM ?_
 refine AtT.zq rfl rfl ok43 (fine_f s _ _ hv) ?_
 rintro _ rfl
 refine AtT.setB (d := 30) rfl (gf) ?_
 refine AtT.qZ ?_
 refine AtT.setB (d := 31) rfl ((show (!true) = false from rfl)) ?_
 refine AtT.done ?_
 refine At.nrm ?_
 refine At.qW rfl rfl ?_
 refine At.nrm ?_
 refine At.zl (.q 0 (.q 1 (.q 2 (.q 3 .done)))) ?_
 refine AtT.zh ?_
 refine AtT.krem ?_
 rw [hn]
 refine AtT.kconv un5 Tryz.underlying3 ?_
 rw [wrap_fit (Fit.of (by omega) (by omega))]
 refine AtT.zf ?_
 refine AtT.done ?_
 refine At.nrm ?_
 refine At.zl (.q 0 (.q 1 (.n false 2 (.q 3 (.q 4 (.q 5 (.n false 6 (.n true 7 (.q 8 .done))))))))) ?_
 first | refine AtT.zD zM ?_ | refine AtT.zJ zM ?_ | refine AtT.zC zM ?_
 refine AtT.zh ?_
 refine AtT.qg rfl rfl ok38 (turn_f s n _ _ hv) ?_
 rintro _ V39 hV39 ⟨u39, rfl, hu39⟩; rw [htx] at hu39; rw [htx]; obtain ⟨a39, c39, rfl, hxs⟩ := id hu39; dsimp only at hu39 hxs
 refine AtT.zh ?_
 refine AtT.zL ?_
 refine AtT.zL ?_
 refine AtT.qx z24 ?_
 intro b6
 refine AtT.zW zM ?_
 refine AtT.zf ?_
 refine AtT.done ?_
 refine At.nrm ?_
 have hvx : ∀ {W : View}, Sl W bse 1 (.slice a39 (tnN s n).rows.length c39) (tnN s n).rows → ShV W (.agg #[.slice a39 (tnN s n).rows.length c39, iv (tnN s n).most]) (tnN s n) := fun h => ⟨a39, c39, rfl, h⟩
 replace hv := hv.le hV39
 clear hV39 hu39
 refine At.zl (.q 0 (.q 1 (.q 2 (.q 3 (.n false 4 (.q 5 (.q 6 .done))))))) ?_
 refine AtT.zh ?_
 refine AtT.qH ?_
 refine AtT.qm (d := 43) rfl ((fun h => h rfl)) ?_
 refine AtT.zh ?_
 all_goals (first | refine AtT.kL 44 ?_ | refine AtT.zB (d := 44) rfl (fun hg44 => ?_) (fun hg44 => ?_) | refine AtT.zA (d := 44) rfl (fun hg44 => ?_) (fun hg44 => ?_))
 all_goals first|refine AtT.zg ?_|refine AtT.ze ?_|(first | refine AtT.zD zM ?_ | refine AtT.zJ zM ?_ | refine AtT.zC zM ?_)
 all_goals first|refine AtT.zP ?_|refine AtT.zI ?_|((refine AtT.zq rfl rfl ok43 (fine_f (tnN s n) _ _ (hvx hxs)) ?_) ; (rintro _ rfl))
 all_goals (refine AtT.setB (d := 46) rfl (gx) ?_)
 all_goals first|refine AtT.zg ?_|refine AtT.ze ?_|(refine AtT.qZ ?_)
 all_goals (refine AtT.setB (d := 47) rfl ((show (!true) = false from rfl)) ?_)
 all_goals (refine AtT.zz ?_)
 all_goals refine AtT.done ?_
 all_goals (refine At.nrm ?_)
 refine At.qW rfl rfl ?_
 refine At.nrm ?_
 refine At.zl (.q 0 (.q 1 (.q 2 (.q 3 (.n false 4 (.q 5 (.q 6 (.q 7 (.n false 8 (.n true 9 (.q 10 .done))))))))))) ?_
 first | refine AtT.zD zM ?_ | refine AtT.zJ zM ?_ | refine AtT.zC zM ?_
 refine AtT.zh ?_
 first | refine AtT.qD ?_ | refine AtT.qE ?_
 refine AtT.krem ?_
 rw [hmd]
 refine AtT.qg rfl rfl ok38 (turn_f (tnN s n) m _ _ (hvx hxs)) ?_
 rintro _ V54 hV54 ⟨u54, rfl, hu54⟩; rw [hty] at hu54; rw [hty]; obtain ⟨a54, c54, rfl, hys⟩ := id hu54; dsimp only at hu54 hys
 refine AtT.zh ?_
 refine AtT.zL ?_
 refine AtT.zL ?_
 refine AtT.qx z24 ?_
 intro b8
 refine AtT.zW zM ?_
 refine AtT.zf ?_
 refine AtT.done ?_
 refine At.nrm ?_
 have hvy : ∀ {W : View}, Sl W bse 1 (.slice a54 (tnN (tnN s n) m).rows.length c54) (tnN (tnN s n) m).rows → ShV W (.agg #[.slice a54 (tnN (tnN s n) m).rows.length c54, iv (tnN (tnN s n) m).most]) (tnN (tnN s n) m) := fun h => ⟨a54, c54, rfl, h⟩
 replace hv := hv.le hV54
 replace hxs := hxs.le hV54
 clear hV54 hu54
 refine At.zl (.q 0 (.q 1 (.n false 2 (.q 3 (.q 4 (.q 5 (.q 6 (.q 7 .done)))))))) ?_
 first | refine AtT.zD zM ?_ | refine AtT.zJ zM ?_ | refine AtT.zC zM ?_
 first | refine AtT.zD zM ?_ | refine AtT.zJ zM ?_ | refine AtT.zC zM ?_
 refine AtT.zq rfl rfl ok40 (same_f s (tnN s n) _ _ _ hv (hvx hxs)) ?_
 rintro _ rfl; rw [hsa]
 refine AtT.zh ?_
 refine AtT.zL ?_
 refine AtT.zL ?_
 refine AtT.zf ?_
 refine AtT.zf ?_
 refine AtT.done ?_
 refine At.nrm ?_
 refine At.zl (.q 0 (.n false 1 (.q 2 (.q 3 (.q 4 (.q 5 (.q 6 (.q 7 (.q 8 (.q 9 (.q 10 .done))))))))))) ?_
 first | refine AtT.zD zM ?_ | refine AtT.zJ zM ?_ | refine AtT.zC zM ?_
 refine AtT.qg rfl rfl ok45 (few_f s h0 _ _ hv) ?_
 rintro _ V65 hV65 ⟨a65, c65, ps, rfl, hs65, hmm⟩
 refine AtT.zh ?_
 refine AtT.zL ?_
 refine AtT.zL ?_
 refine AtT.zL ?_
 refine AtT.zL ?_
 refine AtT.zf ?_
 refine AtT.zf ?_
 refine AtT.zf ?_
 refine AtT.zf ?_
 refine AtT.done ?_
 refine At.nrm ?_
 replace hv := hv.le hV65
 replace hxs := hxs.le hV65
 replace hys := hys.le hV65
 clear hV65
 refine At.zl (.q 0 (.n false 1 (.q 2 (.q 3 (.q 4 (.q 5 (.q 6 (.q 7 (.q 8 (.q 9 (.q 10 .done))))))))))) ?_
 first | refine AtT.zD zM ?_ | refine AtT.zJ zM ?_ | refine AtT.zC zM ?_
 refine AtT.qg rfl rfl ok45 (few_f (tnN s n) x0 _ _ (hvx hxs)) ?_
 rintro _ V72 hV72 ⟨a72, c72, qs, rfl, hs72, hmx⟩
 refine AtT.zh ?_
 refine AtT.zL ?_
 refine AtT.zL ?_
 refine AtT.zL ?_
 refine AtT.zL ?_
 refine AtT.zf ?_
 refine AtT.zf ?_
 refine AtT.zf ?_
 refine AtT.zf ?_
 refine AtT.done ?_
 refine At.nrm ?_
 replace hv := hv.le hV72
 replace hxs := hxs.le hV72
 replace hys := hys.le hV72
 clear hV72
 obtain ⟨e1, e2⟩ := best_uniq hmx.best (tnN_best hok hmm.best n)
 refine At.zl (.q 0 (.q 1 (.q 2 (.q 3 (.n false 4 (.q 5 (.q 6 (.q 7 (.q 8 (.n false 9 (.q 10 (.q 11 (.q 12 (.q 13 (.q 14 (.q 15 (.q 16 (.q 17 (.q 18 (.q 19 (.q 20 (.q 21 (.q 22 (.q 23 (.q 24 (.q 25 (.q 26 (.q 27 (.q 28 (.q 29 (.q 30 (.q 31 (.q 32 (.q 33 (.q 34 (.q 35 (.q 36 (.q 37 (.q 38 (.q 39 (.q 40 (.q 41 (.q 42 .done))))))))))))))))))))))))))))))))))))))))))) ?_
 refine AtT.zh ?_
 refine AtT.qH ?_
 refine AtT.qm (d := 78) rfl ((fun h => h rfl)) ?_
 refine AtT.zh ?_
 all_goals (first | refine AtT.kL 79 ?_ | refine AtT.zB (d := 79) rfl (fun hg79 => ?_) (fun hg79 => ?_) | refine AtT.zA (d := 79) rfl (fun hg79 => ?_) (fun hg79 => ?_))
 all_goals first|refine AtT.zg ?_|refine AtT.ze ?_|(first | refine AtT.zD zM ?_ | refine AtT.zJ zM ?_ | refine AtT.zC zM ?_)
 all_goals first|refine AtT.zP ?_|refine AtT.zI ?_|((refine AtT.zq rfl rfl ok15 (great_f (tnN (tnN s n) m) _ _ (hvy hys)) ?_) ; (rintro _ rfl))
 all_goals (refine AtT.setB (d := 81) rfl ((gr_ok yok)) ?_)
 all_goals (refine AtT.zz ?_)
 all_goals (refine AtT.zh ?_)
 all_goals (first | refine AtT.kL 83 ?_ | refine AtT.zB (d := 83) rfl (fun hg83 => ?_) (fun hg83 => ?_) | refine AtT.zA (d := 83) rfl (fun hg83 => ?_) (fun hg83 => ?_))
 all_goals first|refine AtT.zg ?_|refine AtT.ze ?_|(first | refine AtT.zD zM ?_ | refine AtT.zJ zM ?_ | refine AtT.zC zM ?_)
 all_goals first|refine AtT.zg ?_|refine AtT.ze ?_|(first | refine AtT.zD zM ?_ | refine AtT.zJ zM ?_ | refine AtT.zC zM ?_)
 all_goals first|refine AtT.zP ?_|refine AtT.zI ?_|((refine AtT.zq rfl rfl ok42 (requal_f (tnN (tnN s n) m) s _ _ _ (hvy hys) hv) ?_) ; (rintro _ rfl))
 all_goals (refine AtT.qJ (d := 86) rfl (⟨hym, hyr⟩) ?_)
 all_goals first|refine AtT.zg ?_|refine AtT.ze ?_|(refine AtT.qZ ?_)
 all_goals (refine AtT.setB (d := 87) rfl ((show (!true) = false from rfl)) ?_)
 all_goals (refine AtT.zz ?_)
 all_goals (refine AtT.zh ?_)
 all_goals (first | refine AtT.kL 89 ?_ | refine AtT.zB (d := 89) rfl (fun hg89 => ?_) (fun hg89 => ?_) | refine AtT.zA (d := 89) rfl (fun hg89 => ?_) (fun hg89 => ?_))
 all_goals first|refine AtT.zg ?_|refine AtT.ze ?_|(refine AtT.zh ?_)
 all_goals first|refine AtT.zg ?_|refine AtT.ze ?_|(refine AtT.qH ?_)
 all_goals (refine AtT.qm (d := 91) rfl ((fun h => h rfl)) ?_)
 all_goals (refine AtT.zz ?_)
 all_goals (refine AtT.zh ?_)
 all_goals (first | refine AtT.kL 93 ?_ | refine AtT.zB (d := 93) rfl (fun hg93 => ?_) (fun hg93 => ?_) | refine AtT.zA (d := 93) rfl (fun hg93 => ?_) (fun hg93 => ?_))
 all_goals first|refine AtT.zg ?_|refine AtT.ze ?_|(refine AtT.zh ?_)
 all_goals first|refine AtT.zg ?_|refine AtT.ze ?_|(refine AtT.qa ?_)
 all_goals (refine AtT.qm (d := 95) rfl ((by omega)) ?_)
 all_goals (refine AtT.zz ?_)
 all_goals (refine AtT.zh ?_)
 all_goals (first | refine AtT.kL 97 ?_ | refine AtT.zB (d := 97) rfl (fun hg97 => ?_) (fun hg97 => ?_) | refine AtT.zA (d := 97) rfl (fun hg97 => ?_) (fun hg97 => ?_))
 all_goals first|refine AtT.zg ?_|refine AtT.ze ?_|(refine AtT.zh ?_)
 all_goals first|refine AtT.zg ?_|refine AtT.ze ?_|(refine AtT.zh ?_)
 all_goals first|refine AtT.zg ?_|refine AtT.ze ?_|(refine AtT.qw ?_)
 all_goals (refine AtT.qm (d := 100) rfl ((by omega)) ?_)
 all_goals (refine AtT.zz ?_)
 all_goals (refine AtT.zh ?_)
 all_goals (first | refine AtT.kL 102 ?_ | refine AtT.zB (d := 102) rfl (fun hg102 => ?_) (fun hg102 => ?_) | refine AtT.zA (d := 102) rfl (fun hg102 => ?_) (fun hg102 => ?_))
 all_goals first|refine AtT.zg ?_|refine AtT.ze ?_|(refine AtT.zh ?_)
 all_goals (refine AtT.setB (d := 103) rfl (rfl) ?_)
 all_goals first|refine AtT.zg ?_|refine AtT.ze ?_|(refine AtT.qZ ?_)
 all_goals (refine AtT.setB (d := 104) rfl ((show (!true) = false from rfl)) ?_)
 all_goals (refine AtT.zz ?_)
 all_goals (refine AtT.zh ?_)
 all_goals (first | refine AtT.kL 106 ?_ | refine AtT.zB (d := 106) rfl (fun hg106 => ?_) (fun hg106 => ?_) | refine AtT.zA (d := 106) rfl (fun hg106 => ?_) (fun hg106 => ?_))
 all_goals first|refine AtT.zg ?_|refine AtT.ze ?_|(refine AtT.zh ?_)
 all_goals (refine AtT.setB (d := 107) rfl (rfl) ?_)
 all_goals first|refine AtT.zg ?_|refine AtT.ze ?_|(refine AtT.qZ ?_)
 all_goals (refine AtT.setB (d := 108) rfl ((show (!true) = false from rfl)) ?_)
 all_goals (refine AtT.zz ?_)
 all_goals (refine AtT.zh ?_)
 all_goals (first | refine AtT.kL 110 ?_ | refine AtT.zB (d := 110) rfl (fun hg110 => ?_) (fun hg110 => ?_) | refine AtT.zA (d := 110) rfl (fun hg110 => ?_) (fun hg110 => ?_))
 all_goals first|refine AtT.zg ?_|refine AtT.ze ?_|(refine AtT.zh ?_)
 all_goals first|refine AtT.zg ?_|refine AtT.ze ?_|(refine AtT.zh ?_)
 all_goals first|refine AtT.zg ?_|refine AtT.ze ?_|(refine AtT.qH ?_)
 all_goals (refine AtT.qm (d := 113) rfl ((by omega)) ?_)
 all_goals (refine AtT.zz ?_)
 all_goals (refine AtT.zh ?_)
 all_goals (first | refine AtT.kL 115 ?_ | refine AtT.zB (d := 115) rfl (fun hg115 => ?_) (fun hg115 => ?_) | refine AtT.zA (d := 115) rfl (fun hg115 => ?_) (fun hg115 => ?_))
 all_goals first|refine AtT.zg ?_|refine AtT.ze ?_|(refine AtT.zh ?_)
 all_goals first|refine AtT.zg ?_|refine AtT.ze ?_|(refine AtT.zh ?_)
 all_goals first|refine AtT.zg ?_|refine AtT.ze ?_|(refine AtT.qH ?_)
 all_goals (refine AtT.qm (d := 118) rfl ((by omega)) ?_)
 all_goals (refine AtT.zz ?_)
 all_goals refine AtT.done ?_
 all_goals (refine At.nrm ?_)
 refine At.qW rfl rfl ?_
 refine At.nrm ?_
 refine At.zl (.q 0 (.n false 1 (.q 2 (.q 3 (.q 4 (.q 5 (.q 6 .done))))))) ?_
 first | refine AtT.zD zM ?_ | refine AtT.zJ zM ?_ | refine AtT.zC zM ?_
 refine AtT.qg rfl rfl ok28 (aloneP_f s _ _ hv) ?_
 rintro _ V122 hV122 ⟨u122, rfl, hu122⟩; rw [h0]
 refine AtT.zh ?_
 refine AtT.zL ?_
 refine AtT.zL ?_
 refine AtT.zf ?_
 refine AtT.zf ?_
 refine AtT.done ?_
 refine At.nrm ?_
 rw [if_pos h0] at hu122
 replace hv := hv.le hV122
 replace hxs := hxs.le hV122
 clear hV122 hys
 refine At.zl (.q 0 (.n false 1 (.q 2 (.q 3 (.q 4 (.q 5 (.q 6 .done))))))) ?_
 first | refine AtT.zD zM ?_ | refine AtT.zJ zM ?_ | refine AtT.zC zM ?_
 refine AtT.qg rfl rfl ok28 (aloneP_f (tnN s n) _ _ (hvx hxs)) ?_
 rintro _ V127 hV127 ⟨u127, rfl, hu127⟩; rw [x0]
 refine AtT.zh ?_
 refine AtT.zL ?_
 refine AtT.zL ?_
 refine AtT.zf ?_
 refine AtT.zf ?_
 refine AtT.done ?_
 refine At.nrm ?_
 rw [if_pos x0] at hu127
 replace hv := hv.le hV127
 replace hxs := hxs.le hV127
 replace hu122 := hu122.le hV127
 clear hV127
 have eA := alM_uniq (alM_of xok) (tnN_alM hok (alM_of hok) n)
 refine At.zl (.q 0 (.n false 1 (.q 2 (.q 3 (.q 4 (.q 5 (.q 6 .done))))))) ?_
 first | refine AtT.zD zM ?_ | refine AtT.zJ zM ?_ | refine AtT.zC zM ?_
 refine AtT.qg rfl rfl ok30 (partsP_f s _ _ hv) ?_
 rintro _ V132 hV132 ⟨u132, l1, rfl, hu132, hr132⟩; rw [h0]
 refine AtT.zh ?_
 refine AtT.zL ?_
 refine AtT.zL ?_
 refine AtT.zf ?_
 refine AtT.zf ?_
 refine AtT.done ?_
 refine At.nrm ?_
 replace hv := hv.le hV132
 replace hxs := hxs.le hV132
 replace hu122 := hu122.le hV132
 replace hu127 := hu127.le hV132
 clear hV132
 refine At.zl (.q 0 (.n false 1 (.q 2 (.q 3 (.q 4 (.q 5 (.q 6 .done))))))) ?_
 first | refine AtT.zD zM ?_ | refine AtT.zJ zM ?_ | refine AtT.zC zM ?_
 refine AtT.qg rfl rfl ok30 (partsP_f (tnN s n) _ _ (hvx hxs)) ?_
 rintro _ V137 hV137 ⟨u137, l2, rfl, hu137, hr137⟩; rw [x0]
 refine AtT.zh ?_
 refine AtT.zL ?_
 refine AtT.zL ?_
 refine AtT.zf ?_
 refine AtT.zf ?_
 refine AtT.done ?_
 refine At.nrm ?_
 replace hv := hv.le hV137
 replace hxs := hxs.le hV137
 replace hu122 := hu122.le hV137
 replace hu127 := hu127.le hV137
 replace hu132 := hu132.le hV137
 clear hV137
 obtain ⟨r1, hr1, hr1l⟩ := prt_len hok (pr_ok h0 hr132)
 obtain ⟨r2, hr2, hr2l⟩ := prt_len xok (pr_ok x0 hr137)
 obtain ⟨r3, hr3, hr3l⟩ := tnN_rps hok hr1 n
 have eP := rps_uniq hr2 hr3
 obtain ⟨a122, c122, rfl, k1', k2', _⟩ := id hu122
 obtain ⟨a127, c127, rfl, k1', k2', _⟩ := id hu127
 obtain ⟨q1, hq1, hq1l, _⟩ := id hu132
 obtain ⟨q2, hq2, hq2l, _⟩ := id hu137
 obtain ⟨a132, c132, rfl, k1', k2', _⟩ := id hq1
 obtain ⟨a137, c137, rfl, k1', k2', _⟩ := id hq2
 obtain ⟨le, la⟩ := la_tn hok n
 have lb1 := la_bd hok
 have lb2 := la_bd xok
 refine At.zl (.q 0 (.n false 1 (.q 2 (.q 3 (.q 4 (.n false 5 (.n true 6 (.q 7 .done)))))))) ?_
 first | refine AtT.zD zM ?_ | refine AtT.zJ zM ?_ | refine AtT.zC zM ?_
 refine AtT.zq rfl rfl ok36 (largest_f s _ _ hv) ?_
 rintro _ rfl
 refine AtT.zh ?_
 refine AtT.zL ?_
 refine AtT.zL ?_
 refine AtT.qx z26 ?_
 intro b25
 refine AtT.zW zS ?_
 refine AtT.zf ?_
 refine AtT.done ?_
 refine At.nrm ?_
 refine At.zl (.q 0 (.n false 1 (.q 2 (.q 3 (.q 4 (.n false 5 (.n true 6 (.q 7 .done)))))))) ?_
 first | refine AtT.zD zM ?_ | refine AtT.zJ zM ?_ | refine AtT.zC zM ?_
 refine AtT.zq rfl rfl ok36 (largest_f (tnN s n) _ _ (hvx hxs)) ?_
 rintro _ rfl
 refine AtT.zh ?_
 refine AtT.zL ?_
 refine AtT.zL ?_
 refine AtT.qx z26 ?_
 intro b27
 refine AtT.zW zS ?_
 refine AtT.zf ?_
 refine AtT.done ?_
 refine At.nrm ?_
 generalize laR s = L1 at *
 generalize laR (tnN s n) = L2 at *
 obtain ⟨p1, d1⟩ := L1
 obtain ⟨p2, d2⟩ := L2
 dsimp only at le la lb1 lb2
 have b1 := ar66 ⟨lb1.1, lb1.2.1⟩ ⟨lb1.2.2.1, lb1.2.2.2⟩
 have b2 := ar66 ⟨lb2.1, lb2.2.1⟩ ⟨lb2.2.2.1, lb2.2.2.2⟩
 have f1 : Fit (p1.h * p1.w) := Fit.of (by omega) (by omega)
 have f2 : Fit (p2.h * p2.w) := Fit.of (by omega) (by omega)
 have la' : p1.h * p1.w = p2.h * p2.w := la
 refine At.zl (.q 0 (.q 1 (.q 2 (.q 3 (.q 4 (.q 5 (.q 6 (.q 7 (.q 8 (.q 9 (.q 10 (.q 11 (.q 12 (.q 13 (.q 14 (.q 15 (.q 16 (.q 17 (.q 18 (.q 19 (.q 20 (.q 21 (.q 22 (.q 23 (.q 24 (.q 25 (.q 26 (.q 27 (.q 28 (.q 29 (.q 30 (.q 31 (.q 32 (.q 33 (.q 34 (.q 35 (.q 36 (.q 37 (.q 38 (.q 39 (.q 40 (.q 41 (.q 42 (.q 43 (.q 44 (.q 45 (.q 46 (.q 47 (.q 48 (.q 49 (.q 50 (.q 51 (.q 52 (.q 53 (.q 54 (.q 55 (.q 56 (.q 57 (.q 58 (.q 59 (.q 60 (.q 61 (.q 62 (.q 63 (.q 64 (.q 65 (.q 66 (.q 67 (.q 68 (.q 69 (.q 70 (.q 71 (.n false 72 (.q 73 (.q 74 .done))))))))))))))))))))))))))))))))))))))))))))))))))))))))))))))))))))))))))) ?_
 refine AtT.zh ?_
 refine AtT.jg ?_
 refine AtT.qJ (d := 151) rfl (rfl) ?_
 refine AtT.zh ?_
 all_goals (first | refine AtT.kL 152 ?_ | refine AtT.zB (d := 152) rfl (fun hg152 => ?_) (fun hg152 => ?_) | refine AtT.zA (d := 152) rfl (fun hg152 => ?_) (fun hg152 => ?_))
 all_goals first|refine AtT.zg ?_|refine AtT.ze ?_|(refine AtT.zh ?_)
 all_goals first|refine AtT.zg ?_|refine AtT.ze ?_|(refine AtT.jg ?_)
 all_goals (refine AtT.qJ (d := 154) rfl (rfl) ?_)
 all_goals (refine AtT.zz ?_)
 all_goals (refine AtT.zh ?_)
 all_goals (first | refine AtT.kL 156 ?_ | refine AtT.zB (d := 156) rfl (fun hg156 => ?_) (fun hg156 => ?_) | refine AtT.zA (d := 156) rfl (fun hg156 => ?_) (fun hg156 => ?_))
 all_goals first|refine AtT.zg ?_|refine AtT.ze ?_|(refine AtT.zh ?_)
 all_goals first|refine AtT.zg ?_|refine AtT.ze ?_|(first | refine AtT.zY Tryz.underlying39 ?_ | refine AtT.zZ Tryz.underlying39 ?_)
 all_goals first|refine AtT.zg ?_|refine AtT.ze ?_|(refine AtT.zh ?_)
 all_goals first|refine AtT.zg ?_|refine AtT.ze ?_|(first | refine AtT.zY Tryz.underlying39 ?_ | refine AtT.zZ Tryz.underlying39 ?_)
 all_goals first|refine AtT.zg ?_|refine AtT.ze ?_|(refine AtT.jg ?_)
 all_goals (refine AtT.qJ (d := 161) rfl ((by omega)) ?_)
 all_goals (refine AtT.zz ?_)
 all_goals (refine AtT.zh ?_)
 all_goals (first | refine AtT.kL 163 ?_ | refine AtT.zB (d := 163) rfl (fun hg163 => ?_) (fun hg163 => ?_) | refine AtT.zA (d := 163) rfl (fun hg163 => ?_) (fun hg163 => ?_))
 all_goals first|refine AtT.zg ?_|refine AtT.ze ?_|(refine AtT.zh ?_)
 all_goals first|refine AtT.zg ?_|refine AtT.ze ?_|(refine AtT.jg ?_)
 all_goals (refine AtT.qJ (d := 165) rfl (rfl) ?_)
 all_goals (refine AtT.zz ?_)
 all_goals (refine AtT.zh ?_)
 all_goals (first | refine AtT.kL 167 ?_ | refine AtT.zB (d := 167) rfl (fun hg167 => ?_) (fun hg167 => ?_) | refine AtT.zA (d := 167) rfl (fun hg167 => ?_) (fun hg167 => ?_))
 all_goals first|refine AtT.zg ?_|refine AtT.ze ?_|(refine AtT.zh ?_)
 all_goals first|refine AtT.zg ?_|refine AtT.ze ?_|(refine AtT.jg ?_)
 all_goals (refine AtT.qJ (d := 169) rfl (rfl) ?_)
 all_goals (refine AtT.zz ?_)
 all_goals (refine AtT.zh ?_)
 all_goals (first | refine AtT.kL 171 ?_ | refine AtT.zB (d := 171) rfl (fun hg171 => ?_) (fun hg171 => ?_) | refine AtT.zA (d := 171) rfl (fun hg171 => ?_) (fun hg171 => ?_))
 all_goals first|refine AtT.zg ?_|refine AtT.ze ?_|(refine AtT.zh ?_)
 all_goals first|refine AtT.zg ?_|refine AtT.ze ?_|(first | refine AtT.zY Tryz.underlying42 ?_ | refine AtT.zZ Tryz.underlying42 ?_)
 all_goals first|refine AtT.zg ?_|refine AtT.ze ?_|(refine AtT.zh ?_)
 all_goals first|refine AtT.zg ?_|refine AtT.ze ?_|(first | refine AtT.zY Tryz.underlying42 ?_ | refine AtT.zZ Tryz.underlying42 ?_)
 all_goals first|refine AtT.zg ?_|refine AtT.ze ?_|(refine AtT.jg ?_)
 all_goals (refine AtT.qJ (d := 176) rfl ((by omega)) ?_)
 all_goals (refine AtT.zz ?_)
 all_goals (refine AtT.zh ?_)
 all_goals (first | refine AtT.kL 178 ?_ | refine AtT.zB (d := 178) rfl (fun hg178 => ?_) (fun hg178 => ?_) | refine AtT.zA (d := 178) rfl (fun hg178 => ?_) (fun hg178 => ?_))
 all_goals first|refine AtT.zg ?_|refine AtT.ze ?_|(refine AtT.zh ?_)
 all_goals first|refine AtT.zg ?_|refine AtT.ze ?_|(refine AtT.zh ?_)
 all_goals first|refine AtT.zg ?_|refine AtT.ze ?_|(refine AtT.jg ?_)
 all_goals (refine AtT.qJ (d := 181) rfl (le) ?_)
 all_goals (refine AtT.zz ?_)
 all_goals (refine AtT.zh ?_)
 all_goals (first | refine AtT.kL 183 ?_ | refine AtT.zB (d := 183) rfl (fun hg183 => ?_) (fun hg183 => ?_) | refine AtT.zA (d := 183) rfl (fun hg183 => ?_) (fun hg183 => ?_))
 all_goals first|refine AtT.zg ?_|refine AtT.ze ?_|(first | refine AtT.zi zy ?_ | with_reducible refine AtT.zk zy ?_ | refine AtT.zn zy ?_)
 all_goals first|refine AtT.zg ?_|refine AtT.ze ?_|(first | refine AtT.zm tk3 ?_ | refine AtT.zo tk3 ?_)
 all_goals first|refine AtT.zg ?_|refine AtT.ze ?_|(refine AtT.kgeq ?_)
 all_goals (refine AtT.qJ (d := 186) rfl (lb1.1) ?_)
 all_goals (refine AtT.zz ?_)
 all_goals (refine AtT.zh ?_)
 all_goals (first | refine AtT.kL 188 ?_ | refine AtT.zB (d := 188) rfl (fun hg188 => ?_) (fun hg188 => ?_) | refine AtT.zA (d := 188) rfl (fun hg188 => ?_) (fun hg188 => ?_))
 all_goals first|refine AtT.zg ?_|refine AtT.ze ?_|(first | refine AtT.zi zy ?_ | with_reducible refine AtT.zk zy ?_ | refine AtT.zn zy ?_)
 all_goals first|refine AtT.zg ?_|refine AtT.ze ?_|(first | refine AtT.zm tk3 ?_ | refine AtT.zo tk3 ?_)
 all_goals first|refine AtT.zg ?_|refine AtT.ze ?_|(refine AtT.kleq ?_)
 all_goals (refine AtT.qJ (d := 191) rfl (lb1.2.1) ?_)
 all_goals (refine AtT.zz ?_)
 all_goals (refine AtT.zh ?_)
 all_goals (first | refine AtT.kL 193 ?_ | refine AtT.zB (d := 193) rfl (fun hg193 => ?_) (fun hg193 => ?_) | refine AtT.zA (d := 193) rfl (fun hg193 => ?_) (fun hg193 => ?_))
 all_goals first|refine AtT.zg ?_|refine AtT.ze ?_|(first | refine AtT.zi zx ?_ | with_reducible refine AtT.zk zx ?_ | refine AtT.zn zx ?_)
 all_goals first|refine AtT.zg ?_|refine AtT.ze ?_|(first | refine AtT.zm tk3 ?_ | refine AtT.zo tk3 ?_)
 all_goals first|refine AtT.zg ?_|refine AtT.ze ?_|(refine AtT.kleq ?_)
 all_goals (refine AtT.qJ (d := 196) rfl (lb1.2.2.2) ?_)
 all_goals (refine AtT.zz ?_)
 all_goals (refine AtT.zh ?_)
 all_goals (first | refine AtT.kL 198 ?_ | refine AtT.zB (d := 198) rfl (fun hg198 => ?_) (fun hg198 => ?_) | refine AtT.zA (d := 198) rfl (fun hg198 => ?_) (fun hg198 => ?_))
 all_goals first|refine AtT.zg ?_|refine AtT.ze ?_|(first | refine AtT.zi zy ?_ | with_reducible refine AtT.zk zy ?_ | refine AtT.zn zy ?_)
 all_goals first|refine AtT.zg ?_|refine AtT.ze ?_|(first | refine AtT.zm tk3 ?_ | refine AtT.zo tk3 ?_)
 all_goals first|refine AtT.zg ?_|refine AtT.ze ?_|(refine AtT.kleq ?_)
 all_goals (refine AtT.qJ (d := 201) rfl (lb2.2.1) ?_)
 all_goals (refine AtT.zz ?_)
 all_goals (refine AtT.zh ?_)
 all_goals (first | refine AtT.kL 203 ?_ | refine AtT.zB (d := 203) rfl (fun hg203 => ?_) (fun hg203 => ?_) | refine AtT.zA (d := 203) rfl (fun hg203 => ?_) (fun hg203 => ?_))
 all_goals first|refine AtT.zg ?_|refine AtT.ze ?_|(first | refine AtT.zi zx ?_ | with_reducible refine AtT.zk zx ?_ | refine AtT.zn zx ?_)
 all_goals first|refine AtT.zg ?_|refine AtT.ze ?_|(first | refine AtT.zm tk3 ?_ | refine AtT.zo tk3 ?_)
 all_goals first|refine AtT.zg ?_|refine AtT.ze ?_|(refine AtT.kleq ?_)
 all_goals (refine AtT.qJ (d := 206) rfl (lb2.2.2.2) ?_)
 all_goals (refine AtT.zz ?_)
 all_goals (refine AtT.zh ?_)
 all_goals (first | refine AtT.kL 208 ?_ | refine AtT.zB (d := 208) rfl (fun hg208 => ?_) (fun hg208 => ?_) | refine AtT.zA (d := 208) rfl (fun hg208 => ?_) (fun hg208 => ?_))
 all_goals first|refine AtT.zg ?_|refine AtT.ze ?_|(first | refine AtT.zi zy ?_ | with_reducible refine AtT.zk zy ?_ | refine AtT.zn zy ?_)
 all_goals first|refine AtT.zg ?_|refine AtT.ze ?_|(first | refine AtT.zm tk3 ?_ | refine AtT.zo tk3 ?_)
 all_goals first|refine AtT.zg ?_|refine AtT.ze ?_|(first | refine AtT.zi zx ?_ | with_reducible refine AtT.zk zx ?_ | refine AtT.zn zx ?_)
 all_goals first|refine AtT.zg ?_|refine AtT.ze ?_|(first | refine AtT.zm tk3 ?_ | refine AtT.zo tk3 ?_)
 all_goals first|refine AtT.zg ?_|refine AtT.ze ?_|(first | refine AtT.kmul ?_ | refine AtT.kmulW ?_)
 all_goals first|refine AtT.zg ?_|refine AtT.ze ?_|(first | refine AtT.zi zy ?_ | with_reducible refine AtT.zk zy ?_ | refine AtT.zn zy ?_)
 all_goals first|refine AtT.zg ?_|refine AtT.ze ?_|(first | refine AtT.zm tk3 ?_ | refine AtT.zo tk3 ?_)
 all_goals first|refine AtT.zg ?_|refine AtT.ze ?_|(first | refine AtT.zi zx ?_ | with_reducible refine AtT.zk zx ?_ | refine AtT.zn zx ?_)
 all_goals first|refine AtT.zg ?_|refine AtT.ze ?_|(first | refine AtT.zm tk3 ?_ | refine AtT.zo tk3 ?_)
 all_goals first|refine AtT.zg ?_|refine AtT.ze ?_|(first | refine AtT.kmul ?_ | refine AtT.kmulW ?_)
 all_goals first|refine AtT.zg ?_|refine AtT.ze ?_|(refine AtT.jg ?_)
 all_goals (refine AtT.qJ (d := 219) rfl (la') ?_)
 all_goals (refine AtT.zz ?_)
 all_goals (refine AtT.zh ?_)
 all_goals (first | refine AtT.kL 221 ?_ | refine AtT.zB (d := 221) rfl (fun hg221 => ?_) (fun hg221 => ?_) | refine AtT.zA (d := 221) rfl (fun hg221 => ?_) (fun hg221 => ?_))
 all_goals first|refine AtT.zP ?_|refine AtT.zI ?_|((refine AtT.zq rfl rfl ok16 (works_f _) ?_) ; (rintro _ rfl))
 all_goals (refine AtT.zz ?_)
 all_goals (refine AtT.zf ?_)
 all_goals refine AtT.done ?_
 all_goals (refine At.nrm ?_)
 exact At.qb rfl (.tmp rfl) rfl
end Go.Proofs.YtghomjjffllkeaaGreatDoor
set_option linter.unusedVariables false
namespace Go.Proofs.YtghomjjffllkeaaGreatDoor.c9
open Go.Lw Go.Gl Go.Pm Go.RowKit Go.ChangeShapes Go.WideShapes Go.ChangeAt
set_option maxRecDepth 100000 in
theorem lifted (os : Os) (started : os.Started) (H : Type) (enc : TypeId × Value → H) :
    ReturnsInHanded {} Tryz.checked os 11 .any (fun w args => (Rows.patchTurnedSpec.pre enc Tryz.prog Tryz.f11 [] false w args ∧ laidMetH Tryz.prog seatLaid w) ∧ sizedMet enc Tryz.prog Tryz.f11 (OpenSpec.ofChange Rows.patchTurnedSpec) false w args) (Rows.patchTurnedSpec.post enc Tryz.prog Tryz.f11 false true false false) := by
  refine law_liftL (tb := 4) (laid := seatLaid) (fun ds hd => by match ds, hd with | [d0, d1], _ => rfl) rfl (by kernel_rfl) Tryz.underlying4 laidOut (by kernel_rfl) own started (by kernel_rfl) Tryz.func11
    (ChangeSpec.witness_shaped (enc := enc) (C := Tryz.checked) (os := os) (X := fun w _ => laidMetH Tryz.prog seatLaid w) false (World.laidAll Tryz.prog os seatLaid) #[.agg #[.slice none 0 0, .int .i64 0], .int .u8 0] 8 (World.laidAll_os _ _ _)
      (World.shaped_of_ZipB (by kernel_rfl) (by kernel_rfl)) (by kernel_rfl) (by kernel_rfl) (by kernel_rfl) (seat_laid os _)) ?_
  intro W base args ds ps hval hA
  rw [Tryz.params11] at hA hval
  obtain ⟨v0, vs0, d0, ds0, p0, q0, hargs, rfl, rfl, h0, r0⟩ := trodAll_cons hA
  obtain ⟨v1, vs1, d1, ds1, p1, q1, rfl, rfl, rfl, h1, r1⟩ := trodAll_cons r0
  obtain ⟨rfl, rfl, rfl⟩ := trodAll_nil r1
  obtain rfl : args = #[v0, v1] := by cases args; simp_all
  obtain ⟨s0, k0⟩ := open_sheet (hval 0 24 v0 rfl rfl) h0
  obtain ⟨x1, rfl, _, _, w1⟩ := open_int Tryz.underlying5 (hval 1 5 v1 rfl rfl) h1
  have b1 := bd_u8 w1
  exact ⟨[v0, .int .u8 x1], rfl, patchTurned_f s0 x1 b1 _ _ k0⟩

theorem over : Rows.patchTurnedRow.holds Tryz.pinned (OpenSpec.ofChange Rows.patchTurnedSpec) :=
  OpenClaim.holds_of_wide 11 Tryz.f11 rfl rfl rfl rfl rfl rfl rfl ⟨rfl, rfl, rfl, rfl, rfl⟩ rfl rfl rfl rfl rfl (by kernel_rfl) Tryz.func11 (by kernel_rfl)
    (of_decide_eq_true (by kernel_rfl)) (by unfold Func.isWrapper; first | (rw [if_pos (by decide +kernel)]; kernel_rfl) | (rw [if_neg (by decide +kernel)]; exact ⟨rfl, rfl⟩))
    (fun os started H enc _ => lifted os started H enc)

theorem proved : Rows.PatchTurnedCardSaid :=
  Claim7.holds_tied_plain_at .later [] [.data, .pinned] true (true, "0d2a6361d0117277170b6b99c938bda2455ed98009332320e2a28814b9346cbd") false over (fun _ h => by cases h) (by kernel_rfl) (fun _ h => by cases h) patchTurned_row_tie rfl ⟨rfl, rfl⟩ (by kernel_rfl) rfl
    (fun f fn hf hfn => by
      obtain rfl : f = 11 := Option.some.inj ((show Tryz.prog.funcNamed "crossband/crossbandlaw04.PatchTurned" = some 11 by kernel_rfl).symm.trans hf) |>.symm
      obtain rfl : fn = Tryz.f11 := (Option.some.inj (Tryz.func11.symm.trans hfn)).symm
      exact ⟨by kernel_rfl, fun j t ht => by
        rw [Tryz.params11] at ht
        have hm : t ∈ [24, 5] := by simpa using Array.mem_of_getElem? ht
        have hall : ([24, 5].all fun u => !Tryz.prog.wantsStandIn u) = true := by kernel_rfl
        exact (show Tryz.prog.wantsStandIn t = false by simpa using List.all_eq_true.1 hall t hm)⟩)
    (by kernel_rfl)
#print axioms proved
end Go.Proofs.YtghomjjffllkeaaGreatDoor.c9
