/- Two sheets with as many rows, and the same Most, side by side with a column of figure between them, need as many patches, and cells, as both; as many knots are alone, and there are as many parts: for all pairs of valid sheets. No condition. -/
import Derived.Test.YtghomjjffllkeaaGreatDoorB6
set_option linter.unusedVariables false
set_option linter.unusedSimpArgs false
set_option linter.unusedSectionVars false
set_option linter.unusedVariables false
namespace Go.Lw
open Go.RowKit
section
variable {cx : Cx} {n : Nat} {ks : List (Nat × Value)} {O : List Own} {V : View} {P : Program} {ops : Array Oper} {Qn : Act → World → Prop} {t : Tr} {i d : Nat} {T : TypeId} {pos : String} {after : Array Edge} {gd : Option (Nat × Bool)} {X Z : TypeId} {x y : Operand} {p q : Int}
end
end Go.Lw
set_option linter.unusedVariables false
namespace Go.Proofs.YtghomjjffllkeaaGreatDoor
open Go.Lw Go.Gl Go.Pm Go.RowKit Go.Shelf
end Go.Proofs.YtghomjjffllkeaaGreatDoor
set_option linter.unusedVariables false
namespace Go.Pm
open Go.Gl Go.Lw
theorem arL_app (a b : List Pc) : arL (a ++ b) = arL a + arL b := by unfold arL; rw [List.map_append, List.sum_append]
theorem arL_split (f : Pc → Bool) : ∀ ps : List Pc, arL (ps.filter f) + arL (ps.filter fun p => !f p) = arL ps
 | [] => rfl
 | p :: ps => by
  have ih := arL_split f ps
  unfold arL at *
  cases h : f p with
  | true => rw [List.filter_cons_of_pos h, List.filter_cons_of_neg (by simp [h]), List.map_cons, List.sum_cons, List.map_cons, List.sum_cons]; omega
  | false => rw [List.filter_cons_of_neg (by simp [h]), List.filter_cons_of_pos (by simp [h]), List.map_cons, List.sum_cons, List.map_cons, List.sum_cons]; omega
theorem len_split {α : Type} (f : α → Bool) : ∀ ps : List α, (ps.filter f).length + (ps.filter fun p => !f p).length = ps.length
 | [] => rfl
 | p :: ps => by
  have ih := len_split f ps
  cases h : f p with
  | true => rw [List.filter_cons_of_pos h, List.filter_cons_of_neg (by simp [h]), List.length_cons, List.length_cons]; omega
  | false => rw [List.filter_cons_of_neg (by simp [h]), List.filter_cons_of_pos (by simp [h]), List.length_cons, List.length_cons]; omega
def Apt (g : Gd) (A B : List Cl) : Prop := ∀ a ∈ A, ∀ b ∈ B, ∀ p, Lies g p → inP p a → inP p b → False
theorem best_sum {g : Gd} {A B : List Cl} {n m : Nat} {c d : Int} (hd : Apt g A B) (hA : jA g A n c) (hB : jA g B m d) : jA g (A ++ B) (n + m) (c + d) := by
 obtain ⟨ps, p1, p2, p3⟩ := hA.ex
 obtain ⟨qs, q1, q2, q3⟩ := hB.ex
 refine ⟨⟨ps ++ qs, ⟨fun p hp => ?_, fun k hk => ?_⟩, by rw [List.length_append]; omega, by rw [arL_app]; omega⟩, fun rs hr => ?_⟩
 ·rcases List.mem_append.1 hp with h | h
  ·exact p1.lies p h
  ·exact q1.lies p h
 ·rcases List.mem_append.1 hk with h | h
  ·obtain ⟨p, hp, hi⟩ := p1.has k h; exact ⟨p, List.mem_append_left _ hp, hi⟩
  ·obtain ⟨p, hp, hi⟩ := q1.has k h; exact ⟨p, List.mem_append_right _ hp, hi⟩
 ·have ha := hA.le (rs.filter fun p => A.any fun k => decide (inP p k)) ⟨fun p hp => hr.lies p (List.mem_filter.1 hp).1, fun k hk => by
   obtain ⟨p, hp, hi⟩ := hr.has k (List.mem_append_left _ hk)
   exact ⟨p, List.mem_filter.2 ⟨hp, List.any_eq_true.2 ⟨k, hk, decide_eq_true hi⟩⟩, hi⟩⟩
  have hb := hB.le (rs.filter fun p => !A.any fun k => decide (inP p k)) ⟨fun p hp => hr.lies p (List.mem_filter.1 hp).1, fun k hk => by
   obtain ⟨p, hp, hi⟩ := hr.has k (List.mem_append_right _ hk)
   refine ⟨p, List.mem_filter.2 ⟨hp, ?_⟩, hi⟩
   cases h : A.any fun k => decide (inP p k) with
   | false => rfl
   | true =>
    obtain ⟨x, hx, hd'⟩ := List.any_eq_true.1 h
    exact (hd x hx k hk p (hr.lies p hp) (of_decide_eq_true hd') hi).elim⟩
  have e1 := len_split (fun p => A.any fun k => decide (inP p k)) rs
  have e2 := arL_split (fun p => A.any fun k => decide (inP p k)) rs
  omega
def ShC (g : Gd) (a b : Cl) : Prop := ∃ p, Lies g p ∧ inP p a ∧ inP p b
theorem shC_symm {g : Gd} {a b : Cl} (h : ShC g a b) : ShC g b a := by obtain ⟨p, h1, h2, h3⟩ := h; exact ⟨p, h1, h3, h2⟩
theorem sh_iff {g : Gd} (hg : GOk g) {K : List Cl} (hon : ∀ k ∈ K, OnG g k) {i k : Nat} {a b : Cl} (ha : K[i]? = some a) (hb : K[k]? = some b) : shN g K i k = true ↔ ShC g a b := by
 constructor
 ·intro h
  unfold shN at h
  rw [decide_eq_true_eq, jB] at h
  exact ⟨_, h, bbx_in ((two_mem ha hb a).2 (.inl rfl)), bbx_in ((two_mem ha hb b).2 (.inr rfl))⟩
 ·rintro ⟨p, h1, h2, h3⟩
  exact sh_of hg hon ha hb h1 h2 h3
theorem len_sub {α : Type} [DecidableEq α] : ∀ {l m : List α}, l.Nodup → (∀ x ∈ l, x ∈ m) → l.length ≤ m.length := by
 intro l
 induction l with
 | nil => intro m _ _; exact Nat.zero_le _
 | cons a l ih =>
  intro m hn h
  have hn' := List.nodup_cons.1 hn
  have ha := h a List.mem_cons_self
  have := ih (m := m.erase a) hn'.2 fun x hx => (List.mem_erase_of_ne (fun e => by subst e; exact hn'.1 hx)).2 (h x (List.mem_cons_of_mem _ hx))
  rw [List.length_erase_of_mem ha] at this
  have := List.length_pos_of_mem ha
  rw [List.length_cons]; omega
def AlC (g : Gd) (K l : List Cl) : Prop := l.Pairwise (fun a b => ¬ ShC g a b) ∧ l.Nodup ∧ ∀ x ∈ l, x ∈ K
structure AlM (g : Gd) (K : List Cl) (m : Nat) : Prop where
 ex : ∃ l, AlC g K l ∧ l.length = m
 le : ∀ l, AlC g K l → l.length ≤ m
theorem alM_uniq {g : Gd} {K : List Cl} {m n : Nat} (h : AlM g K m) (k : AlM g K n) : m = n := by
 obtain ⟨l, h1, h2⟩ := h.ex
 obtain ⟨l', k1, k2⟩ := k.ex
 have := h.le _ k1; have := k.le _ h1
 omega
theorem alM_mem {g : Gd} {K K' : List Cl} {m : Nat} (h : AlM g K m) (hs : ∀ k, k ∈ K ↔ k ∈ K') : AlM g K' m := by
 obtain ⟨l, h1, h2⟩ := h.ex
 exact ⟨⟨l, ⟨h1.1, h1.2.1, fun x hx => (hs x).1 (h1.2.2 x hx)⟩, h2⟩, fun l hl => h.le l ⟨hl.1, hl.2.1, fun x hx => (hs x).2 (hl.2.2 x hx)⟩⟩
theorem alM_sum {g : Gd} {A B : List Cl} {m n : Nat} (hd : Apt g A B) (hx : ∀ x ∈ A, x ∉ B) (hA : AlM g A m) (hB : AlM g B n) : AlM g (A ++ B) (m + n) := by
 obtain ⟨l, h1, h2⟩ := hA.ex
 obtain ⟨l', k1, k2⟩ := hB.ex
 refine ⟨⟨l ++ l', ⟨List.pairwise_append.2 ⟨h1.1, k1.1, fun a ha b hb ⟨p, p1, p2, p3⟩ => hd a (h1.2.2 a ha) b (k1.2.2 b hb) p p1 p2 p3⟩, ?_, fun x hx => ?_⟩, by rw [List.length_append]; omega⟩, fun r hr => ?_⟩
 ·exact List.nodup_append.2 ⟨h1.2.1, k1.2.1, fun a ha b hb e => by subst e; exact hx a (h1.2.2 a ha) (k1.2.2 a hb)⟩
 ·rcases List.mem_append.1 hx with h | h
  ·exact List.mem_append_left _ (h1.2.2 x h)
  ·exact List.mem_append_right _ (k1.2.2 x h)
 ·have a := hA.le (r.filter fun x => decide (x ∈ A)) ⟨hr.1.filter _, hr.2.1.filter _, fun x hx => of_decide_eq_true (List.mem_filter.1 hx).2⟩
  have b := hB.le (r.filter fun x => !decide (x ∈ A)) ⟨hr.1.filter _, hr.2.1.filter _, fun x hx => by
   have h := List.mem_filter.1 hx
   have h2 : x ∉ A := by simpa using h.2
   rcases List.mem_append.1 (hr.2.2 x h.1) with h3 | h3
   ·exact absurd h3 h2
   ·exact h3⟩
  have := len_split (fun x => decide (x ∈ A)) r
  omega
theorem al_cells {g : Gd} (hg : GOk g) {K : List Cl} (hon : ∀ k ∈ K, OnG g k) (hnd : K.Nodup) : ∀ {l : List Int}, Al K.length (shI g K) l → ∃ m, AlC g K m ∧ m.length = l.length ∧ ∀ x ∈ m, ∃ i ∈ l, K[i.toNat]? = some x := by
 intro l
 induction l with
 | nil => intro _; exact ⟨[], ⟨List.Pairwise.nil, List.nodup_nil, fun x hx => by cases hx⟩, rfl, fun x hx => by cases hx⟩
 | cons i l ih =>
  rintro ⟨h1, h2⟩
  have h1' := List.pairwise_cons.1 h1
  obtain ⟨m, m1, m2, m3⟩ := ih ⟨h1'.2, fun x hx => h2 x (List.mem_cons_of_mem _ hx)⟩
  have hi := h2 i List.mem_cons_self
  obtain ⟨a, ha⟩ : ∃ a, K[i.toNat]? = some a := ⟨_, List.getElem?_eq_getElem (by omega)⟩
  refine ⟨a :: m, ⟨List.pairwise_cons.2 ⟨fun b hb hs => ?_, m1.1⟩, List.nodup_cons.2 ⟨fun hc => ?_, m1.2.1⟩, fun x hx => ?_⟩, by simp [m2], fun x hx => ?_⟩
  ·obtain ⟨j, hj, hjb⟩ := m3 b hb
   have h3 := (h1'.1 j hj).2
   unfold shI at h3
   rw [(sh_iff hg hon ha hjb).2 hs] at h3
   cases h3
  ·obtain ⟨j, hj, hjb⟩ := m3 a hc
   have h3 := h1'.1 j hj
   have h4 := h2 j (List.mem_cons_of_mem _ hj)
   have := (List.getElem?_inj (by omega) hnd).1 (ha.trans hjb.symm)
   omega
  ·rcases List.mem_cons.1 hx with rfl | hx
   ·exact List.mem_of_getElem? ha
   ·exact m1.2.2 x hx
  ·rcases List.mem_cons.1 hx with rfl | hx
   ·exact ⟨i, List.mem_cons_self, ha⟩
   ·obtain ⟨j, hj, e⟩ := m3 x hx; exact ⟨j, List.mem_cons_of_mem _ hj, e⟩
theorem al_of_cells {g : Gd} (hg : GOk g) {K : List Cl} (hon : ∀ k ∈ K, OnG g k) (hnd : K.Nodup) {m : List Cl} (h : AlC g K m) : ∃ l, Al K.length (shI g K) l ∧ m.length ≤ l.length := by
 refine ⟨((List.range K.length).filter fun i => m.any fun x => decide (K[i]? = some x)).map (fun i : Nat => (i : Int)), ⟨?_, fun x hx => ?_⟩, ?_⟩
 ·rw [List.pairwise_map]
  have hin : ∀ i ∈ (List.range K.length).filter (fun i => m.any fun x => decide (K[i]? = some x)), ∃ x ∈ m, K[i]? = some x := fun i hi => by
   obtain ⟨x, hx, e⟩ := List.any_eq_true.1 (List.mem_filter.1 hi).2
   exact ⟨x, hx, of_decide_eq_true e⟩
  have hp : ((List.range K.length).filter (fun i => m.any fun x => decide (K[i]? = some x))).Pairwise (· < ·) := List.pairwise_lt_range.filter _
  refine hp.imp_of_mem fun {a b} ha hb hab => ⟨by omega, ?_⟩
  obtain ⟨x, hx, ex⟩ := hin a ha
  obtain ⟨y, hy, ey⟩ := hin b hb
  unfold shI
  rw [Int.toNat_natCast, Int.toNat_natCast]
  cases c : shN g K a b with
  | false => rfl
  | true =>
   have hs := (sh_iff hg hon ex ey).1 c
   by_cases e : x = y
   ·subst e
    have hal : a < K.length := List.mem_range.1 (List.mem_filter.1 ha).1
    have := (List.getElem?_inj hal hnd).1 (ex.trans ey.symm)
    omega
   ·exact absurd hs (by
     have : ∀ {m : List Cl}, m.Pairwise (fun a b => ¬ ShC g a b) → ∀ x ∈ m, ∀ y ∈ m, x ≠ y → ¬ ShC g x y := by
      intro m
      induction m with
      | nil => intro _ x hx; cases hx
      | cons z m ih =>
       intro hp x hx y hy hne
       have hp' := List.pairwise_cons.1 hp
       rcases List.mem_cons.1 hx with rfl | hx' <;> rcases List.mem_cons.1 hy with rfl | hy'
       ·exact absurd rfl hne
       ·exact hp'.1 y hy'
       ·exact fun hs => hp'.1 x hx' (shC_symm hs)
       ·exact ih hp'.2 x hx' y hy' hne
     exact this h.1 x hx y hy e)
 ·obtain ⟨i, hi, rfl⟩ := List.mem_map.1 hx
  have := List.mem_range.1 (List.mem_filter.1 hi).1
  omega
 ·rw [List.length_map]
  have := len_sub (m := ((List.range K.length).filter fun i => m.any fun x => decide (K[i]? = some x)).map fun i => K.getD i ⟨0, 0⟩) h.2.1 fun x hx => by
   obtain ⟨i, hi⟩ := List.getElem?_of_mem (h.2.2 x hx)
   refine List.mem_map.2 ⟨i, List.mem_filter.2 ⟨List.mem_range.2 (List.getElem?_eq_some_iff.1 hi).1, List.any_eq_true.2 ⟨x, hx, decide_eq_true hi⟩⟩, ?_⟩
   simp [List.getD, hi]
  rwa [List.length_map] at this
theorem alM_first {g : Gd} (hg : GOk g) {K : List Cl} (hon : ∀ k ∈ K, OnG g k) (hnd : K.Nodup) {r : List Int} (h : FirstS K.length (shI g K) r) : AlM g K r.length := by
 obtain ⟨m, m1, m2, _⟩ := al_cells hg hon hnd h.1
 refine ⟨⟨m, m1, m2⟩, fun l hl => ?_⟩
 obtain ⟨l', h1, h2⟩ := al_of_cells hg hon hnd hl
 have := h.2 l' h1
 omega
inductive RcC (g : Gd) (K : List Cl) (a : Cl) : Cl → Prop
 | refl : RcC g K a a
 | step {b c : Cl} : RcC g K a b → c ∈ K → ShC g b c → RcC g K a c
theorem rcC_in {g : Gd} {K : List Cl} {a b : Cl} (ha : a ∈ K) (h : RcC g K a b) : b ∈ K := by
 cases h with
 | refl => exact ha
 | step _ hk _ => exact hk
theorem rcC_trans {g : Gd} {K : List Cl} {a b c : Cl} (h : RcC g K a b) (k : RcC g K b c) : RcC g K a c := by
 induction k with
 | refl => exact h
 | step _ hk hs ih => exact .step ih hk hs
theorem rcC_symm {g : Gd} {K : List Cl} {a b : Cl} (ha : a ∈ K) (h : RcC g K a b) : RcC g K b a := by
 induction h with
 | refl => exact .refl
 | step h1 hk hs ih => exact rcC_trans (.step .refl (rcC_in ha h1) (shC_symm hs)) ih
theorem rcC_mem {g : Gd} {K K' : List Cl} {a b : Cl} (hs : ∀ k ∈ K, k ∈ K') (h : RcC g K a b) : RcC g K' a b := by
 induction h with
 | refl => exact .refl
 | step _ hk hh ih => exact .step ih (hs _ hk) hh
structure Rps (g : Gd) (K l : List Cl) : Prop where
 sub : ∀ x ∈ l, x ∈ K
 apart : l.Pairwise fun a b => ¬ RcC g K a b
 all : ∀ k ∈ K, ∃ x ∈ l, RcC g K x k
theorem rps_len {g : Gd} {K l m : List Cl} (h : Rps g K l) (k : Rps g K m) : l.length ≤ m.length := by
 have key : ∀ l : List Cl, (∀ x ∈ l, x ∈ K) → l.Pairwise (fun a b => ¬ RcC g K a b) → ∃ r : List Cl, r.length = l.length ∧ r.Nodup ∧ ∀ y ∈ r, y ∈ m ∧ ∃ x ∈ l, RcC g K y x := by
  intro l
  induction l with
  | nil => intro _ _; exact ⟨[], rfl, List.nodup_nil, fun x hx => by cases hx⟩
  | cons x l ih =>
   intro h1 h2
   have h2' := List.pairwise_cons.1 h2
   obtain ⟨r, r1, r2, r3⟩ := ih (fun y hy => h1 y (List.mem_cons_of_mem _ hy)) h2'.2
   obtain ⟨y, hy, hyx⟩ := k.all x (h1 x List.mem_cons_self)
   refine ⟨y :: r, by simp [r1], List.nodup_cons.2 ⟨fun hc => ?_, r2⟩, fun z hz => ?_⟩
   ·obtain ⟨_, x', hx', e⟩ := r3 y hc
    exact h2'.1 x' hx' (rcC_trans (rcC_symm (k.sub y hy) hyx) e)
   ·rcases List.mem_cons.1 hz with rfl | hz
    ·exact ⟨hy, x, List.mem_cons_self, hyx⟩
    ·obtain ⟨a, x', hx', e⟩ := r3 z hz
     exact ⟨a, x', List.mem_cons_of_mem _ hx', e⟩
 obtain ⟨r, r1, r2, r3⟩ := key l h.sub h.apart
 have := len_sub r2 fun y hy => (r3 y hy).1
 omega
theorem rps_uniq {g : Gd} {K l m : List Cl} (h : Rps g K l) (k : Rps g K m) : l.length = m.length := Nat.le_antisymm (rps_len h k) (rps_len k h)
theorem rps_mem {g : Gd} {K K' l : List Cl} (h : Rps g K l) (hs : ∀ k, k ∈ K ↔ k ∈ K') : Rps g K' l :=
 ⟨fun x hx => (hs x).1 (h.sub x hx), h.apart.imp fun hn hc => hn (rcC_mem (fun k hk => (hs k).2 hk) hc), fun k hk => by
  obtain ⟨x, hx, hr⟩ := h.all k ((hs k).2 hk)
  exact ⟨x, hx, rcC_mem (fun k hk => (hs k).1 hk) hr⟩⟩
theorem rcC_app {g : Gd} {A B : List Cl} (hd : Apt g A B) {a b : Cl} (ha : a ∈ A) (h : RcC g (A ++ B) a b) : b ∈ A ∧ RcC g A a b := by
 induction h with
 | refl => exact ⟨ha, .refl⟩
 | step _ hk hs ih =>
  rcases List.mem_append.1 hk with h | h
  ·exact ⟨h, .step ih.2 h hs⟩
  ·obtain ⟨p, p1, p2, p3⟩ := hs
   exact (hd _ ih.1 _ h p p1 p2 p3).elim
theorem apt_symm {g : Gd} {A B : List Cl} (h : Apt g A B) : Apt g B A := fun a ha b hb p hp h1 h2 => h b hb a ha p hp h2 h1
theorem rps_sum {g : Gd} {A B l m : List Cl} (hd : Apt g A B) (hx : ∀ x ∈ A, x ∉ B) (hA : Rps g A l) (hB : Rps g B m) : Rps g (A ++ B) (l ++ m) := by
 have hBA : ∀ {a b : Cl}, a ∈ B → RcC g (A ++ B) a b → b ∈ B ∧ RcC g B a b := fun ha h => by
  refine rcC_app (apt_symm hd) ha (rcC_mem (fun k hk => ?_) h)
  rcases List.mem_append.1 hk with h | h
  ·exact List.mem_append_right _ h
  ·exact List.mem_append_left _ h
 refine ⟨fun x hx => ?_, List.pairwise_append.2 ⟨hA.apart.imp_of_mem fun {a b} ha _ hn hc => hn (rcC_app hd (hA.sub a ha) hc).2, hB.apart.imp_of_mem fun {a b} ha _ hn hc => hn (hBA (hB.sub a ha) hc).2, fun a ha b hb hc => hx b (rcC_app hd (hA.sub a ha) hc).1 (hB.sub b hb)⟩, fun k hk => ?_⟩
 ·rcases List.mem_append.1 hx with h | h
  ·exact List.mem_append_left _ (hA.sub x h)
  ·exact List.mem_append_right _ (hB.sub x h)
 ·rcases List.mem_append.1 hk with h | h
  ·obtain ⟨x, hx, hr⟩ := hA.all k h
   exact ⟨x, List.mem_append_left _ hx, rcC_mem (fun k hk => List.mem_append_left _ hk) hr⟩
  ·obtain ⟨x, hx, hr⟩ := hB.all k h
   exact ⟨x, List.mem_append_right _ hx, rcC_mem (fun k hk => List.mem_append_right _ hk) hr⟩
theorem rch_cells {g : Gd} (hg : GOk g) {K : List Cl} (hon : ∀ k ∈ K, OnG g k) {i k : Nat} {a b : Cl} (ha : K[i]? = some a) (hb : K[k]? = some b) (h : Rch K.length (shN g K) i k) : RcC g K a b := by
 induction h generalizing b with
 | refl => rw [ha] at hb; cases hb; exact .refl
 | step h1 hk hs ih =>
  have hj := rch_lt (List.getElem?_eq_some_iff.1 ha).1 h1
  obtain ⟨c, hc⟩ : ∃ c, K[_]? = some c := ⟨_, List.getElem?_eq_getElem hj⟩
  exact .step (ih hc) (List.mem_of_getElem? hb) ((sh_iff hg hon hc hb).1 hs)
theorem rch_of_cells {g : Gd} (hg : GOk g) {K : List Cl} (hon : ∀ k ∈ K, OnG g k) (hnd : K.Nodup) {i : Nat} {a b : Cl} (ha : K[i]? = some a) (h : RcC g K a b) : ∃ k, K[k]? = some b ∧ Rch K.length (shN g K) i k := by
 induction h with
 | refl => exact ⟨i, ha, .refl⟩
 | step h1 hk hs ih =>
  obtain ⟨j, hj, hr⟩ := ih
  obtain ⟨k, hk⟩ := List.getElem?_of_mem hk
  exact ⟨k, hk, .step hr (List.getElem?_eq_some_iff.1 hk).1 ((sh_iff hg hon hj hk).2 hs)⟩
theorem prt_rps {g : Gd} (hg : GOk g) {K : List Cl} (hon : ∀ k ∈ K, OnG g k) (hnd : K.Nodup) {out : List (List Int)} (h : PrtK K.length (shN g K) K.length out) : ∃ l, Rps g K l ∧ l.length = out.length := by
 have key : ∀ {n : Nat} {out : List (List Int)}, PrtK K.length (shN g K) n out → n ≤ K.length → ∃ l : List Cl, l.length = out.length ∧ (∀ x ∈ l, ∃ i : Nat, i < n ∧ K[i]? = some x ∧ ∃ q ∈ out, IsPart K.length (shN g K) i q) ∧ l.Pairwise (fun a b => ¬ RcC g K a b) ∧ ∀ q ∈ out, ∃ (i : Nat) (x : Cl), x ∈ l ∧ K[i]? = some x ∧ IsPart K.length (shN g K) i q := by
  intro n out h
  induction h with
  | zero => intro _; exact ⟨[], rfl, fun x hx => (by cases hx), List.Pairwise.nil, fun x hx => (by cases hx)⟩
  | skip _ _ ih =>
   intro hn
   obtain ⟨l, l1, l2, l3, l4⟩ := ih (by omega)
   exact ⟨l, l1, fun x hx => (by obtain ⟨i, hi, r⟩ := l2 x hx; exact ⟨i, by omega, r⟩), l3, l4⟩
  | @add n out q h1 h2 h3 ih =>
   intro hn
   obtain ⟨l, l1, l2, l3, l4⟩ := ih (by omega)
   obtain ⟨a, ha⟩ : ∃ a, K[n]? = some a := ⟨_, List.getElem?_eq_getElem (by omega)⟩
   refine ⟨l ++ [a], by simp [l1], fun x hx => ?_, List.pairwise_append.2 ⟨l3, by simp, fun x hx y hy hc => ?_⟩, fun q' hq' => ?_⟩
   ·rcases List.mem_append.1 hx with hx | hx
    ·obtain ⟨i, hi, e, q', hq', r⟩ := l2 x hx; exact ⟨i, by omega, e, q', List.mem_append_left _ hq', r⟩
    ·rw [List.mem_singleton] at hx; subst hx; exact ⟨n, by omega, ha, q, by simp, h3⟩
   ·rw [List.mem_singleton] at hy; subst hy
    obtain ⟨i, hi, e, q', hq', r⟩ := l2 x hx
    obtain ⟨k, hk, hr⟩ := rch_of_cells hg hon hnd e hc
    have hkl := (List.getElem?_eq_some_iff.1 hk).1
    have := (List.getElem?_inj hkl hnd).1 (hk.trans ha.symm)
    subst this
    exact h2 ⟨q', hq', (r.2 _).2 ⟨k, rfl, hr⟩⟩
   ·rcases List.mem_append.1 hq' with hq' | hq'
    ·obtain ⟨i, x, hx, r⟩ := l4 q' hq'; exact ⟨i, x, List.mem_append_left _ hx, r⟩
    ·rw [List.mem_singleton] at hq'; subst hq'; exact ⟨n, a, by simp, ha, h3⟩
 obtain ⟨l, l1, l2, l3, l4⟩ := key h (Nat.le_refl _)
 refine ⟨l, ⟨fun x hx => ?_, l3, fun k hk => ?_⟩, l1⟩
 ·obtain ⟨i, _, e, _⟩ := l2 x hx; exact List.mem_of_getElem? e
 ·obtain ⟨i, hi⟩ := List.getElem?_of_mem hk
  obtain ⟨q, hq, hiq⟩ := (prtK_is h).2 i (List.getElem?_eq_some_iff.1 hi).1
  obtain ⟨j, x, hx, hj, hp⟩ := l4 q hq
  obtain ⟨k', e, hr⟩ := (hp.2 _).1 hiq
  obtain rfl : i = k' := by omega
  exact ⟨x, hx, rch_cells hg hon hj hi hr⟩
end Go.Pm
set_option linter.unusedVariables false
namespace Go.Pm
open Go.Gl Go.Lw
def rwS (s : Sh) (i : Nat) : ByteArray := s.rows.getD i ByteArray.empty
theorem rwS_at {s : Sh} {i : Nat} (h : i < s.rows.length) : s.rows[i]? = some (rwS s i) := by
 unfold rwS
 rw [List.getD_eq_getElem?_getD, List.getElem?_eq_getElem h]; rfl
theorem rwS_sz {s : Sh} (h : jH s) {i : Nat} (hi : i < s.rows.length) : (rwS s i).size = wdS s := h.sz _ (List.mem_of_getElem? (rwS_at hi))
theorem kn_at {s : Sh} (h : jH s) {c : Cl} : c ∈ knL s ↔ ∃ (i k : Nat), i < s.rows.length ∧ k < wdS s ∧ chS s i k = 111 ∧ c = ⟨(i : Int), (k : Int)⟩ := by
 rw [kn_mem]
 constructor
 ·rintro ⟨i, r, k, h1, h2, h3, h4⟩
  have hi := (List.getElem?_eq_some_iff.1 h1).1
  have e := rwS_at hi
  rw [h1] at e; cases e
  exact ⟨i, k, hi, by rw [← rwS_sz h hi]; exact h2, h3, h4⟩
 ·rintro ⟨i, k, hi, hk, h3, h4⟩
  exact ⟨i, _, k, rwS_at hi, by rw [rwS_sz h hi]; exact hk, h3, h4⟩
def befC (a b : Cl) : Prop := a.r < b.r ∨ a.r = b.r ∧ a.c < b.c
theorem knR_pw (r : ByteArray) (i : Nat) : ∀ n, (knR r i n).Pairwise befC
 | 0 => List.Pairwise.nil
 | n + 1 => by
  simp only [knR]
  split
  ·refine List.pairwise_append.2 ⟨knR_pw r i n, by simp, fun x hx y hy => ?_⟩
   obtain ⟨k, hk, _, rfl⟩ := (knR_mem n).1 hx
   rw [List.mem_singleton] at hy; subst hy
   refine .inr ⟨rfl, ?_⟩
   dsimp only; omega
  ·exact knR_pw r i n
theorem knK_pw (rows : List ByteArray) : ∀ n, (knK rows n).Pairwise befC
 | 0 => List.Pairwise.nil
 | n + 1 => by
  simp only [knK]
  split
  ·rename_i r hr
   refine List.pairwise_append.2 ⟨knK_pw rows n, knR_pw _ _ _, fun x hx y hy => ?_⟩
   obtain ⟨i, _, k, hi, _, _, _, rfl⟩ := (knK_mem n).1 hx
   obtain ⟨k', _, _, rfl⟩ := (knR_mem _).1 hy
   refine .inl ?_
   dsimp only; omega
  ·exact knK_pw rows n
theorem kn_pw (s : Sh) : (knL s).Pairwise befC := knK_pw _ _
theorem kn_nd (s : Sh) : (knL s).Nodup := (kn_pw s).imp fun h e => by subst e; rcases h with h | h <;> omega
structure Dt (s x : Sh) (D : Cl → Prop) : Prop where
 most : x.most = s.most
 n : x.rows.length = s.rows.length
 sz : ∀ i, i < s.rows.length → (rwS x i).size = (rwS s i).size
 dot : ∀ (i k : Nat), i < s.rows.length → k < (rwS s i).size → D ⟨i, k⟩ → chS x i k = 46
 ch : ∀ (i k : Nat), i < s.rows.length → ¬ D ⟨i, k⟩ → chS x i k = chS s i k
structure Frm (s x : Sh) : Prop where
 n : x.rows.length = s.rows.length
 sz : ∀ i, i < s.rows.length → (rwS x i).size = (rwS s i).size
end Go.Pm
set_option linter.unusedVariables false
namespace Go.Pm
open Go.Gl Go.Lw
structure TnG (g g' : Gd) : Prop where
 R : g'.R = g.C
 C : g'.C = g.R
 most : g'.most = g.most
 fig : ∀ r c, 0 ≤ r → r < g.R → 0 ≤ c → c < g.C → g'.fig c (g.R - 1 - r) = g.fig r c
theorem arL_map (f : Pc → Pc) (hf : ∀ p, arP (f p) = arP p) : ∀ ps : List Pc, arL (ps.map f) = arL ps
 | [] => rfl
 | p :: ps => by
  have ih := arL_map f hf ps
  unfold arL at *
  rw [List.map_cons, List.map_cons, List.sum_cons, ih, hf, List.map_cons, List.sum_cons]
structure Emb (g g' : Gd) (K : List Cl) (f : Cl → Cl) (F B : Pc → Pc) : Prop where
 to : ∀ p, Lies g p → Lies g' (F p)
 bk : ∀ q k, Lies g' q → k ∈ K → inP q (f k) → Lies g (B q)
 fb : ∀ q, F (B q) = q
 inj : ∀ a b, f a = f b → a = b
 mem : ∀ p k, inP (F p) (f k) ↔ inP p k
 ar : ∀ p, arP (F p) = arP p
section
variable {g g' : Gd} {K : List Cl} {f : Cl → Cl} {F B : Pc → Pc} (E : Emb g g' K f F B)
include E
theorem em_in {q : Pc} {k : Cl} (h : inP q (f k)) : inP (B q) k := by rw [← E.fb q, E.mem] at h; exact h
theorem em_ar (q : Pc) : arP (B q) = arP q := by rw [← E.ar, E.fb]
theorem em_sh {a b : Cl} (ha : a ∈ K) : ShC g' (f a) (f b) ↔ ShC g a b := by
 constructor
 ·rintro ⟨q, h1, h2, h3⟩
  exact ⟨_, E.bk q a h1 ha h2, em_in E h2, em_in E h3⟩
 ·rintro ⟨p, h1, h2, h3⟩
  exact ⟨_, E.to p h1, (E.mem _ _).2 h2, (E.mem _ _).2 h3⟩
theorem best_emb {n : Nat} {c : Int} (h : jA g K n c) : jA g' (K.map f) n c := by
 obtain ⟨ps, p1, p2, p3⟩ := h.ex
 refine ⟨⟨ps.map F, ⟨fun p hp => ?_, fun k hk => ?_⟩, by rw [List.length_map]; exact p2, by rw [arL_map _ E.ar]; exact p3⟩, fun qs hq => ?_⟩
 ·obtain ⟨q, hq, rfl⟩ := List.mem_map.1 hp
  exact E.to _ (p1.lies q hq)
 ·obtain ⟨k', hk', rfl⟩ := List.mem_map.1 hk
  obtain ⟨p, hp, hi⟩ := p1.has k' hk'
  exact ⟨_, List.mem_map_of_mem hp, (E.mem _ _).2 hi⟩
 ·have := h.le ((qs.filter fun q => K.any fun k => decide (inP q (f k))).map B) ⟨fun p hp => ?_, fun k hk => ?_⟩
  ·rw [List.length_map, arL_map _ (em_ar E)] at this
   have e1 := len_split (fun q => K.any fun k => decide (inP q (f k))) qs
   have e2 := arL_split (fun q => K.any fun k => decide (inP q (f k))) qs
   have e3 := arL_nn (ps := qs.filter fun q => !K.any fun k => decide (inP q (f k))) fun p hp => by
    have := ar_pos (hq.lies p (List.mem_filter.1 hp).1); omega
   omega
  ·obtain ⟨q, hq', rfl⟩ := List.mem_map.1 hp
   obtain ⟨h1, h2⟩ := List.mem_filter.1 hq'
   obtain ⟨k, hk, hi⟩ := List.any_eq_true.1 h2
   exact E.bk q k (hq.lies q h1) hk (of_decide_eq_true hi)
  ·obtain ⟨q, hq', hi⟩ := hq.has _ (List.mem_map_of_mem hk)
   exact ⟨_, List.mem_map_of_mem (List.mem_filter.2 ⟨hq', List.any_eq_true.2 ⟨k, hk, decide_eq_true hi⟩⟩), em_in E hi⟩
theorem alM_emb {n : Nat} (h : AlM g K n) : AlM g' (K.map f) n := by
 obtain ⟨l, h1, h2⟩ := h.ex
 refine ⟨⟨l.map f, ⟨?_, ?_, fun x hx => ?_⟩, by rw [List.length_map]; exact h2⟩, fun m hm => ?_⟩
 ·rw [List.pairwise_map]
  exact h1.1.imp_of_mem fun {a b} ha _ hn hs => hn ((em_sh E (h1.2.2 a ha)).1 hs)
 ·rw [List.Nodup, List.pairwise_map]
  exact h1.2.1.imp fun hn he => hn (E.inj _ _ he)
 ·obtain ⟨y, hy, rfl⟩ := List.mem_map.1 hx
  exact List.mem_map_of_mem (h1.2.2 y hy)
 ·have : ∃ l : List Cl, m = l.map f ∧ ∀ x ∈ l, x ∈ K := by
   have hm3 := hm.2.2
   clear hm
   induction m with
   | nil => exact ⟨[], rfl, fun x hx => by cases hx⟩
   | cons a m ih =>
    obtain ⟨l, rfl, hl⟩ := ih fun x hx => hm3 x (List.mem_cons_of_mem _ hx)
    obtain ⟨b, hb, rfl⟩ := List.mem_map.1 (hm3 a List.mem_cons_self)
    exact ⟨b :: l, rfl, fun x hx => by
     rcases List.mem_cons.1 hx with rfl | hx
     ·exact hb
     ·exact hl x hx⟩
  obtain ⟨l, rfl, hl⟩ := this
  rw [List.length_map]
  refine h.le l ⟨?_, ?_, hl⟩
  ·have := hm.1
   rw [List.pairwise_map] at this
   exact this.imp_of_mem fun {a b} ha _ hn hs => hn ((em_sh E (hl a ha)).2 hs)
  ·have := hm.2.1
   rw [List.Nodup, List.pairwise_map] at this
   exact this.imp fun hn he => hn (by rw [he])
theorem rc_emb {a b : Cl} (ha : a ∈ K) (h : RcC g K a b) : RcC g' (K.map f) (f a) (f b) := by
 induction h with
 | refl => exact .refl
 | step h1 hk hs ih => exact .step ih (List.mem_map_of_mem hk) ((em_sh E (rcC_in ha h1)).2 hs)
theorem rc_bk {a : Cl} {y : Cl} (ha : a ∈ K) (h : RcC g' (K.map f) (f a) y) : ∃ b, y = f b ∧ RcC g K a b := by
 induction h with
 | refl => exact ⟨a, rfl, .refl⟩
 | step _ hk hs ih =>
  obtain ⟨b, rfl, hb⟩ := ih
  obtain ⟨c, hc, rfl⟩ := List.mem_map.1 hk
  exact ⟨c, rfl, .step hb hc ((em_sh E (rcC_in ha hb)).1 hs)⟩
theorem rps_emb {l : List Cl} (h : Rps g K l) : Rps g' (K.map f) (l.map f) := by
 refine ⟨fun x hx => ?_, ?_, fun k hk => ?_⟩
 ·obtain ⟨y, hy, rfl⟩ := List.mem_map.1 hx
  exact List.mem_map_of_mem (h.sub y hy)
 ·rw [List.pairwise_map]
  exact h.apart.imp_of_mem fun {a b} ha _ hn hs => hn (by
   obtain ⟨b, e, hb⟩ := rc_bk E (h.sub a ha) hs
   rw [E.inj _ _ e]; exact hb)
 ·obtain ⟨y, hy, rfl⟩ := List.mem_map.1 hk
  obtain ⟨x, hx, hr⟩ := h.all y hy
  exact ⟨_, List.mem_map_of_mem hx, rc_emb E (h.sub x hx) hr⟩
end
end Go.Pm
set_option linter.unusedVariables false
namespace Go.Pm
open Go.Gl Go.Lw
section
variable {s : Sh} (hs : jH s) {i k : Nat} (hi : i < s.rows.length) (hk : k < wdS s) (hc : chS s i k = 46)
include hs hi hk hc
end
end Go.Pm
set_option linter.unusedVariables false
namespace Go.Pm
open Go.Gl Go.Lw
theorem aloL_is (s : Sh) : FirstS (knL s).length (shI (gdS s) (knL s)) (aloL s) := alG_is
end Go.Pm
set_option linter.unusedVariables false
namespace Go.Proofs.YtghomjjffllkeaaGreatDoor
open Go.Lw Go.Gl Go.Pm Go.RowKit Go.Shelf
theorem fine_no {s : Sh} (h : ¬ (!grB s && decide (chE s = 0)) = true) : (!grB s && decide (chE s = 0)) = false := by simpa using h
theorem fine_ok {s : Sh} (h : (!grB s && decide (chE s = 0)) = true) : grB s = false ∧ chE s = 0 := by simpa using h
end Go.Proofs.YtghomjjffllkeaaGreatDoor
set_option linter.unusedVariables false
namespace Go.Pm
open Go.Gl Go.Lw
end Go.Pm
namespace Go.Proofs.YtghomjjffllkeaaGreatDoor
open Go.Lw Go.Gl Go.Pm Go.RowKit Go.Shelf
end Go.Proofs.YtghomjjffllkeaaGreatDoor
set_option linter.unusedVariables false
namespace Go.Proofs.YtghomjjffllkeaaGreatDoor
open Go.Lw Go.Gl Go.Pm Go.RowKit Go.Shelf
theorem alM_of {s : Sh} (hok : jH s) : AlM (gdS s) (knL s) (aloL s).length := alM_first (sh_gok hok) (kn_on hok) (kn_nd s) (aloL_is s)
end Go.Proofs.YtghomjjffllkeaaGreatDoor
set_option linter.unusedVariables false
set_option linter.unusedSectionVars false
namespace Go.Pm
open Go.Gl Go.Lw
def bsR (a b : ByteArray) : ByteArray := ⟨(bt a ++ [35] ++ bt b).toArray⟩
theorem bsR_bt (a b : ByteArray) : bt (bsR a b) = bt a ++ [35] ++ bt b := rfl
theorem bsR_sz (a b : ByteArray) : (bsR a b).size = a.size + 1 + b.size := by
 rw [← bt_len, bsR_bt, List.length_append, List.length_append, bt_len, bt_len]; rfl
theorem bsR_bv (a b : ByteArray) (k : Nat) : bv (bsR a b) k = if k < a.size then bv a k else if k = a.size then 35 else bv b (k - a.size - 1) := by
 unfold bv
 rw [bsR_bt, List.getD_eq_getElem?_getD, List.getD_eq_getElem?_getD, List.getD_eq_getElem?_getD, ← bt_len a]
 by_cases h1 : k < (bt a).length
 ·rw [if_pos h1, List.append_assoc, List.getElem?_append_left h1]
 ·rw [if_neg h1, List.append_assoc, List.getElem?_append_right (by omega)]
  by_cases h2 : k = (bt a).length
  ·rw [if_pos h2, h2, Nat.sub_self]; rfl
  ·rw [if_neg h2, List.getElem?_append_right (by rw [List.length_singleton]; omega), List.length_singleton]
def bsS (s t : Sh) : Sh := ⟨(List.range s.rows.length).map fun i => bsR (rwS s i) (rwS t i), s.most⟩
def yS (s t : Sh) : Sh := ⟨t.rows, s.most⟩
theorem yS_ok {s t : Sh} (hs : jH s) (ht : jH t) : jH (yS s t) := ⟨ht.n, ht.w, hs.m, ht.sz, ht.fr, ht.kn⟩
theorem bs_rw {s t : Sh} {i : Nat} (h : i < s.rows.length) : rwS (bsS s t) i = bsR (rwS s i) (rwS t i) := by
 show ((List.range s.rows.length).map fun i => bsR (rwS s i) (rwS t i)).getD i ByteArray.empty = _
 rw [List.getD_eq_getElem?_getD, List.getElem?_map, List.getElem?_range h]; rfl
section
variable {s t : Sh} (hs : jH s) (ht : jH t) (hx : jH (bsS s t)) (hn : s.rows.length = t.rows.length)
include hs ht hn
theorem bs_wd : wdS (bsS s t) = wdS s + 1 + wdS t := by
 have h := hs.n
 have e : wdS (bsS s t) = (rwS (bsS s t) 0).size := rfl
 rw [e, bs_rw (by omega), bsR_sz, rwS_sz hs (by omega), rwS_sz ht (by omega)]
theorem bs_ch {i : Nat} (hi : i < s.rows.length) (k : Nat) : chS (bsS s t) i k = if k < wdS s then chS s i k else if k = wdS s then 35 else chS t i (k - wdS s - 1) := by
 have e : chS (bsS s t) i k = bv (rwS (bsS s t) i) k := rfl
 rw [e, bs_rw hi, bsR_bv, rwS_sz hs hi]; rfl
theorem bs_gR : (gdS (bsS s t)).R = (gdS s).R := by show (((bsS s t).rows.length : Nat) : Int) = _; unfold bsS gdS; simp
theorem bs_gC : (gdS (bsS s t)).C = (gdS s).C + 1 + (gdS t).C := by show ((wdS (bsS s t) : Nat) : Int) = _; rw [bs_wd hs ht hn]; unfold gdS; simp
theorem bs_fig {i k : Int} (h1 : 0 ≤ i) (h2 : i < (gdS s).R) (h3 : 0 ≤ k) : (gdS (bsS s t)).fig i k = if k < (gdS s).C then (gdS s).fig i k else if k = (gdS s).C then true else (gdS t).fig i (k - (gdS s).C - 1) := by
 have h2' : i < (s.rows.length : Int) := h2
 show decide (chS (bsS s t) i.toNat k.toNat = 35) = if k < (wdS s : Int) then decide (chS s i.toNat k.toNat = 35) else if k = (wdS s : Int) then true else decide (chS t i.toNat (k - (wdS s : Int) - 1).toNat = 35)
 rw [bs_ch hs ht hn (by omega)]
 by_cases a : k < (wdS s : Int)
 ·rw [if_pos a, if_pos (by omega)]
 ·rw [if_neg a, if_neg (by omega)]
  by_cases b : k = (wdS s : Int)
  ·rw [if_pos b, if_pos (by omega)]; rfl
  ·rw [if_neg b, if_neg (by omega), show (k - (wdS s : Int) - 1).toNat = k.toNat - wdS s - 1 by omega]
theorem bs_side {q : Pc} (h : Lies (gdS (bsS s t)) q) : q.l + q.w ≤ (gdS s).C ∨ (gdS s).C < q.l := by
 have h1 := h.h; have h2 := h.t; have h3 := h.l
 rw [bs_gR hs ht hn] at h1 h2
 apply Classical.byContradiction
 intro hc
 have := h.fig q.t (gdS s).C (by omega) (by omega) (by omega) (by omega)
 have hc0 : (0 : Int) ≤ (gdS s).C := by show (0 : Int) ≤ (wdS s : Int); omega
 rw [bs_fig hs ht hn (by omega) (by omega) hc0, if_neg (by omega), if_pos rfl] at this
 cases this
theorem bs_left : Emb (gdS s) (gdS (bsS s t)) (knL s) id id id := by
 have hR := bs_gR hs ht hn
 have hC := bs_gC hs ht hn
 have hC0 : 0 ≤ (gdS t).C := by show (0 : Int) ≤ (wdS t : Int); omega
 refine ⟨fun p h => ?_, fun q k h hk hi => ?_, fun q => rfl, fun a b h => h, fun p k => Iff.rfl, fun p => rfl⟩
 ·have h1 := h.h; have h2 := h.w; have h3 := h.t; have h4 := h.l
  refine ⟨by rw [hR]; exact h1, by rw [hC]; dsimp only [id]; omega, by rw [hR]; exact h3, by rw [hC]; dsimp only [id]; omega, fun i k a b c d => ?_, h.most⟩
  dsimp only [id] at a b c d
  rw [bs_fig hs ht hn (by omega) (by omega) (by omega), if_pos (by omega)]
  exact h.fig i k a b c d
 ·have h1 := h.h; have h2 := h.w; have h3 := h.t; have h4 := h.l
  rw [hR] at h1 h3
  have hon := kn_on hs k hk
  unfold OnG at hon
  have hi' : inP q k := hi
  unfold inP at hi'
  have hw : q.l + q.w ≤ (gdS s).C := by rcases bs_side hs ht hn h with a | a <;> omega
  refine ⟨h1, by dsimp only [id]; omega, h3, by dsimp only [id]; omega, fun i k a b c d => ?_, h.most⟩
  dsimp only [id] at a b c d
  have := h.fig i k a b c d
  rw [bs_fig hs ht hn (by omega) (by omega) (by omega), if_pos (by omega)] at this
  exact this
def rtC (d : Int) (k : Cl) : Cl := ⟨k.r, k.c + d⟩
def rtP (d : Int) (p : Pc) : Pc := ⟨p.t, p.l + d, p.h, p.w⟩
theorem bs_right : Emb (gdS (yS s t)) (gdS (bsS s t)) (knL t) (rtC ((gdS s).C + 1)) (rtP ((gdS s).C + 1)) (rtP (-((gdS s).C + 1))) := by
 have hR := bs_gR hs ht hn
 have hC := bs_gC hs ht hn
 have hR' : (gdS (yS s t)).R = (gdS s).R := by show ((t.rows.length : Nat) : Int) = ((s.rows.length : Nat) : Int); rw [hn]
 have hC' : (gdS (yS s t)).C = (gdS t).C := rfl
 have hC0 : 0 ≤ (gdS s).C := by show (0 : Int) ≤ (wdS s : Int); omega
 refine ⟨fun p h => ?_, fun q k h hk hi => ?_, fun q => ?_, fun a b h => ?_, fun p k => ?_, fun p => rfl⟩
 ·have h1 := h.h; have h2 := h.w; have h3 := h.t; have h4 := h.l
  rw [hR'] at h1 h3
  rw [hC'] at h2 h4
  refine ⟨by rw [hR]; exact h1, by rw [hC]; unfold rtP; dsimp only; omega, by rw [hR]; exact h3, by rw [hC]; unfold rtP; dsimp only; omega, fun i k a b c d => ?_, h.most⟩
  unfold rtP at a b c d
  dsimp only at a b c d
  rw [bs_fig hs ht hn (by omega) (by omega) (by omega), if_neg (by omega), if_neg (by omega)]
  exact h.fig i _ a b (by omega) (by omega)
 ·have h1 := h.h; have h2 := h.w; have h3 := h.t; have h4 := h.l
  rw [hR] at h1 h3
  rw [hC] at h2 h4
  have hon := kn_on ht k hk
  unfold OnG at hon
  unfold inP rtC at hi
  dsimp only at hi
  have hw : (gdS s).C < q.l := by rcases bs_side hs ht hn h with a | a <;> omega
  refine ⟨by rw [hR']; exact h1, by rw [hC']; unfold rtP; dsimp only; omega, by rw [hR']; exact h3, by rw [hC']; unfold rtP; dsimp only; omega, fun i k a b c d => ?_, h.most⟩
  unfold rtP at a b c d
  dsimp only at a b c d
  have := h.fig i (k + ((gdS s).C + 1)) a b (by omega) (by omega)
  rw [bs_fig hs ht hn (by omega) (by omega) (by omega), if_neg (by omega), if_neg (by omega), show k + ((gdS s).C + 1) - (gdS s).C - 1 = k by omega] at this
  exact this
 ·unfold rtP; cases q; simp only [Pc.mk.injEq, and_true, true_and]; omega
 ·unfold rtC at h; cases a; cases b; simp only [Cl.mk.injEq] at h ⊢; omega
 ·unfold inP rtP rtC; dsimp only; omega
theorem bs_apt : Apt (gdS (bsS s t)) (knL s) ((knL t).map (rtC ((gdS s).C + 1))) := fun a ha b hb p hp h1 h2 => by
 obtain ⟨k, hk, rfl⟩ := List.mem_map.1 hb
 have o1 := kn_on hs a ha
 have o2 := kn_on ht k hk
 unfold OnG at o1 o2
 unfold inP at h1
 unfold inP rtC at h2
 dsimp only at h2
 rcases bs_side hs ht hn hp with a | a <;> omega
theorem bs_dis : ∀ x ∈ knL s, x ∉ (knL t).map (rtC ((gdS s).C + 1)) := fun x h1 h2 => by
 obtain ⟨k, hk, rfl⟩ := List.mem_map.1 h2
 have o1 := kn_on hs _ h1
 have o2 := kn_on ht k hk
 unfold OnG rtC at o1
 unfold OnG at o2
 dsimp only at o1
 omega
include hx in
theorem bs_kn : ∀ k, k ∈ knL s ++ (knL t).map (rtC ((gdS s).C + 1)) ↔ k ∈ knL (bsS s t) := fun k => by
 have hl : (bsS s t).rows.length = s.rows.length := by unfold bsS; simp
 rw [List.mem_append, List.mem_map, kn_at hs, kn_at hx, hl, bs_wd hs ht hn]
 constructor
 ·rintro (⟨i, j, h1, h2, h3, rfl⟩ | ⟨a, ha, rfl⟩)
  ·exact ⟨i, j, h1, by omega, by rw [bs_ch hs ht hn h1, if_pos h2]; exact h3, rfl⟩
  ·obtain ⟨i, j, h1, h2, h3, rfl⟩ := (kn_at ht).1 ha
   refine ⟨i, wdS s + 1 + j, by omega, by omega, ?_, ?_⟩
   ·rw [bs_ch hs ht hn (by omega), if_neg (by omega), if_neg (by omega), show wdS s + 1 + j - wdS s - 1 = j by omega]; exact h3
   ·have e : (gdS s).C = (wdS s : Int) := rfl
    unfold rtC; rw [e]; simp only [Cl.mk.injEq, true_and]; omega
 ·rintro ⟨i, j, h1, h2, h3, rfl⟩
  rw [bs_ch hs ht hn h1] at h3
  by_cases a : j < wdS s
  ·rw [if_pos a] at h3; exact .inl ⟨i, j, h1, a, h3, rfl⟩
  ·rw [if_neg a] at h3
   by_cases b : j = wdS s
   ·rw [if_pos b] at h3; cases h3
   ·rw [if_neg b] at h3
    refine .inr ⟨⟨(i : Int), ((j - wdS s - 1 : Nat) : Int)⟩, (kn_at ht).2 ⟨i, _, by omega, by omega, h3, rfl⟩, ?_⟩
    have e : (gdS s).C = (wdS s : Int) := rfl
    unfold rtC; rw [e]; simp only [Cl.mk.injEq, true_and]; omega
include hx in
theorem bs_best {n m : Nat} {c d : Int} (h1 : jA (gdS s) (knL s) n c) (h2 : jA (gdS (yS s t)) (knL (yS s t)) m d) : jA (gdS (bsS s t)) (knL (bsS s t)) (n + m) (c + d) := by
 have a := best_emb (bs_left hs ht hn) h1
 rw [List.map_id] at a
 have b := best_emb (bs_right hs ht hn) (K := knL t) h2
 exact best_mem (best_sum (bs_apt hs ht hn) a b) (bs_kn hs ht hx hn)
include hx in
theorem bs_alM {n m : Nat} (h1 : AlM (gdS s) (knL s) n) (h2 : AlM (gdS (yS s t)) (knL (yS s t)) m) : AlM (gdS (bsS s t)) (knL (bsS s t)) (n + m) := by
 have a := alM_emb (bs_left hs ht hn) h1
 rw [List.map_id] at a
 have b := alM_emb (bs_right hs ht hn) (K := knL t) h2
 exact alM_mem (alM_sum (bs_apt hs ht hn) (bs_dis hs ht hn) a b) (bs_kn hs ht hx hn)
include hx in
theorem bs_rps {l m : List Cl} (h1 : Rps (gdS s) (knL s) l) (h2 : Rps (gdS (yS s t)) (knL (yS s t)) m) : ∃ r, Rps (gdS (bsS s t)) (knL (bsS s t)) r ∧ r.length = l.length + m.length := by
 have a := rps_emb (bs_left hs ht hn) h1
 rw [List.map_id, List.map_id] at a
 have b := rps_emb (bs_right hs ht hn) (K := knL t) h2
 exact ⟨_, rps_mem (rps_sum (bs_apt hs ht hn) (bs_dis hs ht hn) a b) (bs_kn hs ht hx hn), by rw [List.length_append, List.length_map]⟩
end
end Go.Pm
set_option linter.unusedVariables false
namespace Go.Pm
open Go.Gl Go.Lw
theorem bs_cat (a b : ByteArray) : a ++ (⟨#[35]⟩ : ByteArray) ++ b = bsR a b := by
 apply bt_ext
 have e : bt (⟨#[35]⟩ : ByteArray) = [35] := rfl
 rw [bt_app, bt_app, bsR_bt, e]
theorem bs_at {s t : Sh} {k : Nat} (h : k < s.rows.length) : (bsS s t).rows.take (k + 1) = (bsS s t).rows.take k ++ [bsR (rwS s k) (rwS t k)] := by
 have e : (bsS s t).rows[k]? = some (bsR (rwS s k) (rwS t k)) := by
  show ((List.range s.rows.length).map fun i => bsR (rwS s i) (rwS t i))[k]? = _
  rw [List.getElem?_map, List.getElem?_range h]; rfl
 rw [List.take_add_one, e]; rfl
theorem bs_len (s t : Sh) : (bsS s t).rows.length = s.rows.length := by unfold bsS; simp
theorem bs_tk {s t : Sh} {k : Nat} (h : k ≤ s.rows.length) : ((bsS s t).rows.take k).length = k := by rw [List.length_take, bs_len]; omega
theorem rps_cnt {s : Sh} (hok : jH s) {l : List Cl} (h : Rps (gdS s) (knL s) l) : l.length ≤ 10 := by
 have hnd : l.Nodup := h.apart.imp fun {a b} hn e => hn (by subst e; exact .refl)
 exact Nat.le_trans (len_sub hnd h.sub) hok.kn
theorem prt_len {s : Sh} (hok : jH s) {out : List (List Int)} (h : PrtK (knL s).length (shN (gdS s) (knL s)) (knL s).length out) : ∃ l, Rps (gdS s) (knL s) l ∧ l.length = out.length := prt_rps (sh_gok hok) (kn_on hok) (kn_nd s) h
end Go.Pm
namespace Go.Proofs.YtghomjjffllkeaaGreatDoor
open Go.Lw Go.Gl Go.Pm Go.RowKit Go.Shelf
theorem pr_ok {s : Sh} (h0 : chE s = 0) {ll : List (List Int)} (h : (chE s ≠ 0 ∧ ll = []) ∨ (chE s = 0 ∧ PrtK (knL s).length (shN (gdS s) (knL s)) (knL s).length ll)) : PrtK (knL s).length (shN (gdS s) (knL s)) (knL s).length ll := by
 rcases h with ⟨h, _⟩ | ⟨_, h⟩
 ·exact absurd h0 h
 ·exact h
set_option maxHeartbeats 1600000 in
theorem patchBeside_f (s t : Sh) (V : View) (v u : Value) (hv : ShV V v s) (hu : ShV V u t) : Fnc Tryz.prog 13 [v, u] V fun r _ => r = .bool true := by
 obtain ⟨a, c, rfl, hs⟩ := id hv
 obtain ⟨a1, c1, rfl, hs1⟩ := id hu
 refine qc Tryz.func13 rfl Tryz.ntmps13 (Nat.le_of_ble_eq_true rfl) ?_
 intro w0 hw0
 refine At.nrm ?_
 refine At.zi (.n false 0 (.n false 1 (.q 2 .done))) ?_
 refine AtT.qV ?_
 intro b2
 refine AtT.qV ?_
 intro b3
 refine AtT.zh ?_
 refine AtT.done ?_
 refine At.nrm ?_
 by_cases gf : (!grB s && decide (chE s = 0)) = true
 rotate_left
 ·refine At.zi (.q 0 (.n false 1 (.q 2 (.q 3 (.q 4 (.n false 5 (.q 6 (.q 7 (.q 8 (.q 9 (.q 10 (.q 11 (.q 12 (.q 13 (.q 14 (.q 15 (.q 16 .done))))))))))))))))) ?_
  first | refine AtT.zu zx ?_ | refine AtT.zC zx ?_ | refine AtT.zt zx ?_
  refine AtT.zq rfl rfl ok43 (fine_f s _ _ hv) ?_
  rintro _ rfl
  refine AtT.setB (d := 33) rfl ((fine_no gf)) ?_
  refine AtT.jh ?_
  refine AtT.setB (d := 34) rfl ((show (!false) = true from rfl)) ?_
  refine AtT.zf ?_
  all_goals (first | refine AtT.kL 35 ?_ | refine AtT.zA (d := 35) rfl (fun hg35 => ?_) (fun hg35 => ?_) | refine AtT.zz (d := 35) rfl (fun hg35 => ?_) (fun hg35 => ?_))
  all_goals first|refine AtT.zg ?_|refine AtT.ze ?_|(first | refine AtT.zu zx ?_ | refine AtT.zC zx ?_ | refine AtT.zt zx ?_)
  all_goals (first | refine AtT.zP ?_ | refine AtT.zJ ?_ | ((fail)))
  all_goals first|refine AtT.zg ?_|refine AtT.ze ?_|(refine AtT.jh ?_)
  all_goals (refine AtT.zy ?_)
  all_goals (refine AtT.zf ?_)
  all_goals (first | refine AtT.kL 40 ?_ | refine AtT.zA (d := 40) rfl (fun hg40 => ?_) (fun hg40 => ?_) | refine AtT.zz (d := 40) rfl (fun hg40 => ?_) (fun hg40 => ?_))
  all_goals first|refine AtT.zg ?_|refine AtT.ze ?_|(first | refine AtT.zk zw ?_ | with_reducible refine AtT.zl zw ?_ | refine AtT.zn zw ?_)
  all_goals first|refine AtT.zg ?_|refine AtT.ze ?_|(first | refine AtT.zm qa ?_ | refine AtT.zo qa ?_)
  all_goals first|refine AtT.zg ?_|refine AtT.ze ?_|(first | refine AtT.zU Tryz.underlying22 ?_ | refine AtT.zV Tryz.underlying22 ?_)
  all_goals first|refine AtT.zg ?_|refine AtT.ze ?_|(first | refine AtT.zk zw ?_ | with_reducible refine AtT.zl zw ?_ | refine AtT.zn zw ?_)
  all_goals first|refine AtT.zg ?_|refine AtT.ze ?_|(first | refine AtT.zm qa ?_ | refine AtT.zo qa ?_)
  all_goals first|refine AtT.zg ?_|refine AtT.ze ?_|(first | refine AtT.zU Tryz.underlying22 ?_ | refine AtT.zV Tryz.underlying22 ?_)
  all_goals first|refine AtT.zg ?_|refine AtT.ze ?_|(refine AtT.qC ?_)
  all_goals (refine AtT.zy ?_)
  all_goals refine AtT.done ?_
  all_goals (refine At.nrm ?_)
  refine At.qB rfl rfl ?_
  refine At.nrm ?_
  refine At.zi (.n false 0 (.q 1 .done)) ?_
  refine AtT.zq rfl rfl ok16 (works_f _) ?_
  rintro _ rfl
  refine AtT.zh ?_
  refine AtT.done ?_
  refine At.nrm ?_
  exact At.qd rfl (.tmp rfl) rfl
 by_cases gt : (!grB t && decide (chE t = 0)) = true
 rotate_left
 ·refine At.zi (.q 0 (.n false 1 (.q 2 (.q 3 (.q 4 (.n false 5 (.q 6 (.q 7 (.q 8 (.q 9 (.q 10 (.q 11 (.q 12 (.q 13 (.q 14 (.q 15 (.q 16 .done))))))))))))))))) ?_
  first | refine AtT.zu zx ?_ | refine AtT.zC zx ?_ | refine AtT.zt zx ?_
  refine AtT.zq rfl rfl ok43 (fine_f s _ _ hv) ?_
  rintro _ rfl
  refine AtT.setB (d := 33) rfl (gf) ?_
  refine AtT.jh ?_
  refine AtT.setB (d := 34) rfl ((show (!true) = false from rfl)) ?_
  refine AtT.zf ?_
  all_goals (first | refine AtT.kL 35 ?_ | refine AtT.zA (d := 35) rfl (fun hg35 => ?_) (fun hg35 => ?_) | refine AtT.zz (d := 35) rfl (fun hg35 => ?_) (fun hg35 => ?_))
  all_goals first|refine AtT.zg ?_|refine AtT.ze ?_|(first | refine AtT.zu zx ?_ | refine AtT.zC zx ?_ | refine AtT.zt zx ?_)
  all_goals (first | refine AtT.zP ?_ | refine AtT.zJ ?_ | ((refine AtT.zq rfl rfl ok43 (fine_f t _ _ hu) ?_) ; (rintro _ rfl)))
  all_goals (refine AtT.setB (d := 37) rfl ((fine_no gt)) ?_)
  all_goals first|refine AtT.zg ?_|refine AtT.ze ?_|(refine AtT.jh ?_)
  all_goals (refine AtT.setB (d := 38) rfl ((show (!false) = true from rfl)) ?_)
  all_goals (refine AtT.zy ?_)
  all_goals (refine AtT.zf ?_)
  all_goals (first | refine AtT.kL 40 ?_ | refine AtT.zA (d := 40) rfl (fun hg40 => ?_) (fun hg40 => ?_) | refine AtT.zz (d := 40) rfl (fun hg40 => ?_) (fun hg40 => ?_))
  all_goals first|refine AtT.zg ?_|refine AtT.ze ?_|(first | refine AtT.zk zw ?_ | with_reducible refine AtT.zl zw ?_ | refine AtT.zn zw ?_)
  all_goals first|refine AtT.zg ?_|refine AtT.ze ?_|(first | refine AtT.zm qa ?_ | refine AtT.zo qa ?_)
  all_goals first|refine AtT.zg ?_|refine AtT.ze ?_|(first | refine AtT.zU Tryz.underlying22 ?_ | refine AtT.zV Tryz.underlying22 ?_)
  all_goals first|refine AtT.zg ?_|refine AtT.ze ?_|(first | refine AtT.zk zw ?_ | with_reducible refine AtT.zl zw ?_ | refine AtT.zn zw ?_)
  all_goals first|refine AtT.zg ?_|refine AtT.ze ?_|(first | refine AtT.zm qa ?_ | refine AtT.zo qa ?_)
  all_goals first|refine AtT.zg ?_|refine AtT.ze ?_|(first | refine AtT.zU Tryz.underlying22 ?_ | refine AtT.zV Tryz.underlying22 ?_)
  all_goals first|refine AtT.zg ?_|refine AtT.ze ?_|(refine AtT.qC ?_)
  all_goals (refine AtT.zy ?_)
  all_goals refine AtT.done ?_
  all_goals (refine At.nrm ?_)
  refine At.qB rfl rfl ?_
  refine At.nrm ?_
  refine At.zi (.n false 0 (.q 1 .done)) ?_
  refine AtT.zq rfl rfl ok16 (works_f _) ?_
  rintro _ rfl
  refine AtT.zh ?_
  refine AtT.done ?_
  refine At.nrm ?_
  exact At.qd rfl (.tmp rfl) rfl
 by_cases gl : (s.rows.length : Int) ≠ (t.rows.length : Int)
 ·refine At.zi (.q 0 (.n false 1 (.q 2 (.q 3 (.q 4 (.n false 5 (.q 6 (.q 7 (.q 8 (.q 9 (.q 10 (.q 11 (.q 12 (.q 13 (.q 14 (.q 15 (.q 16 .done))))))))))))))))) ?_
  first | refine AtT.zu zx ?_ | refine AtT.zC zx ?_ | refine AtT.zt zx ?_
  refine AtT.zq rfl rfl ok43 (fine_f s _ _ hv) ?_
  rintro _ rfl
  refine AtT.setB (d := 33) rfl (gf) ?_
  refine AtT.jh ?_
  refine AtT.setB (d := 34) rfl ((show (!true) = false from rfl)) ?_
  refine AtT.zf ?_
  all_goals (first | refine AtT.kL 35 ?_ | refine AtT.zA (d := 35) rfl (fun hg35 => ?_) (fun hg35 => ?_) | refine AtT.zz (d := 35) rfl (fun hg35 => ?_) (fun hg35 => ?_))
  all_goals first|refine AtT.zg ?_|refine AtT.ze ?_|(first | refine AtT.zu zx ?_ | refine AtT.zC zx ?_ | refine AtT.zt zx ?_)
  all_goals (first | refine AtT.zP ?_ | refine AtT.zJ ?_ | ((refine AtT.zq rfl rfl ok43 (fine_f t _ _ hu) ?_) ; (rintro _ rfl)))
  all_goals (refine AtT.setB (d := 37) rfl (gt) ?_)
  all_goals first|refine AtT.zg ?_|refine AtT.ze ?_|(refine AtT.jh ?_)
  all_goals (refine AtT.setB (d := 38) rfl ((show (!true) = false from rfl)) ?_)
  all_goals (refine AtT.zy ?_)
  all_goals (refine AtT.zf ?_)
  all_goals (first | refine AtT.kL 40 ?_ | refine AtT.zA (d := 40) rfl (fun hg40 => ?_) (fun hg40 => ?_) | refine AtT.zz (d := 40) rfl (fun hg40 => ?_) (fun hg40 => ?_))
  all_goals first|refine AtT.zg ?_|refine AtT.ze ?_|(first | refine AtT.zk zw ?_ | with_reducible refine AtT.zl zw ?_ | refine AtT.zn zw ?_)
  all_goals first|refine AtT.zg ?_|refine AtT.ze ?_|(first | refine AtT.zm qa ?_ | refine AtT.zo qa ?_)
  all_goals first|refine AtT.zg ?_|refine AtT.ze ?_|(first | refine AtT.zU Tryz.underlying22 ?_ | refine AtT.zV Tryz.underlying22 ?_)
  all_goals first|refine AtT.zg ?_|refine AtT.ze ?_|(first | refine AtT.zk zw ?_ | with_reducible refine AtT.zl zw ?_ | refine AtT.zn zw ?_)
  all_goals first|refine AtT.zg ?_|refine AtT.ze ?_|(first | refine AtT.zm qa ?_ | refine AtT.zo qa ?_)
  all_goals first|refine AtT.zg ?_|refine AtT.ze ?_|(first | refine AtT.zU Tryz.underlying22 ?_ | refine AtT.zV Tryz.underlying22 ?_)
  all_goals first|refine AtT.zg ?_|refine AtT.ze ?_|(refine AtT.qC ?_)
  all_goals (refine AtT.qp (d := 47) rfl (gl) ?_)
  all_goals (refine AtT.zy ?_)
  all_goals refine AtT.done ?_
  all_goals (refine At.nrm ?_)
  refine At.qB rfl rfl ?_
  refine At.nrm ?_
  refine At.zi (.n false 0 (.q 1 .done)) ?_
  refine AtT.zq rfl rfl ok16 (works_f _) ?_
  rintro _ rfl
  refine AtT.zh ?_
  refine AtT.done ?_
  refine At.nrm ?_
  exact At.qd rfl (.tmp rfl) rfl
 refine At.zi (.q 0 (.n false 1 (.q 2 (.q 3 (.q 4 (.n false 5 (.q 6 (.q 7 (.q 8 (.q 9 (.q 10 (.q 11 (.q 12 (.q 13 (.q 14 (.q 15 (.q 16 .done))))))))))))))))) ?_
 first | refine AtT.zu zx ?_ | refine AtT.zC zx ?_ | refine AtT.zt zx ?_
 refine AtT.zq rfl rfl ok43 (fine_f s _ _ hv) ?_
 rintro _ rfl
 refine AtT.setB (d := 33) rfl (gf) ?_
 refine AtT.jh ?_
 refine AtT.setB (d := 34) rfl ((show (!true) = false from rfl)) ?_
 refine AtT.zf ?_
 all_goals (first | refine AtT.kL 35 ?_ | refine AtT.zA (d := 35) rfl (fun hg35 => ?_) (fun hg35 => ?_) | refine AtT.zz (d := 35) rfl (fun hg35 => ?_) (fun hg35 => ?_))
 all_goals first|refine AtT.zg ?_|refine AtT.ze ?_|(first | refine AtT.zu zx ?_ | refine AtT.zC zx ?_ | refine AtT.zt zx ?_)
 all_goals (first | refine AtT.zP ?_ | refine AtT.zJ ?_ | ((refine AtT.zq rfl rfl ok43 (fine_f t _ _ hu) ?_) ; (rintro _ rfl)))
 all_goals (refine AtT.setB (d := 37) rfl (gt) ?_)
 all_goals first|refine AtT.zg ?_|refine AtT.ze ?_|(refine AtT.jh ?_)
 all_goals (refine AtT.setB (d := 38) rfl ((show (!true) = false from rfl)) ?_)
 all_goals (refine AtT.zy ?_)
 all_goals (refine AtT.zf ?_)
 all_goals (first | refine AtT.kL 40 ?_ | refine AtT.zA (d := 40) rfl (fun hg40 => ?_) (fun hg40 => ?_) | refine AtT.zz (d := 40) rfl (fun hg40 => ?_) (fun hg40 => ?_))
 all_goals first|refine AtT.zg ?_|refine AtT.ze ?_|(first | refine AtT.zk zw ?_ | with_reducible refine AtT.zl zw ?_ | refine AtT.zn zw ?_)
 all_goals first|refine AtT.zg ?_|refine AtT.ze ?_|(first | refine AtT.zm qa ?_ | refine AtT.zo qa ?_)
 all_goals first|refine AtT.zg ?_|refine AtT.ze ?_|(first | refine AtT.zU Tryz.underlying22 ?_ | refine AtT.zV Tryz.underlying22 ?_)
 all_goals first|refine AtT.zg ?_|refine AtT.ze ?_|(first | refine AtT.zk zw ?_ | with_reducible refine AtT.zl zw ?_ | refine AtT.zn zw ?_)
 all_goals first|refine AtT.zg ?_|refine AtT.ze ?_|(first | refine AtT.zm qa ?_ | refine AtT.zo qa ?_)
 all_goals first|refine AtT.zg ?_|refine AtT.ze ?_|(first | refine AtT.zU Tryz.underlying22 ?_ | refine AtT.zV Tryz.underlying22 ?_)
 all_goals first|refine AtT.zg ?_|refine AtT.ze ?_|(refine AtT.qC ?_)
 all_goals (refine AtT.qj (d := 47) rfl (gl) ?_)
 all_goals (refine AtT.zy ?_)
 all_goals refine AtT.done ?_
 all_goals (refine At.nrm ?_)
 refine At.qE rfl rfl ?_
 obtain ⟨_, h0⟩ := fine_ok gf
 obtain ⟨_, t0⟩ := fine_ok gt
 have hok := jl h0
 have tok := jl t0
 have hn : s.rows.length = t.rows.length := by omega
 have hsn := hok.n
 have hsw := hok.w
 have htw := tok.w
 have yok := yS_ok hok tok
 have y0 := chE_of yok
 have hbl := bs_len s t
 have hvy : ∀ {W : View}, Sl W bse 1 (.slice a1 t.rows.length c1) t.rows → ShV W (.agg #[.slice a1 t.rows.length c1, iv s.most]) (yS s t) := fun h => ⟨a1, c1, rfl, h⟩
 refine At.nrm ?_
 refine At.jo (ι := Nat × Nat) (fun g => [(2, .pointer (some ⟨b2, 0, none⟩)), (3, .pointer (some ⟨b3, 0, none⟩)), (5, .pointer (some ⟨g.1, 0, none⟩)), (6, .pointer (some ⟨g.2, 0, none⟩))])
  (fun g => [.blk b2 (LC [.slice a s.rows.length c, iv s.most] 24), .blk b3 (LC [.slice a1 t.rows.length c1, iv t.most] 24), .blk g.1 (LC [.slice none 0 0, iv s.most] 24), .blk g.2 (LC [.slice a1 t.rows.length c1, iv s.most] 24)]) (fun _ V'' => Le V V'') ?_ ?_
 ·refine At.draw (.q 0 (.q 1 (.q 2 (.q 3 (.q 4 (.q 5 (.q 6 (.q 7 (Tr.al 2 [8, 9] (.n false 10 (.n false 11 .done))))))))))) ffm (by kernel_rfl) ?_
  refine AtC.start ?_
  refine AtC.pre (fun hle0 => ?_)
  refine AtC.kq (by (first | refine AtT.zk zR ?_ | with_reducible refine AtT.zl zR ?_ | refine AtT.zn zR ?_); exact At.knows) ?_
  refine AtC.kq (by (first | refine AtT.zm tk3 ?_ | refine AtT.zo tk3 ?_); exact At.knows) ?_
  refine AtC.kq (by (refine AtT.qU (bd24_1 _) ?_); exact At.knows) ?_
  refine AtC.kq (by (first | refine AtT.zk zw ?_ | with_reducible refine AtT.zl zw ?_ | refine AtT.zn zw ?_); exact At.knows) ?_
  refine AtC.kq (by (first | refine AtT.zm qa ?_ | refine AtT.zo qa ?_); exact At.knows) ?_
  refine AtC.kq (by (first | refine AtT.zk zR ?_ | with_reducible refine AtT.zl zR ?_ | refine AtT.zn zR ?_); exact At.knows) ?_
  refine AtC.kq (by (first | refine AtT.zm tk3 ?_ | refine AtT.zo tk3 ?_); exact At.knows) ?_
  refine AtC.kq (by (refine AtT.qU (bd24_0_1 _ _ _ _) ?_); exact At.knows) ?_
  refine AtC.als2 ⟨⟨_, _, _, _, rfl, z24, rfl, by decide⟩, ⟨_, _, _, _, rfl, z24, rfl, by decide⟩, trivial⟩ (by decide) (by decide) (AtC.sub1 Pt.zI (by first | exact Le.refl _ | assumption | exact Le.trans (by assumption) (by assumption)) (by assumption)) ?_
  intro b5 b6
  refine AtC.nz ?_
  refine AtT.zW zx ?_
  refine AtC.kgo ?_
  refine AtC.nz ?_
  refine AtT.zW zx ?_
  refine AtC.kgo ?_
  refine AtC.done ?_
  refine At.nrm ?_
  all_goals exact At.qf (b5, b6) (Le.refl _) ⟨rfl, rfl, rfl, rfl, trivial⟩ Pt.zI
 rintro ⟨b5, b6⟩ V3 ks' O' hV3 hk2 hO hl3
 dsimp only at hk2 hO
 subst hk2 hO
 refine At.nrm ?_
 refine At.zi (.q 0 .done) ?_
 refine AtT.zh ?_
 refine AtT.done ?_
 refine At.nrm ?_
 refine At.newRow 9 1 ?_
 refine At.lp (ι := Nat × Option Addr × Nat) (KS := fun g => [(2, .pointer (some ⟨b2, 0, none⟩)), (3, .pointer (some ⟨b3, 0, none⟩)), (5, .pointer (some ⟨b5, 0, none⟩)), (6, .pointer (some ⟨b6, 0, none⟩)), (7, iv g.1)])
  (OS := fun g => [.blk b2 (LC [.slice a s.rows.length c, iv s.most] 24), .blk b3 (LC [.slice a1 t.rows.length c1, iv t.most] 24), .blk b5 (LC [.slice g.2.1 g.1 g.2.2, iv s.most] 24), .blk b6 (LC [.slice a1 t.rows.length c1, iv s.most] 24), .row (.slice g.2.1 g.1 g.2.2) 9 1 g.1 (flat bse ((bsS s t).rows.take g.1))])
  (VS := fun g V' => Le V V' ∧ g.1 ≤ s.rows.length) (μ := fun g => s.rows.length - g.1) (0, none, 0) ?_ ?_ ?_ ?_
 ·exact ⟨rfl, rfl, rfl, rfl, rfl, trivial⟩
 ·exact Pt.zI
 ·exact ⟨hV3, Nat.zero_le _⟩
 rintro ⟨k, ao, co⟩ V' ks' O' ⟨hVV, hkl⟩ hk hO hl4
 dsimp only at hkl hk hO
 subst hk hO
 have hs' := hs.le hVV
 have hs1' := hs1.le hVV
 refine At.nrm ?_
 refine At.zi (.q 0 (.q 1 (.q 2 (.q 3 (.q 4 .done))))) ?_
 refine AtT.zf ?_
 first | refine AtT.zk zw ?_ | with_reducible refine AtT.zl zw ?_ | refine AtT.zn zw ?_
 first | refine AtT.zm qa ?_ | refine AtT.zo qa ?_
 first | refine AtT.zU Tryz.underlying22 ?_ | refine AtT.zV Tryz.underlying22 ?_
 refine AtT.zY ?_
 refine AtT.done ?_
 refine At.nrm ?_
 refine At.zX rfl (fun hp => ?_) (fun hp => ?_)
 ·have hr1 := rwS_at (s := s) (i := k) (by omega)
  have hr2 := rwS_at (s := t) (i := k) (by omega)
  have z1 := rwS_sz hok (i := k) (by omega)
  have z2 := rwS_sz tok (i := k) (by omega)
  have z3 : (⟨#[35]⟩ : ByteArray).size = 1 := rfl
  have z4 : (rwS s k ++ (⟨#[35]⟩ : ByteArray)).size = wdS s + 1 := by rw [ByteArray.size_append, z1]; rfl
  have hcat := bs_cat (rwS s k) (rwS t k)
  have hat := bs_at (s := s) (t := t) (k := k) (by omega)
  refine At.nrm ?_
  refine At.draw (.q 0 (.q 1 (.q 2 (.q 3 (.q 4 (.q 5 (.q 6 (.q 7 (.q 8 (.q 9 (.q 10 (.q 11 (.q 12 (.q 13 (.n false 14 (.n true 15 (.q 16 (.n true 17 .done)))))))))))))))))) ffm (by kernel_rfl) ?_
  first | refine AtT.zk zw ?_ | with_reducible refine AtT.zl zw ?_ | refine AtT.zn zw ?_
  first | refine AtT.zm qa ?_ | refine AtT.zo qa ?_
  first | refine AtT.zk zw ?_ | with_reducible refine AtT.zl zw ?_ | refine AtT.zn zw ?_
  first | refine AtT.zm qa ?_ | refine AtT.zo qa ?_
  refine AtT.zf ?_
  refine AtT.qi Tryz.underlying22 tk9 ?_
  intro p70 e70 he70 hc70
  first | refine AtT.zm tk9 ?_ | refine AtT.zo tk9 ?_
  obtain rfl : rwS s k = e70 := by have : s.rows[k]? = some e70 := (by simpa using he70); rw [hr1] at this; simpa using this
  refine AtT.catS rfl trivial rfl rfl (by omega) (by decide) ?_
  first | refine AtT.zk zw ?_ | with_reducible refine AtT.zl zw ?_ | refine AtT.zn zw ?_
  first | refine AtT.zm qa ?_ | refine AtT.zo qa ?_
  refine AtT.zf ?_
  refine AtT.qi Tryz.underlying22 tk9 ?_
  intro p76 e76 he76 hc76
  first | refine AtT.zm tk9 ?_ | refine AtT.zo tk9 ?_
  obtain rfl : rwS t k = e76 := by have : t.rows[k]? = some e76 := (by simpa using he76); rw [hr2] at this; simpa using this
  refine AtT.catS rfl trivial rfl rfl (by omega) (by decide) ?_
  rw [hcat]
  refine AtT.zB (bs22_1_0 _) ?_
  intro q79 V79 hV79 hq79
  have g79 : Le V V79 := by first | exact hV79 | exact Le.trans (by assumption) hV79
  first | refine AtT.jC Tryz.underlying22 rw9 ?_
  intro a80 c80
  first | refine AtT.zk zw ?_ | with_reducible refine AtT.zl zw ?_ | refine AtT.zn zw ?_
  first | refine AtT.jk qa ?_ | refine AtT.zW qa ?_
  refine AtT.done ?_
  refine At.nrm ?_
  refine At.nrm ?_
  refine At.zi (.q 0 (.q 1 (.q 2 .done))) ?_
  refine AtT.zf ?_
  first | refine AtT.qh ?_ | refine AtT.zT ?_
  refine AtT.zh ?_
  refine AtT.done ?_
  refine At.nrm ?_
  all_goals refine At.round (k + 1, a80, c80) ?_ ?_ ?_ ?_
  ·show s.rows.length - (k + 1) < s.rows.length - k; omega
  ·exact ⟨hVV.trans (by first | assumption | exact Le.refl _ | exact Le.trans (by assumption) (by assumption)), by dsimp only; omega⟩
  ·exact ⟨rfl, rfl, rfl, rfl, ivs (by dsimp only; omega), trivial⟩
  ·dsimp only; rw [hat, jm]; exact Pt.zI
 obtain rfl : k = s.rows.length := by omega
 have htk : (bsS s t).rows.take s.rows.length = (bsS s t).rows := by rw [← hbl, List.take_length]
 refine At.nrm ?_
 refine At.giveSl (l := (bsS s t).rows.take s.rows.length) (m := s.rows.length) bse_len rfl (bs_tk (s := s) (t := t) (Nat.le_refl _)).symm zZ.zI (fun V6 hV6 hs6 => ?_)
 rw [htk] at hs6
 have hvx : ∀ {W : View}, Sl W bse 1 (.slice ao s.rows.length co) (bsS s t).rows → ShV W (.agg #[.slice ao s.rows.length co, iv s.most]) (bsS s t) := fun h => ⟨ao, co, by rw [hbl]; rfl, by rw [hbl]; exact h⟩
 replace hs := hs'.le hV6
 replace hs1 := hs1'.le hV6
 clear hs' hs1' hu hv
 have hvs : ∀ {W : View}, Sl W bse 1 (.slice a s.rows.length c) s.rows → ShV W (.agg #[.slice a s.rows.length c, iv s.most]) s := fun h => ⟨a, c, rfl, h⟩
 refine At.zi (.q 0 (.n false 1 (.q 2 .done))) ?_
 first | refine AtT.zu zx ?_ | refine AtT.zC zx ?_ | refine AtT.zt zx ?_
 refine AtT.zq rfl rfl ok43 (fine_f (bsS s t) _ _ (hvx hs6)) ?_
 rintro _ rfl
 refine AtT.jh ?_
 refine AtT.done ?_
 refine At.nrm ?_
 by_cases gx : (!grB (bsS s t) && decide (chE (bsS s t) = 0)) = true
 rotate_left
 ·refine At.qB rfl (by rw [fine_no gx]; rfl) ?_
  refine At.nrm ?_
  refine At.zi (.n false 0 (.q 1 .done)) ?_
  refine AtT.zq rfl rfl ok16 (works_f _) ?_
  rintro _ rfl
  refine AtT.zh ?_
  refine AtT.done ?_
  refine At.nrm ?_
  exact At.qd rfl (.tmp rfl) rfl
 obtain ⟨_, x0⟩ := fine_ok gx
 have xok := jl x0
 refine At.qE rfl (by rw [gx]; rfl) ?_
 refine At.nrm ?_
 refine At.zi (.q 0 (.n false 1 (.q 2 (.q 3 (.q 4 (.q 5 (.q 6 (.q 7 (.q 8 (.q 9 (.q 10 .done))))))))))) ?_
 first | refine AtT.zu zx ?_ | refine AtT.zC zx ?_ | refine AtT.zt zx ?_
 refine AtT.qg rfl rfl ok45 (few_f s h0 _ _ (hvs hs)) ?_
 rintro _ V88 hV88 ⟨a88, c88, ps, rfl, hs88, hm⟩
 refine AtT.zf ?_
 refine AtT.zO ?_
 refine AtT.zO ?_
 refine AtT.zO ?_
 refine AtT.zO ?_
 refine AtT.zh ?_
 refine AtT.zh ?_
 refine AtT.zh ?_
 refine AtT.zh ?_
 refine AtT.done ?_
 refine At.nrm ?_
 replace hs := hs.le hV88
 replace hs1 := hs1.le hV88
 replace hs6 := hs6.le hV88
 clear hV88
 refine At.zi (.q 0 (.n false 1 (.q 2 (.q 3 (.q 4 (.q 5 (.q 6 (.q 7 (.q 8 (.q 9 (.q 10 .done))))))))))) ?_
 first | refine AtT.zu zx ?_ | refine AtT.zC zx ?_ | refine AtT.zt zx ?_
 refine AtT.qg rfl rfl ok45 (few_f (yS s t) y0 _ _ (hvy hs1)) ?_
 rintro _ V95 hV95 ⟨a95, c95, qs, rfl, hs95, hmy⟩
 refine AtT.zf ?_
 refine AtT.zO ?_
 refine AtT.zO ?_
 refine AtT.zO ?_
 refine AtT.zO ?_
 refine AtT.zh ?_
 refine AtT.zh ?_
 refine AtT.zh ?_
 refine AtT.zh ?_
 refine AtT.done ?_
 refine At.nrm ?_
 replace hs := hs.le hV95
 replace hs1 := hs1.le hV95
 replace hs6 := hs6.le hV95
 clear hV95
 refine At.zi (.q 0 (.n false 1 (.q 2 (.q 3 (.q 4 (.q 5 (.q 6 (.q 7 (.q 8 (.q 9 (.q 10 .done))))))))))) ?_
 first | refine AtT.zu zx ?_ | refine AtT.zC zx ?_ | refine AtT.zt zx ?_
 refine AtT.qg rfl rfl ok45 (few_f (bsS s t) x0 _ _ (hvx hs6)) ?_
 rintro _ V102 hV102 ⟨a102, c102, rs, rfl, hs102, hmx⟩
 refine AtT.zf ?_
 refine AtT.zO ?_
 refine AtT.zO ?_
 refine AtT.zO ?_
 refine AtT.zO ?_
 refine AtT.zh ?_
 refine AtT.zh ?_
 refine AtT.zh ?_
 refine AtT.zh ?_
 refine AtT.done ?_
 refine At.nrm ?_
 replace hs := hs.le hV102
 replace hs1 := hs1.le hV102
 replace hs6 := hs6.le hV102
 clear hV102
 obtain ⟨e1, e2⟩ := best_uniq hmx.best (bs_best hok tok xok hn hm.best hmy.best)
 have k1 := best_le_len (sh_gok hok) (kn_on hok) (kn_fig hok) hm.best
 have k2 := best_le_len (sh_gok yok) (kn_on yok) (kn_fig yok) hmy.best
 have k3 := arL_bd (sh_gok hok) hm.mends.lies
 have k4 := arL_bd (sh_gok yok) hmy.mends.lies
 have k5 := hok.kn
 have k6 := yok.kn
 refine At.zi (.q 0 (.n false 1 (.q 2 (.q 3 (.q 4 (.q 5 (.q 6 .done))))))) ?_
 first | refine AtT.zu zx ?_ | refine AtT.zC zx ?_ | refine AtT.zt zx ?_
 refine AtT.qg rfl rfl ok28 (aloneP_f s _ _ (hvs hs)) ?_
 rintro _ V109 hV109 ⟨u109, rfl, hu109⟩; rw [h0]
 refine AtT.zf ?_
 refine AtT.zO ?_
 refine AtT.zO ?_
 refine AtT.zh ?_
 refine AtT.zh ?_
 refine AtT.done ?_
 refine At.nrm ?_
 rw [if_pos h0] at hu109
 replace hs := hs.le hV109
 replace hs1 := hs1.le hV109
 replace hs6 := hs6.le hV109
 clear hV109
 refine At.zi (.q 0 (.n false 1 (.q 2 (.q 3 (.q 4 (.q 5 (.q 6 .done))))))) ?_
 first | refine AtT.zu zx ?_ | refine AtT.zC zx ?_ | refine AtT.zt zx ?_
 refine AtT.qg rfl rfl ok28 (aloneP_f (yS s t) _ _ (hvy hs1)) ?_
 rintro _ V114 hV114 ⟨u114, rfl, hu114⟩; rw [y0]
 refine AtT.zf ?_
 refine AtT.zO ?_
 refine AtT.zO ?_
 refine AtT.zh ?_
 refine AtT.zh ?_
 refine AtT.done ?_
 refine At.nrm ?_
 rw [if_pos y0] at hu114
 replace hs := hs.le hV114
 replace hs1 := hs1.le hV114
 replace hs6 := hs6.le hV114
 replace hu109 := hu109.le hV114
 clear hV114
 refine At.zi (.q 0 (.n false 1 (.q 2 (.q 3 (.q 4 (.q 5 (.q 6 .done))))))) ?_
 first | refine AtT.zu zx ?_ | refine AtT.zC zx ?_ | refine AtT.zt zx ?_
 refine AtT.qg rfl rfl ok28 (aloneP_f (bsS s t) _ _ (hvx hs6)) ?_
 rintro _ V119 hV119 ⟨u119, rfl, hu119⟩; rw [x0]
 refine AtT.zf ?_
 refine AtT.zO ?_
 refine AtT.zO ?_
 refine AtT.zh ?_
 refine AtT.zh ?_
 refine AtT.done ?_
 refine At.nrm ?_
 rw [if_pos x0] at hu119
 replace hs := hs.le hV119
 replace hs1 := hs1.le hV119
 replace hs6 := hs6.le hV119
 replace hu109 := hu109.le hV119
 replace hu114 := hu114.le hV119
 clear hV119
 have eA := alM_uniq (alM_of xok) (bs_alM hok tok xok hn (alM_of hok) (alM_of yok))
 refine At.zi (.q 0 (.n false 1 (.q 2 (.q 3 (.q 4 (.q 5 (.q 6 .done))))))) ?_
 first | refine AtT.zu zx ?_ | refine AtT.zC zx ?_ | refine AtT.zt zx ?_
 refine AtT.qg rfl rfl ok30 (partsP_f s _ _ (hvs hs)) ?_
 rintro _ V124 hV124 ⟨u124, l1, rfl, hu124, hr124⟩; rw [h0]
 refine AtT.zf ?_
 refine AtT.zO ?_
 refine AtT.zO ?_
 refine AtT.zh ?_
 refine AtT.zh ?_
 refine AtT.done ?_
 refine At.nrm ?_
 replace hs := hs.le hV124
 replace hs1 := hs1.le hV124
 replace hs6 := hs6.le hV124
 replace hu109 := hu109.le hV124
 replace hu114 := hu114.le hV124
 replace hu119 := hu119.le hV124
 clear hV124
 refine At.zi (.q 0 (.n false 1 (.q 2 (.q 3 (.q 4 (.q 5 (.q 6 .done))))))) ?_
 first | refine AtT.zu zx ?_ | refine AtT.zC zx ?_ | refine AtT.zt zx ?_
 refine AtT.qg rfl rfl ok30 (partsP_f (yS s t) _ _ (hvy hs1)) ?_
 rintro _ V129 hV129 ⟨u129, l2, rfl, hu129, hr129⟩; rw [y0]
 refine AtT.zf ?_
 refine AtT.zO ?_
 refine AtT.zO ?_
 refine AtT.zh ?_
 refine AtT.zh ?_
 refine AtT.done ?_
 refine At.nrm ?_
 replace hs := hs.le hV129
 replace hs1 := hs1.le hV129
 replace hs6 := hs6.le hV129
 replace hu109 := hu109.le hV129
 replace hu114 := hu114.le hV129
 replace hu119 := hu119.le hV129
 replace hu124 := hu124.le hV129
 clear hV129
 refine At.zi (.q 0 (.n false 1 (.q 2 (.q 3 (.q 4 (.q 5 (.q 6 .done))))))) ?_
 first | refine AtT.zu zx ?_ | refine AtT.zC zx ?_ | refine AtT.zt zx ?_
 refine AtT.qg rfl rfl ok30 (partsP_f (bsS s t) _ _ (hvx hs6)) ?_
 rintro _ V134 hV134 ⟨u134, l3, rfl, hu134, hr134⟩; rw [x0]
 refine AtT.zf ?_
 refine AtT.zO ?_
 refine AtT.zO ?_
 refine AtT.zh ?_
 refine AtT.zh ?_
 refine AtT.done ?_
 refine At.nrm ?_
 replace hu109 := hu109.le hV134
 replace hu114 := hu114.le hV134
 replace hu119 := hu119.le hV134
 replace hu124 := hu124.le hV134
 replace hu129 := hu129.le hV134
 clear hV134
 obtain ⟨r1, hr1, hr1l⟩ := prt_len hok (pr_ok h0 hr124)
 obtain ⟨r2, hr2, hr2l⟩ := prt_len yok (pr_ok y0 hr129)
 obtain ⟨r3, hr3, hr3l⟩ := prt_len xok (pr_ok x0 hr134)
 obtain ⟨r4, hr4, hr4l⟩ := bs_rps hok tok xok hn hr1 hr2
 have eP := rps_uniq hr3 hr4
 obtain ⟨a109, c109, rfl, k1', k2', _⟩ := id hu109
 obtain ⟨a114, c114, rfl, k1', k2', _⟩ := id hu114
 obtain ⟨a119, c119, rfl, k1', k2', _⟩ := id hu119
 obtain ⟨q1, hq1, hq1l, _⟩ := id hu124
 obtain ⟨q2, hq2, hq2l, _⟩ := id hu129
 obtain ⟨q3, hq3, hq3l, _⟩ := id hu134
 obtain ⟨a124, c124, rfl, k1', k2', _⟩ := id hq1
 obtain ⟨a129, c129, rfl, k1', k2', _⟩ := id hq2
 obtain ⟨a134, c134, rfl, k1', k2', _⟩ := id hq3
 have m1 := hu109.jq
 have w1 := al_mends (sh_gok hok) (kn_on hok) (aloL_is s).1 hm.mends
 have w2 := al_mends (sh_gok yok) (kn_on yok) (aloL_is (yS s t)).1 hmy.mends
 have p1 := rps_cnt hok hr1
 have p2 := rps_cnt yok hr2
 refine At.zi (.q 0 (.q 1 (.q 2 (.q 3 (.q 4 (.q 5 (.q 6 (.q 7 (.q 8 (.q 9 (.q 10 (.q 11 (.q 12 (.q 13 (.q 14 (.q 15 (.q 16 (.q 17 (.q 18 (.q 19 (.q 20 (.q 21 (.q 22 (.q 23 (.q 24 (.q 25 (.q 26 (.q 27 (.q 28 (.q 29 (.q 30 (.q 31 (.q 32 (.q 33 (.q 34 (.q 35 (.q 36 (.q 37 (.q 38 (.q 39 (.q 40 (.q 41 (.q 42 (.q 43 (.q 44 (.q 45 (.q 46 (.q 47 (.q 48 (.q 49 (.q 50 (.q 51 (.q 52 (.q 53 (.q 54 (.q 55 (.q 56 (.q 57 (.q 58 (.q 59 (.q 60 (.q 61 (.q 62 (.q 63 (.q 64 (.q 65 (.n false 66 (.q 67 (.q 68 .done))))))))))))))))))))))))))))))))))))))))))))))))))))))))))))))))))))) ?_
 refine AtT.zf ?_
 refine AtT.zf ?_
 refine AtT.setB (d := 138) rfl (rfl) ?_
 all_goals (first | refine AtT.kL 138 ?_ | refine AtT.zA (d := 138) rfl (fun hg138 => ?_) (fun hg138 => ?_) | refine AtT.zz (d := 138) rfl (fun hg138 => ?_) (fun hg138 => ?_))
 all_goals first|refine AtT.zg ?_|refine AtT.ze ?_|(refine AtT.zf ?_)
 all_goals (refine AtT.setB (d := 139) rfl (rfl) ?_)
 all_goals (refine AtT.zy ?_)
 all_goals (refine AtT.zf ?_)
 all_goals (first | refine AtT.kL 141 ?_ | refine AtT.zA (d := 141) rfl (fun hg141 => ?_) (fun hg141 => ?_) | refine AtT.zz (d := 141) rfl (fun hg141 => ?_) (fun hg141 => ?_))
 all_goals first|refine AtT.zg ?_|refine AtT.ze ?_|(refine AtT.zf ?_)
 all_goals (refine AtT.setB (d := 142) rfl (rfl) ?_)
 all_goals (refine AtT.zy ?_)
 all_goals (refine AtT.zf ?_)
 all_goals (first | refine AtT.kL 144 ?_ | refine AtT.zA (d := 144) rfl (fun hg144 => ?_) (fun hg144 => ?_) | refine AtT.zz (d := 144) rfl (fun hg144 => ?_) (fun hg144 => ?_))
 all_goals first|refine AtT.zg ?_|refine AtT.ze ?_|(refine AtT.zf ?_)
 all_goals first|refine AtT.zg ?_|refine AtT.ze ?_|(refine AtT.zf ?_)
 all_goals first|refine AtT.zg ?_|refine AtT.ze ?_|(refine AtT.zf ?_)
 all_goals first|refine AtT.zg ?_|refine AtT.ze ?_|(first | refine AtT.qh ?_ | refine AtT.zT ?_)
 all_goals first|refine AtT.zg ?_|refine AtT.ze ?_|(refine AtT.qK ?_)
 all_goals (refine AtT.qp (d := 149) rfl ((by omega)) ?_)
 all_goals (refine AtT.zy ?_)
 all_goals (refine AtT.zf ?_)
 all_goals (first | refine AtT.kL 151 ?_ | refine AtT.zA (d := 151) rfl (fun hg151 => ?_) (fun hg151 => ?_) | refine AtT.zz (d := 151) rfl (fun hg151 => ?_) (fun hg151 => ?_))
 all_goals first|refine AtT.zg ?_|refine AtT.ze ?_|(refine AtT.zf ?_)
 all_goals first|refine AtT.zg ?_|refine AtT.ze ?_|(refine AtT.zf ?_)
 all_goals first|refine AtT.zg ?_|refine AtT.ze ?_|(refine AtT.zf ?_)
 all_goals first|refine AtT.zg ?_|refine AtT.ze ?_|(first | refine AtT.qh ?_ | refine AtT.zT ?_)
 all_goals first|refine AtT.zg ?_|refine AtT.ze ?_|(refine AtT.qK ?_)
 all_goals (refine AtT.qp (d := 156) rfl ((by omega)) ?_)
 all_goals (refine AtT.zy ?_)
 all_goals (refine AtT.zf ?_)
 all_goals (first | refine AtT.kL 158 ?_ | refine AtT.zA (d := 158) rfl (fun hg158 => ?_) (fun hg158 => ?_) | refine AtT.zz (d := 158) rfl (fun hg158 => ?_) (fun hg158 => ?_))
 all_goals first|refine AtT.zg ?_|refine AtT.ze ?_|(refine AtT.zf ?_)
 all_goals first|refine AtT.zg ?_|refine AtT.ze ?_|(refine AtT.qK ?_)
 all_goals (refine AtT.qp (d := 160) rfl (rfl) ?_)
 all_goals (refine AtT.zy ?_)
 all_goals (refine AtT.zf ?_)
 all_goals (first | refine AtT.kL 162 ?_ | refine AtT.zA (d := 162) rfl (fun hg162 => ?_) (fun hg162 => ?_) | refine AtT.zz (d := 162) rfl (fun hg162 => ?_) (fun hg162 => ?_))
 all_goals first|refine AtT.zg ?_|refine AtT.ze ?_|(refine AtT.zf ?_)
 all_goals first|refine AtT.zg ?_|refine AtT.ze ?_|(refine AtT.qK ?_)
 all_goals (refine AtT.qp (d := 164) rfl (rfl) ?_)
 all_goals (refine AtT.zy ?_)
 all_goals (refine AtT.zf ?_)
 all_goals (first | refine AtT.kL 166 ?_ | refine AtT.zA (d := 166) rfl (fun hg166 => ?_) (fun hg166 => ?_) | refine AtT.zz (d := 166) rfl (fun hg166 => ?_) (fun hg166 => ?_))
 all_goals first|refine AtT.zg ?_|refine AtT.ze ?_|(refine AtT.zf ?_)
 all_goals first|refine AtT.zg ?_|refine AtT.ze ?_|(refine AtT.qK ?_)
 all_goals (refine AtT.qp (d := 168) rfl (rfl) ?_)
 all_goals (refine AtT.zy ?_)
 all_goals (refine AtT.zf ?_)
 all_goals (first | refine AtT.kL 170 ?_ | refine AtT.zA (d := 170) rfl (fun hg170 => ?_) (fun hg170 => ?_) | refine AtT.zz (d := 170) rfl (fun hg170 => ?_) (fun hg170 => ?_))
 all_goals first|refine AtT.zg ?_|refine AtT.ze ?_|(refine AtT.zf ?_)
 all_goals first|refine AtT.zg ?_|refine AtT.ze ?_|(first | refine AtT.zU Tryz.underlying39 ?_ | refine AtT.zV Tryz.underlying39 ?_)
 all_goals first|refine AtT.zg ?_|refine AtT.ze ?_|(refine AtT.zf ?_)
 all_goals first|refine AtT.zg ?_|refine AtT.ze ?_|(first | refine AtT.zU Tryz.underlying39 ?_ | refine AtT.zV Tryz.underlying39 ?_)
 all_goals first|refine AtT.zg ?_|refine AtT.ze ?_|(refine AtT.zf ?_)
 all_goals first|refine AtT.zg ?_|refine AtT.ze ?_|(first | refine AtT.zU Tryz.underlying39 ?_ | refine AtT.zV Tryz.underlying39 ?_)
 all_goals first|refine AtT.zg ?_|refine AtT.ze ?_|(first | refine AtT.qh ?_ | refine AtT.zT ?_)
 all_goals first|refine AtT.zg ?_|refine AtT.ze ?_|(refine AtT.qK ?_)
 all_goals (refine AtT.qp (d := 178) rfl ((by omega)) ?_)
 all_goals (refine AtT.zy ?_)
 all_goals (refine AtT.zf ?_)
 all_goals (first | refine AtT.kL 180 ?_ | refine AtT.zA (d := 180) rfl (fun hg180 => ?_) (fun hg180 => ?_) | refine AtT.zz (d := 180) rfl (fun hg180 => ?_) (fun hg180 => ?_))
 all_goals first|refine AtT.zg ?_|refine AtT.ze ?_|(refine AtT.zf ?_)
 all_goals first|refine AtT.zg ?_|refine AtT.ze ?_|(refine AtT.qK ?_)
 all_goals (refine AtT.qp (d := 182) rfl (rfl) ?_)
 all_goals (refine AtT.zy ?_)
 all_goals (refine AtT.zf ?_)
 all_goals (first | refine AtT.kL 184 ?_ | refine AtT.zA (d := 184) rfl (fun hg184 => ?_) (fun hg184 => ?_) | refine AtT.zz (d := 184) rfl (fun hg184 => ?_) (fun hg184 => ?_))
 all_goals first|refine AtT.zg ?_|refine AtT.ze ?_|(refine AtT.zf ?_)
 all_goals first|refine AtT.zg ?_|refine AtT.ze ?_|(refine AtT.qK ?_)
 all_goals (refine AtT.qp (d := 186) rfl (rfl) ?_)
 all_goals (refine AtT.zy ?_)
 all_goals (refine AtT.zf ?_)
 all_goals (first | refine AtT.kL 188 ?_ | refine AtT.zA (d := 188) rfl (fun hg188 => ?_) (fun hg188 => ?_) | refine AtT.zz (d := 188) rfl (fun hg188 => ?_) (fun hg188 => ?_))
 all_goals first|refine AtT.zg ?_|refine AtT.ze ?_|(refine AtT.zf ?_)
 all_goals first|refine AtT.zg ?_|refine AtT.ze ?_|(refine AtT.qK ?_)
 all_goals (refine AtT.qp (d := 190) rfl (rfl) ?_)
 all_goals (refine AtT.zy ?_)
 all_goals (refine AtT.zf ?_)
 all_goals (first | refine AtT.kL 192 ?_ | refine AtT.zA (d := 192) rfl (fun hg192 => ?_) (fun hg192 => ?_) | refine AtT.zz (d := 192) rfl (fun hg192 => ?_) (fun hg192 => ?_))
 all_goals first|refine AtT.zg ?_|refine AtT.ze ?_|(refine AtT.zf ?_)
 all_goals first|refine AtT.zg ?_|refine AtT.ze ?_|(first | refine AtT.zU Tryz.underlying42 ?_ | refine AtT.zV Tryz.underlying42 ?_)
 all_goals first|refine AtT.zg ?_|refine AtT.ze ?_|(refine AtT.zf ?_)
 all_goals first|refine AtT.zg ?_|refine AtT.ze ?_|(first | refine AtT.zU Tryz.underlying42 ?_ | refine AtT.zV Tryz.underlying42 ?_)
 all_goals first|refine AtT.zg ?_|refine AtT.ze ?_|(refine AtT.zf ?_)
 all_goals first|refine AtT.zg ?_|refine AtT.ze ?_|(first | refine AtT.zU Tryz.underlying42 ?_ | refine AtT.zV Tryz.underlying42 ?_)
 all_goals first|refine AtT.zg ?_|refine AtT.ze ?_|(first | refine AtT.qh ?_ | refine AtT.zT ?_)
 all_goals first|refine AtT.zg ?_|refine AtT.ze ?_|(refine AtT.qK ?_)
 all_goals (refine AtT.qp (d := 200) rfl ((by omega)) ?_)
 all_goals (refine AtT.zy ?_)
 all_goals (refine AtT.zf ?_)
 all_goals (first | refine AtT.kL 202 ?_ | refine AtT.zA (d := 202) rfl (fun hg202 => ?_) (fun hg202 => ?_) | refine AtT.zz (d := 202) rfl (fun hg202 => ?_) (fun hg202 => ?_))
 all_goals (first | refine AtT.zP ?_ | refine AtT.zJ ?_ | ((refine AtT.zq rfl rfl ok16 (works_f _) ?_) ; (rintro _ rfl)))
 all_goals (refine AtT.zy ?_)
 all_goals (refine AtT.zh ?_)
 all_goals refine AtT.done ?_
 all_goals (refine At.nrm ?_)
 exact At.qd rfl (.tmp rfl) rfl
end Go.Proofs.YtghomjjffllkeaaGreatDoor
set_option linter.unusedVariables false
namespace Go.Proofs.YtghomjjffllkeaaGreatDoor.c11
open Go.Lw Go.Gl Go.Pm Go.RowKit Go.ChangeShapes Go.WideShapes Go.ChangeAt
set_option maxRecDepth 100000 in
theorem lifted (os : Os) (started : os.Started) (H : Type) (enc : TypeId × Value → H) :
    ReturnsInHanded {} Tryz.checked os 13 .any (fun w args => (Rows.patchBesideSpec.pre enc Tryz.prog Tryz.f13 [] false w args ∧ laidMetH Tryz.prog seatLaid w) ∧ sizedMet enc Tryz.prog Tryz.f13 (OpenSpec.ofChange Rows.patchBesideSpec) false w args) (Rows.patchBesideSpec.post enc Tryz.prog Tryz.f13 false true false false) := by
  refine law_liftL (tb := 4) (laid := seatLaid) (fun ds hd => by match ds, hd with | [d0, d1], _ => rfl) rfl (by kernel_rfl) Tryz.underlying4 laidOut (by kernel_rfl) own started (by kernel_rfl) Tryz.func13
    (ChangeSpec.witness_shaped (enc := enc) (C := Tryz.checked) (os := os) (X := fun w _ => laidMetH Tryz.prog seatLaid w) false (World.laidAll Tryz.prog os seatLaid) #[.agg #[.slice none 0 0, .int .i64 0], .agg #[.slice none 0 0, .int .i64 0]] 8 (World.laidAll_os _ _ _)
      (World.shaped_of_ZipB (by kernel_rfl) (by kernel_rfl)) (by kernel_rfl) (by kernel_rfl) (by kernel_rfl) (seat_laid os _)) ?_
  intro W base args ds ps hval hA
  rw [Tryz.params13] at hA hval
  obtain ⟨v0, vs0, d0, ds0, p0, q0, hargs, rfl, rfl, h0, r0⟩ := trodAll_cons hA
  obtain ⟨v1, vs1, d1, ds1, p1, q1, rfl, rfl, rfl, h1, r1⟩ := trodAll_cons r0
  obtain ⟨rfl, rfl, rfl⟩ := trodAll_nil r1
  obtain rfl : args = #[v0, v1] := by cases args; simp_all
  obtain ⟨s0, k0⟩ := open_sheet (hval 0 24 v0 rfl rfl) h0
  obtain ⟨s1, k1⟩ := open_sheet (hval 1 24 v1 rfl rfl) h1
  exact ⟨[v0, v1], rfl, patchBeside_f s0 s1 _ _ _ k0 k1⟩

theorem over : Rows.patchBesideRow.holds Tryz.pinned (OpenSpec.ofChange Rows.patchBesideSpec) :=
  OpenClaim.holds_of_wide 13 Tryz.f13 rfl rfl rfl rfl rfl rfl rfl ⟨rfl, rfl, rfl, rfl, rfl⟩ rfl rfl rfl rfl rfl (by kernel_rfl) Tryz.func13 (by kernel_rfl)
    (of_decide_eq_true (by kernel_rfl)) (by unfold Func.isWrapper; first | (rw [if_pos (by decide +kernel)]; kernel_rfl) | (rw [if_neg (by decide +kernel)]; exact ⟨rfl, rfl⟩))
    (fun os started H enc _ => lifted os started H enc)

theorem proved : Rows.PatchBesideCardSaid :=
  Claim7.holds_tied_plain_at .later [] [.data, .pinned] true (true, "0d2a6361d0117277170b6b99c938bda2455ed98009332320e2a28814b9346cbd") false over (fun _ h => by cases h) (by kernel_rfl) (fun _ h => by cases h) patchBeside_row_tie rfl ⟨rfl, rfl⟩ (by kernel_rfl) rfl
    (fun f fn hf hfn => by
      obtain rfl : f = 13 := Option.some.inj ((show Tryz.prog.funcNamed "crossband/crossbandlaw04.PatchBeside" = some 13 by kernel_rfl).symm.trans hf) |>.symm
      obtain rfl : fn = Tryz.f13 := (Option.some.inj (Tryz.func13.symm.trans hfn)).symm
      exact ⟨by kernel_rfl, fun j t ht => by
        rw [Tryz.params13] at ht
        have hm : t ∈ [24, 24] := by simpa using Array.mem_of_getElem? ht
        have hall : ([24, 24].all fun u => !Tryz.prog.wantsStandIn u) = true := by kernel_rfl
        exact (show Tryz.prog.wantsStandIn t = false by simpa using List.all_eq_true.1 hall t hm)⟩)
    (by kernel_rfl)
#print axioms proved
end Go.Proofs.YtghomjjffllkeaaGreatDoor.c11
