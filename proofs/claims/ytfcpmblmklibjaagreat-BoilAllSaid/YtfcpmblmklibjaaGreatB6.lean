/- Texts that the last one of this claim imports. -/
import Derived.Test.YtfcpmblmklibjaaGreatB5
set_option linter.unusedVariables false
set_option linter.unusedSimpArgs false
set_option linter.unusedSectionVars false
set_option linter.unusedVariables false
namespace Go.Bl
open Go.Gl Go.Lw
/-- Some of those that failed are apart from some causes, and from each other. -/
def apP : Nat → List (Int × Nat) → Prop
  | _, [] => True
  | h, e :: r => mtB e.2 h = false ∧ apP (h ||| e.2) r
theorem aG_ge : ∀ (r : List (Int × Nat)) (b out : List Int) (h : Nat), out.length ≤ (aG r b out h).length
  | [], _, out, _ => Nat.le_refl _
  | (i, s) :: r, b, out, h => by
    cases c : mtB s h with
    | true => rw [aG_meet c]; exact aG_ge r b out h
    | false =>
      by_cases d : out.length < (aG r (b ++ [i]) (b ++ [i]) (h ||| s)).length
      · rw [aG_more c d]; have := aG_ge r b (aG r (b ++ [i]) (b ++ [i]) (h ||| s)) h; omega
      · rw [aG_same c d]; exact aG_ge r b out h
theorem aG_max : ∀ {r sel : List (Int × Nat)} {b out : List Int} {h : Nat}, sel.Sublist r → apP h sel → b.length ≤ out.length → b.length + sel.length ≤ (aG r b out h).length
  | [], sel, b, out, h, hs, ha, hb => by
    have e : sel = [] := List.sublist_nil.1 hs
    subst e; simpa [aG] using hb
  | (i, s) :: r, sel, b, out, h, hs, ha, hb => by
    cases hs with
    | cons _ hs' =>
      cases c : mtB s h with
      | true => rw [aG_meet c]; exact aG_max hs' ha hb
      | false =>
        by_cases d : out.length < (aG r (b ++ [i]) (b ++ [i]) (h ||| s)).length
        · rw [aG_more c d]; exact aG_max hs' ha (by omega)
        · rw [aG_same c d]; exact aG_max hs' ha hb
    | cons_cons _ hs' =>
      obtain ⟨c, ha'⟩ := ha
      dsimp only at c ha'
      have h1 := aG_max (b := b ++ [i]) (out := b ++ [i]) hs' ha' (Nat.le_refl _)
      have hl : (b ++ [i]).length = b.length + 1 := by simp
      rw [List.length_cons]
      by_cases d : out.length < (aG r (b ++ [i]) (b ++ [i]) (h ||| s)).length
      · rw [aG_more c d]; have := aG_ge r b (aG r (b ++ [i]) (b ++ [i]) (h ||| s)) h; omega
      · rw [aG_same c d]; have := aG_ge r b out h; omega
theorem aG_val : ∀ (r : List (Int × Nat)) (b out : List Int) (h : Nat), aG r b out h = out ∨ ∃ sel : List (Int × Nat), sel.Sublist r ∧ apP h sel ∧ aG r b out h = b ++ sel.map (·.1)
  | [], _, out, _ => .inl rfl
  | (i, s) :: r, b, out, h => by
    cases c : mtB s h with
    | true =>
      rw [aG_meet c]
      rcases aG_val r b out h with e | ⟨sel, h1, h2, h3⟩
      · exact .inl e
      · exact .inr ⟨sel, h1.cons _, h2, h3⟩
    | false =>
      by_cases d : out.length < (aG r (b ++ [i]) (b ++ [i]) (h ||| s)).length
      · rw [aG_more c d]
        right
        rcases aG_val r b (aG r (b ++ [i]) (b ++ [i]) (h ||| s)) h with e | ⟨sel, h1, h2, h3⟩
        · rw [e]
          rcases aG_val r (b ++ [i]) (b ++ [i]) (h ||| s) with e | ⟨sel, h1, h2, h3⟩
          · exact ⟨[(i, s)], (List.nil_sublist r).cons_cons _, ⟨c, trivial⟩, by rw [e]; rfl⟩
          · exact ⟨(i, s) :: sel, h1.cons_cons _, ⟨c, h2⟩, by rw [h3]; simp⟩
        · exact ⟨sel, h1.cons _, h2, h3⟩
      · rw [aG_same c d]
        rcases aG_val r b out h with e | ⟨sel, h1, h2, h3⟩
        · exact .inl e
        · exact .inr ⟨sel, h1.cons _, h2, h3⟩
theorem prR_mem : ∀ {n : Nat} {L : List Int} {i : Int} {s : Nat}, (i, s) ∈ prR n L ↔ ∃ k : Nat, L[k]? = some (s : Int) ∧ i = ((n + k : Nat) : Int)
  | n, [], i, s => by simp [prR]
  | n, x :: l, i, s => by
    have ih := prR_mem (n := n + 1) (L := l) (i := i) (s := s)
    constructor
    · intro h
      have key : (i, s) ∈ prR (n + 1) l → ∃ k : Nat, (x :: l)[k]? = some (s : Int) ∧ i = ((n + k : Nat) : Int) := fun h => by
        obtain ⟨k, h1, h2⟩ := ih.1 h
        exact ⟨k + 1, by simpa using h1, by omega⟩
      simp only [prR] at h
      split at h
      · exact key h
      · rcases List.mem_cons.1 h with h | h
        · obtain ⟨rfl, rfl⟩ := Prod.mk.inj h
          exact ⟨0, by simp; omega, by simp⟩
        · exact key h
    · rintro ⟨k, h1, h2⟩
      cases k with
      | zero =>
        simp at h1; subst h1
        simp only [prR]
        rw [if_neg (by omega)]
        exact List.mem_cons.2 (.inl (by simp [h2]))
      | succ k =>
        have := ih.2 ⟨k, by simpa using h1, by omega⟩
        simp only [prR]
        split
        · exact this
        · exact List.mem_cons_of_mem _ this
theorem prR_pw : ∀ (n : Nat) (L : List Int), (prR n L).Pairwise (fun a b => a.1 < b.1)
  | _, [] => List.Pairwise.nil
  | n, x :: l => by
    have ih := prR_pw (n + 1) l
    simp only [prR]
    split
    · exact ih
    · refine List.pairwise_cons.2 ⟨fun e he => ?_, ih⟩
      obtain ⟨i, s⟩ := e
      obtain ⟨k, _, h2⟩ := prR_mem.1 he
      dsimp only; omega
theorem sub_of : ∀ (r sel : List (Int × Nat)), r.Pairwise (fun a b => a.1 < b.1) → sel.Pairwise (fun a b => a.1 < b.1) → (∀ e ∈ sel, e ∈ r) → sel.Sublist r := by
  intro r
  induction r with
  | nil =>
    intro sel _ _ h
    cases sel with
    | nil => exact List.nil_sublist _
    | cons e sel => exact absurd (h e List.mem_cons_self) List.not_mem_nil
  | cons a r ih =>
    intro sel hr hs h
    cases sel with
    | nil => exact List.nil_sublist _
    | cons e sel =>
      have hr' := List.pairwise_cons.1 hr
      have hs' := List.pairwise_cons.1 hs
      rcases List.mem_cons.1 (h e List.mem_cons_self) with rfl | he
      · refine (ih sel hr'.2 hs'.2 fun x hx => ?_).cons_cons _
        rcases List.mem_cons.1 (h x (List.mem_cons_of_mem _ hx)) with rfl | h2
        · have := hs'.1 x hx; omega
        · exact h2
      · refine (ih (e :: sel) hr'.2 hs fun x hx => ?_).cons _
        rcases List.mem_cons.1 (h x hx) with rfl | h2
        · have h3 := hr'.1 e he
          rcases List.mem_cons.1 hx with rfl | hx
          · omega
          · have := hs'.1 x hx; omega
        · exact h2
theorem ap_suf {L l : List Int} (hd : disB L l = true) : ∀ (suf pre : List Int), l = pre ++ suf → apP (hdK L l pre.length) (suf.map fun i => (i, gtL L i))
  | [], _, _ => trivial
  | x :: suf, pre, h => by
    have hx : l[pre.length]? = some x := by rw [h]; simp
    have ih := ap_suf hd suf (pre ++ [x]) (by rw [h]; simp)
    rw [List.length_append, List.length_singleton, hdK_succ hx] at ih
    exact ⟨dis_at hd hx, ih⟩
theorem ap_at : ∀ {sel : List (Int × Nat)} {h j : Nat} {e : Int × Nat}, apP h sel → sel[j]? = some e → mtB e.2 ((sel.take j).foldl (fun h e => h ||| e.2) h) = false
  | [], _, _, _, _, he => by simp at he
  | a :: sel, h, 0, e, hp, he => by simp at he; subst he; exact hp.1
  | a :: sel, h, j + 1, e, hp, he => by
    rw [List.take_succ_cons, List.foldl_cons]
    exact ap_at hp.2 (by simpa using he)
theorem fold_map {L : List Int} : ∀ (sel : List (Int × Nat)) (h : Nat), (∀ e ∈ sel, gtL L e.1 = e.2) → (sel.map (·.1)).foldl (fun h i => h ||| gtL L i) h = sel.foldl (fun h e => h ||| e.2) h
  | [], _, _ => rfl
  | e :: sel, h, hs => by
    rw [List.map_cons, List.foldl_cons, List.foldl_cons, hs e List.mem_cons_self]
    exact fold_map sel _ fun x hx => hs x (List.mem_cons_of_mem _ hx)
theorem pr_gt {L : List Int} {i : Int} {s : Nat} (h : (i, s) ∈ prR 0 L) : gtL L i = s ∧ 0 ≤ L.getD i.toNat 0 ∧ 0 ≤ i ∧ i < (L.length : Int) := by
  obtain ⟨k, h1, rfl⟩ := prR_mem.1 h
  have hk := (List.getElem?_eq_some_iff.1 h1).1
  have e : (((0 + k : Nat) : Int)).toNat = k := by omega
  have e2 : L.getD k 0 = (s : Int) := by simp [List.getD, h1]
  refine ⟨by unfold gtL; rw [e, e2]; omega, by rw [e, e2]; omega, by omega, by omega⟩
/-- Trials are apart just if they are some of those that failed, and apart. -/
theorem ck_sel {ts : List Tq} {l : List Int} (h : trE ts = 0) : ckR ts l = 0 ↔ ∃ sel : List (Int × Nat), sel.Sublist (prR 0 (lfL ts)) ∧ apP 0 sel ∧ sel.map (·.1) = l := by
  have hll : (lfL ts).length = ts.length := by unfold lfL; rw [List.length_map]
  constructor
  · intro hc
    have h1 : lstB l ts.length = true := by
      cases c : lstB l ts.length with
      | true => rfl
      | false => rw [ckR_arg h c] at hc; cases hc
    have h2 : ngB (lfL ts) l = false := by
      cases c : ngB (lfL ts) l with
      | false => rfl
      | true => rw [ckR_range h h1 c] at hc; cases hc
    have h3 : disB (lfL ts) l = true := by
      cases c : disB (lfL ts) l with
      | true => rfl
      | false => rw [ckR_rule h h1 h2 c] at hc; cases hc
    obtain ⟨hp, hb⟩ := lstB_iff.1 h1
    refine ⟨l.map fun i => (i, gtL (lfL ts) i), sub_of _ _ (prR_pw _ _) (List.pairwise_map.2 hp) fun e he => ?_, ap_suf h3 l [] rfl, by simp [Function.comp_def]⟩
    obtain ⟨x, hx, rfl⟩ := List.mem_map.1 he
    have := hb x hx
    obtain ⟨y, hy⟩ : ∃ y, (lfL ts)[x.toNat]? = some y := ⟨_, List.getElem?_eq_getElem (by omega)⟩
    have hn := ng_at h2 hx
    have e : (lfL ts).getD x.toNat 0 = y := by simp [List.getD, hy]
    rw [e] at hn
    exact prR_mem.2 ⟨x.toNat, by unfold gtL; rw [e, hy]; congr 1; omega, by omega⟩
  · rintro ⟨sel, h1, h2, rfl⟩
    have hin : ∀ e ∈ sel, (e.1, e.2) ∈ prR 0 (lfL ts) := fun e he => h1.subset he
    have hpw : sel.Pairwise (fun a b => a.1 < b.1) := (prR_pw _ _).sublist h1
    refine ckR_ok h (lstB_iff.2 ⟨List.pairwise_map.2 hpw, fun x hx => ?_⟩) (ng_false fun x hx => ?_) (dis_true fun j x hx => ?_)
    · obtain ⟨e, he, rfl⟩ := List.mem_map.1 hx
      have := (pr_gt (hin e he)).2.2; omega
    · obtain ⟨e, he, rfl⟩ := List.mem_map.1 hx
      exact (pr_gt (hin e he)).2.1
    · rw [List.getElem?_map] at hx
      obtain ⟨e, he, rfl⟩ := Option.map_eq_some_iff.1 hx
      have he2 := List.mem_of_getElem? he
      unfold hdK
      rw [(pr_gt (hin e he2)).1, ← List.map_take, fold_map _ _ fun y hy => (pr_gt (hin y (List.mem_of_mem_take hy))).1]
      exact ap_at h2 he
theorem ap_ok {ts : List Tq} (h : trE ts = 0) : ckR ts (aG (prP ts) [] [] 0) = 0 := by
  rw [ck_sel h, prP_eq]
  rcases aG_val (prR 0 (lfL ts)) [] [] 0 with e | ⟨sel, h1, h2, h3⟩
  · exact ⟨[], List.nil_sublist _, trivial, by rw [e]; rfl⟩
  · exact ⟨sel, h1, h2, by rw [h3]; rfl⟩
theorem ap_best {ts : List Tq} {l : List Int} (h : trE ts = 0) (hl : ckR ts l = 0) : l.length ≤ (aG (prP ts) [] [] 0).length := by
  obtain ⟨sel, h1, h2, rfl⟩ := (ck_sel h).1 hl
  have := aG_max (b := []) (out := []) h1 h2 (Nat.le_refl _)
  rw [prP_eq, List.length_map]
  simpa using this
theorem nodup_le {α : Type} [DecidableEq α] : ∀ {l m : List α}, l.Nodup → (∀ x ∈ l, x ∈ m) → l.length ≤ m.length
  | [], _, _, _ => Nat.zero_le _
  | a :: l, m, hn, h => by
    have hn' := List.nodup_cons.1 hn
    have ha := h a List.mem_cons_self
    have := nodup_le (l := l) (m := m.erase a) hn'.2 fun x hx => (List.mem_erase_of_ne (fun e => by subst e; exact hn'.1 hx)).2 (h x (List.mem_cons_of_mem _ hx))
    rw [List.length_erase_of_mem ha] at this
    have := List.length_pos_of_mem ha
    rw [List.length_cons]; omega
theorem ap_bits {x : Nat} (hx : x < 32768) : ∀ {sel : List (Int × Nat)} {h : Nat}, apP h sel → (∀ e ∈ sel, mtB x e.2 = true) → ∃ b : List Int, b.Nodup ∧ b.length = sel.length ∧ ∀ j ∈ b, ∃ i : Nat, j = (i : Int) ∧ i < 15 ∧ x.testBit i = true ∧ h.testBit i = false
  | [], _, _, _ => ⟨[], List.nodup_nil, rfl, fun j hj => by cases hj⟩
  | e :: sel, h, hp, hm => by
    obtain ⟨b, h1, h2, h3⟩ := ap_bits hx hp.2 fun y hy => hm y (List.mem_cons_of_mem _ hy)
    obtain ⟨k, a1, a2⟩ := (mtB_iff _ _).1 (hm e List.mem_cons_self)
    refine ⟨(k : Int) :: b, List.nodup_cons.2 ⟨fun hk => ?_, h1⟩, by simp [h2], fun j hj => ?_⟩
    · obtain ⟨i, e1, _, _, e2⟩ := h3 _ hk
      obtain rfl : k = i := by omega
      rw [Nat.testBit_or, a2, Bool.or_true] at e2; cases e2
    · rcases List.mem_cons.1 hj with rfl | hj
      · exact ⟨k, rfl, lt15_bit hx a1, a1, mtB_no hp.1 a2⟩
      · obtain ⟨i, e1, e2, e3, e4⟩ := h3 j hj
        rw [Nat.testBit_or, Bool.or_eq_false_iff] at e4
        exact ⟨i, e1, e2, e3, e4.1⟩
/-- No explanation has fewer causes than trials that are apart are many. -/
theorem ap_hit {ts : List Tq} {l : List Int} {x : Nat} (h : trE ts = 0) (hl : ckR ts l = 0) (hx : Ex (clA ts) (lsL ts) x) : l.length ≤ cnt x := by
  obtain ⟨sel, h1, h2, rfl⟩ := (ck_sel h).1 hl
  obtain ⟨b, b1, b2, b3⟩ := ap_bits hx.1 h2 fun e he => hx.2.2 _ (by
    have := h1.subset he
    rw [← prP_eq] at this
    exact (List.of_mem_zip this).2)
  rw [List.length_map, ← b2]
  exact nodup_le b1 fun j hj => by
    obtain ⟨i, rfl, i1, i2, _⟩ := b3 j hj
    exact bitL_mem.2 ⟨i, i1, rfl, i2⟩
end Go.Bl
set_option linter.unusedVariables false
namespace Go.Bl
open Go.Gl Go.Lw
def swI (i : Nat) : Nat := if i < 5 then i + 5 else if i < 10 then i - 5 else i
def swN (A : Nat) : Nat := mkM (fun i => A.testBit (swI i)) 15
def swP (p : Pq) : Pq := ⟨p.o, p.m, p.h⟩
def swT (t : Tq) : Tq := ⟨swP t.p, t.f⟩
theorem swI_lt {i : Nat} (h : i < 15) : swI i < 15 := by unfold swI; split <;> (try split) <;> omega
theorem swI_swI (i : Nat) : swI (swI i) = i := by unfold swI; repeat (split <;> try omega)
theorem swN_bit (A i : Nat) : (swN A).testBit i = (decide (i < 15) && A.testBit (swI i)) := mkM_bit _ _ _
theorem swN_lt (A : Nat) : swN A < 32768 := by
  refine Nat.lt_pow_two_of_testBit (n := 15) _ fun i hi => ?_
  rw [swN_bit]; simp; omega
theorem swN_swN {A : Nat} (h : A < 32768) : swN (swN A) = A := by
  refine Nat.eq_of_testBit_eq fun i => ?_
  rw [swN_bit, swN_bit, swI_swI]
  by_cases c : i < 15
  · have := swI_lt c; simp [c, this]
  · cases d : A.testBit i with
    | false => simp
    | true => exact absurd (lt15_bit h d) c
theorem cnt_sum (A : Nat) : cnt A = (if A.testBit 0 = true then 1 else 0) + (if A.testBit 1 = true then 1 else 0) + (if A.testBit 2 = true then 1 else 0) + (if A.testBit 3 = true then 1 else 0) + (if A.testBit 4 = true then 1 else 0) + (if A.testBit 5 = true then 1 else 0) + (if A.testBit 6 = true then 1 else 0) + (if A.testBit 7 = true then 1 else 0) + (if A.testBit 8 = true then 1 else 0) + (if A.testBit 9 = true then 1 else 0) + (if A.testBit 10 = true then 1 else 0) + (if A.testBit 11 = true then 1 else 0) + (if A.testBit 12 = true then 1 else 0) + (if A.testBit 13 = true then 1 else 0) + (if A.testBit 14 = true then 1 else 0) := by
  have h0 : cntK A 0 = 0 := rfl
  unfold cnt
  rw [cntK_succ, cntK_succ, cntK_succ, cntK_succ, cntK_succ, cntK_succ, cntK_succ, cntK_succ, cntK_succ, cntK_succ, cntK_succ, cntK_succ, cntK_succ, cntK_succ, cntK_succ, h0, Nat.zero_add]
theorem cnt_sw (A : Nat) : cnt (swN A) = cnt A := by
  have hb : ∀ i j, i < 15 → swI i = j → (swN A).testBit i = A.testBit j := fun i j hi e => by rw [swN_bit, e]; simp [hi]
  rw [cnt_sum, cnt_sum, hb 0 5 (by decide) rfl, hb 1 6 (by decide) rfl, hb 2 7 (by decide) rfl, hb 3 8 (by decide) rfl, hb 4 9 (by decide) rfl, hb 5 0 (by decide) rfl, hb 6 1 (by decide) rfl, hb 7 2 (by decide) rfl, hb 8 3 (by decide) rfl, hb 9 4 (by decide) rfl, hb 10 10 (by decide) rfl, hb 11 11 (by decide) rfl, hb 12 12 (by decide) rfl, hb 13 13 (by decide) rfl, hb 14 14 (by decide) rfl]
  generalize (if A.testBit 0 = true then 1 else 0) = a0
  generalize (if A.testBit 1 = true then 1 else 0) = a1
  generalize (if A.testBit 2 = true then 1 else 0) = a2
  generalize (if A.testBit 3 = true then 1 else 0) = a3
  generalize (if A.testBit 4 = true then 1 else 0) = a4
  generalize (if A.testBit 5 = true then 1 else 0) = a5
  generalize (if A.testBit 6 = true then 1 else 0) = a6
  generalize (if A.testBit 7 = true then 1 else 0) = a7
  generalize (if A.testBit 8 = true then 1 else 0) = a8
  generalize (if A.testBit 9 = true then 1 else 0) = a9
  omega
theorem snd_sw {p : Pq} (h : sndB p = true) : sndB (swP p) = true := by
  unfold sndB at *; rw [decide_eq_true_eq] at *; unfold swP; dsimp only; omega
theorem cb_sw {p : Pq} (h : sndB p = true) (i : Nat) : (cbN (swP p)).testBit i = (cbN p).testBit (swI i) := by
  have h1 := fun x hx => (caL_in h x hx).1
  have h2 := fun x hx => (caL_in (snd_sw h) x hx).1
  unfold cbN
  rw [Bool.eq_iff_iff, btL_bit h1, btL_bit h2]
  unfold sndB at h
  rw [decide_eq_true_eq] at h
  unfold caL swP swI
  simp only [List.mem_cons, List.not_mem_nil, or_false]
  split
  · omega
  · split <;> omega
theorem mt_sw {p : Pq} (h : sndB p = true) {x : Nat} (hx : x < 32768) : mtB (swN x) (cbN (swP p)) = mtB x (cbN p) := by
  rw [Bool.eq_iff_iff, mtB_iff, mtB_iff]
  constructor
  · rintro ⟨i, a, b⟩
    rw [swN_bit, Bool.and_eq_true] at a
    rw [cb_sw h] at b
    exact ⟨swI i, a.2, b⟩
  · rintro ⟨i, a, b⟩
    have hi := swI_lt (lt15_bit hx a)
    exact ⟨swI i, by rw [swN_bit, swI_swI, a]; simp [hi], by rw [cb_sw h, swI_swI]; exact b⟩
theorem ext_sw {ts ys : List Tq} (ht : ∀ t ∈ ts, sndB t.p = true) (hm : ∀ t, t ∈ ys ↔ ∃ u ∈ ts, t = swT u) {x : Nat} (h : ExT ts x) : ExT ys (swN x) := by
  refine ⟨swN_lt _, fun t htm => ?_⟩
  obtain ⟨u, hu, rfl⟩ := (hm t).1 htm
  show mtB (swN x) (cbN (swP u.p)) = u.f
  rw [mt_sw (ht u hu) h.1]
  exact h.2 u hu
theorem swT_swT (t : Tq) : swT (swT t) = t := rfl
theorem sw_mem {ts ys : List Tq} (hm : ∀ t, t ∈ ys ↔ ∃ u ∈ ts, t = swT u) (t : Tq) : t ∈ ts ↔ ∃ u ∈ ys, t = swT u := by
  constructor
  · intro h; exact ⟨swT t, (hm _).2 ⟨t, h, rfl⟩, rfl⟩
  · rintro ⟨u, hu, rfl⟩
    obtain ⟨v, hv, rfl⟩ := (hm u).1 hu
    exact hv
theorem sw_snd {ts ys : List Tq} (ht : ∀ t ∈ ts, sndB t.p = true) (hm : ∀ t, t ∈ ys ↔ ∃ u ∈ ts, t = swT u) : ∀ t ∈ ys, sndB t.p = true := fun t h => by
  obtain ⟨u, hu, rfl⟩ := (hm t).1 h
  exact snd_sw (ht u hu)
theorem alt_sw {ts ys : List Tq} (ht : ∀ t ∈ ts, sndB t.p = true) (hm : ∀ t, t ∈ ys ↔ ∃ u ∈ ts, t = swT u) {L M : List Nat} (hL : AlT ts L) (hM : AlT ys M) {x : Nat} (hx : x ∈ L) : swN x ∈ M := by
  obtain ⟨a, b⟩ := (hL.mem x).1 hx
  refine (hM.mem _).2 ⟨ext_sw ht hm a, fun y hy => ?_⟩
  have := b _ (ext_sw (sw_snd ht hm) (sw_mem hm) hy)
  rw [cnt_sw] at *
  exact this
theorem alt_len {ts ys : List Tq} (ht : ∀ t ∈ ts, sndB t.p = true) (hm : ∀ t, t ∈ ys ↔ ∃ u ∈ ts, t = swT u) {L M : List Nat} (hL : AlT ts L) (hM : AlT ys M) : L.length ≤ M.length := by
  have hlt : ∀ x ∈ L, x < 32768 := fun x hx => ((hL.mem x).1 hx).1.1
  have hn : (L.map swN).Nodup := List.pairwise_map.2 (hL.nod.imp_of_mem fun {a b} ha hb h e => h (by rw [← swN_swN (hlt a ha), ← swN_swN (hlt b hb), e]))
  have := nodup_le (m := M) hn fun y hy => by
    obtain ⟨x, hx, rfl⟩ := List.mem_map.1 hy
    exact alt_sw ht hm hL hM hx
  rwa [List.length_map] at this
/-- The list that is turned, by three parts. -/
def tu1 (l : List Int) : List Int := (l.filter fun x => decide (5 ≤ x ∧ x < 10)).map (· - 5)
def tu2 (l : List Int) : List Int := (l.filter fun x => decide (x < 5)).map (· + 5)
def tu3 (l : List Int) : List Int := l.filter fun x => decide (10 ≤ x)
theorem tu_eq (A : Nat) : tu1 (bitL A 15) ++ tu2 (bitL A 15) ++ tu3 (bitL A 15) = bitL (swN A) 15 := by
  have hp := bitL_lt A 15
  have p1 : (tu1 (bitL A 15)).Pairwise (· < ·) := List.pairwise_map.2 ((hp.filter _).imp fun {a b} h => by omega)
  have p2 : (tu2 (bitL A 15)).Pairwise (· < ·) := List.pairwise_map.2 ((hp.filter _).imp fun {a b} h => by omega)
  have p3 : (tu3 (bitL A 15)).Pairwise (· < ·) := hp.filter _
  have m1 : ∀ x : Int, x ∈ tu1 (bitL A 15) ↔ ∃ i : Nat, i < 5 ∧ x = (i : Int) ∧ A.testBit (i + 5) = true := fun x => by
    unfold tu1
    rw [List.mem_map]
    constructor
    · rintro ⟨y, hy, rfl⟩
      obtain ⟨h1, h2⟩ := List.mem_filter.1 hy
      rw [decide_eq_true_eq] at h2
      obtain ⟨k, hk, rfl, hb⟩ := bitL_mem.1 h1
      exact ⟨k - 5, by omega, by omega, by rw [show k - 5 + 5 = k by omega]; exact hb⟩
    · rintro ⟨i, hi, rfl, hb⟩
      exact ⟨((i + 5 : Nat) : Int), List.mem_filter.2 ⟨bitL_mem.2 ⟨i + 5, by omega, rfl, hb⟩, by rw [decide_eq_true_eq]; omega⟩, by omega⟩
  have m2 : ∀ x : Int, x ∈ tu2 (bitL A 15) ↔ ∃ i : Nat, i < 5 ∧ x = ((i + 5 : Nat) : Int) ∧ A.testBit i = true := fun x => by
    unfold tu2
    rw [List.mem_map]
    constructor
    · rintro ⟨y, hy, rfl⟩
      obtain ⟨h1, h2⟩ := List.mem_filter.1 hy
      rw [decide_eq_true_eq] at h2
      obtain ⟨k, hk, rfl, hb⟩ := bitL_mem.1 h1
      exact ⟨k, by omega, by omega, hb⟩
    · rintro ⟨i, hi, rfl, hb⟩
      exact ⟨(i : Int), List.mem_filter.2 ⟨bitL_mem.2 ⟨i, by omega, rfl, hb⟩, by rw [decide_eq_true_eq]; omega⟩, by omega⟩
  have m3 : ∀ x : Int, x ∈ tu3 (bitL A 15) ↔ ∃ i : Nat, 10 ≤ i ∧ i < 15 ∧ x = (i : Int) ∧ A.testBit i = true := fun x => by
    unfold tu3
    rw [List.mem_filter, decide_eq_true_eq, bitL_mem]
    constructor
    · rintro ⟨⟨i, h1, rfl, h2⟩, h3⟩; exact ⟨i, by omega, h1, rfl, h2⟩
    · rintro ⟨i, h1, h2, rfl, h3⟩; exact ⟨⟨i, h2, rfl, h3⟩, by omega⟩
  have hpw : (tu1 (bitL A 15) ++ tu2 (bitL A 15) ++ tu3 (bitL A 15)).Pairwise (· < ·) := by
    refine List.pairwise_append.2 ⟨List.pairwise_append.2 ⟨p1, p2, fun x hx y hy => ?_⟩, p3, fun x hx y hy => ?_⟩
    · obtain ⟨i, h1, rfl, _⟩ := (m1 x).1 hx
      obtain ⟨j, h2, rfl, _⟩ := (m2 y).1 hy
      omega
    · obtain ⟨j, h2, _, rfl, _⟩ := (m3 y).1 hy
      rcases List.mem_append.1 hx with hx | hx
      · obtain ⟨i, h1, rfl, _⟩ := (m1 x).1 hx; omega
      · obtain ⟨i, h1, rfl, _⟩ := (m2 x).1 hx; omega
  have hmem : ∀ x : Int, x ∈ tu1 (bitL A 15) ++ tu2 (bitL A 15) ++ tu3 (bitL A 15) ↔ x ∈ bitL (swN A) 15 := fun x => by
    rw [List.mem_append, List.mem_append, m1, m2, m3, bitL_mem]
    constructor
    · rintro ((⟨i, h1, rfl, h2⟩ | ⟨i, h1, rfl, h2⟩) | ⟨i, h0, h1, rfl, h2⟩)
      · exact ⟨i, by omega, rfl, by rw [swN_bit]; simp only [swI, if_pos h1, h2]; simp; omega⟩
      · exact ⟨i + 5, by omega, rfl, by rw [swN_bit]; simp only [swI, if_neg (show ¬ i + 5 < 5 by omega), if_pos (show i + 5 < 10 by omega), Nat.add_sub_cancel, h2]; simp; omega⟩
      · exact ⟨i, h1, rfl, by rw [swN_bit]; simp only [swI, if_neg (show ¬ i < 5 by omega), if_neg (show ¬ i < 10 by omega), h2]; simp; omega⟩
    · rintro ⟨i, h1, rfl, h2⟩
      rw [swN_bit, Bool.and_eq_true] at h2
      have h3 := h2.2
      unfold swI at h3
      by_cases a : i < 5
      · rw [if_pos a] at h3; exact .inl (.inl ⟨i, a, rfl, h3⟩)
      · rw [if_neg a] at h3
        by_cases b : i < 10
        · rw [if_pos b] at h3; exact .inl (.inr ⟨i - 5, by omega, by omega, h3⟩)
        · rw [if_neg b] at h3; exact .inr ⟨i, by omega, h1, rfl, h3⟩
  have hb : ∀ x ∈ tu1 (bitL A 15) ++ tu2 (bitL A 15) ++ tu3 (bitL A 15), 0 ≤ x ∧ x < ((15 : Nat) : Int) := fun x hx => by
    obtain ⟨i, h1, rfl, _⟩ := bitL_mem.1 ((hmem x).1 hx); omega
  rw [← bitL_btL hpw hb]
  refine bitL_ext fun i hi => ?_
  rw [Bool.eq_iff_iff, btL_bit fun x hx => (hb x hx).1, hmem, bitL_mem]
  constructor
  · rintro ⟨k, _, h1, h2⟩
    obtain rfl : i = k := by omega
    exact h2
  · intro h; exact ⟨i, hi, rfl, h⟩
theorem rot_mem {ts xs : List Tq} {n a : Nat} (hn : ts.length = n) (h0 : 0 < n) (hl : xs.length = n) (hx : ∀ i, i < n → xs[i]? = ts[(i + a) % n]?) (t : Tq) : t ∈ xs ↔ t ∈ ts := by
  constructor
  · intro h
    obtain ⟨i, hi⟩ := List.getElem?_of_mem h
    have hlt := (List.getElem?_eq_some_iff.1 hi).1
    rw [hx i (by omega)] at hi
    exact List.mem_of_getElem? hi
  · intro h
    obtain ⟨j, hj⟩ := List.getElem?_of_mem h
    have hlt := (List.getElem?_eq_some_iff.1 hj).1
    have hi : (j + (n - a % n)) % n < n := Nat.mod_lt _ h0
    have he : ((j + (n - a % n)) % n + a) % n = j := by
      rw [Nat.mod_add_mod]
      have h1 : a % n < n := Nat.mod_lt _ h0
      have h2 := Nat.div_add_mod a n
      have h3 : j + (n - a % n) + a = j + n * (a / n + 1) := by
        rw [Nat.mul_add, Nat.mul_one]; omega
      rw [h3, Nat.add_mul_mod_self_left, Nat.mod_eq_of_lt (by omega)]
    have := hx _ hi
    rw [he, hj] at this
    exact List.mem_of_getElem? this
end Go.Bl
set_option linter.unusedVariables false
namespace Go.Bl
open Go.Gl Go.Lw
theorem fil_take {P : Nat → Bool} {L : List Nat} {k z : Nat} (h : L[k]? = some z) : (L.take (k + 1)).filter P = (L.take k).filter P ++ (if P z = true then [z] else []) := by
  rw [take_snoc' h, List.filter_append]
  by_cases c : P z = true
  · simp [c]
  · simp [c]
theorem mt_dec (x c : Nat) : decide (((x &&& c : Nat) : Int) ≠ 0) = mtB x c := by
  unfold mtB
  rw [decide_eq_decide]
  omega
end Go.Bl
namespace Go.Proofs.YtfcpmblmklibjaaGreat
open Go.Lw Go.Gl Go.Bl Go.RowKit

theorem als_alt {ts : List Tq} {L : List Nat} (h0 : trE ts = 0) (h : AlS ts L) : AlT ts L := by
  obtain ⟨_, ht⟩ := trE_ok h0
  refine ⟨h.nod, h.ord, fun x => ?_⟩
  rw [h.mem, ex_ext ht]
  constructor
  · rintro ⟨a, b⟩; exact ⟨a, fun y hy => b y ((ex_ext ht).2 hy)⟩
  · rintro ⟨a, b⟩; exact ⟨a, fun y hy => b y ((ex_ext ht).1 hy)⟩
theorem alE_some {ts : List Tq} (h0 : alE ts = 0) : ∃ x, ExT ts x := by
  obtain ⟨h1, hz⟩ := alE_zero h0
  obtain ⟨_, ht⟩ := trE_ok h1
  have hlt := ls_lt (no := clA ts) ht ts.length
  have hne : ∀ s ∈ lsL ts, s ≠ 0 ∧ s < 32768 := fun s hs => ⟨fun e => by rw [List.any_eq_false] at hz; exact hz s hs (by rw [e]; rfl), hlt s hs⟩
  obtain ⟨x0, hx0⟩ := gsK_ex hne _ (Nat.le_refl _)
  exact ⟨x0, (ex_ext ht).1 (gs_ex (ls_no ht) hx0)⟩
theorem alE_26 {ts : List Tq} (h0 : trE ts = 0) (h : alE ts ≠ 0) : alE ts = 26 ∧ (lsL ts).any (· == 0) = true := by
  cases c : (lsL ts).any (· == 0) with
  | true => exact ⟨alE_z h0 c, rfl⟩
  | false => exact absurd (alE_ok h0 c) h
theorem alE_none {ts : List Tq} (h0 : trE ts = 0) (h : alE ts ≠ 0) (x : Nat) : ¬ ExT ts x := fun hx => by
  obtain ⟨_, ht⟩ := trE_ok h0
  obtain ⟨s, hs, h2⟩ := List.any_eq_true.1 (alE_26 h0 h).2
  have := ((ex_ext ht).2 hx).2.2 s hs
  rw [beq_iff_eq] at h2
  subst h2
  simp [mtB] at this
theorem alE_ext {ts : List Tq} (h0 : trE ts = 0) : alE ts = 0 ↔ ∃ x, ExT ts x :=
  ⟨alE_some, fun ⟨x, hx⟩ => by
    apply Classical.byContradiction
    intro h; exact alE_none h0 h x hx⟩
theorem lsL_ne {ts : List Tq} (h : alE ts = 0) : ∀ s ∈ lsL ts, s ≠ 0 := fun s hs e => by
  have hz := (alE_zero h).2
  rw [List.any_eq_false] at hz
  exact hz s hs (by rw [e]; rfl)
/-- What is given is an explanation. -/
theorem giv_ex {ts : List Tq} {A : Nat} (h : alE ts = 0) (h1 : A < 32768) (h2 : mtB A (clA ts) = false) (h3 : ∀ s ∈ lsL ts, s ≠ 0 → mtB A s = true) : Ex (clA ts) (lsL ts) A := ⟨h1, h2, fun s hs => h3 s hs (lsL_ne h s hs)⟩
theorem cc_ex {ts : List Tq} {A : Nat} (h : trE ts = 0) (hA : Ex (clA ts) (lsL ts) A) : ccR ts (bitL A 15) = 0 := by
  have hb : btL (bitL A 15) = A := btL_bitL (n := 15) hA.1
  obtain ⟨a, b⟩ := (ex_iff ts hA.1).2 hA
  refine ccR_ok h (bit_lst A 15) ?_ (by rw [hb]; exact b)
  rw [hb]
  unfold mtB at a
  rw [decide_eq_false_iff_not] at a
  exact Classical.byContradiction a
theorem cc_no {ts : List Tq} {A : Nat} (h : trE ts = 0) (h2 : alE ts ≠ 0) (hA : A < 32768) : ccR ts (bitL A 15) ≠ 0 := fun hc => by
  have hb : btL (bitL A 15) = A := btL_bitL (n := 15) hA
  by_cases h3 : btL (bitL A 15) &&& clA ts ≠ 0
  · rw [ccR_rule h (bit_lst A 15) h3] at hc; cases hc
  · cases c : exB (lfL ts) (btL (bitL A 15)) with
    | false => rw [ccR_boil h (bit_lst A 15) (Classical.byContradiction h3) c] at hc; cases hc
    | true =>
      rw [hb] at c h3
      have : mtB A (clA ts) = false := by unfold mtB; rw [decide_eq_false_iff_not]; exact h3
      have hx := (ex_iff ts hA).1 ⟨this, c⟩
      obtain ⟨_, ht⟩ := trE_ok h
      exact alE_none h h2 A ((ex_ext ht).1 hx)
theorem cc_any {ts : List Tq} (h : trE ts = 0) (h2 : alE ts ≠ 0) (N : Nat) : ccR ts (bitL N 15) ≠ 0 := by
  have hb : ∀ x ∈ bitL N 15, 0 ≤ x ∧ x < ((15 : Nat) : Int) := fun y hy => by
    obtain ⟨i, h1, rfl, _⟩ := bitL_mem.1 hy; omega
  rw [← bitL_btL (bitL_lt N 15) hb]
  exact cc_no h h2 (btL_lt (n := 15) hb)
/-- The first trial that cannot be explained. -/
theorem un_ex {ts : List Tq} (h0 : trE ts = 0) (h : alE ts ≠ 0) : ∃ (m : Nat) (t : Tq), unR ts = ((m : Int), 0) ∧ ts[m]? = some t ∧ t.f = true ∧ clrB (cbN t.p) (clA ts) = 0 := by
  have h1 := (alE_26 h0 h).2
  rw [← lf_zero, List.any_eq_true] at h1
  obtain ⟨x, hx, hx0⟩ := h1
  cases c : uzL (lfL ts) with
  | none =>
    unfold uzL at c
    rw [List.findIdx?_eq_none_iff] at c
    have := c x hx
    rw [hx0] at this; cases this
  | some m =>
    unfold uzL at c
    obtain ⟨hm, h2, _⟩ := List.findIdx?_eq_some_iff_getElem.1 c
    rw [decide_eq_true_eq] at h2
    have hll : (lfL ts).length = ts.length := by unfold lfL; rw [List.length_map]
    obtain ⟨t, ht⟩ : ∃ t, ts[m]? = some t := ⟨_, List.getElem?_eq_getElem (by omega)⟩
    have h3 := lf_at ht
    rw [List.getElem?_eq_getElem hm, h2] at h3
    have h4 : lfI (clA ts) t = 0 := (Option.some.inj h3).symm
    unfold lfI at h4
    split at h4
    · rename_i hf
      exact ⟨m, t, unR_some h0 c, ht, hf, by omega⟩
    · cases h4
theorem un_no {ts : List Tq} (h : alE ts = 0) : unR ts = (0, 5) := by
  obtain ⟨h0, hz⟩ := alE_zero h
  rw [← lf_zero, List.any_eq_false] at hz
  refine unR_none h0 ?_
  unfold uzL
  rw [List.findIdx?_eq_none_iff]
  intro x hx
  have := hz x hx
  simpa using this
theorem clR_eq {ts : List Tq} (h : trE ts = 0) : clR ts = bitL (clA ts) 15 := by unfold clR; rw [if_pos h]
theorem clR_in {ts : List Tq} (h : trE ts = 0) : ∀ x ∈ clR ts, 0 ≤ x ∧ x < 15 := fun x hx => by
  rw [clR_eq h] at hx
  obtain ⟨i, h1, rfl, _⟩ := bitL_mem.1 hx; omega
theorem clR_bt {ts : List Tq} (h : trE ts = 0) : btL (clR ts) = clA ts := by
  rw [clR_eq h]; exact btL_bitL (n := 15) (clN_lt (trE_ok h).2 _)
theorem apR_eq {ts : List Tq} (h : trE ts = 0) : apR ts = aG (prP ts) [] [] 0 := by unfold apR; rw [if_pos h]
theorem SL.at {V : View} {v : Value} {L : List Nat} (h : SL V v (bL L)) : ∃ (qs : List (Option Addr × Nat × Nat)) (a : Option Addr) (c : Nat), v = .slice a qs.length c ∧ Sl V sle 1 (.slice a qs.length c) qs ∧ qs.length = L.length ∧ ∀ (i : Nat) (q : Option Addr × Nat × Nat) (x : Nat), qs[i]? = some q → L[i]? = some x → SlI V (.slice q.1 q.2.1 q.2.2) (bitL x 15) := by
  obtain ⟨qs, hq, hql, hqs⟩ := h
  obtain ⟨a, c, rfl, _⟩ := id hq
  exact ⟨qs, a, c, rfl, hq, by rw [hql, bL_len], fun i q x h1 h2 => hqs i q _ h1 (bL_at h2)⟩
theorem bit_in (x : Nat) : ∀ y ∈ bitL x 15, 0 ≤ y ∧ y < 15 := fun y hy => by
  obtain ⟨i, h1, rfl, _⟩ := bitL_mem.1 hy; omega
theorem SL.of {V : View} {v : Value} {fl : List Nat} (qs : List (Option Addr × Nat × Nat)) (hq : Sl V sle 1 v qs) (hl : qs.length = fl.length) (h : ∀ (i : Nat) (q : Option Addr × Nat × Nat) (x : Nat), qs[i]? = some q → fl[i]? = some x → SlI V (.slice q.1 q.2.1 q.2.2) (bitL x 15)) : SL V v (bL fl) :=
  ⟨qs, hq, by rw [bL_len, hl], fun i q l h1 h2 => by
    unfold bL at h2
    rw [List.getElem?_map] at h2
    obtain ⟨x, hx, rfl⟩ := Option.map_eq_some_iff.1 h2
    exact h i q x h1 hx⟩
theorem bit_val (A k : Nat) : ((A >>> k &&& 1 : Nat) : Int) = if A.testBit k = true then 1 else 0 := by
  have h := bit_iff A k
  have hl : A >>> k &&& 1 ≤ 1 := Nat.and_le_right
  split
  · rename_i c; exact h.2 c
  · rename_i c
    have : ((A >>> k &&& 1 : Nat) : Int) ≠ 1 := fun e => c (h.1 e)
    omega
theorem panelP_f (p : Pq) (V : View) : Fnc Tryz.prog 25 [iv p.m, iv p.o, iv p.h] V fun r _ => r = pqv p := panel_f p.m p.o p.h V
/-- The numbers of a panel, by one number. -/
theorem digs {y : Int} (hy : 0 ≤ y ∧ y ≤ 255) : (0 ≤ y.tmod 5 ∧ y.tmod 5 ≤ 4) ∧ (0 ≤ (y.tdiv 5).tmod 5 ∧ (y.tdiv 5).tmod 5 ≤ 4) ∧ (0 ≤ (y.tdiv 25).tmod 5 ∧ (y.tdiv 25).tmod 5 ≤ 4) ∧ Fit (y.tdiv 5) ∧ Fit (y.tdiv 25) := by
  have a := Int.tmod_nonneg 5 hy.1
  have b := Int.tmod_lt_of_pos y (b := 5) (by decide)
  have e1 : y.tdiv 5 = y / 5 := Int.tdiv_eq_ediv_of_nonneg hy.1
  have e2 : y.tdiv 25 = y / 25 := Int.tdiv_eq_ediv_of_nonneg hy.1
  have c := Int.tmod_nonneg (a := y.tdiv 5) 5 (by omega)
  have d := Int.tmod_lt_of_pos (y.tdiv 5) (b := 5) (by decide)
  have e := Int.tmod_nonneg (a := y.tdiv 25) 5 (by omega)
  have f := Int.tmod_lt_of_pos (y.tdiv 25) (b := 5) (by decide)
  exact ⟨⟨a, by omega⟩, ⟨c, by omega⟩, ⟨e, by omega⟩, Fit.of (by omega) (by omega), Fit.of (by omega) (by omega)⟩
theorem mt_val (x : Nat) (p : Pq) : ((x &&& cbN p : Nat) : Int) ≠ 0 ↔ mtB (cbN p) x = true := by
  rw [mtB_symm]
  unfold mtB
  rw [decide_eq_true_eq]
  omega
theorem bt_bit {x : Nat} (h : x < 32768) : btL (bitL x 15) = x := btL_bitL (n := 15) h
end Go.Proofs.YtfcpmblmklibjaaGreat
