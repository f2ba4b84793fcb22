/- Texts that the last one of this claim imports. -/
import Derived.Test.YtpoignmclfdgpaaGreatDoorB2
set_option linter.unusedVariables false
set_option linter.unusedSimpArgs false
set_option linter.unusedSectionVars false
set_option linter.unusedVariables false
namespace Go.Bk
open Go.Lw Go.Gl
theorem set_map_range {β : Type} (f g : Nat → β) (n t : Nat) (v : β) (h : ∀ s, s < n → g s = if s = t then v else f s) : ((List.range n).map f).set t v = (List.range n).map g := by
 apply List.ext_getElem?
 intro i
 by_cases hi : i < n
 ·rw [List.getElem?_set]
  by_cases e : t = i
  ·subst e
   rw [if_pos rfl, if_pos (by simpa using hi), List.getElem?_map, List.getElem?_range hi]
   simp [h t hi]
  ·rw [if_neg e, List.getElem?_map, List.getElem?_map, List.getElem?_range hi]
   simp only [Option.map_some, h i hi]
   rw [if_neg (fun h => e h.symm)]
 ·rw [List.getElem?_eq_none (by simp; omega), List.getElem?_eq_none (by simp; omega)]
def gK (es : List En) (first k : Nat) : List Int := (List.range first).map fun s => if qW es first k s = true then 1 else 0
def gKb (es : List En) (first k : Nat) : List Bool := (List.range first).map fun s => qW es first k s
theorem gK_len (es : List En) (first k : Nat) : (gK es first k).length = first := by simp [gK]
theorem gKb_len (es : List En) (first k : Nat) : (gKb es first k).length = first := by simp [gKb]
theorem gK_zero (es : List En) (first : Nat) : gK es first 0 = List.replicate first 0 := by
 apply List.ext_getElem?
 intro i
 by_cases hi : i < first
 ·simp [gK, qW, List.getElem?_replicate, List.getElem?_range hi, hi]
 ·rw [List.getElem?_eq_none (by simp [gK]; omega), List.getElem?_eq_none (by simp; omega)]
theorem gKb_zero (es : List En) (first : Nat) : gKb es first 0 = List.replicate first false := by
 apply List.ext_getElem?
 intro i
 by_cases hi : i < first
 ·simp [gKb, qW, List.getElem?_replicate, List.getElem?_range hi, hi]
 ·rw [List.getElem?_eq_none (by simp [gKb]; omega), List.getElem?_eq_none (by simp; omega)]
theorem gK_at {es : List En} {first k s : Nat} (h : s < first) : (gK es first k)[s]? = some (if qW es first k s = true then 1 else 0) := by
 simp [gK, List.getElem?_range h]
theorem gKb_at {es : List En} {first k s : Nat} (h : s < first) : (gKb es first k)[s]? = some (qW es first k s) := by
 simp [gKb, List.getElem?_range h]
theorem goneK_same {es : List En} {first k : Nat} (h : ¬ ((enA es (first - 1 - k)).k = 4 ∧ qW es first k (first - 1 - k) = false)) : qW es first (k + 1) = qW es first k := by
 funext s
 simp only [qW]
 by_cases h1 : (enA es (first - 1 - k)).k = 4
 ·have h2 : qW es first k (first - 1 - k) = true := by
   cases c : qW es first k (first - 1 - k) with
   | true => rfl
   | false => exact absurd ⟨h1, c⟩ h
  rw [h2]; simp
 ·rw [decide_eq_false h1]; simp
theorem goneK_new {es : List En} {first k : Nat} (h1 : (enA es (first - 1 - k)).k = 4) (h2 : qW es first k (first - 1 - k) = false) (s : Nat) : qW es first (k + 1) s = if s = (enA es (first - 1 - k)).t.toNat then true else qW es first k s := by
 simp only [qW]
 rw [h2, decide_eq_true h1]
 by_cases e : s = (enA es (first - 1 - k)).t.toNat
 ·rw [if_pos e, decide_eq_true e]; simp
 ·rw [if_neg e, decide_eq_false e]; simp
theorem gK_same {es : List En} {first k : Nat} (h : ¬ ((enA es (first - 1 - k)).k = 4 ∧ qW es first k (first - 1 - k) = false)) : gK es first (k + 1) = gK es first k := by unfold gK; rw [goneK_same h]
theorem gKb_same {es : List En} {first k : Nat} (h : ¬ ((enA es (first - 1 - k)).k = 4 ∧ qW es first k (first - 1 - k) = false)) : gKb es first (k + 1) = gKb es first k := by unfold gKb; rw [goneK_same h]
theorem gK_set {es : List En} {first k : Nat} (h1 : (enA es (first - 1 - k)).k = 4) (h2 : qW es first k (first - 1 - k) = false) : (gK es first k).set (enA es (first - 1 - k)).t.toNat 1 = gK es first (k + 1) :=
 set_map_range _ _ _ _ _ fun s _ => by rw [goneK_new h1 h2]; split <;> rfl
theorem gKb_set {es : List En} {first k : Nat} (h1 : (enA es (first - 1 - k)).k = 4) (h2 : qW es first k (first - 1 - k) = false) : (gKb es first k).set (enA es (first - 1 - k)).t.toNat true = gKb es first (k + 1) :=
 set_map_range _ _ _ _ _ fun s _ => by rw [goneK_new h1 h2]
def cntJ (es : List En) (first j : Nat) : List Nat := (List.range j).filter fun i => !gone es first i
theorem cntJ_all (es : List En) (first : Nat) : cntJ es first first = cntS es first := rfl
theorem cntJ_in {es : List En} {first j : Nat} (h : gone es first j = false) : cntJ es first (j + 1) = cntJ es first j ++ [j] := by
 unfold cntJ; rw [List.range_succ, List.filter_append]; simp [h]
theorem cntJ_out {es : List En} {first j : Nat} (h : gone es first j = true) : cntJ es first (j + 1) = cntJ es first j := by
 unfold cntJ; rw [List.range_succ, List.filter_append]; simp [h]
theorem cntJ_len (es : List En) (first j : Nat) : (cntJ es first j).length ≤ j := by
 unfold cntJ; exact Nat.le_trans (List.length_filter_le _ _) (by simp)
abbrev cntI (es : List En) (first : Nat) : List Int := (cntS es first).map fun (i : Nat) => ((i : Nat) : Int)
theorem cntS_lt {es : List En} {first i : Nat} (h : i ∈ cntS es first) : i < first := List.mem_range.1 (List.mem_filter.1 h).1
theorem enA_at {es : List En} {i : Nat} {e : En} (h : es[i]? = some e) : enA es i = e := by simp [enA, List.getD, h]
abbrev eb (b : Bool) : List Value := [.bool b]
theorem eb_len (b : Bool) : (eb b).length = 1 := rfl
theorem flat_eb : ∀ l : List Bool, flat eb l = l.map Value.bool
 | [] => rfl
 | b :: l => by
  have := flat_eb l
  simp only [flat, List.flatMap_cons, List.map_cons] at this ⊢
  rw [this]; rfl
theorem gK_cell {es : List En} {first k s : Nat} (h : s < first) : (flat ei (gK es first k))[s * 1]? = some (iv (if qW es first k s = true then 1 else 0)) := by
 rw [flat_ei, Nat.mul_one, List.getElem?_map, gK_at h]; rfl
theorem gKb_cell {es : List En} {first k s : Nat} (h : s < first) : (flat eb (gKb es first k))[s * 1]? = some (.bool (qW es first k s)) := by
 rw [flat_eb, Nat.mul_one, List.getElem?_map, gKb_at h]; rfl
theorem gK_put {es : List En} {first k T : Nat} (hT : (enA es (first - 1 - k)).t = (T : Int)) (h1 : (enA es (first - 1 - k)).k = 4) (h2 : qW es first k (first - 1 - k) = false) : (flat ei (gK es first k)).set (T * 1) (iv 1) = flat ei (gK es first (k + 1)) := by
 have := gK_set h1 h2
 rw [hT, Int.toNat_natCast] at this
 rw [flat_ei, flat_ei, Nat.mul_one, ← this, List.map_set]
theorem gKb_put {es : List En} {first k T : Nat} (hT : (enA es (first - 1 - k)).t = (T : Int)) (h1 : (enA es (first - 1 - k)).k = 4) (h2 : qW es first k (first - 1 - k) = false) : (flat eb (gKb es first k)).set (T * 1) (.bool true) = flat eb (gKb es first (k + 1)) := by
 have := gKb_set h1 h2
 rw [hT, Int.toNat_natCast] at this
 rw [flat_eb, flat_eb, Nat.mul_one, ← this, List.map_set]
theorem gK_flen (es : List En) (first k : Nat) : (flat ei (gK es first k)).length = first := by rw [jB Lw.kv, gK_len]; omega
theorem gKb_flen (es : List En) (first k : Nat) : (flat eb (gKb es first k)).length = first := by rw [jB eb_len, gKb_len]; omega
theorem cntI_in {es : List En} {first j : Nat} (h : gone es first j = false) : (cntJ es first (j + 1)).map (fun (i : Nat) => ((i : Nat) : Int)) = (cntJ es first j).map (fun (i : Nat) => ((i : Nat) : Int)) ++ [(j : Int)] := by rw [cntJ_in h, List.map_append]; rfl
end Go.Bk
set_option linter.unusedVariables false
namespace Go.Bk
open Go.Lw Go.Gl
structure EnG (e : En) : Prop where
 k : 1 ≤ e.k ∧ e.k ≤ 4
 t : e.k ≠ 4 → 0 ≤ e.t ∧ e.t ≤ 7
 n : e.k ≠ 4 → 1 ≤ e.n ∧ e.n ≤ 1000
structure BoG (b : Bo) : Prop where
 rs : qE (-1) b.rs
 es : ∀ e ∈ b.es, EnG e
 len : b.es.length ≤ 24
theorem EnOk.g {rs : List Rc} {e : En} {i l : Int} (h : EnOk rs e i l) : EnG e := ⟨h.k, fun h4 => ⟨(h.th h4).1, (h.th h4).2.1⟩, fun h4 => (h.th h4).2.2⟩
def lastE (es : List En) : Nat → Int
 | 0 => 0
 | k + 1 => (es.getD k en0).d
theorem lastE_at {es : List En} {k : Nat} {e : En} (h : es[k]? = some e) : lastE es (k + 1) = e.d := by simp [lastE, List.getD, h]
structure Right (b : Bo) : Prop where
 cr : crE b.rs = 0
 len : b.es.length ≤ 24
 en : entsE b.rs 0 0 b.es = 0
 run : ∀ k, k < b.es.length → (runS b.rs b.es (k + 1) 999).isSome = true
theorem jA {b : Bo} : bkE b = 0 ↔ Right b := by
 unfold bkE
 constructor
 ·intro h
  split at h
  ·rename_i c; exact absurd h c
  rename_i h1
  split at h
  ·cases h
  rename_i h2
  split at h
  ·rename_i c; exact absurd h c
  rename_i h3
  split at h
  ·rename_i h4
   exact ⟨Classical.not_not.1 h1, by omega, Classical.not_not.1 h3, fun k hk => List.all_eq_true.1 h4 k (List.mem_range.2 hk)⟩
  ·cases h
 ·rintro ⟨h1, h2, h3, h4⟩
  rw [if_neg (by rw [h1]; simp), if_neg (by omega), if_neg (by rw [h3]; simp), if_pos (List.all_eq_true.2 fun k hk => h4 k (List.mem_range.1 hk))]
theorem pre_bog {b : Bo} (h1 : crE b.rs = 0) (h2 : b.es.length ≤ 24) (h3 : entsE b.rs 0 0 b.es = 0) : BoG b := by
 refine ⟨recsE_iff.1 h1, fun e he => ?_, h2⟩
 obtain ⟨k, hk⟩ := List.getElem?_of_mem he
 obtain ⟨l, h, _⟩ := ensOk_at (entsE_iff.1 h3) hk
 exact h.g
theorem Right.bog {b : Bo} (h : Right b) : BoG b := pre_bog h.cr h.len h.en
theorem ents_bk {rs : List Rc} {es : List En} (h : entsE rs 0 0 es = 0) {first : Nat} (hf : first ≤ es.length) : BkOk es first := fun k hk h4 => by
 have hx := List.getElem?_eq_getElem (l := es) (i := k) (by omega)
 rw [enA_at hx] at h4 ⊢
 obtain ⟨l, h1, _⟩ := ensOk_at (entsE_iff.1 h) hx
 have := h1.bk h4
 omega
theorem Right.bk {b : Bo} (h : Right b) {first : Nat} (hf : first ≤ b.es.length) : BkOk b.es first := ents_bk h.en hf
theorem ens_sorted {rs : List Rc} : ∀ {es : List En} {index last : Int}, EnsOk rs index last es → (es.Pairwise fun x y => x.d ≤ y.d) ∧ ∀ e ∈ es, last ≤ e.d ∧ e.d ≤ 999
 | [], index, last, _ => ⟨List.Pairwise.nil, fun e he => by cases he⟩
 | x :: es, index, last, h => by
  cases h with
  | cons h1 h2 =>
   obtain ⟨p, q⟩ := ens_sorted h2
   have := h1.late
   refine ⟨List.Pairwise.cons (fun y hy => (q y hy).1) p, fun e he => ?_⟩
   rcases List.mem_cons.1 he with rfl | he
   ·exact ⟨this, h1.d.2⟩
   ·have := q e he; omega
theorem runL_skip {rs : List Rc} {day : Int} {f : Nat → Int} : ∀ {l : List En}, (∀ e ∈ l, day < e.d) → runL rs day l f = some f
 | [], _ => rfl
 | e :: l, h => by
  simp only [runL]
  rw [if_pos (h e List.mem_cons_self)]
  exact runL_skip fun x hx => h x (List.mem_cons_of_mem _ hx)
theorem runL_day {rs : List Rc} {day : Int} : ∀ {l : List En} {f : Nat → Int}, (l.Pairwise fun x y => x.d ≤ y.d) → (∀ e ∈ l, e.d ≤ 999) → (runL rs 999 l f).isSome = true → ∃ g, runL rs day l f = some g
 | [], f, _, _, _ => ⟨f, rfl⟩
 | e :: l, f, hp, hd, hr => by
  have h9 := hd e List.mem_cons_self
  by_cases c : day < e.d
  ·refine ⟨f, runL_skip fun x hx => ?_⟩
   rcases List.mem_cons.1 hx with rfl | hx
   ·exact c
   ·have := List.rel_of_pairwise_cons hp hx; omega
  ·simp only [runL] at hr ⊢
   rw [if_neg (by omega)] at hr
   rw [if_neg c]
   split at hr
   ·rename_i ho
    rw [if_pos ho]
    exact runL_day (List.Pairwise.of_cons hp) (fun x hx => hd x (List.mem_cons_of_mem _ hx)) hr
   ·cases hr
theorem enA_mem {es : List En} {i : Nat} (h : i < es.length) : enA es i ∈ es := by
 rw [enA_at (List.getElem?_eq_getElem h)]; exact List.getElem_mem h
theorem cnt_sorted {es : List En} {first : Nat} (hf : first ≤ es.length) (h : es.Pairwise fun x y => x.d ≤ y.d) : ((cntS es first).map (enA es)).Pairwise fun x y => x.d ≤ y.d := by
 rw [List.pairwise_map]
 have hlt : (cntS es first).Pairwise (· < ·) := List.Pairwise.sublist List.filter_sublist List.pairwise_lt_range
 refine List.Pairwise.imp_of_mem (fun {a b} ha hb hab => ?_) hlt
 have h1 := cntS_lt ha
 have h2 := cntS_lt hb
 rw [enA_at (List.getElem?_eq_getElem (show a < es.length by omega)), enA_at (List.getElem?_eq_getElem (show b < es.length by omega))]
 exact List.pairwise_iff_getElem.1 h a b (by omega) (by omega) hab
theorem Right.st {b : Bo} (h : Right b) {first : Nat} (hf : first ≤ b.es.length) (day : Int) : ∃ st, runS b.rs b.es first day = some st := by
 obtain ⟨hs, h9⟩ := ens_sorted (entsE_iff.1 h.en)
 unfold runS
 refine runL_day (cnt_sorted hf hs) (fun e he => ?_) ?_
 ·obtain ⟨i, hi, rfl⟩ := List.mem_map.1 he
  exact (h9 _ (enA_mem (by have := cntS_lt hi; omega))).2
 ·cases first with
  | zero => rfl
  | succ k => exact h.run k (by omega)
end Go.Bk
set_option linter.unusedVariables false
namespace Go.Bk
open Go.Lib
theorem ens_in {rs : List Rc} : ∀ {es : List En} {index last : Int}, EnsOk rs index last es → ∀ e ∈ es, (0 ≤ e.d ∧ e.d ≤ 999) ∧ (1 ≤ e.k ∧ e.k ≤ 4) ∧ (e.k = 4 → 0 ≤ e.t ∧ e.t < index + es.length ∧ e.n = 0) ∧ (e.k ≠ 4 → 0 ≤ e.t ∧ e.t ≤ 7 ∧ 1 ≤ e.n ∧ e.n ≤ 1000)
 | [], index, last, _, e, he => by cases he
 | x :: es, index, last, h, e, he => by
  cases h with
  | cons h1 h2 =>
   rcases List.mem_cons.1 he with rfl | he
   ·refine ⟨h1.d, h1.k, fun h4 => ?_, h1.th⟩
    have := h1.bk h4
    exact ⟨this.1, by simp only [List.length_cons]; omega, this.2.2⟩
   ·have := ens_in h2 e he
    refine ⟨this.1, this.2.1, fun h4 => ?_, this.2.2.2⟩
    have := this.2.2.1 h4
    exact ⟨this.1, by simp only [List.length_cons]; omega, this.2.2⟩
theorem Right.nm {b : Bo} (h : Right b) : BoNm b := by
 refine ⟨fun r hr => ?_, fun e he => ?_⟩
 ·have := kG h.bog.rs r hr
  refine ⟨by have := this.g; omega, fun p hp => ?_⟩
  have := ptsOk_in this.ps p hp
  omega
 ·have := ens_in (entsE_iff.1 h.en) e he
  have hl := h.len
  by_cases h4 : e.k = 4
  ·have h5 := this.2.2.1 h4
   exact ⟨this.2.1, by omega, by omega, by omega, fun _ => h5.2.2⟩
  ·have h5 := this.2.2.2 h4
   exact ⟨this.2.1, by omega, by omega, by omega, fun h => absurd h h4⟩
theorem rcsOk_len {rs : List Rc} (h : qE (-1) rs) : rs.length ≤ 8 := by
 have key : ∀ {l : List Rc} {m : Int}, qE m l → -1 ≤ m → (l.length : Int) + m ≤ 7 ∨ l = [] := by
  intro l
  induction l with
  | nil => intro m _ _; exact .inr rfl
  | cons a l ih =>
   intro m h hm
   cases h with
   | cons h1 h2 =>
    have hg := h1.g
    have hl := h1.lt
    rcases ih h2 (by omega) with h3 | h3
    ·refine .inl ?_; simp only [List.length_cons]; omega
    ·subst h3; refine .inl ?_; simp only [List.length_cons, List.length_nil]; omega
 rcases key h (by omega) with h1 | h1
 ·omega
 ·subst h1; simp
theorem itoa_len {n : Int} (h : 0 ≤ n ∧ n < 1000000) : (itoa n).length ≤ 6 := by
 rw [itoa_of h.1]; exact (dec_len (by omega)).2
theorem lnT_snoc (w : List UInt8) (l : List Int) (n : Int) : lnT w (l ++ [n]) = lnT w l ++ ([32] ++ itoa n) := by simp [lnT]
theorem lnT_len (w : List UInt8) : ∀ {l : List Int}, (∀ n ∈ l, 0 ≤ n ∧ n < 1000000) → (lnT w l).length ≤ w.length + 7 * l.length
 | [], _ => by simp [lnT]
 | n :: l, h => by
  have h1 := itoa_len (h n List.mem_cons_self)
  have h2 := lnT_len w (l := l) fun x hx => h x (List.mem_cons_of_mem _ hx)
  simp only [lnT, List.length_append, List.map_cons, List.flatten_cons, List.length_cons] at h2 ⊢
  omega
theorem nlT_len (N : Nat) : ∀ {ls : List (List UInt8)}, (∀ l ∈ ls, l.length ≤ N) → (nlT ls).length ≤ ls.length * (N + 1)
 | [], _ => by simp [nlT]
 | l :: ls, h => by
  have h1 := h l List.mem_cons_self
  have h2 := nlT_len N (ls := ls) fun x hx => h x (List.mem_cons_of_mem _ hx)
  simp only [nlT, List.map_cons, List.flatten_cons, List.length_append, List.length_cons, List.length_nil] at h2 ⊢
  rw [Nat.add_mul]
  omega
theorem nlT_app (u v : List (List UInt8)) : nlT (u ++ v) = nlT u ++ nlT v := by simp [nlT]
theorem nlT_snoc (u : List (List UInt8)) (l : List UInt8) : nlT (u ++ [l]) = nlT u ++ (l ++ [10]) := by simp [nlT]
theorem rcN_len (r : Rc) : (rcN r).length = 1 + 2 * r.ps.length := by
 unfold rcN
 rw [List.length_cons]
 have : ∀ l : List Pt, (l.flatMap fun p => [p.t, p.n]).length = 2 * l.length := by
  intro l
  induction l with
  | nil => rfl
  | cons a l ih => simp only [List.flatMap_cons, List.length_append, ih, List.length_cons, List.length_nil]; omega
 rw [this]; omega
theorem enN_len (e : En) : (enN e).length ≤ 3 := by unfold enN; split <;> simp
theorem wd_len (k : Int) : (wd k).length ≤ 4 := by
 unfold wd
 split
 ·decide
 ·split
  ·decide
  ·split <;> decide
theorem Right.rcT_len {b : Bo} (h : Right b) {r : Rc} (hr : r ∈ b.rs) : (rcT r).length ≤ 50 := by
 have h1 := lnT_len [114] (rcN_in (h.nm.rs r hr))
 rw [rcN_len] at h1
 have h2 := (kG h.bog.rs r hr).len
 unfold rcT
 simp only [List.length_cons, List.length_nil] at h1 ⊢
 omega
theorem Right.enT_len {b : Bo} (h : Right b) {e : En} (he : e ∈ b.es) : (enT e).length ≤ 25 := by
 have h1 := lnT_len (wd e.k) (enN_in (h.nm.es e he))
 have h2 := enN_len e
 have h3 := wd_len e.k
 unfold enT
 omega
theorem Right.rs_len {b : Bo} (h : Right b) (n : Nat) : (nlT ((b.rs.take n).map rcT)).length ≤ 408 := by
 have h1 := nlT_len 50 (ls := (b.rs.take n).map rcT) fun l hl => by
  obtain ⟨r, hr, rfl⟩ := List.mem_map.1 hl
  exact h.rcT_len (List.mem_of_mem_take hr)
 have h2 := rcsOk_len h.bog.rs
 rw [List.length_map] at h1
 have h3 : (b.rs.take n).length ≤ b.rs.length := List.length_take_le' n b.rs
 omega
theorem Right.es_len {b : Bo} (h : Right b) (n : Nat) : (nlT ((b.es.take n).map enT)).length ≤ 624 := by
 have h1 := nlT_len 25 (ls := (b.es.take n).map enT) fun l hl => by
  obtain ⟨e, he, rfl⟩ := List.mem_map.1 hl
  exact h.enT_len (List.mem_of_mem_take he)
 have h2 := h.len
 rw [List.length_map] at h1
 have h3 : (b.es.take n).length ≤ b.es.length := List.length_take_le' n b.es
 omega
theorem bodyT_eq (b : Bo) : jg b = nlT (b.rs.map rcT) ++ nlT (b.es.map enT) := nlT_app _ _
theorem Right.body_len {b : Bo} (h : Right b) : (jg b).length ≤ 1032 := by
 have h1 := h.rs_len b.rs.length
 have h2 := h.es_len b.es.length
 rw [List.take_length] at h1 h2
 rw [bodyT_eq, List.length_append]; omega
theorem Right.file_len {b : Bo} (h : Right b) : (kJ b).length ≤ 1047 := by
 have := h.body_len
 unfold kJ
 rw [List.length_append, tailT_len]; omega
theorem body_ne {b : Bo} (h : b.es.length + b.rs.length ≠ 0) : jg b ≠ [] := by
 rw [bodyT_eq]
 intro e
 obtain ⟨e1, e2⟩ := List.append_eq_nil_iff.1 e
 cases hr : b.rs with
 | cons r l => rw [hr] at e1; simp [nlT] at e1
 | nil => cases he : b.es with
  | cons r l => rw [he] at e2; simp [nlT] at e2
  | nil => rw [hr, he] at h; exact h rfl
end Go.Bk
set_option linter.unusedVariables false
namespace Go.Proofs.YtpoignmclfdgpaaGreatDoor
open Go.Lw Go.Gl Go.Bk Go.RowKit
theorem ints_f (l m : List Int) (V : View) (v u : Value) (hs : SlI V v l) (hu : SlI V u m) : Fnc Tryz.prog 29 [v, u] V fun r _ => r = .bool (decide (l = m)) := by
 have hlen := hs.jl
 obtain ⟨a, c, rfl, k1, k2, _⟩ := id hs
 obtain ⟨a', c', rfl, k3, k4, _⟩ := id hu
 clear k1 k2 k3 k4
 refine qh Tryz.func29 rfl Tryz.ntmps29 (Nat.le_of_ble_eq_true rfl) ?_
 intro w0 hw0
 refine At.nrm ?_
 refine At.zh (.q 0 .done) ?_
 refine AtT.ze ?_
 refine AtT.done ?_
 refine At.nrm ?_
 refine At.zh (.q 0 (.q 1 (.q 2 (.q 3 (.q 4 .done))))) ?_
 refine AtT.zf ?_
 first | refine AtT.zR Tryz.underlying37 ?_ | refine AtT.zN Tryz.underlying37 ?_
 refine AtT.zf ?_
 first | refine AtT.zR Tryz.underlying37 ?_ | refine AtT.zN Tryz.underlying37 ?_
 refine AtT.qH ?_
 refine AtT.done ?_
 refine At.nrm ?_
 refine At.zX rfl (fun hb => ?_) (fun hb => ?_)
 ·refine At.nrm ?_
  refine At.zh (.q 0 .done) ?_
  refine AtT.ze ?_
  refine AtT.done ?_
  refine At.nrm ?_
  refine At.qi rfl (.tmp rfl) ?_
  rw [decide_eq_false]
  rintro rfl
  exact hb rfl
 have hlm : l.length = m.length := by omega
 refine At.nrm ?_
 refine At.zh (.q 0 .done) ?_
 refine AtT.ze ?_
 refine AtT.done ?_
 refine At.nrm ?_
 refine At.lp (ι := Nat) (KS := fun k => [(0, .slice a l.length c), (1, .slice a' m.length c'), (5, iv k)]) (OS := fun _ => []) (VS := fun k V' => V' = V ∧ k ≤ l.length ∧ ∀ j, j < k → l[j]? = m[j]?) (μ := fun k => l.length - k) 0 ?_ ?_ ?_ ?_
 ·exact ⟨rfl, rfl, rfl, trivial⟩
 ·exact Pt.zH
 ·exact ⟨rfl, Nat.zero_le _, fun j hj => absurd hj (Nat.not_lt_zero j)⟩
 ·rintro k V' ks' O' ⟨rfl, hkl, hok⟩ hk hO hl2
  subst hk hO
  refine At.nrm ?_
  refine At.zh (.q 0 (.q 1 (.q 2 (.q 3 .done)))) ?_
  refine AtT.zf ?_
  refine AtT.zf ?_
  first | refine AtT.zR Tryz.underlying37 ?_ | refine AtT.zN Tryz.underlying37 ?_
  refine AtT.qp ?_
  refine AtT.done ?_
  refine At.nrm ?_
  refine At.zX rfl (fun hp => ?_) (fun hp => ?_)
  ·obtain ⟨x, hx⟩ : ∃ x, l[k]? = some x := ⟨_, List.getElem?_eq_getElem (by omega)⟩
   obtain ⟨y, hy⟩ : ∃ y, m[k]? = some y := ⟨_, List.getElem?_eq_getElem (by omega)⟩
   refine At.nrm ?_
   refine At.draw (.q 0 (.q 1 (.q 2 (.q 3 (.q 4 (.q 5 (.q 6 (.q 7 (.q 8 .done))))))))) ffm (by kernel_rfl) ?_
   refine AtT.zf ?_
   refine AtT.zf ?_
   refine AtT.qB Tryz.underlying37 tk3 ?_
   intro p19 e19 he19 hc19
   obtain rfl : e19 = x := by have : l[k]? = some e19 := (by simpa using he19); rw [hx] at this; simpa using this.symm
   first | refine AtT.zm tk3 ?_ | refine AtT.zo tk3 ?_
   refine AtT.zf ?_
   refine AtT.zf ?_
   refine AtT.qB Tryz.underlying37 tk3 ?_
   intro p23 e23 he23 hc23
   obtain rfl : e23 = y := by have : m[k]? = some e23 := (by simpa using he23); rw [hy] at this; simpa using this.symm
   first | refine AtT.zm tk3 ?_ | refine AtT.zo tk3 ?_
   refine AtT.qH ?_
   refine AtT.done ?_
   refine At.nrm ?_
   refine At.zX rfl (fun hc => ?_) (fun hc => ?_)
   ·refine At.nrm ?_
    refine At.zh (.q 0 .done) ?_
    refine AtT.ze ?_
    refine AtT.done ?_
    refine At.nrm ?_
    refine At.qi rfl (.tmp rfl) ?_
    rw [decide_eq_false]
    rintro rfl
    rw [hx] at hy
    cases hy
    exact hc rfl
   ·have hxy : l[k]? = m[k]? := by rw [hx, hy, Decidable.not_not.1 hc]
    refine At.nrm ?_
    refine At.zh (.q 0 (.q 1 (.q 2 .done))) ?_
    refine AtT.zf ?_
    first | refine AtT.qI ?_ | refine AtT.ql ?_
    refine AtT.ze ?_
    refine AtT.done ?_
    refine At.nrm ?_
    refine At.round (k + 1) ?_ ?_ ?_ ?_
    ·show l.length - (k + 1) < l.length - k; omega
    ·refine ⟨rfl, by omega, fun j hj => ?_⟩
     by_cases hjk : j = k
     ·subst hjk; exact hxy
     ·exact hok j (by omega)
    ·exact ⟨rfl, rfl, ivs (by omega), trivial⟩
    ·exact Pt.zH
  ·obtain rfl : k = l.length := by omega
   have hlm2 : l = m := List.ext_getElem? fun j => by
    by_cases hj : j < l.length
    ·exact hok j hj
    ·rw [List.getElem?_eq_none (by omega), List.getElem?_eq_none (by omega)]
   refine At.nrm ?_
   refine At.zh (.q 0 .done) ?_
   refine AtT.ze ?_
   refine AtT.done ?_
   refine At.nrm ?_
   exact At.qi rfl (.tmp rfl) (by rw [decide_eq_true hlm2])
theorem longs_f (l m : List Int) (V : View) (v u : Value) (hs : SlI V v l) (hu : SlI V u m) : Fnc Tryz.prog 22 [v, u] V fun r _ => r = .bool (decide (l = m)) := by
 have hlen := hs.jl
 obtain ⟨a, c, rfl, k1, k2, _⟩ := id hs
 obtain ⟨a', c', rfl, k3, k4, _⟩ := id hu
 clear k1 k2 k3 k4
 refine qh Tryz.func22 rfl Tryz.ntmps22 (Nat.le_of_ble_eq_true rfl) ?_
 intro w0 hw0
 refine At.nrm ?_
 refine At.zh (.q 0 .done) ?_
 refine AtT.ze ?_
 refine AtT.done ?_
 refine At.nrm ?_
 refine At.zh (.q 0 (.q 1 (.q 2 (.q 3 (.q 4 .done))))) ?_
 refine AtT.zf ?_
 first | refine AtT.zR Tryz.underlying28 ?_ | refine AtT.zN Tryz.underlying28 ?_
 refine AtT.zf ?_
 first | refine AtT.zR Tryz.underlying28 ?_ | refine AtT.zN Tryz.underlying28 ?_
 refine AtT.qH ?_
 refine AtT.done ?_
 refine At.nrm ?_
 refine At.zX rfl (fun hb => ?_) (fun hb => ?_)
 ·refine At.nrm ?_
  refine At.zh (.q 0 .done) ?_
  refine AtT.ze ?_
  refine AtT.done ?_
  refine At.nrm ?_
  refine At.qi rfl (.tmp rfl) ?_
  rw [decide_eq_false]
  rintro rfl
  exact hb rfl
 have hlm : l.length = m.length := by omega
 refine At.nrm ?_
 refine At.zh (.q 0 .done) ?_
 refine AtT.ze ?_
 refine AtT.done ?_
 refine At.nrm ?_
 refine At.lp (ι := Nat) (KS := fun k => [(0, .slice a l.length c), (1, .slice a' m.length c'), (5, iv k)]) (OS := fun _ => []) (VS := fun k V' => V' = V ∧ k ≤ l.length ∧ ∀ j, j < k → l[j]? = m[j]?) (μ := fun k => l.length - k) 0 ?_ ?_ ?_ ?_
 ·exact ⟨rfl, rfl, rfl, trivial⟩
 ·exact Pt.zH
 ·exact ⟨rfl, Nat.zero_le _, fun j hj => absurd hj (Nat.not_lt_zero j)⟩
 ·rintro k V' ks' O' ⟨rfl, hkl, hok⟩ hk hO hl2
  subst hk hO
  refine At.nrm ?_
  refine At.zh (.q 0 (.q 1 (.q 2 (.q 3 .done)))) ?_
  refine AtT.zf ?_
  refine AtT.zf ?_
  first | refine AtT.zR Tryz.underlying28 ?_ | refine AtT.zN Tryz.underlying28 ?_
  refine AtT.qp ?_
  refine AtT.done ?_
  refine At.nrm ?_
  refine At.zX rfl (fun hp => ?_) (fun hp => ?_)
  ·obtain ⟨x, hx⟩ : ∃ x, l[k]? = some x := ⟨_, List.getElem?_eq_getElem (by omega)⟩
   obtain ⟨y, hy⟩ : ∃ y, m[k]? = some y := ⟨_, List.getElem?_eq_getElem (by omega)⟩
   refine At.nrm ?_
   refine At.draw (.q 0 (.q 1 (.q 2 (.q 3 (.q 4 (.q 5 (.q 6 (.q 7 (.q 8 .done))))))))) ffm (by kernel_rfl) ?_
   refine AtT.zf ?_
   refine AtT.zf ?_
   refine AtT.qB Tryz.underlying28 tk2 ?_
   intro p19 e19 he19 hc19
   obtain rfl : e19 = x := by have : l[k]? = some e19 := (by simpa using he19); rw [hx] at this; simpa using this.symm
   first | refine AtT.zm tk2 ?_ | refine AtT.zo tk2 ?_
   refine AtT.zf ?_
   refine AtT.zf ?_
   refine AtT.qB Tryz.underlying28 tk2 ?_
   intro p23 e23 he23 hc23
   obtain rfl : e23 = y := by have : m[k]? = some e23 := (by simpa using he23); rw [hy] at this; simpa using this.symm
   first | refine AtT.zm tk2 ?_ | refine AtT.zo tk2 ?_
   refine AtT.qH ?_
   refine AtT.done ?_
   refine At.nrm ?_
   refine At.zX rfl (fun hc => ?_) (fun hc => ?_)
   ·refine At.nrm ?_
    refine At.zh (.q 0 .done) ?_
    refine AtT.ze ?_
    refine AtT.done ?_
    refine At.nrm ?_
    refine At.qi rfl (.tmp rfl) ?_
    rw [decide_eq_false]
    rintro rfl
    rw [hx] at hy
    cases hy
    exact hc rfl
   ·have hxy : l[k]? = m[k]? := by rw [hx, hy, Decidable.not_not.1 hc]
    refine At.nrm ?_
    refine At.zh (.q 0 (.q 1 (.q 2 .done))) ?_
    refine AtT.zf ?_
    first | refine AtT.qI ?_ | refine AtT.ql ?_
    refine AtT.ze ?_
    refine AtT.done ?_
    refine At.nrm ?_
    refine At.round (k + 1) ?_ ?_ ?_ ?_
    ·show l.length - (k + 1) < l.length - k; omega
    ·refine ⟨rfl, by omega, fun j hj => ?_⟩
     by_cases hjk : j = k
     ·subst hjk; exact hxy
     ·exact hok j (by omega)
    ·exact ⟨rfl, rfl, ivs (by omega), trivial⟩
    ·exact Pt.zH
  ·obtain rfl : k = l.length := by omega
   have hlm2 : l = m := List.ext_getElem? fun j => by
    by_cases hj : j < l.length
    ·exact hok j hj
    ·rw [List.getElem?_eq_none (by omega), List.getElem?_eq_none (by omega)]
   refine At.nrm ?_
   refine At.zh (.q 0 .done) ?_
   refine AtT.ze ?_
   refine AtT.done ?_
   refine At.nrm ?_
   exact At.qi rfl (.tmp rfl) (by rw [decide_eq_true hlm2])
theorem great_f (b : Bo) (V : View) (v : Value) (hv : BoV V v b) : Fnc Tryz.prog 16 [v] V fun r _ => r = .bool (grB b) := by
 obtain ⟨v1, a, c, rfl, hr, he⟩ := hv
 obtain ⟨qs, aq, cq, hqr, rfl, hsq, hq⟩ := hr
 have hlen := hsq.jl
 have hlen2 := he.jl
 have hql : qs.length = b.rs.length := by rw [← hqr, List.length_map]
 refine qh Tryz.func16 rfl Tryz.ntmps16 (Nat.le_of_ble_eq_true rfl) ?_
 intro w0 hw0
 refine At.nrm ?_
 refine At.zh (.n false 0 (.q 1 .done)) ?_
 refine AtT.jd ?_
 intro b1
 refine AtT.ze ?_
 refine AtT.done ?_
 refine At.nrm ?_
 by_cases h1 : 12 < b.rs.length
 ·refine At.zh (.q 0 (.q 1 (.q 2 (.q 3 (.q 4 (.q 5 (.q 6 (.q 7 (.q 8 (.q 9 .done)))))))))) ?_
  first | refine AtT.zk zw ?_ | with_reducible refine AtT.zl zw ?_ | refine AtT.zn zw ?_
  first | refine AtT.zm qy ?_ | refine AtT.zo qy ?_
  first | refine AtT.zR Tryz.underlying22 ?_ | refine AtT.zN Tryz.underlying22 ?_
  refine AtT.qJ ?_
  refine AtT.qm (d := 8) rfl ((by omega)) ?_
  refine AtT.zf ?_
  all_goals (first | refine AtT.kL 9 ?_ | refine AtT.zA (d := 9) rfl (fun hg9 => ?_) (fun hg9 => ?_) | refine AtT.zz (d := 9) rfl (fun hg9 => ?_) (fun hg9 => ?_))
  all_goals first|refine AtT.zi ?_|refine AtT.zg ?_|(first | refine AtT.zk zu ?_ | with_reducible refine AtT.zl zu ?_ | refine AtT.zn zu ?_)
  all_goals first|refine AtT.zi ?_|refine AtT.zg ?_|(first | refine AtT.zm qo ?_ | refine AtT.zo qo ?_)
  all_goals first|refine AtT.zi ?_|refine AtT.zg ?_|(first | refine AtT.zR Tryz.underlying24 ?_ | refine AtT.zN Tryz.underlying24 ?_)
  all_goals first|refine AtT.zi ?_|refine AtT.zg ?_|(refine AtT.qJ ?_)
  all_goals (refine AtT.zB ?_)
  all_goals refine AtT.done ?_
  all_goals (refine At.nrm ?_)
  refine At.qb rfl rfl ?_
  refine At.nrm ?_
  refine At.zh (.q 0 .done) ?_
  refine AtT.ze ?_
  refine AtT.done ?_
  refine At.nrm ?_
  exact At.qi rfl (.tmp rfl) (by unfold grB grL; rw [decide_eq_true h1]; rfl)
 by_cases h2 : 30 < b.es.length
 ·refine At.zh (.q 0 (.q 1 (.q 2 (.q 3 (.q 4 (.q 5 (.q 6 (.q 7 (.q 8 (.q 9 .done)))))))))) ?_
  first | refine AtT.zk zw ?_ | with_reducible refine AtT.zl zw ?_ | refine AtT.zn zw ?_
  first | refine AtT.zm qy ?_ | refine AtT.zo qy ?_
  first | refine AtT.zR Tryz.underlying22 ?_ | refine AtT.zN Tryz.underlying22 ?_
  refine AtT.qJ ?_
  refine AtT.zU (d := 8) rfl ((by omega)) ?_
  refine AtT.zf ?_
  all_goals (first | refine AtT.kL 9 ?_ | refine AtT.zA (d := 9) rfl (fun hg9 => ?_) (fun hg9 => ?_) | refine AtT.zz (d := 9) rfl (fun hg9 => ?_) (fun hg9 => ?_))
  all_goals first|refine AtT.zi ?_|refine AtT.zg ?_|(first | refine AtT.zk zu ?_ | with_reducible refine AtT.zl zu ?_ | refine AtT.zn zu ?_)
  all_goals first|refine AtT.zi ?_|refine AtT.zg ?_|(first | refine AtT.zm qo ?_ | refine AtT.zo qo ?_)
  all_goals first|refine AtT.zi ?_|refine AtT.zg ?_|(first | refine AtT.zR Tryz.underlying24 ?_ | refine AtT.zN Tryz.underlying24 ?_)
  all_goals first|refine AtT.zi ?_|refine AtT.zg ?_|(refine AtT.qJ ?_)
  all_goals (refine AtT.qm (d := 13) rfl ((by omega)) ?_)
  all_goals (refine AtT.zB ?_)
  all_goals refine AtT.done ?_
  all_goals (refine At.nrm ?_)
  refine At.qb rfl rfl ?_
  refine At.nrm ?_
  refine At.zh (.q 0 .done) ?_
  refine AtT.ze ?_
  refine AtT.done ?_
  refine At.nrm ?_
  exact At.qi rfl (.tmp rfl) (by unfold grB grL; rw [decide_eq_true h2]; simp)
 refine At.zh (.q 0 (.q 1 (.q 2 (.q 3 (.q 4 (.q 5 (.q 6 (.q 7 (.q 8 (.q 9 .done)))))))))) ?_
 first | refine AtT.zk zw ?_ | with_reducible refine AtT.zl zw ?_ | refine AtT.zn zw ?_
 first | refine AtT.zm qy ?_ | refine AtT.zo qy ?_
 first | refine AtT.zR Tryz.underlying22 ?_ | refine AtT.zN Tryz.underlying22 ?_
 refine AtT.qJ ?_
 refine AtT.zU (d := 8) rfl ((by omega)) ?_
 refine AtT.zf ?_
 all_goals (first | refine AtT.kL 9 ?_ | refine AtT.zA (d := 9) rfl (fun hg9 => ?_) (fun hg9 => ?_) | refine AtT.zz (d := 9) rfl (fun hg9 => ?_) (fun hg9 => ?_))
 all_goals first|refine AtT.zi ?_|refine AtT.zg ?_|(first | refine AtT.zk zu ?_ | with_reducible refine AtT.zl zu ?_ | refine AtT.zn zu ?_)
 all_goals first|refine AtT.zi ?_|refine AtT.zg ?_|(first | refine AtT.zm qo ?_ | refine AtT.zo qo ?_)
 all_goals first|refine AtT.zi ?_|refine AtT.zg ?_|(first | refine AtT.zR Tryz.underlying24 ?_ | refine AtT.zN Tryz.underlying24 ?_)
 all_goals first|refine AtT.zi ?_|refine AtT.zg ?_|(refine AtT.qJ ?_)
 all_goals (refine AtT.zU (d := 13) rfl ((by omega)) ?_)
 all_goals (refine AtT.zB ?_)
 all_goals refine AtT.done ?_
 all_goals (refine At.nrm ?_)
 refine At.qf rfl rfl ?_
 refine At.nrm ?_
 refine At.zh (.q 0 .done) ?_
 refine AtT.ze ?_
 refine AtT.done ?_
 refine At.nrm ?_
 refine At.zh (.q 0 .done) ?_
 refine AtT.ze ?_
 refine AtT.done ?_
 refine At.nrm ?_
 refine At.lp (ι := Nat) (KS := fun k => [(1, .pointer (some ⟨b1, 0, none⟩)), (3, iv (mxP (b.rs.take k))), (4, iv k)]) (OS := fun _ => [.blk b1 (LC [.slice aq qs.length cq, .slice a b.es.length c] 26)]) (VS := fun k V' => V' = V ∧ k ≤ qs.length) (μ := fun k => qs.length - k) 0 ?_ ?_ ?_ ?_
 ·exact ⟨rfl, rfl, rfl, trivial⟩
 ·exact Pt.zH
 ·exact ⟨rfl, Nat.zero_le _⟩
 rintro k V' ks' O' ⟨rfl, hkl⟩ hk hO hl2
 subst hk hO
 refine At.nrm ?_
 refine At.zh (.q 0 (.q 1 (.q 2 (.q 3 (.q 4 .done))))) ?_
 refine AtT.zf ?_
 first | refine AtT.zk zw ?_ | with_reducible refine AtT.zl zw ?_ | refine AtT.zn zw ?_
 first | refine AtT.zm qy ?_ | refine AtT.zo qy ?_
 first | refine AtT.zR Tryz.underlying22 ?_ | refine AtT.zN Tryz.underlying22 ?_
 refine AtT.qp ?_
 refine AtT.done ?_
 refine At.nrm ?_
 refine At.zX rfl (fun hp => ?_) (fun hp => ?_)
 ·obtain ⟨x, hx⟩ : ∃ x, qs[k]? = some x := ⟨_, List.getElem?_eq_getElem (by omega)⟩
  refine At.nrm ?_
  refine At.zh (.q 0 (.q 1 (.q 2 (.q 3 (.q 4 (.q 5 (.q 6 (.q 7 (.q 8 (.q 9 .done)))))))))) ?_
  refine AtT.zf ?_
  first | refine AtT.zk zw ?_ | with_reducible refine AtT.zl zw ?_ | refine AtT.zn zw ?_
  first | refine AtT.zm qy ?_ | refine AtT.zo qy ?_
  refine AtT.zf ?_
  refine AtT.qB Tryz.underlying22 qP ?_
  intro p26 e26 he26 hc26
  obtain rfl : x = e26 := by have : qs[k]? = some e26 := (by simpa using he26); rw [hx] at this; simpa using this
  first | refine AtT.zk zL ?_ | with_reducible refine AtT.zl zL ?_ | refine AtT.zn zL ?_
  first | refine AtT.zm qL ?_ | refine AtT.zo qL ?_
  first | refine AtT.zR Tryz.underlying66 ?_ | refine AtT.zN Tryz.underlying66 ?_
  refine AtT.kmax2 ?_
  refine AtT.ze ?_
  refine AtT.done ?_
  refine At.nrm ?_
  have hbx : b.rs[k]? = some x.1 := by rw [← hqr]; exact qs_at hx
  have htk : b.rs.take (k + 1) = b.rs.take k ++ [x.1] := by
   rw [List.take_succ_eq_append_getElem (by omega)]; congr 1; rw [List.getElem?_eq_getElem (by omega)] at hbx; simpa using hbx
  refine At.nrm ?_
  refine At.zh (.q 0 (.q 1 (.q 2 .done))) ?_
  refine AtT.zf ?_
  first | refine AtT.qI ?_ | refine AtT.ql ?_
  refine AtT.ze ?_
  refine AtT.done ?_
  refine At.nrm ?_
  refine At.round (k + 1) ?_ ?_ ?_ ?_
  ·show qs.length - (k + 1) < qs.length - k; omega
  ·exact ⟨rfl, by omega⟩
  ·rw [htk, mxP_snoc]; exact ⟨rfl, rfl, ivs (by omega), trivial⟩
  ·exact Pt.zH
 obtain rfl : k = qs.length := by omega
 refine At.nrm ?_
 refine At.zh (.q 0 (.q 1 (.q 2 .done))) ?_
 refine AtT.zf ?_
 refine AtT.qJ ?_
 refine AtT.ze ?_
 refine AtT.done ?_
 refine At.nrm ?_
 refine At.qi rfl (.tmp rfl) ?_
 rw [hql, List.take_length]
 unfold grB
 rw [grL_eq h1 h2]
theorem partsOf_f (rs : List Rc) (g : Int) (V : View) (v : Value) (hv : RsV V v rs) : Fnc Tryz.prog 48 [v, iv g] V fun r _ => ∃ a c, r = .slice a (partsOf rs g).length c ∧ Sl V pte 2 (.slice a (partsOf rs g).length c) (partsOf rs g) := by
 obtain ⟨qs, aq, cq, hqr, rfl, hsq, hq⟩ := hv
 have hlen := hsq.jl
 have hql : qs.length = rs.length := by rw [← hqr, List.length_map]
 refine qh Tryz.func48 rfl Tryz.ntmps48 (Nat.le_of_ble_eq_true rfl) ?_
 intro w0 hw0
 refine At.nrm ?_
 refine At.zh (.q 0 .done) ?_
 refine AtT.ze ?_
 refine AtT.done ?_
 refine At.nrm ?_
 refine At.zh (.q 0 .done) ?_
 refine AtT.ze ?_
 refine AtT.done ?_
 refine At.nrm ?_
 refine At.lp (ι := Nat) (KS := fun k => [(0, .slice aq qs.length cq), (1, iv g), (5, iv k)]) (OS := fun _ => []) (VS := fun k V' => V' = V ∧ k ≤ qs.length ∧ (rs.take k).find? (fun r => decide (r.g = g)) = none) (μ := fun k => qs.length - k) 0 ?_ ?_ ?_ ?_
 ·exact ⟨rfl, rfl, rfl, trivial⟩
 ·exact Pt.zH
 ·exact ⟨rfl, Nat.zero_le _, rfl⟩
 rintro k V' ks' O' ⟨rfl, hkl, hno⟩ hk hO hl2
 subst hk hO
 refine At.nrm ?_
 refine At.zh (.q 0 (.q 1 (.q 2 (.q 3 .done)))) ?_
 refine AtT.zf ?_
 refine AtT.zf ?_
 first | refine AtT.zR Tryz.underlying22 ?_ | refine AtT.zN Tryz.underlying22 ?_
 refine AtT.qp ?_
 refine AtT.done ?_
 refine At.nrm ?_
 refine At.zX rfl (fun hp => ?_) (fun hp => ?_)
 ·obtain ⟨x, hx⟩ : ∃ x, qs[k]? = some x := ⟨_, List.getElem?_eq_getElem (by omega)⟩
  have hbx : rs[k]? = some x.1 := by rw [← hqr]; exact qs_at hx
  have hE : rs[k]'(by omega) = x.1 := by rw [List.getElem?_eq_getElem (by omega)] at hbx; simpa using hbx
  have hsp : rs.take (k + 1) = rs.take k ++ [x.1] := by rw [List.take_succ_eq_append_getElem (by omega), hE]
  refine At.nrm ?_
  refine At.zh (.q 0 (.q 1 (.q 2 (.q 3 (.q 4 (.q 5 (.q 6 .done))))))) ?_
  refine AtT.zf ?_
  refine AtT.zf ?_
  refine AtT.qB Tryz.underlying22 qP ?_
  intro p14 e14 he14 hc14
  obtain rfl : x = e14 := by have : qs[k]? = some e14 := (by simpa using he14); rw [hx] at this; simpa using this
  first | refine AtT.zk zY ?_ | with_reducible refine AtT.zl zY ?_ | refine AtT.zn zY ?_
  first | refine AtT.zm tk3 ?_ | refine AtT.zo tk3 ?_
  refine AtT.zf ?_
  refine AtT.qK ?_
  refine AtT.done ?_
  refine At.nrm ?_
  refine At.zX rfl (fun hg => ?_) (fun hg => ?_)
  ·refine At.nrm ?_
   refine At.zh (.q 0 (.q 1 (.q 2 (.q 3 (.q 4 (.q 5 .done)))))) ?_
   refine AtT.zf ?_
   refine AtT.zf ?_
   refine AtT.qB Tryz.underlying22 qP ?_
   intro p21 e21 he21 hc21
   obtain rfl : x = e21 := by have : qs[k]? = some e21 := (by simpa using he21); rw [hx] at this; simpa using this
   first | refine AtT.zk zL ?_ | with_reducible refine AtT.zl zL ?_ | refine AtT.zn zL ?_
   first | refine AtT.zm qL ?_ | refine AtT.zo qL ?_
   refine AtT.ze ?_
   refine AtT.done ?_
   refine At.nrm ?_
   have hf : rs.find? (fun r => decide (r.g = g)) = some x.1 := by
    have : (rs.take (k + 1)).find? (fun r => decide (r.g = g)) = some x.1 := by rw [hsp, List.find?_append, hno]; simp [hg]
    rw [← List.take_append_drop (k + 1) rs, List.find?_append, this]; rfl
   have hpo : partsOf rs g = x.1.ps := by unfold partsOf; rw [hf]
   rw [hpo]
   exact At.qi rfl (.tmp rfl) ⟨_, _, rfl, hq x (qs_mem hx)⟩
  ·refine At.nrm ?_
   refine At.zh (.q 0 (.q 1 (.q 2 .done))) ?_
   refine AtT.zf ?_
   first | refine AtT.qI ?_ | refine AtT.ql ?_
   refine AtT.ze ?_
   refine AtT.done ?_
   refine At.nrm ?_
   refine At.round (k + 1) ?_ ?_ ?_ ?_
   ·show qs.length - (k + 1) < qs.length - k; omega
   ·exact ⟨rfl, by omega, by rw [hsp, List.find?_append, hno]; simp [hg]⟩
   ·exact ⟨rfl, rfl, ivs (by omega), trivial⟩
   ·exact Pt.zH
 obtain rfl : k = qs.length := by omega
 rw [hql, List.take_length] at hno
 have hpo : partsOf rs g = [] := by unfold partsOf; rw [hno]
 rw [hpo]
 refine At.nrm ?_
 refine At.zh (.q 0 .done) ?_
 refine AtT.ze ?_
 refine AtT.done ?_
 refine At.nrm ?_
 exact At.qi rfl (.tmp rfl) ⟨none, 0, rfl, Sl.nil _ _ _⟩
theorem partError_f (g last : Int) (p : Pt) (hg : 0 ≤ g ∧ g ≤ 7) (hl : -1 ≤ last ∧ last ≤ 7) (V : View) : Fnc Tryz.prog 61 [iv g, iv last, ptv p] V fun r _ => r = iv (partE g last p) := by
 refine qh Tryz.func61 rfl Tryz.ntmps61 (Nat.le_of_ble_eq_true rfl) ?_
 intro w0 hw0
 refine At.nrm ?_
 refine At.zh (.n false 0 (.q 1 .done)) ?_
 refine AtT.jd ?_
 intro b5
 refine AtT.ze ?_
 refine AtT.done ?_
 refine At.nrm ?_
 refine At.nrm ?_
 by_cases h1 : 0 ≤ p.t ∧ p.t ≤ 7
 rotate_left
 ·refine At.zh (.q 0 (.q 1 (.n false 2 (.n false 3 (.q 4 (.q 5 (.q 6 (.q 7 (.q 8 (.q 9 (.q 10 (.q 11 (.q 12 (.q 13 (.q 14 (.q 15 .done)))))))))))))))) ?_
  first | refine AtT.zk zV ?_ | with_reducible refine AtT.zl zV ?_ | refine AtT.zn zV ?_
  first | refine AtT.zm tk3 ?_ | refine AtT.zo tk3 ?_
  refine AtT.zQ (qz _) ?_
  intro q10 V10 hV10 hq10
  have g10 : Le V V10 := by first | exact hV10 | exact Le.trans (by assumption) hV10
  refine AtT.qa rfl rfl jU (qC 0 7 p.t _ _ (Sl.lit (l := [p.t]) hq10 rfl (by simp))) ?_
  rintro v11 V11 hV11 rfl
  refine AtT.zU (d := 11) rfl (h1) ?_
  refine AtT.qF ?_
  refine AtT.qM (d := 12) rfl ((show (!false) = true from rfl)) ?_
  refine AtT.zf ?_
  all_goals (first | refine AtT.kL 13 ?_ | refine AtT.zA (d := 13) rfl (fun hg13 => ?_) (fun hg13 => ?_) | refine AtT.zz (d := 13) rfl (fun hg13 => ?_) (fun hg13 => ?_))
  all_goals first|refine AtT.zi ?_|refine AtT.zg ?_|(first | refine AtT.zk qc ?_ | with_reducible refine AtT.zl qc ?_ | refine AtT.zn qc ?_)
  all_goals first|refine AtT.zi ?_|refine AtT.zg ?_|(first | refine AtT.zm tk2 ?_ | refine AtT.zo tk2 ?_)
  all_goals first|refine AtT.zi ?_|refine AtT.zg ?_|(refine AtT.qp ?_)
  all_goals (refine AtT.zB ?_)
  all_goals (refine AtT.zf ?_)
  all_goals (first | refine AtT.kL 18 ?_ | refine AtT.zA (d := 18) rfl (fun hg18 => ?_) (fun hg18 => ?_) | refine AtT.zz (d := 18) rfl (fun hg18 => ?_) (fun hg18 => ?_))
  all_goals first|refine AtT.zi ?_|refine AtT.zg ?_|(first | refine AtT.zk qc ?_ | with_reducible refine AtT.zl qc ?_ | refine AtT.zn qc ?_)
  all_goals first|refine AtT.zi ?_|refine AtT.zg ?_|(first | refine AtT.zm tk2 ?_ | refine AtT.zo tk2 ?_)
  all_goals first|refine AtT.zi ?_|refine AtT.zg ?_|(refine AtT.qJ ?_)
  all_goals (refine AtT.zB ?_)
  all_goals (refine AtT.ze ?_)
  all_goals refine AtT.done ?_
  all_goals (refine At.nrm ?_)
  refine At.qb rfl rfl ?_
  refine At.nrm ?_
  refine At.zh (.q 0 .done) ?_
  refine AtT.ze ?_
  refine AtT.done ?_
  refine At.nrm ?_
  exact At.qi rfl (.tmp rfl) (by unfold partE; rw [if_pos (.inl h1)])
 by_cases h2 : p.n < 1
 ·refine At.zh (.q 0 (.q 1 (.n false 2 (.n false 3 (.q 4 (.q 5 (.q 6 (.q 7 (.q 8 (.q 9 (.q 10 (.q 11 (.q 12 (.q 13 (.q 14 (.q 15 .done)))))))))))))))) ?_
  first | refine AtT.zk zV ?_ | with_reducible refine AtT.zl zV ?_ | refine AtT.zn zV ?_
  first | refine AtT.zm tk3 ?_ | refine AtT.zo tk3 ?_
  refine AtT.zQ (qz _) ?_
  intro q10 V10 hV10 hq10
  have g10 : Le V V10 := by first | exact hV10 | exact Le.trans (by assumption) hV10
  refine AtT.qa rfl rfl jU (qC 0 7 p.t _ _ (Sl.lit (l := [p.t]) hq10 rfl (by simp))) ?_
  rintro v11 V11 hV11 rfl
  refine AtT.qm (d := 11) rfl (h1) ?_
  refine AtT.qF ?_
  refine AtT.qM (d := 12) rfl ((show (!true) = false from rfl)) ?_
  refine AtT.zf ?_
  all_goals (first | refine AtT.kL 13 ?_ | refine AtT.zA (d := 13) rfl (fun hg13 => ?_) (fun hg13 => ?_) | refine AtT.zz (d := 13) rfl (fun hg13 => ?_) (fun hg13 => ?_))
  all_goals first|refine AtT.zi ?_|refine AtT.zg ?_|(first | refine AtT.zk qc ?_ | with_reducible refine AtT.zl qc ?_ | refine AtT.zn qc ?_)
  all_goals first|refine AtT.zi ?_|refine AtT.zg ?_|(first | refine AtT.zm tk2 ?_ | refine AtT.zo tk2 ?_)
  all_goals first|refine AtT.zi ?_|refine AtT.zg ?_|(refine AtT.qp ?_)
  all_goals (refine AtT.qm (d := 16) rfl (h2) ?_)
  all_goals (refine AtT.zB ?_)
  all_goals (refine AtT.zf ?_)
  all_goals (first | refine AtT.kL 18 ?_ | refine AtT.zA (d := 18) rfl (fun hg18 => ?_) (fun hg18 => ?_) | refine AtT.zz (d := 18) rfl (fun hg18 => ?_) (fun hg18 => ?_))
  all_goals first|refine AtT.zi ?_|refine AtT.zg ?_|(first | refine AtT.zk qc ?_ | with_reducible refine AtT.zl qc ?_ | refine AtT.zn qc ?_)
  all_goals first|refine AtT.zi ?_|refine AtT.zg ?_|(first | refine AtT.zm tk2 ?_ | refine AtT.zo tk2 ?_)
  all_goals first|refine AtT.zi ?_|refine AtT.zg ?_|(refine AtT.qJ ?_)
  all_goals (refine AtT.zB ?_)
  all_goals (refine AtT.ze ?_)
  all_goals refine AtT.done ?_
  all_goals (refine At.nrm ?_)
  refine At.qb rfl rfl ?_
  refine At.nrm ?_
  refine At.zh (.q 0 .done) ?_
  refine AtT.ze ?_
  refine AtT.done ?_
  refine At.nrm ?_
  exact At.qi rfl (.tmp rfl) (by unfold partE; rw [if_pos (.inr (.inl h2))])
 by_cases h3 : 9 < p.n
 ·refine At.zh (.q 0 (.q 1 (.n false 2 (.n false 3 (.q 4 (.q 5 (.q 6 (.q 7 (.q 8 (.q 9 (.q 10 (.q 11 (.q 12 (.q 13 (.q 14 (.q 15 .done)))))))))))))))) ?_
  first | refine AtT.zk zV ?_ | with_reducible refine AtT.zl zV ?_ | refine AtT.zn zV ?_
  first | refine AtT.zm tk3 ?_ | refine AtT.zo tk3 ?_
  refine AtT.zQ (qz _) ?_
  intro q10 V10 hV10 hq10
  have g10 : Le V V10 := by first | exact hV10 | exact Le.trans (by assumption) hV10
  refine AtT.qa rfl rfl jU (qC 0 7 p.t _ _ (Sl.lit (l := [p.t]) hq10 rfl (by simp))) ?_
  rintro v11 V11 hV11 rfl
  refine AtT.qm (d := 11) rfl (h1) ?_
  refine AtT.qF ?_
  refine AtT.qM (d := 12) rfl ((show (!true) = false from rfl)) ?_
  refine AtT.zf ?_
  all_goals (first | refine AtT.kL 13 ?_ | refine AtT.zA (d := 13) rfl (fun hg13 => ?_) (fun hg13 => ?_) | refine AtT.zz (d := 13) rfl (fun hg13 => ?_) (fun hg13 => ?_))
  all_goals first|refine AtT.zi ?_|refine AtT.zg ?_|(first | refine AtT.zk qc ?_ | with_reducible refine AtT.zl qc ?_ | refine AtT.zn qc ?_)
  all_goals first|refine AtT.zi ?_|refine AtT.zg ?_|(first | refine AtT.zm tk2 ?_ | refine AtT.zo tk2 ?_)
  all_goals first|refine AtT.zi ?_|refine AtT.zg ?_|(refine AtT.qp ?_)
  all_goals (refine AtT.zU (d := 16) rfl (h2) ?_)
  all_goals (refine AtT.zB ?_)
  all_goals (refine AtT.zf ?_)
  all_goals (first | refine AtT.kL 18 ?_ | refine AtT.zA (d := 18) rfl (fun hg18 => ?_) (fun hg18 => ?_) | refine AtT.zz (d := 18) rfl (fun hg18 => ?_) (fun hg18 => ?_))
  all_goals first|refine AtT.zi ?_|refine AtT.zg ?_|(first | refine AtT.zk qc ?_ | with_reducible refine AtT.zl qc ?_ | refine AtT.zn qc ?_)
  all_goals first|refine AtT.zi ?_|refine AtT.zg ?_|(first | refine AtT.zm tk2 ?_ | refine AtT.zo tk2 ?_)
  all_goals first|refine AtT.zi ?_|refine AtT.zg ?_|(refine AtT.qJ ?_)
  all_goals (refine AtT.qm (d := 21) rfl (h3) ?_)
  all_goals (refine AtT.zB ?_)
  all_goals (refine AtT.ze ?_)
  all_goals refine AtT.done ?_
  all_goals (refine At.nrm ?_)
  refine At.qb rfl rfl ?_
  refine At.nrm ?_
  refine At.zh (.q 0 .done) ?_
  refine AtT.ze ?_
  refine AtT.done ?_
  refine At.nrm ?_
  exact At.qi rfl (.tmp rfl) (by unfold partE; rw [if_pos (.inr (.inr h3))])
 refine At.zh (.q 0 (.q 1 (.n false 2 (.n false 3 (.q 4 (.q 5 (.q 6 (.q 7 (.q 8 (.q 9 (.q 10 (.q 11 (.q 12 (.q 13 (.q 14 (.q 15 .done)))))))))))))))) ?_
 first | refine AtT.zk zV ?_ | with_reducible refine AtT.zl zV ?_ | refine AtT.zn zV ?_
 first | refine AtT.zm tk3 ?_ | refine AtT.zo tk3 ?_
 refine AtT.zQ (qz _) ?_
 intro q10 V10 hV10 hq10
 have g10 : Le V V10 := by first | exact hV10 | exact Le.trans (by assumption) hV10
 refine AtT.qa rfl rfl jU (qC 0 7 p.t _ _ (Sl.lit (l := [p.t]) hq10 rfl (by simp))) ?_
 rintro v11 V11 hV11 rfl
 refine AtT.qm (d := 11) rfl (h1) ?_
 refine AtT.qF ?_
 refine AtT.qM (d := 12) rfl ((show (!true) = false from rfl)) ?_
 refine AtT.zf ?_
 all_goals (first | refine AtT.kL 13 ?_ | refine AtT.zA (d := 13) rfl (fun hg13 => ?_) (fun hg13 => ?_) | refine AtT.zz (d := 13) rfl (fun hg13 => ?_) (fun hg13 => ?_))
 all_goals first|refine AtT.zi ?_|refine AtT.zg ?_|(first | refine AtT.zk qc ?_ | with_reducible refine AtT.zl qc ?_ | refine AtT.zn qc ?_)
 all_goals first|refine AtT.zi ?_|refine AtT.zg ?_|(first | refine AtT.zm tk2 ?_ | refine AtT.zo tk2 ?_)
 all_goals first|refine AtT.zi ?_|refine AtT.zg ?_|(refine AtT.qp ?_)
 all_goals (refine AtT.zU (d := 16) rfl (h2) ?_)
 all_goals (refine AtT.zB ?_)
 all_goals (refine AtT.zf ?_)
 all_goals (first | refine AtT.kL 18 ?_ | refine AtT.zA (d := 18) rfl (fun hg18 => ?_) (fun hg18 => ?_) | refine AtT.zz (d := 18) rfl (fun hg18 => ?_) (fun hg18 => ?_))
 all_goals first|refine AtT.zi ?_|refine AtT.zg ?_|(first | refine AtT.zk qc ?_ | with_reducible refine AtT.zl qc ?_ | refine AtT.zn qc ?_)
 all_goals first|refine AtT.zi ?_|refine AtT.zg ?_|(first | refine AtT.zm tk2 ?_ | refine AtT.zo tk2 ?_)
 all_goals first|refine AtT.zi ?_|refine AtT.zg ?_|(refine AtT.qJ ?_)
 all_goals (refine AtT.zU (d := 21) rfl (h3) ?_)
 all_goals (refine AtT.zB ?_)
 all_goals (refine AtT.ze ?_)
 all_goals refine AtT.done ?_
 all_goals (refine At.nrm ?_)
 refine At.qf rfl rfl ?_
 have hn : ¬ (¬ (0 ≤ p.t ∧ p.t ≤ 7) ∨ p.n < 1 ∨ 9 < p.n) := by omega
 have k11 := g10.trans hV11
 refine At.nrm ?_
 by_cases h4 : last + 1 ≤ p.t ∧ p.t ≤ g - 1
 rotate_left
 ·refine At.zh (.q 0 (.q 1 (.q 2 (.q 3 (.q 4 (.q 5 (.n false 6 (.n false 7 (.q 8 (.q 9 .done)))))))))) ?_
  refine AtT.zf ?_
  first | refine AtT.qI ?_ | refine AtT.ql ?_
  refine AtT.zf ?_
  first | refine AtT.je ?_ | refine AtT.jf ?_
  first | refine AtT.zk zV ?_ | with_reducible refine AtT.zl zV ?_ | refine AtT.zn zV ?_
  first | refine AtT.zm tk3 ?_ | refine AtT.zo tk3 ?_
  refine AtT.zQ (qz _) ?_
  intro q30 V30 hV30 hq30
  have g30 : Le V V30 := by first | exact hV30 | exact Le.trans (by assumption) hV30
  refine AtT.qa rfl rfl jU (qC _ _ p.t _ _ (Sl.lit (l := [p.t]) hq30 rfl (by simp))) ?_
  rintro v31 V31 hV31 rfl
  refine AtT.zU (d := 31) rfl (h4) ?_
  refine AtT.qF ?_
  refine AtT.qM (d := 32) rfl ((show (!false) = true from rfl)) ?_
  refine AtT.ze ?_
  refine AtT.done ?_
  refine At.nrm ?_
  refine At.qb rfl rfl ?_
  refine At.nrm ?_
  refine At.zh (.q 0 .done) ?_
  refine AtT.ze ?_
  refine AtT.done ?_
  refine At.nrm ?_
  exact At.qi rfl (.tmp rfl) (by unfold partE; rw [if_neg hn, if_pos h4])
 refine At.zh (.q 0 (.q 1 (.q 2 (.q 3 (.q 4 (.q 5 (.n false 6 (.n false 7 (.q 8 (.q 9 .done)))))))))) ?_
 refine AtT.zf ?_
 first | refine AtT.qI ?_ | refine AtT.ql ?_
 refine AtT.zf ?_
 first | refine AtT.je ?_ | refine AtT.jf ?_
 first | refine AtT.zk zV ?_ | with_reducible refine AtT.zl zV ?_ | refine AtT.zn zV ?_
 first | refine AtT.zm tk3 ?_ | refine AtT.zo tk3 ?_
 refine AtT.zQ (qz _) ?_
 intro q30 V30 hV30 hq30
 have g30 : Le V V30 := by first | exact hV30 | exact Le.trans (by assumption) hV30
 refine AtT.qa rfl rfl jU (qC _ _ p.t _ _ (Sl.lit (l := [p.t]) hq30 rfl (by simp))) ?_
 rintro v31 V31 hV31 rfl
 refine AtT.qm (d := 31) rfl (h4) ?_
 refine AtT.qF ?_
 refine AtT.qM (d := 32) rfl ((show (!true) = false from rfl)) ?_
 refine AtT.ze ?_
 refine AtT.done ?_
 refine At.nrm ?_
 refine At.qf rfl rfl ?_
 refine At.nrm ?_
 refine At.zh (.q 0 .done) ?_
 refine AtT.ze ?_
 refine AtT.done ?_
 refine At.nrm ?_
 exact At.qi rfl (.tmp rfl) (by unfold partE; rw [if_neg hn, if_neg (fun h => h h4)])
end Go.Proofs.YtpoignmclfdgpaaGreatDoor
set_option linter.unusedVariables false
namespace Go.Bk
open Go.Lw Go.Gl
theorem drop_at {α : Type} {l : List α} {k : Nat} {x : α} (h : l[k]? = some x) : l.drop k = x :: l.drop (k + 1) := by
 obtain ⟨hk, rfl⟩ := List.getElem?_eq_some_iff.1 h
 exact List.drop_eq_getElem_cons hk
def lastR (rs : List Rc) : Nat → Int
 | 0 => -1
 | k + 1 => (rs.getD k ⟨0, []⟩).g
def lastP (ps : List Pt) : Nat → Int
 | 0 => -1
 | k + 1 => (ps.getD k ⟨0, 0⟩).t
theorem lastR_at {rs : List Rc} {k : Nat} {r : Rc} (h : rs[k]? = some r) : lastR rs (k + 1) = r.g := by simp [lastR, List.getD, h]
theorem lastP_at {ps : List Pt} {k : Nat} {p : Pt} (h : ps[k]? = some p) : lastP ps (k + 1) = p.t := by simp [lastP, List.getD, h]
end Go.Bk
namespace Go.Proofs.YtpoignmclfdgpaaGreatDoor
open Go.Lw Go.Gl Go.Bk Go.RowKit
theorem checkRecipes_f (rs : List Rc) (V : View) (v : Value) (hv : RsV V v rs) : Fnc Tryz.prog 20 [v] V fun r _ => r = iv (crE rs) := by
 obtain ⟨qs, aq, cq, hqr, rfl, hsq, hq⟩ := hv
 have hlen := hsq.jl
 have hql : qs.length = rs.length := by rw [← hqr, List.length_map]
 refine qh Tryz.func20 rfl Tryz.ntmps20 (Nat.le_of_ble_eq_true rfl) ?_
 intro w0 hw0
 refine At.nrm ?_
 refine At.zh (.q 0 .done) ?_
 refine AtT.ze ?_
 refine AtT.done ?_
 refine At.nrm ?_
 refine At.zh (.q 0 .done) ?_
 refine AtT.ze ?_
 refine AtT.done ?_
 refine At.nrm ?_
 refine At.zh (.q 0 (.q 1 (.q 2 .done))) ?_
 refine AtT.zf ?_
 first | refine AtT.zR Tryz.underlying22 ?_ | refine AtT.zN Tryz.underlying22 ?_
 refine AtT.zf ?_
 refine AtT.done ?_
 refine At.nrm ?_
 refine At.lp (ι := Nat) (KS := fun k => [(3, iv (lastR rs k)), (10, .slice aq qs.length cq), (11, iv qs.length), (12, iv k)]) (OS := fun _ => []) (VS := fun k V' => Le V V' ∧ k ≤ qs.length ∧ crE rs = recsE (lastR rs k) (rs.drop k)) (μ := fun k => qs.length - k) 0 ?_ ?_ ?_ ?_
 ·exact ⟨rfl, rfl, rfl, rfl, trivial⟩
 ·exact Pt.zH
 ·exact ⟨Le.refl _, Nat.zero_le _, rfl⟩
 rintro k V' ks' O' ⟨hVV, hkl, hcr⟩ hk hO hl2
 subst hk hO
 have hsq1 := hsq.le hVV
 have hq1 := hq.le hVV
 refine At.nrm ?_
 refine At.zh (.q 0 .done) ?_
 refine AtT.qp ?_
 refine AtT.done ?_
 refine At.nrm ?_
 refine At.zX rfl (fun hp => ?_) (fun hp => ?_)
 rotate_left
 ·obtain rfl : k = qs.length := by omega
  rw [hql, List.drop_length] at hcr
  refine At.nrm ?_
  refine At.zh (.q 0 .done) ?_
  refine AtT.ze ?_
  refine AtT.done ?_
  refine At.nrm ?_
  exact At.qi rfl (.tmp rfl) (by rw [hcr]; rfl)
 obtain ⟨x, hx⟩ : ∃ x, qs[k]? = some x := ⟨_, List.getElem?_eq_getElem (by omega)⟩
 have hbx : rs[k]? = some x.1 := by rw [← hqr]; exact qs_at hx
 rw [drop_at hbx] at hcr
 simp only [recsE] at hcr
 have hbad : ∀ c, rcE (lastR rs k) x.1 = c → c ≠ 0 → crE rs = c := fun c h0 h1 => by rw [hcr, if_pos (by rw [h0]; exact h1)]; exact h0
 refine At.nrm ?_
 refine At.zh (.q 0 (.q 1 (.n false 2 (.n true 3 .done)))) ?_
 refine AtT.qB Tryz.underlying22 qP ?_
 intro p14 e14 he14 hc14
 obtain rfl : x = e14 := by have : qs[k]? = some e14 := (by simpa using he14); rw [hx] at this; simpa using this
 first | refine AtT.zD qP ?_ | refine AtT.zI qP ?_ | refine AtT.zC qP ?_
 refine AtT.zT z80 ?_
 intro b5
 refine AtT.zF qP ?_
 refine AtT.done ?_
 refine At.nrm ?_
 refine At.nrm ?_
 by_cases h1 : 0 ≤ x.1.g ∧ x.1.g ≤ 7
 rotate_left
 ·refine At.zh (.q 0 (.q 1 (.n false 2 (.n false 3 (.q 4 (.q 5 .done)))))) ?_
  first | refine AtT.zk zY ?_ | with_reducible refine AtT.zl zY ?_ | refine AtT.zn zY ?_
  first | refine AtT.zm tk3 ?_ | refine AtT.zo tk3 ?_
  refine AtT.zQ (qz _) ?_
  intro q19 V19 hV19 hq19
  have g19 : Le V V19 := by first | exact hV19 | exact Le.trans (by assumption) hV19
  refine AtT.qa rfl rfl jU (qC 0 7 x.1.g _ _ (Sl.lit (l := [x.1.g]) hq19 rfl (by simp))) ?_
  rintro v20 V20 hV20 rfl
  refine AtT.zU (d := 20) rfl (h1) ?_
  refine AtT.qF ?_
  refine AtT.qM (d := 21) rfl ((show (!false) = true from rfl)) ?_
  refine AtT.ze ?_
  refine AtT.done ?_
  refine At.nrm ?_
  refine At.qb rfl rfl ?_
  refine At.nrm ?_
  refine At.zh (.q 0 .done) ?_
  refine AtT.ze ?_
  refine AtT.done ?_
  refine At.nrm ?_
  exact At.qi rfl (.tmp rfl) (by rw [hbad 3 (by unfold rcE; rw [if_pos h1]) (by decide)])
 refine At.zh (.q 0 (.q 1 (.n false 2 (.n false 3 (.q 4 (.q 5 .done)))))) ?_
 first | refine AtT.zk zY ?_ | with_reducible refine AtT.zl zY ?_ | refine AtT.zn zY ?_
 first | refine AtT.zm tk3 ?_ | refine AtT.zo tk3 ?_
 refine AtT.zQ (qz _) ?_
 intro q19 V19 hV19 hq19
 have g19 : Le V V19 := by first | exact hV19 | exact Le.trans (by assumption) hV19
 refine AtT.qa rfl rfl jU (qC 0 7 x.1.g _ _ (Sl.lit (l := [x.1.g]) hq19 rfl (by simp))) ?_
 rintro v20 V20 hV20 rfl
 refine AtT.qm (d := 20) rfl (h1) ?_
 refine AtT.qF ?_
 refine AtT.qM (d := 21) rfl ((show (!true) = false from rfl)) ?_
 refine AtT.ze ?_
 refine AtT.done ?_
 refine At.nrm ?_
 refine At.qf rfl rfl ?_
 refine At.nrm ?_
 refine At.zh (.q 0 (.q 1 (.q 2 (.q 3 (.q 4 .done))))) ?_
 first | refine AtT.zk zY ?_ | with_reducible refine AtT.zl zY ?_ | refine AtT.zn zY ?_
 first | refine AtT.zm tk3 ?_ | refine AtT.zo tk3 ?_
 refine AtT.zf ?_
 refine AtT.kleq ?_
 refine AtT.ze ?_
 refine AtT.done ?_
 refine At.nrm ?_
 refine At.zX rfl (fun h2 => ?_) (fun h2 => ?_)
 ·refine At.nrm ?_
  refine At.zh (.q 0 .done) ?_
  refine AtT.ze ?_
  refine AtT.done ?_
  refine At.nrm ?_
  exact At.qi rfl (.tmp rfl) (by rw [hbad 16 (by unfold rcE; rw [if_neg (fun h => h h1), if_pos h2]) (by decide)])
 have k20 := g19.trans hV20
 refine At.nrm ?_
 by_cases h3 : 1 ≤ (x.1.ps.length : Int) ∧ (x.1.ps.length : Int) ≤ 3
 rotate_left
 ·refine At.zh (.q 0 (.q 1 (.q 2 (.n false 3 (.n false 4 (.q 5 (.q 6 .done))))))) ?_
  first | refine AtT.zk zL ?_ | with_reducible refine AtT.zl zL ?_ | refine AtT.zn zL ?_
  first | refine AtT.zm qL ?_ | refine AtT.zo qL ?_
  first | refine AtT.zR Tryz.underlying66 ?_ | refine AtT.zN Tryz.underlying66 ?_
  refine AtT.zQ (qz _) ?_
  intro q31 V31 hV31 hq31
  have g31 : Le V V31 := by first | exact hV31 | exact Le.trans (by assumption) hV31
  refine AtT.qa rfl rfl jU (qC 1 3 x.1.ps.length _ _ (Sl.lit (l := [(x.1.ps.length : Int)]) hq31 rfl (by simp))) ?_
  rintro v32 V32 hV32 rfl
  refine AtT.zU (d := 32) rfl (h3) ?_
  refine AtT.qF ?_
  refine AtT.qM (d := 33) rfl ((show (!false) = true from rfl)) ?_
  refine AtT.ze ?_
  refine AtT.done ?_
  refine At.nrm ?_
  refine At.qb rfl rfl ?_
  refine At.nrm ?_
  refine At.zh (.q 0 .done) ?_
  refine AtT.ze ?_
  refine AtT.done ?_
  refine At.nrm ?_
  exact At.qi rfl (.tmp rfl) (by rw [hbad 6 (by unfold rcE; rw [if_neg (fun h => h h1), if_neg h2, if_pos (by omega)]) (by decide)])
 refine At.zh (.q 0 (.q 1 (.q 2 (.n false 3 (.n false 4 (.q 5 (.q 6 .done))))))) ?_
 first | refine AtT.zk zL ?_ | with_reducible refine AtT.zl zL ?_ | refine AtT.zn zL ?_
 first | refine AtT.zm qL ?_ | refine AtT.zo qL ?_
 first | refine AtT.zR Tryz.underlying66 ?_ | refine AtT.zN Tryz.underlying66 ?_
 refine AtT.zQ (qz _) ?_
 intro q31 V31 hV31 hq31
 have g31 : Le V V31 := by first | exact hV31 | exact Le.trans (by assumption) hV31
 refine AtT.qa rfl rfl jU (qC 1 3 x.1.ps.length _ _ (Sl.lit (l := [(x.1.ps.length : Int)]) hq31 rfl (by simp))) ?_
 rintro v32 V32 hV32 rfl
 refine AtT.qm (d := 32) rfl (h3) ?_
 refine AtT.qF ?_
 refine AtT.qM (d := 33) rfl ((show (!true) = false from rfl)) ?_
 refine AtT.ze ?_
 refine AtT.done ?_
 refine At.nrm ?_
 refine At.qf rfl rfl ?_
 have hrc : rcE (lastR rs k) x.1 = partsE x.1.g (-1) x.1.ps := by unfold rcE; rw [if_neg (fun h => h h1), if_neg h2, if_neg (by omega)]
 have k32 := g31.trans hV32
 have hps : Sl V32 pte 2 (.slice x.2.1 x.1.ps.length x.2.2) x.1.ps := (hq x (qs_mem hx)).le k32
 refine At.nrm ?_
 refine At.zh (.q 0 (.q 1 (.q 2 .done))) ?_
 first | refine AtT.zk zY ?_ | with_reducible refine AtT.zl zY ?_ | refine AtT.zn zY ?_
 first | refine AtT.zm tk3 ?_ | refine AtT.zo tk3 ?_
 refine AtT.ze ?_
 refine AtT.done ?_
 refine At.nrm ?_
 refine At.zh (.q 0 .done) ?_
 refine AtT.ze ?_
 refine AtT.done ?_
 refine At.nrm ?_
 refine At.zh (.q 0 (.q 1 (.q 2 (.q 3 .done)))) ?_
 first | refine AtT.zk zL ?_ | with_reducible refine AtT.zl zL ?_ | refine AtT.zn zL ?_
 first | refine AtT.zm qL ?_ | refine AtT.zo qL ?_
 first | refine AtT.zR Tryz.underlying66 ?_ | refine AtT.zN Tryz.underlying66 ?_
 refine AtT.zf ?_
 refine AtT.done ?_
 refine At.nrm ?_
 refine At.lp (ι := Nat) (KS := fun j => [(3, iv x.1.g), (5, .pointer (some ⟨b5, 0, none⟩)), (6, iv (lastP x.1.ps j)), (10, .slice aq qs.length cq), (11, iv qs.length), (12, iv k), (37, .slice x.2.1 x.1.ps.length x.2.2), (38, iv x.1.ps.length), (39, iv j)]) (OS := fun _ => [.blk b5 (LC (rce x) 80)]) (VS := fun j V'' => Le V32 V'' ∧ j ≤ x.1.ps.length ∧ partsE x.1.g (-1) x.1.ps = partsE x.1.g (lastP x.1.ps j) (x.1.ps.drop j) ∧ -1 ≤ lastP x.1.ps j ∧ lastP x.1.ps j ≤ 7) (μ := fun j => x.1.ps.length - j) 0 ?_ ?_ ?_ ?_
 ·exact ⟨rfl, rfl, rfl, rfl, rfl, rfl, rfl, rfl, rfl, trivial⟩
 ·exact Pt.zH
 ·exact ⟨Le.refl _, Nat.zero_le _, rfl, by simp [lastP], by simp [lastP]⟩
 rintro j V'' ks' O' ⟨hV3, hjl, hpe, hb1, hb2⟩ hk hO hl3
 subst hk hO
 have hps1 := hps.le hV3
 refine At.nrm ?_
 refine At.zh (.q 0 .done) ?_
 refine AtT.qp ?_
 refine AtT.done ?_
 refine At.nrm ?_
 refine At.zX rfl (fun hp2 => ?_) (fun hp2 => ?_)
 rotate_left
 ·obtain rfl : j = x.1.ps.length := by omega
  rw [List.drop_length] at hpe
  have h0 : rcE (lastR rs k) x.1 = 0 := by rw [hrc, hpe]; rfl
  rw [if_neg (by rw [h0]; simp)] at hcr
  refine At.nrm ?_
  refine At.zh (.q 0 (.q 1 .done)) ?_
  first | refine AtT.qI ?_ | refine AtT.ql ?_
  refine AtT.zf ?_
  refine AtT.done ?_
  refine At.nrm ?_
  refine At.round (k + 1) ?_ ?_ ?_ ?_
  ·show qs.length - (k + 1) < qs.length - k; omega
  ·exact ⟨k32.trans hV3, by omega, by rw [lastR_at hbx]; exact hcr⟩
  ·rw [lastR_at hbx]; exact ⟨rfl, rfl, rfl, ivs (by omega), trivial⟩
  ·exact Pt.zH
 obtain ⟨p, hpx⟩ : ∃ p, x.1.ps[j]? = some p := ⟨_, List.getElem?_eq_getElem (by omega)⟩
 rw [drop_at hpx] at hpe
 simp only [partsE] at hpe
 refine At.nrm ?_
 refine At.zh (.q 0 (.q 1 (.n false 2 (.n true 3 .done)))) ?_
 refine AtT.qB Tryz.underlying66 qX ?_
 intro p41 e41 he41 hc41
 obtain rfl : p = e41 := by have : x.1.ps[j]? = some e41 := (by simpa using he41); rw [hpx] at this; simpa using this
 first | refine AtT.zD qX ?_ | refine AtT.zI qX ?_ | refine AtT.zC qX ?_
 refine AtT.zT z69 ?_
 intro b8
 refine AtT.zF qX ?_
 refine AtT.done ?_
 refine At.nrm ?_
 refine At.nrm ?_
 refine At.zh (.q 0 (.q 1 (.q 2 (.q 3 (.n false 4 (.q 5 .done)))))) ?_
 first | refine AtT.zk zY ?_ | with_reducible refine AtT.zl zY ?_ | refine AtT.zn zY ?_
 first | refine AtT.zm tk3 ?_ | refine AtT.zo tk3 ?_
 refine AtT.zf ?_
 first | refine AtT.zD qX ?_ | refine AtT.zI qX ?_ | refine AtT.zC qX ?_
 refine AtT.zG rfl rfl ok61 (partError_f x.1.g (lastP x.1.ps j) p h1 ⟨hb1, hb2⟩ _) ?_
 rintro _ rfl
 refine AtT.ze ?_
 refine AtT.done ?_
 refine At.nrm ?_
 refine At.nrm ?_
 refine At.zh (.q 0 (.q 1 .done)) ?_
 refine AtT.zf ?_
 refine AtT.qH ?_
 refine AtT.done ?_
 refine At.nrm ?_
 refine At.zX rfl (fun he => ?_) (fun he => ?_)
 ·rw [if_pos he] at hpe
  refine At.nrm ?_
  refine At.zh (.q 0 (.q 1 .done)) ?_
  refine AtT.zf ?_
  refine AtT.ze ?_
  refine AtT.done ?_
  refine At.nrm ?_
  exact At.qi rfl (.tmp rfl) (by rw [hbad _ (hrc.trans hpe) he])
 have he' := partE_iff.1 (Classical.not_not.1 he)
 rw [if_neg he] at hpe
 refine At.nrm ?_
 refine At.zh (.q 0 (.q 1 (.q 2 .done))) ?_
 first | refine AtT.zk zV ?_ | with_reducible refine AtT.zl zV ?_ | refine AtT.zn zV ?_
 first | refine AtT.zm tk3 ?_ | refine AtT.zo tk3 ?_
 refine AtT.ze ?_
 refine AtT.done ?_
 refine At.nrm ?_
 refine At.nrm ?_
 refine At.zh (.q 0 (.q 1 .done)) ?_
 first | refine AtT.qI ?_ | refine AtT.ql ?_
 refine AtT.zf ?_
 refine AtT.done ?_
 refine At.nrm ?_
 refine At.round (j + 1) ?_ ?_ ?_ ?_
 ·show x.1.ps.length - (j + 1) < x.1.ps.length - j; omega
 ·exact ⟨hV3, by omega, by rw [lastP_at hpx]; exact hpe, by rw [lastP_at hpx]; have := he'.t; omega, by rw [lastP_at hpx]; exact he'.t.2⟩
 ·rw [lastP_at hpx]; exact ⟨rfl, rfl, rfl, rfl, rfl, rfl, rfl, rfl, ivs (by omega), trivial⟩
 ·exact Pt.zH
theorem jW (rs : List Rc) (V : View) (v : Value) (hv : RsV V v rs) : Fnc Tryz.prog 21 [v] V fun r _ => r = iv (crE rs) := by
 obtain ⟨qs, aq, cq, hqr, rfl, hsq, hq⟩ := hv
 have hlen := hsq.jl
 have hql : qs.length = rs.length := by rw [← hqr, List.length_map]
 refine qh Tryz.func21 rfl Tryz.ntmps21 (Nat.le_of_ble_eq_true rfl) ?_
 intro w0 hw0
 refine At.nrm ?_
 refine At.zh (.q 0 .done) ?_
 refine AtT.ze ?_
 refine AtT.done ?_
 refine At.nrm ?_
 refine At.zh (.q 0 .done) ?_
 refine AtT.ze ?_
 refine AtT.done ?_
 refine At.nrm ?_
 refine At.lp (ι := Nat) (KS := fun k => [(0, .slice aq qs.length cq), (3, iv k)]) (OS := fun _ => []) (VS := fun k V' => V' = V ∧ k ≤ qs.length ∧ crE rs = recsE (lastR rs k) (rs.drop k)) (μ := fun k => qs.length - k) 0 ?_ ?_ ?_ ?_
 ·exact ⟨rfl, rfl, trivial⟩
 ·exact Pt.zH
 ·exact ⟨rfl, Nat.zero_le _, rfl⟩
 rintro k V' ks' O' ⟨rfl, hkl, hcr⟩ hk hO hl2
 subst hk hO
 refine At.nrm ?_
 refine At.zh (.q 0 (.q 1 (.q 2 (.q 3 .done)))) ?_
 refine AtT.zf ?_
 refine AtT.zf ?_
 first | refine AtT.zR Tryz.underlying22 ?_ | refine AtT.zN Tryz.underlying22 ?_
 refine AtT.qp ?_
 refine AtT.done ?_
 refine At.nrm ?_
 refine At.zX rfl (fun hp => ?_) (fun hp => ?_)
 rotate_left
 ·obtain rfl : k = qs.length := by omega
  rw [hql, List.drop_length] at hcr
  refine At.nrm ?_
  refine At.zh (.q 0 .done) ?_
  refine AtT.ze ?_
  refine AtT.done ?_
  refine At.nrm ?_
  exact At.qi rfl (.tmp rfl) (by rw [hcr]; rfl)
 obtain ⟨x, hx⟩ : ∃ x, qs[k]? = some x := ⟨_, List.getElem?_eq_getElem (by omega)⟩
 have hbx : rs[k]? = some x.1 := by rw [← hqr]; exact qs_at hx
 rw [drop_at hbx] at hcr
 simp only [recsE] at hcr
 have hbad : ∀ c, rcE (lastR rs k) x.1 = c → c ≠ 0 → crE rs = c := fun c h0 h1 => by rw [hcr, if_pos (by rw [h0]; exact h1)]; exact h0
 have hps : Sl V' pte 2 (.slice x.2.1 x.1.ps.length x.2.2) x.1.ps := hq x (qs_mem hx)
 refine At.nrm ?_
 refine At.zh (.q 0 (.q 1 (.q 2 (.q 3 (.n false 4 (.n true 5 .done)))))) ?_
 refine AtT.zf ?_
 refine AtT.zf ?_
 refine AtT.qB Tryz.underlying22 qP ?_
 intro p15 e15 he15 hc15
 obtain rfl : x = e15 := by have : qs[k]? = some e15 := (by simpa using he15); rw [hx] at this; simpa using this
 first | refine AtT.zD qP ?_ | refine AtT.zI qP ?_ | refine AtT.zC qP ?_
 refine AtT.zT z80 ?_
 intro b4
 refine AtT.zF qP ?_
 refine AtT.done ?_
 refine At.nrm ?_
 refine At.nrm ?_
 by_cases h1 : 0 ≤ x.1.g ∧ x.1.g ≤ 7
 rotate_left
 ·refine At.zh (.q 0 (.q 1 (.n false 2 (.q 3 .done)))) ?_
  first | refine AtT.zk zY ?_ | with_reducible refine AtT.zl zY ?_ | refine AtT.zn zY ?_
  first | refine AtT.zm tk3 ?_ | refine AtT.zo tk3 ?_
  refine AtT.zG rfl rfl ok59 (jb x.1.g _) ?_
  rintro _ rfl
  refine AtT.zU (d := 19) rfl (h1) ?_
  refine AtT.qF ?_
  refine AtT.qM (d := 20) rfl ((show (!false) = true from rfl)) ?_
  refine AtT.done ?_
  refine At.nrm ?_
  refine At.qb rfl rfl ?_
  refine At.nrm ?_
  refine At.zh (.q 0 .done) ?_
  refine AtT.ze ?_
  refine AtT.done ?_
  refine At.nrm ?_
  exact At.qi rfl (.tmp rfl) (by rw [hbad 3 (by unfold rcE; rw [if_pos h1]) (by decide)])
 refine At.zh (.q 0 (.q 1 (.n false 2 (.q 3 .done)))) ?_
 first | refine AtT.zk zY ?_ | with_reducible refine AtT.zl zY ?_ | refine AtT.zn zY ?_
 first | refine AtT.zm tk3 ?_ | refine AtT.zo tk3 ?_
 refine AtT.zG rfl rfl ok59 (jb x.1.g _) ?_
 rintro _ rfl
 refine AtT.qm (d := 19) rfl (h1) ?_
 refine AtT.qF ?_
 refine AtT.qM (d := 20) rfl ((show (!true) = false from rfl)) ?_
 refine AtT.done ?_
 refine At.nrm ?_
 refine At.qf rfl rfl ?_
 refine At.nrmB ?_
 refine At.cutG (ι := Unit) (fun _ => [(0, .slice aq qs.length cq), (3, iv k), (4, .pointer (some ⟨b4, 0, none⟩)), (33, .bool (decide (x.1.g ≤ lastR rs k)))]) (fun _ => [.blk b4 (LC (rce x) 80)]) (fun _ V'' => V'' = V') ?_ ?_
 ·by_cases hk0 : k = 0
  ·subst hk0
   rw [show decide (x.1.g ≤ lastR rs 0) = false from decide_eq_false (by simp [lastR]; omega)]
   refine At.draw (.q 0 (.q 1 (.q 2 (.q 3 (.q 4 (.q 5 (.q 6 (.q 7 (.q 8 (.q 9 (.q 10 (.q 11 (.q 12 .done))))))))))))) ffm (by kernel_rfl) ?_
   refine AtT.zf ?_
   refine AtT.qJ ?_
   refine AtT.zU (d := 22) rfl ((by omega)) ?_
   refine AtT.zf ?_
   all_goals (first | refine AtT.kL 23 ?_ | refine AtT.zA (d := 23) rfl (fun hg23 => ?_) (fun hg23 => ?_) | refine AtT.zz (d := 23) rfl (fun hg23 => ?_) (fun hg23 => ?_))
   all_goals first|refine AtT.zi ?_|refine AtT.zg ?_|(first | refine AtT.zk zY ?_ | with_reducible refine AtT.zl zY ?_ | refine AtT.zn zY ?_)
   all_goals first|refine AtT.zi ?_|refine AtT.zg ?_|(first | refine AtT.zm tk3 ?_ | refine AtT.zo tk3 ?_)
   all_goals first|refine AtT.zi ?_|refine AtT.zg ?_|(refine AtT.zf ?_)
   all_goals first|refine AtT.zi ?_|refine AtT.zg ?_|(refine AtT.zf ?_)
   all_goals first|refine AtT.zi ?_|refine AtT.zg ?_|(first | refine AtT.je ?_ | refine AtT.jf ?_)
   all_goals first|refine AtT.zi ?_|refine AtT.zg ?_|(refine AtT.qB Tryz.underlying22 qP ?_) ; (intro p29 e29 he29 hc29)
   all_goals first|refine AtT.zi ?_|refine AtT.zg ?_|(first | refine AtT.zk zY ?_ | with_reducible refine AtT.zl zY ?_ | refine AtT.zn zY ?_)
   all_goals first|refine AtT.zi ?_|refine AtT.zg ?_|(first | refine AtT.zm tk3 ?_ | refine AtT.zo tk3 ?_)
   all_goals first|refine AtT.zi ?_|refine AtT.zg ?_|(refine AtT.kleq ?_)
   all_goals (refine AtT.zB ?_)
   all_goals refine AtT.done ?_
   all_goals (refine At.nrm ?_)
   all_goals (exact At.kC () rfl ⟨rfl, rfl, rfl, rfl, trivial⟩ Pt.zH)
  obtain ⟨m, rfl⟩ : ∃ m, k = m + 1 := ⟨k - 1, by omega⟩
  obtain ⟨y, hy⟩ : ∃ y, qs[m]? = some y := ⟨_, List.getElem?_eq_getElem (by omega)⟩
  have hby : rs[m]? = some y.1 := by rw [← hqr]; exact qs_at hy
  have hmm : ((m + 1 : Nat) : Int) - 1 = (m : Int) := by omega
  rw [lastR_at hby]
  refine At.draw (.q 0 (.q 1 (.q 2 (.q 3 (.q 4 (.q 5 (.q 6 (.q 7 (.q 8 (.q 9 (.q 10 (.q 11 (.q 12 .done))))))))))))) ffm (by kernel_rfl) ?_
  refine AtT.zf ?_
  refine AtT.qJ ?_
  refine AtT.qm (d := 22) rfl ((by omega)) ?_
  refine AtT.zf ?_
  all_goals (first | refine AtT.kL 23 ?_ | refine AtT.zA (d := 23) rfl (fun hg23 => ?_) (fun hg23 => ?_) | refine AtT.zz (d := 23) rfl (fun hg23 => ?_) (fun hg23 => ?_))
  all_goals first|refine AtT.zi ?_|refine AtT.zg ?_|(first | refine AtT.zk zY ?_ | with_reducible refine AtT.zl zY ?_ | refine AtT.zn zY ?_)
  all_goals first|refine AtT.zi ?_|refine AtT.zg ?_|(first | refine AtT.zm tk3 ?_ | refine AtT.zo tk3 ?_)
  all_goals first|refine AtT.zi ?_|refine AtT.zg ?_|(refine AtT.zf ?_)
  all_goals first|refine AtT.zi ?_|refine AtT.zg ?_|(refine AtT.zf ?_)
  all_goals first|refine AtT.zi ?_|refine AtT.zg ?_|(first | refine AtT.je ?_ | refine AtT.jf ?_)
  all_goals (rw [hmm])
  all_goals first|refine AtT.zi ?_|refine AtT.zg ?_|(refine AtT.qB Tryz.underlying22 qP ?_) ; (intro p29 e29 he29 hc29)
  all_goals (obtain rfl : y = e29 := by have : qs[m]? = some e29 := (by simpa using he29); rw [hy] at this; simpa using this)
  all_goals first|refine AtT.zi ?_|refine AtT.zg ?_|(first | refine AtT.zk zY ?_ | with_reducible refine AtT.zl zY ?_ | refine AtT.zn zY ?_)
  all_goals first|refine AtT.zi ?_|refine AtT.zg ?_|(first | refine AtT.zm tk3 ?_ | refine AtT.zo tk3 ?_)
  all_goals first|refine AtT.zi ?_|refine AtT.zg ?_|(refine AtT.kleq ?_)
  all_goals (refine AtT.zB ?_)
  all_goals refine AtT.done ?_
  all_goals (refine At.nrm ?_)
  all_goals (exact At.kC () rfl ⟨rfl, rfl, rfl, rfl, trivial⟩ Pt.zH)
 rintro _ V1 ks' O' rfl hk hO hl4
 subst hk hO
 refine At.zX rfl (fun h2 => ?_) (fun h2 => ?_)
 ·refine At.nrm ?_
  refine At.zh (.q 0 .done) ?_
  refine AtT.ze ?_
  refine AtT.done ?_
  refine At.nrm ?_
  exact At.qi rfl (.tmp rfl) (by rw [hbad 16 (by unfold rcE; rw [if_neg (fun h => h h1), if_pos h2]) (by decide)])
 refine At.nrm ?_
 by_cases h3 : (x.1.ps.length : Int) < 1
 ·refine At.zh (.q 0 (.q 1 (.q 2 (.q 3 (.q 4 (.q 5 (.q 6 (.q 7 (.q 8 (.q 9 .done)))))))))) ?_
  first | refine AtT.zk zL ?_ | with_reducible refine AtT.zl zL ?_ | refine AtT.zn zL ?_
  first | refine AtT.zm qL ?_ | refine AtT.zo qL ?_
  first | refine AtT.zR Tryz.underlying66 ?_ | refine AtT.zN Tryz.underlying66 ?_
  refine AtT.qp ?_
  refine AtT.qm (d := 37) rfl (h3) ?_
  refine AtT.zf ?_
  all_goals (first | refine AtT.kL 38 ?_ | refine AtT.zA (d := 38) rfl (fun hg38 => ?_) (fun hg38 => ?_) | refine AtT.zz (d := 38) rfl (fun hg38 => ?_) (fun hg38 => ?_))
  all_goals first|refine AtT.zi ?_|refine AtT.zg ?_|(first | refine AtT.zk zL ?_ | with_reducible refine AtT.zl zL ?_ | refine AtT.zn zL ?_)
  all_goals first|refine AtT.zi ?_|refine AtT.zg ?_|(first | refine AtT.zm qL ?_ | refine AtT.zo qL ?_)
  all_goals first|refine AtT.zi ?_|refine AtT.zg ?_|(first | refine AtT.zR Tryz.underlying66 ?_ | refine AtT.zN Tryz.underlying66 ?_)
  all_goals first|refine AtT.zi ?_|refine AtT.zg ?_|(refine AtT.qJ ?_)
  all_goals (refine AtT.zB ?_)
  all_goals refine AtT.done ?_
  all_goals (refine At.nrm ?_)
  refine At.qb rfl rfl ?_
  refine At.nrm ?_
  refine At.zh (.q 0 .done) ?_
  refine AtT.ze ?_
  refine AtT.done ?_
  refine At.nrm ?_
  exact At.qi rfl (.tmp rfl) (by rw [hbad 6 (by unfold rcE; rw [if_neg (fun h => h h1), if_neg h2, if_pos (by omega)]) (by decide)])
 by_cases h4 : 3 < (x.1.ps.length : Int)
 ·refine At.zh (.q 0 (.q 1 (.q 2 (.q 3 (.q 4 (.q 5 (.q 6 (.q 7 (.q 8 (.q 9 .done)))))))))) ?_
  first | refine AtT.zk zL ?_ | with_reducible refine AtT.zl zL ?_ | refine AtT.zn zL ?_
  first | refine AtT.zm qL ?_ | refine AtT.zo qL ?_
  first | refine AtT.zR Tryz.underlying66 ?_ | refine AtT.zN Tryz.underlying66 ?_
  refine AtT.qp ?_
  refine AtT.zU (d := 37) rfl (h3) ?_
  refine AtT.zf ?_
  all_goals (first | refine AtT.kL 38 ?_ | refine AtT.zA (d := 38) rfl (fun hg38 => ?_) (fun hg38 => ?_) | refine AtT.zz (d := 38) rfl (fun hg38 => ?_) (fun hg38 => ?_))
  all_goals first|refine AtT.zi ?_|refine AtT.zg ?_|(first | refine AtT.zk zL ?_ | with_reducible refine AtT.zl zL ?_ | refine AtT.zn zL ?_)
  all_goals first|refine AtT.zi ?_|refine AtT.zg ?_|(first | refine AtT.zm qL ?_ | refine AtT.zo qL ?_)
  all_goals first|refine AtT.zi ?_|refine AtT.zg ?_|(first | refine AtT.zR Tryz.underlying66 ?_ | refine AtT.zN Tryz.underlying66 ?_)
  all_goals first|refine AtT.zi ?_|refine AtT.zg ?_|(refine AtT.qJ ?_)
  all_goals (refine AtT.qm (d := 42) rfl (h4) ?_)
  all_goals (refine AtT.zB ?_)
  all_goals refine AtT.done ?_
  all_goals (refine At.nrm ?_)
  refine At.qb rfl rfl ?_
  refine At.nrm ?_
  refine At.zh (.q 0 .done) ?_
  refine AtT.ze ?_
  refine AtT.done ?_
  refine At.nrm ?_
  exact At.qi rfl (.tmp rfl) (by rw [hbad 6 (by unfold rcE; rw [if_neg (fun h => h h1), if_neg h2, if_pos (by omega)]) (by decide)])
 refine At.zh (.q 0 (.q 1 (.q 2 (.q 3 (.q 4 (.q 5 (.q 6 (.q 7 (.q 8 (.q 9 .done)))))))))) ?_
 first | refine AtT.zk zL ?_ | with_reducible refine AtT.zl zL ?_ | refine AtT.zn zL ?_
 first | refine AtT.zm qL ?_ | refine AtT.zo qL ?_
 first | refine AtT.zR Tryz.underlying66 ?_ | refine AtT.zN Tryz.underlying66 ?_
 refine AtT.qp ?_
 refine AtT.zU (d := 37) rfl (h3) ?_
 refine AtT.zf ?_
 all_goals (first | refine AtT.kL 38 ?_ | refine AtT.zA (d := 38) rfl (fun hg38 => ?_) (fun hg38 => ?_) | refine AtT.zz (d := 38) rfl (fun hg38 => ?_) (fun hg38 => ?_))
 all_goals first|refine AtT.zi ?_|refine AtT.zg ?_|(first | refine AtT.zk zL ?_ | with_reducible refine AtT.zl zL ?_ | refine AtT.zn zL ?_)
 all_goals first|refine AtT.zi ?_|refine AtT.zg ?_|(first | refine AtT.zm qL ?_ | refine AtT.zo qL ?_)
 all_goals first|refine AtT.zi ?_|refine AtT.zg ?_|(first | refine AtT.zR Tryz.underlying66 ?_ | refine AtT.zN Tryz.underlying66 ?_)
 all_goals first|refine AtT.zi ?_|refine AtT.zg ?_|(refine AtT.qJ ?_)
 all_goals (refine AtT.zU (d := 42) rfl (h4) ?_)
 all_goals (refine AtT.zB ?_)
 all_goals refine AtT.done ?_
 all_goals (refine At.nrm ?_)
 refine At.qf rfl rfl ?_
 have hrc : rcE (lastR rs k) x.1 = partsE x.1.g (-1) x.1.ps := by unfold rcE; rw [if_neg (fun h => h h1), if_neg h2, if_neg (by omega)]
 refine At.nrm ?_
 refine At.zh (.q 0 .done) ?_
 refine AtT.ze ?_
 refine AtT.done ?_
 refine At.nrm ?_
 refine At.lp (ι := Nat) (KS := fun j => [(0, .slice aq qs.length cq), (3, iv k), (4, .pointer (some ⟨b4, 0, none⟩)), (5, iv j)]) (OS := fun _ => [.blk b4 (LC (rce x) 80)]) (VS := fun j V'' => V'' = V1 ∧ j ≤ x.1.ps.length ∧ partsE x.1.g (-1) x.1.ps = partsE x.1.g (lastP x.1.ps j) (x.1.ps.drop j)) (μ := fun j => x.1.ps.length - j) 0 ?_ ?_ ?_ ?_
 ·exact ⟨rfl, rfl, rfl, rfl, trivial⟩
 ·exact Pt.zH
 ·exact ⟨rfl, Nat.zero_le _, rfl⟩
 rintro j V2 ks' O' ⟨rfl, hjl, hpe⟩ hk hO hl3
 subst hk hO
 refine At.nrm ?_
 refine At.zh (.q 0 (.q 1 (.q 2 (.q 3 (.q 4 .done))))) ?_
 refine AtT.zf ?_
 first | refine AtT.zk zL ?_ | with_reducible refine AtT.zl zL ?_ | refine AtT.zn zL ?_
 first | refine AtT.zm qL ?_ | refine AtT.zo qL ?_
 first | refine AtT.zR Tryz.underlying66 ?_ | refine AtT.zN Tryz.underlying66 ?_
 refine AtT.qp ?_
 refine AtT.done ?_
 refine At.nrm ?_
 refine At.zX rfl (fun hp2 => ?_) (fun hp2 => ?_)
 rotate_left
 ·obtain rfl : j = x.1.ps.length := by omega
  rw [List.drop_length] at hpe
  have h0 : rcE (lastR rs k) x.1 = 0 := by rw [hrc, hpe]; rfl
  rw [if_neg (by rw [h0]; simp)] at hcr
  refine At.nrm ?_
  refine At.zh (.q 0 (.q 1 (.q 2 .done))) ?_
  refine AtT.zf ?_
  first | refine AtT.qI ?_ | refine AtT.ql ?_
  refine AtT.ze ?_
  refine AtT.done ?_
  refine At.nrm ?_
  refine At.round (k + 1) ?_ ?_ ?_ ?_
  ·show qs.length - (k + 1) < qs.length - k; omega
  ·exact ⟨rfl, by omega, by rw [lastR_at hbx]; exact hcr⟩
  ·exact ⟨rfl, ivs (by omega), trivial⟩
  ·exact Pt.zH
 obtain ⟨p, hpx⟩ : ∃ p, x.1.ps[j]? = some p := ⟨_, List.getElem?_eq_getElem (by omega)⟩
 rw [drop_at hpx] at hpe
 simp only [partsE] at hpe
 have hbad2 : ∀ c, partE x.1.g (lastP x.1.ps j) p = c → c ≠ 0 → crE rs = c := fun c h0 h1 => by
  rw [if_pos (by rw [h0]; exact h1), h0] at hpe
  exact hbad c (hrc.trans hpe) h1
 refine At.nrm ?_
 refine At.zh (.q 0 (.q 1 (.q 2 (.q 3 (.q 4 (.n false 5 (.n true 6 .done))))))) ?_
 first | refine AtT.zk zL ?_ | with_reducible refine AtT.zl zL ?_ | refine AtT.zn zL ?_
 first | refine AtT.zm qL ?_ | refine AtT.zo qL ?_
 refine AtT.zf ?_
 refine AtT.qB Tryz.underlying66 qX ?_
 intro p54 e54 he54 hc54
 obtain rfl : p = e54 := by have : x.1.ps[j]? = some e54 := (by simpa using he54); rw [hpx] at this; simpa using this
 first | refine AtT.zD qX ?_ | refine AtT.zI qX ?_ | refine AtT.zC qX ?_
 refine AtT.zT z69 ?_
 intro b6
 refine AtT.zF qX ?_
 refine AtT.done ?_
 refine At.nrm ?_
 refine At.nrm ?_
 by_cases p1 : 0 ≤ p.t ∧ p.t ≤ 7
 rotate_left
 ·refine At.zh (.q 0 (.q 1 (.n false 2 (.q 3 (.q 4 (.q 5 (.q 6 (.q 7 (.q 8 (.q 9 (.q 10 (.q 11 (.q 12 (.q 13 .done)))))))))))))) ?_
  first | refine AtT.zk zV ?_ | with_reducible refine AtT.zl zV ?_ | refine AtT.zn zV ?_
  first | refine AtT.zm tk3 ?_ | refine AtT.zo tk3 ?_
  refine AtT.zG rfl rfl ok59 (jb p.t _) ?_
  rintro _ rfl
  refine AtT.zU (d := 58) rfl (p1) ?_
  refine AtT.qF ?_
  refine AtT.qM (d := 59) rfl ((show (!false) = true from rfl)) ?_
  refine AtT.zf ?_
  all_goals (first | refine AtT.kL 60 ?_ | refine AtT.zA (d := 60) rfl (fun hg60 => ?_) (fun hg60 => ?_) | refine AtT.zz (d := 60) rfl (fun hg60 => ?_) (fun hg60 => ?_))
  all_goals first|refine AtT.zi ?_|refine AtT.zg ?_|(first | refine AtT.zk qc ?_ | with_reducible refine AtT.zl qc ?_ | refine AtT.zn qc ?_)
  all_goals first|refine AtT.zi ?_|refine AtT.zg ?_|(first | refine AtT.zm tk2 ?_ | refine AtT.zo tk2 ?_)
  all_goals first|refine AtT.zi ?_|refine AtT.zg ?_|(refine AtT.qp ?_)
  all_goals (refine AtT.zB ?_)
  all_goals (refine AtT.zf ?_)
  all_goals (first | refine AtT.kL 65 ?_ | refine AtT.zA (d := 65) rfl (fun hg65 => ?_) (fun hg65 => ?_) | refine AtT.zz (d := 65) rfl (fun hg65 => ?_) (fun hg65 => ?_))
  all_goals first|refine AtT.zi ?_|refine AtT.zg ?_|(first | refine AtT.zk qc ?_ | with_reducible refine AtT.zl qc ?_ | refine AtT.zn qc ?_)
  all_goals first|refine AtT.zi ?_|refine AtT.zg ?_|(first | refine AtT.zm tk2 ?_ | refine AtT.zo tk2 ?_)
  all_goals first|refine AtT.zi ?_|refine AtT.zg ?_|(refine AtT.qJ ?_)
  all_goals (refine AtT.zB ?_)
  all_goals refine AtT.done ?_
  all_goals (refine At.nrm ?_)
  all_goals refine At.qb rfl rfl ?_
  refine At.nrm ?_
  refine At.zh (.q 0 .done) ?_
  refine AtT.ze ?_
  refine AtT.done ?_
  refine At.nrm ?_
  exact At.qi rfl (.tmp rfl) (by rw [hbad2 3 (by unfold partE; rw [if_pos (.inl p1)]) (by decide)])
 by_cases p2 : p.n < 1
 ·refine At.zh (.q 0 (.q 1 (.n false 2 (.q 3 (.q 4 (.q 5 (.q 6 (.q 7 (.q 8 (.q 9 (.q 10 (.q 11 (.q 12 (.q 13 .done)))))))))))))) ?_
  first | refine AtT.zk zV ?_ | with_reducible refine AtT.zl zV ?_ | refine AtT.zn zV ?_
  first | refine AtT.zm tk3 ?_ | refine AtT.zo tk3 ?_
  refine AtT.zG rfl rfl ok59 (jb p.t _) ?_
  rintro _ rfl
  refine AtT.qm (d := 58) rfl (p1) ?_
  refine AtT.qF ?_
  refine AtT.qM (d := 59) rfl ((show (!true) = false from rfl)) ?_
  refine AtT.zf ?_
  all_goals (first | refine AtT.kL 60 ?_ | refine AtT.zA (d := 60) rfl (fun hg60 => ?_) (fun hg60 => ?_) | refine AtT.zz (d := 60) rfl (fun hg60 => ?_) (fun hg60 => ?_))
  all_goals first|refine AtT.zi ?_|refine AtT.zg ?_|(first | refine AtT.zk qc ?_ | with_reducible refine AtT.zl qc ?_ | refine AtT.zn qc ?_)
  all_goals first|refine AtT.zi ?_|refine AtT.zg ?_|(first | refine AtT.zm tk2 ?_ | refine AtT.zo tk2 ?_)
  all_goals first|refine AtT.zi ?_|refine AtT.zg ?_|(refine AtT.qp ?_)
  all_goals (refine AtT.qm (d := 63) rfl (p2) ?_)
  all_goals (refine AtT.zB ?_)
  all_goals (refine AtT.zf ?_)
  all_goals (first | refine AtT.kL 65 ?_ | refine AtT.zA (d := 65) rfl (fun hg65 => ?_) (fun hg65 => ?_) | refine AtT.zz (d := 65) rfl (fun hg65 => ?_) (fun hg65 => ?_))
  all_goals first|refine AtT.zi ?_|refine AtT.zg ?_|(first | refine AtT.zk qc ?_ | with_reducible refine AtT.zl qc ?_ | refine AtT.zn qc ?_)
  all_goals first|refine AtT.zi ?_|refine AtT.zg ?_|(first | refine AtT.zm tk2 ?_ | refine AtT.zo tk2 ?_)
  all_goals first|refine AtT.zi ?_|refine AtT.zg ?_|(refine AtT.qJ ?_)
  all_goals (refine AtT.zB ?_)
  all_goals refine AtT.done ?_
  all_goals (refine At.nrm ?_)
  all_goals refine At.qb rfl rfl ?_
  refine At.nrm ?_
  refine At.zh (.q 0 .done) ?_
  refine AtT.ze ?_
  refine AtT.done ?_
  refine At.nrm ?_
  exact At.qi rfl (.tmp rfl) (by rw [hbad2 3 (by unfold partE; rw [if_pos (.inr (.inl p2))]) (by decide)])
 by_cases p3 : 9 < p.n
 ·refine At.zh (.q 0 (.q 1 (.n false 2 (.q 3 (.q 4 (.q 5 (.q 6 (.q 7 (.q 8 (.q 9 (.q 10 (.q 11 (.q 12 (.q 13 .done)))))))))))))) ?_
  first | refine AtT.zk zV ?_ | with_reducible refine AtT.zl zV ?_ | refine AtT.zn zV ?_
  first | refine AtT.zm tk3 ?_ | refine AtT.zo tk3 ?_
  refine AtT.zG rfl rfl ok59 (jb p.t _) ?_
  rintro _ rfl
  refine AtT.qm (d := 58) rfl (p1) ?_
  refine AtT.qF ?_
  refine AtT.qM (d := 59) rfl ((show (!true) = false from rfl)) ?_
  refine AtT.zf ?_
  all_goals (first | refine AtT.kL 60 ?_ | refine AtT.zA (d := 60) rfl (fun hg60 => ?_) (fun hg60 => ?_) | refine AtT.zz (d := 60) rfl (fun hg60 => ?_) (fun hg60 => ?_))
  all_goals first|refine AtT.zi ?_|refine AtT.zg ?_|(first | refine AtT.zk qc ?_ | with_reducible refine AtT.zl qc ?_ | refine AtT.zn qc ?_)
  all_goals first|refine AtT.zi ?_|refine AtT.zg ?_|(first | refine AtT.zm tk2 ?_ | refine AtT.zo tk2 ?_)
  all_goals first|refine AtT.zi ?_|refine AtT.zg ?_|(refine AtT.qp ?_)
  all_goals (refine AtT.zU (d := 63) rfl (p2) ?_)
  all_goals (refine AtT.zB ?_)
  all_goals (refine AtT.zf ?_)
  all_goals (first | refine AtT.kL 65 ?_ | refine AtT.zA (d := 65) rfl (fun hg65 => ?_) (fun hg65 => ?_) | refine AtT.zz (d := 65) rfl (fun hg65 => ?_) (fun hg65 => ?_))
  all_goals first|refine AtT.zi ?_|refine AtT.zg ?_|(first | refine AtT.zk qc ?_ | with_reducible refine AtT.zl qc ?_ | refine AtT.zn qc ?_)
  all_goals first|refine AtT.zi ?_|refine AtT.zg ?_|(first | refine AtT.zm tk2 ?_ | refine AtT.zo tk2 ?_)
  all_goals first|refine AtT.zi ?_|refine AtT.zg ?_|(refine AtT.qJ ?_)
  all_goals (refine AtT.qm (d := 68) rfl (p3) ?_)
  all_goals (refine AtT.zB ?_)
  all_goals refine AtT.done ?_
  all_goals (refine At.nrm ?_)
  all_goals refine At.qb rfl rfl ?_
  refine At.nrm ?_
  refine At.zh (.q 0 .done) ?_
  refine AtT.ze ?_
  refine AtT.done ?_
  refine At.nrm ?_
  exact At.qi rfl (.tmp rfl) (by rw [hbad2 3 (by unfold partE; rw [if_pos (.inr (.inr p3))]) (by decide)])
 refine At.zh (.q 0 (.q 1 (.n false 2 (.q 3 (.q 4 (.q 5 (.q 6 (.q 7 (.q 8 (.q 9 (.q 10 (.q 11 (.q 12 (.q 13 .done)))))))))))))) ?_
 first | refine AtT.zk zV ?_ | with_reducible refine AtT.zl zV ?_ | refine AtT.zn zV ?_
 first | refine AtT.zm tk3 ?_ | refine AtT.zo tk3 ?_
 refine AtT.zG rfl rfl ok59 (jb p.t _) ?_
 rintro _ rfl
 refine AtT.qm (d := 58) rfl (p1) ?_
 refine AtT.qF ?_
 refine AtT.qM (d := 59) rfl ((show (!true) = false from rfl)) ?_
 refine AtT.zf ?_
 all_goals (first | refine AtT.kL 60 ?_ | refine AtT.zA (d := 60) rfl (fun hg60 => ?_) (fun hg60 => ?_) | refine AtT.zz (d := 60) rfl (fun hg60 => ?_) (fun hg60 => ?_))
 all_goals first|refine AtT.zi ?_|refine AtT.zg ?_|(first | refine AtT.zk qc ?_ | with_reducible refine AtT.zl qc ?_ | refine AtT.zn qc ?_)
 all_goals first|refine AtT.zi ?_|refine AtT.zg ?_|(first | refine AtT.zm tk2 ?_ | refine AtT.zo tk2 ?_)
 all_goals first|refine AtT.zi ?_|refine AtT.zg ?_|(refine AtT.qp ?_)
 all_goals (refine AtT.zU (d := 63) rfl (p2) ?_)
 all_goals (refine AtT.zB ?_)
 all_goals (refine AtT.zf ?_)
 all_goals (first | refine AtT.kL 65 ?_ | refine AtT.zA (d := 65) rfl (fun hg65 => ?_) (fun hg65 => ?_) | refine AtT.zz (d := 65) rfl (fun hg65 => ?_) (fun hg65 => ?_))
 all_goals first|refine AtT.zi ?_|refine AtT.zg ?_|(first | refine AtT.zk qc ?_ | with_reducible refine AtT.zl qc ?_ | refine AtT.zn qc ?_)
 all_goals first|refine AtT.zi ?_|refine AtT.zg ?_|(first | refine AtT.zm tk2 ?_ | refine AtT.zo tk2 ?_)
 all_goals first|refine AtT.zi ?_|refine AtT.zg ?_|(refine AtT.qJ ?_)
 all_goals (refine AtT.zU (d := 68) rfl (p3) ?_)
 all_goals (refine AtT.zB ?_)
 all_goals refine AtT.done ?_
 all_goals (refine At.nrm ?_)
 refine At.qf rfl rfl ?_
 have hpn : ¬ (¬ (0 ≤ p.t ∧ p.t ≤ 7) ∨ p.n < 1 ∨ 9 < p.n) := by omega
 refine At.nrmB ?_
 refine At.cutG (ι := Unit) (fun _ => [(0, .slice aq qs.length cq), (3, iv k), (4, .pointer (some ⟨b4, 0, none⟩)), (5, iv j), (6, .pointer (some ⟨b6, 0, none⟩)), (90, .bool (decide (¬ (lastP x.1.ps j + 1 ≤ p.t ∧ p.t ≤ x.1.g - 1))))]) (fun _ => [.blk b4 (LC (rce x) 80), .blk b6 (LC (pte p) 69)]) (fun _ V'' => V'' = V2) ?_ ?_
 ·by_cases c1 : p.t ≥ x.1.g
  ·rw [show decide (¬ (lastP x.1.ps j + 1 ≤ p.t ∧ p.t ≤ x.1.g - 1)) = true from decide_eq_true (by omega)]
   refine At.draw (.q 0 (.q 1 (.q 2 (.q 3 (.q 4 (.q 5 (.q 6 (.q 7 (.q 8 (.q 9 (.q 10 (.q 11 (.q 12 (.q 13 (.q 14 (.q 15 (.q 16 (.q 17 (.q 18 (.q 19 (.q 20 .done))))))))))))))))))))) ffm (by kernel_rfl) ?_
   first | refine AtT.zk zV ?_ | with_reducible refine AtT.zl zV ?_ | refine AtT.zn zV ?_
   first | refine AtT.zm tk3 ?_ | refine AtT.zo tk3 ?_
   first | refine AtT.zk zY ?_ | with_reducible refine AtT.zl zY ?_ | refine AtT.zn zY ?_
   first | refine AtT.zm tk3 ?_ | refine AtT.zo tk3 ?_
   refine AtT.kgeq ?_
   refine AtT.qm (d := 74) rfl (c1) ?_
   refine AtT.zf ?_
   all_goals (first | refine AtT.kL 75 ?_ | refine AtT.zA (d := 75) rfl (fun hg75 => ?_) (fun hg75 => ?_) | refine AtT.zz (d := 75) rfl (fun hg75 => ?_) (fun hg75 => ?_))
   all_goals first|refine AtT.zi ?_|refine AtT.zg ?_|(refine AtT.zf ?_)
   all_goals first|refine AtT.zi ?_|refine AtT.zg ?_|(refine AtT.qJ ?_)
   all_goals first|refine AtT.zi ?_|refine AtT.zg ?_|(refine AtT.zf ?_)
   all_goals (first | refine AtT.kL 78 ?_ | refine AtT.zA (d := 78) rfl (fun hg78 => ?_) (fun hg78 => ?_) | refine AtT.zz (d := 78) rfl (fun hg78 => ?_) (fun hg78 => ?_))
   all_goals first|refine AtT.zi ?_|refine AtT.zg ?_|(first | refine AtT.zk zV ?_ | with_reducible refine AtT.zl zV ?_ | refine AtT.zn zV ?_)
   all_goals first|refine AtT.zi ?_|refine AtT.zg ?_|(first | refine AtT.zm tk3 ?_ | refine AtT.zo tk3 ?_)
   all_goals first|refine AtT.zi ?_|refine AtT.zg ?_|(first | refine AtT.zk zL ?_ | with_reducible refine AtT.zl zL ?_ | refine AtT.zn zL ?_)
   all_goals first|refine AtT.zi ?_|refine AtT.zg ?_|(first | refine AtT.zm qL ?_ | refine AtT.zo qL ?_)
   all_goals first|refine AtT.zi ?_|refine AtT.zg ?_|(refine AtT.zf ?_)
   all_goals first|refine AtT.zi ?_|refine AtT.zg ?_|(first | refine AtT.je ?_ | refine AtT.jf ?_)
   all_goals first|refine AtT.zi ?_|refine AtT.zg ?_|(refine AtT.qB Tryz.underlying66 qX ?_) ; (intro p85 e85 he85 hc85)
   all_goals first|refine AtT.zi ?_|refine AtT.zg ?_|(first | refine AtT.zk zV ?_ | with_reducible refine AtT.zl zV ?_ | refine AtT.zn zV ?_)
   all_goals first|refine AtT.zi ?_|refine AtT.zg ?_|(first | refine AtT.zm tk3 ?_ | refine AtT.zo tk3 ?_)
   all_goals first|refine AtT.zi ?_|refine AtT.zg ?_|(refine AtT.kleq ?_)
   all_goals first|refine AtT.zi ?_|refine AtT.zg ?_|(refine AtT.zB ?_)
   all_goals (refine AtT.zB ?_)
   all_goals refine AtT.done ?_
   all_goals (refine At.nrm ?_)
   all_goals (exact At.kC () rfl ⟨rfl, rfl, rfl, rfl, rfl, rfl, trivial⟩ Pt.zH)
  by_cases hj0 : j = 0
  ·subst hj0
   rw [show decide (¬ (lastP x.1.ps 0 + 1 ≤ p.t ∧ p.t ≤ x.1.g - 1)) = false from decide_eq_false (by simp [lastP]; omega)]
   refine At.draw (.q 0 (.q 1 (.q 2 (.q 3 (.q 4 (.q 5 (.q 6 (.q 7 (.q 8 (.q 9 (.q 10 (.q 11 (.q 12 (.q 13 (.q 14 (.q 15 (.q 16 (.q 17 (.q 18 (.q 19 (.q 20 .done))))))))))))))))))))) ffm (by kernel_rfl) ?_
   first | refine AtT.zk zV ?_ | with_reducible refine AtT.zl zV ?_ | refine AtT.zn zV ?_
   first | refine AtT.zm tk3 ?_ | refine AtT.zo tk3 ?_
   first | refine AtT.zk zY ?_ | with_reducible refine AtT.zl zY ?_ | refine AtT.zn zY ?_
   first | refine AtT.zm tk3 ?_ | refine AtT.zo tk3 ?_
   refine AtT.kgeq ?_
   refine AtT.zU (d := 74) rfl (c1) ?_
   refine AtT.zf ?_
   all_goals (first | refine AtT.kL 75 ?_ | refine AtT.zA (d := 75) rfl (fun hg75 => ?_) (fun hg75 => ?_) | refine AtT.zz (d := 75) rfl (fun hg75 => ?_) (fun hg75 => ?_))
   all_goals first|refine AtT.zi ?_|refine AtT.zg ?_|(refine AtT.zf ?_)
   all_goals first|refine AtT.zi ?_|refine AtT.zg ?_|(refine AtT.qJ ?_)
   all_goals (refine AtT.zU (d := 77) rfl ((by omega)) ?_)
   all_goals first|refine AtT.zi ?_|refine AtT.zg ?_|(refine AtT.zf ?_)
   all_goals (first | refine AtT.kL 78 ?_ | refine AtT.zA (d := 78) rfl (fun hg78 => ?_) (fun hg78 => ?_) | refine AtT.zz (d := 78) rfl (fun hg78 => ?_) (fun hg78 => ?_))
   all_goals first|refine AtT.zi ?_|refine AtT.zg ?_|(first | refine AtT.zk zV ?_ | with_reducible refine AtT.zl zV ?_ | refine AtT.zn zV ?_)
   all_goals first|refine AtT.zi ?_|refine AtT.zg ?_|(first | refine AtT.zm tk3 ?_ | refine AtT.zo tk3 ?_)
   all_goals first|refine AtT.zi ?_|refine AtT.zg ?_|(first | refine AtT.zk zL ?_ | with_reducible refine AtT.zl zL ?_ | refine AtT.zn zL ?_)
   all_goals first|refine AtT.zi ?_|refine AtT.zg ?_|(first | refine AtT.zm qL ?_ | refine AtT.zo qL ?_)
   all_goals first|refine AtT.zi ?_|refine AtT.zg ?_|(refine AtT.zf ?_)
   all_goals first|refine AtT.zi ?_|refine AtT.zg ?_|(first | refine AtT.je ?_ | refine AtT.jf ?_)
   all_goals first|refine AtT.zi ?_|refine AtT.zg ?_|(refine AtT.qB Tryz.underlying66 qX ?_) ; (intro p85 e85 he85 hc85)
   all_goals first|refine AtT.zi ?_|refine AtT.zg ?_|(first | refine AtT.zk zV ?_ | with_reducible refine AtT.zl zV ?_ | refine AtT.zn zV ?_)
   all_goals first|refine AtT.zi ?_|refine AtT.zg ?_|(first | refine AtT.zm tk3 ?_ | refine AtT.zo tk3 ?_)
   all_goals first|refine AtT.zi ?_|refine AtT.zg ?_|(refine AtT.kleq ?_)
   all_goals first|refine AtT.zi ?_|refine AtT.zg ?_|(refine AtT.zB ?_)
   all_goals (refine AtT.zB ?_)
   all_goals refine AtT.done ?_
   all_goals (refine At.nrm ?_)
   all_goals (exact At.kC () rfl ⟨rfl, rfl, rfl, rfl, rfl, rfl, trivial⟩ Pt.zH)
  obtain ⟨m, rfl⟩ : ∃ m, j = m + 1 := ⟨j - 1, by omega⟩
  obtain ⟨q, hq'⟩ : ∃ y, x.1.ps[m]? = some y := ⟨_, List.getElem?_eq_getElem (by omega)⟩
  have hmm : ((m + 1 : Nat) : Int) - 1 = (m : Int) := by omega
  have hde : decide (¬ (lastP x.1.ps (m + 1) + 1 ≤ p.t ∧ p.t ≤ x.1.g - 1)) = decide (p.t ≤ q.t) := by rw [lastP_at hq']; exact decide_eq_decide.2 (by omega)
  rw [hde]
  refine At.draw (.q 0 (.q 1 (.q 2 (.q 3 (.q 4 (.q 5 (.q 6 (.q 7 (.q 8 (.q 9 (.q 10 (.q 11 (.q 12 (.q 13 (.q 14 (.q 15 (.q 16 (.q 17 (.q 18 (.q 19 (.q 20 .done))))))))))))))))))))) ffm (by kernel_rfl) ?_
  first | refine AtT.zk zV ?_ | with_reducible refine AtT.zl zV ?_ | refine AtT.zn zV ?_
  first | refine AtT.zm tk3 ?_ | refine AtT.zo tk3 ?_
  first | refine AtT.zk zY ?_ | with_reducible refine AtT.zl zY ?_ | refine AtT.zn zY ?_
  first | refine AtT.zm tk3 ?_ | refine AtT.zo tk3 ?_
  refine AtT.kgeq ?_
  refine AtT.zU (d := 74) rfl (c1) ?_
  refine AtT.zf ?_
  all_goals (first | refine AtT.kL 75 ?_ | refine AtT.zA (d := 75) rfl (fun hg75 => ?_) (fun hg75 => ?_) | refine AtT.zz (d := 75) rfl (fun hg75 => ?_) (fun hg75 => ?_))
  all_goals first|refine AtT.zi ?_|refine AtT.zg ?_|(refine AtT.zf ?_)
  all_goals first|refine AtT.zi ?_|refine AtT.zg ?_|(refine AtT.qJ ?_)
  all_goals (refine AtT.qm (d := 77) rfl ((by omega)) ?_)
  all_goals first|refine AtT.zi ?_|refine AtT.zg ?_|(refine AtT.zf ?_)
  all_goals (first | refine AtT.kL 78 ?_ | refine AtT.zA (d := 78) rfl (fun hg78 => ?_) (fun hg78 => ?_) | refine AtT.zz (d := 78) rfl (fun hg78 => ?_) (fun hg78 => ?_))
  all_goals first|refine AtT.zi ?_|refine AtT.zg ?_|(first | refine AtT.zk zV ?_ | with_reducible refine AtT.zl zV ?_ | refine AtT.zn zV ?_)
  all_goals first|refine AtT.zi ?_|refine AtT.zg ?_|(first | refine AtT.zm tk3 ?_ | refine AtT.zo tk3 ?_)
  all_goals first|refine AtT.zi ?_|refine AtT.zg ?_|(first | refine AtT.zk zL ?_ | with_reducible refine AtT.zl zL ?_ | refine AtT.zn zL ?_)
  all_goals first|refine AtT.zi ?_|refine AtT.zg ?_|(first | refine AtT.zm qL ?_ | refine AtT.zo qL ?_)
  all_goals first|refine AtT.zi ?_|refine AtT.zg ?_|(refine AtT.zf ?_)
  all_goals first|refine AtT.zi ?_|refine AtT.zg ?_|(first | refine AtT.je ?_ | refine AtT.jf ?_)
  all_goals (rw [hmm])
  all_goals first|refine AtT.zi ?_|refine AtT.zg ?_|(refine AtT.qB Tryz.underlying66 qX ?_) ; (intro p85 e85 he85 hc85)
  all_goals (obtain rfl : q = e85 := by have : x.1.ps[m]? = some e85 := (by simpa using he85); rw [hq'] at this; simpa using this)
  all_goals first|refine AtT.zi ?_|refine AtT.zg ?_|(first | refine AtT.zk zV ?_ | with_reducible refine AtT.zl zV ?_ | refine AtT.zn zV ?_)
  all_goals first|refine AtT.zi ?_|refine AtT.zg ?_|(first | refine AtT.zm tk3 ?_ | refine AtT.zo tk3 ?_)
  all_goals first|refine AtT.zi ?_|refine AtT.zg ?_|(refine AtT.kleq ?_)
  all_goals first|refine AtT.zi ?_|refine AtT.zg ?_|(refine AtT.zB ?_)
  all_goals (refine AtT.zB ?_)
  all_goals refine AtT.done ?_
  all_goals (refine At.nrm ?_)
  all_goals (exact At.kC () rfl ⟨rfl, rfl, rfl, rfl, rfl, rfl, trivial⟩ Pt.zH)
 rintro _ V3 ks' O' rfl hk hO hl4
 subst hk hO
 refine At.zX rfl (fun p4 => ?_) (fun p4 => ?_)
 ·refine At.nrm ?_
  refine At.zh (.q 0 .done) ?_
  refine AtT.ze ?_
  refine AtT.done ?_
  refine At.nrm ?_
  exact At.qi rfl (.tmp rfl) (by rw [hbad2 16 (by unfold partE; rw [if_neg hpn, if_pos p4]) (by decide)])
 have hp0 : partE x.1.g (lastP x.1.ps j) p = 0 := by unfold partE; rw [if_neg hpn, if_neg p4]
 rw [if_neg (fun h => h hp0)] at hpe
 refine At.nrm ?_
 refine At.zh (.q 0 (.q 1 (.q 2 .done))) ?_
 refine AtT.zf ?_
 first | refine AtT.qI ?_ | refine AtT.ql ?_
 refine AtT.ze ?_
 refine AtT.done ?_
 refine At.nrm ?_
 refine At.round (j + 1) ?_ ?_ ?_ ?_
 ·show x.1.ps.length - (j + 1) < x.1.ps.length - j; omega
 ·exact ⟨rfl, by omega, by rw [lastP_at hpx]; exact hpe⟩
 ·exact ⟨rfl, rfl, rfl, ivs (by omega), trivial⟩
 ·exact Pt.zH
end Go.Proofs.YtpoignmclfdgpaaGreatDoor
set_option linter.unusedVariables false
namespace Go.Proofs.YtpoignmclfdgpaaGreatDoor
open Go.Lw Go.Gl Go.Bk Go.RowKit
theorem rentE_f (rs : List Rc) (e : En) (index last : Int) (V : View) (v : Value) (hv : RsV V v rs) : Fnc Tryz.prog 66 [v, env e, iv index, iv last] V fun r _ => r = iv (kK rs e index last) := by
 refine qh Tryz.func66 rfl Tryz.ntmps66 (Nat.le_of_ble_eq_true rfl) ?_
 intro w0 hw0
 refine At.nrm ?_
 refine At.zh (.n false 0 (.q 1 .done)) ?_
 refine AtT.jd ?_
 intro b5
 refine AtT.ze ?_
 refine AtT.done ?_
 refine At.nrm ?_
 refine At.nrm ?_
 by_cases d1 : e.d < 0
 ·refine At.zh (.q 0 (.q 1 (.q 2 (.q 3 (.q 4 (.q 5 (.q 6 (.q 7 (.q 8 (.q 9 (.q 10 (.q 11 (.q 12 (.q 13 (.q 14 (.q 15 (.q 16 (.q 17 .done)))))))))))))))))) ?_
  first | refine AtT.zk qd ?_ | with_reducible refine AtT.zl qd ?_ | refine AtT.zn qd ?_
  first | refine AtT.zm tk3 ?_ | refine AtT.zo tk3 ?_
  refine AtT.qp ?_
  refine AtT.qm (d := 11) rfl (d1) ?_
  refine AtT.zf ?_
  all_goals (first | refine AtT.kL 12 ?_ | refine AtT.zA (d := 12) rfl (fun hg12 => ?_) (fun hg12 => ?_) | refine AtT.zz (d := 12) rfl (fun hg12 => ?_) (fun hg12 => ?_))
  all_goals first|refine AtT.zi ?_|refine AtT.zg ?_|(first | refine AtT.zk qd ?_ | with_reducible refine AtT.zl qd ?_ | refine AtT.zn qd ?_)
  all_goals first|refine AtT.zi ?_|refine AtT.zg ?_|(first | refine AtT.zm tk3 ?_ | refine AtT.zo tk3 ?_)
  all_goals first|refine AtT.zi ?_|refine AtT.zg ?_|(refine AtT.qJ ?_)
  all_goals (refine AtT.zB ?_)
  all_goals (refine AtT.zf ?_)
  all_goals (first | refine AtT.kL 17 ?_ | refine AtT.zA (d := 17) rfl (fun hg17 => ?_) (fun hg17 => ?_) | refine AtT.zz (d := 17) rfl (fun hg17 => ?_) (fun hg17 => ?_))
  all_goals first|refine AtT.zi ?_|refine AtT.zg ?_|(first | refine AtT.zk zy ?_ | with_reducible refine AtT.zl zy ?_ | refine AtT.zn zy ?_)
  all_goals first|refine AtT.zi ?_|refine AtT.zg ?_|(first | refine AtT.zm tk3 ?_ | refine AtT.zo tk3 ?_)
  all_goals first|refine AtT.zi ?_|refine AtT.zg ?_|(refine AtT.qp ?_)
  all_goals (refine AtT.zB ?_)
  all_goals (refine AtT.zf ?_)
  all_goals (first | refine AtT.kL 22 ?_ | refine AtT.zA (d := 22) rfl (fun hg22 => ?_) (fun hg22 => ?_) | refine AtT.zz (d := 22) rfl (fun hg22 => ?_) (fun hg22 => ?_))
  all_goals first|refine AtT.zi ?_|refine AtT.zg ?_|(first | refine AtT.zk zy ?_ | with_reducible refine AtT.zl zy ?_ | refine AtT.zn zy ?_)
  all_goals first|refine AtT.zi ?_|refine AtT.zg ?_|(first | refine AtT.zm tk3 ?_ | refine AtT.zo tk3 ?_)
  all_goals first|refine AtT.zi ?_|refine AtT.zg ?_|(refine AtT.qJ ?_)
  all_goals (refine AtT.zB ?_)
  all_goals refine AtT.done ?_
  all_goals (refine At.nrm ?_)
  all_goals refine At.qb rfl rfl ?_
  refine At.nrm ?_
  refine At.zh (.q 0 .done) ?_
  refine AtT.ze ?_
  refine AtT.done ?_
  refine At.nrm ?_
  exact At.qi rfl (.tmp rfl) (by unfold kK; rw [if_pos (by omega)])
 by_cases d2 : 999 < e.d
 ·refine At.zh (.q 0 (.q 1 (.q 2 (.q 3 (.q 4 (.q 5 (.q 6 (.q 7 (.q 8 (.q 9 (.q 10 (.q 11 (.q 12 (.q 13 (.q 14 (.q 15 (.q 16 (.q 17 .done)))))))))))))))))) ?_
  first | refine AtT.zk qd ?_ | with_reducible refine AtT.zl qd ?_ | refine AtT.zn qd ?_
  first | refine AtT.zm tk3 ?_ | refine AtT.zo tk3 ?_
  refine AtT.qp ?_
  refine AtT.zU (d := 11) rfl (d1) ?_
  refine AtT.zf ?_
  all_goals (first | refine AtT.kL 12 ?_ | refine AtT.zA (d := 12) rfl (fun hg12 => ?_) (fun hg12 => ?_) | refine AtT.zz (d := 12) rfl (fun hg12 => ?_) (fun hg12 => ?_))
  all_goals first|refine AtT.zi ?_|refine AtT.zg ?_|(first | refine AtT.zk qd ?_ | with_reducible refine AtT.zl qd ?_ | refine AtT.zn qd ?_)
  all_goals first|refine AtT.zi ?_|refine AtT.zg ?_|(first | refine AtT.zm tk3 ?_ | refine AtT.zo tk3 ?_)
  all_goals first|refine AtT.zi ?_|refine AtT.zg ?_|(refine AtT.qJ ?_)
  all_goals (refine AtT.qm (d := 15) rfl (d2) ?_)
  all_goals (refine AtT.zB ?_)
  all_goals (refine AtT.zf ?_)
  all_goals (first | refine AtT.kL 17 ?_ | refine AtT.zA (d := 17) rfl (fun hg17 => ?_) (fun hg17 => ?_) | refine AtT.zz (d := 17) rfl (fun hg17 => ?_) (fun hg17 => ?_))
  all_goals first|refine AtT.zi ?_|refine AtT.zg ?_|(first | refine AtT.zk zy ?_ | with_reducible refine AtT.zl zy ?_ | refine AtT.zn zy ?_)
  all_goals first|refine AtT.zi ?_|refine AtT.zg ?_|(first | refine AtT.zm tk3 ?_ | refine AtT.zo tk3 ?_)
  all_goals first|refine AtT.zi ?_|refine AtT.zg ?_|(refine AtT.qp ?_)
  all_goals (refine AtT.zB ?_)
  all_goals (refine AtT.zf ?_)
  all_goals (first | refine AtT.kL 22 ?_ | refine AtT.zA (d := 22) rfl (fun hg22 => ?_) (fun hg22 => ?_) | refine AtT.zz (d := 22) rfl (fun hg22 => ?_) (fun hg22 => ?_))
  all_goals first|refine AtT.zi ?_|refine AtT.zg ?_|(first | refine AtT.zk zy ?_ | with_reducible refine AtT.zl zy ?_ | refine AtT.zn zy ?_)
  all_goals first|refine AtT.zi ?_|refine AtT.zg ?_|(first | refine AtT.zm tk3 ?_ | refine AtT.zo tk3 ?_)
  all_goals first|refine AtT.zi ?_|refine AtT.zg ?_|(refine AtT.qJ ?_)
  all_goals (refine AtT.zB ?_)
  all_goals refine AtT.done ?_
  all_goals (refine At.nrm ?_)
  all_goals refine At.qb rfl rfl ?_
  refine At.nrm ?_
  refine At.zh (.q 0 .done) ?_
  refine AtT.ze ?_
  refine AtT.done ?_
  refine At.nrm ?_
  exact At.qi rfl (.tmp rfl) (by unfold kK; rw [if_pos (by omega)])
 by_cases k1 : e.k < 1
 ·refine At.zh (.q 0 (.q 1 (.q 2 (.q 3 (.q 4 (.q 5 (.q 6 (.q 7 (.q 8 (.q 9 (.q 10 (.q 11 (.q 12 (.q 13 (.q 14 (.q 15 (.q 16 (.q 17 .done)))))))))))))))))) ?_
  first | refine AtT.zk qd ?_ | with_reducible refine AtT.zl qd ?_ | refine AtT.zn qd ?_
  first | refine AtT.zm tk3 ?_ | refine AtT.zo tk3 ?_
  refine AtT.qp ?_
  refine AtT.zU (d := 11) rfl (d1) ?_
  refine AtT.zf ?_
  all_goals (first | refine AtT.kL 12 ?_ | refine AtT.zA (d := 12) rfl (fun hg12 => ?_) (fun hg12 => ?_) | refine AtT.zz (d := 12) rfl (fun hg12 => ?_) (fun hg12 => ?_))
  all_goals first|refine AtT.zi ?_|refine AtT.zg ?_|(first | refine AtT.zk qd ?_ | with_reducible refine AtT.zl qd ?_ | refine AtT.zn qd ?_)
  all_goals first|refine AtT.zi ?_|refine AtT.zg ?_|(first | refine AtT.zm tk3 ?_ | refine AtT.zo tk3 ?_)
  all_goals first|refine AtT.zi ?_|refine AtT.zg ?_|(refine AtT.qJ ?_)
  all_goals (refine AtT.zU (d := 15) rfl (d2) ?_)
  all_goals (refine AtT.zB ?_)
  all_goals (refine AtT.zf ?_)
  all_goals (first | refine AtT.kL 17 ?_ | refine AtT.zA (d := 17) rfl (fun hg17 => ?_) (fun hg17 => ?_) | refine AtT.zz (d := 17) rfl (fun hg17 => ?_) (fun hg17 => ?_))
  all_goals first|refine AtT.zi ?_|refine AtT.zg ?_|(first | refine AtT.zk zy ?_ | with_reducible refine AtT.zl zy ?_ | refine AtT.zn zy ?_)
  all_goals first|refine AtT.zi ?_|refine AtT.zg ?_|(first | refine AtT.zm tk3 ?_ | refine AtT.zo tk3 ?_)
  all_goals first|refine AtT.zi ?_|refine AtT.zg ?_|(refine AtT.qp ?_)
  all_goals (refine AtT.qm (d := 20) rfl (k1) ?_)
  all_goals (refine AtT.zB ?_)
  all_goals (refine AtT.zf ?_)
  all_goals (first | refine AtT.kL 22 ?_ | refine AtT.zA (d := 22) rfl (fun hg22 => ?_) (fun hg22 => ?_) | refine AtT.zz (d := 22) rfl (fun hg22 => ?_) (fun hg22 => ?_))
  all_goals first|refine AtT.zi ?_|refine AtT.zg ?_|(first | refine AtT.zk zy ?_ | with_reducible refine AtT.zl zy ?_ | refine AtT.zn zy ?_)
  all_goals first|refine AtT.zi ?_|refine AtT.zg ?_|(first | refine AtT.zm tk3 ?_ | refine AtT.zo tk3 ?_)
  all_goals first|refine AtT.zi ?_|refine AtT.zg ?_|(refine AtT.qJ ?_)
  all_goals (refine AtT.zB ?_)
  all_goals refine AtT.done ?_
  all_goals (refine At.nrm ?_)
  all_goals refine At.qb rfl rfl ?_
  refine At.nrm ?_
  refine At.zh (.q 0 .done) ?_
  refine AtT.ze ?_
  refine AtT.done ?_
  refine At.nrm ?_
  exact At.qi rfl (.tmp rfl) (by unfold kK; rw [if_pos (by omega)])
 by_cases k2 : 4 < e.k
 ·refine At.zh (.q 0 (.q 1 (.q 2 (.q 3 (.q 4 (.q 5 (.q 6 (.q 7 (.q 8 (.q 9 (.q 10 (.q 11 (.q 12 (.q 13 (.q 14 (.q 15 (.q 16 (.q 17 .done)))))))))))))))))) ?_
  first | refine AtT.zk qd ?_ | with_reducible refine AtT.zl qd ?_ | refine AtT.zn qd ?_
  first | refine AtT.zm tk3 ?_ | refine AtT.zo tk3 ?_
  refine AtT.qp ?_
  refine AtT.zU (d := 11) rfl (d1) ?_
  refine AtT.zf ?_
  all_goals (first | refine AtT.kL 12 ?_ | refine AtT.zA (d := 12) rfl (fun hg12 => ?_) (fun hg12 => ?_) | refine AtT.zz (d := 12) rfl (fun hg12 => ?_) (fun hg12 => ?_))
  all_goals first|refine AtT.zi ?_|refine AtT.zg ?_|(first | refine AtT.zk qd ?_ | with_reducible refine AtT.zl qd ?_ | refine AtT.zn qd ?_)
  all_goals first|refine AtT.zi ?_|refine AtT.zg ?_|(first | refine AtT.zm tk3 ?_ | refine AtT.zo tk3 ?_)
  all_goals first|refine AtT.zi ?_|refine AtT.zg ?_|(refine AtT.qJ ?_)
  all_goals (refine AtT.zU (d := 15) rfl (d2) ?_)
  all_goals (refine AtT.zB ?_)
  all_goals (refine AtT.zf ?_)
  all_goals (first | refine AtT.kL 17 ?_ | refine AtT.zA (d := 17) rfl (fun hg17 => ?_) (fun hg17 => ?_) | refine AtT.zz (d := 17) rfl (fun hg17 => ?_) (fun hg17 => ?_))
  all_goals first|refine AtT.zi ?_|refine AtT.zg ?_|(first | refine AtT.zk zy ?_ | with_reducible refine AtT.zl zy ?_ | refine AtT.zn zy ?_)
  all_goals first|refine AtT.zi ?_|refine AtT.zg ?_|(first | refine AtT.zm tk3 ?_ | refine AtT.zo tk3 ?_)
  all_goals first|refine AtT.zi ?_|refine AtT.zg ?_|(refine AtT.qp ?_)
  all_goals (refine AtT.zU (d := 20) rfl (k1) ?_)
  all_goals (refine AtT.zB ?_)
  all_goals (refine AtT.zf ?_)
  all_goals (first | refine AtT.kL 22 ?_ | refine AtT.zA (d := 22) rfl (fun hg22 => ?_) (fun hg22 => ?_) | refine AtT.zz (d := 22) rfl (fun hg22 => ?_) (fun hg22 => ?_))
  all_goals first|refine AtT.zi ?_|refine AtT.zg ?_|(first | refine AtT.zk zy ?_ | with_reducible refine AtT.zl zy ?_ | refine AtT.zn zy ?_)
  all_goals first|refine AtT.zi ?_|refine AtT.zg ?_|(first | refine AtT.zm tk3 ?_ | refine AtT.zo tk3 ?_)
  all_goals first|refine AtT.zi ?_|refine AtT.zg ?_|(refine AtT.qJ ?_)
  all_goals (refine AtT.qm (d := 25) rfl (k2) ?_)
  all_goals (refine AtT.zB ?_)
  all_goals refine AtT.done ?_
  all_goals (refine At.nrm ?_)
  all_goals refine At.qb rfl rfl ?_
  refine At.nrm ?_
  refine At.zh (.q 0 .done) ?_
  refine AtT.ze ?_
  refine AtT.done ?_
  refine At.nrm ?_
  exact At.qi rfl (.tmp rfl) (by unfold kK; rw [if_pos (by omega)])
 refine At.zh (.q 0 (.q 1 (.q 2 (.q 3 (.q 4 (.q 5 (.q 6 (.q 7 (.q 8 (.q 9 (.q 10 (.q 11 (.q 12 (.q 13 (.q 14 (.q 15 (.q 16 (.q 17 .done)))))))))))))))))) ?_
 first | refine AtT.zk qd ?_ | with_reducible refine AtT.zl qd ?_ | refine AtT.zn qd ?_
 first | refine AtT.zm tk3 ?_ | refine AtT.zo tk3 ?_
 refine AtT.qp ?_
 refine AtT.zU (d := 11) rfl (d1) ?_
 refine AtT.zf ?_
 all_goals (first | refine AtT.kL 12 ?_ | refine AtT.zA (d := 12) rfl (fun hg12 => ?_) (fun hg12 => ?_) | refine AtT.zz (d := 12) rfl (fun hg12 => ?_) (fun hg12 => ?_))
 all_goals first|refine AtT.zi ?_|refine AtT.zg ?_|(first | refine AtT.zk qd ?_ | with_reducible refine AtT.zl qd ?_ | refine AtT.zn qd ?_)
 all_goals first|refine AtT.zi ?_|refine AtT.zg ?_|(first | refine AtT.zm tk3 ?_ | refine AtT.zo tk3 ?_)
 all_goals first|refine AtT.zi ?_|refine AtT.zg ?_|(refine AtT.qJ ?_)
 all_goals (refine AtT.zU (d := 15) rfl (d2) ?_)
 all_goals (refine AtT.zB ?_)
 all_goals (refine AtT.zf ?_)
 all_goals (first | refine AtT.kL 17 ?_ | refine AtT.zA (d := 17) rfl (fun hg17 => ?_) (fun hg17 => ?_) | refine AtT.zz (d := 17) rfl (fun hg17 => ?_) (fun hg17 => ?_))
 all_goals first|refine AtT.zi ?_|refine AtT.zg ?_|(first | refine AtT.zk zy ?_ | with_reducible refine AtT.zl zy ?_ | refine AtT.zn zy ?_)
 all_goals first|refine AtT.zi ?_|refine AtT.zg ?_|(first | refine AtT.zm tk3 ?_ | refine AtT.zo tk3 ?_)
 all_goals first|refine AtT.zi ?_|refine AtT.zg ?_|(refine AtT.qp ?_)
 all_goals (refine AtT.zU (d := 20) rfl (k1) ?_)
 all_goals (refine AtT.zB ?_)
 all_goals (refine AtT.zf ?_)
 all_goals (first | refine AtT.kL 22 ?_ | refine AtT.zA (d := 22) rfl (fun hg22 => ?_) (fun hg22 => ?_) | refine AtT.zz (d := 22) rfl (fun hg22 => ?_) (fun hg22 => ?_))
 all_goals first|refine AtT.zi ?_|refine AtT.zg ?_|(first | refine AtT.zk zy ?_ | with_reducible refine AtT.zl zy ?_ | refine AtT.zn zy ?_)
 all_goals first|refine AtT.zi ?_|refine AtT.zg ?_|(first | refine AtT.zm tk3 ?_ | refine AtT.zo tk3 ?_)
 all_goals first|refine AtT.zi ?_|refine AtT.zg ?_|(refine AtT.qJ ?_)
 all_goals (refine AtT.zU (d := 25) rfl (k2) ?_)
 all_goals (refine AtT.zB ?_)
 all_goals refine AtT.done ?_
 all_goals (refine At.nrm ?_)
 all_goals refine At.qf rfl rfl ?_
 refine At.nrm ?_
 have hA : ¬ (¬ (0 ≤ e.d ∧ e.d ≤ 999) ∨ ¬ (1 ≤ e.k ∧ e.k ≤ 4)) := by omega
 refine At.zh (.q 0 (.q 1 (.q 2 .done))) ?_
 first | refine AtT.zk zy ?_ | with_reducible refine AtT.zl zy ?_ | refine AtT.zn zy ?_
 first | refine AtT.zm tk3 ?_ | refine AtT.zo tk3 ?_
 refine AtT.qK ?_
 refine AtT.done ?_
 refine At.nrm ?_
 have htail : ¬ (e.k = 4 ∧ ¬ (0 ≤ e.t ∧ e.t ≤ index - 1)) → ¬ (e.k = 4 ∧ e.n ≠ 0) → ¬ (e.k ≠ 4 ∧ (¬ (0 ≤ e.t ∧ e.t ≤ 7) ∨ e.n < 1 ∨ 1000 < e.n)) → kK rs e index last = if e.d < last then 12 else if e.k = 3 ∧ partsOf rs e.t = [] then 16 else 0 := fun h1 h2 h3 => by
  unfold kK; rw [if_neg hA, if_neg h1, if_neg h2, if_neg h3]
 refine At.cutG (ι := Unit) (fun _ => [(0, v), (3, iv last), (5, .pointer (some ⟨b5, 0, none⟩))]) (fun _ => [.blk b5 (LC (ene e) 36)]) (fun _ V'' => V'' = V ∧ kK rs e index last = if e.d < last then 12 else if e.k = 3 ∧ partsOf rs e.t = [] then 16 else 0) ?_ ?_
 ·refine At.zX rfl (fun k4 => ?_) (fun k4 => ?_)
  ·refine At.nrm ?_
   by_cases t1 : e.t < 0
   ·refine At.zh (.q 0 (.q 1 (.q 2 (.q 3 (.q 4 (.q 5 (.q 6 (.q 7 (.q 8 .done))))))))) ?_
    first | refine AtT.zk zJ ?_ | with_reducible refine AtT.zl zJ ?_ | refine AtT.zn zJ ?_
    first | refine AtT.zm tk3 ?_ | refine AtT.zo tk3 ?_
    refine AtT.qp ?_
    refine AtT.qm (d := 32) rfl (t1) ?_
    refine AtT.zf ?_
    all_goals (first | refine AtT.kL 33 ?_ | refine AtT.zA (d := 33) rfl (fun hg33 => ?_) (fun hg33 => ?_) | refine AtT.zz (d := 33) rfl (fun hg33 => ?_) (fun hg33 => ?_))
    all_goals first|refine AtT.zi ?_|refine AtT.zg ?_|(first | refine AtT.zk zJ ?_ | with_reducible refine AtT.zl zJ ?_ | refine AtT.zn zJ ?_)
    all_goals first|refine AtT.zi ?_|refine AtT.zg ?_|(first | refine AtT.zm tk3 ?_ | refine AtT.zo tk3 ?_)
    all_goals first|refine AtT.zi ?_|refine AtT.zg ?_|(refine AtT.zf ?_)
    all_goals first|refine AtT.zi ?_|refine AtT.zg ?_|(refine AtT.kgeq ?_)
    all_goals (refine AtT.zB ?_)
    all_goals refine AtT.done ?_
    all_goals (refine At.nrm ?_)
    all_goals refine At.qb rfl rfl ?_
    refine At.nrm ?_
    refine At.zh (.q 0 .done) ?_
    refine AtT.ze ?_
    refine AtT.done ?_
    refine At.nrm ?_
    exact At.qi rfl (.tmp rfl) (by unfold kK; rw [if_neg hA, if_pos ⟨k4, by omega⟩])
   by_cases t2 : index ≤ e.t
   ·refine At.zh (.q 0 (.q 1 (.q 2 (.q 3 (.q 4 (.q 5 (.q 6 (.q 7 (.q 8 .done))))))))) ?_
    first | refine AtT.zk zJ ?_ | with_reducible refine AtT.zl zJ ?_ | refine AtT.zn zJ ?_
    first | refine AtT.zm tk3 ?_ | refine AtT.zo tk3 ?_
    refine AtT.qp ?_
    refine AtT.zU (d := 32) rfl (t1) ?_
    refine AtT.zf ?_
    all_goals (first | refine AtT.kL 33 ?_ | refine AtT.zA (d := 33) rfl (fun hg33 => ?_) (fun hg33 => ?_) | refine AtT.zz (d := 33) rfl (fun hg33 => ?_) (fun hg33 => ?_))
    all_goals first|refine AtT.zi ?_|refine AtT.zg ?_|(first | refine AtT.zk zJ ?_ | with_reducible refine AtT.zl zJ ?_ | refine AtT.zn zJ ?_)
    all_goals first|refine AtT.zi ?_|refine AtT.zg ?_|(first | refine AtT.zm tk3 ?_ | refine AtT.zo tk3 ?_)
    all_goals first|refine AtT.zi ?_|refine AtT.zg ?_|(refine AtT.zf ?_)
    all_goals first|refine AtT.zi ?_|refine AtT.zg ?_|(refine AtT.kgeq ?_)
    all_goals (refine AtT.qm (d := 37) rfl (t2) ?_)
    all_goals (refine AtT.zB ?_)
    all_goals refine AtT.done ?_
    all_goals (refine At.nrm ?_)
    all_goals refine At.qb rfl rfl ?_
    refine At.nrm ?_
    refine At.zh (.q 0 .done) ?_
    refine AtT.ze ?_
    refine AtT.done ?_
    refine At.nrm ?_
    exact At.qi rfl (.tmp rfl) (by unfold kK; rw [if_neg hA, if_pos ⟨k4, by omega⟩])
   refine At.zh (.q 0 (.q 1 (.q 2 (.q 3 (.q 4 (.q 5 (.q 6 (.q 7 (.q 8 .done))))))))) ?_
   first | refine AtT.zk zJ ?_ | with_reducible refine AtT.zl zJ ?_ | refine AtT.zn zJ ?_
   first | refine AtT.zm tk3 ?_ | refine AtT.zo tk3 ?_
   refine AtT.qp ?_
   refine AtT.zU (d := 32) rfl (t1) ?_
   refine AtT.zf ?_
   all_goals (first | refine AtT.kL 33 ?_ | refine AtT.zA (d := 33) rfl (fun hg33 => ?_) (fun hg33 => ?_) | refine AtT.zz (d := 33) rfl (fun hg33 => ?_) (fun hg33 => ?_))
   all_goals first|refine AtT.zi ?_|refine AtT.zg ?_|(first | refine AtT.zk zJ ?_ | with_reducible refine AtT.zl zJ ?_ | refine AtT.zn zJ ?_)
   all_goals first|refine AtT.zi ?_|refine AtT.zg ?_|(first | refine AtT.zm tk3 ?_ | refine AtT.zo tk3 ?_)
   all_goals first|refine AtT.zi ?_|refine AtT.zg ?_|(refine AtT.zf ?_)
   all_goals first|refine AtT.zi ?_|refine AtT.zg ?_|(refine AtT.kgeq ?_)
   all_goals (refine AtT.zU (d := 37) rfl (t2) ?_)
   all_goals (refine AtT.zB ?_)
   all_goals refine AtT.done ?_
   all_goals (refine At.nrm ?_)
   all_goals refine At.qf rfl rfl ?_
   refine At.nrm ?_
   refine At.zh (.q 0 (.q 1 (.q 2 .done))) ?_
   first | refine AtT.zk zO ?_ | with_reducible refine AtT.zl zO ?_ | refine AtT.zn zO ?_
   first | refine AtT.zm tk2 ?_ | refine AtT.zo tk2 ?_
   refine AtT.qH ?_
   refine AtT.done ?_
   refine At.nrm ?_
   refine At.zX rfl (fun hn => ?_) (fun hn => ?_)
   ·refine At.nrm ?_
    refine At.zh (.q 0 .done) ?_
    refine AtT.ze ?_
    refine AtT.done ?_
    refine At.nrm ?_
    exact At.qi rfl (.tmp rfl) (by unfold kK; rw [if_neg hA, if_neg (by omega), if_pos ⟨k4, hn⟩])
   ·refine At.nrm ?_
    exact At.kC () ⟨rfl, htail (by omega) (fun h => hn h.2) (fun h => h.1 k4)⟩ ⟨rfl, rfl, rfl, trivial⟩ Pt.zH
  ·refine At.nrm ?_
   by_cases t1 : 0 ≤ e.t ∧ e.t ≤ 7
   rotate_left
   ·refine At.zh (.q 0 (.q 1 (.n false 2 (.q 3 (.q 4 (.q 5 (.q 6 (.q 7 (.q 8 (.q 9 (.q 10 (.q 11 (.q 12 (.q 13 .done)))))))))))))) ?_
    first | refine AtT.zk zJ ?_ | with_reducible refine AtT.zl zJ ?_ | refine AtT.zn zJ ?_
    first | refine AtT.zm tk3 ?_ | refine AtT.zo tk3 ?_
    refine AtT.zG rfl rfl ok59 (jb e.t _) ?_
    rintro _ rfl
    refine AtT.zU (d := 44) rfl (t1) ?_
    refine AtT.qF ?_
    refine AtT.qM (d := 45) rfl ((show (!false) = true from rfl)) ?_
    refine AtT.zf ?_
    all_goals (first | refine AtT.kL 46 ?_ | refine AtT.zA (d := 46) rfl (fun hg46 => ?_) (fun hg46 => ?_) | refine AtT.zz (d := 46) rfl (fun hg46 => ?_) (fun hg46 => ?_))
    all_goals first|refine AtT.zi ?_|refine AtT.zg ?_|(first | refine AtT.zk zO ?_ | with_reducible refine AtT.zl zO ?_ | refine AtT.zn zO ?_)
    all_goals first|refine AtT.zi ?_|refine AtT.zg ?_|(first | refine AtT.zm tk2 ?_ | refine AtT.zo tk2 ?_)
    all_goals first|refine AtT.zi ?_|refine AtT.zg ?_|(refine AtT.qp ?_)
    all_goals (refine AtT.zB ?_)
    all_goals (refine AtT.zf ?_)
    all_goals (first | refine AtT.kL 51 ?_ | refine AtT.zA (d := 51) rfl (fun hg51 => ?_) (fun hg51 => ?_) | refine AtT.zz (d := 51) rfl (fun hg51 => ?_) (fun hg51 => ?_))
    all_goals first|refine AtT.zi ?_|refine AtT.zg ?_|(first | refine AtT.zk zO ?_ | with_reducible refine AtT.zl zO ?_ | refine AtT.zn zO ?_)
    all_goals first|refine AtT.zi ?_|refine AtT.zg ?_|(first | refine AtT.zm tk2 ?_ | refine AtT.zo tk2 ?_)
    all_goals first|refine AtT.zi ?_|refine AtT.zg ?_|(refine AtT.qJ ?_)
    all_goals (refine AtT.zB ?_)
    all_goals refine AtT.done ?_
    all_goals (refine At.nrm ?_)
    all_goals refine At.qb rfl rfl ?_
    refine At.nrm ?_
    refine At.zh (.q 0 .done) ?_
    refine AtT.ze ?_
    refine AtT.done ?_
    refine At.nrm ?_
    exact At.qi rfl (.tmp rfl) (by unfold kK; rw [if_neg hA, if_neg (by omega), if_neg (by omega), if_pos ⟨k4, by omega⟩])
   by_cases n1 : e.n < 1
   ·refine At.zh (.q 0 (.q 1 (.n false 2 (.q 3 (.q 4 (.q 5 (.q 6 (.q 7 (.q 8 (.q 9 (.q 10 (.q 11 (.q 12 (.q 13 .done)))))))))))))) ?_
    first | refine AtT.zk zJ ?_ | with_reducible refine AtT.zl zJ ?_ | refine AtT.zn zJ ?_
    first | refine AtT.zm tk3 ?_ | refine AtT.zo tk3 ?_
    refine AtT.zG rfl rfl ok59 (jb e.t _) ?_
    rintro _ rfl
    refine AtT.qm (d := 44) rfl (t1) ?_
    refine AtT.qF ?_
    refine AtT.qM (d := 45) rfl ((show (!true) = false from rfl)) ?_
    refine AtT.zf ?_
    all_goals (first | refine AtT.kL 46 ?_ | refine AtT.zA (d := 46) rfl (fun hg46 => ?_) (fun hg46 => ?_) | refine AtT.zz (d := 46) rfl (fun hg46 => ?_) (fun hg46 => ?_))
    all_goals first|refine AtT.zi ?_|refine AtT.zg ?_|(first | refine AtT.zk zO ?_ | with_reducible refine AtT.zl zO ?_ | refine AtT.zn zO ?_)
    all_goals first|refine AtT.zi ?_|refine AtT.zg ?_|(first | refine AtT.zm tk2 ?_ | refine AtT.zo tk2 ?_)
    all_goals first|refine AtT.zi ?_|refine AtT.zg ?_|(refine AtT.qp ?_)
    all_goals (refine AtT.qm (d := 49) rfl (n1) ?_)
    all_goals (refine AtT.zB ?_)
    all_goals (refine AtT.zf ?_)
    all_goals (first | refine AtT.kL 51 ?_ | refine AtT.zA (d := 51) rfl (fun hg51 => ?_) (fun hg51 => ?_) | refine AtT.zz (d := 51) rfl (fun hg51 => ?_) (fun hg51 => ?_))
    all_goals first|refine AtT.zi ?_|refine AtT.zg ?_|(first | refine AtT.zk zO ?_ | with_reducible refine AtT.zl zO ?_ | refine AtT.zn zO ?_)
    all_goals first|refine AtT.zi ?_|refine AtT.zg ?_|(first | refine AtT.zm tk2 ?_ | refine AtT.zo tk2 ?_)
    all_goals first|refine AtT.zi ?_|refine AtT.zg ?_|(refine AtT.qJ ?_)
    all_goals (refine AtT.zB ?_)
    all_goals refine AtT.done ?_
    all_goals (refine At.nrm ?_)
    all_goals refine At.qb rfl rfl ?_
    refine At.nrm ?_
    refine At.zh (.q 0 .done) ?_
    refine AtT.ze ?_
    refine AtT.done ?_
    refine At.nrm ?_
    exact At.qi rfl (.tmp rfl) (by unfold kK; rw [if_neg hA, if_neg (by omega), if_neg (by omega), if_pos ⟨k4, by omega⟩])
   by_cases n2 : 1000 < e.n
   ·refine At.zh (.q 0 (.q 1 (.n false 2 (.q 3 (.q 4 (.q 5 (.q 6 (.q 7 (.q 8 (.q 9 (.q 10 (.q 11 (.q 12 (.q 13 .done)))))))))))))) ?_
    first | refine AtT.zk zJ ?_ | with_reducible refine AtT.zl zJ ?_ | refine AtT.zn zJ ?_
    first | refine AtT.zm tk3 ?_ | refine AtT.zo tk3 ?_
    refine AtT.zG rfl rfl ok59 (jb e.t _) ?_
    rintro _ rfl
    refine AtT.qm (d := 44) rfl (t1) ?_
    refine AtT.qF ?_
    refine AtT.qM (d := 45) rfl ((show (!true) = false from rfl)) ?_
    refine AtT.zf ?_
    all_goals (first | refine AtT.kL 46 ?_ | refine AtT.zA (d := 46) rfl (fun hg46 => ?_) (fun hg46 => ?_) | refine AtT.zz (d := 46) rfl (fun hg46 => ?_) (fun hg46 => ?_))
    all_goals first|refine AtT.zi ?_|refine AtT.zg ?_|(first | refine AtT.zk zO ?_ | with_reducible refine AtT.zl zO ?_ | refine AtT.zn zO ?_)
    all_goals first|refine AtT.zi ?_|refine AtT.zg ?_|(first | refine AtT.zm tk2 ?_ | refine AtT.zo tk2 ?_)
    all_goals first|refine AtT.zi ?_|refine AtT.zg ?_|(refine AtT.qp ?_)
    all_goals (refine AtT.zU (d := 49) rfl (n1) ?_)
    all_goals (refine AtT.zB ?_)
    all_goals (refine AtT.zf ?_)
    all_goals (first | refine AtT.kL 51 ?_ | refine AtT.zA (d := 51) rfl (fun hg51 => ?_) (fun hg51 => ?_) | refine AtT.zz (d := 51) rfl (fun hg51 => ?_) (fun hg51 => ?_))
    all_goals first|refine AtT.zi ?_|refine AtT.zg ?_|(first | refine AtT.zk zO ?_ | with_reducible refine AtT.zl zO ?_ | refine AtT.zn zO ?_)
    all_goals first|refine AtT.zi ?_|refine AtT.zg ?_|(first | refine AtT.zm tk2 ?_ | refine AtT.zo tk2 ?_)
    all_goals first|refine AtT.zi ?_|refine AtT.zg ?_|(refine AtT.qJ ?_)
    all_goals (refine AtT.qm (d := 54) rfl (n2) ?_)
    all_goals (refine AtT.zB ?_)
    all_goals refine AtT.done ?_
    all_goals (refine At.nrm ?_)
    all_goals refine At.qb rfl rfl ?_
    refine At.nrm ?_
    refine At.zh (.q 0 .done) ?_
    refine AtT.ze ?_
    refine AtT.done ?_
    refine At.nrm ?_
    exact At.qi rfl (.tmp rfl) (by unfold kK; rw [if_neg hA, if_neg (by omega), if_neg (by omega), if_pos ⟨k4, by omega⟩])
   refine At.zh (.q 0 (.q 1 (.n false 2 (.q 3 (.q 4 (.q 5 (.q 6 (.q 7 (.q 8 (.q 9 (.q 10 (.q 11 (.q 12 (.q 13 .done)))))))))))))) ?_
   first | refine AtT.zk zJ ?_ | with_reducible refine AtT.zl zJ ?_ | refine AtT.zn zJ ?_
   first | refine AtT.zm tk3 ?_ | refine AtT.zo tk3 ?_
   refine AtT.zG rfl rfl ok59 (jb e.t _) ?_
   rintro _ rfl
   refine AtT.qm (d := 44) rfl (t1) ?_
   refine AtT.qF ?_
   refine AtT.qM (d := 45) rfl ((show (!true) = false from rfl)) ?_
   refine AtT.zf ?_
   all_goals (first | refine AtT.kL 46 ?_ | refine AtT.zA (d := 46) rfl (fun hg46 => ?_) (fun hg46 => ?_) | refine AtT.zz (d := 46) rfl (fun hg46 => ?_) (fun hg46 => ?_))
   all_goals first|refine AtT.zi ?_|refine AtT.zg ?_|(first | refine AtT.zk zO ?_ | with_reducible refine AtT.zl zO ?_ | refine AtT.zn zO ?_)
   all_goals first|refine AtT.zi ?_|refine AtT.zg ?_|(first | refine AtT.zm tk2 ?_ | refine AtT.zo tk2 ?_)
   all_goals first|refine AtT.zi ?_|refine AtT.zg ?_|(refine AtT.qp ?_)
   all_goals (refine AtT.zU (d := 49) rfl (n1) ?_)
   all_goals (refine AtT.zB ?_)
   all_goals (refine AtT.zf ?_)
   all_goals (first | refine AtT.kL 51 ?_ | refine AtT.zA (d := 51) rfl (fun hg51 => ?_) (fun hg51 => ?_) | refine AtT.zz (d := 51) rfl (fun hg51 => ?_) (fun hg51 => ?_))
   all_goals first|refine AtT.zi ?_|refine AtT.zg ?_|(first | refine AtT.zk zO ?_ | with_reducible refine AtT.zl zO ?_ | refine AtT.zn zO ?_)
   all_goals first|refine AtT.zi ?_|refine AtT.zg ?_|(first | refine AtT.zm tk2 ?_ | refine AtT.zo tk2 ?_)
   all_goals first|refine AtT.zi ?_|refine AtT.zg ?_|(refine AtT.qJ ?_)
   all_goals (refine AtT.zU (d := 54) rfl (n2) ?_)
   all_goals (refine AtT.zB ?_)
   all_goals refine AtT.done ?_
   all_goals (refine At.nrm ?_)
   all_goals refine At.qf rfl rfl ?_
   refine At.nrm ?_
   exact At.kC () ⟨rfl, htail (by omega) (by omega) (by omega)⟩ ⟨rfl, rfl, rfl, trivial⟩ Pt.zH
 rintro _ V1 ks' O' ⟨rfl, hE⟩ hk hO hl1
 subst hk hO
 rw [hE]
 refine At.nrm ?_
 refine At.zh (.q 0 (.q 1 (.q 2 (.q 3 .done)))) ?_
 first | refine AtT.zk qd ?_ | with_reducible refine AtT.zl qd ?_ | refine AtT.zn qd ?_
 first | refine AtT.zm tk3 ?_ | refine AtT.zo tk3 ?_
 refine AtT.zf ?_
 refine AtT.qp ?_
 refine AtT.done ?_
 refine At.nrm ?_
 refine At.zX rfl (fun hd => ?_) (fun hd => ?_)
 ·refine At.nrm ?_
  refine At.zh (.q 0 .done) ?_
  refine AtT.ze ?_
  refine AtT.done ?_
  refine At.nrm ?_
  exact At.qi rfl (.tmp rfl) (by rw [if_pos hd])
 rw [if_neg hd]
 refine At.nrm ?_
 by_cases k3 : e.k = 3
 rotate_left
 ·refine At.zh (.q 0 (.q 1 (.q 2 (.q 3 (.q 4 (.q 5 (.q 6 (.n false 7 (.q 8 (.q 9 (.q 10 .done))))))))))) ?_
  first | refine AtT.zk zy ?_ | with_reducible refine AtT.zl zy ?_ | refine AtT.zn zy ?_
  first | refine AtT.zm tk3 ?_ | refine AtT.zo tk3 ?_
  refine AtT.qK ?_
  refine AtT.zU (d := 62) rfl (k3) ?_
  refine AtT.zf ?_
  all_goals (first | refine AtT.kL 63 ?_ | refine AtT.zA (d := 63) rfl (fun hg63 => ?_) (fun hg63 => ?_) | refine AtT.zz (d := 63) rfl (fun hg63 => ?_) (fun hg63 => ?_))
  all_goals first|refine AtT.zi ?_|refine AtT.zg ?_|(refine AtT.zf ?_)
  all_goals first|refine AtT.zi ?_|refine AtT.zg ?_|(first | refine AtT.zk zJ ?_ | with_reducible refine AtT.zl zJ ?_ | refine AtT.zn zJ ?_)
  all_goals first|refine AtT.zi ?_|refine AtT.zg ?_|(first | refine AtT.zm tk3 ?_ | refine AtT.zo tk3 ?_)
  all_goals first|refine AtT.qg ?_|refine AtT.zW ?_|((fail))
  all_goals first|refine AtT.zi ?_|refine AtT.zg ?_|(first | refine AtT.zR Tryz.underlying66 ?_ | refine AtT.zN Tryz.underlying66 ?_)
  all_goals first|refine AtT.zi ?_|refine AtT.zg ?_|(refine AtT.qK ?_)
  all_goals (refine AtT.zB ?_)
  all_goals refine AtT.done ?_
  all_goals (refine At.nrm ?_)
  all_goals refine At.qf rfl rfl ?_
  refine At.nrm ?_
  refine At.zh (.q 0 .done) ?_
  refine AtT.ze ?_
  refine AtT.done ?_
  refine At.nrm ?_
  exact At.qi rfl (.tmp rfl) (by rw [if_neg (fun h => k3 h.1)])
 have hlen : ((partsOf rs e.t).length : Int) = 0 ↔ partsOf rs e.t = [] := by rw [← List.length_eq_zero_iff]; omega
 by_cases hp : partsOf rs e.t = []
 ·refine At.zh (.q 0 (.q 1 (.q 2 (.q 3 (.q 4 (.q 5 (.q 6 (.n false 7 (.q 8 (.q 9 (.q 10 .done))))))))))) ?_
  first | refine AtT.zk zy ?_ | with_reducible refine AtT.zl zy ?_ | refine AtT.zn zy ?_
  first | refine AtT.zm tk3 ?_ | refine AtT.zo tk3 ?_
  refine AtT.qK ?_
  refine AtT.qm (d := 62) rfl (k3) ?_
  refine AtT.zf ?_
  all_goals (first | refine AtT.kL 63 ?_ | refine AtT.zA (d := 63) rfl (fun hg63 => ?_) (fun hg63 => ?_) | refine AtT.zz (d := 63) rfl (fun hg63 => ?_) (fun hg63 => ?_))
  all_goals first|refine AtT.zi ?_|refine AtT.zg ?_|(refine AtT.zf ?_)
  all_goals first|refine AtT.zi ?_|refine AtT.zg ?_|(first | refine AtT.zk zJ ?_ | with_reducible refine AtT.zl zJ ?_ | refine AtT.zn zJ ?_)
  all_goals first|refine AtT.zi ?_|refine AtT.zg ?_|(first | refine AtT.zm tk3 ?_ | refine AtT.zo tk3 ?_)
  all_goals first|refine AtT.qg ?_|refine AtT.zW ?_|((refine AtT.qa rfl rfl ok48 (partsOf_f rs e.t _ _ hv) ?_) ; (rintro v67 V67 hV67 ⟨a67, c67, rfl, hs67⟩))
  all_goals first|refine AtT.zi ?_|refine AtT.zg ?_|(first | refine AtT.zR Tryz.underlying66 ?_ | refine AtT.zN Tryz.underlying66 ?_)
  all_goals first|refine AtT.zi ?_|refine AtT.zg ?_|(refine AtT.qK ?_)
  all_goals (refine AtT.qm (d := 69) rfl ((hlen.2 hp)) ?_)
  all_goals (refine AtT.zB ?_)
  all_goals refine AtT.done ?_
  all_goals (refine At.nrm ?_)
  all_goals refine At.qb rfl rfl ?_
  refine At.nrm ?_
  refine At.zh (.q 0 .done) ?_
  refine AtT.ze ?_
  refine AtT.done ?_
  refine At.nrm ?_
  exact At.qi rfl (.tmp rfl) (by rw [if_pos ⟨k3, hp⟩])
 ·refine At.zh (.q 0 (.q 1 (.q 2 (.q 3 (.q 4 (.q 5 (.q 6 (.n false 7 (.q 8 (.q 9 (.q 10 .done))))))))))) ?_
  first | refine AtT.zk zy ?_ | with_reducible refine AtT.zl zy ?_ | refine AtT.zn zy ?_
  first | refine AtT.zm tk3 ?_ | refine AtT.zo tk3 ?_
  refine AtT.qK ?_
  refine AtT.qm (d := 62) rfl (k3) ?_
  refine AtT.zf ?_
  all_goals (first | refine AtT.kL 63 ?_ | refine AtT.zA (d := 63) rfl (fun hg63 => ?_) (fun hg63 => ?_) | refine AtT.zz (d := 63) rfl (fun hg63 => ?_) (fun hg63 => ?_))
  all_goals first|refine AtT.zi ?_|refine AtT.zg ?_|(refine AtT.zf ?_)
  all_goals first|refine AtT.zi ?_|refine AtT.zg ?_|(first | refine AtT.zk zJ ?_ | with_reducible refine AtT.zl zJ ?_ | refine AtT.zn zJ ?_)
  all_goals first|refine AtT.zi ?_|refine AtT.zg ?_|(first | refine AtT.zm tk3 ?_ | refine AtT.zo tk3 ?_)
  all_goals first|refine AtT.qg ?_|refine AtT.zW ?_|((refine AtT.qa rfl rfl ok48 (partsOf_f rs e.t _ _ hv) ?_) ; (rintro v67 V67 hV67 ⟨a67, c67, rfl, hs67⟩))
  all_goals first|refine AtT.zi ?_|refine AtT.zg ?_|(first | refine AtT.zR Tryz.underlying66 ?_ | refine AtT.zN Tryz.underlying66 ?_)
  all_goals first|refine AtT.zi ?_|refine AtT.zg ?_|(refine AtT.qK ?_)
  all_goals (refine AtT.zU (d := 69) rfl ((fun h => hp (hlen.1 h))) ?_)
  all_goals (refine AtT.zB ?_)
  all_goals refine AtT.done ?_
  all_goals (refine At.nrm ?_)
  all_goals refine At.qf rfl rfl ?_
  refine At.nrm ?_
  refine At.zh (.q 0 .done) ?_
  refine AtT.ze ?_
  refine AtT.done ?_
  refine At.nrm ?_
  exact At.qi rfl (.tmp rfl) (by rw [if_neg (fun h => hp h.2)])
end Go.Proofs.YtpoignmclfdgpaaGreatDoor
set_option linter.unusedVariables false
namespace Go.Proofs.YtpoignmclfdgpaaGreatDoor
open Go.Lw Go.Gl Go.Bk Go.RowKit
theorem rcntOf_f (es : List En) (first : Nat) (hf : first ≤ es.length) (h30 : es.length ≤ 100) (hbk : BkOk es first) (V : View) (v : Value) (hs : Sl V ene 4 v es) : Fnc Tryz.prog 46 [v, iv first] V fun r V' => SlI V' r (cntI es first) := by
 obtain ⟨a, c, rfl, k1, k2, _⟩ := id hs
 clear k1 k2
 refine qh Tryz.func46 rfl Tryz.ntmps46 (Nat.le_of_ble_eq_true rfl) ?_
 intro w0 hw0
 refine At.nrm ?_
 refine At.zh (.q 0 .done) ?_
 refine AtT.ze ?_
 refine AtT.done ?_
 refine At.nrm ?_
 refine At.zh (.q 0 (.n false 1 (.q 2 .done))) ?_
 refine AtT.zf ?_
 refine AtT.makeSl rfl trivial ei rfl Tryz.underlying37 rw3 rfl rfl (by decide) rfl rfl (by omega) (by omega) (by decide) (za := (0 : Int)) ?_
 intro b10
 refine AtT.ze ?_
 refine AtT.done ?_
 refine At.nrm ?_
 refine At.zh (.q 0 (.q 1 (.q 2 .done))) ?_
 refine AtT.zf ?_
 first | refine AtT.je ?_ | refine AtT.jf ?_
 refine AtT.ze ?_
 refine AtT.done ?_
 refine At.nrm ?_
 rw [← gK_zero es first]
 refine At.lp (ι := Nat) (KS := fun k => [(0, .slice a es.length c), (1, iv first), (5, .slice (some ⟨b10, 0, none⟩) first first), (6, iv ((first : Int) - 1 - k))]) (OS := fun k => [.blk b10 (LC (flat ei (gK es first k)) 3)]) (VS := fun k V' => V' = V ∧ k ≤ first) (μ := fun k => first - k) 0 ?_ ?_ ?_ ?_
 ·exact ⟨rfl, rfl, rfl, ivs (by omega), trivial⟩
 ·exact Pt.zH
 ·exact ⟨rfl, Nat.zero_le _⟩
 ·rintro k V' ks' O' ⟨rfl, hkl⟩ hk hO hl2
  subst hk hO
  refine At.nrm ?_
  refine At.zh (.q 0 (.q 1 .done)) ?_
  refine AtT.zf ?_
  refine AtT.kgeq ?_
  refine AtT.done ?_
  refine At.nrm ?_
  refine At.zX rfl (fun hp => ?_) (fun hp => ?_)
  ·have hik : (first : Int) - 1 - k = ((first - 1 - k : Nat) : Int) := by omega
   obtain ⟨x, hx⟩ : ∃ x, es[first - 1 - k]? = some x := ⟨_, List.getElem?_eq_getElem (by omega)⟩
   have hxe := enA_at hx
   have hcell := gK_cell (es := es) (first := first) (k := k) (s := first - 1 - k) (by omega)
   have hnx : (first : Int) - 1 - (k + 1 : Nat) = ((first - 1 - k : Nat) : Int) - 1 := by omega
   cases hg : qW es first k (first - 1 - k) with
   | true =>
    rw [hg, if_pos rfl] at hcell
    refine At.nrm ?_
    refine At.zh (.q 0 (.q 1 (.q 2 (.q 3 (.q 4 (.q 5 (.q 6 (.q 7 (.q 8 (.q 9 (.q 10 (.q 11 (.q 12 .done))))))))))))) ?_
    refine AtT.zf ?_
    refine AtT.zf ?_
    rw [hik]
    refine AtT.jV rfl trivial Tryz.underlying37 tk3 rfl rfl (by omega) (by decide) ?_
    refine AtT.jE rfl trivial rfl tk3 zP.zH hcell (by decide) ?_
    refine AtT.qK ?_
    refine AtT.zU (d := 21) rfl ((by decide)) ?_
    refine AtT.zf ?_
    all_goals (first | refine AtT.kL 22 ?_ | refine AtT.zA (d := 22) rfl (fun hg22 => ?_) (fun hg22 => ?_) | refine AtT.zz (d := 22) rfl (fun hg22 => ?_) (fun hg22 => ?_))
    all_goals first|refine AtT.zi ?_|refine AtT.zg ?_|(refine AtT.zf ?_)
    all_goals first|refine AtT.zi ?_|refine AtT.zg ?_|(refine AtT.zf ?_)
    all_goals first|refine AtT.zi ?_|refine AtT.zg ?_|(refine AtT.qB Tryz.underlying24 qD ?_) ; (intro p25 e25 he25 hc25)
    all_goals first|refine AtT.zi ?_|refine AtT.zg ?_|(first | refine AtT.zk zy ?_ | with_reducible refine AtT.zl zy ?_ | refine AtT.zn zy ?_)
    all_goals first|refine AtT.zi ?_|refine AtT.zg ?_|(first | refine AtT.zm tk3 ?_ | refine AtT.zo tk3 ?_)
    all_goals first|refine AtT.zi ?_|refine AtT.zg ?_|(refine AtT.qK ?_)
    all_goals (refine AtT.zB ?_)
    all_goals refine AtT.done ?_
    all_goals (refine At.nrm ?_)
    all_goals refine At.qf rfl rfl ?_
    refine At.nrm ?_
    refine At.zh (.q 0 (.q 1 (.q 2 .done))) ?_
    refine AtT.zf ?_
    first | refine AtT.je ?_ | refine AtT.jf ?_
    refine AtT.ze ?_
    refine AtT.done ?_
    refine At.nrm ?_
    refine At.round (k + 1) ?_ ?_ ?_ ?_
    ·show first - (k + 1) < first - k; omega
    ·exact ⟨rfl, by omega⟩
    ·exact ⟨rfl, rfl, rfl, ivs (by rw [hnx]), trivial⟩
    rw [gK_same (by rw [hg]; simp)]
    ·exact Pt.zH
   | false =>
    rw [hg, if_neg (by simp)] at hcell
    by_cases h4 : x.k = 4
    ·have hb := hbk (first - 1 - k) (by omega) (by rw [hxe]; exact h4)
     rw [hxe] at hb
     obtain ⟨T, hT⟩ : ∃ T : Nat, x.t = (T : Int) := ⟨x.t.toNat, by omega⟩
     have hput := gK_put (es := es) (first := first) (k := k) (T := T) (by rw [hxe]; exact hT) (by rw [hxe]; exact h4) hg
     have hlt : T * 1 < (flat ei (gK es first k)).length := by rw [gK_flen]; omega
     refine At.nrm ?_
     refine At.zh (.q 0 (.q 1 (.q 2 (.q 3 (.q 4 (.q 5 (.q 6 (.q 7 (.q 8 (.q 9 (.q 10 (.q 11 (.q 12 .done))))))))))))) ?_
     refine AtT.zf ?_
     refine AtT.zf ?_
     rw [hik]
     refine AtT.jV rfl trivial Tryz.underlying37 tk3 rfl rfl (by omega) (by decide) ?_
     refine AtT.jE rfl trivial rfl tk3 zP.zH hcell (by decide) ?_
     refine AtT.qK ?_
     refine AtT.qm (d := 21) rfl ((by decide)) ?_
     refine AtT.zf ?_
     all_goals (first | refine AtT.kL 22 ?_ | refine AtT.zA (d := 22) rfl (fun hg22 => ?_) (fun hg22 => ?_) | refine AtT.zz (d := 22) rfl (fun hg22 => ?_) (fun hg22 => ?_))
     all_goals first|refine AtT.zi ?_|refine AtT.zg ?_|(refine AtT.zf ?_)
     all_goals first|refine AtT.zi ?_|refine AtT.zg ?_|(refine AtT.zf ?_)
     all_goals first|refine AtT.zi ?_|refine AtT.zg ?_|(refine AtT.qB Tryz.underlying24 qD ?_) ; (intro p25 e25 he25 hc25)
     all_goals (obtain rfl : x = e25 := by have : es[first - 1 - k]? = some e25 := (by simpa using he25); rw [hx] at this; simpa using this)
     all_goals first|refine AtT.zi ?_|refine AtT.zg ?_|(first | refine AtT.zk zy ?_ | with_reducible refine AtT.zl zy ?_ | refine AtT.zn zy ?_)
     all_goals first|refine AtT.zi ?_|refine AtT.zg ?_|(first | refine AtT.zm tk3 ?_ | refine AtT.zo tk3 ?_)
     all_goals first|refine AtT.zi ?_|refine AtT.zg ?_|(refine AtT.qK ?_)
     all_goals (refine AtT.qm (d := 28) rfl (h4) ?_)
     all_goals (refine AtT.zB ?_)
     all_goals refine AtT.done ?_
     all_goals (refine At.nrm ?_)
     all_goals refine At.qb rfl rfl ?_
     refine At.nrm ?_
     refine At.zh (.q 0 (.q 1 (.q 2 (.q 3 (.q 4 (.q 5 (.q 6 (.n true 7 .done)))))))) ?_
     refine AtT.zf ?_
     refine AtT.zf ?_
     refine AtT.zf ?_
     refine AtT.qB Tryz.underlying24 qD ?_
     intro p33 e33 he33 hc33
     obtain rfl : x = e33 := by have : es[first - 1 - k]? = some e33 := (by simpa using he33); rw [hx] at this; simpa using this
     first | refine AtT.zk zJ ?_ | with_reducible refine AtT.zl zJ ?_ | refine AtT.zn zJ ?_
     first | refine AtT.zm tk3 ?_ | refine AtT.zo tk3 ?_
     rw [hT]
     refine AtT.jV rfl trivial Tryz.underlying37 tk3 rfl rfl (by omega) (by decide) ?_
     refine AtT.jk rfl trivial rfl rfl tk3 rfl rfl (by repeat first|exact Upd.here|apply Upd.there) (qR hlt hput) ?_
     refine AtT.done ?_
     refine At.nrm ?_
     refine At.nrm ?_
     refine At.zh (.q 0 (.q 1 (.q 2 .done))) ?_
     refine AtT.zf ?_
     first | refine AtT.je ?_ | refine AtT.jf ?_
     refine AtT.ze ?_
     refine AtT.done ?_
     refine At.nrm ?_
     refine At.round (k + 1) ?_ ?_ ?_ ?_
     ·show first - (k + 1) < first - k; omega
     ·exact ⟨rfl, by omega⟩
     ·exact ⟨rfl, rfl, rfl, ivs (by rw [hnx]), trivial⟩
     ·exact Pt.zH
    ·refine At.nrm ?_
     refine At.zh (.q 0 (.q 1 (.q 2 (.q 3 (.q 4 (.q 5 (.q 6 (.q 7 (.q 8 (.q 9 (.q 10 (.q 11 (.q 12 .done))))))))))))) ?_
     refine AtT.zf ?_
     refine AtT.zf ?_
     rw [hik]
     refine AtT.jV rfl trivial Tryz.underlying37 tk3 rfl rfl (by omega) (by decide) ?_
     refine AtT.jE rfl trivial rfl tk3 zP.zH hcell (by decide) ?_
     refine AtT.qK ?_
     refine AtT.qm (d := 21) rfl ((by decide)) ?_
     refine AtT.zf ?_
     all_goals (first | refine AtT.kL 22 ?_ | refine AtT.zA (d := 22) rfl (fun hg22 => ?_) (fun hg22 => ?_) | refine AtT.zz (d := 22) rfl (fun hg22 => ?_) (fun hg22 => ?_))
     all_goals first|refine AtT.zi ?_|refine AtT.zg ?_|(refine AtT.zf ?_)
     all_goals first|refine AtT.zi ?_|refine AtT.zg ?_|(refine AtT.zf ?_)
     all_goals first|refine AtT.zi ?_|refine AtT.zg ?_|(refine AtT.qB Tryz.underlying24 qD ?_) ; (intro p25 e25 he25 hc25)
     all_goals (obtain rfl : x = e25 := by have : es[first - 1 - k]? = some e25 := (by simpa using he25); rw [hx] at this; simpa using this)
     all_goals first|refine AtT.zi ?_|refine AtT.zg ?_|(first | refine AtT.zk zy ?_ | with_reducible refine AtT.zl zy ?_ | refine AtT.zn zy ?_)
     all_goals first|refine AtT.zi ?_|refine AtT.zg ?_|(first | refine AtT.zm tk3 ?_ | refine AtT.zo tk3 ?_)
     all_goals first|refine AtT.zi ?_|refine AtT.zg ?_|(refine AtT.qK ?_)
     all_goals (refine AtT.zU (d := 28) rfl (h4) ?_)
     all_goals (refine AtT.zB ?_)
     all_goals refine AtT.done ?_
     all_goals (refine At.nrm ?_)
     all_goals refine At.qf rfl rfl ?_
     refine At.nrm ?_
     refine At.zh (.q 0 (.q 1 (.q 2 .done))) ?_
     refine AtT.zf ?_
     first | refine AtT.je ?_ | refine AtT.jf ?_
     refine AtT.ze ?_
     refine AtT.done ?_
     refine At.nrm ?_
     refine At.round (k + 1) ?_ ?_ ?_ ?_
     ·show first - (k + 1) < first - k; omega
     ·exact ⟨rfl, by omega⟩
     ·exact ⟨rfl, rfl, rfl, ivs (by rw [hnx]), trivial⟩
     rw [gK_same (by rw [hxe]; exact fun h => h4 h.1)]
     ·exact Pt.zH
  obtain rfl : k = first := by omega
  refine At.nrm ?_
  refine At.zh (.q 0 .done) ?_
  refine AtT.ze ?_
  refine AtT.done ?_
  refine At.nrm ?_
  refine At.zh (.q 0 .done) ?_
  refine AtT.ze ?_
  refine AtT.done ?_
  refine At.nrm ?_
  refine At.newRow 3 1 ?_
  refine At.lp (ι := Nat × Option Addr × Nat) (KS := fun g => [(1, iv k), (5, .slice (some ⟨b10, 0, none⟩) k k), (7, .slice g.2.1 ((cntJ es k g.1).map fun (i : Nat) => ((i : Nat) : Int)).length g.2.2), (8, iv g.1)])
   (OS := fun g => [.blk b10 (LC (flat ei (gK es k k)) 3), .row (.slice g.2.1 ((cntJ es k g.1).map fun (i : Nat) => ((i : Nat) : Int)).length g.2.2) 3 1 ((cntJ es k g.1).map fun (i : Nat) => ((i : Nat) : Int)).length (flat ei ((cntJ es k g.1).map fun (i : Nat) => ((i : Nat) : Int)))]) (VS := fun g V2 => Le V' V2 ∧ g.1 ≤ k) (μ := fun g => k - g.1) (0, none, 0) ?_ ?_ ?_ ?_
  ·exact ⟨rfl, rfl, rfl, rfl, trivial⟩
  ·exact Pt.zH
  ·exact ⟨Le.refl _, Nat.zero_le _⟩
  rintro ⟨j, ao, co⟩ V2 ks' O' ⟨hV2, hjl⟩ hk hO hl3
  dsimp only at hjl hk hO
  subst hk hO
  have hcl : ((cntJ es k j).map fun (i : Nat) => ((i : Nat) : Int)).length ≤ j := by rw [List.length_map]; exact cntJ_len es k j
  refine At.nrm ?_
  refine At.zh (.q 0 (.q 1 (.q 2 .done))) ?_
  refine AtT.zf ?_
  refine AtT.zf ?_
  refine AtT.qp ?_
  refine AtT.done ?_
  refine At.nrm ?_
  refine At.zX rfl (fun hp2 => ?_) (fun hp2 => ?_)
  ·have hcell := gK_cell (es := es) (first := k) (k := k) (s := j) (by omega)
   cases hg : qW es k k j with
   | true =>
    rw [hg, if_pos rfl] at hcell
    refine At.nrm ?_
    refine At.zh (.q 0 (.q 1 (.q 2 (.q 3 (.q 4 .done))))) ?_
    refine AtT.zf ?_
    refine AtT.zf ?_
    refine AtT.jV rfl trivial Tryz.underlying37 tk3 rfl rfl (by omega) (by decide) ?_
    refine AtT.jE rfl trivial rfl tk3 zP.zH hcell (by decide) ?_
    refine AtT.qK ?_
    refine AtT.zU (d := 46) rfl ((by decide)) ?_
    refine AtT.done ?_
    refine At.nrm ?_
    refine At.qf rfl rfl ?_
    refine At.nrm ?_
    refine At.zh (.q 0 (.q 1 (.q 2 .done))) ?_
    refine AtT.zf ?_
    first | refine AtT.qI ?_ | refine AtT.ql ?_
    refine AtT.ze ?_
    refine AtT.done ?_
    refine At.nrm ?_
    refine At.round (j + 1, ao, co) ?_ ?_ ?_ ?_
    ·show k - (j + 1) < k - j; omega
    ·exact ⟨hV2, by dsimp only; omega⟩
    ·dsimp only; rw [cntJ_out (show gone es k j = true from hg)]; exact ⟨rfl, rfl, rfl, ivs (by omega), trivial⟩
    dsimp only
    rw [cntJ_out (show gone es k j = true from hg)]
    ·exact Pt.zH
   | false =>
    rw [hg, if_neg (by simp)] at hcell
    have hn2 := cntI_in (show gone es k j = false from hg)
    refine At.nrm ?_
    refine At.zh (.q 0 (.q 1 (.q 2 (.q 3 (.q 4 .done))))) ?_
    refine AtT.zf ?_
    refine AtT.zf ?_
    refine AtT.jV rfl trivial Tryz.underlying37 tk3 rfl rfl (by omega) (by decide) ?_
    refine AtT.jE rfl trivial rfl tk3 zP.zH hcell (by decide) ?_
    refine AtT.qK ?_
    refine AtT.qm (d := 46) rfl ((by decide)) ?_
    refine AtT.done ?_
    refine At.nrm ?_
    refine At.qb rfl rfl ?_
    refine At.nrm ?_
    refine At.zh (.q 0 (.q 1 (.n false 2 (.n true 3 (.q 4 .done))))) ?_
    refine AtT.zf ?_
    refine AtT.zf ?_
    refine AtT.zQ (qz _) ?_
    intro q49 V49 hV49 hq49
    first | refine AtT.jm Tryz.underlying37 rw3 ?_
    intro a50 c50
    refine AtT.ze ?_
    refine AtT.done ?_
    refine At.nrm ?_
    refine At.nrm ?_
    refine At.zh (.q 0 (.q 1 (.q 2 .done))) ?_
    refine AtT.zf ?_
    first | refine AtT.qI ?_ | refine AtT.ql ?_
    refine AtT.ze ?_
    refine AtT.done ?_
    refine At.nrm ?_
    refine At.round (j + 1, a50, c50) ?_ ?_ ?_ ?_
    ·show k - (j + 1) < k - j; omega
    ·exact ⟨hV2.trans (by assumption), by dsimp only; omega⟩
    ·dsimp only; rw [hn2, List.length_append]; exact ⟨rfl, rfl, rfl, ivs (by omega), trivial⟩
    dsimp only
    rw [hn2, jH, List.length_append]
    ·exact Pt.zH
  obtain rfl : j = k := by omega
  refine At.nrm ?_
  refine At.zh (.q 0 (.q 1 .done)) ?_
  refine AtT.zf ?_
  refine AtT.ze ?_
  refine AtT.done ?_
  refine At.nrm ?_
  refine At.jQ Lw.kv rfl rfl zP.zH (fun V4 hV4 hs4 => ?_)
  exact At.qi rfl (.tmp rfl) hs4
end Go.Proofs.YtpoignmclfdgpaaGreatDoor
set_option linter.unusedVariables false
namespace Go.Proofs.YtpoignmclfdgpaaGreatDoor
open Go.Lw Go.Gl Go.Bk Go.RowKit
theorem rbook_f {cx : Cx} {O : List Own} (rs : List Rc) (hrs : qE (-1) rs) (e : En) (he : EnG e) (f : Nat → Int) (hf : ∀ s, s < 8 → 0 ≤ f s ∧ f s ≤ 24000) (b : Nat) (V : View) (v : Value) (hv : RsV V v rs) :
  FncM Tryz.prog cx 92 [v, .slice (some ⟨b, 0, none⟩) 8 8, env e] (.blk b (LC (stC f) 2) :: O) V fun r O' V' => Le V V' ∧ ((r = .bool true ∧ okS rs e f = true ∧ O' = .blk b (LC (stC (stB rs e f)) 2) :: O) ∨ (r = .bool false ∧ okS rs e f = false ∧ ∃ g, O' = .blk b (LC (stC g) 2) :: O)) := by
 have hk := he.k
 have hn0 := he.n
 have ht0 := he.t
 refine fncM_of Tryz.func92 rfl Tryz.ntmps92 (Nat.le_of_ble_eq_true rfl) ?_
 refine At.nrm ?_
 refine At.zh (.n false 0 (.q 1 .done)) ?_
 refine AtT.jd ?_
 intro b5
 refine AtT.ze ?_
 refine AtT.done ?_
 refine At.nrm ?_
 refine At.zh (.q 0 (.q 1 (.q 2 .done))) ?_
 first | refine AtT.zk zy ?_ | with_reducible refine AtT.zl zy ?_ | refine AtT.zn zy ?_
 first | refine AtT.zm tk3 ?_ | refine AtT.zo tk3 ?_
 refine AtT.qK ?_
 refine AtT.done ?_
 refine At.nrm ?_
 refine At.cutG (ι := Unit) (fun _ => [(0, v), (1, .slice (some ⟨b, 0, none⟩) 8 8), (5, .pointer (some ⟨b5, 0, none⟩))]) (fun _ => .blk b5 (LC (ene e) 36) :: .blk b (LC (stC (if e.k = 2 then stA rs e f else f)) 2) :: O) (fun _ V'' => V'' = V) ?_ ?_
 ·refine At.zX rfl (fun k2 => ?_) (fun k2 => ?_)
  ·have ht := ht0 (by omega)
   have hn := hn0 (by omega)
   obtain ⟨T, hT⟩ : ∃ T : Nat, e.t = (T : Int) := ⟨e.t.toNat, by omega⟩
   have hT8 : T < 8 := by omega
   have hfT := hf T hT8
   have hat : (stC f)[T * 1]? = some (iv (f T)) := by rw [Nat.mul_one]; exact stC_at f hT8
   have hset : (stC f).set (T * 1) (iv (f T - e.n)) = stC (stA rs e f) := by rw [Nat.mul_one, jL f _ hT8, stA_out k2, hT, Int.toNat_natCast]
   rw [if_pos k2]
   refine At.nrm ?_
   refine At.draw (.q 0 (.q 1 (.q 2 (.q 3 (.q 4 (.q 5 (.q 6 (.q 7 (.q 8 (.n true 9 .done)))))))))) ffm (by kernel_rfl) ?_
   refine AtT.zf ?_
   first | refine AtT.zk zJ ?_ | with_reducible refine AtT.zl zJ ?_ | refine AtT.zn zJ ?_
   first | refine AtT.zm tk3 ?_ | refine AtT.zo tk3 ?_
   rw [hT]
   refine AtT.jV rfl trivial Tryz.underlying28 tk2 rfl rfl hT8 (by decide) ?_
   refine AtT.jE rfl trivial rfl tk2 zP.zH hat (by decide) ?_
   first | refine AtT.zk zO ?_ | with_reducible refine AtT.zl zO ?_ | refine AtT.zn zO ?_
   first | refine AtT.zm tk2 ?_ | refine AtT.zo tk2 ?_
   refine AtT.subt rfl trivial rfl rfl (by decide) (Fit.of (by omega) (by omega)) ?_
   refine AtT.jV rfl trivial Tryz.underlying28 tk2 rfl rfl hT8 (by decide) ?_
   refine AtT.jk rfl trivial rfl rfl tk2 rfl rfl (by repeat first|exact Upd.here|apply Upd.there) (qR (by simp; omega) hset) ?_
   refine AtT.done ?_
   refine At.nrm ?_
   rw [← hT]
   exact At.kC () rfl ⟨rfl, rfl, rfl, trivial⟩ Pt.zZ
  ·rw [if_neg k2]
   refine At.nrm ?_
   exact At.kC () rfl ⟨rfl, rfl, rfl, trivial⟩ Pt.zZ
 rintro _ V1 ks' O' rfl hk1 hO hl1
 subst hk1 hO
 refine At.nrm ?_
 refine At.zh (.q 0 (.q 1 (.q 2 (.n false 3 (.q 4 .done))))) ?_
 refine AtT.zf ?_
 first | refine AtT.zk zJ ?_ | with_reducible refine AtT.zl zJ ?_ | refine AtT.zn zJ ?_
 first | refine AtT.zm tk3 ?_ | refine AtT.zo tk3 ?_
 refine AtT.qa rfl rfl ok48 (partsOf_f rs e.t _ _ hv) ?_
 rintro v25 V25 hV25 ⟨a25, c25, rfl, hs25⟩
 refine AtT.ze ?_
 refine AtT.done ?_
 refine At.nrm ?_
 refine At.zh (.q 0 .done) ?_
 refine AtT.ze ?_
 refine AtT.done ?_
 refine At.nrm ?_
 have hpl := kz hrs e.t
 have hpn : ∀ p ∈ partsOf rs e.t, 1 ≤ p.n ∧ p.n ≤ 9 := fun p hp => by have := qj hrs hp; omega
 have hz : (if e.k = 2 then stA rs e f else f) = if e.k = 3 then kH e.n ((partsOf rs e.t).take 0) f else stA rs e f := by
  by_cases k2 : e.k = 2
  ·rw [if_pos k2, if_neg (by omega)]
  ·rw [if_neg k2]
   by_cases k3 : e.k = 3
   ·rw [if_pos k3, List.take_zero, lessJ_nil]
   ·rw [if_neg k3, stA_none k2 k3]
 refine At.lp (ι := Nat) (KS := fun j => [(1, .slice (some ⟨b, 0, none⟩) 8 8), (5, .pointer (some ⟨b5, 0, none⟩)), (7, .slice a25 (partsOf rs e.t).length c25), (8, iv j)]) (OS := fun j => .blk b5 (LC (ene e) 36) :: .blk b (LC (stC (if e.k = 3 then kH e.n ((partsOf rs e.t).take j) f else stA rs e f)) 2) :: O)
  (VS := fun j V'' => V'' = V25 ∧ j ≤ (partsOf rs e.t).length) (μ := fun j => (partsOf rs e.t).length - j) 0 ?_ ?_ ?_ ?_
 ·exact ⟨rfl, rfl, rfl, rfl, trivial⟩
 ·rw [hz]; exact Pt.zZ
 ·exact ⟨rfl, Nat.zero_le _⟩
 rintro j V2 ks' O' ⟨rfl, hjl⟩ hk1 hO hl2
 subst hk1 hO
 by_cases hgo : e.k = 3 ∧ j < (partsOf rs e.t).length
 ·obtain ⟨k3, hj⟩ := hgo
  have hn := hn0 (by omega)
  obtain ⟨p, hp⟩ : ∃ p, (partsOf rs e.t)[j]? = some p := ⟨_, List.getElem?_eq_getElem hj⟩
  have hpi := qj hrs (List.mem_of_getElem? hp)
  obtain ⟨T, hT⟩ : ∃ T : Nat, p.t = (T : Int) := ⟨p.t.toNat, by omega⟩
  have hT8 : T < 8 := by omega
  have htk : (partsOf rs e.t).take (j + 1) = (partsOf rs e.t).take j ++ [p] := by
   rw [List.take_succ_eq_append_getElem hj]; congr 1; rw [List.getElem?_eq_getElem hj] at hp; simpa using hp
  have hm0 := Int.mul_nonneg (show 0 ≤ e.n by omega) (show 0 ≤ p.n by omega)
  have hm1 : e.n * p.n ≤ 1000 * 9 := Int.mul_le_mul (by omega) (by omega) (by omega) (by decide)
  have hbd := lessJ_bd (c := e.n) (by omega) hf (ps := (partsOf rs e.t).take j) (fun q hq => hpn q (List.mem_of_mem_take hq)) (by rw [List.length_take]; omega) hT8
  have hat : (stC (kH e.n ((partsOf rs e.t).take j) f))[T * 1]? = some (iv (kH e.n ((partsOf rs e.t).take j) f T)) := by rw [Nat.mul_one]; exact stC_at _ hT8
  have hset : (stC (kH e.n ((partsOf rs e.t).take j) f)).set (T * 1) (iv (kH e.n ((partsOf rs e.t).take j) f T - e.n * p.n)) = stC (kH e.n ((partsOf rs e.t).take (j + 1)) f) := by
   rw [Nat.mul_one, jL _ _ hT8, htk, lessJ_snoc, hT, Int.toNat_natCast]
  rw [if_pos k3]
  refine At.nrm ?_
  refine At.zh (.q 0 (.q 1 (.q 2 (.q 3 (.q 4 (.q 5 (.q 6 (.q 7 (.q 8 .done))))))))) ?_
  first | refine AtT.zk zy ?_ | with_reducible refine AtT.zl zy ?_ | refine AtT.zn zy ?_
  first | refine AtT.zm tk3 ?_ | refine AtT.zo tk3 ?_
  refine AtT.qK ?_
  refine AtT.qm (d := 28) rfl (k3) ?_
  refine AtT.zf ?_
  all_goals (first | refine AtT.kL 29 ?_ | refine AtT.zA (d := 29) rfl (fun hg29 => ?_) (fun hg29 => ?_) | refine AtT.zz (d := 29) rfl (fun hg29 => ?_) (fun hg29 => ?_))
  all_goals first|refine AtT.zi ?_|refine AtT.zg ?_|(refine AtT.zf ?_)
  all_goals first|refine AtT.zi ?_|refine AtT.zg ?_|(refine AtT.zf ?_)
  all_goals first|refine AtT.zi ?_|refine AtT.zg ?_|(first | refine AtT.zR Tryz.underlying66 ?_ | refine AtT.zN Tryz.underlying66 ?_)
  all_goals first|refine AtT.zi ?_|refine AtT.zg ?_|(refine AtT.qp ?_)
  all_goals (refine AtT.qm (d := 33) rfl ((by omega)) ?_)
  all_goals (refine AtT.zB ?_)
  all_goals refine AtT.done ?_
  all_goals (refine At.nrm ?_)
  refine At.qb rfl rfl ?_
  refine At.nrm ?_
  refine At.draw (.q 0 (.q 1 (.q 2 (.q 3 (.q 4 (.q 5 (.q 6 (.q 7 (.q 8 (.q 9 (.q 10 (.q 11 (.q 12 (.q 13 (.q 14 (.q 15 (.q 16 (.q 17 (.n true 18 .done))))))))))))))))))) ffm (by kernel_rfl) ?_
  refine AtT.zf ?_
  refine AtT.zf ?_
  refine AtT.zf ?_
  refine AtT.qB Tryz.underlying66 qX ?_
  intro p40 e40 he40 hc40
  obtain rfl : p = e40 := by have : (partsOf rs e.t)[j]? = some e40 := (by simpa using he40); rw [hp] at this; simpa using this
  first | refine AtT.zk zV ?_ | with_reducible refine AtT.zl zV ?_ | refine AtT.zn zV ?_
  first | refine AtT.zm tk3 ?_ | refine AtT.zo tk3 ?_
  rw [hT]
  refine AtT.jV rfl trivial Tryz.underlying28 tk2 rfl rfl hT8 (by decide) ?_
  refine AtT.jE rfl trivial rfl tk2 zP.zH hat (by decide) ?_
  first | refine AtT.zk zO ?_ | with_reducible refine AtT.zl zO ?_ | refine AtT.zn zO ?_
  first | refine AtT.zm tk2 ?_ | refine AtT.zo tk2 ?_
  refine AtT.zf ?_
  refine AtT.zf ?_
  refine AtT.qB Tryz.underlying66 qX ?_
  intro p49 e49 he49 hc49
  obtain rfl : p = e49 := by have : (partsOf rs e.t)[j]? = some e49 := (by simpa using he49); rw [hp] at this; simpa using this
  first | refine AtT.zk qc ?_ | with_reducible refine AtT.zl qc ?_ | refine AtT.zn qc ?_
  first | refine AtT.zm tk2 ?_ | refine AtT.zo tk2 ?_
  refine AtT.mul rfl trivial rfl rfl (by decide) (Fit.of (by omega) (by omega)) ?_
  refine AtT.subt rfl trivial rfl rfl (by decide) (Fit.of (by omega) (by omega)) ?_
  refine AtT.jV rfl trivial Tryz.underlying28 tk2 rfl rfl hT8 (by decide) ?_
  refine AtT.jk rfl trivial rfl rfl tk2 rfl rfl (by repeat first|exact Upd.here|apply Upd.there) (qR (by simp; omega) hset) ?_
  refine AtT.done ?_
  refine At.nrm ?_
  refine At.nrm ?_
  refine At.zh (.q 0 (.q 1 (.q 2 .done))) ?_
  refine AtT.zf ?_
  first | refine AtT.qI ?_ | refine AtT.ql ?_
  refine AtT.ze ?_
  refine AtT.done ?_
  refine At.nrm ?_
  refine At.round (j + 1) ?_ ?_ ?_ ?_
  ·show (partsOf rs e.t).length - (j + 1) < (partsOf rs e.t).length - j; omega
  ·exact ⟨rfl, by omega⟩
  ·exact ⟨rfl, rfl, rfl, ivs (by omega), trivial⟩
  ·rw [if_pos k3]; exact Pt.zZ
 have hend : (if e.k = 3 then kH e.n ((partsOf rs e.t).take j) f else stA rs e f) = stA rs e f := by
  by_cases k3 : e.k = 3
  ·rw [if_pos k3, List.take_of_length_le (by omega), stA_made k3]
  ·rw [if_neg k3]
 rw [hend]
 by_cases k3 : e.k = 3
 ·refine At.nrm ?_
  refine At.zh (.q 0 (.q 1 (.q 2 (.q 3 (.q 4 (.q 5 (.q 6 (.q 7 (.q 8 .done))))))))) ?_
  first | refine AtT.zk zy ?_ | with_reducible refine AtT.zl zy ?_ | refine AtT.zn zy ?_
  first | refine AtT.zm tk3 ?_ | refine AtT.zo tk3 ?_
  refine AtT.qK ?_
  refine AtT.qm (d := 28) rfl (k3) ?_
  refine AtT.zf ?_
  all_goals (first | refine AtT.kL 29 ?_ | refine AtT.zA (d := 29) rfl (fun hg29 => ?_) (fun hg29 => ?_) | refine AtT.zz (d := 29) rfl (fun hg29 => ?_) (fun hg29 => ?_))
  all_goals first|refine AtT.zi ?_|refine AtT.zg ?_|(refine AtT.zf ?_)
  all_goals first|refine AtT.zi ?_|refine AtT.zg ?_|(refine AtT.zf ?_)
  all_goals first|refine AtT.zi ?_|refine AtT.zg ?_|(first | refine AtT.zR Tryz.underlying66 ?_ | refine AtT.zN Tryz.underlying66 ?_)
  all_goals first|refine AtT.zi ?_|refine AtT.zg ?_|(refine AtT.qp ?_)
  all_goals (refine AtT.zU (d := 33) rfl ((by omega)) ?_)
  all_goals (refine AtT.zB ?_)
  all_goals refine AtT.done ?_
  all_goals (refine At.nrm ?_)
  refine At.qf rfl rfl ?_
  refine At.nrm ?_
  refine At.zh (.q 0 .done) ?_
  refine AtT.ze ?_
  refine AtT.done ?_
  refine At.nrm ?_
  have hsA : ∀ s, s < 8 → -27000 ≤ stA rs e f s ∧ stA rs e f s ≤ 24000 := fun s hs => by
   by_cases k2 : e.k = 2
   ·have := hn0 (by omega)
    rw [stA_out k2]; have := hf s hs; unfold upd; split
    ·have := hf e.t.toNat (by have := ht0 (by omega); omega); omega
    ·omega
   ·by_cases k3 : e.k = 3
    ·rw [stA_made k3]
     have hn := hn0 (by omega)
     exact lessJ_bd (by omega) hf hpn hpl hs
    ·rw [stA_none k2 k3]; have := hf s hs; omega
  refine At.lp (ι := Nat) (KS := fun i => [(1, .slice (some ⟨b, 0, none⟩) 8 8), (5, .pointer (some ⟨b5, 0, none⟩)), (9, iv i)]) (OS := fun _ => .blk b5 (LC (ene e) 36) :: .blk b (LC (stC (stA rs e f)) 2) :: O) (VS := fun i V'' => V'' = V2 ∧ i ≤ 8 ∧ ∀ s, s < i → 0 ≤ stA rs e f s) (μ := fun i => 8 - i) 0 ?_ ?_ ?_ ?_
  ·exact ⟨rfl, rfl, rfl, trivial⟩
  ·exact Pt.zZ
  ·exact ⟨rfl, Nat.zero_le _, fun s hs => absurd hs (Nat.not_lt_zero s)⟩
  rintro i V3 ks' O' ⟨rfl, hil, hpos⟩ hk1 hO hl3
  subst hk1 hO
  refine At.nrm ?_
  refine At.zh (.q 0 (.q 1 (.q 2 (.q 3 .done)))) ?_
  refine AtT.zf ?_
  refine AtT.zf ?_
  first | refine AtT.zR Tryz.underlying28 ?_ | refine AtT.zN Tryz.underlying28 ?_
  refine AtT.qp ?_
  refine AtT.done ?_
  refine At.nrm ?_
  refine At.zX rfl (fun hp => ?_) (fun hp => ?_)
  ·have hi8 : i < 8 := by omega
   have hat : (stC (stA rs e f))[i * 1]? = some (iv (stA rs e f i)) := by rw [Nat.mul_one]; exact stC_at _ hi8
   refine At.nrm ?_
   refine At.zh (.q 0 (.q 1 (.q 2 (.q 3 (.q 4 .done))))) ?_
   refine AtT.zf ?_
   refine AtT.zf ?_
   refine AtT.jV rfl trivial Tryz.underlying28 tk2 rfl rfl hi8 (by decide) ?_
   refine AtT.jE rfl trivial rfl tk2 zP.zH hat (by decide) ?_
   refine AtT.qp ?_
   refine AtT.done ?_
   refine At.nrm ?_
   refine At.zX rfl (fun hlt => ?_) (fun hlt => ?_)
   ·refine At.nrm ?_
    refine At.zh (.q 0 .done) ?_
    refine AtT.ze ?_
    refine AtT.done ?_
    refine At.nrm ?_
    refine At.pt (O' := .blk b (LC (stC (stA rs e f)) 2) :: O) Pt.zZ ?_
    refine At.ky rfl (.tmp rfl) ⟨hV25, .inr ⟨rfl, ?_, _, rfl⟩⟩
    cases ho : okS rs e f with
    | false => rfl
    | true => have := okS_iff.1 ho i hi8; omega
   ·refine At.nrm ?_
    refine At.zh (.q 0 (.q 1 (.q 2 .done))) ?_
    refine AtT.zf ?_
    first | refine AtT.qI ?_ | refine AtT.ql ?_
    refine AtT.ze ?_
    refine AtT.done ?_
    refine At.nrm ?_
    refine At.round (i + 1) ?_ ?_ ?_ ?_
    ·show 8 - (i + 1) < 8 - i; omega
    ·refine ⟨rfl, by omega, fun s hs => ?_⟩
     by_cases c : s = i
     ·subst c; omega
     ·exact hpos s (by omega)
    ·exact ⟨rfl, rfl, ivs (by omega), trivial⟩
    ·exact Pt.zZ
  have ho : okS rs e f = true := okS_iff.2 fun s hs => hpos s (by omega)
  refine At.nrm ?_
  by_cases ka : e.k = 1 ∨ e.k = 3
  rotate_left
  ·refine At.zh (.q 0 (.q 1 (.q 2 (.q 3 (.q 4 (.q 5 (.q 6 (.q 7 .done)))))))) ?_
   first | refine AtT.zk zy ?_ | with_reducible refine AtT.zl zy ?_ | refine AtT.zn zy ?_
   first | refine AtT.zm tk3 ?_ | refine AtT.zo tk3 ?_
   refine AtT.qK ?_
   refine AtT.zU (d := 68) rfl ((fun h => ka (.inl h))) ?_
   refine AtT.zf ?_
   all_goals (first | refine AtT.kL 69 ?_ | refine AtT.zA (d := 69) rfl (fun hg69 => ?_) (fun hg69 => ?_) | refine AtT.zz (d := 69) rfl (fun hg69 => ?_) (fun hg69 => ?_))
   all_goals first|refine AtT.zi ?_|refine AtT.zg ?_|(first | refine AtT.zk zy ?_ | with_reducible refine AtT.zl zy ?_ | refine AtT.zn zy ?_)
   all_goals first|refine AtT.zi ?_|refine AtT.zg ?_|(first | refine AtT.zm tk3 ?_ | refine AtT.zo tk3 ?_)
   all_goals first|refine AtT.zi ?_|refine AtT.zg ?_|(refine AtT.qK ?_)
   all_goals (refine AtT.zU (d := 72) rfl ((fun h => ka (.inr h))) ?_)
   all_goals (refine AtT.zB ?_)
   all_goals refine AtT.done ?_
   all_goals (refine At.nrm ?_)
   all_goals refine At.qf rfl rfl ?_
   refine At.nrm ?_
   refine At.zh (.q 0 .done) ?_
   refine AtT.ze ?_
   refine AtT.done ?_
   refine At.nrm ?_
   refine At.pt (O' := .blk b (LC (stC (stA rs e f)) 2) :: O) Pt.zZ ?_
   exact At.ky rfl (.tmp rfl) ⟨hV25, .inl ⟨rfl, ho, by rw [stB_no ka]⟩⟩
  have ht := ht0 (by omega)
  have hn := hn0 (by omega)
  obtain ⟨T, hT⟩ : ∃ T : Nat, e.t = (T : Int) := ⟨e.t.toNat, by omega⟩
  have hT8 : T < 8 := by omega
  have hsT := hsA T hT8
  have hat : (stC (stA rs e f))[T * 1]? = some (iv (stA rs e f T)) := by rw [Nat.mul_one]; exact stC_at _ hT8
  have hset : (stC (stA rs e f)).set (T * 1) (iv (stA rs e f T + e.n)) = stC (stB rs e f) := by rw [Nat.mul_one, jL _ _ hT8, stB_add ka, hT, Int.toNat_natCast]
  by_cases k1 : e.k = 1
  ·refine At.zh (.q 0 (.q 1 (.q 2 (.q 3 (.q 4 (.q 5 (.q 6 (.q 7 .done)))))))) ?_
   first | refine AtT.zk zy ?_ | with_reducible refine AtT.zl zy ?_ | refine AtT.zn zy ?_
   first | refine AtT.zm tk3 ?_ | refine AtT.zo tk3 ?_
   refine AtT.qK ?_
   refine AtT.qm (d := 68) rfl (k1) ?_
   refine AtT.zf ?_
   all_goals (first | refine AtT.kL 69 ?_ | refine AtT.zA (d := 69) rfl (fun hg69 => ?_) (fun hg69 => ?_) | refine AtT.zz (d := 69) rfl (fun hg69 => ?_) (fun hg69 => ?_))
   all_goals first|refine AtT.zi ?_|refine AtT.zg ?_|(first | refine AtT.zk zy ?_ | with_reducible refine AtT.zl zy ?_ | refine AtT.zn zy ?_)
   all_goals first|refine AtT.zi ?_|refine AtT.zg ?_|(first | refine AtT.zm tk3 ?_ | refine AtT.zo tk3 ?_)
   all_goals first|refine AtT.zi ?_|refine AtT.zg ?_|(refine AtT.qK ?_)
   all_goals (refine AtT.zB ?_)
   all_goals refine AtT.done ?_
   all_goals (refine At.nrm ?_)
   all_goals refine At.qb rfl rfl ?_
   refine At.nrm ?_
   refine At.draw (.q 0 (.q 1 (.q 2 (.q 3 (.q 4 (.q 5 (.q 6 (.q 7 (.q 8 (.n true 9 .done)))))))))) ffm (by kernel_rfl) ?_
   refine AtT.zf ?_
   first | refine AtT.zk zJ ?_ | with_reducible refine AtT.zl zJ ?_ | refine AtT.zn zJ ?_
   first | refine AtT.zm tk3 ?_ | refine AtT.zo tk3 ?_
   rw [hT]
   refine AtT.jV rfl trivial Tryz.underlying28 tk2 rfl rfl hT8 (by decide) ?_
   refine AtT.jE rfl trivial rfl tk2 zP.zH hat (by decide) ?_
   first | refine AtT.zk zO ?_ | with_reducible refine AtT.zl zO ?_ | refine AtT.zn zO ?_
   first | refine AtT.zm tk2 ?_ | refine AtT.zo tk2 ?_
   refine AtT.add rfl trivial rfl rfl (by decide) (Fit.of (by omega) (by omega)) ?_
   refine AtT.jV rfl trivial Tryz.underlying28 tk2 rfl rfl hT8 (by decide) ?_
   refine AtT.jk rfl trivial rfl rfl tk2 rfl rfl (by repeat first|exact Upd.here|apply Upd.there) (qR (by simp; omega) hset) ?_
   refine AtT.done ?_
   refine At.nrm ?_
   refine At.nrm ?_
   refine At.zh (.q 0 .done) ?_
   refine AtT.ze ?_
   refine AtT.done ?_
   refine At.nrm ?_
   refine At.pt (O' := .blk b (LC (stC (stB rs e f)) 2) :: O) Pt.zZ ?_
   exact At.ky rfl (.tmp rfl) ⟨hV25, .inl ⟨rfl, ho, rfl⟩⟩
  ·refine At.zh (.q 0 (.q 1 (.q 2 (.q 3 (.q 4 (.q 5 (.q 6 (.q 7 .done)))))))) ?_
   first | refine AtT.zk zy ?_ | with_reducible refine AtT.zl zy ?_ | refine AtT.zn zy ?_
   first | refine AtT.zm tk3 ?_ | refine AtT.zo tk3 ?_
   refine AtT.qK ?_
   refine AtT.zU (d := 68) rfl (k1) ?_
   refine AtT.zf ?_
   all_goals (first | refine AtT.kL 69 ?_ | refine AtT.zA (d := 69) rfl (fun hg69 => ?_) (fun hg69 => ?_) | refine AtT.zz (d := 69) rfl (fun hg69 => ?_) (fun hg69 => ?_))
   all_goals first|refine AtT.zi ?_|refine AtT.zg ?_|(first | refine AtT.zk zy ?_ | with_reducible refine AtT.zl zy ?_ | refine AtT.zn zy ?_)
   all_goals first|refine AtT.zi ?_|refine AtT.zg ?_|(first | refine AtT.zm tk3 ?_ | refine AtT.zo tk3 ?_)
   all_goals first|refine AtT.zi ?_|refine AtT.zg ?_|(refine AtT.qK ?_)
   all_goals (refine AtT.qm (d := 72) rfl ((by omega)) ?_)
   all_goals (refine AtT.zB ?_)
   all_goals refine AtT.done ?_
   all_goals (refine At.nrm ?_)
   all_goals refine At.qb rfl rfl ?_
   refine At.nrm ?_
   refine At.draw (.q 0 (.q 1 (.q 2 (.q 3 (.q 4 (.q 5 (.q 6 (.q 7 (.q 8 (.n true 9 .done)))))))))) ffm (by kernel_rfl) ?_
   refine AtT.zf ?_
   first | refine AtT.zk zJ ?_ | with_reducible refine AtT.zl zJ ?_ | refine AtT.zn zJ ?_
   first | refine AtT.zm tk3 ?_ | refine AtT.zo tk3 ?_
   rw [hT]
   refine AtT.jV rfl trivial Tryz.underlying28 tk2 rfl rfl hT8 (by decide) ?_
   refine AtT.jE rfl trivial rfl tk2 zP.zH hat (by decide) ?_
   first | refine AtT.zk zO ?_ | with_reducible refine AtT.zl zO ?_ | refine AtT.zn zO ?_
   first | refine AtT.zm tk2 ?_ | refine AtT.zo tk2 ?_
   refine AtT.add rfl trivial rfl rfl (by decide) (Fit.of (by omega) (by omega)) ?_
   refine AtT.jV rfl trivial Tryz.underlying28 tk2 rfl rfl hT8 (by decide) ?_
   refine AtT.jk rfl trivial rfl rfl tk2 rfl rfl (by repeat first|exact Upd.here|apply Upd.there) (qR (by simp; omega) hset) ?_
   refine AtT.done ?_
   refine At.nrm ?_
   refine At.nrm ?_
   refine At.zh (.q 0 .done) ?_
   refine AtT.ze ?_
   refine AtT.done ?_
   refine At.nrm ?_
   refine At.pt (O' := .blk b (LC (stC (stB rs e f)) 2) :: O) Pt.zZ ?_
   exact At.ky rfl (.tmp rfl) ⟨hV25, .inl ⟨rfl, ho, rfl⟩⟩
 ·refine At.nrm ?_
  refine At.zh (.q 0 (.q 1 (.q 2 (.q 3 (.q 4 (.q 5 (.q 6 (.q 7 (.q 8 .done))))))))) ?_
  first | refine AtT.zk zy ?_ | with_reducible refine AtT.zl zy ?_ | refine AtT.zn zy ?_
  first | refine AtT.zm tk3 ?_ | refine AtT.zo tk3 ?_
  refine AtT.qK ?_
  refine AtT.zU (d := 28) rfl (k3) ?_
  refine AtT.zf ?_
  all_goals (first | refine AtT.kL 29 ?_ | refine AtT.zA (d := 29) rfl (fun hg29 => ?_) (fun hg29 => ?_) | refine AtT.zz (d := 29) rfl (fun hg29 => ?_) (fun hg29 => ?_))
  all_goals first|refine AtT.zi ?_|refine AtT.zg ?_|(refine AtT.zf ?_)
  all_goals first|refine AtT.zi ?_|refine AtT.zg ?_|(refine AtT.zf ?_)
  all_goals first|refine AtT.zi ?_|refine AtT.zg ?_|(first | refine AtT.zR Tryz.underlying66 ?_ | refine AtT.zN Tryz.underlying66 ?_)
  all_goals first|refine AtT.zi ?_|refine AtT.zg ?_|(refine AtT.qp ?_)
  all_goals (refine AtT.zB ?_)
  all_goals refine AtT.done ?_
  all_goals (refine At.nrm ?_)
  all_goals refine At.qf rfl rfl ?_
  refine At.nrm ?_
  refine At.zh (.q 0 .done) ?_
  refine AtT.ze ?_
  refine AtT.done ?_
  refine At.nrm ?_
  have hsA : ∀ s, s < 8 → -27000 ≤ stA rs e f s ∧ stA rs e f s ≤ 24000 := fun s hs => by
   by_cases k2 : e.k = 2
   ·have := hn0 (by omega)
    rw [stA_out k2]; have := hf s hs; unfold upd; split
    ·have := hf e.t.toNat (by have := ht0 (by omega); omega); omega
    ·omega
   ·by_cases k3 : e.k = 3
    ·rw [stA_made k3]
     have hn := hn0 (by omega)
     exact lessJ_bd (by omega) hf hpn hpl hs
    ·rw [stA_none k2 k3]; have := hf s hs; omega
  refine At.lp (ι := Nat) (KS := fun i => [(1, .slice (some ⟨b, 0, none⟩) 8 8), (5, .pointer (some ⟨b5, 0, none⟩)), (9, iv i)]) (OS := fun _ => .blk b5 (LC (ene e) 36) :: .blk b (LC (stC (stA rs e f)) 2) :: O) (VS := fun i V'' => V'' = V2 ∧ i ≤ 8 ∧ ∀ s, s < i → 0 ≤ stA rs e f s) (μ := fun i => 8 - i) 0 ?_ ?_ ?_ ?_
  ·exact ⟨rfl, rfl, rfl, trivial⟩
  ·exact Pt.zZ
  ·exact ⟨rfl, Nat.zero_le _, fun s hs => absurd hs (Nat.not_lt_zero s)⟩
  rintro i V3 ks' O' ⟨rfl, hil, hpos⟩ hk1 hO hl3
  subst hk1 hO
  refine At.nrm ?_
  refine At.zh (.q 0 (.q 1 (.q 2 (.q 3 .done)))) ?_
  refine AtT.zf ?_
  refine AtT.zf ?_
  first | refine AtT.zR Tryz.underlying28 ?_ | refine AtT.zN Tryz.underlying28 ?_
  refine AtT.qp ?_
  refine AtT.done ?_
  refine At.nrm ?_
  refine At.zX rfl (fun hp => ?_) (fun hp => ?_)
  ·have hi8 : i < 8 := by omega
   have hat : (stC (stA rs e f))[i * 1]? = some (iv (stA rs e f i)) := by rw [Nat.mul_one]; exact stC_at _ hi8
   refine At.nrm ?_
   refine At.zh (.q 0 (.q 1 (.q 2 (.q 3 (.q 4 .done))))) ?_
   refine AtT.zf ?_
   refine AtT.zf ?_
   refine AtT.jV rfl trivial Tryz.underlying28 tk2 rfl rfl hi8 (by decide) ?_
   refine AtT.jE rfl trivial rfl tk2 zP.zH hat (by decide) ?_
   refine AtT.qp ?_
   refine AtT.done ?_
   refine At.nrm ?_
   refine At.zX rfl (fun hlt => ?_) (fun hlt => ?_)
   ·refine At.nrm ?_
    refine At.zh (.q 0 .done) ?_
    refine AtT.ze ?_
    refine AtT.done ?_
    refine At.nrm ?_
    refine At.pt (O' := .blk b (LC (stC (stA rs e f)) 2) :: O) Pt.zZ ?_
    refine At.ky rfl (.tmp rfl) ⟨hV25, .inr ⟨rfl, ?_, _, rfl⟩⟩
    cases ho : okS rs e f with
    | false => rfl
    | true => have := okS_iff.1 ho i hi8; omega
   ·refine At.nrm ?_
    refine At.zh (.q 0 (.q 1 (.q 2 .done))) ?_
    refine AtT.zf ?_
    first | refine AtT.qI ?_ | refine AtT.ql ?_
    refine AtT.ze ?_
    refine AtT.done ?_
    refine At.nrm ?_
    refine At.round (i + 1) ?_ ?_ ?_ ?_
    ·show 8 - (i + 1) < 8 - i; omega
    ·refine ⟨rfl, by omega, fun s hs => ?_⟩
     by_cases c : s = i
     ·subst c; omega
     ·exact hpos s (by omega)
    ·exact ⟨rfl, rfl, ivs (by omega), trivial⟩
    ·exact Pt.zZ
  have ho : okS rs e f = true := okS_iff.2 fun s hs => hpos s (by omega)
  refine At.nrm ?_
  by_cases ka : e.k = 1 ∨ e.k = 3
  rotate_left
  ·refine At.zh (.q 0 (.q 1 (.q 2 (.q 3 (.q 4 (.q 5 (.q 6 (.q 7 .done)))))))) ?_
   first | refine AtT.zk zy ?_ | with_reducible refine AtT.zl zy ?_ | refine AtT.zn zy ?_
   first | refine AtT.zm tk3 ?_ | refine AtT.zo tk3 ?_
   refine AtT.qK ?_
   refine AtT.zU (d := 68) rfl ((fun h => ka (.inl h))) ?_
   refine AtT.zf ?_
   all_goals (first | refine AtT.kL 69 ?_ | refine AtT.zA (d := 69) rfl (fun hg69 => ?_) (fun hg69 => ?_) | refine AtT.zz (d := 69) rfl (fun hg69 => ?_) (fun hg69 => ?_))
   all_goals first|refine AtT.zi ?_|refine AtT.zg ?_|(first | refine AtT.zk zy ?_ | with_reducible refine AtT.zl zy ?_ | refine AtT.zn zy ?_)
   all_goals first|refine AtT.zi ?_|refine AtT.zg ?_|(first | refine AtT.zm tk3 ?_ | refine AtT.zo tk3 ?_)
   all_goals first|refine AtT.zi ?_|refine AtT.zg ?_|(refine AtT.qK ?_)
   all_goals (refine AtT.zU (d := 72) rfl ((fun h => ka (.inr h))) ?_)
   all_goals (refine AtT.zB ?_)
   all_goals refine AtT.done ?_
   all_goals (refine At.nrm ?_)
   all_goals refine At.qf rfl rfl ?_
   refine At.nrm ?_
   refine At.zh (.q 0 .done) ?_
   refine AtT.ze ?_
   refine AtT.done ?_
   refine At.nrm ?_
   refine At.pt (O' := .blk b (LC (stC (stA rs e f)) 2) :: O) Pt.zZ ?_
   exact At.ky rfl (.tmp rfl) ⟨hV25, .inl ⟨rfl, ho, by rw [stB_no ka]⟩⟩
  have ht := ht0 (by omega)
  have hn := hn0 (by omega)
  obtain ⟨T, hT⟩ : ∃ T : Nat, e.t = (T : Int) := ⟨e.t.toNat, by omega⟩
  have hT8 : T < 8 := by omega
  have hsT := hsA T hT8
  have hat : (stC (stA rs e f))[T * 1]? = some (iv (stA rs e f T)) := by rw [Nat.mul_one]; exact stC_at _ hT8
  have hset : (stC (stA rs e f)).set (T * 1) (iv (stA rs e f T + e.n)) = stC (stB rs e f) := by rw [Nat.mul_one, jL _ _ hT8, stB_add ka, hT, Int.toNat_natCast]
  by_cases k1 : e.k = 1
  ·refine At.zh (.q 0 (.q 1 (.q 2 (.q 3 (.q 4 (.q 5 (.q 6 (.q 7 .done)))))))) ?_
   first | refine AtT.zk zy ?_ | with_reducible refine AtT.zl zy ?_ | refine AtT.zn zy ?_
   first | refine AtT.zm tk3 ?_ | refine AtT.zo tk3 ?_
   refine AtT.qK ?_
   refine AtT.qm (d := 68) rfl (k1) ?_
   refine AtT.zf ?_
   all_goals (first | refine AtT.kL 69 ?_ | refine AtT.zA (d := 69) rfl (fun hg69 => ?_) (fun hg69 => ?_) | refine AtT.zz (d := 69) rfl (fun hg69 => ?_) (fun hg69 => ?_))
   all_goals first|refine AtT.zi ?_|refine AtT.zg ?_|(first | refine AtT.zk zy ?_ | with_reducible refine AtT.zl zy ?_ | refine AtT.zn zy ?_)
   all_goals first|refine AtT.zi ?_|refine AtT.zg ?_|(first | refine AtT.zm tk3 ?_ | refine AtT.zo tk3 ?_)
   all_goals first|refine AtT.zi ?_|refine AtT.zg ?_|(refine AtT.qK ?_)
   all_goals (refine AtT.zB ?_)
   all_goals refine AtT.done ?_
   all_goals (refine At.nrm ?_)
   all_goals refine At.qb rfl rfl ?_
   refine At.nrm ?_
   refine At.draw (.q 0 (.q 1 (.q 2 (.q 3 (.q 4 (.q 5 (.q 6 (.q 7 (.q 8 (.n true 9 .done)))))))))) ffm (by kernel_rfl) ?_
   refine AtT.zf ?_
   first | refine AtT.zk zJ ?_ | with_reducible refine AtT.zl zJ ?_ | refine AtT.zn zJ ?_
   first | refine AtT.zm tk3 ?_ | refine AtT.zo tk3 ?_
   rw [hT]
   refine AtT.jV rfl trivial Tryz.underlying28 tk2 rfl rfl hT8 (by decide) ?_
   refine AtT.jE rfl trivial rfl tk2 zP.zH hat (by decide) ?_
   first | refine AtT.zk zO ?_ | with_reducible refine AtT.zl zO ?_ | refine AtT.zn zO ?_
   first | refine AtT.zm tk2 ?_ | refine AtT.zo tk2 ?_
   refine AtT.add rfl trivial rfl rfl (by decide) (Fit.of (by omega) (by omega)) ?_
   refine AtT.jV rfl trivial Tryz.underlying28 tk2 rfl rfl hT8 (by decide) ?_
   refine AtT.jk rfl trivial rfl rfl tk2 rfl rfl (by repeat first|exact Upd.here|apply Upd.there) (qR (by simp; omega) hset) ?_
   refine AtT.done ?_
   refine At.nrm ?_
   refine At.nrm ?_
   refine At.zh (.q 0 .done) ?_
   refine AtT.ze ?_
   refine AtT.done ?_
   refine At.nrm ?_
   refine At.pt (O' := .blk b (LC (stC (stB rs e f)) 2) :: O) Pt.zZ ?_
   exact At.ky rfl (.tmp rfl) ⟨hV25, .inl ⟨rfl, ho, rfl⟩⟩
  ·refine At.zh (.q 0 (.q 1 (.q 2 (.q 3 (.q 4 (.q 5 (.q 6 (.q 7 .done)))))))) ?_
   first | refine AtT.zk zy ?_ | with_reducible refine AtT.zl zy ?_ | refine AtT.zn zy ?_
   first | refine AtT.zm tk3 ?_ | refine AtT.zo tk3 ?_
   refine AtT.qK ?_
   refine AtT.zU (d := 68) rfl (k1) ?_
   refine AtT.zf ?_
   all_goals (first | refine AtT.kL 69 ?_ | refine AtT.zA (d := 69) rfl (fun hg69 => ?_) (fun hg69 => ?_) | refine AtT.zz (d := 69) rfl (fun hg69 => ?_) (fun hg69 => ?_))
   all_goals first|refine AtT.zi ?_|refine AtT.zg ?_|(first | refine AtT.zk zy ?_ | with_reducible refine AtT.zl zy ?_ | refine AtT.zn zy ?_)
   all_goals first|refine AtT.zi ?_|refine AtT.zg ?_|(first | refine AtT.zm tk3 ?_ | refine AtT.zo tk3 ?_)
   all_goals first|refine AtT.zi ?_|refine AtT.zg ?_|(refine AtT.qK ?_)
   all_goals (refine AtT.qm (d := 72) rfl ((by omega)) ?_)
   all_goals (refine AtT.zB ?_)
   all_goals refine AtT.done ?_
   all_goals (refine At.nrm ?_)
   all_goals refine At.qb rfl rfl ?_
   refine At.nrm ?_
   refine At.draw (.q 0 (.q 1 (.q 2 (.q 3 (.q 4 (.q 5 (.q 6 (.q 7 (.q 8 (.n true 9 .done)))))))))) ffm (by kernel_rfl) ?_
   refine AtT.zf ?_
   first | refine AtT.zk zJ ?_ | with_reducible refine AtT.zl zJ ?_ | refine AtT.zn zJ ?_
   first | refine AtT.zm tk3 ?_ | refine AtT.zo tk3 ?_
   rw [hT]
   refine AtT.jV rfl trivial Tryz.underlying28 tk2 rfl rfl hT8 (by decide) ?_
   refine AtT.jE rfl trivial rfl tk2 zP.zH hat (by decide) ?_
   first | refine AtT.zk zO ?_ | with_reducible refine AtT.zl zO ?_ | refine AtT.zn zO ?_
   first | refine AtT.zm tk2 ?_ | refine AtT.zo tk2 ?_
   refine AtT.add rfl trivial rfl rfl (by decide) (Fit.of (by omega) (by omega)) ?_
   refine AtT.jV rfl trivial Tryz.underlying28 tk2 rfl rfl hT8 (by decide) ?_
   refine AtT.jk rfl trivial rfl rfl tk2 rfl rfl (by repeat first|exact Upd.here|apply Upd.there) (qR (by simp; omega) hset) ?_
   refine AtT.done ?_
   refine At.nrm ?_
   refine At.nrm ?_
   refine At.zh (.q 0 .done) ?_
   refine AtT.ze ?_
   refine AtT.done ?_
   refine At.nrm ?_
   refine At.pt (O' := .blk b (LC (stC (stB rs e f)) 2) :: O) Pt.zZ ?_
   exact At.ky rfl (.tmp rfl) ⟨hV25, .inl ⟨rfl, ho, rfl⟩⟩
end Go.Proofs.YtpoignmclfdgpaaGreatDoor
set_option linter.unusedVariables false
namespace Go.Proofs.YtpoignmclfdgpaaGreatDoor
open Go.Lw Go.Gl Go.Bk Go.RowKit
theorem fncM_mono {P : Program} {cx : Cx} {f : FuncId} {args : List Value} {O : List Own} {V : View} {R R' : Value → List Own → View → Prop} (h : FncM P cx f args O V R) (hr : ∀ v O' V', R v O' V' → R' v O' V') : FncM P cx f args O V R' := fun w hm =>
 (h w hm).mono fun e w' ⟨v, O', V', h1, h2, h3⟩ => ⟨v, O', V', h1, h2, hr _ _ _ h3⟩
theorem rbook_ok {cx : Cx} {O : List Own} (rs : List Rc) (hrs : qE (-1) rs) (e : En) (he : EnG e) (f : Nat → Int) (hf : ∀ s, s < 8 → 0 ≤ f s ∧ f s ≤ 24000) (b : Nat) (V : View) (v : Value) (hv : RsV V v rs) (ho : okS rs e f = true) :
  FncM Tryz.prog cx 92 [v, .slice (some ⟨b, 0, none⟩) 8 8, env e] (.blk b (LC (stC f) 2) :: O) V fun r O' V' => Le V V' ∧ r = .bool true ∧ O' = .blk b (LC (stC (stB rs e f)) 2) :: O :=
 fncM_mono (rbook_f rs hrs e he f hf b V v hv) fun r O' V' ⟨h1, h2⟩ => by
  rcases h2 with ⟨a, _, c⟩ | ⟨_, b, _⟩
  ·exact ⟨h1, a, c⟩
  ·rw [ho] at b; cases b
theorem rbook_no {cx : Cx} {O : List Own} (rs : List Rc) (hrs : qE (-1) rs) (e : En) (he : EnG e) (f : Nat → Int) (hf : ∀ s, s < 8 → 0 ≤ f s ∧ f s ≤ 24000) (b : Nat) (V : View) (v : Value) (hv : RsV V v rs) (ho : okS rs e f = false) :
  FncM Tryz.prog cx 92 [v, .slice (some ⟨b, 0, none⟩) 8 8, env e] (.blk b (LC (stC f) 2) :: O) V fun r O' V' => Le V V' ∧ r = .bool false :=
 fncM_mono (rbook_f rs hrs e he f hf b V v hv) fun r O' V' ⟨h1, h2⟩ => by
  rcases h2 with ⟨_, b, _⟩ | ⟨a, _, _⟩
  ·rw [ho] at b; cases b
  ·exact ⟨h1, a⟩
def RunR (b : Bo) (first : Nat) (day : Int) (r : Value) (V' : View) : Prop :=
 (∃ st v1, runS b.rs b.es first day = some st ∧ r = .tuple #[v1, .bool true] ∧ SlI V' v1 (stL st)) ∨ (runS b.rs b.es first day = none ∧ r = .tuple #[.slice none 0 0, .bool false])
theorem RunR.ok {b : Bo} {first : Nat} {day : Int} {r : Value} {V' : View} (h : RunR b first day r V') {st : Nat → Int} (hs : runS b.rs b.es first day = some st) : ∃ v1, r = .tuple #[v1, .bool true] ∧ SlI V' v1 (stL st) := by
 rcases h with ⟨st', v1, h1, h2, h3⟩ | ⟨h1, _⟩
 ·rw [hs] at h1; cases h1; exact ⟨v1, h2, h3⟩
 ·rw [hs] at h1; cases h1
theorem RunR.no {b : Bo} {first : Nat} {day : Int} {r : Value} {V' : View} (h : RunR b first day r V') (hs : runS b.rs b.es first day = none) : r = .tuple #[.slice none 0 0, .bool false] := by
 rcases h with ⟨st', v1, h1, h2, h3⟩ | ⟨_, h1⟩
 ·rw [hs] at h1; cases h1
 ·exact h1
theorem sl_stL {V : View} {b : Nat} {f : Nat → Int} {E : TypeId} (h : V b = some (LC (stC f) E)) : SlI V (.slice (some ⟨b, 0, none⟩) 8 8) (stL f) := Sl.lit (l := stL f) (jC h) rfl (by simp)
theorem rrun_f (b : Bo) (hb : BoG b) (first : Nat) (hf : first ≤ b.es.length) (hbk : BkOk b.es first) (day : Int) (V : View) (v : Value) (hv : BoV V v b) : Fnc Tryz.prog 67 [v, iv first, iv day] V fun r V' => RunR b first day r V' := by
 have h24 := hb.len
 obtain ⟨v1, a, c, rfl, hr, hes⟩ := hv
 refine qh Tryz.func67 rfl Tryz.ntmps67 (Nat.le_of_ble_eq_true rfl) ?_
 intro w0 hw0
 refine At.nrm ?_
 refine At.zh (.n false 0 (.q 1 (.q 2 .done))) ?_
 refine AtT.jd ?_
 intro b3
 refine AtT.ze ?_
 refine AtT.ze ?_
 refine AtT.done ?_
 refine At.nrm ?_
 refine At.nrm ?_
 refine At.zh (.q 0 (.q 1 (.q 2 (.n false 3 (.q 4 .done))))) ?_
 first | refine AtT.zk zu ?_ | with_reducible refine AtT.zl zu ?_ | refine AtT.zn zu ?_
 first | refine AtT.zm qo ?_ | refine AtT.zo qo ?_
 refine AtT.zf ?_
 refine AtT.qa rfl rfl ok46 (rcntOf_f b.es first hf (by omega) hbk _ _ hes) ?_
 rintro v15 V15 hV15 hs15; obtain ⟨a15, c15, rfl, _⟩ := id hs15
 refine AtT.ze ?_
 refine AtT.done ?_
 refine At.nrm ?_
 refine At.zh (.n false 0 (.q 1 .done)) ?_
 refine AtT.makeSl rfl trivial ei rfl Tryz.underlying28 rw2 rfl rfl (by decide) rfl rfl (by omega) (by omega) (by decide) (m := 8) (za := (0 : Int)) ?_
 intro b16
 refine AtT.ze ?_
 refine AtT.done ?_
 refine At.nrm ?_
 refine At.zh (.q 0 .done) ?_
 refine AtT.ze ?_
 refine AtT.done ?_
 refine At.nrm ?_
 have hcl : (cntI b.es first).length ≤ first := by rw [List.length_map]; exact cntJ_len b.es first first
 refine At.lp (ι := Nat × (Nat → Int)) (KS := fun g => [(2, iv day), (3, .pointer (some ⟨b3, 0, none⟩)), (8, .slice a15 (cntI b.es first).length c15), (9, .slice (some ⟨b16, 0, none⟩) 8 8), (10, iv g.1)]) (OS := fun g => [.blk b3 (LC [v1, .slice a b.es.length c] 26), .blk b16 (LC (stC g.2) 2)])
  (VS := fun g V' => Le V15 V' ∧ g.1 ≤ (cntI b.es first).length ∧ runS b.rs b.es first day = runL b.rs day (((cntS b.es first).drop g.1).map (enA b.es)) g.2 ∧ ∀ s, s < 8 → 0 ≤ g.2 s ∧ g.2 s ≤ 1000 * (g.1 : Int)) (μ := fun g => (cntI b.es first).length - g.1) (0, fun _ => 0) ?_ ?_ ?_ ?_
 ·exact ⟨rfl, rfl, rfl, rfl, rfl, trivial⟩
 ·exact Pt.zH
 ·exact ⟨Le.refl _, Nat.zero_le _, rfl, fun s _ => ⟨by simp, by simp⟩⟩
 rintro ⟨i, f⟩ V' ks' O' ⟨hVV, hil, hrun, hfb⟩ hk hO hl2
 dsimp only at hil hrun hfb hk hO
 subst hk hO
 have hs15' := hs15.le hVV
 have hes' := hes.le (hV15.trans hVV)
 have hr' := hr.le (hV15.trans hVV)
 refine At.nrm ?_
 refine At.zh (.q 0 (.q 1 (.q 2 (.q 3 .done)))) ?_
 refine AtT.zf ?_
 refine AtT.zf ?_
 first | refine AtT.zR Tryz.underlying37 ?_ | refine AtT.zN Tryz.underlying37 ?_
 refine AtT.qp ?_
 refine AtT.done ?_
 refine At.nrm ?_
 refine At.zX rfl (fun hp => ?_) (fun hp => ?_)
 rotate_left
 ·obtain rfl : i = (cntI b.es first).length := by omega
  rw [List.length_map, List.drop_length] at hrun
  refine At.nrm ?_
  refine At.zh (.q 0 (.q 1 (.q 2 .done))) ?_
  refine AtT.zf ?_
  refine AtT.ze ?_
  refine AtT.ze ?_
  refine AtT.done ?_
  refine At.nrm ?_
  refine At.giveB (b := b16) zP.zH (fun V4 hV4 hb4 => ?_)
  exact At.qN rfl (.tmp rfl) (.tmp rfl) (.inl ⟨f, _, hrun, rfl, sl_stL hb4⟩)
 have hcI : (cntI b.es first).length = (cntS b.es first).length := List.length_map ..
 obtain ⟨q, hq⟩ : ∃ q, (cntS b.es first)[i]? = some q := ⟨_, List.getElem?_eq_getElem (by omega)⟩
 have hqI : (cntI b.es first)[i]? = some (q : Int) := by rw [List.getElem?_map, hq]; rfl
 have hq24 := cntS_lt (List.mem_of_getElem? hq)
 obtain ⟨e, he⟩ : ∃ e, b.es[q]? = some e := ⟨_, List.getElem?_eq_getElem (by omega)⟩
 have hee := enA_at he
 have hg := hb.es e (List.mem_of_getElem? he)
 rw [drop_at hq, List.map_cons, hee, runL_step] at hrun
 have hf24 : ∀ s, s < 8 → 0 ≤ f s ∧ f s ≤ 24000 := fun s hs => by have := hfb s hs; omega
 refine At.nrm ?_
 refine At.draw (.q 0 (.q 1 (.q 2 (.q 3 (.q 4 (.q 5 (.q 6 (.q 7 (.n false 8 (.n true 9 .done)))))))))) ffm (by kernel_rfl) ?_
 first | refine AtT.zk zu ?_ | with_reducible refine AtT.zl zu ?_ | refine AtT.zn zu ?_
 first | refine AtT.zm qo ?_ | refine AtT.zo qo ?_
 refine AtT.zf ?_
 refine AtT.zf ?_
 refine AtT.qB Tryz.underlying37 tk3 ?_
 intro p27 e27 he27 hc27
 obtain rfl : (q : Int) = e27 := by have : (cntI b.es first)[i]? = some e27 := (by simpa using he27); rw [hqI] at this; simpa using this
 first | refine AtT.zm tk3 ?_ | refine AtT.zo tk3 ?_
 refine AtT.qB Tryz.underlying24 qD ?_
 intro p29 e29 he29 hc29
 obtain rfl : e = e29 := by have : b.es[q]? = some e29 := (by simpa using he29); rw [he] at this; simpa using this
 first | refine AtT.zD qD ?_ | refine AtT.zI qD ?_ | refine AtT.zC qD ?_
 refine AtT.zT z36 ?_
 intro b11
 refine AtT.zF qD ?_
 refine AtT.done ?_
 refine At.nrm ?_
 refine At.nrm ?_
 by_cases hd : e.d ≤ day
 rotate_left
 ·rw [if_pos (by omega)] at hrun
  refine At.zh (.q 0 (.q 1 (.q 2 (.q 3 (.q 4 (.q 5 (.q 6 (.q 7 (.q 8 (.n false 9 (.q 10 (.q 11 .done)))))))))))) ?_
  first | refine AtT.zk qd ?_ | with_reducible refine AtT.zl qd ?_ | refine AtT.zn qd ?_
  first | refine AtT.zm tk3 ?_ | refine AtT.zo tk3 ?_
  refine AtT.zf ?_
  refine AtT.kleq ?_
  refine AtT.zU (d := 34) rfl (hd) ?_
  refine AtT.zf ?_
  all_goals (first | refine AtT.kL 35 ?_ | refine AtT.zA (d := 35) rfl (fun hg35 => ?_) (fun hg35 => ?_) | refine AtT.zz (d := 35) rfl (fun hg35 => ?_) (fun hg35 => ?_))
  all_goals first|refine AtT.zi ?_|refine AtT.zg ?_|(first | refine AtT.zk zw ?_ | with_reducible refine AtT.zl zw ?_ | refine AtT.zn zw ?_)
  all_goals first|refine AtT.zi ?_|refine AtT.zg ?_|(first | refine AtT.zm qy ?_ | refine AtT.zo qy ?_)
  all_goals first|refine AtT.zi ?_|refine AtT.zg ?_|(refine AtT.zf ?_)
  all_goals first|refine AtT.zi ?_|refine AtT.zg ?_|(first | refine AtT.zD qD ?_ | refine AtT.zI qD ?_ | refine AtT.zC qD ?_)
  all_goals first|refine AtT.qg ?_|refine AtT.zW ?_|((fail))
  all_goals first|refine AtT.zi ?_|refine AtT.zg ?_|(refine AtT.qF ?_)
  all_goals (refine AtT.zB ?_)
  all_goals refine AtT.done ?_
  all_goals (refine At.nrm ?_)
  all_goals refine At.qf rfl rfl ?_
  refine At.nrm ?_
  refine At.zh (.q 0 (.q 1 (.q 2 .done))) ?_
  refine AtT.zf ?_
  first | refine AtT.qI ?_ | refine AtT.ql ?_
  refine AtT.ze ?_
  refine AtT.done ?_
  refine At.nrm ?_
  refine At.round (i + 1, f) ?_ ?_ ?_ ?_
  ·show (cntI b.es first).length - (i + 1) < (cntI b.es first).length - i; omega
  ·exact ⟨hVV, by dsimp only; omega, hrun, fun s hs => by have := hfb s hs; dsimp only; push_cast; omega⟩
  ·exact ⟨rfl, rfl, rfl, rfl, ivs (by dsimp only; push_cast; omega), trivial⟩
  ·exact Pt.zH
 rw [if_neg (by omega)] at hrun
 cases ho : okS b.rs e f with
 | false =>
  rw [if_neg (by rw [ho]; simp)] at hrun
  refine At.zh (.q 0 (.q 1 (.q 2 (.q 3 (.q 4 (.q 5 (.q 6 (.q 7 (.q 8 (.n true 9 (.q 10 (.q 11 .done)))))))))))) ?_
  first | refine AtT.zk qd ?_ | with_reducible refine AtT.zl qd ?_ | refine AtT.zn qd ?_
  first | refine AtT.zm tk3 ?_ | refine AtT.zo tk3 ?_
  refine AtT.zf ?_
  refine AtT.kleq ?_
  refine AtT.qm (d := 34) rfl (hd) ?_
  refine AtT.zf ?_
  all_goals (first | refine AtT.kL 35 ?_ | refine AtT.zA (d := 35) rfl (fun hg35 => ?_) (fun hg35 => ?_) | refine AtT.zz (d := 35) rfl (fun hg35 => ?_) (fun hg35 => ?_))
  all_goals first|refine AtT.zi ?_|refine AtT.zg ?_|(first | refine AtT.zk zw ?_ | with_reducible refine AtT.zl zw ?_ | refine AtT.zn zw ?_)
  all_goals first|refine AtT.zi ?_|refine AtT.zg ?_|(first | refine AtT.zm qy ?_ | refine AtT.zo qy ?_)
  all_goals first|refine AtT.zi ?_|refine AtT.zg ?_|(refine AtT.zf ?_)
  all_goals first|refine AtT.zi ?_|refine AtT.zg ?_|(first | refine AtT.zD qD ?_ | refine AtT.zI qD ?_ | refine AtT.zC qD ?_)
  all_goals first|refine AtT.qg ?_|refine AtT.zW ?_|((refine AtT.jq rfl ⟨_, _, rfl, rfl, rfl⟩ rfl ok92 (by decide) (zP.perm zP.zH) (rbook_no b.rs hb.rs e hg f hf24 b16 _ _ hr' ho) ?_) ; (rintro _ _ V40 ⟨hV40, rfl⟩))
  all_goals first|refine AtT.zi ?_|refine AtT.zg ?_|(refine AtT.qF ?_)
  all_goals (refine AtT.zB ?_)
  all_goals refine AtT.done ?_
  all_goals (refine At.nrm ?_)
  all_goals refine At.qb rfl rfl ?_
  refine At.nrm ?_
  refine At.zh (.q 0 (.q 1 .done)) ?_
  refine AtT.ze ?_
  refine AtT.ze ?_
  refine AtT.done ?_
  refine At.nrm ?_
  exact At.qN rfl (.tmp rfl) (.tmp rfl) (.inr ⟨hrun, rfl⟩)
 | true =>
  rw [if_pos ho] at hrun
  have hbd := stB_bd hb.rs hg.n hfb ho
  refine At.zh (.q 0 (.q 1 (.q 2 (.q 3 (.q 4 (.q 5 (.q 6 (.q 7 (.q 8 (.n true 9 (.q 10 (.q 11 .done)))))))))))) ?_
  first | refine AtT.zk qd ?_ | with_reducible refine AtT.zl qd ?_ | refine AtT.zn qd ?_
  first | refine AtT.zm tk3 ?_ | refine AtT.zo tk3 ?_
  refine AtT.zf ?_
  refine AtT.kleq ?_
  refine AtT.qm (d := 34) rfl (hd) ?_
  refine AtT.zf ?_
  all_goals (first | refine AtT.kL 35 ?_ | refine AtT.zA (d := 35) rfl (fun hg35 => ?_) (fun hg35 => ?_) | refine AtT.zz (d := 35) rfl (fun hg35 => ?_) (fun hg35 => ?_))
  all_goals first|refine AtT.zi ?_|refine AtT.zg ?_|(first | refine AtT.zk zw ?_ | with_reducible refine AtT.zl zw ?_ | refine AtT.zn zw ?_)
  all_goals first|refine AtT.zi ?_|refine AtT.zg ?_|(first | refine AtT.zm qy ?_ | refine AtT.zo qy ?_)
  all_goals first|refine AtT.zi ?_|refine AtT.zg ?_|(refine AtT.zf ?_)
  all_goals first|refine AtT.zi ?_|refine AtT.zg ?_|(first | refine AtT.zD qD ?_ | refine AtT.zI qD ?_ | refine AtT.zC qD ?_)
  all_goals first|refine AtT.qg ?_|refine AtT.zW ?_|((refine AtT.jq rfl ⟨_, _, rfl, rfl, rfl⟩ rfl ok92 (by decide) (zP.perm zP.zH) (rbook_ok b.rs hb.rs e hg f hf24 b16 _ _ hr' ho) ?_) ; (rintro _ _ V40 ⟨hV40, rfl, rfl⟩))
  all_goals first|refine AtT.zi ?_|refine AtT.zg ?_|(refine AtT.qF ?_)
  all_goals (refine AtT.zB ?_)
  all_goals refine AtT.done ?_
  all_goals (refine At.nrm ?_)
  all_goals refine At.qf rfl rfl ?_
  refine At.nrm ?_
  refine At.zh (.q 0 (.q 1 (.q 2 .done))) ?_
  refine AtT.zf ?_
  first | refine AtT.qI ?_ | refine AtT.ql ?_
  refine AtT.ze ?_
  refine AtT.done ?_
  refine At.nrm ?_
  refine At.round (i + 1, stB b.rs e f) ?_ ?_ ?_ ?_
  ·show (cntI b.es first).length - (i + 1) < (cntI b.es first).length - i; omega
  ·exact ⟨hVV.trans hV40, by dsimp only; omega, hrun, fun s hs => by have := hbd s hs; dsimp only; push_cast; omega⟩
  ·exact ⟨rfl, rfl, rfl, rfl, ivs (by dsimp only; push_cast; omega), trivial⟩
  ·exact Pt.zH
theorem rstockOf_f (b : Bo) (hb : BoG b) (first : Nat) (hf : first ≤ b.es.length) (hbk : BkOk b.es first) (day : Int) (st : Nat → Int) (hst : runS b.rs b.es first day = some st) (V : View) (v : Value) (hv : BoV V v b) : Fnc Tryz.prog 69 [v, iv first, iv day] V fun r V' => SlI V' r (stL st) := by
 obtain ⟨v1, a, c, rfl, hr, hes⟩ := id hv
 refine qh Tryz.func69 rfl Tryz.ntmps69 (Nat.le_of_ble_eq_true rfl) ?_
 intro w0 hw0
 refine At.nrm ?_
 refine At.zh (.n false 0 (.q 1 .done)) ?_
 refine AtT.jd ?_
 intro b3
 refine AtT.ze ?_
 refine AtT.done ?_
 refine At.nrm ?_
 refine At.zh (.q 0 (.q 1 (.q 2 (.n false 3 (.q 4 (.q 5 (.q 6 (.q 7 (.q 8 .done))))))))) ?_
 first | refine AtT.zD zK ?_ | refine AtT.zI zK ?_ | refine AtT.zC zK ?_
 refine AtT.zf ?_
 refine AtT.zf ?_
 refine AtT.qa rfl rfl ok67 (rrun_f b hb first hf hbk day _ _ hv) ?_
 rintro v13 V13 hV13 hR; obtain ⟨u, rfl, hu⟩ := hR.ok hst
 refine AtT.zf ?_
 refine AtT.zt ?_
 refine AtT.zt ?_
 refine AtT.ze ?_
 refine AtT.ze ?_
 refine AtT.done ?_
 refine At.nrm ?_
 refine At.zh (.q 0 (.q 1 .done)) ?_
 refine AtT.zf ?_
 refine AtT.ze ?_
 refine AtT.done ?_
 refine At.nrm ?_
 exact At.qi rfl (.tmp rfl) hu
end Go.Proofs.YtpoignmclfdgpaaGreatDoor
set_option linter.unusedVariables false
namespace Go.Proofs.YtpoignmclfdgpaaGreatDoor
open Go.Lw Go.Gl Go.Bk Go.RowKit
theorem qU (b : Bo) (V : View) (v : Value) (hv : BoV V v b) : Fnc Tryz.prog 28 [v] V fun r _ => r = iv (bkE b) := by
 obtain ⟨v1, a, c, rfl, hr, hes⟩ := id hv
 have hlen := hes.jl
 refine qh Tryz.func28 rfl Tryz.ntmps28 (Nat.le_of_ble_eq_true rfl) ?_
 intro w0 hw0
 refine At.nrm ?_
 refine At.zh (.n false 0 (.q 1 .done)) ?_
 refine AtT.jd ?_
 intro b1
 refine AtT.ze ?_
 refine AtT.done ?_
 refine At.nrm ?_
 refine At.zh (.q 0 (.q 1 (.n false 2 (.q 3 .done)))) ?_
 first | refine AtT.zk zw ?_ | with_reducible refine AtT.zl zw ?_ | refine AtT.zn zw ?_
 first | refine AtT.zm qy ?_ | refine AtT.zo qy ?_
 refine AtT.zG rfl rfl ok21 (jW b.rs _ _ hr) ?_
 rintro _ rfl
 refine AtT.qH ?_
 refine AtT.done ?_
 refine At.nrm ?_
 refine At.zX rfl (fun h0 => ?_) (fun h0 => ?_)
 ·refine At.nrm ?_
  refine At.zh (.q 0 (.q 1 (.n false 2 (.q 3 .done)))) ?_
  first | refine AtT.zk zw ?_ | with_reducible refine AtT.zl zw ?_ | refine AtT.zn zw ?_
  first | refine AtT.zm qy ?_ | refine AtT.zo qy ?_
  refine AtT.zG rfl rfl ok21 (jW b.rs _ _ hr) ?_
  rintro _ rfl
  refine AtT.ze ?_
  refine AtT.done ?_
  refine At.nrm ?_
  exact At.qi rfl (.tmp rfl) (by unfold bkE; rw [if_pos h0])
 refine At.nrm ?_
 refine At.zh (.q 0 (.q 1 (.q 2 (.q 3 .done)))) ?_
 first | refine AtT.zk zu ?_ | with_reducible refine AtT.zl zu ?_ | refine AtT.zn zu ?_
 first | refine AtT.zm qo ?_ | refine AtT.zo qo ?_
 first | refine AtT.zR Tryz.underlying24 ?_ | refine AtT.zN Tryz.underlying24 ?_
 refine AtT.qJ ?_
 refine AtT.done ?_
 refine At.nrm ?_
 refine At.zX rfl (fun h1 => ?_) (fun h1 => ?_)
 ·refine At.nrm ?_
  refine At.zh (.q 0 .done) ?_
  refine AtT.ze ?_
  refine AtT.done ?_
  refine At.nrm ?_
  exact At.qi rfl (.tmp rfl) (by unfold bkE; rw [if_neg h0, if_pos (by omega)])
 have h24 : ¬ 24 < b.es.length := by omega
 refine At.nrm ?_
 refine At.zh (.q 0 .done) ?_
 refine AtT.ze ?_
 refine AtT.done ?_
 refine At.nrm ?_
 refine At.zh (.q 0 .done) ?_
 refine AtT.ze ?_
 refine AtT.done ?_
 refine At.nrm ?_
 refine At.lp (ι := Nat) (KS := fun k => [(1, .pointer (some ⟨b1, 0, none⟩)), (3, iv (lastE b.es k)), (4, iv k)]) (OS := fun _ => [.blk b1 (LC [v1, .slice a b.es.length c] 26)]) (VS := fun k V' => V' = V ∧ k ≤ b.es.length ∧ entsE b.rs 0 0 b.es = entsE b.rs k (lastE b.es k) (b.es.drop k)) (μ := fun k => b.es.length - k) 0 ?_ ?_ ?_ ?_
 ·exact ⟨rfl, rfl, rfl, trivial⟩
 ·exact Pt.zH
 ·exact ⟨rfl, Nat.zero_le _, rfl⟩
 rintro k V' ks' O' ⟨rfl, hkl, hen⟩ hk hO hl2
 subst hk hO
 refine At.nrm ?_
 refine At.zh (.q 0 (.q 1 (.q 2 (.q 3 (.q 4 .done))))) ?_
 refine AtT.zf ?_
 first | refine AtT.zk zu ?_ | with_reducible refine AtT.zl zu ?_ | refine AtT.zn zu ?_
 first | refine AtT.zm qo ?_ | refine AtT.zo qo ?_
 first | refine AtT.zR Tryz.underlying24 ?_ | refine AtT.zN Tryz.underlying24 ?_
 refine AtT.qp ?_
 refine AtT.done ?_
 refine At.nrm ?_
 refine At.zX rfl (fun hp => ?_) (fun hp => ?_)
 ·obtain ⟨e, he⟩ : ∃ e, b.es[k]? = some e := ⟨_, List.getElem?_eq_getElem (by omega)⟩
  rw [drop_at he] at hen
  simp only [entsE] at hen
  refine At.nrm ?_
  refine At.draw (.q 0 (.q 1 (.q 2 (.q 3 (.q 4 (.q 5 (.q 6 (.q 7 (.q 8 (.n false 9 (.q 10 .done))))))))))) ffm (by kernel_rfl) ?_
  first | refine AtT.zk zw ?_ | with_reducible refine AtT.zl zw ?_ | refine AtT.zn zw ?_
  first | refine AtT.zm qy ?_ | refine AtT.zo qy ?_
  first | refine AtT.zk zu ?_ | with_reducible refine AtT.zl zu ?_ | refine AtT.zn zu ?_
  first | refine AtT.zm qo ?_ | refine AtT.zo qo ?_
  refine AtT.zf ?_
  refine AtT.qB Tryz.underlying24 qD ?_
  intro p32 e32 he32 hc32
  obtain rfl : e = e32 := by have : b.es[k]? = some e32 := (by simpa using he32); rw [he] at this; simpa using this
  first | refine AtT.zD qD ?_ | refine AtT.zI qD ?_ | refine AtT.zC qD ?_
  refine AtT.zf ?_
  refine AtT.zf ?_
  refine AtT.zG rfl rfl ok66 (rentE_f b.rs e k (lastE b.es k) _ _ hr) ?_
  rintro _ rfl
  refine AtT.ze ?_
  refine AtT.done ?_
  refine At.nrm ?_
  refine At.nrm ?_
  refine At.zh (.q 0 (.q 1 .done)) ?_
  refine AtT.zf ?_
  refine AtT.qH ?_
  refine AtT.done ?_
  refine At.nrm ?_
  refine At.zX rfl (fun h3 => ?_) (fun h3 => ?_)
  ·rw [if_pos h3] at hen
   refine At.nrm ?_
   refine At.zh (.q 0 (.q 1 .done)) ?_
   refine AtT.zf ?_
   refine AtT.ze ?_
   refine AtT.done ?_
   refine At.nrm ?_
   exact At.qi rfl (.tmp rfl) (by unfold bkE; rw [if_neg h0, if_neg h24, if_pos (by rw [hen]; exact h3), hen])
  rw [if_neg h3] at hen
  refine At.nrm ?_
  refine At.zh (.q 0 (.q 1 (.q 2 (.q 3 (.q 4 (.q 5 (.q 6 .done))))))) ?_
  first | refine AtT.zk zu ?_ | with_reducible refine AtT.zl zu ?_ | refine AtT.zn zu ?_
  first | refine AtT.zm qo ?_ | refine AtT.zo qo ?_
  refine AtT.zf ?_
  refine AtT.qB Tryz.underlying24 qD ?_
  intro p43 e43 he43 hc43
  obtain rfl : e = e43 := by have : b.es[k]? = some e43 := (by simpa using he43); rw [he] at this; simpa using this
  first | refine AtT.zk qd ?_ | with_reducible refine AtT.zl qd ?_ | refine AtT.zn qd ?_
  first | refine AtT.zm tk3 ?_ | refine AtT.zo tk3 ?_
  refine AtT.ze ?_
  refine AtT.done ?_
  refine At.nrm ?_
  refine At.nrm ?_
  refine At.zh (.q 0 (.q 1 (.q 2 .done))) ?_
  refine AtT.zf ?_
  first | refine AtT.qI ?_ | refine AtT.ql ?_
  refine AtT.ze ?_
  refine AtT.done ?_
  refine At.nrm ?_
  refine At.round (k + 1) ?_ ?_ ?_ ?_
  ·show b.es.length - (k + 1) < b.es.length - k; omega
  ·exact ⟨rfl, by omega, by rw [lastE_at he]; push_cast; exact hen⟩
  ·rw [lastE_at he]; exact ⟨rfl, rfl, ivs (by omega), trivial⟩
  ·exact Pt.zH
 obtain rfl : k = b.es.length := by omega
 rw [List.drop_length] at hen
 have hen0 : entsE b.rs 0 0 b.es = 0 := hen
 have hcr : crE b.rs = 0 := Classical.not_not.1 h0
 have hbg := pre_bog hcr (by omega) hen0
 refine At.nrm ?_
 refine At.zh (.q 0 .done) ?_
 refine AtT.ze ?_
 refine AtT.done ?_
 refine At.nrm ?_
 refine At.lp (ι := Nat) (KS := fun j => [(1, .pointer (some ⟨b1, 0, none⟩)), (6, iv ((j : Int) + 1))]) (OS := fun _ => [.blk b1 (LC [v1, .slice a b.es.length c] 26)]) (VS := fun j V2 => Le V' V2 ∧ j ≤ b.es.length ∧ ∀ i, i < j → (runS b.rs b.es (i + 1) 999).isSome = true) (μ := fun j => b.es.length - j) 0 ?_ ?_ ?_ ?_
 ·exact ⟨rfl, rfl, trivial⟩
 ·exact Pt.zH
 ·exact ⟨Le.refl _, Nat.zero_le _, fun i hi => absurd hi (Nat.not_lt_zero i)⟩
 rintro j V2 ks' O' ⟨hV2, hjl, hall⟩ hk hO hl3
 subst hk hO
 have hv2 := hv.le hV2
 refine At.nrm ?_
 refine At.zh (.q 0 (.q 1 (.q 2 (.q 3 (.q 4 .done))))) ?_
 refine AtT.zf ?_
 first | refine AtT.zk zu ?_ | with_reducible refine AtT.zl zu ?_ | refine AtT.zn zu ?_
 first | refine AtT.zm qo ?_ | refine AtT.zo qo ?_
 first | refine AtT.zR Tryz.underlying24 ?_ | refine AtT.zN Tryz.underlying24 ?_
 refine AtT.kleq ?_
 refine AtT.done ?_
 refine At.nrm ?_
 refine At.zX rfl (fun hp2 => ?_) (fun hp2 => ?_)
 ·have hj1 : (j : Int) + 1 = ((j + 1 : Nat) : Int) := by omega
  cases hrn : runS b.rs b.es (j + 1) 999 with
  | none =>
   refine At.nrm ?_
   refine At.zh (.q 0 (.q 1 (.n false 2 (.q 3 (.q 4 (.q 5 (.q 6 (.q 7 .done)))))))) ?_
   first | refine AtT.zD zK ?_ | refine AtT.zI zK ?_ | refine AtT.zC zK ?_
   refine AtT.zf ?_
   rw [hj1]
   refine AtT.qa rfl rfl ok67 (rrun_f b hbg (j + 1) (by omega) (ents_bk hen0 (by omega)) 999 _ _ hv2) ?_
   rintro v56 V56 hV56 hR; obtain rfl := hR.no hrn
   refine AtT.zf ?_
   refine AtT.zt ?_
   refine AtT.zt ?_
   refine AtT.ze ?_
   refine AtT.ze ?_
   refine AtT.done ?_
   refine At.nrm ?_
   refine At.nrm ?_
   refine At.zh (.q 0 (.q 1 .done)) ?_
   refine AtT.zf ?_
   refine AtT.qF ?_
   refine AtT.done ?_
   refine At.nrm ?_
   refine At.qb rfl rfl ?_
   refine At.nrm ?_
   refine At.zh (.q 0 .done) ?_
   refine AtT.ze ?_
   refine AtT.done ?_
   refine At.nrm ?_
   refine At.qi rfl (.tmp rfl) ?_
   unfold bkE
   rw [if_neg h0, if_neg h24, if_neg (by rw [hen0]; simp), if_neg]
   intro h
   have := List.all_eq_true.1 h j (List.mem_range.2 (by omega))
   rw [hrn] at this; cases this
  | some st =>
   refine At.nrm ?_
   refine At.zh (.q 0 (.q 1 (.n false 2 (.q 3 (.q 4 (.q 5 (.q 6 (.q 7 .done)))))))) ?_
   first | refine AtT.zD zK ?_ | refine AtT.zI zK ?_ | refine AtT.zC zK ?_
   refine AtT.zf ?_
   rw [hj1]
   refine AtT.qa rfl rfl ok67 (rrun_f b hbg (j + 1) (by omega) (ents_bk hen0 (by omega)) 999 _ _ hv2) ?_
   rintro v56 V56 hV56 hR; obtain ⟨u56, rfl, _⟩ := hR.ok hrn
   refine AtT.zf ?_
   refine AtT.zt ?_
   refine AtT.zt ?_
   refine AtT.ze ?_
   refine AtT.ze ?_
   refine AtT.done ?_
   refine At.nrm ?_
   refine At.nrm ?_
   refine At.zh (.q 0 (.q 1 .done)) ?_
   refine AtT.zf ?_
   refine AtT.qF ?_
   refine AtT.done ?_
   refine At.nrm ?_
   refine At.qf rfl rfl ?_
   refine At.nrm ?_
   refine At.zh (.q 0 (.q 1 (.q 2 .done))) ?_
   refine AtT.zf ?_
   first | refine AtT.qI ?_ | refine AtT.ql ?_
   refine AtT.ze ?_
   refine AtT.done ?_
   refine At.nrm ?_
   refine At.round (j + 1) ?_ ?_ ?_ ?_
   ·show b.es.length - (j + 1) < b.es.length - j; omega
   ·refine ⟨hV2.trans hV56, by omega, fun i hi => ?_⟩
    by_cases e : i = j
    ·subst e; rw [hrn]; rfl
    ·exact hall i (by omega)
   ·exact ⟨rfl, ivs (by omega), trivial⟩
   ·exact Pt.zH
 obtain rfl : j = b.es.length := by omega
 refine At.nrm ?_
 refine At.zh (.q 0 .done) ?_
 refine AtT.ze ?_
 refine AtT.done ?_
 refine At.nrm ?_
 refine At.qi rfl (.tmp rfl) ?_
 rw [jA.2 ⟨hcr, by omega, hen0, hall⟩]
def cntE (b : Bo) (first : Int) : Int := if bkE b ≠ 0 then bkE b else if first < 0 ∨ (b.es.length : Int) < first then 2 else 0
def cntL (b : Bo) (first : Int) : List Int := if cntE b first ≠ 0 then [] else cntI b.es first.toNat
theorem rcounting_f (b : Bo) (first : Int) (V : View) (v : Value) (hv : BoV V v b) : Fnc Tryz.prog 24 [v, iv first] V fun r V' => ∃ u, r = .tuple #[u, iv (cntE b first)] ∧ SlI V' u (cntL b first) := by
 obtain ⟨v1, a, c, rfl, hr, hes⟩ := id hv
 have hlen := hes.jl
 refine qh Tryz.func24 rfl Tryz.ntmps24 (Nat.le_of_ble_eq_true rfl) ?_
 intro w0 hw0
 refine At.nrm ?_
 refine At.zh (.n false 0 (.q 1 (.q 2 .done))) ?_
 refine AtT.jd ?_
 intro b2
 refine AtT.ze ?_
 refine AtT.ze ?_
 refine AtT.done ?_
 refine At.nrm ?_
 refine At.zh (.q 0 (.n false 1 (.q 2 .done))) ?_
 first | refine AtT.zD zK ?_ | refine AtT.zI zK ?_ | refine AtT.zC zK ?_
 refine AtT.zG rfl rfl ok28 (qU b _ _ hv) ?_
 rintro _ rfl
 refine AtT.qH ?_
 refine AtT.done ?_
 refine At.nrm ?_
 refine At.zX rfl (fun h0 => ?_) (fun h0 => ?_)
 ·have hE : cntE b first = bkE b := by unfold cntE; rw [if_pos h0]
  have hL : cntL b first = [] := by unfold cntL; rw [if_pos (by rw [hE]; exact h0)]
  rw [hE, hL]
  refine At.nrm ?_
  refine At.zh (.q 0 (.n false 1 (.q 2 (.q 3 .done)))) ?_
  first | refine AtT.zD zK ?_ | refine AtT.zI zK ?_ | refine AtT.zC zK ?_
  refine AtT.zG rfl rfl ok28 (qU b _ _ hv) ?_
  rintro _ rfl
  refine AtT.ze ?_
  refine AtT.ze ?_
  refine AtT.done ?_
  refine At.nrm ?_
  exact At.qN rfl (.tmp rfl) (.tmp rfl) ⟨_, rfl, Sl.nil _ _ _⟩
 have hR := jA.1 (Classical.not_not.1 h0)
 refine At.nrm ?_
 by_cases f1 : first < 0
 ·refine At.zh (.q 0 (.q 1 (.q 2 (.q 3 (.q 4 (.q 5 (.q 6 (.q 7 (.q 8 .done))))))))) ?_
  refine AtT.zf ?_
  refine AtT.qp ?_
  refine AtT.qm (d := 12) rfl (f1) ?_
  refine AtT.zf ?_
  all_goals (first | refine AtT.kL 13 ?_ | refine AtT.zA (d := 13) rfl (fun hg13 => ?_) (fun hg13 => ?_) | refine AtT.zz (d := 13) rfl (fun hg13 => ?_) (fun hg13 => ?_))
  all_goals first|refine AtT.zi ?_|refine AtT.zg ?_|(refine AtT.zf ?_)
  all_goals first|refine AtT.zi ?_|refine AtT.zg ?_|(first | refine AtT.zk zu ?_ | with_reducible refine AtT.zl zu ?_ | refine AtT.zn zu ?_)
  all_goals first|refine AtT.zi ?_|refine AtT.zg ?_|(first | refine AtT.zm qo ?_ | refine AtT.zo qo ?_)
  all_goals first|refine AtT.zi ?_|refine AtT.zg ?_|(first | refine AtT.zR Tryz.underlying24 ?_ | refine AtT.zN Tryz.underlying24 ?_)
  all_goals first|refine AtT.zi ?_|refine AtT.zg ?_|(refine AtT.qJ ?_)
  all_goals (refine AtT.zB ?_)
  all_goals refine AtT.done ?_
  all_goals (refine At.nrm ?_)
  all_goals refine At.qb rfl rfl ?_
  refine At.nrm ?_
  have hE : cntE b first = 2 := by unfold cntE; rw [if_neg h0, if_pos (by omega)]
  have hL : cntL b first = [] := by unfold cntL; rw [if_pos (by rw [hE]; decide)]
  rw [hE, hL]
  refine At.zh (.q 0 (.q 1 .done)) ?_
  refine AtT.ze ?_
  refine AtT.ze ?_
  refine AtT.done ?_
  refine At.nrm ?_
  exact At.qN rfl (.tmp rfl) (.tmp rfl) ⟨_, rfl, Sl.nil _ _ _⟩
 by_cases f2 : (b.es.length : Int) < first
 ·refine At.zh (.q 0 (.q 1 (.q 2 (.q 3 (.q 4 (.q 5 (.q 6 (.q 7 (.q 8 .done))))))))) ?_
  refine AtT.zf ?_
  refine AtT.qp ?_
  refine AtT.zU (d := 12) rfl (f1) ?_
  refine AtT.zf ?_
  all_goals (first | refine AtT.kL 13 ?_ | refine AtT.zA (d := 13) rfl (fun hg13 => ?_) (fun hg13 => ?_) | refine AtT.zz (d := 13) rfl (fun hg13 => ?_) (fun hg13 => ?_))
  all_goals first|refine AtT.zi ?_|refine AtT.zg ?_|(refine AtT.zf ?_)
  all_goals first|refine AtT.zi ?_|refine AtT.zg ?_|(first | refine AtT.zk zu ?_ | with_reducible refine AtT.zl zu ?_ | refine AtT.zn zu ?_)
  all_goals first|refine AtT.zi ?_|refine AtT.zg ?_|(first | refine AtT.zm qo ?_ | refine AtT.zo qo ?_)
  all_goals first|refine AtT.zi ?_|refine AtT.zg ?_|(first | refine AtT.zR Tryz.underlying24 ?_ | refine AtT.zN Tryz.underlying24 ?_)
  all_goals first|refine AtT.zi ?_|refine AtT.zg ?_|(refine AtT.qJ ?_)
  all_goals (refine AtT.qm (d := 18) rfl (f2) ?_)
  all_goals (refine AtT.zB ?_)
  all_goals refine AtT.done ?_
  all_goals (refine At.nrm ?_)
  all_goals refine At.qb rfl rfl ?_
  refine At.nrm ?_
  have hE : cntE b first = 2 := by unfold cntE; rw [if_neg h0, if_pos (by omega)]
  have hL : cntL b first = [] := by unfold cntL; rw [if_pos (by rw [hE]; decide)]
  rw [hE, hL]
  refine At.zh (.q 0 (.q 1 .done)) ?_
  refine AtT.ze ?_
  refine AtT.ze ?_
  refine AtT.done ?_
  refine At.nrm ?_
  exact At.qN rfl (.tmp rfl) (.tmp rfl) ⟨_, rfl, Sl.nil _ _ _⟩
 refine At.zh (.q 0 (.q 1 (.q 2 (.q 3 (.q 4 (.q 5 (.q 6 (.q 7 (.q 8 .done))))))))) ?_
 refine AtT.zf ?_
 refine AtT.qp ?_
 refine AtT.zU (d := 12) rfl (f1) ?_
 refine AtT.zf ?_
 all_goals (first | refine AtT.kL 13 ?_ | refine AtT.zA (d := 13) rfl (fun hg13 => ?_) (fun hg13 => ?_) | refine AtT.zz (d := 13) rfl (fun hg13 => ?_) (fun hg13 => ?_))
 all_goals first|refine AtT.zi ?_|refine AtT.zg ?_|(refine AtT.zf ?_)
 all_goals first|refine AtT.zi ?_|refine AtT.zg ?_|(first | refine AtT.zk zu ?_ | with_reducible refine AtT.zl zu ?_ | refine AtT.zn zu ?_)
 all_goals first|refine AtT.zi ?_|refine AtT.zg ?_|(first | refine AtT.zm qo ?_ | refine AtT.zo qo ?_)
 all_goals first|refine AtT.zi ?_|refine AtT.zg ?_|(first | refine AtT.zR Tryz.underlying24 ?_ | refine AtT.zN Tryz.underlying24 ?_)
 all_goals first|refine AtT.zi ?_|refine AtT.zg ?_|(refine AtT.qJ ?_)
 all_goals (refine AtT.zU (d := 18) rfl (f2) ?_)
 all_goals (refine AtT.zB ?_)
 all_goals refine AtT.done ?_
 all_goals (refine At.nrm ?_)
 all_goals refine At.qf rfl rfl ?_
 refine At.nrm ?_
 obtain ⟨n, rfl⟩ : ∃ n : Nat, first = (n : Int) := ⟨first.toNat, by omega⟩
 have hE : cntE b n = 0 := by unfold cntE; rw [if_neg h0, if_neg (by omega)]
 have hL : cntL b n = cntI b.es n := by unfold cntL; rw [if_neg (by rw [hE]; simp), Int.toNat_natCast]
 rw [hE, hL]
 refine At.zh (.q 0 (.q 1 (.q 2 (.n false 3 (.q 4 (.q 5 .done)))))) ?_
 first | refine AtT.zk zu ?_ | with_reducible refine AtT.zl zu ?_ | refine AtT.zn zu ?_
 first | refine AtT.zm qo ?_ | refine AtT.zo qo ?_
 refine AtT.zf ?_
 refine AtT.qa rfl rfl ok46 (rcntOf_f b.es n (by omega) (by have := hR.len; omega) (hR.bk (by omega)) _ _ hes) ?_
 rintro v23 V23 hV23 hs23
 refine AtT.ze ?_
 refine AtT.ze ?_
 refine AtT.done ?_
 refine At.nrm ?_
 exact At.qN rfl (.tmp rfl) (.tmp rfl) ⟨_, rfl, hs23⟩
def kg (b : Bo) (first day : Int) : Int := if bkE b ≠ 0 then bkE b else if first < 0 ∨ (b.es.length : Int) < first then 2 else if day < 0 ∨ 999 < day then 3 else 0
def stkF (b : Bo) (first : Nat) (day : Int) : Nat → Int := (runS b.rs b.es first day).getD fun _ => 0
def jZ (b : Bo) (first day : Int) : List Int := if kg b first day ≠ 0 then [] else stL (stkF b first.toNat day)
theorem stkF_some {b : Bo} {first : Nat} {day : Int} {st : Nat → Int} (h : runS b.rs b.es first day = some st) : stkF b first day = st := by unfold stkF; rw [h]; rfl
theorem rstock_f (b : Bo) (first day : Int) (V : View) (v : Value) (hv : BoV V v b) : Fnc Tryz.prog 32 [v, iv first, iv day] V fun r V' => ∃ u, r = .tuple #[u, iv (kg b first day)] ∧ SlI V' u (jZ b first day) := by
 obtain ⟨v1, a, c, rfl, hr, hes⟩ := id hv
 have hlen := hes.jl
 refine qh Tryz.func32 rfl Tryz.ntmps32 (Nat.le_of_ble_eq_true rfl) ?_
 intro w0 hw0
 refine At.nrm ?_
 refine At.zh (.n false 0 (.q 1 (.q 2 .done))) ?_
 refine AtT.jd ?_
 intro b3
 refine AtT.ze ?_
 refine AtT.ze ?_
 refine AtT.done ?_
 refine At.nrm ?_
 refine At.zh (.q 0 (.n false 1 (.q 2 .done))) ?_
 first | refine AtT.zD zK ?_ | refine AtT.zI zK ?_ | refine AtT.zC zK ?_
 refine AtT.zG rfl rfl ok28 (qU b _ _ hv) ?_
 rintro _ rfl
 refine AtT.qH ?_
 refine AtT.done ?_
 refine At.nrm ?_
 refine At.zX rfl (fun h0 => ?_) (fun h0 => ?_)
 ·have hE : kg b first day = bkE b := by unfold kg; rw [if_pos h0]
  have hL : jZ b first day = [] := by unfold jZ; rw [if_pos (by rw [hE]; exact h0)]
  rw [hE, hL]
  refine At.nrm ?_
  refine At.zh (.q 0 (.n false 1 (.q 2 (.q 3 .done)))) ?_
  first | refine AtT.zD zK ?_ | refine AtT.zI zK ?_ | refine AtT.zC zK ?_
  refine AtT.zG rfl rfl ok28 (qU b _ _ hv) ?_
  rintro _ rfl
  refine AtT.ze ?_
  refine AtT.ze ?_
  refine AtT.done ?_
  refine At.nrm ?_
  exact At.qN rfl (.tmp rfl) (.tmp rfl) ⟨_, rfl, Sl.nil _ _ _⟩
 have hR := jA.1 (Classical.not_not.1 h0)
 refine At.nrm ?_
 by_cases f1 : first < 0
 ·refine At.zh (.q 0 (.q 1 (.q 2 (.q 3 (.q 4 (.q 5 (.q 6 (.q 7 (.q 8 .done))))))))) ?_
  refine AtT.zf ?_
  refine AtT.qp ?_
  refine AtT.qm (d := 14) rfl (f1) ?_
  refine AtT.zf ?_
  all_goals (first | refine AtT.kL 15 ?_ | refine AtT.zA (d := 15) rfl (fun hg15 => ?_) (fun hg15 => ?_) | refine AtT.zz (d := 15) rfl (fun hg15 => ?_) (fun hg15 => ?_))
  all_goals first|refine AtT.zi ?_|refine AtT.zg ?_|(refine AtT.zf ?_)
  all_goals first|refine AtT.zi ?_|refine AtT.zg ?_|(first | refine AtT.zk zu ?_ | with_reducible refine AtT.zl zu ?_ | refine AtT.zn zu ?_)
  all_goals first|refine AtT.zi ?_|refine AtT.zg ?_|(first | refine AtT.zm qo ?_ | refine AtT.zo qo ?_)
  all_goals first|refine AtT.zi ?_|refine AtT.zg ?_|(first | refine AtT.zR Tryz.underlying24 ?_ | refine AtT.zN Tryz.underlying24 ?_)
  all_goals first|refine AtT.zi ?_|refine AtT.zg ?_|(refine AtT.qJ ?_)
  all_goals (refine AtT.zB ?_)
  all_goals refine AtT.done ?_
  all_goals (refine At.nrm ?_)
  all_goals refine At.qb rfl rfl ?_
  refine At.nrm ?_
  have hE : kg b first day = 2 := by unfold kg; rw [if_neg h0, if_pos (by omega)]
  have hL : jZ b first day = [] := by unfold jZ; rw [if_pos (by rw [hE]; decide)]
  rw [hE, hL]
  refine At.zh (.q 0 (.q 1 .done)) ?_
  refine AtT.ze ?_
  refine AtT.ze ?_
  refine AtT.done ?_
  refine At.nrm ?_
  exact At.qN rfl (.tmp rfl) (.tmp rfl) ⟨_, rfl, Sl.nil _ _ _⟩
 by_cases f2 : (b.es.length : Int) < first
 ·refine At.zh (.q 0 (.q 1 (.q 2 (.q 3 (.q 4 (.q 5 (.q 6 (.q 7 (.q 8 .done))))))))) ?_
  refine AtT.zf ?_
  refine AtT.qp ?_
  refine AtT.zU (d := 14) rfl (f1) ?_
  refine AtT.zf ?_
  all_goals (first | refine AtT.kL 15 ?_ | refine AtT.zA (d := 15) rfl (fun hg15 => ?_) (fun hg15 => ?_) | refine AtT.zz (d := 15) rfl (fun hg15 => ?_) (fun hg15 => ?_))
  all_goals first|refine AtT.zi ?_|refine AtT.zg ?_|(refine AtT.zf ?_)
  all_goals first|refine AtT.zi ?_|refine AtT.zg ?_|(first | refine AtT.zk zu ?_ | with_reducible refine AtT.zl zu ?_ | refine AtT.zn zu ?_)
  all_goals first|refine AtT.zi ?_|refine AtT.zg ?_|(first | refine AtT.zm qo ?_ | refine AtT.zo qo ?_)
  all_goals first|refine AtT.zi ?_|refine AtT.zg ?_|(first | refine AtT.zR Tryz.underlying24 ?_ | refine AtT.zN Tryz.underlying24 ?_)
  all_goals first|refine AtT.zi ?_|refine AtT.zg ?_|(refine AtT.qJ ?_)
  all_goals (refine AtT.qm (d := 20) rfl (f2) ?_)
  all_goals (refine AtT.zB ?_)
  all_goals refine AtT.done ?_
  all_goals (refine At.nrm ?_)
  all_goals refine At.qb rfl rfl ?_
  refine At.nrm ?_
  have hE : kg b first day = 2 := by unfold kg; rw [if_neg h0, if_pos (by omega)]
  have hL : jZ b first day = [] := by unfold jZ; rw [if_pos (by rw [hE]; decide)]
  rw [hE, hL]
  refine At.zh (.q 0 (.q 1 .done)) ?_
  refine AtT.ze ?_
  refine AtT.ze ?_
  refine AtT.done ?_
  refine At.nrm ?_
  exact At.qN rfl (.tmp rfl) (.tmp rfl) ⟨_, rfl, Sl.nil _ _ _⟩
 refine At.zh (.q 0 (.q 1 (.q 2 (.q 3 (.q 4 (.q 5 (.q 6 (.q 7 (.q 8 .done))))))))) ?_
 refine AtT.zf ?_
 refine AtT.qp ?_
 refine AtT.zU (d := 14) rfl (f1) ?_
 refine AtT.zf ?_
 all_goals (first | refine AtT.kL 15 ?_ | refine AtT.zA (d := 15) rfl (fun hg15 => ?_) (fun hg15 => ?_) | refine AtT.zz (d := 15) rfl (fun hg15 => ?_) (fun hg15 => ?_))
 all_goals first|refine AtT.zi ?_|refine AtT.zg ?_|(refine AtT.zf ?_)
 all_goals first|refine AtT.zi ?_|refine AtT.zg ?_|(first | refine AtT.zk zu ?_ | with_reducible refine AtT.zl zu ?_ | refine AtT.zn zu ?_)
 all_goals first|refine AtT.zi ?_|refine AtT.zg ?_|(first | refine AtT.zm qo ?_ | refine AtT.zo qo ?_)
 all_goals first|refine AtT.zi ?_|refine AtT.zg ?_|(first | refine AtT.zR Tryz.underlying24 ?_ | refine AtT.zN Tryz.underlying24 ?_)
 all_goals first|refine AtT.zi ?_|refine AtT.zg ?_|(refine AtT.qJ ?_)
 all_goals (refine AtT.zU (d := 20) rfl (f2) ?_)
 all_goals (refine AtT.zB ?_)
 all_goals refine AtT.done ?_
 all_goals (refine At.nrm ?_)
 all_goals refine At.qf rfl rfl ?_
 refine At.nrm ?_
 by_cases d1 : day < 0
 ·refine At.zh (.q 0 (.q 1 (.q 2 (.q 3 (.q 4 (.q 5 .done)))))) ?_
  refine AtT.zf ?_
  refine AtT.qp ?_
  refine AtT.qm (d := 23) rfl (d1) ?_
  refine AtT.zf ?_
  all_goals (first | refine AtT.kL 24 ?_ | refine AtT.zA (d := 24) rfl (fun hg24 => ?_) (fun hg24 => ?_) | refine AtT.zz (d := 24) rfl (fun hg24 => ?_) (fun hg24 => ?_))
  all_goals first|refine AtT.zi ?_|refine AtT.zg ?_|(refine AtT.zf ?_)
  all_goals first|refine AtT.zi ?_|refine AtT.zg ?_|(refine AtT.qJ ?_)
  all_goals (refine AtT.zB ?_)
  all_goals refine AtT.done ?_
  all_goals (refine At.nrm ?_)
  all_goals refine At.qb rfl rfl ?_
  refine At.nrm ?_
  have hE : kg b first day = 3 := by unfold kg; rw [if_neg h0, if_neg (by omega), if_pos (by omega)]
  have hL : jZ b first day = [] := by unfold jZ; rw [if_pos (by rw [hE]; decide)]
  rw [hE, hL]
  refine At.zh (.q 0 (.q 1 .done)) ?_
  refine AtT.ze ?_
  refine AtT.ze ?_
  refine AtT.done ?_
  refine At.nrm ?_
  exact At.qN rfl (.tmp rfl) (.tmp rfl) ⟨_, rfl, Sl.nil _ _ _⟩
 by_cases d2 : 999 < day
 ·refine At.zh (.q 0 (.q 1 (.q 2 (.q 3 (.q 4 (.q 5 .done)))))) ?_
  refine AtT.zf ?_
  refine AtT.qp ?_
  refine AtT.zU (d := 23) rfl (d1) ?_
  refine AtT.zf ?_
  all_goals (first | refine AtT.kL 24 ?_ | refine AtT.zA (d := 24) rfl (fun hg24 => ?_) (fun hg24 => ?_) | refine AtT.zz (d := 24) rfl (fun hg24 => ?_) (fun hg24 => ?_))
  all_goals first|refine AtT.zi ?_|refine AtT.zg ?_|(refine AtT.zf ?_)
  all_goals first|refine AtT.zi ?_|refine AtT.zg ?_|(refine AtT.qJ ?_)
  all_goals (refine AtT.qm (d := 26) rfl (d2) ?_)
  all_goals (refine AtT.zB ?_)
  all_goals refine AtT.done ?_
  all_goals (refine At.nrm ?_)
  all_goals refine At.qb rfl rfl ?_
  refine At.nrm ?_
  have hE : kg b first day = 3 := by unfold kg; rw [if_neg h0, if_neg (by omega), if_pos (by omega)]
  have hL : jZ b first day = [] := by unfold jZ; rw [if_pos (by rw [hE]; decide)]
  rw [hE, hL]
  refine At.zh (.q 0 (.q 1 .done)) ?_
  refine AtT.ze ?_
  refine AtT.ze ?_
  refine AtT.done ?_
  refine At.nrm ?_
  exact At.qN rfl (.tmp rfl) (.tmp rfl) ⟨_, rfl, Sl.nil _ _ _⟩
 refine At.zh (.q 0 (.q 1 (.q 2 (.q 3 (.q 4 (.q 5 .done)))))) ?_
 refine AtT.zf ?_
 refine AtT.qp ?_
 refine AtT.zU (d := 23) rfl (d1) ?_
 refine AtT.zf ?_
 all_goals (first | refine AtT.kL 24 ?_ | refine AtT.zA (d := 24) rfl (fun hg24 => ?_) (fun hg24 => ?_) | refine AtT.zz (d := 24) rfl (fun hg24 => ?_) (fun hg24 => ?_))
 all_goals first|refine AtT.zi ?_|refine AtT.zg ?_|(refine AtT.zf ?_)
 all_goals first|refine AtT.zi ?_|refine AtT.zg ?_|(refine AtT.qJ ?_)
 all_goals (refine AtT.zU (d := 26) rfl (d2) ?_)
 all_goals (refine AtT.zB ?_)
 all_goals refine AtT.done ?_
 all_goals (refine At.nrm ?_)
 all_goals refine At.qf rfl rfl ?_
 refine At.nrm ?_
 obtain ⟨n, rfl⟩ : ∃ n : Nat, first = (n : Int) := ⟨first.toNat, by omega⟩
 obtain ⟨st, hst⟩ := hR.st (first := n) (by omega) day
 have hE : kg b n day = 0 := by unfold kg; rw [if_neg h0, if_neg (by omega), if_neg (by omega)]
 have hL : jZ b n day = stL st := by unfold jZ; rw [if_neg (by rw [hE]; simp), Int.toNat_natCast, stkF_some hst]
 rw [hE, hL]
 refine At.zh (.q 0 (.q 1 (.q 2 (.n false 3 (.q 4 (.q 5 .done)))))) ?_
 first | refine AtT.zD zK ?_ | refine AtT.zI zK ?_ | refine AtT.zC zK ?_
 refine AtT.zf ?_
 refine AtT.zf ?_
 refine AtT.qa rfl rfl ok69 (rstockOf_f b hR.bog n (by omega) (hR.bk (by omega)) day st hst _ _ hv) ?_
 rintro v31 V31 hV31 hs31
 refine AtT.ze ?_
 refine AtT.ze ?_
 refine AtT.done ?_
 refine At.nrm ?_
 exact At.qN rfl (.tmp rfl) (.tmp rfl) ⟨_, rfl, hs31⟩
end Go.Proofs.YtpoignmclfdgpaaGreatDoor
set_option linter.unusedVariables false
namespace Go.Bk
open Go.Lw Go.Gl
abbrev ekT (x : Int) : Value := .agg #[iv x]
abbrev zq : RcQ := (⟨0, []⟩, none, 0)
structure WMap (M : MM Int Int) (c : Nat) (W : Nat → Int) : Prop where
 ok : MOk M c
 rng : ∀ s, jK s M = true → 0 ≤ s ∧ s ≤ 7
 get : ∀ s : Nat, qZ (s : Int) 0 M = W s
theorem WMap.nil (c : Nat) : WMap [] c fun _ => 0 := ⟨MOk.nil c, fun s h => (by simp [jK] at h), fun s => rfl⟩
theorem WMap.put {M : MM Int Int} {c : Nat} {W : Nat → Int} (h : WMap M c W) {g : Int} (hg : 0 ≤ g ∧ g ≤ 7) (v : Int) : WMap (mput g v M c).1 (mput g v M c).2 (upd W g.toNat v) := by
 refine ⟨mput_ok h.ok, fun s hs => ?_, fun s => ?_⟩
 ·rcases (mput_has g s v M c).1 hs with rfl | hs
  ·exact hg
  ·exact h.rng s hs
 ·rw [mput_get, h.get]
  unfold upd
  by_cases e : s = g.toNat
  ·rw [if_pos e, if_pos (by omega)]
  ·rw [if_neg e, if_neg (by omega)]
theorem WMap.del {M : MM Int Int} {c : Nat} {W : Nat → Int} (h : WMap M c W) {g : Int} (hg : 0 ≤ g) : WMap (mdel g M) c (upd W g.toNat 0) := by
 refine ⟨mdel_ok h.ok, fun s hs => h.rng s ((mdel_has h.ok.keys).1 hs).2, fun s => ?_⟩
 rw [mdel_get h.ok.keys, h.get]
 unfold upd
 by_cases e : s = g.toNat
 ·rw [if_pos e, if_pos (by omega)]
 ·rw [if_neg e, if_neg (by omega)]
theorem WMap.at {M : MM Int Int} {c : Nat} {W : Nat → Int} (h : WMap M c W) {g : Int} (hg : 0 ≤ g) : qZ g 0 M = W g.toNat := by
 have := h.get g.toNat
 rwa [Int.toNat_of_nonneg hg] at this
theorem rcs_sorted : ∀ {rs : List Rc} {last : Int}, qE last rs → rs.Pairwise fun x y => x.g < y.g
 | [], last, _ => List.Pairwise.nil
 | x :: rs, last, h => by
  cases h with
  | cons h1 h2 =>
   have key : ∀ {l : List Rc} {m : Int}, qE m l → ∀ y ∈ l, m < y.g := by
    intro l
    induction l with
    | nil => intro m _ y hy; cases hy
    | cons a l ih =>
     intro m h y hy
     cases h with
     | cons a1 a2 =>
      rcases List.mem_cons.1 hy with rfl | hy
      ·exact a1.lt
      ·have := ih a2 y hy; have := a1.lt; omega
   exact List.Pairwise.cons (fun y hy => key h2 y hy) (rcs_sorted h2)
theorem partsOf_snoc {l : List Rc} {r : Rc} (h : ∀ x ∈ l, x.g < r.g) (g : Int) : partsOf (l ++ [r]) g = if g = r.g then r.ps else partsOf l g := by
 unfold partsOf
 rw [List.find?_append]
 by_cases e : g = r.g
 ·subst e
  have hn : l.find? (fun x => decide (x.g = r.g)) = none := List.find?_eq_none.2 fun x hx => by have := h x hx; simp; omega
  rw [hn, if_pos rfl]
  simp
 ·rw [if_neg e]
  have hs : [r].find? (fun x => decide (x.g = g)) = none := List.find?_eq_none.2 fun x hx => by simp at hx; subst hx; simp; exact fun h => e h.symm
  rw [hs, Option.or_none]
def RMap (V : View) (m : Nat) (rs : List Rc) : Prop := ∃ (M : MM Int RcQ) (c : Nat), V m = some (qY ekT rcs M c) ∧ ∀ g, (qZ g zq M).1.ps = partsOf rs g ∧ Sl V pte 2 (rcs (qZ g zq M)) (partsOf rs g)
theorem RMap.le {V V' : View} {m : Nat} {rs : List Rc} (h : RMap V m rs) (hl : Le V V') : RMap V' m rs := by
 obtain ⟨M, c, h1, h2⟩ := h
 exact ⟨M, c, hl _ _ h1, fun g => ⟨(h2 g).1, (h2 g).2.le hl⟩⟩
def RSt (V : View) (M : MM Int RcQ) (rs : List Rc) : Prop := ∀ g, (qZ g zq M).1.ps = partsOf rs g ∧ Sl V pte 2 (rcs (qZ g zq M)) (partsOf rs g)
theorem RSt.nil (V : View) : RSt V [] [] := fun g => ⟨rfl, Sl.nil _ _ _⟩
theorem RSt.le {V V' : View} {M : MM Int RcQ} {rs : List Rc} (h : RSt V M rs) (hl : Le V V') : RSt V' M rs := fun g => ⟨(h g).1, (h g).2.le hl⟩
theorem RSt.put {V : View} {M : MM Int RcQ} {c : Nat} {rs : List Rc} (h : RSt V M rs) {x : RcQ} (hx : ∀ r ∈ rs, r.g < x.1.g) (hs : Sl V pte 2 (rcs x) x.1.ps) : RSt V (mput x.1.g x M c).1 (rs ++ [x.1]) := fun g => by
 rw [mput_get, partsOf_snoc hx]
 by_cases e : g = x.1.g
 ·rw [if_pos e, if_pos e]; exact ⟨rfl, hs⟩
 ·rw [if_neg e, if_neg e]; exact h g
structure StoV (V : View) (b : Nat) (u1 u2 : Value) (m1 m2 : Nat) : Prop where
 c0 : Cells V ⟨b, 0, none⟩ [u1]
 c1 : Cells V ⟨b, 1, none⟩ [u2]
 c2 : Cells V ⟨b, 2, none⟩ [.map (some m1)]
 c3 : Cells V ⟨b, 3, none⟩ [.map (some m2)]
theorem StoV.le {V V' : View} {b : Nat} {u1 u2 : Value} {m1 m2 : Nat} (h : StoV V b u1 u2 m1 m2) (hl : Le V V') : StoV V' b u1 u2 m1 m2 := ⟨h.c0.le hl, h.c1.le hl, h.c2.le hl, h.c3.le hl⟩
theorem StoV.of {V : View} {b : Nat} {u1 u2 : Value} {m1 m2 : Nat} {E : TypeId} (h : V b = some (LC [u1, u2, .map (some m1), .map (some m2)] E)) : StoV V b u1 u2 m1 m2 := by
 have hc := jC h
 refine ⟨fun j u hj => ?_, fun j u hj => ?_, fun j u hj => ?_, fun j u hj => ?_⟩
 ·match j, hj with
  | 0, hj => exact hc 0 u hj
 ·match j, hj with
  | 0, hj => exact hc 1 u hj
 ·match j, hj with
  | 0, hj => exact hc 2 u hj
 ·match j, hj with
  | 0, hj => exact hc 3 u hj
theorem jO {c : Int} {n : Nat} : ∀ {ps : List Pt} {W W' : Nat → Int}, (∀ s, s < n → W s = W' s) → ∀ s, s < n → zS c ps W s = zS c ps W' s
 | [], W, W', h, s, hs => h s hs
 | p :: ps, W, W', h, s, hs => by
  simp only [zS]
  refine jO (fun s hs => ?_) s hs
  unfold upd
  split
  ·rename_i e; subst e; rw [h _ hs]
  ·exact h s hs
theorem qO (W : Nat → Int) (a : Nat) (v : Int) (s : Nat) : upd W a v s = if s = a then v else W s := rfl
theorem want_snoc {c : Int} {p : Pt} : ∀ {ps : List Pt} {W : Nat → Int}, zS c (ps ++ [p]) W = upd (zS c ps W) p.t.toNat (zS c ps W p.t.toNat + c * p.n)
 | [], W => rfl
 | q :: ps, W => by
  simp only [List.cons_append, zS]
  exact want_snoc
theorem canW_congr {rs : List Rc} {l : Nat → Int} : ∀ {t : Nat} {W W' : Nat → Int}, (∀ s, s < t → W s = W' s) → canW rs l t W = canW rs l t W'
 | 0, W, W', _ => rfl
 | t + 1, W, W', h => by
  simp only [canW]
  rw [h t (by omega)]
  have h' : ∀ s, s < t → W s = W' s := fun s hs => h s (by omega)
  split
  ·exact canW_congr h'
  ·split
   ·rfl
   ·exact canW_congr (jO h')
end Go.Bk
set_option linter.unusedVariables false
namespace Go.Proofs.YtpoignmclfdgpaaGreatDoor
open Go.Lw Go.Gl Go.Bk Go.RowKit
theorem key92 : KeyL Tryz.prog 92 ekT where
 eq a b w := (eqS92 a b).2 w
 ck e a w := by
  have u3 := Tryz.underlying3
  have a3 := Tryz.isAgg3
  have z3 := Tryz.sizeOf3
  have ci : ∀ (x : Int) (w : World), (Instr.checkKey e 9999 3 (.int .i64 x)).run Tryz.prog w = .ok () w := fun x w => by
   rw [show (9999 : Nat) = 9998 + 1 from rfl, Instr.checkKey]
   simp [run_underlying u3, Sem.run_bind, Result.andThen_ok, Sem.run_pure]
  rw [show (10000 : Nat) = 9999 + 1 from rfl, Instr.checkKey]
  simp only [Sem.run_bind, run_underlying Tryz.underlying92, Result.andThen_ok]
  rw [← Array.forIn_toList]
  simp only [List.forIn_cons, List.forIn_nil, Sem.run_bind, Sem.run_pure, Result.andThen_ok]
  generalize (9999 : Nat) = q at ci ⊢
  go_simp
 sb a := by simp [Instr.sameBits]
 now := ⟨_, Tryz.underlying92, .inl fun a b => rfl⟩
theorem newStore_f {cx : Cx} {O : List Own} (rs : List Rc) (hrs : qE (-1) rs) (V : View) (v : Value) (hv : RsV V v rs) :
  FncM Tryz.prog cx 56 [v] O V fun r O' V' => ∃ b m1 m2, r = .pointer (some ⟨b, 0, none⟩) ∧ Le V V' ∧ O' = .blk b (LC [.slice none 0 0, .slice none 0 0, .map (some m1), .map (some m2)] 90) :: .blk m2 (qY ekT iv [] 0) :: O ∧ RMap V' m1 rs := by
 obtain ⟨qs, aq, cq, hqr, rfl, hsq, hq⟩ := hv
 have hlen := hsq.jl
 have hql : qs.length = rs.length := by rw [← hqr, List.length_map]
 have hsort := rcs_sorted hrs
 refine fncM_of Tryz.func56 rfl Tryz.ntmps56 (Nat.le_of_ble_eq_true rfl) ?_
 refine At.nrm ?_
 refine At.zh (.q 0 .done) ?_
 refine AtT.ze ?_
 refine AtT.done ?_
 refine At.nrm ?_
 refine At.zh (.n false 0 (.n false 1 (.q 2 (.n false 3 (.q 4 .done))))) ?_
 refine AtT.makeMap rfl trivial ekT rcs (by decide) ?_
 intro b6
 refine AtT.makeMap rfl trivial ekT iv (by decide) ?_
 intro b7
 refine AtT.qG (bd90_1_2 _ _) ?_
 refine AtT.jd ?_
 intro b9
 refine AtT.ze ?_
 refine AtT.done ?_
 refine At.nrm ?_
 refine At.zh (.q 0 (.q 1 (.q 2 .done))) ?_
 refine AtT.zf ?_
 first | refine AtT.zR Tryz.underlying22 ?_ | refine AtT.zN Tryz.underlying22 ?_
 refine AtT.zf ?_
 refine AtT.done ?_
 refine At.nrm ?_
 refine At.lp (ι := Nat × MM Int RcQ × Nat) (KS := fun g => [(3, .pointer (some ⟨b9, 0, none⟩)), (10, .slice aq qs.length cq), (11, iv qs.length), (12, iv g.1)])
  (OS := fun g => .blk b9 (LC [.slice none 0 0, .slice none 0 0, .map (some b6), .map (some b7)] 90) :: .blk b7 (qY ekT iv [] 0) :: .blk b6 (qY ekT rcs g.2.1 g.2.2) :: O)
  (VS := fun g V' => V' = V ∧ g.1 ≤ qs.length ∧ RSt V' g.2.1 (rs.take g.1)) (μ := fun g => qs.length - g.1) (0, [], 0) ?_ ?_ ?_ ?_
 ·exact ⟨rfl, rfl, rfl, rfl, trivial⟩
 ·exact Pt.zZ
 ·exact ⟨rfl, Nat.zero_le _, RSt.nil _⟩
 rintro ⟨k, M, c⟩ V' ks' O' ⟨rfl, hkl, hst⟩ hk hO hl2
 dsimp only at hkl hst hk hO
 subst hk hO
 refine At.nrm ?_
 refine At.zh (.q 0 .done) ?_
 refine AtT.qp ?_
 refine AtT.done ?_
 refine At.nrm ?_
 refine At.zX rfl (fun hp => ?_) (fun hp => ?_)
 ·obtain ⟨x, hx⟩ : ∃ x, qs[k]? = some x := ⟨_, List.getElem?_eq_getElem (by omega)⟩
  have hbx : rs[k]? = some x.1 := by rw [← hqr]; exact qs_at hx
  have htk : rs.take (k + 1) = rs.take k ++ [x.1] := by
   rw [List.take_succ_eq_append_getElem (by omega)]; congr 1; rw [List.getElem?_eq_getElem (by omega)] at hbx; simpa using hbx
  have hlt : ∀ r ∈ rs.take k, r.g < x.1.g := fun r hr => by
   obtain ⟨j, hj, rfl⟩ := List.mem_take_iff_getElem.1 hr
   have h1 := (List.getElem?_eq_some_iff.1 hbx)
   obtain ⟨h2, h3⟩ := h1
   rw [← h3]
   exact List.pairwise_iff_getElem.1 hsort j k (by omega) h2 (by omega)
  have hst' := RSt.put (c := c) hst hlt (hq x (qs_mem hx))
  rw [← htk] at hst'
  refine At.nrm ?_
  refine At.zh (.q 0 (.q 1 (.n false 2 (.n true 3 .done)))) ?_
  refine AtT.qB Tryz.underlying22 qP ?_
  intro p14 e14 he14 hc14
  obtain rfl : x = e14 := by have : qs[k]? = some e14 := (by simpa using he14); rw [hx] at this; simpa using this
  first | refine AtT.zD qP ?_ | refine AtT.zI qP ?_ | refine AtT.zC qP ?_
  refine AtT.zT z80 ?_
  intro b5
  refine AtT.zF qP ?_
  refine AtT.done ?_
  refine At.nrm ?_
  refine At.nrm ?_
  refine At.draw (.q 0 (.q 1 (.q 2 (.q 3 (.q 4 (.q 5 (.q 6 (.q 7 (.q 8 (.n true 9 .done)))))))))) ffm (by kernel_rfl) ?_
  refine AtT.zf ?_
  refine AtT.jN ?_
  first | refine AtT.zk jc ?_ | with_reducible refine AtT.zl jc ?_ | refine AtT.zn jc ?_
  first | refine AtT.zm tk87 ?_ | refine AtT.zo tk87 ?_
  first | refine AtT.zk zY ?_ | with_reducible refine AtT.zl zY ?_ | refine AtT.zn zY ?_
  first | refine AtT.zm tk3 ?_ | refine AtT.zo tk3 ?_
  refine AtT.qG (bd92_0 _) ?_
  first | refine AtT.zk zL ?_ | with_reducible refine AtT.zl zL ?_ | refine AtT.zn zL ?_
  first | refine AtT.zm qL ?_ | refine AtT.zo qL ?_
  refine AtT.mapSet rfl trivial key92 x.1.g x Tryz.underlying87 rfl rfl rfl (by repeat first|exact Upd.here|apply Upd.there) ?_
  refine AtT.done ?_
  refine At.nrm ?_
  refine At.nrm ?_
  refine At.zh (.q 0 (.q 1 .done)) ?_
  first | refine AtT.qI ?_ | refine AtT.ql ?_
  refine AtT.zf ?_
  refine AtT.done ?_
  refine At.nrm ?_
  refine At.round (k + 1, (mput x.1.g x M c).1, (mput x.1.g x M c).2) ?_ ?_ ?_ ?_
  ·show qs.length - (k + 1) < qs.length - k; omega
  ·exact ⟨rfl, by dsimp only; omega, hst'⟩
  ·exact ⟨rfl, rfl, rfl, ivs (by dsimp only; omega), trivial⟩
  ·exact Pt.zZ
 obtain rfl : k = qs.length := by omega
 rw [hql, List.take_length] at hst
 refine At.nrm ?_
 refine At.zh (.q 0 (.q 1 .done)) ?_
 refine AtT.zf ?_
 refine AtT.ze ?_
 refine AtT.done ?_
 refine At.nrm ?_
 refine At.giveB (b := b6) zP.zH (fun V4 hV4 hb4 => ?_)
 exact At.ky rfl (.tmp rfl) ⟨b9, b6, b7, rfl, hV4, rfl, M, c, hb4, hst.le hV4⟩
theorem want_f {cx : Cx} {O : List Own} (M : MM Int Int) (c : Nat) (W : Nat → Int) (hW : WMap M c W) (g n : Int) (hg : 0 ≤ g ∧ g ≤ 7) (hfit : Fit (W g.toNat + n)) (b m2 : Nat) (m1 : Nat) (u1 u2 : Value) (V : View) (hb : StoV V b u1 u2 m1 m2) :
  FncM Tryz.prog cx 57 [.pointer (some ⟨b, 0, none⟩), iv g, iv n] (.blk m2 (qY ekT iv M c) :: O) V fun r O' V' => r = .tuple #[] ∧ V' = V ∧ O' = .blk m2 (qY ekT iv (mput g (W g.toNat + n) M c).1 (mput g (W g.toNat + n) M c).2) :: O := by
 have hat := hW.at hg.1
 have hb3 := hb.c3
 refine fncM_of Tryz.func57 rfl Tryz.ntmps57 (Nat.le_of_ble_eq_true rfl) ?_
 refine At.nrm ?_
 refine At.zh (.q 0 (.q 1 (.n false 2 (.n true 3 .done)))) ?_
 refine AtT.zf ?_
 refine AtT.qG (bd92_0 _) ?_
 refine AtT.zT z92 ?_
 intro b6
 refine AtT.zF tk92 ?_
 refine AtT.done ?_
 refine At.nrm ?_
 refine At.nrm ?_
 refine At.draw (.q 0 (.q 1 (.q 2 (.q 3 (.q 4 (.q 5 (.q 6 .done))))))) ffm (by kernel_rfl) ?_
 refine AtT.zf ?_
 refine AtT.jN ?_
 first | refine AtT.zk qV ?_ | with_reducible refine AtT.zl qV ?_ | refine AtT.zn qV ?_
 first | refine AtT.zm tk88 ?_ | refine AtT.zo tk88 ?_
 first | refine AtT.zD tk92 ?_ | refine AtT.zI tk92 ?_ | refine AtT.zC tk92 ?_
 refine AtT.lookupO rfl trivial key92 g (0 : Int) Tryz.underlying88 z2 rfl rfl rfl zP.zH (by decide) ?_
 rw [hat]
 refine AtT.ze ?_
 refine AtT.done ?_
 refine At.nrm ?_
 refine At.nrm ?_
 refine At.draw (.q 0 (.q 1 (.q 2 (.q 3 (.q 4 (.q 5 (.q 6 (.q 7 (.n true 8 .done))))))))) ffm (by kernel_rfl) ?_
 refine AtT.zf ?_
 refine AtT.jN ?_
 first | refine AtT.zk qV ?_ | with_reducible refine AtT.zl qV ?_ | refine AtT.zn qV ?_
 first | refine AtT.zm tk88 ?_ | refine AtT.zo tk88 ?_
 first | refine AtT.zD tk92 ?_ | refine AtT.zI tk92 ?_ | refine AtT.zC tk92 ?_
 refine AtT.zf ?_
 refine AtT.zf ?_
 refine AtT.add rfl trivial rfl rfl (by decide) hfit ?_
 refine AtT.mapSet rfl trivial key92 g (W g.toNat + n) Tryz.underlying88 rfl rfl rfl (by repeat first|exact Upd.here|apply Upd.there) ?_
 refine AtT.done ?_
 refine At.nrm ?_
 all_goals refine At.pt (O' := .blk m2 (qY ekT iv (mput g (W g.toNat + n) M c).1 (mput g (W g.toNat + n) M c).2) :: O) Pt.zZ ?_
 all_goals (exact At.retM0 (.inl rfl) rfl ⟨rfl, rfl, rfl⟩)
theorem split_f {cx : Cx} {O : List Own} (rs : List Rc) (hrs : qE (-1) rs) (M : MM Int Int) (c : Nat) (W : Nat → Int) (hW : WMap M c W) (g : Int) (hg : 0 ≤ g ∧ g ≤ 7) (B : Int) (hB : ∀ s, 0 ≤ W s ∧ W s ≤ B) (hB27 : 0 ≤ B ∧ B ≤ 90000000000000000) (b m1 m2 : Nat) (u1 u2 : Value) (V : View) (hb : StoV V b u1 u2 m1 m2) (hm1 : RMap V m1 rs) :
  FncM Tryz.prog cx 58 [.pointer (some ⟨b, 0, none⟩), iv g] (.blk m2 (qY ekT iv M c) :: O) V fun r O' V' => r = .tuple #[] ∧ V' = V ∧ ∃ M' c', O' = .blk m2 (qY ekT iv M' c') :: O ∧ WMap M' c' (jJ rs g.toNat W) ∧ (∀ s : Int, g ≤ s → (jK s M' = true ↔ (jK s M = true ∧ (s = g → partsOf rs g = [])))) := by
 have hat := hW.at hg.1
 have hb3 := hb.c3
 have hb2 := hb.c2
 have hgN : (g.toNat : Int) = g := Int.toNat_of_nonneg hg.1
 obtain ⟨Mr, cr, hr1, hr2⟩ := hm1
 obtain ⟨hr3, hr4⟩ := hr2 g
 have hrcs : rcs (qZ g zq Mr) = .slice (qZ g zq Mr).2.1 (partsOf rs g).length (qZ g zq Mr).2.2 := by
  show Value.slice _ (qZ g zq Mr).1.ps.length _ = _
  rw [hr3]
 rw [hrcs] at hr4
 have hWg := hB g.toNat
 have hpl := kz hrs g
 refine fncM_of Tryz.func58 rfl Tryz.ntmps58 (Nat.le_of_ble_eq_true rfl) ?_
 refine At.nrm ?_
 refine At.zh (.q 0 (.q 1 (.n false 2 (.n true 3 .done)))) ?_
 refine AtT.zf ?_
 refine AtT.qG (bd92_0 _) ?_
 refine AtT.zT z92 ?_
 intro b4
 refine AtT.zF tk92 ?_
 refine AtT.done ?_
 refine At.nrm ?_
 refine At.nrm ?_
 refine At.draw (.q 0 (.q 1 (.q 2 (.q 3 (.q 4 (.q 5 (.q 6 .done))))))) ffm (by kernel_rfl) ?_
 refine AtT.zf ?_
 refine AtT.jN ?_
 first | refine AtT.zk qV ?_ | with_reducible refine AtT.zl qV ?_ | refine AtT.zn qV ?_
 first | refine AtT.zm tk88 ?_ | refine AtT.zo tk88 ?_
 first | refine AtT.zD tk92 ?_ | refine AtT.zI tk92 ?_ | refine AtT.zC tk92 ?_
 refine AtT.lookupO rfl trivial key92 g (0 : Int) Tryz.underlying88 z2 rfl rfl rfl zP.zH (by decide) ?_
 rw [hat]
 refine AtT.ze ?_
 refine AtT.done ?_
 refine At.nrm ?_
 refine At.nrm ?_
 refine At.draw (.q 0 (.q 1 (.q 2 (.q 3 (.q 4 (.q 5 (.q 6 .done))))))) ffm (by kernel_rfl) ?_
 refine AtT.zf ?_
 refine AtT.jN ?_
 first | refine AtT.zk jc ?_ | with_reducible refine AtT.zl jc ?_ | refine AtT.zn jc ?_
 first | refine AtT.zm tk87 ?_ | refine AtT.zo tk87 ?_
 first | refine AtT.zD tk92 ?_ | refine AtT.zI tk92 ?_ | refine AtT.zC tk92 ?_
 refine AtT.lookupV rfl trivial key92 g zq Tryz.underlying87 z66 rfl rfl rfl hr1 (by decide) ?_
 refine AtT.ze ?_
 refine AtT.done ?_
 refine At.nrm ?_
 rw [hrcs]
 refine At.nrm ?_
 refine At.zh (.q 0 (.q 1 (.q 2 .done))) ?_
 refine AtT.zf ?_
 first | refine AtT.zR Tryz.underlying66 ?_ | refine AtT.zN Tryz.underlying66 ?_
 refine AtT.qJ ?_
 refine AtT.done ?_
 refine At.nrm ?_
 refine At.zX rfl (fun hp => ?_) (fun hp => ?_)
 rotate_left
 ·have hnil : partsOf rs g = [] := List.length_eq_zero_iff.1 (by omega)
  refine At.nrm ?_
  refine At.pt (O' := .blk m2 (qY ekT iv M c) :: O) Pt.zZ ?_
  refine At.retM0 (.inl rfl) rfl ⟨rfl, rfl, M, c, rfl, ?_, fun s _ => ⟨fun h => ⟨h, fun _ => hnil⟩, fun h => h.1⟩⟩
  unfold jJ
  rw [hgN, if_pos hnil]; exact hW
 have hne : partsOf rs g ≠ [] := fun h => by rw [h] at hp; simp at hp
 refine At.nrm ?_
 refine At.draw (.q 0 (.q 1 (.q 2 (.q 3 (.q 4 (.n true 5 .done)))))) ffm (by kernel_rfl) ?_
 refine AtT.zf ?_
 refine AtT.jN ?_
 first | refine AtT.zk qV ?_ | with_reducible refine AtT.zl qV ?_ | refine AtT.zn qV ?_
 first | refine AtT.zm tk88 ?_ | refine AtT.zo tk88 ?_
 first | refine AtT.zD tk92 ?_ | refine AtT.zI tk92 ?_ | refine AtT.zC tk92 ?_
 refine AtT.mapDel rfl trivial key92 g iv rfl Tryz.underlying88 rfl rfl (by repeat first|exact Upd.here|apply Upd.there) ?_
 refine AtT.done ?_
 refine At.nrm ?_
 refine At.nrm ?_
 refine At.zh (.q 0 (.q 1 (.q 2 .done))) ?_
 refine AtT.zf ?_
 first | refine AtT.zR Tryz.underlying66 ?_ | refine AtT.zN Tryz.underlying66 ?_
 refine AtT.zf ?_
 refine AtT.done ?_
 refine At.nrm ?_
 have hW0 := hW.del (g := g) hg.1
 refine At.lp (ι := Nat × MM Int Int × Nat) (KS := fun q => [(0, .pointer (some ⟨b, 0, none⟩)), (5, iv (W g.toNat)), (31, .slice (qZ g zq Mr).2.1 (partsOf rs g).length (qZ g zq Mr).2.2), (32, iv (partsOf rs g).length), (33, iv q.1)])
  (OS := fun q => .blk m2 (qY ekT iv q.2.1 q.2.2) :: O)
  (VS := fun q V' => V' = V ∧ q.1 ≤ (partsOf rs g).length ∧ WMap q.2.1 q.2.2 (zS (W g.toNat) ((partsOf rs g).take q.1) (upd W g.toNat 0)) ∧ (∀ s : Int, g ≤ s → (jK s q.2.1 = true ↔ (jK s M = true ∧ s ≠ g))) ∧ (∀ s, zS (W g.toNat) ((partsOf rs g).take q.1) (upd W g.toNat 0) s ≤ B + 9 * B * (q.1 : Int))) (μ := fun q => (partsOf rs g).length - q.1) (0, mdel g M, c) ?_ ?_ ?_ ?_
 ·exact ⟨rfl, rfl, rfl, rfl, rfl, trivial⟩
 ·exact Pt.zZ
 ·refine ⟨rfl, Nat.zero_le _, hW0, fun s _ => (mdel_has hW.ok.keys).trans and_comm, fun s => ?_⟩
  show upd W g.toNat 0 s ≤ B + 9 * B * ((0 : Nat) : Int)
  have := hB s
  unfold upd; split <;> simp <;> omega
 rintro ⟨j, Mj, cj⟩ V' ks' O' ⟨rfl, hjl, hWj, hkj, hbj⟩ hk hO hl2
 dsimp only at hjl hWj hkj hbj hk hO
 subst hk hO
 refine At.nrm ?_
 refine At.zh (.q 0 .done) ?_
 refine AtT.qp ?_
 refine AtT.done ?_
 refine At.nrm ?_
 refine At.zX rfl (fun hp2 => ?_) (fun hp2 => ?_)
 ·obtain ⟨p, hpj⟩ : ∃ p, (partsOf rs g)[j]? = some p := ⟨_, List.getElem?_eq_getElem (by omega)⟩
  have hpi := qj hrs (List.mem_of_getElem? hpj)
  have htk : (partsOf rs g).take (j + 1) = (partsOf rs g).take j ++ [p] := by
   rw [List.take_succ_eq_append_getElem (by omega)]; congr 1; rw [List.getElem?_eq_getElem (by omega)] at hpj; simpa using hpj
  have hm0 := Int.mul_nonneg hWg.1 (show 0 ≤ p.n by omega)
  have hm1 : W g.toNat * p.n ≤ B * 9 := Int.mul_le_mul hWg.2 (by omega) (by omega) hB27.1
  have hwj := hbj p.t.toNat
  have hw0 : 0 ≤ zS (W g.toNat) ((partsOf rs g).take j) (upd W g.toNat 0) p.t.toNat := by
   refine Int.le_trans ?_ (kF hWg.1 (fun q hq => by have := qj hrs (List.mem_of_mem_take hq); omega) _)
   have := hB p.t.toNat
   unfold upd; split <;> omega
  have hj3 : 9 * B * (j : Int) ≤ 9 * B * 2 := Int.mul_le_mul_of_nonneg_left (by omega) (by omega)
  have hsn := want_snoc (c := W g.toNat) (p := p) (ps := (partsOf rs g).take j) (W := upd W g.toNat 0)
  refine At.nrm ?_
  refine At.zh (.q 0 (.q 1 (.n false 2 (.n true 3 .done)))) ?_
  refine AtT.idx rfl trivial Tryz.underlying66 qX rfl hr4 rfl (by omega) (by omega) (by decide) ?_
  intro p35 e35 he35 hc35
  obtain rfl : p = e35 := by have : (partsOf rs g)[j]? = some e35 := (by simpa using he35); rw [hpj] at this; simpa using this
  first | refine AtT.zD qX ?_ | refine AtT.zI qX ?_ | refine AtT.zC qX ?_
  refine AtT.zT z69 ?_
  intro b8
  refine AtT.zF qX ?_
  refine AtT.done ?_
  refine At.nrm ?_
  refine At.nrm ?_
  refine At.zh (.q 0 (.q 1 (.q 2 (.q 3 (.q 4 (.q 5 (.q 6 (.n true 7 .done)))))))) ?_
  refine AtT.zf ?_
  first | refine AtT.zk zV ?_ | with_reducible refine AtT.zl zV ?_ | refine AtT.zn zV ?_
  first | refine AtT.zm tk3 ?_ | refine AtT.zo tk3 ?_
  refine AtT.zf ?_
  first | refine AtT.zk qc ?_ | with_reducible refine AtT.zl qc ?_ | refine AtT.zn qc ?_
  first | refine AtT.zm tk2 ?_ | refine AtT.zo tk2 ?_
  refine AtT.mul rfl trivial rfl rfl (by decide) (Fit.of (by omega) (by omega)) ?_
  refine AtT.jq rfl trivial rfl ok57 (by decide) (zP.perm zP.zH) (want_f Mj cj _ hWj p.t (W g.toNat * p.n) (by omega) (Fit.of (by omega) (by omega)) b m2 m1 u1 u2 _ hb) ?_
  rintro _ _ _ ⟨rfl, rfl, rfl⟩
  refine AtT.done ?_
  refine At.nrm ?_
  refine At.nrm ?_
  refine At.zh (.q 0 (.q 1 .done)) ?_
  first | refine AtT.qI ?_ | refine AtT.ql ?_
  refine AtT.zf ?_
  refine AtT.done ?_
  refine At.nrm ?_
  refine At.round (j + 1, (mput p.t (zS (W g.toNat) ((partsOf rs g).take j) (upd W g.toNat 0) p.t.toNat + W g.toNat * p.n) Mj cj).1, (mput p.t (zS (W g.toNat) ((partsOf rs g).take j) (upd W g.toNat 0) p.t.toNat + W g.toNat * p.n) Mj cj).2) ?_ ?_ ?_ ?_
  ·show (partsOf rs g).length - (j + 1) < (partsOf rs g).length - j; omega
  ·refine ⟨rfl, by dsimp only; omega, ?_, fun s hs => ?_, fun s => ?_⟩
   ·dsimp only; rw [htk, hsn]; exact hWj.put (by omega) _
   ·rw [mput_has]
    constructor
    ·rintro (h | h)
     ·omega
     ·exact (hkj s hs).1 h
    ·exact fun h => .inr ((hkj s hs).2 h)
   ·dsimp only
    rw [htk, hsn]
    have := hbj s
    have e9 : 9 * B * ((j + 1 : Nat) : Int) = 9 * B * (j : Int) + 9 * B := by push_cast; rw [Int.mul_add, Int.mul_one]
    rw [e9, qO]
    split
    ·omega
    ·omega
  ·exact ⟨rfl, rfl, rfl, rfl, ivs (by dsimp only; omega), trivial⟩
  ·exact Pt.zZ
 obtain rfl : j = (partsOf rs g).length := by omega
 rw [List.take_length] at hWj
 refine At.nrm ?_
 refine At.retM0 (.inl rfl) rfl ⟨rfl, rfl, Mj, cj, rfl, ?_, fun s hs => (hkj s hs).trans ⟨fun h => ⟨h.1, fun e => absurd e h.2⟩, fun h => ⟨h.1, fun e => hne (h.2 e)⟩⟩⟩
 unfold jJ
 rw [hgN, if_neg hne]; exact hWj
end Go.Proofs.YtpoignmclfdgpaaGreatDoor
set_option linter.unusedVariables false
namespace Go.Bk
open Go.Lw Go.Gl
def lessS (c : Int) (ps : List Pt) : Nat → Int := fun s => (ps.map fun p => if s = p.t.toNat then c * p.n else 0).sum
theorem lessS_zero {c : Int} {s : Nat} : ∀ {ps : List Pt}, (∀ p ∈ ps, s ≠ p.t.toNat) → lessS c ps s = 0
 | [], _ => rfl
 | p :: ps, h => by
  have := lessS_zero (c := c) (s := s) (ps := ps) fun q hq => h q (List.mem_cons_of_mem _ hq)
  unfold lessS at this ⊢
  rw [List.map_cons, List.sum_cons, this, if_neg (h p List.mem_cons_self)]; rfl
theorem lessS_snoc {c : Int} {ps : List Pt} {p : Pt} (h : ∀ q ∈ ps, p.t.toNat ≠ q.t.toNat) : lessS c (ps ++ [p]) = upd (lessS c ps) p.t.toNat (c * p.n) := by
 funext s
 rw [qO]
 unfold lessS
 rw [List.map_append, List.sum_append]
 simp only [List.map_cons, List.map_nil, List.sum_cons, List.sum_nil, Int.add_zero]
 by_cases e : s = p.t.toNat
 ·subst e
  have := lessS_zero (c := c) h
  unfold lessS at this
  rw [this, if_pos rfl, Int.zero_add]
 ·rw [if_neg e, if_neg e]; omega
theorem less_made {rs : List Rc} {e : En} (hk : e.k = 3) : less rs e = lessS e.n (partsOf rs e.t) := by
 funext s; unfold less lessS; rw [if_neg (by omega), if_pos hk]
theorem less_out {rs : List Rc} {e : En} (hk : e.k = 2) : less rs e = upd (fun _ => 0) e.t.toNat e.n := by
 funext s; unfold less upd; rw [if_pos hk]
theorem less_no {rs : List Rc} {e : En} (h2 : e.k ≠ 2) (h3 : e.k ≠ 3) : less rs e = fun _ => 0 := by
 funext s; unfold less; rw [if_neg h2, if_neg h3]
theorem more_yes {e : En} (hk : e.k = 1 ∨ e.k = 3) : more e = upd (fun _ => 0) e.t.toNat e.n := by
 funext s; unfold more upd; rw [if_pos hk]
theorem more_no {e : En} (hk : ¬ (e.k = 1 ∨ e.k = 3)) : more e = fun _ => 0 := by
 funext s; unfold more; rw [if_neg hk]
theorem pts_sorted {g : Int} : ∀ {ps : List Pt} {last : Int}, PtsOk g last ps → ps.Pairwise fun x y => x.t < y.t
 | [], last, _ => List.Pairwise.nil
 | x :: ps, last, h => by
  cases h with
  | cons h1 h2 => exact List.Pairwise.cons (fun y hy => (ptsOk_in h2 y hy).2.2.2.2.2) (pts_sorted h2)
theorem partsOf_sorted {rs : List Rc} (h : qE (-1) rs) (g : Int) : (partsOf rs g).Pairwise fun x y => x.t < y.t := by
 unfold partsOf
 split
 ·rename_i r hr
  exact pts_sorted (kG h r (List.mem_of_find?_eq_some hr)).ps
 ·exact List.Pairwise.nil
theorem parts_ne {rs : List Rc} (h : qE (-1) rs) {g : Int} {j : Nat} {p : Pt} (hp : (partsOf rs g)[j]? = some p) : ∀ q ∈ (partsOf rs g).take j, p.t.toNat ≠ q.t.toNat := fun q hq => by
 obtain ⟨i, hi, rfl⟩ := List.mem_take_iff_getElem.1 hq
 obtain ⟨hj, rfl⟩ := List.getElem?_eq_some_iff.1 hp
 have h1 := List.pairwise_iff_getElem.1 (partsOf_sorted h g) i j (by omega) hj (by omega)
 have h2 := qj h (g := g) (p := (partsOf rs g)[i]) (List.getElem_mem _)
 have h3 := qj h (g := g) (p := (partsOf rs g)[j]) (List.getElem_mem _)
 omega
abbrev ysC (es : List En) (first : Nat) : List (List Value) := (cntI es first).map fun i => [iv i]
theorem cntJ_pre (es : List En) (first : Nat) : ∀ (m n : Nat), n ≤ m → ∃ t, cntJ es first m = cntJ es first n ++ t
 | 0, n, h => by
   obtain rfl : n = 0 := by omega
   exact ⟨[], by simp⟩
 | m + 1, n, h => by
  by_cases e : n = m + 1
  ·subst e; exact ⟨[], by simp⟩
  ·obtain ⟨t, ht⟩ := cntJ_pre es first m n (by omega)
   cases hg : gone es first m with
   | true => exact ⟨t, by rw [cntJ_out hg]; exact ht⟩
   | false => exact ⟨t ++ [m], by rw [cntJ_in hg, ht, List.append_assoc]⟩
theorem ysC_at {es : List En} {first j : Nat} (hj : j < first) (h : gone es first j = false) : (ysC es first)[(cntJ es first j).length]? = some [iv j] := by
 obtain ⟨t, ht⟩ := cntJ_pre es first first (j + 1) (by omega)
 rw [cntJ_in h] at ht
 have e : (cntS es first)[(cntJ es first j).length]? = some j := by
  rw [← cntJ_all, ht, List.append_assoc, List.getElem?_append_right (Nat.le_refl _), Nat.sub_self]; rfl
 unfold ysC cntI
 rw [List.map_map, List.getElem?_map, e]; rfl
end Go.Bk
