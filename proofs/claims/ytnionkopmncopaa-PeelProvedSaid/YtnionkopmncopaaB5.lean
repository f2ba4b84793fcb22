/- Texts that the last one of this claim imports. -/
import Derived.Test.YtnionkopmncopaaB4
set_option linter.unusedVariables false
set_option linter.unusedSimpArgs false
set_option linter.unusedSectionVars false
set_option linter.unusedVariables false
namespace Go.Proofs.Ytnionkopmncopaa
open Go.Pl

theorem keeps_le {L : Lg} {c d h s : Rat} (hk : Keeps L c h s) (hd : d ≤ c) : Keeps L d h s := fun m hm => by
  have := hk m hm
  simp only [loq, hiq] at this ⊢
  exact ⟨by grind, by grind⟩

/-! ### What the program looks at -/
theorem gate_lo {L : Lg} (hL : LgOk L) (core : Int) {j : Nat} (hj : j < L.pl.length) : gate (gK L core L.pl.length) j = gateE core (edP L j) := by
  have := gK_at (core := core) hj (edP_at (L := L) (i := j) (by have := hL.el; omega))
  simp [gate, List.getD, this]
/-- The end of a gate, as a rational number. -/
theorem gEnd_q {L : Lg} (hL : LgOk L) (core : Int) {j : Nat} (hj : j < L.pl.length) (s : Nat) : ((gEnd L core j s : Int) : Rat) = if s = 0 then loq L core j else hiq L core j := by
  unfold gEnd
  rw [gate_lo hL core hj]
  split
  · simp only [gateE, loq]; push_cast; rfl
  · simp only [gateE, hiq]; push_cast; rfl
theorem wi_one (lo hi n : Int) : wi lo hi [n] = true ↔ lo ≤ n ∧ n ≤ hi := by
  simp [wi, outB]
theorem thru_iff {L : Lg} (hL : LgOk L) (core : Int) (wide : Int) (hf : Int → Int) : thruB L (gK L core L.pl.length) wide hf = true ↔ ∀ j : Nat, j < L.pl.length → ((edP L j).lo + core) * wide ≤ hf (plP L j) ∧ hf (plP L j) ≤ ((edP L j).hi - core) * wide := by
  unfold thruB
  rw [List.all_eq_true]
  constructor
  · intro h j hj
    have := h j (by simpa using hj)
    unfold testH at this
    rw [gate_lo hL core hj, wi_one] at this
    exact this
  · intro h j hj
    have hj' : j < L.pl.length := by simpa using hj
    unfold testH
    rw [gate_lo hL core hj', wi_one]
    exact h j hj'

/-- The heights of lines through two ends that keep the core. -/
def HAt (L : Lg) (core x : Int) (i k s t : Nat) (r : Rt) : Prop :=
  thruB L (gK L core L.pl.length) (plP L k - plP L i) (hgt L i k (gEnd L core i s) (gEnd L core k t)) = true ∧ r = rat (hgt L i k (gEnd L core i s) (gEnd L core k t) x) (plP L k - plP L i)
theorem hB_mem {L : Lg} {core x : Int} {i k s t : Nat} {r : Rt} : r ∈ hB L core x i k s t ↔ HAt L core x i k s t r := by
  unfold hB HAt
  split <;> rename_i h
  · simp [h]
  · simp [h]
theorem hT_mem {L : Lg} {core x : Int} {i k s : Nat} {r : Rt} : ∀ {m : Nat}, r ∈ hT L core x i k s m ↔ ∃ t, t < m ∧ HAt L core x i k s t r
  | 0 => by simp [hT]
  | m + 1 => by
    simp only [hT, List.mem_append, hT_mem (m := m), hB_mem]
    constructor
    · rintro (⟨t, h1, h2⟩ | h)
      · exact ⟨t, by omega, h2⟩
      · exact ⟨m, by omega, h⟩
    · rintro ⟨t, h1, h2⟩
      by_cases e : t = m
      · subst e; exact .inr h2
      · exact .inl ⟨t, by omega, h2⟩
theorem hS_mem {L : Lg} {core x : Int} {i k : Nat} {r : Rt} : ∀ {m : Nat}, r ∈ hS L core x i k m ↔ ∃ s t, s < m ∧ t < 2 ∧ HAt L core x i k s t r
  | 0 => by simp [hS]
  | m + 1 => by
    simp only [hS, List.mem_append, hS_mem (m := m), hT_mem]
    constructor
    · rintro (⟨s, t, h1, h2⟩ | ⟨t, h1, h2⟩)
      · exact ⟨s, t, by omega, h2⟩
      · exact ⟨m, t, by omega, h1, h2⟩
    · rintro ⟨s, t, h1, h2, h3⟩
      by_cases e : s = m
      · subst e; exact .inr ⟨t, h2, h3⟩
      · exact .inl ⟨s, t, by omega, h2, h3⟩
theorem hK_mem {L : Lg} {core x : Int} {i : Nat} {r : Rt} : ∀ {m : Nat}, r ∈ hK L core x i m ↔ ∃ k s t, i < k ∧ k < i + 1 + m ∧ s < 2 ∧ t < 2 ∧ HAt L core x i k s t r
  | 0 => by
    simp only [hK, List.not_mem_nil, false_iff]
    rintro ⟨k, s, t, h1, h2, _⟩; omega
  | m + 1 => by
    simp only [hK, List.mem_append, hK_mem (m := m), hS_mem]
    constructor
    · rintro (⟨k, s, t, h1, h2, h3⟩ | ⟨s, t, h1, h2, h3⟩)
      · exact ⟨k, s, t, h1, by omega, h3⟩
      · exact ⟨i + 1 + m, s, t, by omega, by omega, h1, h2, h3⟩
    · rintro ⟨k, s, t, h1, h2, h3⟩
      by_cases e : k = i + 1 + m
      · subst e; exact .inr ⟨s, t, h3⟩
      · exact .inl ⟨k, s, t, h1, by omega, h3⟩
theorem hI_mem {L : Lg} {core x : Int} {r : Rt} : ∀ {m : Nat}, m ≤ L.pl.length → (r ∈ hI L core x m ↔ ∃ i k s t, i < m ∧ i < k ∧ k < L.pl.length ∧ s < 2 ∧ t < 2 ∧ HAt L core x i k s t r)
  | 0, _ => by simp [hI]
  | m + 1, hm => by
    simp only [hI, List.mem_append, hI_mem (L := L) (core := core) (x := x) (m := m) (by omega), hK_mem]
    constructor
    · rintro (⟨i, k, s, t, h1, h2⟩ | ⟨k, s, t, h1, h2, h3⟩)
      · exact ⟨i, k, s, t, by omega, h2⟩
      · exact ⟨m, k, s, t, by omega, h1, by omega, h3⟩
    · rintro ⟨i, k, s, t, h1, h2, h3, h4⟩
      by_cases e : i = m
      · subst e; exact .inr ⟨k, s, t, h2, by omega, h4⟩
      · exact .inl ⟨i, k, s, t, by omega, h2, h3, h4⟩
theorem allH_mem {L : Lg} {core x : Int} {r : Rt} : r ∈ allH L core x ↔ ∃ i k s t, i < k ∧ k < L.pl.length ∧ s < 2 ∧ t < 2 ∧ HAt L core x i k s t r := by
  rw [show allH L core x = hI L core x L.pl.length from rfl, hI_mem (Nat.le_refl _)]
  constructor
  · rintro ⟨i, k, s, t, h1, h2⟩; exact ⟨i, k, s, t, h2⟩
  · rintro ⟨i, k, s, t, h1, h2, h3⟩; exact ⟨i, k, s, t, by omega, h1, h2, h3⟩

/-- Of each height a line is known that keeps the core. -/
theorem allH_line {L : Lg} (hL : LgOk L) {core x : Int} {r : Rt} (hr : r ∈ allH L core x) : Go.Pl.Can r ∧ ∃ h s, Keeps L core h s ∧ r.q = h + s * (x : Rat) := by
  obtain ⟨i, k, s, t, hik, hk, _, _, ht, rfl⟩ := allH_mem.1 hr
  have hlt := hL.plL (i := (i : Int)) (j := (k : Int)) (by omega) (by omega) (by omega)
  have hw : 0 < plP L k - plP L i := by omega
  refine ⟨rat_can hw, ?_⟩
  rw [thru_iff hL] at ht
  have hwp := cpos hw
  have hwn := cne hw
  let A : Rat := (gEnd L core i s : Int)
  let B : Rat := (gEnd L core k t : Int)
  let W : Rat := (plP L k - plP L i : Int)
  have hWd : W = (plP L k : Rat) - plP L i := by simp only [W]; push_cast; rfl
  have hW0 : W ≠ 0 := hwn
  have hg : ∀ y : Int, ((hgt L i k (gEnd L core i s) (gEnd L core k t) y : Int) : Rat) = ((A - (B - A) / W * plP L i) + (B - A) / W * y) * W := fun y => by
    have e : (B - A) / W * W = B - A := by grind
    have e2 : ((hgt L i k (gEnd L core i s) (gEnd L core k t) y : Int) : Rat) = A * ((plP L k : Rat) - y) + B * ((y : Rat) - plP L i) := by unfold hgt; push_cast; rfl
    rw [e2]; grind
  refine ⟨A - (B - A) / W * plP L i, (B - A) / W, fun j hj => ?_, ?_⟩
  · have h1 := ht j hj
    have h1a : ((((edP L j).lo + core) * (plP L k - plP L i) : Int) : Rat) ≤ ((hgt L i k (gEnd L core i s) (gEnd L core k t) (plP L j) : Int) : Rat) := by exact_mod_cast h1.1
    have h1b : ((hgt L i k (gEnd L core i s) (gEnd L core k t) (plP L j) : Int) : Rat) ≤ ((((edP L j).hi - core) * (plP L k - plP L i) : Int) : Rat) := by exact_mod_cast h1.2
    rw [hg] at h1a h1b
    constructor
    · refine rle_of (c := W) ?_ hwp
      simp only [loq, Xq]
      have : ((((edP L j).lo + core) * (plP L k - plP L i) : Int) : Rat) = (((edP L j).lo : Rat) + core) * W := by simp only [W]; push_cast; rfl
      rw [← this]; exact h1a
    · refine rle_of (c := W) ?_ hwp
      simp only [hiq, Xq]
      have : ((((edP L j).hi - core) * (plP L k - plP L i) : Int) : Rat) = (((edP L j).hi : Rat) - core) * W := by simp only [W]; push_cast; rfl
      rw [← this]; exact h1b
  · rw [rat_q hw, hg]
    show _ * W / W = _
    grind
/-- A line through two ends that keeps the core is looked at. -/
theorem line_allH {L : Lg} (hL : LgOk L) {core x : Int} {h s : Rat} {i k : Nat} (hik : i < k) (hk : k < L.pl.length) (hkeep : Keeps L core h s)
    (ei : EndL (Xq L) (loq L core) (hiq L core) h s i) (ek : EndL (Xq L) (loq L core) (hiq L core) h s k) : ∃ r ∈ allH L core x, r.q = h + s * (x : Rat) := by
  have hlt := hL.plL (i := (i : Int)) (j := (k : Int)) (by omega) (by omega) (by omega)
  have hw : 0 < plP L k - plP L i := by omega
  have hwp := cpos hw
  have hwn := cne hw
  have hend : ∀ j : Nat, j < L.pl.length → EndL (Xq L) (loq L core) (hiq L core) h s j → ∃ t : Nat, t < 2 ∧ ((gEnd L core j t : Int) : Rat) = h + s * Xq L j := fun j hj hi => by
    rcases hi with e | e
    · exact ⟨0, by omega, by rw [e, gEnd_q hL core hj]; rfl⟩
    · exact ⟨1, by omega, by rw [e, gEnd_q hL core hj]; rfl⟩
  obtain ⟨a, ha, ea⟩ := hend i (by omega) ei
  obtain ⟨b, hb, eb⟩ := hend k hk ek
  have hWd : ((plP L k - plP L i : Int) : Rat) = (plP L k : Rat) - plP L i := by push_cast; rfl
  have hg : ∀ y : Int, ((hgt L i k (gEnd L core i a) (gEnd L core k b) y : Int) : Rat) = (h + s * (y : Rat)) * ((plP L k - plP L i : Int) : Rat) := fun y => by
    have e2 : ((hgt L i k (gEnd L core i a) (gEnd L core k b) y : Int) : Rat) = ((gEnd L core i a : Int) : Rat) * ((plP L k : Rat) - y) + ((gEnd L core k b : Int) : Rat) * ((y : Rat) - plP L i) := by unfold hgt; push_cast; rfl
    rw [e2, ea, eb, hWd]
    simp only [Xq]
    grind
  refine ⟨_, allH_mem.2 ⟨i, k, a, b, hik, hk, ha, hb, ?_, rfl⟩, ?_⟩
  · rw [thru_iff hL]
    intro j hj
    have hj' := hkeep j hj
    simp only [loq, hiq, Xq] at hj'
    have k1 := rmul_le hj'.1 (c := ((plP L k - plP L i : Int) : Rat)) (by grind)
    have k2 := rmul_le hj'.2 (c := ((plP L k - plP L i : Int) : Rat)) (by grind)
    rw [← hg] at k1 k2
    exact ⟨by exact_mod_cast k1, by exact_mod_cast k2⟩
  · rw [rat_q hw, hg]
    grind
end Go.Proofs.Ytnionkopmncopaa
set_option linter.unusedVariables false
namespace Go.Proofs.Ytnionkopmncopaa
open Go.Pl

/-! ### The greatest, or the least, of what was met -/
def MaxOf (C : Rat → Prop) (r : Rt) : Prop := (r.den = 0 ∧ r.num = 0 ∧ ∀ z, ¬ C z) ∨ (Go.Pl.Can r ∧ C r.q ∧ ∀ z, C z → z ≤ r.q)
def MinOf (C : Rat → Prop) (r : Rt) : Prop := (r.den = 0 ∧ r.num = 0 ∧ ∀ z, ¬ C z) ∨ (Go.Pl.Can r ∧ C r.q ∧ ∀ z, C z → r.q ≤ z)
theorem MaxOf.iff {C D : Rat → Prop} {r : Rt} (h : MaxOf C r) (e : ∀ z, C z ↔ D z) : MaxOf D r := by
  obtain rfl : C = D := funext fun z => propext (e z); exact h
theorem MinOf.iff {C D : Rat → Prop} {r : Rt} (h : MinOf C r) (e : ∀ z, C z ↔ D z) : MinOf D r := by
  obtain rfl : C = D := funext fun z => propext (e z); exact h

/-- What a pair says. -/
def pz (p q : Bd) : Rat := (prB p q : Rat) / (prA p q : Rat)
theorem neg_q {p q : Bd} (h : prA p q < 0) : (rat (-prB p q) (-prA p q)).q = pz p q := by
  rw [rat_q (by omega)]
  unfold pz
  have : ((prA p q : Int) : Rat) ≠ 0 := by
    have := cne (d := -prA p q) (by omega)
    push_cast at this; grind
  push_cast
  grind
theorem step_max {p q : Bd} {s : Rt × Rt} {C : Rat → Prop} (h : MaxOf C s.1) : MaxOf (fun z => C z ∨ (prA p q < 0 ∧ z = pz p q)) (stepH p q s).1 := by
  by_cases c : prA p q < 0
  · have hn := neg_q c
    have hc := rat_can (n := -prB p q) (d := -prA p q) (by omega)
    rcases h with ⟨h1, h1', h2⟩ | ⟨h1, h2, h3⟩
    · have e : (stepH p q s).1 = rat (-prB p q) (-prA p q) := by unfold stepH; exact if_pos ⟨c, .inl h1⟩
      rw [e]
      refine .inr ⟨hc, .inr ⟨c, hn⟩, fun z hz => ?_⟩
      rcases hz with hz | hz
      · exact absurd hz (h2 z)
      · rw [hn, hz.2]; exact Rat.le_refl
    · have hl := lessB_q h1.pos hc.pos
      by_cases d : lessB s.1 (rat (-prB p q) (-prA p q)) = true
      · have e : (stepH p q s).1 = rat (-prB p q) (-prA p q) := by unfold stepH; exact if_pos ⟨c, .inr d⟩
        rw [e]
        have := hl.1 d
        refine .inr ⟨hc, .inr ⟨c, hn⟩, fun z hz => ?_⟩
        rcases hz with hz | hz
        · have := h3 z hz; grind
        · rw [hn, hz.2]; exact Rat.le_refl
      · have e : (stepH p q s).1 = s.1 := by
          unfold stepH
          refine if_neg ?_
          rintro ⟨_, h | h⟩
          · have := h1.pos; omega
          · exact d h
        rw [e]
        have : ¬ s.1.q < (rat (-prB p q) (-prA p q)).q := fun k => d (hl.2 k)
        refine .inr ⟨h1, .inl h2, fun z hz => ?_⟩
        rcases hz with hz | hz
        · exact h3 z hz
        · rw [hz.2, ← hn]; grind
  · have e : (stepH p q s).1 = s.1 := by unfold stepH; exact if_neg fun h => c h.1
    rw [e]
    exact h.iff fun z => ⟨.inl, fun h => h.elim id fun h => absurd h.1 c⟩
theorem step_min {p q : Bd} {s : Rt × Rt} {C : Rat → Prop} (h : MinOf C s.2) : MinOf (fun z => C z ∨ (0 < prA p q ∧ z = pz p q)) (stepH p q s).2 := by
  by_cases c : 0 < prA p q
  · have hn : (rat (prB p q) (prA p q)).q = pz p q := rat_q c
    have hc := rat_can (n := prB p q) c
    rcases h with ⟨h1, h1', h2⟩ | ⟨h1, h2, h3⟩
    · have e : (stepH p q s).2 = rat (prB p q) (prA p q) := by unfold stepH; exact if_pos ⟨c, .inl h1⟩
      rw [e]
      refine .inr ⟨hc, .inr ⟨c, hn⟩, fun z hz => ?_⟩
      rcases hz with hz | hz
      · exact absurd hz (h2 z)
      · rw [hn, hz.2]; exact Rat.le_refl
    · have hl := lessB_q hc.pos h1.pos
      by_cases d : lessB (rat (prB p q) (prA p q)) s.2 = true
      · have e : (stepH p q s).2 = rat (prB p q) (prA p q) := by unfold stepH; exact if_pos ⟨c, .inr d⟩
        rw [e]
        have := hl.1 d
        refine .inr ⟨hc, .inr ⟨c, hn⟩, fun z hz => ?_⟩
        rcases hz with hz | hz
        · have := h3 z hz; grind
        · rw [hn, hz.2]; exact Rat.le_refl
      · have e : (stepH p q s).2 = s.2 := by
          unfold stepH
          refine if_neg ?_
          rintro ⟨_, h | h⟩
          · have := h1.pos; omega
          · exact d h
        rw [e]
        have : ¬ (rat (prB p q) (prA p q)).q < s.2.q := fun k => d (hl.2 k)
        refine .inr ⟨h1, .inl h2, fun z hz => ?_⟩
        rcases hz with hz | hz
        · exact h3 z hz
        · rw [hz.2, ← hn]; grind
  · have e : (stepH p q s).2 = s.2 := by unfold stepH; exact if_neg fun h => c h.1
    rw [e]
    exact h.iff fun z => ⟨.inl, fun h => h.elim id fun h => absurd h.1 c⟩
theorem row_max {p : Bd} : ∀ {l : List Bd} {s : Rt × Rt} {C : Rat → Prop}, MaxOf C s.1 → MaxOf (fun z => C z ∨ ∃ q ∈ l, prA p q < 0 ∧ z = pz p q) (rowH p l s).1
  | [], s, C, h => h.iff fun z => by simp
  | q :: l, s, C, h => (row_max (l := l) (step_max (p := p) (q := q) h)).iff fun z => by simp [or_assoc]
theorem row_min {p : Bd} : ∀ {l : List Bd} {s : Rt × Rt} {C : Rat → Prop}, MinOf C s.2 → MinOf (fun z => C z ∨ ∃ q ∈ l, 0 < prA p q ∧ z = pz p q) (rowH p l s).2
  | [], s, C, h => h.iff fun z => by simp
  | q :: l, s, C, h => (row_min (l := l) (step_min (p := p) (q := q) h)).iff fun z => by simp [or_assoc]
theorem all_max {qs : List Bd} : ∀ {l : List Bd} {s : Rt × Rt} {C : Rat → Prop}, MaxOf C s.1 → MaxOf (fun z => C z ∨ ∃ p ∈ l, ∃ q ∈ qs, prA p q < 0 ∧ z = pz p q) (allR qs l s).1
  | [], s, C, h => h.iff fun z => by simp
  | p :: l, s, C, h => (all_max (l := l) (row_max (p := p) (l := qs) h)).iff fun z => by simp [or_assoc]
theorem all_min {qs : List Bd} : ∀ {l : List Bd} {s : Rt × Rt} {C : Rat → Prop}, MinOf C s.2 → MinOf (fun z => C z ∨ ∃ p ∈ l, ∃ q ∈ qs, 0 < prA p q ∧ z = pz p q) (allR qs l s).2
  | [], s, C, h => h.iff fun z => by simp
  | p :: l, s, C, h => (all_min (l := l) (row_min (p := p) (l := qs) h)).iff fun z => by simp [or_assoc]

theorem zero_max {L : Lg} (hL : LgOk L) {core x : Int} : ∀ k, k ≤ L.pl.length → MaxOf (fun z => ∃ i : Nat, i < k ∧ plP L i = x ∧ z = loq L core i) (zeroK L core x k).1 ∧ MinOf (fun z => ∃ i : Nat, i < k ∧ plP L i = x ∧ z = hiq L core i) (zeroK L core x k).2
  | 0, _ => ⟨.inl ⟨rfl, rfl, fun z ⟨i, h, _⟩ => by omega⟩, .inl ⟨rfl, rfl, fun z ⟨i, h, _⟩ => by omega⟩⟩
  | k + 1, hk => by
    by_cases c : plP L k = x
    · have one : ∀ i : Nat, i < k + 1 → plP L i = x → i = k := fun i h1 h2 => by
        by_cases e : i = k
        · exact e
        · have := hL.plL (i := (i : Int)) (j := (k : Int)) (by omega) (by omega) (by omega)
          omega
      have q1 : (rat ((edP L k).lo + core) 1).q = loq L core k := by rw [rat_q (by decide)]; simp only [loq]; push_cast; grind
      have q2 : (rat ((edP L k).hi - core) 1).q = hiq L core k := by rw [rat_q (by decide)]; simp only [hiq]; push_cast; grind
      simp only [zeroK, if_pos c]
      refine ⟨.inr ⟨rat_can (by decide), ⟨k, by omega, c, q1⟩, ?_⟩, .inr ⟨rat_can (by decide), ⟨k, by omega, c, q2⟩, ?_⟩⟩
      · rintro z ⟨i, h1, h2, rfl⟩
        obtain rfl := one i h1 h2
        rw [q1]; exact Rat.le_refl
      · rintro z ⟨i, h1, h2, rfl⟩
        obtain rfl := one i h1 h2
        rw [q2]; exact Rat.le_refl
    · have ih := zero_max hL (core := core) (x := x) k (by omega)
      simp only [zeroK, if_neg c]
      have e : ∀ (f : Nat → Rat) (z : Rat), (∃ i : Nat, i < k ∧ plP L i = x ∧ z = f i) ↔ ∃ i : Nat, i < k + 1 ∧ plP L i = x ∧ z = f i := fun f z => by
        constructor
        · rintro ⟨i, h1, h2⟩; exact ⟨i, by omega, h2⟩
        · rintro ⟨i, h1, h2, h3⟩
          by_cases e : i = k
          · subst e; exact absurd h2 c
          · exact ⟨i, by omega, h2, h3⟩
      exact ⟨ih.1.iff (e _), ih.2.iff (e _)⟩

/-! ### Lines as heights at a number, and steps -/
def LeC (p : Bd) (y s : Rat) : Prop := (p.start : Rat) + p.slope * y ≤ p.den * s
def MoC (q : Bd) (y s : Rat) : Prop := (q.den : Rat) * s ≤ q.start + q.slope * y
theorem dq {L : Lg} {x : Int} (i : Nat) : ((plP L i - x : Int) : Rat) = Xq L i - x := by simp only [Xq]; push_cast; rfl
theorem cpos' {d : Int} (h : d < 0) : (d : Rat) < 0 := by have := cpos (d := -d) (by omega); push_cast at this; grind

theorem least_iff {L : Lg} {core x : Int} {i : Nat} {p : Bd} (hp : p ∈ leastO L core x i) (y s : Rat) :
    (0 < plP L i - x ∧ p = ⟨plP L i - x, (edP L i).lo + core, -1⟩ ∧ (LeC p y s ↔ loq L core i ≤ y + s * (Xq L i - x)) ∧ ((p.start : Rat) + p.slope * y = p.den * s → y + s * (Xq L i - x) = loq L core i)) ∨
    (plP L i - x < 0 ∧ p = ⟨-(plP L i - x), -((edP L i).hi - core), 1⟩ ∧ (LeC p y s ↔ y + s * (Xq L i - x) ≤ hiq L core i) ∧ ((p.start : Rat) + p.slope * y = p.den * s → y + s * (Xq L i - x) = hiq L core i)) := by
  unfold leastO at hp
  split at hp
  · rename_i c
    simp at hp; subst hp
    refine .inl ⟨c, rfl, ?_, ?_⟩
    · simp only [LeC, loq, dq]; push_cast
      constructor <;> intro h <;> grind
    · simp only [loq, dq]; push_cast; intro h; grind
  · split at hp
    · rename_i c
      simp at hp; subst hp
      refine .inr ⟨c, rfl, ?_, ?_⟩
      · have e : ((-(plP L i - x) : Int) : Rat) = -(Xq L i - x) := by rw [Rat.intCast_neg, dq]
        simp only [LeC, hiq]; rw [e]; push_cast
        constructor <;> intro h <;> grind
      · have e : ((-(plP L i - x) : Int) : Rat) = -(Xq L i - x) := by rw [Rat.intCast_neg, dq]
        simp only [hiq]; rw [e]; push_cast; intro h; grind
    · cases hp
theorem most_iff {L : Lg} {core x : Int} {i : Nat} {p : Bd} (hp : p ∈ mostO L core x i) (y s : Rat) :
    (0 < plP L i - x ∧ p = ⟨plP L i - x, (edP L i).hi - core, -1⟩ ∧ (MoC p y s ↔ y + s * (Xq L i - x) ≤ hiq L core i) ∧ ((p.start : Rat) + p.slope * y = p.den * s → y + s * (Xq L i - x) = hiq L core i)) ∨
    (plP L i - x < 0 ∧ p = ⟨-(plP L i - x), -((edP L i).lo + core), 1⟩ ∧ (MoC p y s ↔ loq L core i ≤ y + s * (Xq L i - x)) ∧ ((p.start : Rat) + p.slope * y = p.den * s → y + s * (Xq L i - x) = loq L core i)) := by
  unfold mostO at hp
  split at hp
  · rename_i c
    simp at hp; subst hp
    refine .inl ⟨c, rfl, ?_, ?_⟩
    · simp only [MoC, hiq, dq]; push_cast
      constructor <;> intro h <;> grind
    · simp only [hiq, dq]; push_cast; intro h; grind
  · split at hp
    · rename_i c
      simp at hp; subst hp
      refine .inr ⟨c, rfl, ?_, ?_⟩
      · have e : ((-(plP L i - x) : Int) : Rat) = -(Xq L i - x) := by rw [Rat.intCast_neg, dq]
        simp only [MoC, loq]; rw [e]; push_cast
        constructor <;> intro h <;> grind
      · have e : ((-(plP L i - x) : Int) : Rat) = -(Xq L i - x) := by rw [Rat.intCast_neg, dq]
        simp only [loq]; rw [e]; push_cast; intro h; grind
    · cases hp
theorem leastO_ex {L : Lg} {core x : Int} {i : Nat} (h : plP L i - x ≠ 0) : (∃ p, p ∈ leastO L core x i) ∧ ∃ p, p ∈ mostO L core x i := by
  unfold leastO mostO
  by_cases c : 0 < plP L i - x
  · rw [if_pos c, if_pos c]; exact ⟨⟨_, List.mem_singleton.2 rfl⟩, ⟨_, List.mem_singleton.2 rfl⟩⟩
  · rw [if_neg c, if_neg c, if_pos (by omega), if_pos (by omega)]; exact ⟨⟨_, List.mem_singleton.2 rfl⟩, ⟨_, List.mem_singleton.2 rfl⟩⟩

/-- A line keeps the core just if it meets all that is asked. -/
theorem keeps_cons {L : Lg} {core x : Int} (y s : Rat) : Keeps L core (y - s * x) s ↔ (∀ p ∈ leastK L core x L.pl.length, LeC p y s) ∧ (∀ q ∈ mostK L core x L.pl.length, MoC q y s) ∧ ∀ i : Nat, i < L.pl.length → plP L i = x → loq L core i ≤ y ∧ y ≤ hiq L core i := by
  have ev : ∀ i, y - s * (x : Rat) + s * Xq L i = y + s * (Xq L i - x) := fun i => by grind
  constructor
  · intro h
    refine ⟨fun p hp => ?_, fun p hp => ?_, fun i hi hx => ?_⟩
    · obtain ⟨i, hi, hp⟩ := leastK_of hp
      have := h i hi
      rw [ev] at this
      rcases least_iff hp y s with ⟨_, _, h1, _⟩ | ⟨_, _, h1, _⟩
      · exact h1.2 this.1
      · exact h1.2 this.2
    · obtain ⟨i, hi, hp⟩ := mostK_of hp
      have := h i hi
      rw [ev] at this
      rcases most_iff hp y s with ⟨_, _, h1, _⟩ | ⟨_, _, h1, _⟩
      · exact h1.2 this.2
      · exact h1.2 this.1
    · have := h i hi
      have e : Xq L i = (x : Rat) := by simp only [Xq]; rw [hx]
      rw [e] at this
      have e2 : y - s * (x : Rat) + s * (x : Rat) = y := by grind
      rw [e2] at this
      exact this
  · rintro ⟨h1, h2, h3⟩ i hi
    rw [ev]
    by_cases c : plP L i - x = 0
    · have hx : plP L i = x := by omega
      have := h3 i hi hx
      have e : Xq L i - (x : Rat) = 0 := by simp only [Xq]; rw [hx]; grind
      rw [e]
      have e2 : y + s * 0 = y := by grind
      rw [e2]; exact this
    · obtain ⟨⟨p, hp⟩, q, hq⟩ := leastO_ex (L := L) (core := core) c
      have a := h1 p (leastK_has hp hi)
      have b := h2 q (mostK_has hq hi)
      rcases least_iff hp y s with ⟨c1, _, g1, _⟩ | ⟨c1, _, g1, _⟩ <;> rcases most_iff hq y s with ⟨c2, _, g2, _⟩ | ⟨c2, _, g2, _⟩
      · exact ⟨g1.1 a, g2.1 b⟩
      · omega
      · omega
      · exact ⟨g2.1 b, g1.1 a⟩
theorem keeps_cons' {L : Lg} {core x : Int} (h s : Rat) : Keeps L core h s → (∀ p ∈ leastK L core x L.pl.length, LeC p (h + s * x) s) ∧ (∀ q ∈ mostK L core x L.pl.length, MoC q (h + s * x) s) ∧ ∀ i : Nat, i < L.pl.length → plP L i = x → loq L core i ≤ h + s * x ∧ h + s * x ≤ hiq L core i := fun hk => by
  rw [← keeps_cons]
  have : h + s * (x : Rat) - s * x = h := by grind
  rw [this]; exact hk

/-! ### Pairs -/
def PairC (p q : Bd) (y : Rat) : Prop := (prA p q : Rat) * y ≤ (prB p q : Rat)
theorem prA_q (p q : Bd) : ((prA p q : Int) : Rat) = (p.slope : Rat) * q.den - q.slope * p.den := by unfold prA; push_cast; rfl
theorem prB_q (p q : Bd) : ((prB p q : Int) : Rat) = (q.start : Rat) * p.den - p.start * q.den := by unfold prB; push_cast; rfl
theorem pair_of {p q : Bd} (hp : 0 < p.den) (hq : 0 < q.den) {y s : Rat} (h1 : LeC p y s) (h2 : MoC q y s) : PairC p q y := by
  unfold LeC MoC at *
  unfold PairC
  rw [prA_q, prB_q]
  have k1 := rmul_le h1 (c := (q.den : Rat)) (by have := cpos hq; grind)
  have k2 := rmul_le h2 (c := (p.den : Rat)) (by have := cpos hp; grind)
  grind
theorem pair_lt {p q : Bd} (h : prA p q < 0) (y : Rat) : PairC p q y ↔ pz p q ≤ y := by
  have hn := cpos' h
  have h0 : (prA p q : Rat) ≠ 0 := by grind
  have e : pz p q * (prA p q : Rat) = prB p q := by unfold pz; grind
  unfold PairC
  constructor
  · intro k
    refine rle_of (c := -(prA p q : Rat)) ?_ (by grind)
    grind
  · intro k
    have := rmul_le k (c := -(prA p q : Rat)) (by grind)
    grind
theorem pair_gt {p q : Bd} (h : 0 < prA p q) (y : Rat) : PairC p q y ↔ y ≤ pz p q := by
  have hn := cpos h
  have h0 : (prA p q : Rat) ≠ 0 := by grind
  have e : pz p q * (prA p q : Rat) = prB p q := by unfold pz; grind
  unfold PairC
  constructor
  · intro k
    refine rle_of (c := (prA p q : Rat)) ?_ hn
    grind
  · intro k
    have := rmul_le k (c := (prA p q : Rat)) (by grind)
    grind
theorem pair_eq {p q : Bd} (h : prA p q = 0) {y y' : Rat} (k : PairC p q y) : PairC p q y' := by
  unfold PairC at *
  rw [h] at *
  grind
end Go.Proofs.Ytnionkopmncopaa
set_option linter.unusedVariables false
namespace Go.Proofs.Ytnionkopmncopaa
open Go.Pl

theorem list_max {α : Type} (f : α → Rat) : ∀ (l : List α), l ≠ [] → ∃ a ∈ l, ∀ b ∈ l, f b ≤ f a
  | [], h => absurd rfl h
  | [a], _ => ⟨a, by simp, fun b hb => by simp at hb; subst hb; exact Rat.le_refl⟩
  | a :: b :: l, _ => by
    obtain ⟨c, hc, hm⟩ := list_max f (b :: l) (by simp)
    by_cases h : f c ≤ f a
    · refine ⟨a, by simp, fun d hd => ?_⟩
      rcases List.mem_cons.1 hd with rfl | hd
      · exact Rat.le_refl
      · exact Rat.le_trans (hm d hd) h
    · refine ⟨c, List.mem_cons_of_mem _ hc, fun d hd => ?_⟩
      rcases List.mem_cons.1 hd with rfl | hd
      · grind
      · exact hm d hd

theorem pl1 {a b d e f g y s : Rat} (h : (b * g - f * d) * y ≤ e * d - a * g) (hs : g * s = e + f * y) : (a + b * y) * g ≤ d * s * g := by
  have e1 : d * s * g = d * (e + f * y) := by rw [← hs]; grind
  rw [e1]; grind
theorem pl2 {a b d e f g y s : Rat} (h : (b * g - f * d) * y ≤ e * d - a * g) (hs : d * s = a + b * y) : (g * s) * d ≤ (e + f * y) * d := by
  have e1 : g * s * d = g * (a + b * y) := by rw [← hs]; grind
  rw [e1]; grind

/-- A height at which nothing speaks against it, and something is tight, is that of a line that is looked at. -/
theorem attain {L : Lg} (hL : LgOk L) {core x : Int} (hcb : -2000 ≤ core ∧ core ≤ 2000) (hxb : 0 ≤ x ∧ x ≤ 100) {y : Rat}
    (hpair : ∀ p ∈ leastK L core x L.pl.length, ∀ q ∈ mostK L core x L.pl.length, PairC p q y) (hz : ∀ i : Nat, i < L.pl.length → plP L i = x → loq L core i ≤ y ∧ y ≤ hiq L core i)
    (ht : (∃ p ∈ leastK L core x L.pl.length, ∃ q ∈ mostK L core x L.pl.length, prA p q ≠ 0 ∧ y = pz p q) ∨ ∃ i : Nat, i < L.pl.length ∧ plP L i = x ∧ (y = loq L core i ∨ y = hiq L core i)) :
    ∃ r ∈ allH L core x, r.q = y := by
  have hn2 := hL.n2
  have fin : ∀ (s : Rat) (i k : Nat), i ≠ k → i < L.pl.length → k < L.pl.length → Keeps L core (y - s * x) s → EndL (Xq L) (loq L core) (hiq L core) (y - s * x) s i → EndL (Xq L) (loq L core) (hiq L core) (y - s * x) s k → ∃ r ∈ allH L core x, r.q = y := by
    intro s i k hne hi hk hkeep ei ek
    have e : y - s * (x : Rat) + s * x = y := by grind
    rcases Nat.lt_or_gt_of_ne hne with c | c
    · obtain ⟨r, h1, h2⟩ := line_allH hL (x := x) c hk hkeep ei ek
      exact ⟨r, h1, by rw [h2, e]⟩
    · obtain ⟨r, h1, h2⟩ := line_allH hL (x := x) c hi hkeep ek ei
      exact ⟨r, h1, by rw [h2, e]⟩
  have ev : ∀ (s : Rat) (i : Nat), y - s * (x : Rat) + s * Xq L i = y + s * (Xq L i - x) := fun s i => by grind
  rcases ht with ⟨p, hp, q, hq, hA, hy⟩ | ⟨z, hzn, hzx, hy⟩
  · have pB := leastK_bd hL hcb hxb hp
    have qB := mostK_bd hL hcb hxb hq
    have pd := cpos pB.1
    have qd := cpos qB.1
    have hA0 : (prA p q : Rat) ≠ 0 := by exact_mod_cast hA
    have hAy : (prA p q : Rat) * y = prB p q := by rw [hy]; unfold pz; grind
    rw [prA_q, prB_q] at hAy
    obtain ⟨s, hs⟩ : ∃ s : Rat, (p.den : Rat) * s = p.start + p.slope * y := ⟨((p.start : Rat) + p.slope * y) / p.den, by grind⟩
    have hs2 : (q.den : Rat) * s = q.start + q.slope * y := by
      have : ((q.den : Rat) * s) * p.den = (q.start + q.slope * y) * p.den := by grind
      have k1 := rle_of (a := (q.den : Rat) * s) (b := q.start + q.slope * y) (by rw [this]; exact Rat.le_refl) pd
      have k2 := rle_of (a := q.start + q.slope * y) (b := (q.den : Rat) * s) (by rw [this]; exact Rat.le_refl) pd
      grind
    have hkeep : Keeps L core (y - s * x) s := by
      rw [keeps_cons]
      refine ⟨fun p' hp' => ?_, fun q' hq' => ?_, hz⟩
      · have := hpair p' hp' q hq
        unfold PairC at this
        rw [prA_q, prB_q] at this
        exact rle_of (pl1 this hs2) qd
      · have := hpair p hp q' hq'
        unfold PairC at this
        rw [prA_q, prB_q] at this
        exact rle_of (pl2 this hs) pd
    obtain ⟨i, hi, hpi⟩ := leastK_of hp
    obtain ⟨k, hk, hqk⟩ := mostK_of hq
    have hne : i ≠ k := by
      rintro rfl
      rcases least_iff hpi y s with ⟨c1, rfl, _⟩ | ⟨c1, rfl, _⟩ <;> rcases most_iff hqk y s with ⟨c2, rfl, _⟩ | ⟨c2, rfl, _⟩
      · exact hA (by unfold prA; dsimp only; omega)
      · omega
      · omega
      · exact hA (by unfold prA; dsimp only; omega)
    refine fin s i k hne hi hk hkeep ?_ ?_
    · rcases least_iff hpi y s with ⟨_, _, _, h⟩ | ⟨_, _, _, h⟩
      · exact .inl (by rw [ev]; exact h hs.symm)
      · exact .inr (by rw [ev]; exact h hs.symm)
    · rcases most_iff hqk y s with ⟨_, _, _, h⟩ | ⟨_, _, _, h⟩
      · exact .inr (by rw [ev]; exact h hs2.symm)
      · exact .inl (by rw [ev]; exact h hs2.symm)
  · have hother : ∃ j : Nat, j < L.pl.length ∧ plP L j - x ≠ 0 := by
      by_cases c : z = 0
      · subst c
        refine ⟨1, by omega, ?_⟩
        have := hL.plL (i := ((0 : Nat) : Int)) (j := ((1 : Nat) : Int)) (by omega) (by omega) (by omega)
        omega
      · refine ⟨0, by omega, ?_⟩
        have := hL.plL (i := ((0 : Nat) : Int)) (j := (z : Int)) (by omega) (by omega) (by omega)
        omega
    obtain ⟨j, hj, hjx⟩ := hother
    obtain ⟨⟨pj, hpj⟩, _⟩ := leastO_ex (L := L) (core := core) hjx
    obtain ⟨p, hp, hmax⟩ := list_max (fun p : Bd => ((p.start : Rat) + p.slope * y) / p.den) (leastK L core x L.pl.length) (fun e => by have := leastK_has hpj hj; rw [e] at this; cases this)
    have pB := leastK_bd hL hcb hxb hp
    have pd := cpos pB.1
    obtain ⟨s, hs⟩ : ∃ s : Rat, s = ((p.start : Rat) + p.slope * y) / p.den := ⟨_, rfl⟩
    have hs1 : (p.den : Rat) * s = p.start + p.slope * y := by rw [hs]; grind
    have hkeep : Keeps L core (y - s * x) s := by
      rw [keeps_cons]
      refine ⟨fun p' hp' => ?_, fun q' hq' => ?_, hz⟩
      · have h1 := hmax p' hp'
        have pd' := cpos (leastK_bd hL hcb hxb hp').1
        have h2 := rmul_le h1 (c := (p'.den : Rat)) (by grind)
        have e : ((p'.start : Rat) + p'.slope * y) / p'.den * p'.den = p'.start + p'.slope * y := by grind
        unfold LeC
        rw [← hs] at h2
        grind
      · have := hpair p hp q' hq'
        unfold PairC at this
        rw [prA_q, prB_q] at this
        exact rle_of (pl2 this hs1) pd
    obtain ⟨i, hi, hpi⟩ := leastK_of hp
    refine fin s i z ?_ hi hzn hkeep ?_ ?_
    · rintro rfl
      rcases least_iff hpi y s with ⟨c1, _⟩ | ⟨c1, _⟩ <;> omega
    · rcases least_iff hpi y s with ⟨_, _, _, h⟩ | ⟨_, _, _, h⟩
      · exact .inl (by rw [ev]; exact h hs1.symm)
      · exact .inr (by rw [ev]; exact h hs1.symm)
    · have e : Xq L z - (x : Rat) = 0 := by simp only [Xq]; rw [hzx]; grind
      unfold EndL
      rw [ev, e]
      have e2 : y + s * 0 = y := by grind
      rw [e2]; exact hy

/-- Something is always asked. -/
theorem asked {L : Lg} (hL : LgOk L) (core x : Int) : (∃ z, (∃ i : Nat, i < L.pl.length ∧ plP L i = x ∧ z = loq L core i) ∨ ∃ p ∈ leastK L core x L.pl.length, ∃ q ∈ mostK L core x L.pl.length, prA p q < 0 ∧ z = pz p q) ∧
    (∃ z, (∃ i : Nat, i < L.pl.length ∧ plP L i = x ∧ z = hiq L core i) ∨ ∃ p ∈ leastK L core x L.pl.length, ∃ q ∈ mostK L core x L.pl.length, 0 < prA p q ∧ z = pz p q) := by
  have hn2 := hL.n2
  have hlt := hL.plL (i := ((0 : Nat) : Int)) (j := ((1 : Nat) : Int)) (by omega) (by omega) (by omega)
  by_cases c0 : plP L ((0 : Nat) : Int) = x
  · exact ⟨⟨_, .inl ⟨0, by omega, c0, rfl⟩⟩, ⟨_, .inl ⟨0, by omega, c0, rfl⟩⟩⟩
  by_cases c1 : plP L ((1 : Nat) : Int) = x
  · exact ⟨⟨_, .inl ⟨1, by omega, c1, rfl⟩⟩, ⟨_, .inl ⟨1, by omega, c1, rfl⟩⟩⟩
  obtain ⟨⟨p0, hp0⟩, q0, hq0⟩ := leastO_ex (L := L) (core := core) (x := x) (i := 0) (by omega)
  obtain ⟨⟨p1, hp1⟩, q1, hq1⟩ := leastO_ex (L := L) (core := core) (x := x) (i := 1) (by omega)
  have mp0 := leastK_has hp0 (k := L.pl.length) (by omega)
  have mp1 := leastK_has hp1 (k := L.pl.length) (by omega)
  have mq0 := mostK_has hq0 (k := L.pl.length) (by omega)
  have mq1 := mostK_has hq1 (k := L.pl.length) (by omega)
  have a := least_iff hp0 0 0
  have b := most_iff hq0 0 0
  have c := least_iff hp1 0 0
  have d := most_iff hq1 0 0
  have a' : (0 < plP L ((0 : Nat) : Int) - x ∧ p0.den = plP L ((0 : Nat) : Int) - x ∧ p0.slope = -1) ∨ (plP L ((0 : Nat) : Int) - x < 0 ∧ p0.den = -(plP L ((0 : Nat) : Int) - x) ∧ p0.slope = 1) := by
    rcases a with ⟨h, rfl, _⟩ | ⟨h, rfl, _⟩
    · exact .inl ⟨h, rfl, rfl⟩
    · exact .inr ⟨h, rfl, rfl⟩
  have b' : (0 < plP L ((0 : Nat) : Int) - x ∧ q0.den = plP L ((0 : Nat) : Int) - x ∧ q0.slope = -1) ∨ (plP L ((0 : Nat) : Int) - x < 0 ∧ q0.den = -(plP L ((0 : Nat) : Int) - x) ∧ q0.slope = 1) := by
    rcases b with ⟨h, rfl, _⟩ | ⟨h, rfl, _⟩
    · exact .inl ⟨h, rfl, rfl⟩
    · exact .inr ⟨h, rfl, rfl⟩
  have c' : (0 < plP L ((1 : Nat) : Int) - x ∧ p1.den = plP L ((1 : Nat) : Int) - x ∧ p1.slope = -1) ∨ (plP L ((1 : Nat) : Int) - x < 0 ∧ p1.den = -(plP L ((1 : Nat) : Int) - x) ∧ p1.slope = 1) := by
    rcases c with ⟨h, rfl, _⟩ | ⟨h, rfl, _⟩
    · exact .inl ⟨h, rfl, rfl⟩
    · exact .inr ⟨h, rfl, rfl⟩
  have d' : (0 < plP L ((1 : Nat) : Int) - x ∧ q1.den = plP L ((1 : Nat) : Int) - x ∧ q1.slope = -1) ∨ (plP L ((1 : Nat) : Int) - x < 0 ∧ q1.den = -(plP L ((1 : Nat) : Int) - x) ∧ q1.slope = 1) := by
    rcases d with ⟨h, rfl, _⟩ | ⟨h, rfl, _⟩
    · exact .inl ⟨h, rfl, rfl⟩
    · exact .inr ⟨h, rfl, rfl⟩
  have hA : ∀ (p q : Bd), prA p q = p.slope * q.den - q.slope * p.den := fun _ _ => rfl
  rcases a' with ⟨a1, a2, a3⟩ | ⟨a1, a2, a3⟩ <;> rcases b' with ⟨b1, b2, b3⟩ | ⟨b1, b2, b3⟩ <;> rcases c' with ⟨c1', c2, c3⟩ | ⟨c1', c2, c3⟩ <;> rcases d' with ⟨d1, d2, d3⟩ | ⟨d1, d2, d3⟩ <;> first | omega | skip
  · exact ⟨⟨_, .inr ⟨p0, mp0, q1, mq1, by rw [hA, a3, d3]; omega, rfl⟩⟩, ⟨_, .inr ⟨p1, mp1, q0, mq0, by rw [hA, c3, b3]; omega, rfl⟩⟩⟩
  · exact ⟨⟨_, .inr ⟨p1, mp1, q0, mq0, by rw [hA, c3, b3]; omega, rfl⟩⟩, ⟨_, .inr ⟨p0, mp0, q1, mq1, by rw [hA, a3, d3]; omega, rfl⟩⟩⟩
  · exact ⟨⟨_, .inr ⟨p0, mp0, q1, mq1, by rw [hA, a3, d3]; omega, rfl⟩⟩, ⟨_, .inr ⟨p1, mp1, q0, mq0, by rw [hA, c3, b3]; omega, rfl⟩⟩⟩

theorem best_ge {l : List Rt} (hl : ∀ r ∈ l, 0 < r.den) : ∀ (o : Rt), 0 < o.den → (o.q ≤ (bestOf (fun a b => lessB b a) o l).q ∧ ∀ r ∈ l, r.q ≤ (bestOf (fun a b => lessB b a) o l).q) := by
  induction l with
  | nil => intro o ho; exact ⟨Rat.le_refl, fun r h => by cases h⟩
  | cons x l ih =>
    intro o ho
    have hx := hl x (by simp)
    have e : bestOf (fun a b => lessB b a) o (x :: l) = bestOf (fun a b => lessB b a) (if lessB o x then x else o) l := rfl
    rw [e]
    have h0 : 0 < (if lessB o x then x else o).den := by split <;> assumption
    obtain ⟨h1, h2⟩ := ih (fun r hr => hl r (List.mem_cons_of_mem _ hr)) _ h0
    have h3 : x.q ≤ (if lessB o x then x else o).q ∧ o.q ≤ (if lessB o x then x else o).q := by
      have := lessB_q ho hx
      by_cases c : lessB o x = true
      · rw [if_pos c]; have := this.1 c; exact ⟨Rat.le_refl, by grind⟩
      · rw [if_neg c]
        have : ¬ o.q < x.q := fun k => c (this.2 k)
        exact ⟨by grind, Rat.le_refl⟩
    refine ⟨Rat.le_trans h3.2 h1, fun d hd => ?_⟩
    rcases List.mem_cons.1 hd with rfl | hd
    · exact Rat.le_trans h3.1 h1
    · exact h2 d hd

theorem ratq_one (core : Int) : (rat core 1).q = (core : Rat) := by rw [rat_q (by decide)]; push_cast; grind

/-- What the definition's heights are. -/
theorem defH_spec {L : Lg} (hL : LgOk L) {core x : Int} (hcb : -2000 ≤ core ∧ core ≤ 2000) (hxb : 0 ≤ x ∧ x ≤ 100) (hv : (core : Rat) ≤ (bestV L).q) :
    (Go.Pl.Can (defH L core x).1 ∧ (∃ r ∈ allH L core x, r.q = (defH L core x).1.q) ∧ ∀ h s : Rat, Keeps L core h s → (defH L core x).1.q ≤ h + s * x) ∧
    (Go.Pl.Can (defH L core x).2 ∧ (∃ r ∈ allH L core x, r.q = (defH L core x).2.q) ∧ ∀ h s : Rat, Keeps L core h s → h + s * x ≤ (defH L core x).2.q) := by
  obtain ⟨ia, ka, h0, s0, _, _, hk0, _, _⟩ := best_line hL
  have hf := keeps_le hk0 hv
  obtain ⟨hz1, hz2⟩ := zero_max hL (core := core) (x := x) L.pl.length (Nat.le_refl _)
  have hM := all_max (qs := mostK L core x L.pl.length) (l := leastK L core x L.pl.length) hz1
  have hm := all_min (qs := mostK L core x L.pl.length) (l := leastK L core x L.pl.length) hz2
  change MaxOf _ (defH L core x).1 at hM
  change MinOf _ (defH L core x).2 at hm
  obtain ⟨⟨za, hza⟩, zb, hzb⟩ := asked hL core x
  have pB : ∀ p ∈ leastK L core x L.pl.length, 0 < p.den := fun p hp => (leastK_bd hL hcb hxb hp).1
  have qB : ∀ p ∈ mostK L core x L.pl.length, 0 < p.den := fun p hp => (mostK_bd hL hcb hxb hp).1
  have low : ∀ z h s, ((∃ i : Nat, i < L.pl.length ∧ plP L i = x ∧ z = loq L core i) ∨ ∃ p ∈ leastK L core x L.pl.length, ∃ q ∈ mostK L core x L.pl.length, prA p q < 0 ∧ z = pz p q) → Keeps L core h s → z ≤ h + s * x := by
    intro z h s hz hk
    obtain ⟨k1, k2, k3⟩ := keeps_cons' (x := x) h s hk
    rcases hz with ⟨i, hi, hx, rfl⟩ | ⟨p, hp, q, hq, hA, rfl⟩
    · exact (k3 i hi hx).1
    · exact (pair_lt hA _).1 (pair_of (pB p hp) (qB q hq) (k1 p hp) (k2 q hq))
  have upp : ∀ z h s, ((∃ i : Nat, i < L.pl.length ∧ plP L i = x ∧ z = hiq L core i) ∨ ∃ p ∈ leastK L core x L.pl.length, ∃ q ∈ mostK L core x L.pl.length, 0 < prA p q ∧ z = pz p q) → Keeps L core h s → h + s * x ≤ z := by
    intro z h s hz hk
    obtain ⟨k1, k2, k3⟩ := keeps_cons' (x := x) h s hk
    rcases hz with ⟨i, hi, hx, rfl⟩ | ⟨p, hp, q, hq, hA, rfl⟩
    · exact (k3 i hi hx).2
    · exact (pair_gt hA _).1 (pair_of (pB p hp) (qB q hq) (k1 p hp) (k2 q hq))
  obtain ⟨f1, f2, f3⟩ := keeps_cons' (x := x) h0 s0 hf
  have fp : ∀ p ∈ leastK L core x L.pl.length, ∀ q ∈ mostK L core x L.pl.length, PairC p q (h0 + s0 * x) := fun p hp q hq => pair_of (pB p hp) (qB q hq) (f1 p hp) (f2 q hq)
  constructor
  · rcases hM with ⟨_, _, hno⟩ | ⟨hc, hin, hmax⟩
    · exact absurd hza (hno za)
    · have hle := low _ h0 s0 hin hf
      refine ⟨hc, attain hL hcb hxb (fun p hp q hq => ?_) (fun i hi hx => ⟨hmax _ (.inl ⟨i, hi, hx, rfl⟩), Rat.le_trans hle (f3 i hi hx).2⟩) ?_, fun h s hk => low _ h s hin hk⟩
      · rcases Int.lt_trichotomy (prA p q) 0 with c | c | c
        · exact (pair_lt c _).2 (hmax _ (.inr ⟨p, hp, q, hq, c, rfl⟩))
        · exact pair_eq c (fp p hp q hq)
        · exact (pair_gt c _).2 (Rat.le_trans hle ((pair_gt c _).1 (fp p hp q hq)))
      · rcases hin with ⟨i, hi, hx, e⟩ | ⟨p, hp, q, hq, hA, e⟩
        · exact .inr ⟨i, hi, hx, .inl e⟩
        · exact .inl ⟨p, hp, q, hq, by omega, e⟩
  · rcases hm with ⟨_, _, hno⟩ | ⟨hc, hin, hmin⟩
    · exact absurd hzb (hno zb)
    · have hle := upp _ h0 s0 hin hf
      refine ⟨hc, attain hL hcb hxb (fun p hp q hq => ?_) (fun i hi hx => ⟨Rat.le_trans (f3 i hi hx).1 hle, hmin _ (.inl ⟨i, hi, hx, rfl⟩)⟩) ?_, fun h s hk => upp _ h s hin hk⟩
      · rcases Int.lt_trichotomy (prA p q) 0 with c | c | c
        · exact (pair_lt c _).2 (Rat.le_trans ((pair_lt c _).1 (fp p hp q hq)) hle)
        · exact pair_eq c (fp p hp q hq)
        · exact (pair_gt c _).2 (hmin _ (.inr ⟨p, hp, q, hq, c, rfl⟩))
      · rcases hin with ⟨i, hi, hx, e⟩ | ⟨p, hp, q, hq, hA, e⟩
        · exact .inr ⟨i, hi, hx, .inr e⟩
        · exact .inl ⟨p, hp, q, hq, by omega, e⟩

/-- No line keeps the core, or the heights are the definition's. -/
theorem allH_none {L : Lg} (hL : LgOk L) {core x : Int} (hv : ¬ (core : Rat) ≤ (bestV L).q) : allH L core x = [] := by
  cases h : allH L core x with
  | nil => rfl
  | cons r l =>
    obtain ⟨_, h0, s0, hk, _⟩ := allH_line hL (r := r) (x := x) (core := core) (by rw [h]; simp)
    exact absurd (keeps_best hL hk) hv
theorem allH_some {L : Lg} (hL : LgOk L) {core x : Int} (hcb : -2000 ≤ core ∧ core ≤ 2000) (hxb : 0 ≤ x ∧ x ≤ 100) (hv : (core : Rat) ≤ (bestV L).q) :
    ∃ h0 hs, allH L core x = h0 :: hs ∧ bestOf lessB h0 hs = (defH L core x).1 ∧ bestOf (fun a b => lessB b a) h0 hs = (defH L core x).2 := by
  obtain ⟨⟨c1, ⟨r1, hr1, e1⟩, m1⟩, c2, ⟨r2, hr2, e2⟩, m2⟩ := defH_spec hL hcb hxb hv
  cases h : allH L core x with
  | nil => rw [h] at hr1; cases hr1
  | cons h0 hs =>
    have hall : ∀ r ∈ h0 :: hs, Go.Pl.Can r ∧ (defH L core x).1.q ≤ r.q ∧ r.q ≤ (defH L core x).2.q := fun r hr => by
      obtain ⟨hc, h', s', hk, e⟩ := allH_line hL (r := r) (x := x) (core := core) (by rw [h]; exact hr)
      rw [e]
      exact ⟨hc, m1 _ _ hk, m2 _ _ hk⟩
    have hd : ∀ r ∈ hs, 0 < r.den := fun r hr => (hall r (List.mem_cons_of_mem _ hr)).1.pos
    have hd0 := (hall h0 (by simp)).1.pos
    refine ⟨h0, hs, rfl, ?_, ?_⟩
    · have hb := best_le hd h0 hd0
      have hm := bestOf_mem lessB h0 hs hs.length
      rw [List.take_length] at hm
      have ha := hall _ hm
      refine can_ext ha.1 c1 ?_
      have : (bestOf lessB h0 hs).q ≤ r1.q := by
        rw [h] at hr1
        rcases List.mem_cons.1 hr1 with rfl | hr
        · exact hb.1
        · exact hb.2 r1 hr
      grind
    · have hb := best_ge hd h0 hd0
      have hm := bestOf_mem (fun a b => lessB b a) h0 hs hs.length
      rw [List.take_length] at hm
      have ha := hall _ hm
      refine can_ext ha.1 c2 ?_
      have : r2.q ≤ (bestOf (fun a b => lessB b a) h0 hs).q := by
        rw [h] at hr2
        rcases List.mem_cons.1 hr2 with rfl | hr
        · exact hb.1
        · exact hb.2 r2 hr
      grind
theorem less_core {L : Lg} (hL : LgOk L) (core : Int) : lessB (bestV L) (rat core 1) = true ↔ ¬ (core : Rat) ≤ (bestV L).q := by
  rw [lessB_q (best_can hL).pos (rat_can (by decide)).pos, ratq_one]
  constructor
  · intro h k; grind
  · intro h; grind
theorem heights_eq (L : Lg) (core x : Int) : hghR L core x = defR L core x := by
  unfold hghR defR
  by_cases he : logE L ≠ 0
  · rw [if_pos he, if_pos he]
  rw [if_neg he, if_neg he]
  by_cases hr : ¬ (-2000 ≤ core ∧ core ≤ 2000 ∧ 0 ≤ x ∧ x ≤ 100)
  · rw [if_pos hr, if_pos hr]
  rw [if_neg hr, if_neg hr]
  have hr' := Decidable.not_not.1 hr
  have hL := logE_ok (L := L) (by omega)
  by_cases hv : (core : Rat) ≤ (bestV L).q
  · rw [if_neg (fun h => (less_core hL core).1 h hv)]
    obtain ⟨h0, hs, h1, h2, h3⟩ := allH_some hL ⟨hr'.1, hr'.2.1⟩ hr'.2.2 hv
    rw [h1]
    dsimp only
    rw [h2, h3]
  · rw [if_pos ((less_core hL core).2 hv), allH_none hL hv]
end Go.Proofs.Ytnionkopmncopaa
