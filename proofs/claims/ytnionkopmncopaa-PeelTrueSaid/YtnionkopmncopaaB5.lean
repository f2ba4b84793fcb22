/- Texts that the last one of this claim imports. -/
import Derived.Test.YtnionkopmncopaaB4
set_option linter.unusedVariables false
set_option linter.unusedSimpArgs false
set_option linter.unusedSectionVars false
set_option linter.unusedVariables false
namespace Go.Proofs.Ytnionkopmncopaa
open Go.Pl

theorem keeps_le {L : Lg} {c d h s : Rat} (hk : Keeps L c h s) (hd : d ≤ c) : Keeps L d h s := fun m hm => by
  have := hk m hm
  simp only [loq, hiq] at this ⊢
  exact ⟨by grind, by grind⟩

/-! ### What the program looks at -/
theorem gate_lo {L : Lg} (hL : LgOk L) (core : Int) {j : Nat} (hj : j < L.pl.length) : gate (gK L core L.pl.length) j = gateE core (edP L j) := by
  have := gK_at (core := core) hj (edP_at (L := L) (i := j) (by have := hL.el; omega))
  simp [gate, List.getD, this]
/-- The end of a gate, as a rational number. -/
theorem gEnd_q {L : Lg} (hL : LgOk L) (core : Int) {j : Nat} (hj : j < L.pl.length) (s : Nat) : ((gEnd L core j s : Int) : Rat) = if s = 0 then loq L core j else hiq L core j := by
  unfold gEnd
  rw [gate_lo hL core hj]
  split
  · simp only [gateE, loq]; push_cast; rfl
  · simp only [gateE, hiq]; push_cast; rfl
theorem wi_one (lo hi n : Int) : wi lo hi [n] = true ↔ lo ≤ n ∧ n ≤ hi := by
  simp [wi, outB]
theorem thru_iff {L : Lg} (hL : LgOk L) (core : Int) (wide : Int) (hf : Int → Int) : thruB L (gK L core L.pl.length) wide hf = true ↔ ∀ j : Nat, j < L.pl.length → ((edP L j).lo + core) * wide ≤ hf (plP L j) ∧ hf (plP L j) ≤ ((edP L j).hi - core) * wide := by
  unfold thruB
  rw [List.all_eq_true]
  constructor
  · intro h j hj
    have := h j (by simpa using hj)
    unfold testH at this
    rw [gate_lo hL core hj, wi_one] at this
    exact this
  · intro h j hj
    have hj' : j < L.pl.length := by simpa using hj
    unfold testH
    rw [gate_lo hL core hj', wi_one]
    exact h j hj'

/-- The heights of lines through two ends that keep the core. -/
def HAt (L : Lg) (core x : Int) (i k s t : Nat) (r : Rt) : Prop :=
  thruB L (gK L core L.pl.length) (plP L k - plP L i) (hgt L i k (gEnd L core i s) (gEnd L core k t)) = true ∧ r = rat (hgt L i k (gEnd L core i s) (gEnd L core k t) x) (plP L k - plP L i)
theorem hB_mem {L : Lg} {core x : Int} {i k s t : Nat} {r : Rt} : r ∈ hB L core x i k s t ↔ HAt L core x i k s t r := by
  unfold hB HAt
  split <;> rename_i h
  · simp [h]
  · simp [h]
theorem hT_mem {L : Lg} {core x : Int} {i k s : Nat} {r : Rt} : ∀ {m : Nat}, r ∈ hT L core x i k s m ↔ ∃ t, t < m ∧ HAt L core x i k s t r
  | 0 => by simp [hT]
  | m + 1 => by
    simp only [hT, List.mem_append, hT_mem (m := m), hB_mem]
    constructor
    · rintro (⟨t, h1, h2⟩ | h)
      · exact ⟨t, by omega, h2⟩
      · exact ⟨m, by omega, h⟩
    · rintro ⟨t, h1, h2⟩
      by_cases e : t = m
      · subst e; exact .inr h2
      · exact .inl ⟨t, by omega, h2⟩
theorem hS_mem {L : Lg} {core x : Int} {i k : Nat} {r : Rt} : ∀ {m : Nat}, r ∈ hS L core x i k m ↔ ∃ s t, s < m ∧ t < 2 ∧ HAt L core x i k s t r
  | 0 => by simp [hS]
  | m + 1 => by
    simp only [hS, List.mem_append, hS_mem (m := m), hT_mem]
    constructor
    · rintro (⟨s, t, h1, h2⟩ | ⟨t, h1, h2⟩)
      · exact ⟨s, t, by omega, h2⟩
      · exact ⟨m, t, by omega, h1, h2⟩
    · rintro ⟨s, t, h1, h2, h3⟩
      by_cases e : s = m
      · subst e; exact .inr ⟨t, h2, h3⟩
      · exact .inl ⟨s, t, by omega, h2, h3⟩
theorem hK_mem {L : Lg} {core x : Int} {i : Nat} {r : Rt} : ∀ {m : Nat}, r ∈ hK L core x i m ↔ ∃ k s t, i < k ∧ k < i + 1 + m ∧ s < 2 ∧ t < 2 ∧ HAt L core x i k s t r
  | 0 => by
    simp only [hK, List.not_mem_nil, false_iff]
    rintro ⟨k, s, t, h1, h2, _⟩; omega
  | m + 1 => by
    simp only [hK, List.mem_append, hK_mem (m := m), hS_mem]
    constructor
    · rintro (⟨k, s, t, h1, h2, h3⟩ | ⟨s, t, h1, h2, h3⟩)
      · exact ⟨k, s, t, h1, by omega, h3⟩
      · exact ⟨i + 1 + m, s, t, by omega, by omega, h1, h2, h3⟩
    · rintro ⟨k, s, t, h1, h2, h3⟩
      by_cases e : k = i + 1 + m
      · subst e; exact .inr ⟨s, t, h3⟩
      · exact .inl ⟨k, s, t, h1, by omega, h3⟩
theorem hI_mem {L : Lg} {core x : Int} {r : Rt} : ∀ {m : Nat}, m ≤ L.pl.length → (r ∈ hI L core x m ↔ ∃ i k s t, i < m ∧ i < k ∧ k < L.pl.length ∧ s < 2 ∧ t < 2 ∧ HAt L core x i k s t r)
  | 0, _ => by simp [hI]
  | m + 1, hm => by
    simp only [hI, List.mem_append, hI_mem (L := L) (core := core) (x := x) (m := m) (by omega), hK_mem]
    constructor
    · rintro (⟨i, k, s, t, h1, h2⟩ | ⟨k, s, t, h1, h2, h3⟩)
      · exact ⟨i, k, s, t, by omega, h2⟩
      · exact ⟨m, k, s, t, by omega, h1, by omega, h3⟩
    · rintro ⟨i, k, s, t, h1, h2, h3, h4⟩
      by_cases e : i = m
      · subst e; exact .inr ⟨k, s, t, h2, by omega, h4⟩
      · exact .inl ⟨i, k, s, t, by omega, h2, h3, h4⟩
theorem allH_mem {L : Lg} {core x : Int} {r : Rt} : r ∈ allH L core x ↔ ∃ i k s t, i < k ∧ k < L.pl.length ∧ s < 2 ∧ t < 2 ∧ HAt L core x i k s t r := by
  rw [show allH L core x = hI L core x L.pl.length from rfl, hI_mem (Nat.le_refl _)]
  constructor
  · rintro ⟨i, k, s, t, h1, h2⟩; exact ⟨i, k, s, t, h2⟩
  · rintro ⟨i, k, s, t, h1, h2, h3⟩; exact ⟨i, k, s, t, by omega, h1, h2, h3⟩

/-- Of each height a line is known that keeps the core. -/
theorem allH_line {L : Lg} (hL : LgOk L) {core x : Int} {r : Rt} (hr : r ∈ allH L core x) : Go.Pl.Can r ∧ ∃ h s, Keeps L core h s ∧ r.q = h + s * (x : Rat) := by
  obtain ⟨i, k, s, t, hik, hk, _, _, ht, rfl⟩ := allH_mem.1 hr
  have hlt := hL.plL (i := (i : Int)) (j := (k : Int)) (by omega) (by omega) (by omega)
  have hw : 0 < plP L k - plP L i := by omega
  refine ⟨rat_can hw, ?_⟩
  rw [thru_iff hL] at ht
  have hwp := cpos hw
  have hwn := cne hw
  let A : Rat := (gEnd L core i s : Int)
  let B : Rat := (gEnd L core k t : Int)
  let W : Rat := (plP L k - plP L i : Int)
  have hWd : W = (plP L k : Rat) - plP L i := by simp only [W]; push_cast; rfl
  have hW0 : W ≠ 0 := hwn
  have hg : ∀ y : Int, ((hgt L i k (gEnd L core i s) (gEnd L core k t) y : Int) : Rat) = ((A - (B - A) / W * plP L i) + (B - A) / W * y) * W := fun y => by
    have e : (B - A) / W * W = B - A := by grind
    have e2 : ((hgt L i k (gEnd L core i s) (gEnd L core k t) y : Int) : Rat) = A * ((plP L k : Rat) - y) + B * ((y : Rat) - plP L i) := by unfold hgt; push_cast; rfl
    rw [e2]; grind
  refine ⟨A - (B - A) / W * plP L i, (B - A) / W, fun j hj => ?_, ?_⟩
  · have h1 := ht j hj
    have h1a : ((((edP L j).lo + core) * (plP L k - plP L i) : Int) : Rat) ≤ ((hgt L i k (gEnd L core i s) (gEnd L core k t) (plP L j) : Int) : Rat) := by exact_mod_cast h1.1
    have h1b : ((hgt L i k (gEnd L core i s) (gEnd L core k t) (plP L j) : Int) : Rat) ≤ ((((edP L j).hi - core) * (plP L k - plP L i) : Int) : Rat) := by exact_mod_cast h1.2
    rw [hg] at h1a h1b
    constructor
    · refine rle_of (c := W) ?_ hwp
      simp only [loq, Xq]
      have : ((((edP L j).lo + core) * (plP L k - plP L i) : Int) : Rat) = (((edP L j).lo : Rat) + core) * W := by simp only [W]; push_cast; rfl
      rw [← this]; exact h1a
    · refine rle_of (c := W) ?_ hwp
      simp only [hiq, Xq]
      have : ((((edP L j).hi - core) * (plP L k - plP L i) : Int) : Rat) = (((edP L j).hi : Rat) - core) * W := by simp only [W]; push_cast; rfl
      rw [← this]; exact h1b
  · rw [rat_q hw, hg]
    show _ * W / W = _
    grind
/-- A line through two ends that keeps the core is looked at. -/
theorem line_allH {L : Lg} (hL : LgOk L) {core x : Int} {h s : Rat} {i k : Nat} (hik : i < k) (hk : k < L.pl.length) (hkeep : Keeps L core h s)
    (ei : EndL (Xq L) (loq L core) (hiq L core) h s i) (ek : EndL (Xq L) (loq L core) (hiq L core) h s k) : ∃ r ∈ allH L core x, r.q = h + s * (x : Rat) := by
  have hlt := hL.plL (i := (i : Int)) (j := (k : Int)) (by omega) (by omega) (by omega)
  have hw : 0 < plP L k - plP L i := by omega
  have hwp := cpos hw
  have hwn := cne hw
  have hend : ∀ j : Nat, j < L.pl.length → EndL (Xq L) (loq L core) (hiq L core) h s j → ∃ t : Nat, t < 2 ∧ ((gEnd L core j t : Int) : Rat) = h + s * Xq L j := fun j hj hi => by
    rcases hi with e | e
    · exact ⟨0, by omega, by rw [e, gEnd_q hL core hj]; rfl⟩
    · exact ⟨1, by omega, by rw [e, gEnd_q hL core hj]; rfl⟩
  obtain ⟨a, ha, ea⟩ := hend i (by omega) ei
  obtain ⟨b, hb, eb⟩ := hend k hk ek
  have hWd : ((plP L k - plP L i : Int) : Rat) = (plP L k : Rat) - plP L i := by push_cast; rfl
  have hg : ∀ y : Int, ((hgt L i k (gEnd L core i a) (gEnd L core k b) y : Int) : Rat) = (h + s * (y : Rat)) * ((plP L k - plP L i : Int) : Rat) := fun y => by
    have e2 : ((hgt L i k (gEnd L core i a) (gEnd L core k b) y : Int) : Rat) = ((gEnd L core i a : Int) : Rat) * ((plP L k : Rat) - y) + ((gEnd L core k b : Int) : Rat) * ((y : Rat) - plP L i) := by unfold hgt; push_cast; rfl
    rw [e2, ea, eb, hWd]
    simp only [Xq]
    grind
  refine ⟨_, allH_mem.2 ⟨i, k, a, b, hik, hk, ha, hb, ?_, rfl⟩, ?_⟩
  · rw [thru_iff hL]
    intro j hj
    have hj' := hkeep j hj
    simp only [loq, hiq, Xq] at hj'
    have k1 := rmul_le hj'.1 (c := ((plP L k - plP L i : Int) : Rat)) (by grind)
    have k2 := rmul_le hj'.2 (c := ((plP L k - plP L i : Int) : Rat)) (by grind)
    rw [← hg] at k1 k2
    exact ⟨by exact_mod_cast k1, by exact_mod_cast k2⟩
  · rw [rat_q hw, hg]
    grind
end Go.Proofs.Ytnionkopmncopaa
set_option linter.unusedVariables false
namespace Go.Proofs.Ytnionkopmncopaa
open Go.Pl

/-! ### The greatest, or the least, of what was met -/
def MaxOf (C : Rat → Prop) (r : Rt) : Prop := (r.den = 0 ∧ r.num = 0 ∧ ∀ z, ¬ C z) ∨ (Go.Pl.Can r ∧ C r.q ∧ ∀ z, C z → z ≤ r.q)
def MinOf (C : Rat → Prop) (r : Rt) : Prop := (r.den = 0 ∧ r.num = 0 ∧ ∀ z, ¬ C z) ∨ (Go.Pl.Can r ∧ C r.q ∧ ∀ z, C z → r.q ≤ z)
theorem MaxOf.iff {C D : Rat → Prop} {r : Rt} (h : MaxOf C r) (e : ∀ z, C z ↔ D z) : MaxOf D r := by
  obtain rfl : C = D := funext fun z => propext (e z); exact h
theorem MinOf.iff {C D : Rat → Prop} {r : Rt} (h : MinOf C r) (e : ∀ z, C z ↔ D z) : MinOf D r := by
  obtain rfl : C = D := funext fun z => propext (e z); exact h

/-- What a pair says. -/
def pz (p q : Bd) : Rat := (prB p q : Rat) / (prA p q : Rat)
theorem neg_q {p q : Bd} (h : prA p q < 0) : (rat (-prB p q) (-prA p q)).q = pz p q := by
  rw [rat_q (by omega)]
  unfold pz
  have : ((prA p q : Int) : Rat) ≠ 0 := by
    have := cne (d := -prA p q) (by omega)
    push_cast at this; grind
  push_cast
  grind
theorem step_max {p q : Bd} {s : Rt × Rt} {C : Rat → Prop} (h : MaxOf C s.1) : MaxOf (fun z => C z ∨ (prA p q < 0 ∧ z = pz p q)) (stepH p q s).1 := by
  by_cases c : prA p q < 0
  · have hn := neg_q c
    have hc := rat_can (n := -prB p q) (d := -prA p q) (by omega)
    rcases h with ⟨h1, h1', h2⟩ | ⟨h1, h2, h3⟩
    · have e : (stepH p q s).1 = rat (-prB p q) (-prA p q) := by unfold stepH; exact if_pos ⟨c, .inl h1⟩
      rw [e]
      refine .inr ⟨hc, .inr ⟨c, hn⟩, fun z hz => ?_⟩
      rcases hz with hz | hz
      · exact absurd hz (h2 z)
      · rw [hn, hz.2]; exact Rat.le_refl
    · have hl := lessB_q h1.pos hc.pos
      by_cases d : lessB s.1 (rat (-prB p q) (-prA p q)) = true
      · have e : (stepH p q s).1 = rat (-prB p q) (-prA p q) := by unfold stepH; exact if_pos ⟨c, .inr d⟩
        rw [e]
        have := hl.1 d
        refine .inr ⟨hc, .inr ⟨c, hn⟩, fun z hz => ?_⟩
        rcases hz with hz | hz
        · have := h3 z hz; grind
        · rw [hn, hz.2]; exact Rat.le_refl
      · have e : (stepH p q s).1 = s.1 := by
          unfold stepH
          refine if_neg ?_
          rintro ⟨_, h | h⟩
          · have := h1.pos; omega
          · exact d h
        rw [e]
        have : ¬ s.1.q < (rat (-prB p q) (-prA p q)).q := fun k => d (hl.2 k)
        refine .inr ⟨h1, .inl h2, fun z hz => ?_⟩
        rcases hz with hz | hz
        · exact h3 z hz
        · rw [hz.2, ← hn]; grind
  · have e : (stepH p q s).1 = s.1 := by unfold stepH; exact if_neg fun h => c h.1
    rw [e]
    exact h.iff fun z => ⟨.inl, fun h => h.elim id fun h => absurd h.1 c⟩
theorem step_min {p q : Bd} {s : Rt × Rt} {C : Rat → Prop} (h : MinOf C s.2) : MinOf (fun z => C z ∨ (0 < prA p q ∧ z = pz p q)) (stepH p q s).2 := by
  by_cases c : 0 < prA p q
  · have hn : (rat (prB p q) (prA p q)).q = pz p q := rat_q c
    have hc := rat_can (n := prB p q) c
    rcases h with ⟨h1, h1', h2⟩ | ⟨h1, h2, h3⟩
    · have e : (stepH p q s).2 = rat (prB p q) (prA p q) := by unfold stepH; exact if_pos ⟨c, .inl h1⟩
      rw [e]
      refine .inr ⟨hc, .inr ⟨c, hn⟩, fun z hz => ?_⟩
      rcases hz with hz | hz
      · exact absurd hz (h2 z)
      · rw [hn, hz.2]; exact Rat.le_refl
    · have hl := lessB_q hc.pos h1.pos
      by_cases d : lessB (rat (prB p q) (prA p q)) s.2 = true
      · have e : (stepH p q s).2 = rat (prB p q) (prA p q) := by unfold stepH; exact if_pos ⟨c, .inr d⟩
        rw [e]
        have := hl.1 d
        refine .inr ⟨hc, .inr ⟨c, hn⟩, fun z hz => ?_⟩
        rcases hz with hz | hz
        · have := h3 z hz; grind
        · rw [hn, hz.2]; exact Rat.le_refl
      · have e : (stepH p q s).2 = s.2 := by
          unfold stepH
          refine if_neg ?_
          rintro ⟨_, h | h⟩
          · have := h1.pos; omega
          · exact d h
        rw [e]
        have : ¬ (rat (prB p q) (prA p q)).q < s.2.q := fun k => d (hl.2 k)
        refine .inr ⟨h1, .inl h2, fun z hz => ?_⟩
        rcases hz with hz | hz
        · exact h3 z hz
        · rw [hz.2, ← hn]; grind
  · have e : (stepH p q s).2 = s.2 := by unfold stepH; exact if_neg fun h => c h.1
    rw [e]
    exact h.iff fun z => ⟨.inl, fun h => h.elim id fun h => absurd h.1 c⟩
theorem row_max {p : Bd} : ∀ {l : List Bd} {s : Rt × Rt} {C : Rat → Prop}, MaxOf C s.1 → MaxOf (fun z => C z ∨ ∃ q ∈ l, prA p q < 0 ∧ z = pz p q) (rowH p l s).1
  | [], s, C, h => h.iff fun z => by simp
  | q :: l, s, C, h => (row_max (l := l) (step_max (p := p) (q := q) h)).iff fun z => by simp [or_assoc]
theorem row_min {p : Bd} : ∀ {l : List Bd} {s : Rt × Rt} {C : Rat → Prop}, MinOf C s.2 → MinOf (fun z => C z ∨ ∃ q ∈ l, 0 < prA p q ∧ z = pz p q) (rowH p l s).2
  | [], s, C, h => h.iff fun z => by simp
  | q :: l, s, C, h => (row_min (l := l) (step_min (p := p) (q := q) h)).iff fun z => by simp [or_assoc]
theorem all_max {qs : List Bd} : ∀ {l : List Bd} {s : Rt × Rt} {C : Rat → Prop}, MaxOf C s.1 → MaxOf (fun z => C z ∨ ∃ p ∈ l, ∃ q ∈ qs, prA p q < 0 ∧ z = pz p q) (allR qs l s).1
  | [], s, C, h => h.iff fun z => by simp
  | p :: l, s, C, h => (all_max (l := l) (row_max (p := p) (l := qs) h)).iff fun z => by simp [or_assoc]
theorem all_min {qs : List Bd} : ∀ {l : List Bd} {s : Rt × Rt} {C : Rat → Prop}, MinOf C s.2 → MinOf (fun z => C z ∨ ∃ p ∈ l, ∃ q ∈ qs, 0 < prA p q ∧ z = pz p q) (allR qs l s).2
  | [], s, C, h => h.iff fun z => by simp
  | p :: l, s, C, h => (all_min (l := l) (row_min (p := p) (l := qs) h)).iff fun z => by simp [or_assoc]

theorem zero_max {L : Lg} (hL : LgOk L) {core x : Int} : ∀ k, k ≤ L.pl.length → MaxOf (fun z => ∃ i : Nat, i < k ∧ plP L i = x ∧ z = loq L core i) (zeroK L core x k).1 ∧ MinOf (fun z => ∃ i : Nat, i < k ∧ plP L i = x ∧ z = hiq L core i) (zeroK L core x k).2
  | 0, _ => ⟨.inl ⟨rfl, rfl, fun z ⟨i, h, _⟩ => by omega⟩, .inl ⟨rfl, rfl, fun z ⟨i, h, _⟩ => by omega⟩⟩
  | k + 1, hk => by
    by_cases c : plP L k = x
    · have one : ∀ i : Nat, i < k + 1 → plP L i = x → i = k := fun i h1 h2 => by
        by_cases e : i = k
        · exact e
        · have := hL.plL (i := (i : Int)) (j := (k : Int)) (by omega) (by omega) (by omega)
          omega
      have q1 : (rat ((edP L k).lo + core) 1).q = loq L core k := by rw [rat_q (by decide)]; simp only [loq]; push_cast; grind
      have q2 : (rat ((edP L k).hi - core) 1).q = hiq L core k := by rw [rat_q (by decide)]; simp only [hiq]; push_cast; grind
      simp only [zeroK, if_pos c]
      refine ⟨.inr ⟨rat_can (by decide), ⟨k, by omega, c, q1⟩, ?_⟩, .inr ⟨rat_can (by decide), ⟨k, by omega, c, q2⟩, ?_⟩⟩
      · rintro z ⟨i, h1, h2, rfl⟩
        obtain rfl := one i h1 h2
        rw [q1]; exact Rat.le_refl
      · rintro z ⟨i, h1, h2, rfl⟩
        obtain rfl := one i h1 h2
        rw [q2]; exact Rat.le_refl
    · have ih := zero_max hL (core := core) (x := x) k (by omega)
      simp only [zeroK, if_neg c]
      have e : ∀ (f : Nat → Rat) (z : Rat), (∃ i : Nat, i < k ∧ plP L i = x ∧ z = f i) ↔ ∃ i : Nat, i < k + 1 ∧ plP L i = x ∧ z = f i := fun f z => by
        constructor
        · rintro ⟨i, h1, h2⟩; exact ⟨i, by omega, h2⟩
        · rintro ⟨i, h1, h2, h3⟩
          by_cases e : i = k
          · subst e; exact absurd h2 c
          · exact ⟨i, by omega, h2, h3⟩
      exact ⟨ih.1.iff (e _), ih.2.iff (e _)⟩

/-! ### Lines as heights at a number, and steps -/
def LeC (p : Bd) (y s : Rat) : Prop := (p.start : Rat) + p.slope * y ≤ p.den * s
def MoC (q : Bd) (y s : Rat) : Prop := (q.den : Rat) * s ≤ q.start + q.slope * y
theorem dq {L : Lg} {x : Int} (i : Nat) : ((plP L i - x : Int) : Rat) = Xq L i - x := by simp only [Xq]; push_cast; rfl
theorem cpos' {d : Int} (h : d < 0) : (d : Rat) < 0 := by have := cpos (d := -d) (by omega); push_cast at this; grind

theorem least_iff {L : Lg} {core x : Int} {i : Nat} {p : Bd} (hp : p ∈ leastO L core x i) (y s : Rat) :
    (0 < plP L i - x ∧ p = ⟨plP L i - x, (edP L i).lo + core, -1⟩ ∧ (LeC p y s ↔ loq L core i ≤ y + s * (Xq L i - x)) ∧ ((p.start : Rat) + p.slope * y = p.den * s → y + s * (Xq L i - x) = loq L core i)) ∨
    (plP L i - x < 0 ∧ p = ⟨-(plP L i - x), -((edP L i).hi - core), 1⟩ ∧ (LeC p y s ↔ y + s * (Xq L i - x) ≤ hiq L core i) ∧ ((p.start : Rat) + p.slope * y = p.den * s → y + s * (Xq L i - x) = hiq L core i)) := by
  unfold leastO at hp
  split at hp
  · rename_i c
    simp at hp; subst hp
    refine .inl ⟨c, rfl, ?_, ?_⟩
    · simp only [LeC, loq, dq]; push_cast
      constructor <;> intro h <;> grind
    · simp only [loq, dq]; push_cast; intro h; grind
  · split at hp
    · rename_i c
      simp at hp; subst hp
      refine .inr ⟨c, rfl, ?_, ?_⟩
      · have e : ((-(plP L i - x) : Int) : Rat) = -(Xq L i - x) := by rw [Rat.intCast_neg, dq]
        simp only [LeC, hiq]; rw [e]; push_cast
        constructor <;> intro h <;> grind
      · have e : ((-(plP L i - x) : Int) : Rat) = -(Xq L i - x) := by rw [Rat.intCast_neg, dq]
        simp only [hiq]; rw [e]; push_cast; intro h; grind
    · cases hp
theorem most_iff {L : Lg} {core x : Int} {i : Nat} {p : Bd} (hp : p ∈ mostO L core x i) (y s : Rat) :
    (0 < plP L i - x ∧ p = ⟨plP L i - x, (edP L i).hi - core, -1⟩ ∧ (MoC p y s ↔ y + s * (Xq L i - x) ≤ hiq L core i) ∧ ((p.start : Rat) + p.slope * y = p.den * s → y + s * (Xq L i - x) = hiq L core i)) ∨
    (plP L i - x < 0 ∧ p = ⟨-(plP L i - x), -((edP L i).lo + core), 1⟩ ∧ (MoC p y s ↔ loq L core i ≤ y + s * (Xq L i - x)) ∧ ((p.start : Rat) + p.slope * y = p.den * s → y + s * (Xq L i - x) = loq L core i)) := by
  unfold mostO at hp
  split at hp
  · rename_i c
    simp at hp; subst hp
    refine .inl ⟨c, rfl, ?_, ?_⟩
    · simp only [MoC, hiq, dq]; push_cast
      constructor <;> intro h <;> grind
    · simp only [hiq, dq]; push_cast; intro h; grind
  · split at hp
    · rename_i c
      simp at hp; subst hp
      refine .inr ⟨c, rfl, ?_, ?_⟩
      · have e : ((-(plP L i - x) : Int) : Rat) = -(Xq L i - x) := by rw [Rat.intCast_neg, dq]
        simp only [MoC, loq]; rw [e]; push_cast
        constructor <;> intro h <;> grind
      · have e : ((-(plP L i - x) : Int) : Rat) = -(Xq L i - x) := by rw [Rat.intCast_neg, dq]
        simp only [loq]; rw [e]; push_cast; intro h; grind
    · cases hp
theorem leastO_ex {L : Lg} {core x : Int} {i : Nat} (h : plP L i - x ≠ 0) : (∃ p, p ∈ leastO L core x i) ∧ ∃ p, p ∈ mostO L core x i := by
  unfold leastO mostO
  by_cases c : 0 < plP L i - x
  · rw [if_pos c, if_pos c]; exact ⟨⟨_, List.mem_singleton.2 rfl⟩, ⟨_, List.mem_singleton.2 rfl⟩⟩
  · rw [if_neg c, if_neg c, if_pos (by omega), if_pos (by omega)]; exact ⟨⟨_, List.mem_singleton.2 rfl⟩, ⟨_, List.mem_singleton.2 rfl⟩⟩

/-- A line keeps the core just if it meets all that is asked. -/
theorem keeps_cons {L : Lg} {core x : Int} (y s : Rat) : Keeps L core (y - s * x) s ↔ (∀ p ∈ leastK L core x L.pl.length, LeC p y s) ∧ (∀ q ∈ mostK L core x L.pl.length, MoC q y s) ∧ ∀ i : Nat, i < L.pl.length → plP L i = x → loq L core i ≤ y ∧ y ≤ hiq L core i := by
  have ev : ∀ i, y - s * (x : Rat) + s * Xq L i = y + s * (Xq L i - x) := fun i => by grind
  constructor
  · intro h
    refine ⟨fun p hp => ?_, fun p hp => ?_, fun i hi hx => ?_⟩
    · obtain ⟨i, hi, hp⟩ := leastK_of hp
      have := h i hi
      rw [ev] at this
      rcases least_iff hp y s with ⟨_, _, h1, _⟩ | ⟨_, _, h1, _⟩
      · exact h1.2 this.1
      · exact h1.2 this.2
    · obtain ⟨i, hi, hp⟩ := mostK_of hp
      have := h i hi
      rw [ev] at this
      rcases most_iff hp y s with ⟨_, _, h1, _⟩ | ⟨_, _, h1, _⟩
      · exact h1.2 this.2
      · exact h1.2 this.1
    · have := h i hi
      have e : Xq L i = (x : Rat) := by simp only [Xq]; rw [hx]
      rw [e] at this
      have e2 : y - s * (x : Rat) + s * (x : Rat) = y := by grind
      rw [e2] at this
      exact this
  · rintro ⟨h1, h2, h3⟩ i hi
    rw [ev]
    by_cases c : plP L i - x = 0
    · have hx : plP L i = x := by omega
      have := h3 i hi hx
      have e : Xq L i - (x : Rat) = 0 := by simp only [Xq]; rw [hx]; grind
      rw [e]
      have e2 : y + s * 0 = y := by grind
      rw [e2]; exact this
    · obtain ⟨⟨p, hp⟩, q, hq⟩ := leastO_ex (L := L) (core := core) c
      have a := h1 p (leastK_has hp hi)
      have b := h2 q (mostK_has hq hi)
      rcases least_iff hp y s with ⟨c1, _, g1, _⟩ | ⟨c1, _, g1, _⟩ <;> rcases most_iff hq y s with ⟨c2, _, g2, _⟩ | ⟨c2, _, g2, _⟩
      · exact ⟨g1.1 a, g2.1 b⟩
      · omega
      · omega
      · exact ⟨g2.1 b, g1.1 a⟩
theorem keeps_cons' {L : Lg} {core x : Int} (h s : Rat) : Keeps L core h s → (∀ p ∈ leastK L core x L.pl.length, LeC p (h + s * x) s) ∧ (∀ q ∈ mostK L core x L.pl.length, MoC q (h + s * x) s) ∧ ∀ i : Nat, i < L.pl.length → plP L i = x → loq L core i ≤ h + s * x ∧ h + s * x ≤ hiq L core i := fun hk => by
  rw [← keeps_cons]
  have : h + s * (x : Rat) - s * x = h := by grind
  rw [this]; exact hk

/-! ### Pairs -/
def PairC (p q : Bd) (y : Rat) : Prop := (prA p q : Rat) * y ≤ (prB p q : Rat)
theorem prA_q (p q : Bd) : ((prA p q : Int) : Rat) = (p.slope : Rat) * q.den - q.slope * p.den := by unfold prA; push_cast; rfl
theorem prB_q (p q : Bd) : ((prB p q : Int) : Rat) = (q.start : Rat) * p.den - p.start * q.den := by unfold prB; push_cast; rfl
theorem pair_of {p q : Bd} (hp : 0 < p.den) (hq : 0 < q.den) {y s : Rat} (h1 : LeC p y s) (h2 : MoC q y s) : PairC p q y := by
  unfold LeC MoC at *
  unfold PairC
  rw [prA_q, prB_q]
  have k1 := rmul_le h1 (c := (q.den : Rat)) (by have := cpos hq; grind)
  have k2 := rmul_le h2 (c := (p.den : Rat)) (by have := cpos hp; grind)
  grind
theorem pair_lt {p q : Bd} (h : prA p q < 0) (y : Rat) : PairC p q y ↔ pz p q ≤ y := by
  have hn := cpos' h
  have h0 : (prA p q : Rat) ≠ 0 := by grind
  have e : pz p q * (prA p q : Rat) = prB p q := by unfold pz; grind
  unfold PairC
  constructor
  · intro k
    refine rle_of (c := -(prA p q : Rat)) ?_ (by grind)
    grind
  · intro k
    have := rmul_le k (c := -(prA p q : Rat)) (by grind)
    grind
theorem pair_gt {p q : Bd} (h : 0 < prA p q) (y : Rat) : PairC p q y ↔ y ≤ pz p q := by
  have hn := cpos h
  have h0 : (prA p q : Rat) ≠ 0 := by grind
  have e : pz p q * (prA p q : Rat) = prB p q := by unfold pz; grind
  unfold PairC
  constructor
  · intro k
    refine rle_of (c := (prA p q : Rat)) ?_ hn
    grind
  · intro k
    have := rmul_le k (c := (prA p q : Rat)) (by grind)
    grind
theorem pair_eq {p q : Bd} (h : prA p q = 0) {y y' : Rat} (k : PairC p q y) : PairC p q y' := by
  unfold PairC at *
  rw [h] at *
  grind
end Go.Proofs.Ytnionkopmncopaa
set_option linter.unusedVariables false
namespace Go.Proofs.Ytnionkopmncopaa
open Go.Pl

theorem list_max {α : Type} (f : α → Rat) : ∀ (l : List α), l ≠ [] → ∃ a ∈ l, ∀ b ∈ l, f b ≤ f a
  | [], h => absurd rfl h
  | [a], _ => ⟨a, by simp, fun b hb => by simp at hb; subst hb; exact Rat.le_refl⟩
  | a :: b :: l, _ => by
    obtain ⟨c, hc, hm⟩ := list_max f (b :: l) (by simp)
    by_cases h : f c ≤ f a
    · refine ⟨a, by simp, fun d hd => ?_⟩
      rcases List.mem_cons.1 hd with rfl | hd
      · exact Rat.le_refl
      · exact Rat.le_trans (hm d hd) h
    · refine ⟨c, List.mem_cons_of_mem _ hc, fun d hd => ?_⟩
      rcases List.mem_cons.1 hd with rfl | hd
      · grind
      · exact hm d hd

theorem pl1 {a b d e f g y s : Rat} (h : (b * g - f * d) * y ≤ e * d - a * g) (hs : g * s = e + f * y) : (a + b * y) * g ≤ d * s * g := by
  have e1 : d * s * g = d * (e + f * y) := by rw [← hs]; grind
  rw [e1]; grind
theorem pl2 {a b d e f g y s : Rat} (h : (b * g - f * d) * y ≤ e * d - a * g) (hs : d * s = a + b * y) : (g * s) * d ≤ (e + f * y) * d := by
  have e1 : g * s * d = g * (a + b * y) := by rw [← hs]; grind
  rw [e1]; grind

/-- A height at which nothing speaks against it, and something is tight, is that of a line that is looked at. -/
theorem attain {L : Lg} (hL : LgOk L) {core x : Int} (hcb : -2000 ≤ core ∧ core ≤ 2000) (hxb : 0 ≤ x ∧ x ≤ 100) {y : Rat}
    (hpair : ∀ p ∈ leastK L core x L.pl.length, ∀ q ∈ mostK L core x L.pl.length, PairC p q y) (hz : ∀ i : Nat, i < L.pl.length → plP L i = x → loq L core i ≤ y ∧ y ≤ hiq L core i)
    (ht : (∃ p ∈ leastK L core x L.pl.length, ∃ q ∈ mostK L core x L.pl.length, prA p q ≠ 0 ∧ y = pz p q) ∨ ∃ i : Nat, i < L.pl.length ∧ plP L i = x ∧ (y = loq L core i ∨ y = hiq L core i)) :
    ∃ r ∈ allH L core x, r.q = y := by
  have hn2 := hL.n2
  have fin : ∀ (s : Rat) (i k : Nat), i ≠ k → i < L.pl.length → k < L.pl.length → Keeps L core (y - s * x) s → EndL (Xq L) (loq L core) (hiq L core) (y - s * x) s i → EndL (Xq L) (loq L core) (hiq L core) (y - s * x) s k → ∃ r ∈ allH L core x, r.q = y := by
    intro s i k hne hi hk hkeep ei ek
    have e : y - s * (x : Rat) + s * x = y := by grind
    rcases Nat.lt_or_gt_of_ne hne with c | c
    · obtain ⟨r, h1, h2⟩ := line_allH hL (x := x) c hk hkeep ei ek
      exact ⟨r, h1, by rw [h2, e]⟩
    · obtain ⟨r, h1, h2⟩ := line_allH hL (x := x) c hi hkeep ek ei
      exact ⟨r, h1, by rw [h2, e]⟩
  have ev : ∀ (s : Rat) (i : Nat), y - s * (x : Rat) + s * Xq L i = y + s * (Xq L i - x) := fun s i => by grind
  rcases ht with ⟨p, hp, q, hq, hA, hy⟩ | ⟨z, hzn, hzx, hy⟩
  · have pB := leastK_bd hL hcb hxb hp
    have qB := mostK_bd hL hcb hxb hq
    have pd := cpos pB.1
    have qd := cpos qB.1
    have hA0 : (prA p q : Rat) ≠ 0 := by exact_mod_cast hA
    have hAy : (prA p q : Rat) * y = prB p q := by rw [hy]; unfold pz; grind
    rw [prA_q, prB_q] at hAy
    obtain ⟨s, hs⟩ : ∃ s : Rat, (p.den : Rat) * s = p.start + p.slope * y := ⟨((p.start : Rat) + p.slope * y) / p.den, by grind⟩
    have hs2 : (q.den : Rat) * s = q.start + q.slope * y := by
      have : ((q.den : Rat) * s) * p.den = (q.start + q.slope * y) * p.den := by grind
      have k1 := rle_of (a := (q.den : Rat) * s) (b := q.start + q.slope * y) (by rw [this]; exact Rat.le_refl) pd
      have k2 := rle_of (a := q.start + q.slope * y) (b := (q.den : Rat) * s) (by rw [this]; exact Rat.le_refl) pd
      grind
    have hkeep : Keeps L core (y - s * x) s := by
      rw [keeps_cons]
      refine ⟨fun p' hp' => ?_, fun q' hq' => ?_, hz⟩
      · have := hpair p' hp' q hq
        unfold PairC at this
        rw [prA_q, prB_q] at this
        exact rle_of (pl1 this hs2) qd
      · have := hpair p hp q' hq'
        unfold PairC at this
        rw [prA_q, prB_q] at this
        exact rle_of (pl2 this hs) pd
    obtain ⟨i, hi, hpi⟩ := leastK_of hp
    obtain ⟨k, hk, hqk⟩ := mostK_of hq
    have hne : i ≠ k := by
      rintro rfl
      rcases least_iff hpi y s with ⟨c1, rfl, _⟩ | ⟨c1, rfl, _⟩ <;> rcases most_iff hqk y s with ⟨c2, rfl, _⟩ | ⟨c2, rfl, _⟩
      · exact hA (by unfold prA; dsimp only; omega)
      · omega
      · omega
      · exact hA (by unfold prA; dsimp only; omega)
    refine fin s i k hne hi hk hkeep ?_ ?_
    · rcases least_iff hpi y s with ⟨_, _, _, h⟩ | ⟨_, _, _, h⟩
      · exact .inl (by rw [ev]; exact h hs.symm)
      · exact .inr (by rw [ev]; exact h hs.symm)
    · rcases most_iff hqk y s with ⟨_, _, _, h⟩ | ⟨_, _, _, h⟩
      · exact .inr (by rw [ev]; exact h hs2.symm)
      · exact .inl (by rw [ev]; exact h hs2.symm)
  · have hother : ∃ j : Nat, j < L.pl.length ∧ plP L j - x ≠ 0 := by
      by_cases c : z = 0
      · subst c
        refine ⟨1, by omega, ?_⟩
        have := hL.plL (i := ((0 : Nat) : Int)) (j := ((1 : Nat) : Int)) (by omega) (by omega) (by omega)
        omega
      · refine ⟨0, by omega, ?_⟩
        have := hL.plL (i := ((0 : Nat) : Int)) (j := (z : Int)) (by omega) (by omega) (by omega)
        omega
    obtain ⟨j, hj, hjx⟩ := hother
    obtain ⟨⟨pj, hpj⟩, _⟩ := leastO_ex (L := L) (core := core) hjx
    obtain ⟨p, hp, hmax⟩ := list_max (fun p : Bd => ((p.start : Rat) + p.slope * y) / p.den) (leastK L core x L.pl.length) (fun e => by have := leastK_has hpj hj; rw [e] at this; cases this)
    have pB := leastK_bd hL hcb hxb hp
    have pd := cpos pB.1
    obtain ⟨s, hs⟩ : ∃ s : Rat, s = ((p.start : Rat) + p.slope * y) / p.den := ⟨_, rfl⟩
    have hs1 : (p.den : Rat) * s = p.start + p.slope * y := by rw [hs]; grind
    have hkeep : Keeps L core (y - s * x) s := by
      rw [keeps_cons]
      refine ⟨fun p' hp' => ?_, fun q' hq' => ?_, hz⟩
      · have h1 := hmax p' hp'
        have pd' := cpos (leastK_bd hL hcb hxb hp').1
        have h2 := rmul_le h1 (c := (p'.den : Rat)) (by grind)
        have e : ((p'.start : Rat) + p'.slope * y) / p'.den * p'.den = p'.start + p'.slope * y := by grind
        unfold LeC
        rw [← hs] at h2
        grind
      · have := hpair p hp q' hq'
        unfold PairC at this
        rw [prA_q, prB_q] at this
        exact rle_of (pl2 this hs1) pd
    obtain ⟨i, hi, hpi⟩ := leastK_of hp
    refine fin s i z ?_ hi hzn hkeep ?_ ?_
    · rintro rfl
      rcases least_iff hpi y s with ⟨c1, _⟩ | ⟨c1, _⟩ <;> omega
    · rcases least_iff hpi y s with ⟨_, _, _, h⟩ | ⟨_, _, _, h⟩
      · exact .inl (by rw [ev]; exact h hs1.symm)
      · exact .inr (by rw [ev]; exact h hs1.symm)
    · have e : Xq L z - (x : Rat) = 0 := by simp only [Xq]; rw [hzx]; grind
      unfold EndL
      rw [ev, e]
      have e2 : y + s * 0 = y := by grind
      rw [e2]; exact hy

/-- Something is always asked. -/
theorem asked {L : Lg} (hL : LgOk L) (core x : Int) : (∃ z, (∃ i : Nat, i < L.pl.length ∧ plP L i = x ∧ z = loq L core i) ∨ ∃ p ∈ leastK L core x L.pl.length, ∃ q ∈ mostK L core x L.pl.length, prA p q < 0 ∧ z = pz p q) ∧
    (∃ z, (∃ i : Nat, i < L.pl.length ∧ plP L i = x ∧ z = hiq L core i) ∨ ∃ p ∈ leastK L core x L.pl.length, ∃ q ∈ mostK L core x L.pl.length, 0 < prA p q ∧ z = pz p q) := by
  have hn2 := hL.n2
  have hlt := hL.plL (i := ((0 : Nat) : Int)) (j := ((1 : Nat) : Int)) (by omega) (by omega) (by omega)
  by_cases c0 : plP L ((0 : Nat) : Int) = x
  · exact ⟨⟨_, .inl ⟨0, by omega, c0, rfl⟩⟩, ⟨_, .inl ⟨0, by omega, c0, rfl⟩⟩⟩
  by_cases c1 : plP L ((1 : Nat) : Int) = x
  · exact ⟨⟨_, .inl ⟨1, by omega, c1, rfl⟩⟩, ⟨_, .inl ⟨1, by omega, c1, rfl⟩⟩⟩
  obtain ⟨⟨p0, hp0⟩, q0, hq0⟩ := leastO_ex (L := L) (core := core) (x := x) (i := 0) (by omega)
  obtain ⟨⟨p1, hp1⟩, q1, hq1⟩ := leastO_ex (L := L) (core := core) (x := x) (i := 1) (by omega)
  have mp0 := leastK_has hp0 (k := L.pl.length) (by omega)
  have mp1 := leastK_has hp1 (k := L.pl.length) (by omega)
  have mq0 := mostK_has hq0 (k := L.pl.length) (by omega)
  have mq1 := mostK_has hq1 (k := L.pl.length) (by omega)
  have a := least_iff hp0 0 0
  have b := most_iff hq0 0 0
  have c := least_iff hp1 0 0
  have d := most_iff hq1 0 0
  have a' : (0 < plP L ((0 : Nat) : Int) - x ∧ p0.den = plP L ((0 : Nat) : Int) - x ∧ p0.slope = -1) ∨ (plP L ((0 : Nat) : Int) - x < 0 ∧ p0.den = -(plP L ((0 : Nat) : Int) - x) ∧ p0.slope = 1) := by
    rcases a with ⟨h, rfl, _⟩ | ⟨h, rfl, _⟩
    · exact .inl ⟨h, rfl, rfl⟩
    · exact .inr ⟨h, rfl, rfl⟩
  have b' : (0 < plP L ((0 : Nat) : Int) - x ∧ q0.den = plP L ((0 : Nat) : Int) - x ∧ q0.slope = -1) ∨ (plP L ((0 : Nat) : Int) - x < 0 ∧ q0.den = -(plP L ((0 : Nat) : Int) - x) ∧ q0.slope = 1) := by
    rcases b with ⟨h, rfl, _⟩ | ⟨h, rfl, _⟩
    · exact .inl ⟨h, rfl, rfl⟩
    · exact .inr ⟨h, rfl, rfl⟩
  have c' : (0 < plP L ((1 : Nat) : Int) - x ∧ p1.den = plP L ((1 : Nat) : Int) - x ∧ p1.slope = -1) ∨ (plP L ((1 : Nat) : Int) - x < 0 ∧ p1.den = -(plP L ((1 : Nat) : Int) - x) ∧ p1.slope = 1) := by
    rcases c with ⟨h, rfl, _⟩ | ⟨h, rfl, _⟩
    · exact .inl ⟨h, rfl, rfl⟩
    · exact .inr ⟨h, rfl, rfl⟩
  have d' : (0 < plP L ((1 : Nat) : Int) - x ∧ q1.den = plP L ((1 : Nat) : Int) - x ∧ q1.slope = -1) ∨ (plP L ((1 : Nat) : Int) - x < 0 ∧ q1.den = -(plP L ((1 : Nat) : Int) - x) ∧ q1.slope = 1) := by
    rcases d with ⟨h, rfl, _⟩ | ⟨h, rfl, _⟩
    · exact .inl ⟨h, rfl, rfl⟩
    · exact .inr ⟨h, rfl, rfl⟩
  have hA : ∀ (p q : Bd), prA p q = p.slope * q.den - q.slope * p.den := fun _ _ => rfl
  rcases a' with ⟨a1, a2, a3⟩ | ⟨a1, a2, a3⟩ <;> rcases b' with ⟨b1, b2, b3⟩ | ⟨b1, b2, b3⟩ <;> rcases c' with ⟨c1', c2, c3⟩ | ⟨c1', c2, c3⟩ <;> rcases d' with ⟨d1, d2, d3⟩ | ⟨d1, d2, d3⟩ <;> first | omega | skip
  · exact ⟨⟨_, .inr ⟨p0, mp0, q1, mq1, by rw [hA, a3, d3]; omega, rfl⟩⟩, ⟨_, .inr ⟨p1, mp1, q0, mq0, by rw [hA, c3, b3]; omega, rfl⟩⟩⟩
  · exact ⟨⟨_, .inr ⟨p1, mp1, q0, mq0, by rw [hA, c3, b3]; omega, rfl⟩⟩, ⟨_, .inr ⟨p0, mp0, q1, mq1, by rw [hA, a3, d3]; omega, rfl⟩⟩⟩
  · exact ⟨⟨_, .inr ⟨p0, mp0, q1, mq1, by rw [hA, a3, d3]; omega, rfl⟩⟩, ⟨_, .inr ⟨p1, mp1, q0, mq0, by rw [hA, c3, b3]; omega, rfl⟩⟩⟩

theorem best_ge {l : List Rt} (hl : ∀ r ∈ l, 0 < r.den) : ∀ (o : Rt), 0 < o.den → (o.q ≤ (bestOf (fun a b => lessB b a) o l).q ∧ ∀ r ∈ l, r.q ≤ (bestOf (fun a b => lessB b a) o l).q) := by
  induction l with
  | nil => intro o ho; exact ⟨Rat.le_refl, fun r h => by cases h⟩
  | cons x l ih =>
    intro o ho
    have hx := hl x (by simp)
    have e : bestOf (fun a b => lessB b a) o (x :: l) = bestOf (fun a b => lessB b a) (if lessB o x then x else o) l := rfl
    rw [e]
    have h0 : 0 < (if lessB o x then x else o).den := by split <;> assumption
    obtain ⟨h1, h2⟩ := ih (fun r hr => hl r (List.mem_cons_of_mem _ hr)) _ h0
    have h3 : x.q ≤ (if lessB o x then x else o).q ∧ o.q ≤ (if lessB o x then x else o).q := by
      have := lessB_q ho hx
      by_cases c : lessB o x = true
      · rw [if_pos c]; have := this.1 c; exact ⟨Rat.le_refl, by grind⟩
      · rw [if_neg c]
        have : ¬ o.q < x.q := fun k => c (this.2 k)
        exact ⟨by grind, Rat.le_refl⟩
    refine ⟨Rat.le_trans h3.2 h1, fun d hd => ?_⟩
    rcases List.mem_cons.1 hd with rfl | hd
    · exact Rat.le_trans h3.1 h1
    · exact h2 d hd

theorem ratq_one (core : Int) : (rat core 1).q = (core : Rat) := by rw [rat_q (by decide)]; push_cast; grind

/-- What the definition's heights are. -/
theorem defH_spec {L : Lg} (hL : LgOk L) {core x : Int} (hcb : -2000 ≤ core ∧ core ≤ 2000) (hxb : 0 ≤ x ∧ x ≤ 100) (hv : (core : Rat) ≤ (bestV L).q) :
    (Go.Pl.Can (defH L core x).1 ∧ (∃ r ∈ allH L core x, r.q = (defH L core x).1.q) ∧ ∀ h s : Rat, Keeps L core h s → (defH L core x).1.q ≤ h + s * x) ∧
    (Go.Pl.Can (defH L core x).2 ∧ (∃ r ∈ allH L core x, r.q = (defH L core x).2.q) ∧ ∀ h s : Rat, Keeps L core h s → h + s * x ≤ (defH L core x).2.q) := by
  obtain ⟨ia, ka, h0, s0, _, _, hk0, _, _⟩ := best_line hL
  have hf := keeps_le hk0 hv
  obtain ⟨hz1, hz2⟩ := zero_max hL (core := core) (x := x) L.pl.length (Nat.le_refl _)
  have hM := all_max (qs := mostK L core x L.pl.length) (l := leastK L core x L.pl.length) hz1
  have hm := all_min (qs := mostK L core x L.pl.length) (l := leastK L core x L.pl.length) hz2
  change MaxOf _ (defH L core x).1 at hM
  change MinOf _ (defH L core x).2 at hm
  obtain ⟨⟨za, hza⟩, zb, hzb⟩ := asked hL core x
  have pB : ∀ p ∈ leastK L core x L.pl.length, 0 < p.den := fun p hp => (leastK_bd hL hcb hxb hp).1
  have qB : ∀ p ∈ mostK L core x L.pl.length, 0 < p.den := fun p hp => (mostK_bd hL hcb hxb hp).1
  have low : ∀ z h s, ((∃ i : Nat, i < L.pl.length ∧ plP L i = x ∧ z = loq L core i) ∨ ∃ p ∈ leastK L core x L.pl.length, ∃ q ∈ mostK L core x L.pl.length, prA p q < 0 ∧ z = pz p q) → Keeps L core h s → z ≤ h + s * x := by
    intro z h s hz hk
    obtain ⟨k1, k2, k3⟩ := keeps_cons' (x := x) h s hk
    rcases hz with ⟨i, hi, hx, rfl⟩ | ⟨p, hp, q, hq, hA, rfl⟩
    · exact (k3 i hi hx).1
    · exact (pair_lt hA _).1 (pair_of (pB p hp) (qB q hq) (k1 p hp) (k2 q hq))
  have upp : ∀ z h s, ((∃ i : Nat, i < L.pl.length ∧ plP L i = x ∧ z = hiq L core i) ∨ ∃ p ∈ leastK L core x L.pl.length, ∃ q ∈ mostK L core x L.pl.length, 0 < prA p q ∧ z = pz p q) → Keeps L core h s → h + s * x ≤ z := by
    intro z h s hz hk
    obtain ⟨k1, k2, k3⟩ := keeps_cons' (x := x) h s hk
    rcases hz with ⟨i, hi, hx, rfl⟩ | ⟨p, hp, q, hq, hA, rfl⟩
    · exact (k3 i hi hx).2
    · exact (pair_gt hA _).1 (pair_of (pB p hp) (qB q hq) (k1 p hp) (k2 q hq))
  obtain ⟨f1, f2, f3⟩ := keeps_cons' (x := x) h0 s0 hf
  have fp : ∀ p ∈ leastK L core x L.pl.length, ∀ q ∈ mostK L core x L.pl.length, PairC p q (h0 + s0 * x) := fun p hp q hq => pair_of (pB p hp) (qB q hq) (f1 p hp) (f2 q hq)
  constructor
  · rcases hM with ⟨_, _, hno⟩ | ⟨hc, hin, hmax⟩
    · exact absurd hza (hno za)
    · have hle := low _ h0 s0 hin hf
      refine ⟨hc, attain hL hcb hxb (fun p hp q hq => ?_) (fun i hi hx => ⟨hmax _ (.inl ⟨i, hi, hx, rfl⟩), Rat.le_trans hle (f3 i hi hx).2⟩) ?_, fun h s hk => low _ h s hin hk⟩
      · rcases Int.lt_trichotomy (prA p q) 0 with c | c | c
        · exact (pair_lt c _).2 (hmax _ (.inr ⟨p, hp, q, hq, c, rfl⟩))
        · exact pair_eq c (fp p hp q hq)
        · exact (pair_gt c _).2 (Rat.le_trans hle ((pair_gt c _).1 (fp p hp q hq)))
      · rcases hin with ⟨i, hi, hx, e⟩ | ⟨p, hp, q, hq, hA, e⟩
        · exact .inr ⟨i, hi, hx, .inl e⟩
        · exact .inl ⟨p, hp, q, hq, by omega, e⟩
  · rcases hm with ⟨_, _, hno⟩ | ⟨hc, hin, hmin⟩
    · exact absurd hzb (hno zb)
    · have hle := upp _ h0 s0 hin hf
      refine ⟨hc, attain hL hcb hxb (fun p hp q hq => ?_) (fun i hi hx => ⟨Rat.le_trans (f3 i hi hx).1 hle, hmin _ (.inl ⟨i, hi, hx, rfl⟩)⟩) ?_, fun h s hk => upp _ h s hin hk⟩
      · rcases Int.lt_trichotomy (prA p q) 0 with c | c | c
        · exact (pair_lt c _).2 (Rat.le_trans ((pair_lt c _).1 (fp p hp q hq)) hle)
        · exact pair_eq c (fp p hp q hq)
        · exact (pair_gt c _).2 (hmin _ (.inr ⟨p, hp, q, hq, c, rfl⟩))
      · rcases hin with ⟨i, hi, hx, e⟩ | ⟨p, hp, q, hq, hA, e⟩
        · exact .inr ⟨i, hi, hx, .inr e⟩
        · exact .inl ⟨p, hp, q, hq, by omega, e⟩

/-- No line keeps the core, or the heights are the definition's. -/
theorem allH_none {L : Lg} (hL : LgOk L) {core x : Int} (hv : ¬ (core : Rat) ≤ (bestV L).q) : allH L core x = [] := by
  cases h : allH L core x with
  | nil => rfl
  | cons r l =>
    obtain ⟨_, h0, s0, hk, _⟩ := allH_line hL (r := r) (x := x) (core := core) (by rw [h]; simp)
    exact absurd (keeps_best hL hk) hv
theorem allH_some {L : Lg} (hL : LgOk L) {core x : Int} (hcb : -2000 ≤ core ∧ core ≤ 2000) (hxb : 0 ≤ x ∧ x ≤ 100) (hv : (core : Rat) ≤ (bestV L).q) :
    ∃ h0 hs, allH L core x = h0 :: hs ∧ bestOf lessB h0 hs = (defH L core x).1 ∧ bestOf (fun a b => lessB b a) h0 hs = (defH L core x).2 := by
  obtain ⟨⟨c1, ⟨r1, hr1, e1⟩, m1⟩, c2, ⟨r2, hr2, e2⟩, m2⟩ := defH_spec hL hcb hxb hv
  cases h : allH L core x with
  | nil => rw [h] at hr1; cases hr1
  | cons h0 hs =>
    have hall : ∀ r ∈ h0 :: hs, Go.Pl.Can r ∧ (defH L core x).1.q ≤ r.q ∧ r.q ≤ (defH L core x).2.q := fun r hr => by
      obtain ⟨hc, h', s', hk, e⟩ := allH_line hL (r := r) (x := x) (core := core) (by rw [h]; exact hr)
      rw [e]
      exact ⟨hc, m1 _ _ hk, m2 _ _ hk⟩
    have hd : ∀ r ∈ hs, 0 < r.den := fun r hr => (hall r (List.mem_cons_of_mem _ hr)).1.pos
    have hd0 := (hall h0 (by simp)).1.pos
    refine ⟨h0, hs, rfl, ?_, ?_⟩
    · have hb := best_le hd h0 hd0
      have hm := bestOf_mem lessB h0 hs hs.length
      rw [List.take_length] at hm
      have ha := hall _ hm
      refine can_ext ha.1 c1 ?_
      have : (bestOf lessB h0 hs).q ≤ r1.q := by
        rw [h] at hr1
        rcases List.mem_cons.1 hr1 with rfl | hr
        · exact hb.1
        · exact hb.2 r1 hr
      grind
    · have hb := best_ge hd h0 hd0
      have hm := bestOf_mem (fun a b => lessB b a) h0 hs hs.length
      rw [List.take_length] at hm
      have ha := hall _ hm
      refine can_ext ha.1 c2 ?_
      have : r2.q ≤ (bestOf (fun a b => lessB b a) h0 hs).q := by
        rw [h] at hr2
        rcases List.mem_cons.1 hr2 with rfl | hr
        · exact hb.1
        · exact hb.2 r2 hr
      grind
theorem less_core {L : Lg} (hL : LgOk L) (core : Int) : lessB (bestV L) (rat core 1) = true ↔ ¬ (core : Rat) ≤ (bestV L).q := by
  rw [lessB_q (best_can hL).pos (rat_can (by decide)).pos, ratq_one]
  constructor
  · intro h k; grind
  · intro h; grind
theorem heights_eq (L : Lg) (core x : Int) : hghR L core x = defR L core x := by
  unfold hghR defR
  by_cases he : logE L ≠ 0
  · rw [if_pos he, if_pos he]
  rw [if_neg he, if_neg he]
  by_cases hr : ¬ (-2000 ≤ core ∧ core ≤ 2000 ∧ 0 ≤ x ∧ x ≤ 100)
  · rw [if_pos hr, if_pos hr]
  rw [if_neg hr, if_neg hr]
  have hr' := Decidable.not_not.1 hr
  have hL := logE_ok (L := L) (by omega)
  by_cases hv : (core : Rat) ≤ (bestV L).q
  · rw [if_neg (fun h => (less_core hL core).1 h hv)]
    obtain ⟨h0, hs, h1, h2, h3⟩ := allH_some hL ⟨hr'.1, hr'.2.1⟩ hr'.2.2 hv
    rw [h1]
    dsimp only
    rw [h2, h3]
  · rw [if_pos ((less_core hL core).2 hv), allH_none hL hv]
end Go.Proofs.Ytnionkopmncopaa
set_option linter.unusedVariables false
namespace Go.Proofs.Ytnionkopmncopaa
open Go.Lw Go.Pl Go.RowKit

theorem peelHeights_f (L : Lg) (core x : Int) (V : View) (v : Value) (hv : LogV V v L) : Fnc Try.prog 6 [v, iv core, iv x] V fun r _ => r = .bool true := by
  have hv' := hv
  obtain ⟨a, c, a', c', rfl, h2, h3⟩ := hv
  refine fn_of Try.func6 rfl Try.ntmps6 (Nat.le_of_ble_eq_true rfl) ?_
  intro w0 hw0
  refine At.nrm ?_
  refine At.ktext (.n false 0 (.q 1 .done)) ?_
  refine AtT.kbox ?_
  intro b3
  refine AtT.kassign ?_
  refine AtT.done ?_
  refine At.nrm ?_
  refine At.ktext (.q 0 (.n false 1 .done)) ?_
  first | refine AtT.kloadOA tk25 ?_ | refine AtT.kloadA tk25 ?_ | refine AtT.kloadOP tk25 ?_
  refine AtT.kcallP rfl rfl ok18 (great_f L _ _ hv') ?_
  rintro _ rfl
  refine AtT.done ?_
  refine At.nrm ?_
  refine At.condP rfl (fun hb => ?_) (fun hb => ?_)
  · refine At.nrm ?_
    refine At.ktext (.n false 0 (.q 1 .done)) ?_
    refine AtT.kcallP rfl rfl ok19 (works_f _) ?_
    rintro _ rfl
    refine AtT.kassign ?_
    refine AtT.done ?_
    refine At.nrm ?_
    exact At.ret1 rfl (.tmp rfl) rfl
  · refine At.nrm ?_
    refine At.ktext (.q 0 (.q 1 (.q 2 (.n false 3 (.q 4 (.q 5 (.q 6 (.q 7 (.n false 8 (.n false 9 (.n true 10 (.n true 11 (.q 12 .done))))))))))))) ?_
    first | refine AtT.kloadOA tk25 ?_ | refine AtT.kloadA tk25 ?_ | refine AtT.kloadOP tk25 ?_
    refine AtT.kmove ?_
    refine AtT.kmove ?_
    refine AtT.kcallP rfl rfl ok34 (heights_p L core x _ _ hv') ?_
    rintro _ rfl
    refine AtT.kmove ?_
    refine AtT.kextract ?_
    refine AtT.kextract ?_
    refine AtT.kextract ?_
    refine AtT.kalloc z31 ?_
    intro b7
    refine AtT.kalloc z31 ?_
    intro b8
    refine AtT.kstoreA tk31 ?_
    refine AtT.kstoreA tk31 ?_
    refine AtT.kassign ?_
    refine AtT.done ?_
    refine At.nrm ?_
    refine At.ktext (.q 0 (.q 1 (.q 2 (.n false 3 (.q 4 (.q 5 (.q 6 (.q 7 (.n false 8 (.n false 9 (.n true 10 (.n true 11 (.q 12 .done))))))))))))) ?_
    first | refine AtT.kloadOA tk25 ?_ | refine AtT.kloadA tk25 ?_ | refine AtT.kloadOP tk25 ?_
    refine AtT.kmove ?_
    refine AtT.kmove ?_
    refine AtT.kcallP rfl rfl ok35 (heights_q L core x _ _ hv') ?_
    rintro _ rfl; rw [← heights_eq]
    refine AtT.kmove ?_
    refine AtT.kextract ?_
    refine AtT.kextract ?_
    refine AtT.kextract ?_
    refine AtT.kalloc z31 ?_
    intro b10
    refine AtT.kalloc z31 ?_
    intro b11
    refine AtT.kstoreA tk31 ?_
    refine AtT.kstoreA tk31 ?_
    refine AtT.kassign ?_
    refine AtT.done ?_
    refine At.nrm ?_
    refine At.ktext (.q 0 (.q 1 (.q 2 (.q 3 (.q 4 (.q 5 (.q 6 (.q 7 (.q 8 (.q 9 (.q 10 (.q 11 (.q 12 (.q 13 (.n false 14 (.q 15 (.q 16 .done))))))))))))))))) ?_
    first | refine AtT.kloadOA tk31 ?_ | refine AtT.kloadA tk31 ?_ | refine AtT.kloadOP tk31 ?_
    first | refine AtT.kloadOA tk31 ?_ | refine AtT.kloadA tk31 ?_ | refine AtT.kloadOP tk31 ?_
    refine AtT.keqS (eqS31 _ _ _ _) ?_
    rw [eqR]
    refine AtT.kmove ?_
    all_goals (first | refine AtT.kL 35 ?_ | refine AtT.pcase (d := 35) rfl (fun hg35 => ?_) (fun hg35 => ?_) | refine AtT.bcase (d := 35) rfl (fun hg35 => ?_) (fun hg35 => ?_))
    all_goals (first | refine AtT.kpass ?_ | refine AtT.kpassU ?_ | ((first | refine AtT.kloadOA tk31 ?_ | refine AtT.kloadA tk31 ?_ | refine AtT.kloadOP tk31 ?_)))
    all_goals (first | refine AtT.kpass ?_ | refine AtT.kpassU ?_ | ((first | refine AtT.kloadOA tk31 ?_ | refine AtT.kloadA tk31 ?_ | refine AtT.kloadOP tk31 ?_)))
    all_goals (first | refine AtT.kpass ?_ | refine AtT.kpassU ?_ | ((refine AtT.keqS (eqS31 _ _ _ _) ?_)))
    all_goals (rw [eqR])
    all_goals (refine AtT.kpick ?_)
    all_goals (refine AtT.kmove ?_)
    all_goals (first | refine AtT.kL 40 ?_ | refine AtT.pcase (d := 40) rfl (fun hg40 => ?_) (fun hg40 => ?_) | refine AtT.bcase (d := 40) rfl (fun hg40 => ?_) (fun hg40 => ?_))
    all_goals (first | refine AtT.kpass ?_ | refine AtT.kpassU ?_ | ((refine AtT.kmove ?_)))
    all_goals (first | refine AtT.kpass ?_ | refine AtT.kpassU ?_ | ((refine AtT.kmove ?_)))
    all_goals (first | refine AtT.kpass ?_ | refine AtT.kpassU ?_ | ((refine AtT.keqI ?_)))
    all_goals (rw [eqI])
    all_goals (refine AtT.kpick ?_)
    all_goals (refine AtT.kmove ?_)
    all_goals (first | refine AtT.kL 45 ?_ | refine AtT.pcase (d := 45) rfl (fun hg45 => ?_) (fun hg45 => ?_) | refine AtT.bcase (d := 45) rfl (fun hg45 => ?_) (fun hg45 => ?_))
    all_goals (first | refine AtT.kpassN ?_ | refine AtT.kpassNU ?_ | ((refine AtT.kcallP rfl rfl ok19 (works_f _) ?_) ; (rintro _ rfl)))
    all_goals (refine AtT.kpick ?_)
    all_goals (refine AtT.kassign ?_)
    all_goals refine AtT.done ?_
    all_goals (refine At.nrm ?_)
    exact At.ret1 rfl (.tmp rfl) rfl
end Go.Proofs.Ytnionkopmncopaa
namespace Go.Pl

structure Sm (r : Rt) : Prop where
  can : Can r
  d : r.den ≤ 200
  lo : -3000 * r.den ≤ r.num
  hi : r.num ≤ 3000 * r.den
structure Ft (r : Rt) : Prop where
  can : Can r
  d : r.den ≤ 200
  lo : -1000000 * r.den ≤ r.num
  hi : r.num ≤ 1000000 * r.den

/-- A fraction's numbers by what it is. -/
theorem num_of {r : Rt} (hc : Can r) {A : Int} (h1 : (-A : Rat) ≤ r.q) (h2 : r.q ≤ (A : Rat)) : -A * r.den ≤ r.num ∧ r.num ≤ A * r.den := by
  have hp := cpos hc.pos
  have hn := cne hc.pos
  have e : r.q * r.den = r.num := by unfold Rt.q; grind
  have k1 := rmul_le h1 (c := (r.den : Rat)) (by grind)
  have k2 := rmul_le h2 (c := (r.den : Rat)) (by grind)
  rw [e] at k1 k2
  constructor
  · have : ((-A * r.den : Int) : Rat) ≤ (r.num : Rat) := by push_cast; grind
    exact_mod_cast this
  · have : (r.num : Rat) ≤ ((A * r.den : Int) : Rat) := by push_cast; grind
    exact_mod_cast this
theorem q_of {r : Rt} (hc : Can r) {A : Int} (h1 : -A * r.den ≤ r.num) (h2 : r.num ≤ A * r.den) : (-A : Rat) ≤ r.q ∧ r.q ≤ (A : Rat) := by
  have hp := cpos hc.pos
  have hn := cne hc.pos
  have e : r.q * r.den = r.num := by unfold Rt.q; grind
  have k1 : ((-A * r.den : Int) : Rat) ≤ (r.num : Rat) := by exact_mod_cast h1
  have k2 : (r.num : Rat) ≤ ((A * r.den : Int) : Rat) := by exact_mod_cast h2
  push_cast at k1 k2
  exact ⟨rle_of (c := (r.den : Rat)) (by grind) hp, rle_of (c := (r.den : Rat)) (by grind) hp⟩
theorem cle {a b : Int} (h : a ≤ b) : (a : Rat) ≤ (b : Rat) := by exact_mod_cast h

theorem loq_bd {L : Lg} (hL : LgOk L) {i : Nat} (hi : i < L.pl.length) : (-1000 : Rat) ≤ ((edP L i).lo : Rat) ∧ ((edP L i).lo : Rat) ≤ ((edP L i).hi : Rat) ∧ ((edP L i).hi : Rat) ≤ 1000 := by
  have e := hL.edB (i := (i : Int)) (by omega) (by omega)
  exact ⟨cle e.1, cle e.2.1, cle e.2.2⟩
/-- What a proof proves is small. -/
theorem prov_sm {L : Lg} (hL : LgOk L) {p : Pf} (hp : PfOk L p) : Sm (provV L p) := by
  have hb := prov_bd hL hp
  have hc : Can (provV L p) := rat_can hb.2.1
  have hd : provD L p ≤ 200 := by
    rcases pf_form hp with ⟨i, hi, rfl⟩ | ⟨i, k, j, s, h1, h2, h3, hs, rfl⟩
    · simp [provD]
    · have a := hL.plB (i := (i : Int)) (by omega) (by omega)
      have b := hL.plB (i := (j : Int)) (by omega) (by omega)
      have hne : ((i : Nat) : Int) ≠ (j : Nat) := by omega
      simp only [provD, hne, if_false, lftP, rgtP]
      omega
  have hv : (-((3000 : Int) : Rat)) ≤ (provV L p).q ∧ (provV L p).q ≤ ((3000 : Int) : Rat) := by
    have hq := prov_q hL hp
    have hdp := cpos hb.2.1
    have hdn := cne hb.2.1
    have he := prov_eq hL hp _ rfl
    rcases pf_form hp with ⟨i, hi, rfl⟩ | ⟨i, k, j, s, h1, h2, h3, hs, rfl⟩
    · have b := loq_bd hL hi
      simp only [provD, provN, if_true] at he
      push_cast at he ⊢
      exact ⟨by grind, by grind⟩
    · have hne : ((i : Nat) : Int) ≠ (j : Nat) := by omega
      have x1 := hL.rise i k h1 (by omega)
      have x2 := hL.rise k j h2 h3
      have b1 := loq_bd hL (i := i) (by omega)
      have b2 := loq_bd hL (i := k) (by omega)
      have b3 := loq_bd hL h3
      have hX : ((plP L ((j : Nat) : Int) : Int) : Rat) = Xq L j := rfl
      have hY : ((plP L ((k : Nat) : Int) : Int) : Rat) = Xq L k := rfl
      have hZ : ((plP L ((i : Nat) : Int) : Int) : Rat) = Xq L i := rfl
      have core : ∀ (u v w : Rat), w * (2 * ((Xq L k - Xq L i) + (Xq L j - Xq L k))) = u * (Xq L j - Xq L k) + v * (Xq L k - Xq L i) → -2000 ≤ u → u ≤ 2000 → -2000 ≤ v → v ≤ 2000 → -3000 ≤ w ∧ w ≤ 3000 := by
        intro u v w e u1 u2 v1 v2
        have g1 := rmul_le u1 (c := Xq L j - Xq L k) (by grind)
        have g2 := rmul_le u2 (c := Xq L j - Xq L k) (by grind)
        have g3 := rmul_le v1 (c := Xq L k - Xq L i) (by grind)
        have g4 := rmul_le v2 (c := Xq L k - Xq L i) (by grind)
        have hp : 0 < 2 * ((Xq L k - Xq L i) + (Xq L j - Xq L k)) := by grind
        exact ⟨rle_of (c := 2 * ((Xq L k - Xq L i) + (Xq L j - Xq L k))) (by grind) hp, rle_of (c := 2 * ((Xq L k - Xq L i) + (Xq L j - Xq L k))) (by grind) hp⟩
      rcases hs with rfl | rfl
      · simp only [provD, provN, hne, if_false, if_true, lftP, rgtP] at he
        push_cast at he ⊢
        rw [hX, hY, hZ] at he
        exact core _ _ _ he (by grind) (by grind) (by grind) (by grind)
      · simp only [provD, provN, hne, if_false, show ¬ (2 : Int) = 1 from by decide, lftP, rgtP] at he
        push_cast at he ⊢
        rw [hX, hY, hZ] at he
        exact core _ _ _ he (by grind) (by grind) (by grind) (by grind)
  have := num_of hc hv.1 hv.2
  have hr := rat_bd (provN L p) (provD L p) hb.2.1
  exact ⟨hc, Int.le_trans hr.2.2 hd, this.1, this.2⟩
theorem best_sm {L : Lg} (hL : LgOk L) : Sm (bestV L) := by rw [← leastP_v]; exact prov_sm hL (leastP_ok hL)
theorem sm_fit {a b : Rt} (ha : Sm a) (hb : Sm b) : Go.Lw.Fit (a.num * b.den) := by
  have h1 := ha.can.pos
  have h2 := ha.d
  have h3 := ha.lo
  have h4 := ha.hi
  have m := mul_bd (a := a.num) (b := b.den) (A := 600000) (B := 200) (by decide) (by decide) (by omega) (by omega) (by have := hb.can.pos; omega) hb.d
  exact ⟨by omega, by omega⟩
theorem ft_fit {a b : Rt} (ha : Ft a) (hb : Ft b) : Go.Lw.Fit (a.num * b.den) := by
  have h1 := ha.can.pos
  have h2 := ha.d
  have h3 := ha.lo
  have h4 := ha.hi
  have m := mul_bd (a := a.num) (b := b.den) (A := 200000000) (B := 200) (by decide) (by decide) (by omega) (by omega) (by have := hb.can.pos; omega) hb.d
  exact ⟨by omega, by omega⟩
theorem Sm.ft {a : Rt} (ha : Sm a) : Ft a := by
  have h1 := ha.can.pos
  have h3 := ha.lo
  have h4 := ha.hi
  exact ⟨ha.can, ha.d, by omega, by omega⟩

/-! ### Lines by two heights -/
def tm (x : Int) : Int := x.tmod 2001
theorem tmod_lt (x : Int) {m : Int} (hm : 0 < m) : -m < x.tmod m ∧ x.tmod m < m := by
  have h : (x.tmod m).natAbs < m.natAbs := by
    rw [Int.natAbs_tmod]; exact Nat.mod_lt _ (by omega)
  omega
theorem tm_bd (x : Int) : -2000 ≤ tm x ∧ tm x ≤ 2000 := by
  have := tmod_lt x (m := 2001) (by decide)
  unfold tm; omega
def lastX (L : Lg) : Int := plP L ((L.pl.length - 1 : Nat) : Int)
def firstX (L : Lg) : Int := plP L 0
def linedV (L : Lg) (one two : Int) : Ln := ⟨lastX L - firstX L, tm one * lastX L - tm two * firstX L, tm two - tm one⟩
theorem ends_bd {L : Lg} (hL : LgOk L) : 0 ≤ firstX L ∧ firstX L < lastX L ∧ lastX L ≤ 100 := by
  have n2 := hL.n2
  have a := hL.plB (i := 0) (by omega) (by omega)
  have b := hL.plB (i := ((L.pl.length - 1 : Nat) : Int)) (by omega) (by omega)
  have c := hL.plL (i := 0) (j := ((L.pl.length - 1 : Nat) : Int)) (by omega) (by omega) (by omega)
  unfold firstX lastX; omega
theorem lined_ok {L : Lg} (hL : LgOk L) (one two : Int) : LnB (linedV L one two) ∧ lineE (linedV L one two) = 0 ∧ (linedV L one two).den ≤ 100 := by
  have e := ends_bd hL
  have t1 := tm_bd one
  have t2 := tm_bd two
  have m1 := mul_bd (a := tm one) (b := lastX L) (A := 2000) (B := 100) (by decide) (by decide) (by omega) (by omega) (by omega) (by omega)
  have m2 := mul_bd (a := tm two) (b := firstX L) (A := 2000) (B := 100) (by decide) (by decide) (by omega) (by omega) (by omega) (by omega)
  refine ⟨⟨?_, ?_, ?_, ?_, ?_, ?_⟩, ?_, ?_⟩
  all_goals first | (unfold linedV; dsimp only; omega) | skip
  unfold lineE
  rw [if_neg]
  have w1 : wi 1 100000 [(linedV L one two).den] = true := by simp only [wi, List.any_cons, List.any_nil, outB, Bool.or_false, Bool.not_eq_true', Bool.or_eq_false_iff, decide_eq_false_iff_not, linedV]; omega
  have w2 : wi (-68719476736) 68719476736 [(linedV L one two).start, (linedV L one two).step] = true := by simp only [wi, List.any_cons, List.any_nil, outB, Bool.or_false, Bool.not_eq_true', Bool.or_eq_false_iff, decide_eq_false_iff_not, linedV]; omega
  rw [w1, w2]; simp
/-- A line by two heights at the ends keeps at least -3,000 at all places, and at most 1,000. -/
theorem lined_core {L : Lg} (hL : LgOk L) (one two : Int) : Can (coreOf L (linedV L one two)) ∧ (coreOf L (linedV L one two)).den ≤ 100 ∧ -3000 * (coreOf L (linedV L one two)).den ≤ (coreOf L (linedV L one two)).num ∧ (coreOf L (linedV L one two)).num ≤ 3000 * (coreOf L (linedV L one two)).den := by
  have hk := lined_ok hL one two
  have hd := hk.1.d0
  have hc := core_can (L := L) hd
  have e := ends_bd hL
  have n2 := hL.n2
  have hden : (coreOf L (linedV L one two)).den ≤ (linedV L one two).den := (rat_bd _ _ hd).2.2
  have hup := core_le_best hL hd
  have hbs := best_sm hL
  have hbq := q_of hbs.can hbs.lo hbs.hi
  have hlow : (-((3000 : Int) : Rat)) ≤ (coreOf L (linedV L one two)).q := by
    rw [core_keeps hL hd]
    intro m hm
    have b := loq_bd hL hm
    -- the height there lies between the two ends' heights
    have x1 : firstX L ≤ plP L m := by
      by_cases c : m = 0
      · subst c; exact Int.le_refl _
      · have := hL.plL (i := 0) (j := (m : Int)) (by omega) (by omega) (by omega)
        unfold firstX; omega
    have x2 : plP L m ≤ lastX L := by
      by_cases c : m = L.pl.length - 1
      · subst c; exact Int.le_refl _
      · have := hL.plL (i := (m : Int)) (j := ((L.pl.length - 1 : Nat) : Int)) (by omega) (by omega) (by omega)
        unfold lastX; omega
    have t1 := tm_bd one
    have t2 := tm_bd two
    have hdq := cpos hd
    have hdn := cne hd
    have hs : ((linedV L one two).start : Rat) / (linedV L one two).den + ((linedV L one two).step : Rat) / (linedV L one two).den * Xq L m = ((tm one : Rat) * ((lastX L : Rat) - Xq L m) + (tm two : Rat) * (Xq L m - firstX L)) / (linedV L one two).den := by
      simp only [linedV]; push_cast; grind
    have r1 : (firstX L : Rat) ≤ Xq L m := cle x1
    have r2 : Xq L m ≤ (lastX L : Rat) := cle x2
    have u1 : (-2000 : Rat) ≤ (tm one : Rat) := cle t1.1
    have u2 : (tm one : Rat) ≤ 2000 := cle t1.2
    have v1 : (-2000 : Rat) ≤ (tm two : Rat) := cle t2.1
    have v2 : (tm two : Rat) ≤ 2000 := cle t2.2
    have g1 := rmul_le u1 (c := (lastX L : Rat) - Xq L m) (by grind)
    have g2 := rmul_le u2 (c := (lastX L : Rat) - Xq L m) (by grind)
    have g3 := rmul_le v1 (c := Xq L m - (firstX L : Rat)) (by grind)
    have g4 := rmul_le v2 (c := Xq L m - (firstX L : Rat)) (by grind)
    have hdd : ((linedV L one two).den : Rat) = (lastX L : Rat) - firstX L := by simp only [linedV]; push_cast; rfl
    generalize hN : (tm one : Rat) * ((lastX L : Rat) - Xq L m) + (tm two : Rat) * (Xq L m - firstX L) = N at hs
    have hh : N / (linedV L one two).den * (linedV L one two).den = N := by grind
    have k1 : (-2000 : Rat) ≤ N / (linedV L one two).den := rle_of (c := ((linedV L one two).den : Rat)) (by rw [hh, hdd]; grind) hdq
    have k2 : N / (linedV L one two).den ≤ 2000 := rle_of (c := ((linedV L one two).den : Rat)) (by rw [hh, hdd]; grind) hdq
    rw [hs]
    simp only [loq, hiq]
    push_cast
    exact ⟨by grind, by grind⟩
  have := num_of hc hlow (by grind)
  exact ⟨hc, Int.le_trans hden hk.2.2, this.1, this.2⟩
theorem lined_sm {L : Lg} (hL : LgOk L) (one two : Int) : Sm (coreOf L (linedV L one two)) := by
  obtain ⟨a, b, c, d⟩ := lined_core hL one two
  exact ⟨a, by omega, c, d⟩
end Go.Pl
set_option linter.unusedVariables false
namespace Go.Proofs.Ytnionkopmncopaa
open Go.Lw Go.Pl Go.RowKit

theorem great_not {L : Lg} (he : logE L = 0) : ¬ (12 < (L.pl.length : Int) ∨ 12 < (L.ed.length : Int)) := by
  have h := logE_ok he
  have := h.n8; have := h.el
  omega
theorem fine_f (L : Lg) (V : View) (v : Value) (hv : LogV V v L) : Fnc Try.prog 41 [v] V fun r _ => r = .bool (decide (logE L = 0)) := by
  have hv' := hv
  obtain ⟨a, c, a', c', rfl, h2, h3⟩ := hv
  refine fn_of Try.func41 rfl Try.ntmps41 (Nat.le_of_ble_eq_true rfl) ?_
  intro w0 hw0
  refine At.nrm ?_
  refine At.ktext (.n false 0 (.q 1 .done)) ?_
  refine AtT.kbox ?_
  intro b1
  refine AtT.kassign ?_
  refine AtT.done ?_
  refine At.nrm ?_
  by_cases he : logE L = 0
  · refine At.ktext (.q 0 (.n false 1 (.q 2 (.q 3 (.q 4 (.n false 5 (.q 6 (.q 7 (.q 8 .done))))))))) ?_
    first | refine AtT.kloadOA tk25 ?_ | refine AtT.kloadA tk25 ?_ | refine AtT.kloadOP tk25 ?_
    refine AtT.kcallP rfl rfl ok18 (great_f L _ _ hv') ?_
    rintro _ rfl
    refine AtT.setF (d := 4) rfl (great_not he) ?_
    refine AtT.knot ?_
    refine AtT.kmove ?_
    all_goals (first | refine AtT.kL 6 ?_ | refine AtT.pcase (d := 6) rfl (fun hg6 => ?_) (fun hg6 => ?_) | refine AtT.bcase (d := 6) rfl (fun hg6 => ?_) (fun hg6 => ?_))
    all_goals (first | refine AtT.kpass ?_ | refine AtT.kpassU ?_ | ((first | refine AtT.kloadOA tk25 ?_ | refine AtT.kloadA tk25 ?_ | refine AtT.kloadOP tk25 ?_)))
    all_goals (first | refine AtT.kpassN ?_ | refine AtT.kpassNU ?_ | ((refine AtT.kcallP rfl rfl ok23 (rcheckLog_f L _ _ hv') ?_) ; (rintro _ rfl)))
    all_goals (first | refine AtT.kpass ?_ | refine AtT.kpassU ?_ | ((refine AtT.keqI ?_)))
    all_goals (refine AtT.setT (d := 9) rfl (he) ?_)
    all_goals (refine AtT.kpick ?_)
    all_goals (refine AtT.kassign ?_)
    all_goals refine AtT.done ?_
    all_goals (refine At.nrm ?_)
    exact At.ret1 rfl (.tmp rfl) (by rw [decide_eq_true he]; rfl)
  · by_cases hg : 12 < (L.pl.length : Int) ∨ 12 < (L.ed.length : Int)
    · refine At.ktext (.q 0 (.n false 1 (.q 2 (.q 3 (.q 4 (.n false 5 (.q 6 (.q 7 (.q 8 .done))))))))) ?_
      first | refine AtT.kloadOA tk25 ?_ | refine AtT.kloadA tk25 ?_ | refine AtT.kloadOP tk25 ?_
      refine AtT.kcallP rfl rfl ok18 (great_f L _ _ hv') ?_
      rintro _ rfl
      refine AtT.setT (d := 4) rfl (hg) ?_
      refine AtT.knot ?_
      refine AtT.kmove ?_
      all_goals (first | refine AtT.kL 6 ?_ | refine AtT.pcase (d := 6) rfl (fun hg6 => ?_) (fun hg6 => ?_) | refine AtT.bcase (d := 6) rfl (fun hg6 => ?_) (fun hg6 => ?_))
      all_goals (first | refine AtT.kpass ?_ | refine AtT.kpassU ?_ | ((first | refine AtT.kloadOA tk25 ?_ | refine AtT.kloadA tk25 ?_ | refine AtT.kloadOP tk25 ?_)))
      all_goals (first | refine AtT.kpassN ?_ | refine AtT.kpassNU ?_ | ((refine AtT.kcallP rfl rfl ok23 (rcheckLog_f L _ _ hv') ?_) ; (rintro _ rfl)))
      all_goals (first | refine AtT.kpass ?_ | refine AtT.kpassU ?_ | ((refine AtT.keqI ?_)))
      all_goals (refine AtT.kpick ?_)
      all_goals (refine AtT.kassign ?_)
      all_goals refine AtT.done ?_
      all_goals (refine At.nrm ?_)
      exact At.ret1 rfl (.tmp rfl) (by rw [decide_eq_false he]; rfl)
    · refine At.ktext (.q 0 (.n false 1 (.q 2 (.q 3 (.q 4 (.n false 5 (.q 6 (.q 7 (.q 8 .done))))))))) ?_
      first | refine AtT.kloadOA tk25 ?_ | refine AtT.kloadA tk25 ?_ | refine AtT.kloadOP tk25 ?_
      refine AtT.kcallP rfl rfl ok18 (great_f L _ _ hv') ?_
      rintro _ rfl
      refine AtT.setF (d := 4) rfl (hg) ?_
      refine AtT.knot ?_
      refine AtT.kmove ?_
      all_goals (first | refine AtT.kL 6 ?_ | refine AtT.pcase (d := 6) rfl (fun hg6 => ?_) (fun hg6 => ?_) | refine AtT.bcase (d := 6) rfl (fun hg6 => ?_) (fun hg6 => ?_))
      all_goals (first | refine AtT.kpass ?_ | refine AtT.kpassU ?_ | ((first | refine AtT.kloadOA tk25 ?_ | refine AtT.kloadA tk25 ?_ | refine AtT.kloadOP tk25 ?_)))
      all_goals (first | refine AtT.kpassN ?_ | refine AtT.kpassNU ?_ | ((refine AtT.kcallP rfl rfl ok23 (rcheckLog_f L _ _ hv') ?_) ; (rintro _ rfl)))
      all_goals (first | refine AtT.kpass ?_ | refine AtT.kpassU ?_ | ((refine AtT.keqI ?_)))
      all_goals (refine AtT.setF (d := 9) rfl (he) ?_)
      all_goals (refine AtT.kpick ?_)
      all_goals (refine AtT.kassign ?_)
      all_goals refine AtT.done ?_
      all_goals (refine At.nrm ?_)
      exact At.ret1 rfl (.tmp rfl) (by rw [decide_eq_false he]; rfl)

theorem small_f (r : Rt) (h : Sm r) (V : View) : Fnc Try.prog 46 [rtv r] V fun v _ => v = .bool true := by
  have hp := h.can.pos
  have hd := h.d
  have hl := h.lo
  have hh := h.hi
  refine fn_of Try.func46 rfl Try.ntmps46 (Nat.le_of_ble_eq_true rfl) ?_
  intro w0 hw0
  refine At.nrm ?_
  refine At.ktext (.n false 0 (.q 1 .done)) ?_
  refine AtT.kbox ?_
  intro b1
  refine AtT.kassign ?_
  refine AtT.done ?_
  refine At.nrm ?_
  refine At.draw (.q 0 (.q 1 (.q 2 (.q 3 (.q 4 (.q 5 (.q 6 (.q 7 (.q 8 (.q 9 (.q 10 (.q 11 (.q 12 (.q 13 (.q 14 (.q 15 (.q 16 (.q 17 (.q 18 (.q 19 (.q 20 (.q 21 (.q 22 (.q 23 (.q 24 (.q 25 (.q 26 (.q 27 (.q 28 (.q 30 (.n false 29 (.q 31 (.q 32 (.q 33 .done)))))))))))))))))))))))))))))))))) ffm (by kernel_rfl) ?_
  first | refine AtT.kfieldO fo31_1 ?_ | with_reducible refine AtT.kfield2 fo31_1 ?_ | refine AtT.kfield fo31_1 ?_
  first | refine AtT.kloadO tk2 ?_ | refine AtT.kload tk2 ?_
  refine AtT.kgeq ?_
  refine AtT.setT (d := 5) rfl (by omega) ?_
  refine AtT.kmove ?_
  all_goals (first | refine AtT.kL 6 ?_ | refine AtT.pcase (d := 6) rfl (fun hg6 => ?_) (fun hg6 => ?_) | refine AtT.bcase (d := 6) rfl (fun hg6 => ?_) (fun hg6 => ?_))
  all_goals (first | refine AtT.kpass ?_ | refine AtT.kpassU ?_ | ((first | refine AtT.kfieldO fo31_1 ?_ | with_reducible refine AtT.kfield2 fo31_1 ?_ | refine AtT.kfield fo31_1 ?_)))
  all_goals (first | refine AtT.kpass ?_ | refine AtT.kpassU ?_ | ((first | refine AtT.kloadO tk2 ?_ | refine AtT.kload tk2 ?_)))
  all_goals (first | refine AtT.kpass ?_ | refine AtT.kpassU ?_ | ((refine AtT.kleq ?_)))
  all_goals (refine AtT.setT (d := 9) rfl (by omega) ?_)
  all_goals (refine AtT.kpick ?_)
  all_goals (refine AtT.kmove ?_)
  all_goals (first | refine AtT.kL 11 ?_ | refine AtT.pcase (d := 11) rfl (fun hg11 => ?_) (fun hg11 => ?_) | refine AtT.bcase (d := 11) rfl (fun hg11 => ?_) (fun hg11 => ?_))
  all_goals (first | refine AtT.kpass ?_ | refine AtT.kpassU ?_ | ((first | refine AtT.kfieldO fo31_0 ?_ | with_reducible refine AtT.kfield2 fo31_0 ?_ | refine AtT.kfield fo31_0 ?_)))
  all_goals (first | refine AtT.kpass ?_ | refine AtT.kpassU ?_ | ((first | refine AtT.kloadO tk2 ?_ | refine AtT.kload tk2 ?_)))
  all_goals (first | refine AtT.kpass ?_ | refine AtT.kpassU ?_ | ((first | refine AtT.kfieldO fo31_1 ?_ | with_reducible refine AtT.kfield2 fo31_1 ?_ | refine AtT.kfield fo31_1 ?_)))
  all_goals (first | refine AtT.kpass ?_ | refine AtT.kpassU ?_ | ((first | refine AtT.kloadO tk2 ?_ | refine AtT.kload tk2 ?_)))
  all_goals (first | refine AtT.kpass ?_ | refine AtT.kpassU ?_ | ((first | refine AtT.kmul ?_ | refine AtT.kmulW ?_)))
  all_goals (first | refine AtT.kpass ?_ | refine AtT.kpassU ?_ | ((refine AtT.kgeq ?_)))
  all_goals (refine AtT.setT (d := 17) rfl (by omega) ?_)
  all_goals (refine AtT.kpick ?_)
  all_goals (refine AtT.kmove ?_)
  all_goals (first | refine AtT.kL 19 ?_ | refine AtT.pcase (d := 19) rfl (fun hg19 => ?_) (fun hg19 => ?_) | refine AtT.bcase (d := 19) rfl (fun hg19 => ?_) (fun hg19 => ?_))
  all_goals (first | refine AtT.kpass ?_ | refine AtT.kpassU ?_ | ((first | refine AtT.kfieldO fo31_0 ?_ | with_reducible refine AtT.kfield2 fo31_0 ?_ | refine AtT.kfield fo31_0 ?_)))
  all_goals (first | refine AtT.kpass ?_ | refine AtT.kpassU ?_ | ((first | refine AtT.kloadO tk2 ?_ | refine AtT.kload tk2 ?_)))
  all_goals (first | refine AtT.kpass ?_ | refine AtT.kpassU ?_ | ((first | refine AtT.kfieldO fo31_1 ?_ | with_reducible refine AtT.kfield2 fo31_1 ?_ | refine AtT.kfield fo31_1 ?_)))
  all_goals (first | refine AtT.kpass ?_ | refine AtT.kpassU ?_ | ((first | refine AtT.kloadO tk2 ?_ | refine AtT.kload tk2 ?_)))
  all_goals (first | refine AtT.kpass ?_ | refine AtT.kpassU ?_ | ((first | refine AtT.kmul ?_ | refine AtT.kmulW ?_)))
  all_goals (first | refine AtT.kpass ?_ | refine AtT.kpassU ?_ | ((refine AtT.kleq ?_)))
  all_goals (refine AtT.setT (d := 25) rfl (by omega) ?_)
  all_goals (refine AtT.kpick ?_)
  all_goals (refine AtT.kmove ?_)
  all_goals (first | refine AtT.kL 27 ?_ | refine AtT.pcase (d := 27) rfl (fun hg27 => ?_) (fun hg27 => ?_) | refine AtT.bcase (d := 27) rfl (fun hg27 => ?_) (fun hg27 => ?_))
  all_goals (first | refine AtT.kpass ?_ | refine AtT.kpassU ?_ | ((first | refine AtT.kfieldO fo31_0 ?_ | with_reducible refine AtT.kfield2 fo31_0 ?_ | refine AtT.kfield fo31_0 ?_)))
  all_goals (first | refine AtT.kpass ?_ | refine AtT.kpassU ?_ | ((first | refine AtT.kloadO tk2 ?_ | refine AtT.kload tk2 ?_)))
  all_goals (first | refine AtT.kpass ?_ | refine AtT.kpassU ?_ | ((first | refine AtT.kfieldO fo31_1 ?_ | with_reducible refine AtT.kfield2 fo31_1 ?_ | refine AtT.kfield fo31_1 ?_)))
  all_goals (first | refine AtT.kpass ?_ | refine AtT.kpassU ?_ | ((first | refine AtT.kloadO tk2 ?_ | refine AtT.kload tk2 ?_)))
  all_goals (first | refine AtT.kpass ?_ | refine AtT.kpassU ?_ | ((first | refine AtT.kloadOA tk31 ?_ | refine AtT.kloadA tk31 ?_ | refine AtT.kloadOP tk31 ?_)))
  all_goals (first | refine AtT.kpassN ?_ | refine AtT.kpassNU ?_ | ((refine AtT.kcallP rfl rfl ok51 (by_r r.num r.den _ (by omega) (by omega) (by omega) (by omega)) ?_) ; (rintro _ rfl; rw [can_rat h.can])))
  all_goals (first | refine AtT.kpass ?_ | refine AtT.kpassU ?_ | ((refine AtT.keqS (eqS31 _ _ _ _) ?_)))
  all_goals (rw [eqR])
  all_goals (refine AtT.kpick ?_)
  all_goals (refine AtT.kassign ?_)
  all_goals refine AtT.done ?_
  all_goals (refine At.nrm ?_)
  exact At.ret1 rfl (.tmp rfl) rfl
theorem fit_f (r : Rt) (h : Ft r) (V : View) : Fnc Try.prog 48 [rtv r] V fun v _ => v = .bool true := by
  have hp := h.can.pos
  have hd := h.d
  have hl := h.lo
  have hh := h.hi
  refine fn_of Try.func48 rfl Try.ntmps48 (Nat.le_of_ble_eq_true rfl) ?_
  intro w0 hw0
  refine At.nrm ?_
  refine At.ktext (.n false 0 (.q 1 .done)) ?_
  refine AtT.kbox ?_
  intro b1
  refine AtT.kassign ?_
  refine AtT.done ?_
  refine At.nrm ?_
  refine At.draw (.q 0 (.q 1 (.q 2 (.q 3 (.q 4 (.q 5 (.q 6 (.q 7 (.q 8 (.q 9 (.q 10 (.q 11 (.q 12 (.q 13 (.q 14 (.q 15 (.q 16 (.q 17 (.q 18 (.q 19 (.q 20 (.q 21 (.q 22 (.q 23 (.q 24 (.q 25 (.q 26 (.q 27 (.q 28 (.q 30 (.n false 29 (.q 31 (.q 32 (.q 33 .done)))))))))))))))))))))))))))))))))) ffm (by kernel_rfl) ?_
  first | refine AtT.kfieldO fo31_1 ?_ | with_reducible refine AtT.kfield2 fo31_1 ?_ | refine AtT.kfield fo31_1 ?_
  first | refine AtT.kloadO tk2 ?_ | refine AtT.kload tk2 ?_
  refine AtT.kgeq ?_
  refine AtT.setT (d := 5) rfl (by omega) ?_
  refine AtT.kmove ?_
  all_goals (first | refine AtT.kL 6 ?_ | refine AtT.pcase (d := 6) rfl (fun hg6 => ?_) (fun hg6 => ?_) | refine AtT.bcase (d := 6) rfl (fun hg6 => ?_) (fun hg6 => ?_))
  all_goals (first | refine AtT.kpass ?_ | refine AtT.kpassU ?_ | ((first | refine AtT.kfieldO fo31_1 ?_ | with_reducible refine AtT.kfield2 fo31_1 ?_ | refine AtT.kfield fo31_1 ?_)))
  all_goals (first | refine AtT.kpass ?_ | refine AtT.kpassU ?_ | ((first | refine AtT.kloadO tk2 ?_ | refine AtT.kload tk2 ?_)))
  all_goals (first | refine AtT.kpass ?_ | refine AtT.kpassU ?_ | ((refine AtT.kleq ?_)))
  all_goals (refine AtT.setT (d := 9) rfl (by omega) ?_)
  all_goals (refine AtT.kpick ?_)
  all_goals (refine AtT.kmove ?_)
  all_goals (first | refine AtT.kL 11 ?_ | refine AtT.pcase (d := 11) rfl (fun hg11 => ?_) (fun hg11 => ?_) | refine AtT.bcase (d := 11) rfl (fun hg11 => ?_) (fun hg11 => ?_))
  all_goals (first | refine AtT.kpass ?_ | refine AtT.kpassU ?_ | ((first | refine AtT.kfieldO fo31_0 ?_ | with_reducible refine AtT.kfield2 fo31_0 ?_ | refine AtT.kfield fo31_0 ?_)))
  all_goals (first | refine AtT.kpass ?_ | refine AtT.kpassU ?_ | ((first | refine AtT.kloadO tk2 ?_ | refine AtT.kload tk2 ?_)))
  all_goals (first | refine AtT.kpass ?_ | refine AtT.kpassU ?_ | ((first | refine AtT.kfieldO fo31_1 ?_ | with_reducible refine AtT.kfield2 fo31_1 ?_ | refine AtT.kfield fo31_1 ?_)))
  all_goals (first | refine AtT.kpass ?_ | refine AtT.kpassU ?_ | ((first | refine AtT.kloadO tk2 ?_ | refine AtT.kload tk2 ?_)))
  all_goals (first | refine AtT.kpass ?_ | refine AtT.kpassU ?_ | ((first | refine AtT.kmul ?_ | refine AtT.kmulW ?_)))
  all_goals (first | refine AtT.kpass ?_ | refine AtT.kpassU ?_ | ((refine AtT.kgeq ?_)))
  all_goals (refine AtT.setT (d := 17) rfl (by omega) ?_)
  all_goals (refine AtT.kpick ?_)
  all_goals (refine AtT.kmove ?_)
  all_goals (first | refine AtT.kL 19 ?_ | refine AtT.pcase (d := 19) rfl (fun hg19 => ?_) (fun hg19 => ?_) | refine AtT.bcase (d := 19) rfl (fun hg19 => ?_) (fun hg19 => ?_))
  all_goals (first | refine AtT.kpass ?_ | refine AtT.kpassU ?_ | ((first | refine AtT.kfieldO fo31_0 ?_ | with_reducible refine AtT.kfield2 fo31_0 ?_ | refine AtT.kfield fo31_0 ?_)))
  all_goals (first | refine AtT.kpass ?_ | refine AtT.kpassU ?_ | ((first | refine AtT.kloadO tk2 ?_ | refine AtT.kload tk2 ?_)))
  all_goals (first | refine AtT.kpass ?_ | refine AtT.kpassU ?_ | ((first | refine AtT.kfieldO fo31_1 ?_ | with_reducible refine AtT.kfield2 fo31_1 ?_ | refine AtT.kfield fo31_1 ?_)))
  all_goals (first | refine AtT.kpass ?_ | refine AtT.kpassU ?_ | ((first | refine AtT.kloadO tk2 ?_ | refine AtT.kload tk2 ?_)))
  all_goals (first | refine AtT.kpass ?_ | refine AtT.kpassU ?_ | ((first | refine AtT.kmul ?_ | refine AtT.kmulW ?_)))
  all_goals (first | refine AtT.kpass ?_ | refine AtT.kpassU ?_ | ((refine AtT.kleq ?_)))
  all_goals (refine AtT.setT (d := 25) rfl (by omega) ?_)
  all_goals (refine AtT.kpick ?_)
  all_goals (refine AtT.kmove ?_)
  all_goals (first | refine AtT.kL 27 ?_ | refine AtT.pcase (d := 27) rfl (fun hg27 => ?_) (fun hg27 => ?_) | refine AtT.bcase (d := 27) rfl (fun hg27 => ?_) (fun hg27 => ?_))
  all_goals (first | refine AtT.kpass ?_ | refine AtT.kpassU ?_ | ((first | refine AtT.kfieldO fo31_0 ?_ | with_reducible refine AtT.kfield2 fo31_0 ?_ | refine AtT.kfield fo31_0 ?_)))
  all_goals (first | refine AtT.kpass ?_ | refine AtT.kpassU ?_ | ((first | refine AtT.kloadO tk2 ?_ | refine AtT.kload tk2 ?_)))
  all_goals (first | refine AtT.kpass ?_ | refine AtT.kpassU ?_ | ((first | refine AtT.kfieldO fo31_1 ?_ | with_reducible refine AtT.kfield2 fo31_1 ?_ | refine AtT.kfield fo31_1 ?_)))
  all_goals (first | refine AtT.kpass ?_ | refine AtT.kpassU ?_ | ((first | refine AtT.kloadO tk2 ?_ | refine AtT.kload tk2 ?_)))
  all_goals (first | refine AtT.kpass ?_ | refine AtT.kpassU ?_ | ((first | refine AtT.kloadOA tk31 ?_ | refine AtT.kloadA tk31 ?_ | refine AtT.kloadOP tk31 ?_)))
  all_goals (first | refine AtT.kpassN ?_ | refine AtT.kpassNU ?_ | ((refine AtT.kcallP rfl rfl ok51 (by_r r.num r.den _ (by omega) (by omega) (by omega) (by omega)) ?_) ; (rintro _ rfl; rw [can_rat h.can])))
  all_goals (first | refine AtT.kpass ?_ | refine AtT.kpassU ?_ | ((refine AtT.keqS (eqS31 _ _ _ _) ?_)))
  all_goals (rw [eqR])
  all_goals (refine AtT.kpick ?_)
  all_goals (refine AtT.kassign ?_)
  all_goals refine AtT.done ?_
  all_goals (refine At.nrm ?_)
  exact At.ret1 rfl (.tmp rfl) rfl

theorem best42_f (L : Lg) (V : View) (v : Value) (hv : LogV V v L) (he : logE L = 0) : Fnc Try.prog 42 [v] V fun r _ => r = .tuple #[rtv (bestV L), .bool true] := by
  have hL := logE_ok he
  have hv' := hv
  have hbe : bestR L = (bestV L, 0) := by unfold bestR; rw [if_neg (by simp [he])]
  have hpe : proofR L = (firstP L, 0) := by unfold proofR; rw [if_neg (by simp [he])]
  obtain ⟨hp1, hp2⟩ := proofR_core he
  rw [hpe] at hp1
  obtain ⟨a, c, a', c', rfl, h2, h3⟩ := hv
  refine fn_of Try.func42 rfl Try.ntmps42 (Nat.le_of_ble_eq_true rfl) ?_
  intro w0 hw0
  refine At.nrm ?_
  refine At.ktext (.n false 0 (.n false 1 (.q 2 .done))) ?_
  refine AtT.kbox ?_
  intro b1
  refine AtT.kalloc z31 ?_
  intro b2
  refine AtT.kassign ?_
  refine AtT.done ?_
  refine At.nrm ?_
  refine At.ktext (.q 0 (.n false 1 (.q 2 (.q 3 (.q 4 (.n false 5 (.n true 6 (.q 7 .done)))))))) ?_
  first | refine AtT.kloadOA tk25 ?_ | refine AtT.kloadA tk25 ?_ | refine AtT.kloadOP tk25 ?_
  refine AtT.kcallP rfl rfl ok26 (best_p26 L _ _ hv') ?_
  rintro _ rfl; rw [hbe]
  refine AtT.kmove ?_
  refine AtT.kextract ?_
  refine AtT.kextract ?_
  refine AtT.kalloc z31 ?_
  intro b4
  refine AtT.kstoreA tk31 ?_
  refine AtT.kassign ?_
  refine AtT.done ?_
  refine At.nrm ?_
  refine At.ktext (.q 0 (.n false 1 (.q 2 (.q 3 (.q 4 (.n false 5 (.n true 6 (.q 7 .done)))))))) ?_
  first | refine AtT.kloadOA tk25 ?_ | refine AtT.kloadA tk25 ?_ | refine AtT.kloadOP tk25 ?_
  refine AtT.kcallP rfl rfl ok28 (line_p28 L _ _ hv') ?_
  rintro _ (⟨he', rfl⟩ | ⟨he', lx, rfl, hx1, hx2⟩); exact absurd he he'
  refine AtT.kmove ?_
  refine AtT.kextract ?_
  refine AtT.kextract ?_
  refine AtT.kalloc z27 ?_
  intro b6
  refine AtT.kstoreA tk27 ?_
  refine AtT.kassign ?_
  refine AtT.done ?_
  refine At.nrm ?_
  have hlx := cand_ok hL hx1
  have hcx : coreR L lx = (bestV L, 0) := by
    unfold coreR
    rw [if_neg (by simp [he]), if_neg (by simp [hlx.2]), hx2]
  refine At.ktext (.q 0 (.n false 1 (.q 2 (.q 3 (.q 4 (.n false 5 (.n true 6 (.q 7 .done)))))))) ?_
  first | refine AtT.kloadOA tk25 ?_ | refine AtT.kloadA tk25 ?_ | refine AtT.kloadOP tk25 ?_
  refine AtT.kcallP rfl rfl ok33 (proof_p33 L _ _ hv') ?_
  rintro _ rfl; rw [hpe]
  refine AtT.kmove ?_
  refine AtT.kextract ?_
  refine AtT.kextract ?_
  refine AtT.kalloc z45 ?_
  intro b8
  refine AtT.kstoreA tk45 ?_
  refine AtT.kassign ?_
  refine AtT.done ?_
  refine At.nrm ?_
  refine At.ktext (.q 0 (.q 1 (.q 2 (.q 3 (.q 4 (.q 5 (.q 6 (.q 7 (.q 8 (.q 9 (.q 10 (.q 11 (.n false 12 (.q 13 (.q 14 (.q 15 (.q 16 (.n false 17 (.q 18 (.q 19 .done)))))))))))))))))))) ?_
  refine AtT.kmove ?_
  refine AtT.kneI ?_
  refine AtT.kmove ?_
  all_goals (first | refine AtT.kL 30 ?_ | refine AtT.pcase (d := 30) rfl (fun hg30 => ?_) (fun hg30 => ?_) | refine AtT.bcase (d := 30) rfl (fun hg30 => ?_) (fun hg30 => ?_))
  all_goals (first | refine AtT.kpass ?_ | refine AtT.kpassU ?_ | ((refine AtT.kmove ?_)))
  all_goals (first | refine AtT.kpass ?_ | refine AtT.kpassU ?_ | ((refine AtT.kneI ?_)))
  all_goals (refine AtT.kpick ?_)
  all_goals (refine AtT.kmove ?_)
  all_goals (first | refine AtT.kL 34 ?_ | refine AtT.pcase (d := 34) rfl (fun hg34 => ?_) (fun hg34 => ?_) | refine AtT.bcase (d := 34) rfl (fun hg34 => ?_) (fun hg34 => ?_))
  all_goals (first | refine AtT.kpass ?_ | refine AtT.kpassU ?_ | ((refine AtT.kmove ?_)))
  all_goals (first | refine AtT.kpass ?_ | refine AtT.kpassU ?_ | ((refine AtT.kneI ?_)))
  all_goals (refine AtT.kpick ?_)
  all_goals (refine AtT.kmove ?_)
  all_goals (first | refine AtT.kL 38 ?_ | refine AtT.pcase (d := 38) rfl (fun hg38 => ?_) (fun hg38 => ?_) | refine AtT.bcase (d := 38) rfl (fun hg38 => ?_) (fun hg38 => ?_))
  all_goals (first | refine AtT.kpass ?_ | refine AtT.kpassU ?_ | ((first | refine AtT.kloadOA tk31 ?_ | refine AtT.kloadA tk31 ?_ | refine AtT.kloadOP tk31 ?_)))
  all_goals (first | refine AtT.kpassN ?_ | refine AtT.kpassNU ?_ | ((refine AtT.kcallP rfl rfl ok46 (small_f (bestV L) (best_sm hL) _) ?_) ; (rintro _ rfl)))
  all_goals (first | refine AtT.kpass ?_ | refine AtT.kpassU ?_ | ((refine AtT.knot ?_)))
  all_goals (refine AtT.kpick ?_)
  all_goals (refine AtT.kmove ?_)
  all_goals (first | refine AtT.kL 43 ?_ | refine AtT.pcase (d := 43) rfl (fun hg43 => ?_) (fun hg43 => ?_) | refine AtT.bcase (d := 43) rfl (fun hg43 => ?_) (fun hg43 => ?_))
  all_goals (first | refine AtT.kpass ?_ | refine AtT.kpassU ?_ | ((first | refine AtT.kloadOA tk27 ?_ | refine AtT.kloadA tk27 ?_ | refine AtT.kloadOP tk27 ?_)))
  all_goals (first | refine AtT.kpassN ?_ | refine AtT.kpassNU ?_ | ((refine AtT.kcallP rfl rfl ok25 (rcheckLine_f lx _) ?_) ; (rintro _ rfl; rw [hlx.2])))
  all_goals (first | refine AtT.kpass ?_ | refine AtT.kpassU ?_ | ((refine AtT.kneI ?_)))
  all_goals (refine AtT.kpick ?_)
  all_goals refine AtT.done ?_
  all_goals (refine At.nrm ?_)
  refine At.condF rfl rfl ?_
  refine At.nrm ?_
  refine At.ktext (.q 0 (.q 1 (.n false 2 (.q 3 (.q 4 (.q 5 (.n false 6 (.n true 7 (.q 8 .done))))))))) ?_
  first | refine AtT.kloadOA tk25 ?_ | refine AtT.kloadA tk25 ?_ | refine AtT.kloadOP tk25 ?_
  first | refine AtT.kloadOA tk27 ?_ | refine AtT.kloadA tk27 ?_ | refine AtT.kloadOP tk27 ?_
  refine AtT.kcallP rfl rfl ok20 (core_p L lx _ _ hv') ?_
  rintro _ rfl; rw [hcx]
  refine AtT.kmove ?_
  refine AtT.kextract ?_
  refine AtT.kextract ?_
  refine AtT.kalloc z31 ?_
  intro b10
  refine AtT.kstoreA tk31 ?_
  refine AtT.kassign ?_
  refine AtT.done ?_
  refine At.nrm ?_
  refine At.ktext (.q 0 (.q 1 (.n false 2 (.q 3 (.q 4 (.q 5 (.n false 6 (.n true 7 (.q 8 .done))))))))) ?_
  first | refine AtT.kloadOA tk25 ?_ | refine AtT.kloadA tk25 ?_ | refine AtT.kloadOP tk25 ?_
  first | refine AtT.kloadOA tk45 ?_ | refine AtT.kloadA tk45 ?_ | refine AtT.kloadOP tk45 ?_
  refine AtT.kcallP rfl rfl ok31 (check_p L (firstP L) _ _ hv') ?_
  rintro _ rfl; rw [hp1]
  refine AtT.kmove ?_
  refine AtT.kextract ?_
  refine AtT.kextract ?_
  refine AtT.kalloc z31 ?_
  intro b11
  refine AtT.kstoreA tk31 ?_
  refine AtT.kassign ?_
  refine AtT.done ?_
  refine At.nrm ?_
  refine At.ktext (.q 0 (.q 1 (.n false 2 (.q 3 (.q 4 (.q 5 (.n false 6 (.n true 7 (.q 8 .done))))))))) ?_
  first | refine AtT.kloadOA tk25 ?_ | refine AtT.kloadA tk25 ?_ | refine AtT.kloadOP tk25 ?_
  first | refine AtT.kloadOA tk45 ?_ | refine AtT.kloadA tk45 ?_ | refine AtT.kloadOP tk45 ?_
  refine AtT.kcallP rfl rfl ok32 (check_q L (firstP L) _ _ hv') ?_
  rintro _ rfl; rw [hp1]
  refine AtT.kmove ?_
  refine AtT.kextract ?_
  refine AtT.kextract ?_
  refine AtT.kalloc z31 ?_
  intro b12
  refine AtT.kstoreA tk31 ?_
  refine AtT.kassign ?_
  refine AtT.done ?_
  refine At.nrm ?_
  refine At.drawC [.blk b12 (LC (rte (bestV L)) 31), .blk b11 (LC (rte (bestV L)) 31), .blk b10 (LC (rte (bestV L)) 31), .blk b6 (LC [iv lx.den, iv lx.start, iv lx.step] 27), .blk b4 (LC (rte (bestV L)) 31), .blk b1 (LC [.slice a L.pl.length c, .slice a' L.ed.length c'] 25)] (.q 0 (.q 1 (.q 2 (.q 3 (.q 4 (.q 5 (.q 6 (.q 7 (.q 8 (.q 9 (.q 10 (.q 11 (.q 12 (.q 13 (.q 14 (.q 15 (.q 16 (.q 17 (.q 18 (.q 19 (.q 20 (.q 21 (.q 22 (.q 23 (.q 24 (.q 25 (.q 26 (.q 27 (.q 28 (.q 30 (.n false 29 (.q 31 (.q 32 (.n false 33 (.q 34 .done))))))))))))))))))))))))))))))))))) ffm (by kernel_rfl) Pt.auto ?_
  refine AtC.pre (fun hle0 => ?_)
  refine AtC.kq (by (first | refine AtT.kloadOA tk31 ?_ | refine AtT.kloadA tk31 ?_ | refine AtT.kloadOP tk31 ?_); exact At.knows) ?_
  refine AtC.kq (by (refine AtT.kmove ?_); exact At.knows) ?_
  refine AtC.kq (by (refine AtT.keqI ?_); exact At.knows) ?_
  refine AtC.kq (by (refine AtT.kmove ?_); exact At.knows) ?_
  all_goals (first | refine AtC.kL 70 ?_ | refine AtC.pcase (d := 70) rfl (fun hg70 => ?_) (fun hg70 => ?_) | refine AtC.bcase (d := 70) rfl (fun hg70 => ?_) (fun hg70 => ?_))
  all_goals (refine AtC.kq (by (first | refine AtT.kpass ?_ | refine AtT.kpassU ?_ | ((refine AtT.kmove ?_))); exact At.knows) ?_)
  all_goals (refine AtC.kq (by (first | refine AtT.kpass ?_ | refine AtT.kpassU ?_ | ((refine AtT.keqI ?_))); exact At.knows) ?_)
  all_goals (refine AtC.kq (by (refine AtT.kpick ?_); exact At.knows) ?_)
  all_goals (refine AtC.kq (by (refine AtT.kmove ?_); exact At.knows) ?_)
  all_goals (first | refine AtC.kL 74 ?_ | refine AtC.pcase (d := 74) rfl (fun hg74 => ?_) (fun hg74 => ?_) | refine AtC.bcase (d := 74) rfl (fun hg74 => ?_) (fun hg74 => ?_))
  all_goals (refine AtC.kq (by (first | refine AtT.kpass ?_ | refine AtT.kpassU ?_ | ((refine AtT.kmove ?_))); exact At.knows) ?_)
  all_goals (refine AtC.kq (by (first | refine AtT.kpass ?_ | refine AtT.kpassU ?_ | ((refine AtT.keqI ?_))); exact At.knows) ?_)
  all_goals (refine AtC.kq (by (refine AtT.kpick ?_); exact At.knows) ?_)
  all_goals (refine AtC.kq (by (refine AtT.kmove ?_); exact At.knows) ?_)
  all_goals (first | refine AtC.kL 78 ?_ | refine AtC.pcase (d := 78) rfl (fun hg78 => ?_) (fun hg78 => ?_) | refine AtC.bcase (d := 78) rfl (fun hg78 => ?_) (fun hg78 => ?_))
  all_goals (refine AtC.kq (by (first | refine AtT.kpass ?_ | refine AtT.kpassU ?_ | ((first | refine AtT.kloadOA tk31 ?_ | refine AtT.kloadA tk31 ?_ | refine AtT.kloadOP tk31 ?_))); exact At.knows) ?_)
  all_goals (refine AtC.kq (by (first | refine AtT.kpass ?_ | refine AtT.kpassU ?_ | ((first | refine AtT.kloadOA tk31 ?_ | refine AtT.kloadA tk31 ?_ | refine AtT.kloadOP tk31 ?_))); exact At.knows) ?_)
  all_goals (refine AtC.kq (by (first | refine AtT.kpass ?_ | refine AtT.kpassU ?_ | ((refine AtT.keqS (eqS31 _ _ _ _) ?_))); exact At.knows) ?_)
  all_goals (rw [eqR])
  all_goals (refine AtC.kq (by (refine AtT.kpick ?_); exact At.knows) ?_)
  all_goals (refine AtC.kq (by (refine AtT.kmove ?_); exact At.knows) ?_)
  all_goals (first | refine AtC.kL 83 ?_ | refine AtC.pcase (d := 83) rfl (fun hg83 => ?_) (fun hg83 => ?_) | refine AtC.bcase (d := 83) rfl (fun hg83 => ?_) (fun hg83 => ?_))
  all_goals (refine AtC.kq (by (first | refine AtT.kpass ?_ | refine AtT.kpassU ?_ | ((first | refine AtT.kloadOA tk31 ?_ | refine AtT.kloadA tk31 ?_ | refine AtT.kloadOP tk31 ?_))); exact At.knows) ?_)
  all_goals (refine AtC.kq (by (first | refine AtT.kpass ?_ | refine AtT.kpassU ?_ | ((first | refine AtT.kloadOA tk31 ?_ | refine AtT.kloadA tk31 ?_ | refine AtT.kloadOP tk31 ?_))); exact At.knows) ?_)
  all_goals (refine AtC.kq (by (first | refine AtT.kpass ?_ | refine AtT.kpassU ?_ | ((refine AtT.keqS (eqS31 _ _ _ _) ?_))); exact At.knows) ?_)
  all_goals (rw [eqR])
  all_goals (refine AtC.kq (by (refine AtT.kpick ?_); exact At.knows) ?_)
  all_goals (refine AtC.kq (by (refine AtT.kmove ?_); exact At.knows) ?_)
  all_goals (first | refine AtC.kL 88 ?_ | refine AtC.pcase (d := 88) rfl (fun hg88 => ?_) (fun hg88 => ?_) | refine AtC.bcase (d := 88) rfl (fun hg88 => ?_) (fun hg88 => ?_))
  all_goals (refine AtC.kq (by (first | refine AtT.kpass ?_ | refine AtT.kpassU ?_ | ((first | refine AtT.kloadOA tk31 ?_ | refine AtT.kloadA tk31 ?_ | refine AtT.kloadOP tk31 ?_))); exact At.knows) ?_)
  all_goals (refine AtC.kq (by (first | refine AtT.kpass ?_ | refine AtT.kpassU ?_ | ((first | refine AtT.kloadOA tk31 ?_ | refine AtT.kloadA tk31 ?_ | refine AtT.kloadOP tk31 ?_))); exact At.knows) ?_)
  all_goals (refine AtC.kq (by (first | refine AtT.kpass ?_ | refine AtT.kpassU ?_ | ((refine AtT.keqS (eqS31 _ _ _ _) ?_))); exact At.knows) ?_)
  all_goals (rw [eqR])
  all_goals (refine AtC.kq (by (refine AtT.kpick ?_); exact At.knows) ?_)
  all_goals (refine AtC.kq (by (refine AtT.kmove ?_); exact At.knows) ?_)
  all_goals (first | refine AtC.kL 93 ?_ | refine AtC.pcase (d := 93) rfl (fun hg93 => ?_) (fun hg93 => ?_) | refine AtC.bcase (d := 93) rfl (fun hg93 => ?_) (fun hg93 => ?_))
  all_goals (refine AtC.kq (by (first | refine AtT.kpass ?_ | refine AtT.kpassU ?_ | ((first | refine AtT.kloadOA tk25 ?_ | refine AtT.kloadA tk25 ?_ | refine AtT.kloadOP tk25 ?_))); exact At.knows) ?_)
  all_goals (refine AtC.kq (by (first | refine AtT.kpass ?_ | refine AtT.kpassU ?_ | ((first | refine AtT.kloadOA tk27 ?_ | refine AtT.kloadA tk27 ?_ | refine AtT.kloadOP tk27 ?_))); exact At.knows) ?_)
  all_goals (refine AtC.kq (by (first | refine AtT.kpass ?_ | refine AtT.kpassU ?_ | ((first | refine AtT.kloadOA tk31 ?_ | refine AtT.kloadA tk31 ?_ | refine AtT.kloadOP tk31 ?_))); exact At.knows) ?_)
  all_goals (refine AtC.nz ?_)
  all_goals (first | refine AtT.kpassN ?_ | refine AtT.kpassNU ?_ | ((refine AtT.kcallP rfl rfl ok50 (rcoreOf_f L lx _ _ hv' hL hlx.1) ?_) ; (rintro _ rfl; rw [hx2])))
  all_goals (refine AtC.kgo ?_)
  all_goals (refine AtC.kq (by (first | refine AtT.kpass ?_ | refine AtT.kpassU ?_ | ((refine AtT.keqS (eqS31 _ _ _ _) ?_))); exact At.knows) ?_)
  all_goals (rw [eqR])
  all_goals (refine AtC.kq (by (refine AtT.kpick ?_); exact At.knows) ?_)
  all_goals (refine AtC.nz ?_)
  all_goals (refine AtT.kstoreA tk31 ?_)
  all_goals (refine AtC.kgo ?_)
  all_goals (refine AtC.kq (by (refine AtT.kassign ?_); exact At.knows) ?_)
  all_goals refine AtC.done ?_
  all_goals (refine At.nrm ?_)
  exact At.ret2 rfl (.agg rfl tk31 Pick.auto rfl) (.tmp rfl) rfl

theorem lined_f (L : Lg) (one two : Int) (V : View) (v : Value) (hv : LogV V v L) (hL : LgOk L) (h1 : -32768 ≤ one ∧ one ≤ 32767) (h2 : -32768 ≤ two ∧ two ≤ 32767) :
    Fnc Try.prog 43 [v, .int .i16 one, .int .i16 two] V fun r _ => r = lnv (linedV L one two) := by
  obtain ⟨a, c, a', c', rfl, g2, g3⟩ := hv
  have n2 := hL.n2
  have n8 := hL.n8
  have t1 := tm_bd one
  have t2 := tm_bd two
  have e := ends_bd hL
  have m1 := mul_bd (a := tm one) (b := lastX L) (A := 2000) (B := 100) (by decide) (by decide) (by omega) (by omega) (by omega) (by omega)
  have m2 := mul_bd (a := tm two) (b := firstX L) (A := 2000) (B := 100) (by decide) (by decide) (by omega) (by omega) (by omega) (by omega)
  refine fn_of Try.func43 rfl Try.ntmps43 (Nat.le_of_ble_eq_true rfl) ?_
  intro w0 hw0
  refine At.nrm ?_
  refine At.ktext (.n false 0 (.n false 1 .done)) ?_
  refine AtT.kbox ?_
  intro b3
  refine AtT.kalloc z27 ?_
  intro b6
  refine AtT.done ?_
  refine At.nrm ?_
  refine At.draw (.q 0 (.q 1 (.q 2 (.q 3 (.q 4 (.q 5 (.q 6 (.q 7 (.q 8 (.q 9 (.q 10 (.q 11 (.q 12 (.q 13 (.q 14 (.q 15 (.q 16 (.q 17 (.q 18 (.q 19 (.q 20 (.q 21 .done)))))))))))))))))))))) ffm (by kernel_rfl) ?_
  refine AtT.kmove ?_
  refine AtT.kconv un57 Try.underlying2 ?_
  rw [wrap_fit (Fit.of (by omega) (by omega))]
  refine AtT.krem ?_
  refine AtT.kmove ?_
  refine AtT.kconv un57 Try.underlying2 ?_
  rw [wrap_fit (Fit.of (by omega) (by omega))]
  refine AtT.krem ?_
  first | refine AtT.kfieldO fo25_0 ?_ | with_reducible refine AtT.kfield2 fo25_0 ?_ | refine AtT.kfield fo25_0 ?_
  first | refine AtT.kloadO tk22 ?_ | refine AtT.kload tk22 ?_
  refine AtT.kidx Try.underlying22 tk2 ?_
  intro p19 e19 he19 hc19
  obtain rfl : e19 = firstX L := plP_some (i := 0) he19
  first | refine AtT.kloadO tk2 ?_ | refine AtT.kload tk2 ?_
  first | refine AtT.kfieldO fo25_0 ?_ | with_reducible refine AtT.kfield2 fo25_0 ?_ | refine AtT.kfield fo25_0 ?_
  first | refine AtT.kloadO tk22 ?_ | refine AtT.kload tk22 ?_
  first | refine AtT.kfieldO fo25_0 ?_ | with_reducible refine AtT.kfield2 fo25_0 ?_ | refine AtT.kfield fo25_0 ?_
  first | refine AtT.kloadO tk22 ?_ | refine AtT.kload tk22 ?_
  first | refine AtT.klenS Try.underlying22 ?_ | refine AtT.klenR Try.underlying22 ?_
  first | refine AtT.ksubt ?_ | refine AtT.ksubW ?_
  refine AtT.kidx Try.underlying22 tk2 ?_
  intro p27 e27 he27 hc27
  obtain rfl : e27 = lastX L := plP_some (i := ((L.pl.length - 1 : Nat) : Int)) (by rw [← he27]; congr 1; omega)
  first | refine AtT.kloadO tk2 ?_ | refine AtT.kload tk2 ?_
  refine AtT.kassign ?_
  refine AtT.kassign ?_
  refine AtT.kassign ?_
  refine AtT.kassign ?_
  refine AtT.done ?_
  refine At.nrm ?_
  refine At.re (d := 7) rfl (show iv (one.tmod 2001) = iv (tm one) from rfl) ?_
  refine At.re (d := 8) rfl (show iv (two.tmod 2001) = iv (tm two) from rfl) ?_
  refine At.ktext (.q 0 (.q 1 (.q 2 (.q 3 (.q 4 (.q 5 (.q 6 (.q 7 (.q 8 (.q 9 (.q 10 (.q 11 (.q 12 (.n false 13 (.n true 14 .done))))))))))))))) ?_
  refine AtT.kmove ?_
  refine AtT.kmove ?_
  first | refine AtT.ksubt ?_ | refine AtT.ksubW ?_
  refine AtT.kmove ?_
  refine AtT.kmove ?_
  first | refine AtT.kmul ?_ | refine AtT.kmulW ?_
  refine AtT.kmove ?_
  refine AtT.kmove ?_
  first | refine AtT.kmul ?_ | refine AtT.kmulW ?_
  first | refine AtT.ksubt ?_ | refine AtT.ksubW ?_
  refine AtT.kmove ?_
  refine AtT.kmove ?_
  first | refine AtT.ksubt ?_ | refine AtT.ksubW ?_
  refine AtT.kcallP rfl rfl ok47 (line47_f _ _ _ _) ?_
  rintro _ rfl
  refine AtT.kstoreA tk27 ?_
  refine AtT.done ?_
  refine At.nrm ?_
  exact At.ret1 rfl (.agg rfl tk27 Pick.auto rfl) rfl
end Go.Proofs.Ytnionkopmncopaa
set_option linter.unusedVariables false
namespace Go.Proofs.Ytnionkopmncopaa
open Go.Lw Go.Pl Go.RowKit

theorem less_not {a b : Rt} (ha : Go.Pl.Can a) (hb : Go.Pl.Can b) (h : b.q ≤ a.q) : lessB a b = false := by
  cases hl : lessB a b with
  | false => rfl
  | true => have := (lessB_q ha.pos hb.pos).1 hl; grind
theorem coreR_lined {L : Lg} (he : logE L = 0) (one two : Int) : coreR L (linedV L one two) = (coreOf L (linedV L one two), 0) := by
  unfold coreR
  rw [if_neg (by simp [he]), if_neg (by simp [(lined_ok (logE_ok he) one two).2.1])]
theorem check_cases {L : Lg} (he : logE L = 0) (p : Pf) : (checkR L p = (⟨0, 0⟩, 2)) ∨ (PfOk L p ∧ checkR L p = (provV L p, 0)) := by
  unfold checkR
  rw [if_neg (by simp [he])]
  cases h : shapedB L p with
  | false => rw [if_pos rfl]; exact .inl rfl
  | true => rw [if_neg (by simp)]; exact .inr ⟨(shapedB_iff L p).1 h, rfl⟩

theorem peelProved_f (L : Lg) (one two : Int) (f m l : Int) (ov : Bool) (V : View) (v : Value) (hv : LogV V v L) (h1 : -32768 ≤ one ∧ one ≤ 32767) (h2 : -32768 ≤ two ∧ two ≤ 32767) (hf : 0 ≤ f ∧ f ≤ 255) (hm : 0 ≤ m ∧ m ≤ 255) (hl' : 0 ≤ l ∧ l ≤ 255) :
    Fnc Try.prog 8 [v, .int .i16 one, .int .i16 two, .int .u8 f, .int .u8 m, .int .u8 l, .bool ov] V fun r _ => r = .bool true := by
  have hv' := hv
  obtain ⟨a, c, a', c', rfl, g2, g3⟩ := hv
  refine fn_of Try.func8 rfl Try.ntmps8 (Nat.le_of_ble_eq_true rfl) ?_
  intro w0 hw0
  refine At.nrm ?_
  refine At.ktext (.n false 0 (.q 1 .done)) ?_
  refine AtT.kbox ?_
  intro b7
  refine AtT.kassign ?_
  refine AtT.done ?_
  refine At.nrm ?_
  refine At.ktext (.q 0 (.n false 1 (.q 2 .done))) ?_
  first | refine AtT.kloadOA tk25 ?_ | refine AtT.kloadA tk25 ?_ | refine AtT.kloadOP tk25 ?_
  refine AtT.kcallP rfl rfl ok41 (fine_f L _ _ hv') ?_
  rintro _ rfl
  refine AtT.knot ?_
  refine AtT.done ?_
  refine At.nrm ?_
  by_cases he : logE L = 0
  rotate_left
  · refine At.condT rfl (by rw [decide_eq_false he]; rfl) ?_
    refine At.nrm ?_
    refine At.ktext (.n false 0 (.q 1 .done)) ?_
    refine AtT.kcallP rfl rfl ok19 (works_f _) ?_
    rintro _ rfl
    refine AtT.kassign ?_
    refine AtT.done ?_
    refine At.nrm ?_
    exact At.ret1 rfl (.tmp rfl) rfl
  refine At.condF rfl (by rw [decide_eq_true he]; rfl) ?_
  have hL := logE_ok he
  have n2 := hL.n2
  have n8 := hL.n8
  have hlc := lined_core hL one two
  have hls := lined_sm hL one two
  have hlp := hls.can.pos
  have hbs := best_sm hL
  have hcb := core_le_best hL (lined_ok hL one two).1.d0
  refine At.nrm ?_
  refine At.ktext (.q 0 (.n false 1 (.q 2 (.q 3 (.q 4 (.n false 5 (.n true 6 (.q 7 .done)))))))) ?_
  first | refine AtT.kloadOA tk25 ?_ | refine AtT.kloadA tk25 ?_ | refine AtT.kloadOP tk25 ?_
  refine AtT.kcallP rfl rfl ok42 (best42_f L _ _ hv' he) ?_
  rintro _ rfl
  refine AtT.kmove ?_
  refine AtT.kextract ?_
  refine AtT.kextract ?_
  refine AtT.kalloc z31 ?_
  intro b15
  refine AtT.kstoreA tk31 ?_
  refine AtT.kassign ?_
  refine AtT.done ?_
  refine At.nrm ?_
  apply At.draw1 (.q 0 (.q 1 (.q 2 (.q 3 (.two 4 (.two 5 (.q 6 (.q 7 (.q 8 (.n false 9 (.n false 10 (.q 11 .done)))))) 9 (.n false 5 (.q 6 (.q 7 (.q 8 (.n false 10 (.q 11 .done))))))) 9 (.n false 4 (.n false 5 (.q 6 (.q 7 (.q 8 (.n false 10 (.q 11 .done)))))))))))) ffm (by kernel_rfl)
  · refine AtC.start ?_
    refine AtC.pre (fun hle0 => ?_)
    refine AtC.kq (by (first | refine AtT.kloadOA tk25 ?_ | refine AtT.kloadA tk25 ?_ | refine AtT.kloadOP tk25 ?_); exact At.knows) ?_
    refine AtC.kq (by (first | refine AtT.kloadOA tk25 ?_ | refine AtT.kloadA tk25 ?_ | refine AtT.kloadOP tk25 ?_); exact At.knows) ?_
    refine AtC.kq (by (refine AtT.kmove ?_); exact At.knows) ?_
    refine AtC.kq (by (refine AtT.kmove ?_); exact At.knows) ?_
    refine AtC.two ?_ ?_
    focus
      refine AtC.nz ?_
      refine AtT.kcallP rfl rfl ok43 (lined_f L one two _ _ hv' hL h1 h2) ?_
      rintro _ rfl
      refine AtC.kgo ?_
      refine AtC.two ?_ ?_
      focus
        refine AtC.nz ?_
        refine AtT.kcallP rfl rfl ok20 (core_p L (linedV L one two) _ _ hv') ?_
        rintro _ rfl; rw [coreR_lined he]
        refine AtC.kgo ?_
        refine AtC.kq (by (refine AtT.kmove ?_); exact At.knows) ?_
        refine AtC.kq (by (refine AtT.kextract ?_); exact At.knows) ?_
        refine AtC.kq (by (refine AtT.kextract ?_); exact At.knows) ?_
        refine AtC.nz ?_
        refine AtT.kalloc z31 ?_
        intro b17
        refine AtC.kgo ?_
        refine AtC.nz ?_
        refine AtT.kstoreA tk31 ?_
        refine AtC.kgo ?_
        refine AtC.kq (by (refine AtT.kassign ?_); exact At.knows) ?_
        exact AtC.done (fun a w hk hm => ⟨b17, hk, hm⟩)
      focus
        refine AtC.nz ?_
        refine AtT.kalloc z31 ?_
        intro b17
        refine AtC.kgo ?_
        refine AtC.nz ?_
        refine AtT.kcallP rfl rfl ok20 (core_p L (linedV L one two) _ _ hv') ?_
        rintro _ rfl; rw [coreR_lined he]
        refine AtC.kgo ?_
        refine AtC.kq (by (refine AtT.kmove ?_); exact At.knows) ?_
        refine AtC.kq (by (refine AtT.kextract ?_); exact At.knows) ?_
        refine AtC.kq (by (refine AtT.kextract ?_); exact At.knows) ?_
        refine AtC.nz ?_
        refine AtT.kstoreA tk31 ?_
        refine AtC.kgo ?_
        refine AtC.kq (by (refine AtT.kassign ?_); exact At.knows) ?_
        exact AtC.done (At.mid1 b17)
    focus
      refine AtC.nz ?_
      refine AtT.kalloc z31 ?_
      intro b17
      refine AtC.kgo ?_
      refine AtC.nz ?_
      refine AtT.kcallP rfl rfl ok43 (lined_f L one two _ _ hv' hL h1 h2) ?_
      rintro _ rfl
      refine AtC.kgo ?_
      refine AtC.nz ?_
      refine AtT.kcallP rfl rfl ok20 (core_p L (linedV L one two) _ _ hv') ?_
      rintro _ rfl; rw [coreR_lined he]
      refine AtC.kgo ?_
      refine AtC.kq (by (refine AtT.kmove ?_); exact At.knows) ?_
      refine AtC.kq (by (refine AtT.kextract ?_); exact At.knows) ?_
      refine AtC.kq (by (refine AtT.kextract ?_); exact At.knows) ?_
      refine AtC.nz ?_
      refine AtT.kstoreA tk31 ?_
      refine AtC.kgo ?_
      refine AtC.kq (by (refine AtT.kassign ?_); exact At.knows) ?_
      exact AtC.done (At.mid1 b17)
  intro b17
  refine At.nrm ?_
  refine At.ktext (.q 0 (.q 1 (.q 2 (.q 3 .done)))) ?_
  first | refine AtT.kfieldO fo25_0 ?_ | with_reducible refine AtT.kfield2 fo25_0 ?_ | refine AtT.kfield fo25_0 ?_
  first | refine AtT.kloadO tk22 ?_ | refine AtT.kload tk22 ?_
  first | refine AtT.klenS Try.underlying22 ?_ | refine AtT.klenR Try.underlying22 ?_
  refine AtT.kassign ?_
  refine AtT.done ?_
  refine At.nrm ?_
  apply At.draw1 (.q 0 (.q 1 (.q 2 (.q 3 (.q 4 (.q 5 (.q 6 (.q 7 (.q 8 (.q 9 (.q 10 (.q 11 (.two 12 (.n false 13 (.n true 14 .done)) 13 (.n false 12 (.n true 14 .done))))))))))))))) ffm (by kernel_rfl)
  · refine AtT.kmove ?_
    refine AtT.kconv un5 Try.underlying3 ?_
    rw [wrap_fit (Fit.of (by omega) (by omega))]
    refine AtT.kmove ?_
    refine AtT.krem ?_
    refine AtT.kmove ?_
    refine AtT.kconv un5 Try.underlying3 ?_
    rw [wrap_fit (Fit.of (by omega) (by omega))]
    refine AtT.kmove ?_
    refine AtT.krem ?_
    refine AtT.kmove ?_
    refine AtT.kconv un5 Try.underlying3 ?_
    rw [wrap_fit (Fit.of (by omega) (by omega))]
    refine AtT.kmove ?_
    refine AtT.krem ?_
    refine AtT.two ?_ ?_
    focus
      refine AtT.kcallP rfl rfl ok44 (proof44_f _ _ _ _ _) ?_
      rintro _ rfl
      refine AtT.kalloc z45 ?_
      intro b20
      refine AtT.kstoreA tk45 ?_
      exact AtT.done (fun a w hk hm => ⟨b20, hk, hm⟩)
    focus
      refine AtT.kalloc z45 ?_
      intro b20
      refine AtT.kcallP rfl rfl ok44 (proof44_f _ _ _ _ _) ?_
      rintro _ rfl
      refine AtT.kstoreA tk45 ?_
      exact AtT.done (At.mid1 b20)
  intro b20
  refine At.nrm ?_
  refine At.ktext (.q 0 .done) ?_
  refine AtT.kmove ?_
  refine AtT.done ?_
  refine At.nrm ?_
  refine At.cutG (ι := Pf) (fun _ => [(7, .pointer (some ⟨b7, 0, none⟩)), (15, .pointer (some ⟨b15, 0, none⟩)), (16, .bool true), (17, .pointer (some ⟨b17, 0, none⟩)), (18, iv 0), (20, .pointer (some ⟨b20, 0, none⟩))])
    (fun P => [.blk b7 (LC [.slice a L.pl.length c, .slice a' L.ed.length c'] 25), .blk b15 (LC (rte (bestV L)) 31), .blk b17 (LC (rte (coreOf L (linedV L one two))) 31), .blk b20 (LC (pfe P) 45)]) (fun _ V' => V = V') ?_ ?_
  · refine At.cond rfl (fun hb => ?_) (fun hb => ?_)
    · refine At.nrm ?_
      refine At.ktext (.q 0 (.n true 1 .done)) ?_
      first | refine AtT.kfieldO fo45_3 ?_ | with_reducible refine AtT.kfield2 fo45_3 ?_ | refine AtT.kfield fo45_3 ?_
      first | refine AtT.kstore1 tk3 ?_ | refine AtT.kstoreA tk3 ?_
      refine AtT.done ?_
      refine At.nrm ?_
      refine At.meetG ⟨f.tmod L.pl.length, m.tmod L.pl.length, l.tmod L.pl.length, 2⟩ rfl ⟨rfl, rfl, rfl, rfl, rfl, rfl, trivial⟩ ?_
      · exact Pt.auto
    · refine At.nrm ?_
      refine At.meetG ⟨f.tmod L.pl.length, m.tmod L.pl.length, l.tmod L.pl.length, 1⟩ rfl ⟨rfl, rfl, rfl, rfl, rfl, rfl, trivial⟩ ?_
      · exact Pt.auto
  rintro P0 V' ks' O' rfl hk hO hl0
  subst hk hO
  refine At.nrm ?_
  refine At.ktext (.q 0 (.q 1 (.q 2 (.q 3 (.q 4 .done))))) ?_
  first | refine AtT.kfieldO fo45_0 ?_ | with_reducible refine AtT.kfield2 fo45_0 ?_ | refine AtT.kfield fo45_0 ?_
  first | refine AtT.kloadO tk3 ?_ | refine AtT.kload tk3 ?_
  first | refine AtT.kfieldO fo45_2 ?_ | with_reducible refine AtT.kfield2 fo45_2 ?_ | refine AtT.kfield fo45_2 ?_
  first | refine AtT.kloadO tk3 ?_ | refine AtT.kload tk3 ?_
  refine AtT.keqI ?_
  refine AtT.done ?_
  refine At.nrm ?_
  refine At.cutG (ι := Pf) (fun _ => [(7, .pointer (some ⟨b7, 0, none⟩)), (15, .pointer (some ⟨b15, 0, none⟩)), (16, .bool true), (17, .pointer (some ⟨b17, 0, none⟩)), (18, iv 0), (20, .pointer (some ⟨b20, 0, none⟩))])
    (fun P => [.blk b7 (LC [.slice a L.pl.length c, .slice a' L.ed.length c'] 25), .blk b15 (LC (rte (bestV L)) 31), .blk b17 (LC (rte (coreOf L (linedV L one two))) 31), .blk b20 (LC (pfe P) 45)]) (fun _ V' => V = V') ?_ ?_
  · refine At.cond rfl (fun hb => ?_) (fun hb => ?_)
    · refine At.nrm ?_
      refine At.ktext (.q 0 (.q 1 (.q 2 (.n true 3 (.q 4 (.n true 5 .done)))))) ?_
      first | refine AtT.kfieldO fo45_0 ?_ | with_reducible refine AtT.kfield2 fo45_0 ?_ | refine AtT.kfield fo45_0 ?_
      first | refine AtT.kloadO tk3 ?_ | refine AtT.kload tk3 ?_
      first | refine AtT.kfieldO fo45_1 ?_ | with_reducible refine AtT.kfield2 fo45_1 ?_ | refine AtT.kfield fo45_1 ?_
      first | refine AtT.kstore1 tk3 ?_ | refine AtT.kstoreA tk3 ?_
      first | refine AtT.kfieldO fo45_3 ?_ | with_reducible refine AtT.kfield2 fo45_3 ?_ | refine AtT.kfield fo45_3 ?_
      first | refine AtT.kstore1 tk3 ?_ | refine AtT.kstoreA tk3 ?_
      refine AtT.done ?_
      refine At.nrm ?_
      refine At.meetG ⟨P0.f, P0.f, P0.l, 0⟩ rfl ⟨rfl, rfl, rfl, rfl, rfl, rfl, trivial⟩ ?_
      · exact Pt.auto
    · refine At.nrm ?_
      refine At.meetG P0 rfl ⟨rfl, rfl, rfl, rfl, rfl, rfl, trivial⟩ ?_
      · exact Pt.auto
  rintro P V' ks' O' rfl hk hO hl0'
  subst hk hO
  refine At.nrm ?_
  rcases check_cases he P with hch | ⟨hP, hch⟩
  · refine At.ktext (.q 0 (.q 1 (.n false 2 (.q 3 (.q 4 (.q 5 (.n false 6 (.n true 7 (.q 8 .done))))))))) ?_
    first | refine AtT.kloadOA tk25 ?_ | refine AtT.kloadA tk25 ?_ | refine AtT.kloadOP tk25 ?_
    first | refine AtT.kloadOA tk45 ?_ | refine AtT.kloadA tk45 ?_ | refine AtT.kloadOP tk45 ?_
    refine AtT.kcallP rfl rfl ok31 (check_p L P _ _ hv') ?_
    rintro _ rfl; rw [hch]
    refine AtT.kmove ?_
    refine AtT.kextract ?_
    refine AtT.kextract ?_
    refine AtT.kalloc z31 ?_
    intro b21
    refine AtT.kstoreA tk31 ?_
    refine AtT.kassign ?_
    refine AtT.done ?_
    refine At.nrm ?_
    refine At.ktext (.q 0 (.q 1 (.q 2 (.q 3 (.q 4 (.q 5 (.q 6 (.q 7 (.q 8 (.q 9 (.q 10 (.q 11 (.q 12 (.q 13 (.q 14 (.q 15 (.q 16 (.q 17 (.q 18 (.q 19 (.q 20 (.q 21 (.q 22 (.q 23 (.q 24 (.q 25 (.q 26 (.q 27 (.q 28 (.q 29 (.q 30 (.q 31 (.q 32 (.q 33 (.q 34 (.n false 35 (.q 36 .done))))))))))))))))))))))))))))))))))))) ?_
    refine AtT.kmove ?_
    refine AtT.knot ?_
    refine AtT.kmove ?_
    all_goals (first | refine AtT.kL 76 ?_ | refine AtT.pcase (d := 76) rfl (fun hg76 => ?_) (fun hg76 => ?_) | refine AtT.bcase (d := 76) rfl (fun hg76 => ?_) (fun hg76 => ?_))
    all_goals (first | refine AtT.kpass ?_ | refine AtT.kpassU ?_ | ((refine AtT.kmove ?_)))
    all_goals (first | refine AtT.kpass ?_ | refine AtT.kpassU ?_ | ((refine AtT.kneI ?_)))
    all_goals (refine AtT.kpick ?_)
    all_goals (refine AtT.kmove ?_)
    all_goals (first | refine AtT.kL 80 ?_ | refine AtT.pcase (d := 80) rfl (fun hg80 => ?_) (fun hg80 => ?_) | refine AtT.bcase (d := 80) rfl (fun hg80 => ?_) (fun hg80 => ?_))
    all_goals (first | refine AtT.kpass ?_ | refine AtT.kpassU ?_ | ((first | refine AtT.kfieldO fo31_1 ?_ | with_reducible refine AtT.kfield2 fo31_1 ?_ | refine AtT.kfield fo31_1 ?_)))
    all_goals (first | refine AtT.kpass ?_ | refine AtT.kpassU ?_ | ((first | refine AtT.kloadO tk2 ?_ | refine AtT.kload tk2 ?_)))
    all_goals (first | refine AtT.kpass ?_ | refine AtT.kpassU ?_ | ((refine AtT.klss ?_)))
    all_goals (refine AtT.setF (d := 83) rfl (by omega) ?_)
    all_goals (refine AtT.kpick ?_)
    all_goals (refine AtT.kmove ?_)
    all_goals (first | refine AtT.kL 85 ?_ | refine AtT.pcase (d := 85) rfl (fun hg85 => ?_) (fun hg85 => ?_) | refine AtT.bcase (d := 85) rfl (fun hg85 => ?_) (fun hg85 => ?_))
    all_goals (first | refine AtT.kpass ?_ | refine AtT.kpassU ?_ | ((first | refine AtT.kfieldO fo31_1 ?_ | with_reducible refine AtT.kfield2 fo31_1 ?_ | refine AtT.kfield fo31_1 ?_)))
    all_goals (first | refine AtT.kpass ?_ | refine AtT.kpassU ?_ | ((first | refine AtT.kloadO tk2 ?_ | refine AtT.kload tk2 ?_)))
    all_goals (first | refine AtT.kpass ?_ | refine AtT.kpassU ?_ | ((refine AtT.kgtr ?_)))
    all_goals (refine AtT.setF (d := 88) rfl (by omega) ?_)
    all_goals (refine AtT.kpick ?_)
    all_goals (refine AtT.kmove ?_)
    all_goals (first | refine AtT.kL 90 ?_ | refine AtT.pcase (d := 90) rfl (fun hg90 => ?_) (fun hg90 => ?_) | refine AtT.bcase (d := 90) rfl (fun hg90 => ?_) (fun hg90 => ?_))
    all_goals (first | refine AtT.kpass ?_ | refine AtT.kpassU ?_ | ((first | refine AtT.kfieldO fo31_0 ?_ | with_reducible refine AtT.kfield2 fo31_0 ?_ | refine AtT.kfield fo31_0 ?_)))
    all_goals (first | refine AtT.kpass ?_ | refine AtT.kpassU ?_ | ((first | refine AtT.kloadO tk2 ?_ | refine AtT.kload tk2 ?_)))
    all_goals (first | refine AtT.kpass ?_ | refine AtT.kpassU ?_ | ((first | refine AtT.kfieldO fo31_1 ?_ | with_reducible refine AtT.kfield2 fo31_1 ?_ | refine AtT.kfield fo31_1 ?_)))
    all_goals (first | refine AtT.kpass ?_ | refine AtT.kpassU ?_ | ((first | refine AtT.kloadO tk2 ?_ | refine AtT.kload tk2 ?_)))
    all_goals (first | refine AtT.kpass ?_ | refine AtT.kpassU ?_ | ((first | refine AtT.kmul ?_ | refine AtT.kmulW ?_)))
    all_goals (first | refine AtT.kpass ?_ | refine AtT.kpassU ?_ | ((refine AtT.klss ?_)))
    all_goals (refine AtT.setF (d := 96) rfl (by omega) ?_)
    all_goals (refine AtT.kpick ?_)
    all_goals (refine AtT.kmove ?_)
    all_goals (first | refine AtT.kL 98 ?_ | refine AtT.pcase (d := 98) rfl (fun hg98 => ?_) (fun hg98 => ?_) | refine AtT.bcase (d := 98) rfl (fun hg98 => ?_) (fun hg98 => ?_))
    all_goals (first | refine AtT.kpass ?_ | refine AtT.kpassU ?_ | ((first | refine AtT.kfieldO fo31_0 ?_ | with_reducible refine AtT.kfield2 fo31_0 ?_ | refine AtT.kfield fo31_0 ?_)))
    all_goals (first | refine AtT.kpass ?_ | refine AtT.kpassU ?_ | ((first | refine AtT.kloadO tk2 ?_ | refine AtT.kload tk2 ?_)))
    all_goals (first | refine AtT.kpass ?_ | refine AtT.kpassU ?_ | ((first | refine AtT.kfieldO fo31_1 ?_ | with_reducible refine AtT.kfield2 fo31_1 ?_ | refine AtT.kfield fo31_1 ?_)))
    all_goals (first | refine AtT.kpass ?_ | refine AtT.kpassU ?_ | ((first | refine AtT.kloadO tk2 ?_ | refine AtT.kload tk2 ?_)))
    all_goals (first | refine AtT.kpass ?_ | refine AtT.kpassU ?_ | ((first | refine AtT.kmul ?_ | refine AtT.kmulW ?_)))
    all_goals (first | refine AtT.kpass ?_ | refine AtT.kpassU ?_ | ((refine AtT.kgtr ?_)))
    all_goals (refine AtT.setF (d := 104) rfl (by omega) ?_)
    all_goals (refine AtT.kpick ?_)
    all_goals (refine AtT.kmove ?_)
    all_goals (first | refine AtT.kL 106 ?_ | refine AtT.pcase (d := 106) rfl (fun hg106 => ?_) (fun hg106 => ?_) | refine AtT.bcase (d := 106) rfl (fun hg106 => ?_) (fun hg106 => ?_))
    all_goals (first | refine AtT.kpass ?_ | refine AtT.kpassU ?_ | ((first | refine AtT.kloadOA tk31 ?_ | refine AtT.kloadA tk31 ?_ | refine AtT.kloadOP tk31 ?_)))
    all_goals (first | refine AtT.kpass ?_ | refine AtT.kpassU ?_ | ((first | refine AtT.kloadOA tk31 ?_ | refine AtT.kloadA tk31 ?_ | refine AtT.kloadOP tk31 ?_)))
    all_goals (first | refine AtT.kpassN ?_ | refine AtT.kpassNU ?_ | ((refine AtT.kcallP rfl rfl ok45 (rless_f (bestV L) (coreOf L (linedV L one two)) _ (sm_fit hbs hls) (sm_fit hls hbs)) ?_) ; (rintro _ rfl)))
    all_goals (refine AtT.setB (d := 109) rfl (less_not hbs.can hls.can hcb) ?_)
    all_goals (refine AtT.kpick ?_)
    all_goals refine AtT.done ?_
    all_goals (refine At.nrm ?_)
    refine At.condF rfl rfl ?_
    refine At.nrm ?_
    refine At.ktext (.q 0 (.q 1 .done)) ?_
    refine AtT.kmove ?_
    refine AtT.kneI ?_
    refine AtT.done ?_
    refine At.nrm ?_
    refine At.condT rfl rfl ?_
    refine At.nrm ?_
    refine At.ktext (.q 0 (.q 1 (.q 2 (.n false 3 (.q 4 (.q 5 .done)))))) ?_
    refine AtT.kmove ?_
    refine AtT.keqI ?_
    refine AtT.kmove ?_
    all_goals (first | refine AtT.kL 115 ?_ | refine AtT.pcase (d := 115) rfl (fun hg115 => ?_) (fun hg115 => ?_) | refine AtT.bcase (d := 115) rfl (fun hg115 => ?_) (fun hg115 => ?_))
    all_goals (first | refine AtT.kpassN ?_ | refine AtT.kpassNU ?_ | ((refine AtT.kcallP rfl rfl ok19 (works_f _) ?_) ; (rintro _ rfl)))
    all_goals (refine AtT.kpick ?_)
    all_goals (refine AtT.kassign ?_)
    all_goals refine AtT.done ?_
    all_goals (refine At.nrm ?_)
    exact At.ret1 rfl (.tmp rfl) rfl
  · have hps := prov_sm hL hP
    have hpb := best_prov hL hP
    have hpc : (coreOf L (linedV L one two)).q ≤ (provV L P).q := Rat.le_trans hcb hpb
    refine At.ktext (.q 0 (.q 1 (.n false 2 (.q 3 (.q 4 (.q 5 (.n false 6 (.n true 7 (.q 8 .done))))))))) ?_
    first | refine AtT.kloadOA tk25 ?_ | refine AtT.kloadA tk25 ?_ | refine AtT.kloadOP tk25 ?_
    first | refine AtT.kloadOA tk45 ?_ | refine AtT.kloadA tk45 ?_ | refine AtT.kloadOP tk45 ?_
    refine AtT.kcallP rfl rfl ok31 (check_p L P _ _ hv') ?_
    rintro _ rfl; rw [hch]
    refine AtT.kmove ?_
    refine AtT.kextract ?_
    refine AtT.kextract ?_
    refine AtT.kalloc z31 ?_
    intro b21
    refine AtT.kstoreA tk31 ?_
    refine AtT.kassign ?_
    refine AtT.done ?_
    refine At.nrm ?_
    refine At.ktext (.q 0 (.q 1 (.q 2 (.q 3 (.q 4 (.q 5 (.q 6 (.q 7 (.q 8 (.q 9 (.q 10 (.q 11 (.q 12 (.q 13 (.q 14 (.q 15 (.q 16 (.q 17 (.q 18 (.q 19 (.q 20 (.q 21 (.q 22 (.q 23 (.q 24 (.q 25 (.q 26 (.q 27 (.q 28 (.q 29 (.q 30 (.q 31 (.q 32 (.q 33 (.q 34 (.n false 35 (.q 36 .done))))))))))))))))))))))))))))))))))))) ?_
    refine AtT.kmove ?_
    refine AtT.knot ?_
    refine AtT.kmove ?_
    all_goals (first | refine AtT.kL 76 ?_ | refine AtT.pcase (d := 76) rfl (fun hg76 => ?_) (fun hg76 => ?_) | refine AtT.bcase (d := 76) rfl (fun hg76 => ?_) (fun hg76 => ?_))
    all_goals (first | refine AtT.kpass ?_ | refine AtT.kpassU ?_ | ((refine AtT.kmove ?_)))
    all_goals (first | refine AtT.kpass ?_ | refine AtT.kpassU ?_ | ((refine AtT.kneI ?_)))
    all_goals (refine AtT.kpick ?_)
    all_goals (refine AtT.kmove ?_)
    all_goals (first | refine AtT.kL 80 ?_ | refine AtT.pcase (d := 80) rfl (fun hg80 => ?_) (fun hg80 => ?_) | refine AtT.bcase (d := 80) rfl (fun hg80 => ?_) (fun hg80 => ?_))
    all_goals (first | refine AtT.kpass ?_ | refine AtT.kpassU ?_ | ((first | refine AtT.kfieldO fo31_1 ?_ | with_reducible refine AtT.kfield2 fo31_1 ?_ | refine AtT.kfield fo31_1 ?_)))
    all_goals (first | refine AtT.kpass ?_ | refine AtT.kpassU ?_ | ((first | refine AtT.kloadO tk2 ?_ | refine AtT.kload tk2 ?_)))
    all_goals (first | refine AtT.kpass ?_ | refine AtT.kpassU ?_ | ((refine AtT.klss ?_)))
    all_goals (refine AtT.setF (d := 83) rfl (by omega) ?_)
    all_goals (refine AtT.kpick ?_)
    all_goals (refine AtT.kmove ?_)
    all_goals (first | refine AtT.kL 85 ?_ | refine AtT.pcase (d := 85) rfl (fun hg85 => ?_) (fun hg85 => ?_) | refine AtT.bcase (d := 85) rfl (fun hg85 => ?_) (fun hg85 => ?_))
    all_goals (first | refine AtT.kpass ?_ | refine AtT.kpassU ?_ | ((first | refine AtT.kfieldO fo31_1 ?_ | with_reducible refine AtT.kfield2 fo31_1 ?_ | refine AtT.kfield fo31_1 ?_)))
    all_goals (first | refine AtT.kpass ?_ | refine AtT.kpassU ?_ | ((first | refine AtT.kloadO tk2 ?_ | refine AtT.kload tk2 ?_)))
    all_goals (first | refine AtT.kpass ?_ | refine AtT.kpassU ?_ | ((refine AtT.kgtr ?_)))
    all_goals (refine AtT.setF (d := 88) rfl (by omega) ?_)
    all_goals (refine AtT.kpick ?_)
    all_goals (refine AtT.kmove ?_)
    all_goals (first | refine AtT.kL 90 ?_ | refine AtT.pcase (d := 90) rfl (fun hg90 => ?_) (fun hg90 => ?_) | refine AtT.bcase (d := 90) rfl (fun hg90 => ?_) (fun hg90 => ?_))
    all_goals (first | refine AtT.kpass ?_ | refine AtT.kpassU ?_ | ((first | refine AtT.kfieldO fo31_0 ?_ | with_reducible refine AtT.kfield2 fo31_0 ?_ | refine AtT.kfield fo31_0 ?_)))
    all_goals (first | refine AtT.kpass ?_ | refine AtT.kpassU ?_ | ((first | refine AtT.kloadO tk2 ?_ | refine AtT.kload tk2 ?_)))
    all_goals (first | refine AtT.kpass ?_ | refine AtT.kpassU ?_ | ((first | refine AtT.kfieldO fo31_1 ?_ | with_reducible refine AtT.kfield2 fo31_1 ?_ | refine AtT.kfield fo31_1 ?_)))
    all_goals (first | refine AtT.kpass ?_ | refine AtT.kpassU ?_ | ((first | refine AtT.kloadO tk2 ?_ | refine AtT.kload tk2 ?_)))
    all_goals (first | refine AtT.kpass ?_ | refine AtT.kpassU ?_ | ((first | refine AtT.kmul ?_ | refine AtT.kmulW ?_)))
    all_goals (first | refine AtT.kpass ?_ | refine AtT.kpassU ?_ | ((refine AtT.klss ?_)))
    all_goals (refine AtT.setF (d := 96) rfl (by omega) ?_)
    all_goals (refine AtT.kpick ?_)
    all_goals (refine AtT.kmove ?_)
    all_goals (first | refine AtT.kL 98 ?_ | refine AtT.pcase (d := 98) rfl (fun hg98 => ?_) (fun hg98 => ?_) | refine AtT.bcase (d := 98) rfl (fun hg98 => ?_) (fun hg98 => ?_))
    all_goals (first | refine AtT.kpass ?_ | refine AtT.kpassU ?_ | ((first | refine AtT.kfieldO fo31_0 ?_ | with_reducible refine AtT.kfield2 fo31_0 ?_ | refine AtT.kfield fo31_0 ?_)))
    all_goals (first | refine AtT.kpass ?_ | refine AtT.kpassU ?_ | ((first | refine AtT.kloadO tk2 ?_ | refine AtT.kload tk2 ?_)))
    all_goals (first | refine AtT.kpass ?_ | refine AtT.kpassU ?_ | ((first | refine AtT.kfieldO fo31_1 ?_ | with_reducible refine AtT.kfield2 fo31_1 ?_ | refine AtT.kfield fo31_1 ?_)))
    all_goals (first | refine AtT.kpass ?_ | refine AtT.kpassU ?_ | ((first | refine AtT.kloadO tk2 ?_ | refine AtT.kload tk2 ?_)))
    all_goals (first | refine AtT.kpass ?_ | refine AtT.kpassU ?_ | ((first | refine AtT.kmul ?_ | refine AtT.kmulW ?_)))
    all_goals (first | refine AtT.kpass ?_ | refine AtT.kpassU ?_ | ((refine AtT.kgtr ?_)))
    all_goals (refine AtT.setF (d := 104) rfl (by omega) ?_)
    all_goals (refine AtT.kpick ?_)
    all_goals (refine AtT.kmove ?_)
    all_goals (first | refine AtT.kL 106 ?_ | refine AtT.pcase (d := 106) rfl (fun hg106 => ?_) (fun hg106 => ?_) | refine AtT.bcase (d := 106) rfl (fun hg106 => ?_) (fun hg106 => ?_))
    all_goals (first | refine AtT.kpass ?_ | refine AtT.kpassU ?_ | ((first | refine AtT.kloadOA tk31 ?_ | refine AtT.kloadA tk31 ?_ | refine AtT.kloadOP tk31 ?_)))
    all_goals (first | refine AtT.kpass ?_ | refine AtT.kpassU ?_ | ((first | refine AtT.kloadOA tk31 ?_ | refine AtT.kloadA tk31 ?_ | refine AtT.kloadOP tk31 ?_)))
    all_goals (first | refine AtT.kpassN ?_ | refine AtT.kpassNU ?_ | ((refine AtT.kcallP rfl rfl ok45 (rless_f (bestV L) (coreOf L (linedV L one two)) _ (sm_fit hbs hls) (sm_fit hls hbs)) ?_) ; (rintro _ rfl)))
    all_goals (refine AtT.setB (d := 109) rfl (less_not hbs.can hls.can hcb) ?_)
    all_goals (refine AtT.kpick ?_)
    all_goals refine AtT.done ?_
    all_goals (refine At.nrm ?_)
    refine At.condF rfl rfl ?_
    refine At.nrm ?_
    refine At.ktext (.q 0 (.q 1 .done)) ?_
    refine AtT.kmove ?_
    refine AtT.kneI ?_
    refine AtT.done ?_
    refine At.nrm ?_
    refine At.condF rfl rfl ?_
    refine At.nrm ?_
    refine At.ktext (.q 0 (.n false 1 (.q 2 (.q 3 (.q 4 (.n false 5 (.q 6 (.q 7 (.q 8 (.q 9 (.q 10 (.n false 11 (.q 12 (.q 13 (.q 14 (.n false 15 (.q 16 (.q 17 .done)))))))))))))))))) ?_
    first | refine AtT.kloadOA tk31 ?_ | refine AtT.kloadA tk31 ?_ | refine AtT.kloadOP tk31 ?_
    refine AtT.kcallP rfl rfl ok46 (small_f (provV L P) hps _) ?_
    rintro _ rfl
    refine AtT.kmove ?_
    all_goals (first | refine AtT.kL 120 ?_ | refine AtT.pcase (d := 120) rfl (fun hg120 => ?_) (fun hg120 => ?_) | refine AtT.bcase (d := 120) rfl (fun hg120 => ?_) (fun hg120 => ?_))
    all_goals (first | refine AtT.kpass ?_ | refine AtT.kpassU ?_ | ((first | refine AtT.kloadOA tk31 ?_ | refine AtT.kloadA tk31 ?_ | refine AtT.kloadOP tk31 ?_)))
    all_goals (first | refine AtT.kpass ?_ | refine AtT.kpassU ?_ | ((first | refine AtT.kloadOA tk31 ?_ | refine AtT.kloadA tk31 ?_ | refine AtT.kloadOP tk31 ?_)))
    all_goals (first | refine AtT.kpassN ?_ | refine AtT.kpassNU ?_ | ((refine AtT.kcallP rfl rfl ok45 (rless_f (provV L P) (bestV L) _ (sm_fit hps hbs) (sm_fit hbs hps)) ?_) ; (rintro _ rfl)))
    all_goals (refine AtT.setB (d := 123) rfl (less_not hps.can hbs.can hpb) ?_)
    all_goals (first | refine AtT.kpass ?_ | refine AtT.kpassU ?_ | ((refine AtT.knot ?_)))
    all_goals (refine AtT.kpick ?_)
    all_goals (refine AtT.kmove ?_)
    all_goals (first | refine AtT.kL 126 ?_ | refine AtT.pcase (d := 126) rfl (fun hg126 => ?_) (fun hg126 => ?_) | refine AtT.bcase (d := 126) rfl (fun hg126 => ?_) (fun hg126 => ?_))
    all_goals (first | refine AtT.kpass ?_ | refine AtT.kpassU ?_ | ((first | refine AtT.kloadOA tk31 ?_ | refine AtT.kloadA tk31 ?_ | refine AtT.kloadOP tk31 ?_)))
    all_goals (first | refine AtT.kpass ?_ | refine AtT.kpassU ?_ | ((first | refine AtT.kloadOA tk31 ?_ | refine AtT.kloadA tk31 ?_ | refine AtT.kloadOP tk31 ?_)))
    all_goals (first | refine AtT.kpassN ?_ | refine AtT.kpassNU ?_ | ((refine AtT.kcallP rfl rfl ok45 (rless_f (provV L P) (coreOf L (linedV L one two)) _ (sm_fit hps hls) (sm_fit hls hps)) ?_) ; (rintro _ rfl)))
    all_goals (refine AtT.setB (d := 129) rfl (less_not hps.can hls.can hpc) ?_)
    all_goals (first | refine AtT.kpass ?_ | refine AtT.kpassU ?_ | ((refine AtT.knot ?_)))
    all_goals (refine AtT.kpick ?_)
    all_goals (refine AtT.kmove ?_)
    all_goals (first | refine AtT.kL 132 ?_ | refine AtT.pcase (d := 132) rfl (fun hg132 => ?_) (fun hg132 => ?_) | refine AtT.bcase (d := 132) rfl (fun hg132 => ?_) (fun hg132 => ?_))
    all_goals (first | refine AtT.kpassN ?_ | refine AtT.kpassNU ?_ | ((refine AtT.kcallP rfl rfl ok19 (works_f _) ?_) ; (rintro _ rfl)))
    all_goals (refine AtT.kpick ?_)
    all_goals (refine AtT.kassign ?_)
    all_goals refine AtT.done ?_
    all_goals (refine At.nrm ?_)
    exact At.ret1 rfl (.tmp rfl) rfl
end Go.Proofs.Ytnionkopmncopaa
set_option linter.unusedVariables false
namespace Go.Proofs.Ytnionkopmncopaa
open Go.Pl

theorem hgh_cases {L : Lg} (he : logE L = 0) {core x : Int} (hcb : -2000 ≤ core ∧ core ≤ 2000) (hxb : 0 ≤ x ∧ x ≤ 100) :
    (¬ (core : Rat) ≤ (bestV L).q ∧ hghR L core x = (⟨0, 0⟩, ⟨0, 0⟩, 17)) ∨ ((core : Rat) ≤ (bestV L).q ∧ hghR L core x = ((defH L core x).1, (defH L core x).2, 0)) := by
  have hL := logE_ok he
  rw [heights_eq]
  unfold defR
  rw [if_neg (by simp [he]), if_neg (by omega)]
  by_cases hv : (core : Rat) ≤ (bestV L).q
  · rw [if_neg (fun h => (less_core hL core).1 h hv)]; exact .inr ⟨hv, rfl⟩
  · rw [if_pos ((less_core hL core).2 hv)]; exact .inl ⟨hv, rfl⟩

theorem allH_ft {L : Lg} (hL : LgOk L) {core x : Int} (hcb : -2000 ≤ core ∧ core ≤ 2000) (hxb : 0 ≤ x ∧ x ≤ 100) {r : Rt} (hr : r ∈ allH L core x) : Ft r := by
  have hc := (allH_line hL hr).1
  obtain ⟨i, k, s, t, hik, hk, _, _, ht, rfl⟩ := allH_mem.1 hr
  have pi := hL.plB (i := (i : Int)) (by omega) (by omega)
  have pk := hL.plB (i := (k : Int)) (by omega) (by omega)
  have hlt := hL.plL (i := (i : Int)) (j := (k : Int)) (by omega) (by omega) (by omega)
  have gb : ∀ (j s : Nat), j < L.pl.length → -3000 ≤ gEnd L core j s ∧ gEnd L core j s ≤ 3000 := fun j s hj => by
    have e := hL.edB (i := (j : Int)) (by omega) (by omega)
    unfold gEnd
    rw [gate_lo hL core hj]
    simp only [gateE]
    split <;> omega
  have b1 := gb i s (by omega)
  have b2 := gb k t hk
  have m1 := mul_bd (a := gEnd L core i s) (b := plP L k - x) (A := 3000) (B := 100) (by decide) (by decide) (by omega) (by omega) (by omega) (by omega)
  have m2 := mul_bd (a := gEnd L core k t) (b := x - plP L i) (A := 3000) (B := 100) (by decide) (by decide) (by omega) (by omega) (by omega) (by omega)
  have hw : 0 < plP L k - plP L i := by omega
  have hwq := cpos hw
  have hwn := cne hw
  have hw1 : (1 : Rat) ≤ ((plP L k - plP L i : Int) : Rat) := by
    have : ((1 : Int) : Rat) ≤ ((plP L k - plP L i : Int) : Rat) := cle (by omega)
    exact this
  have hq := rat_q (n := hgt L i k (gEnd L core i s) (gEnd L core k t) x) hw
  have hh : -600000 ≤ hgt L i k (gEnd L core i s) (gEnd L core k t) x ∧ hgt L i k (gEnd L core i s) (gEnd L core k t) x ≤ 600000 := by unfold hgt; omega
  have k1 : ((-600000 : Int) : Rat) ≤ ((hgt L i k (gEnd L core i s) (gEnd L core k t) x : Int) : Rat) := cle hh.1
  have k2 : ((hgt L i k (gEnd L core i s) (gEnd L core k t) x : Int) : Rat) ≤ ((600000 : Int) : Rat) := cle hh.2
  have k1' : (-600000 : Rat) ≤ ((hgt L i k (gEnd L core i s) (gEnd L core k t) x : Int) : Rat) := k1
  have k2' : ((hgt L i k (gEnd L core i s) (gEnd L core k t) x : Int) : Rat) ≤ 600000 := k2
  have hdr := rat_bd (hgt L i k (gEnd L core i s) (gEnd L core k t) x) (plP L k - plP L i) hw
  have hb := num_of hc (A := 600000) (by
    rw [hq]
    show (-600000 : Rat) ≤ _
    refine rle_of (c := ((plP L k - plP L i : Int) : Rat)) ?_ hwq
    have e : ((hgt L i k (gEnd L core i s) (gEnd L core k t) x : Int) : Rat) / ((plP L k - plP L i : Int) : Rat) * ((plP L k - plP L i : Int) : Rat) = ((hgt L i k (gEnd L core i s) (gEnd L core k t) x : Int) : Rat) := by grind
    rw [e]
    grind) (by
    rw [hq]
    show _ ≤ (600000 : Rat)
    refine rle_of (c := ((plP L k - plP L i : Int) : Rat)) ?_ hwq
    have e : ((hgt L i k (gEnd L core i s) (gEnd L core k t) x : Int) : Rat) / ((plP L k - plP L i : Int) : Rat) * ((plP L k - plP L i : Int) : Rat) = ((hgt L i k (gEnd L core i s) (gEnd L core k t) x : Int) : Rat) := by grind
    rw [e]
    grind)
  have := hc.pos
  exact ⟨hc, by omega, by omega, by omega⟩

/-- All that the heights of a core are known for. -/
structure HgSpec (L : Lg) (core x : Int) : Prop where
  f1 : Ft (defH L core x).1
  f2 : Ft (defH L core x).2
  a1 : ∃ h s : Rat, Keeps L core h s ∧ (defH L core x).1.q = h + s * x
  a2 : ∃ h s : Rat, Keeps L core h s ∧ (defH L core x).2.q = h + s * x
  m1 : ∀ h s : Rat, Keeps L core h s → (defH L core x).1.q ≤ h + s * x
  m2 : ∀ h s : Rat, Keeps L core h s → h + s * x ≤ (defH L core x).2.q
theorem hg_spec {L : Lg} (hL : LgOk L) {core x : Int} (hcb : -2000 ≤ core ∧ core ≤ 2000) (hxb : 0 ≤ x ∧ x ≤ 100) (hv : (core : Rat) ≤ (bestV L).q) : HgSpec L core x := by
  obtain ⟨⟨c1, ⟨r1, hr1, e1⟩, m1⟩, c2, ⟨r2, hr2, e2⟩, m2⟩ := defH_spec hL hcb hxb hv
  obtain ⟨d1, h1, s1, k1, q1⟩ := allH_line hL hr1
  obtain ⟨d2, h2, s2, k2, q2⟩ := allH_line hL hr2
  refine ⟨?_, ?_, ⟨h1, s1, k1, by rw [← e1, q1]⟩, ⟨h2, s2, k2, by rw [← e2, q2]⟩, m1, m2⟩
  · have : r1 = (defH L core x).1 := can_ext d1 c1 e1
    rw [← this]; exact allH_ft hL hcb hxb hr1
  · have : r2 = (defH L core x).2 := can_ext d2 c2 e2
    rw [← this]; exact allH_ft hL hcb hxb hr2
theorem HgSpec.le {L : Lg} {core x : Int} (h : HgSpec L core x) : (defH L core x).1.q ≤ (defH L core x).2.q := by
  obtain ⟨a, s, k, e⟩ := h.a1
  rw [e]; exact h.m2 _ _ k
theorem HgSpec.more {L : Lg} {core core2 x : Int} (h : HgSpec L core x) (g : HgSpec L core2 x) (hc : core ≤ core2) : (defH L core x).1.q ≤ (defH L core2 x).1.q ∧ (defH L core2 x).2.q ≤ (defH L core x).2.q := by
  obtain ⟨a1, s1, k1, e1⟩ := g.a1
  obtain ⟨a2, s2, k2, e2⟩ := g.a2
  rw [e1, e2]
  exact ⟨h.m1 _ _ (keeps_le k1 (cle hc)), h.m2 _ _ (keeps_le k2 (cle hc))⟩
/-- A whole core is at most a fraction. -/
theorem core_le {r : Rt} (hr : Go.Pl.Can r) (core : Int) : core * r.den ≤ r.num ↔ (core : Rat) ≤ r.q := by
  have hp := cpos hr.pos
  have hn := cne hr.pos
  have e : r.q * r.den = r.num := by unfold Rt.q; grind
  constructor
  · intro h
    refine rle_of (c := (r.den : Rat)) ?_ hp
    rw [e]
    have := cle h
    push_cast at this
    exact this
  · intro h
    have := rmul_le h (c := (r.den : Rat)) (by grind)
    rw [e] at this
    exact_mod_cast this
end Go.Proofs.Ytnionkopmncopaa
set_option linter.unusedVariables false
namespace Go.Lw
open Go.RowKit
section
variable {cx : Cx} {n : Nat} {ks : List (Nat × Value)} {O : List Own} {V : View} {P : Program} {ops : Array Oper} {Qn : Act → World → Prop} {t : Tr} {i d : Nat} {T X Y : TypeId} {pos : String} {after : Array Edge} {gd : Option (Nat × Bool)} {x y : Operand}
theorem AtT.neB {a b : Bool} (ho : ops[i]? = some ⟨some d, .binOp .neq X x y Y, T, pos, after, gd⟩) (hg : Gd ks ops gd) (hT : P.underlying X = some .bool) (hx : ev ks x = some (.bool a)) (hy : ev ks y = some (.bool b)) (hn : d < n)
    (next : AtT cx n ((d, .bool (!(a == b))) :: ks) O V P ops Qn t) : AtT cx n ks O V P ops Qn (.q i t) :=
  .q ho hg rfl hn (fun a w hk _ => by simp [execOp, hk.ev hx, hk.ev hy, eqGuard_at_bool, run_neq_bool _ _ _ _ hT]) next
theorem AtT.kLT (d : Nat) (h : AtT cx n ((d, .bool true) :: ks) O V P ops Qn t) (hd : look ks d = some (.bool true) := by rfl) : AtT cx n ks O V P ops Qn t := AtT.setB hd rfl h
theorem AtT.kLF (d : Nat) (h : AtT cx n ((d, .bool false) :: ks) O V P ops Qn t) (hd : look ks d = some (.bool false) := by rfl) : AtT cx n ks O V P ops Qn t := AtT.setB hd rfl h
theorem AtC.kLT {O1 : List Own} {V1 : View} (d : Nat) (h : AtC cx n ((d, .bool true) :: ks) O V O1 V1 P ops Qn t) (hd : look ks d = some (.bool true) := by rfl) : AtC cx n ks O V O1 V1 P ops Qn t := AtC.setB hd rfl h
theorem AtC.kLF {O1 : List Own} {V1 : View} (d : Nat) (h : AtC cx n ((d, .bool false) :: ks) O V O1 V1 P ops Qn t) (hd : look ks d = some (.bool false) := by rfl) : AtC cx n ks O V O1 V1 P ops Qn t := AtC.setB hd rfl h
theorem AtT.kpickT {c : Operand} {u v : Value} (next : AtT cx n ((d, u) :: ks) O V P ops Qn t) (ho : ops[i]? = some ⟨some d, .pick c x y, T, pos, after, gd⟩ := by rfl) (hg : Gd ks ops gd := by first | exact trivial | exact ⟨_, _, rfl, rfl, rfl⟩) (hc : ev ks c = some (.bool true) := by rfl) (hx : ev ks x = some u := by rfl) (hy : ev ks y = some v := by rfl) (hn : d < n := by decide) : AtT cx n ks O V P ops Qn (.q i t) := AtT.pick ho hg hc hx hy hn next
theorem AtT.kpickF {c : Operand} {u v : Value} (next : AtT cx n ((d, v) :: ks) O V P ops Qn t) (ho : ops[i]? = some ⟨some d, .pick c x y, T, pos, after, gd⟩ := by rfl) (hg : Gd ks ops gd := by first | exact trivial | exact ⟨_, _, rfl, rfl, rfl⟩) (hc : ev ks c = some (.bool false) := by rfl) (hx : ev ks x = some u := by rfl) (hy : ev ks y = some v := by rfl) (hn : d < n := by decide) : AtT cx n ks O V P ops Qn (.q i t) := AtT.pick ho hg hc hx hy hn next
/-- From an operation on that waits for all that was looked at ahead of it. -/
theorem AtC.toT {O1 : List Own} {V1 : View} (h : AtT cx n ks O V P ops Qn (.n true i t)) : AtC cx n ks O V O1 V1 P ops Qn (.n true i t) := fun h0 a w hk hm => by
  obtain ⟨o, ho, hs⟩ := h a w hk hm
  exact ⟨o, ho, stW_mono (fun a' w' ⟨S', _, h2, h3⟩ => ⟨S', (fun h => by cases h), h2, h3⟩) hs⟩
theorem AtT.max3 {z : Operand} {X Y Z : TypeId} {k : IntKind} {p q r : Int} (ho : ops[i]? = some ⟨some d, .call ⟨.builtin .max, #[x, y, z], #[X, Y, Z]⟩, T, pos, after, gd⟩) (hg : Gd ks ops gd) (hx : ev ks x = some (.int k p)) (hy : ev ks y = some (.int k q)) (hz : ev ks z = some (.int k r)) (hn : d < n)
    (next : AtT cx n ((d, .int k (max (max p q) r)) :: ks) O V P ops Qn t) : AtT cx n ks O V P ops Qn (.q i t) :=
  .q ho hg rfl hn (fun a w hk _ => by
    have e : (if q > p then q else p) = max p q := by split <;> omega
    have e2 : (if r > max p q then r else max p q) = max (max p q) r := by split <;> omega
    simp [execOp, resolve, invoke, builtin, hk.ev hx, hk.ev hy, hk.ev hz, Builtin.max_, Builtin.max2, e, e2]) next
end
end Go.Lw
set_option linter.unusedVariables false
namespace Go.Proofs.Ytnionkopmncopaa
open Go.Lw Go.Pl Go.RowKit

theorem peelNone_f (L : Lg) (number more x : Int) (V : View) (v : Value) (hv : LogV V v L) (h1 : -32768 ≤ number ∧ number ≤ 32767) (h2 : 0 ≤ more ∧ more ≤ 255) (h3 : 0 ≤ x ∧ x ≤ 255) :
    Fnc Try.prog 10 [v, .int .i16 number, .int .u8 more, .int .u8 x] V fun r _ => r = .bool true := by
  have hv' := hv
  obtain ⟨a, c, a', c', rfl, g2, g3⟩ := hv
  refine fn_of Try.func10 rfl Try.ntmps10 (Nat.le_of_ble_eq_true rfl) ?_
  intro w0 hw0
  refine At.nrm ?_
  refine At.ktext (.n false 0 (.q 1 .done)) ?_
  refine AtT.kbox ?_
  intro b4
  refine AtT.kassign ?_
  refine AtT.done ?_
  refine At.nrm ?_
  refine At.ktext (.q 0 (.n false 1 (.q 2 .done))) ?_
  first | refine AtT.kloadOA tk25 ?_ | refine AtT.kloadA tk25 ?_ | refine AtT.kloadOP tk25 ?_
  refine AtT.kcallP rfl rfl ok41 (fine_f L _ _ hv') ?_
  rintro _ rfl
  refine AtT.knot ?_
  refine AtT.done ?_
  refine At.nrm ?_
  by_cases he : logE L = 0
  rotate_left
  · refine At.condT rfl (by rw [decide_eq_false he]; rfl) ?_
    refine At.nrm ?_
    refine At.ktext (.n false 0 (.q 1 .done)) ?_
    refine AtT.kcallP rfl rfl ok19 (works_f _) ?_
    rintro _ rfl
    refine AtT.kassign ?_
    refine AtT.done ?_
    refine At.nrm ?_
    exact At.ret1 rfl (.tmp rfl) rfl
  refine At.condF rfl (by rw [decide_eq_true he]; rfl) ?_
  have hL := logE_ok he
  have hbs := best_sm hL
  have hbp := hbs.can.pos
  have hbd := hbs.d
  have ht := tm_bd number
  have hx0 : 0 ≤ x.tmod 101 ∧ x.tmod 101 ≤ 100 := by
    have := Int.tmod_nonneg (a := x) 101 h3.1
    have := tmod_lt x (m := 101) (by decide)
    omega
  have hmb := mul_bd (a := tm number) (b := (bestV L).den) (A := 2000) (B := 200) (by decide) (by decide) (by omega) (by omega) (by omega) (by omega)
  obtain ⟨c2, hc2⟩ : ∃ c2, c2 = min 2000 (tm number + more) := ⟨_, rfl⟩
  have hcb : -2000 ≤ tm number ∧ tm number ≤ 2000 := ⟨by omega, by omega⟩
  have hcb2 : -2000 ≤ c2 ∧ c2 ≤ 2000 := ⟨by omega, by omega⟩
  have hcc : tm number ≤ c2 := by omega
  obtain ⟨xx, hxx⟩ : ∃ xx, xx = x.tmod 101 := ⟨_, rfl⟩
  rw [← hxx] at hx0
  refine At.nrm ?_
  refine At.ktext (.q 0 (.q 1 (.q 2 (.q 3 (.q 4 (.q 5 (.q 6 (.q 7 .done)))))))) ?_
  refine AtT.kmove ?_
  refine AtT.kconv un57 Try.underlying2 ?_
  rw [wrap_fit (Fit.of (by omega) (by omega))]
  refine AtT.krem ?_
  refine AtT.kmove ?_
  refine AtT.kconv un5 Try.underlying2 ?_
  rw [wrap_fit (Fit.of (by omega) (by omega))]
  refine AtT.krem ?_
  refine AtT.kassign ?_
  refine AtT.kassign ?_
  refine AtT.done ?_
  refine At.nrm ?_
  refine At.re (d := 9) rfl (show iv (number.tmod 2001) = iv (tm number) from rfl) ?_
  refine At.re (d := 10) rfl (show iv (x.tmod 101) = iv xx from by rw [hxx]) ?_
  refine At.ktext (.q 0 (.n false 1 (.q 2 (.q 3 (.q 4 (.n false 5 (.n true 6 (.q 7 .done)))))))) ?_
  first | refine AtT.kloadOA tk25 ?_ | refine AtT.kloadA tk25 ?_ | refine AtT.kloadOP tk25 ?_
  refine AtT.kcallP rfl rfl ok42 (best42_f L _ _ hv' he) ?_
  rintro _ rfl
  refine AtT.kmove ?_
  refine AtT.kextract ?_
  refine AtT.kextract ?_
  refine AtT.kalloc z31 ?_
  intro b11
  refine AtT.kstoreA tk31 ?_
  refine AtT.kassign ?_
  refine AtT.done ?_
  refine At.nrm ?_
  rcases hgh_cases he hcb hx0 with ⟨hv1, hg⟩ | ⟨hv1, hg⟩
  · have hv2 : ¬ (c2 : Rat) ≤ (bestV L).q := fun h => hv1 (Rat.le_trans (cle hcc) h)
    have hg2 : hghR L c2 xx = (⟨0, 0⟩, ⟨0, 0⟩, 17) := by
      rcases hgh_cases he hcb2 hx0 with ⟨_, h⟩ | ⟨h, _⟩
      · exact h
      · exact absurd h hv2
    have hnv : ¬ tm number * (bestV L).den ≤ (bestV L).num := fun h => hv1 ((core_le hbs.can _).1 h)
    refine At.ktext (.q 0 (.q 1 (.q 2 (.n false 3 (.q 4 (.q 5 (.q 6 (.q 7 (.n false 8 (.n false 9 (.n true 10 (.n true 11 (.q 12 .done))))))))))))) ?_
    first | refine AtT.kloadOA tk25 ?_ | refine AtT.kloadA tk25 ?_ | refine AtT.kloadOP tk25 ?_
    refine AtT.kmove ?_
    refine AtT.kmove ?_
    refine AtT.kcallP rfl rfl ok34 (heights_p L (tm number) xx _ _ hv') ?_
    rintro _ rfl; rw [hg]
    refine AtT.kmove ?_
    refine AtT.kextract ?_
    refine AtT.kextract ?_
    refine AtT.kextract ?_
    refine AtT.kalloc z31 ?_
    intro b13
    refine AtT.kalloc z31 ?_
    intro b14
    refine AtT.kstoreA tk31 ?_
    refine AtT.kstoreA tk31 ?_
    refine AtT.kassign ?_
    refine AtT.done ?_
    refine At.nrm ?_
    refine At.ktext (.q 0 (.q 1 (.q 2 (.q 3 (.q 4 (.q 5 (.q 6 (.n false 7 (.q 8 (.q 9 (.q 10 (.q 11 (.n false 12 (.n false 13 (.n true 14 (.n true 15 (.q 16 .done))))))))))))))))) ?_
    first | refine AtT.kloadOA tk25 ?_ | refine AtT.kloadA tk25 ?_ | refine AtT.kloadOP tk25 ?_
    refine AtT.kmove ?_
    refine AtT.kmove ?_
    refine AtT.kconv un5 Try.underlying2 ?_
    rw [wrap_fit (Fit.of (by omega) (by omega))]
    first | refine AtT.kadd ?_ | refine AtT.kaddW ?_
    refine AtT.kmin2 ?_
    refine AtT.re (d := 48) rfl (show iv (min 2000 (tm number + more)) = iv c2 from by rw [hc2]) ?_
    refine AtT.kmove ?_
    refine AtT.kcallP rfl rfl ok34 (heights_p L c2 xx _ _ hv') ?_
    rintro _ rfl; rw [hg2]
    refine AtT.kmove ?_
    refine AtT.kextract ?_
    refine AtT.kextract ?_
    refine AtT.kextract ?_
    refine AtT.kalloc z31 ?_
    intro b16
    refine AtT.kalloc z31 ?_
    intro b17
    refine AtT.kstoreA tk31 ?_
    refine AtT.kstoreA tk31 ?_
    refine AtT.kassign ?_
    refine AtT.done ?_
    refine At.nrm ?_
    refine At.ktext (.q 0 (.q 1 (.q 2 (.q 3 (.q 4 (.q 5 (.q 6 (.q 7 (.q 8 (.q 9 (.q 10 (.q 11 (.q 12 (.q 13 (.q 14 (.q 15 (.q 16 (.q 17 (.q 18 (.q 19 (.q 20 (.q 21 (.q 22 (.q 23 (.q 24 (.q 25 (.q 26 (.q 27 (.q 28 (.q 29 .done)))))))))))))))))))))))))))))) ?_
    refine AtT.kmove ?_
    refine AtT.knot ?_
    refine AtT.kmove ?_
    all_goals (first | refine AtT.kL 56 ?_ | refine AtT.pcase (d := 56) rfl (fun hg56 => ?_) (fun hg56 => ?_) | refine AtT.bcase (d := 56) rfl (fun hg56 => ?_) (fun hg56 => ?_))
    all_goals (first | refine AtT.kpass ?_ | refine AtT.kpassU ?_ | ((refine AtT.kmove ?_)))
    all_goals (first | refine AtT.kpass ?_ | refine AtT.kpassU ?_ | ((refine AtT.kneI ?_)))
    all_goals (first | refine AtT.kpass ?_ | refine AtT.kpassU ?_ | ((refine AtT.kmove ?_)))
    all_goals (first | refine AtT.kL 59 ?_ | refine AtT.pcase (d := 59) rfl (fun hg59 => ?_) (fun hg59 => ?_) | refine AtT.bcase (d := 59) rfl (fun hg59 => ?_) (fun hg59 => ?_))
    all_goals (first | refine AtT.kpass ?_ | refine AtT.kpassU ?_ | ((refine AtT.kmove ?_)))
    all_goals (first | refine AtT.kpass ?_ | refine AtT.kpassU ?_ | ((refine AtT.kneI ?_)))
    all_goals (first | refine AtT.kpass ?_ | refine AtT.kpassU ?_ | ((refine AtT.kpick ?_)))
    all_goals (refine AtT.kpick ?_)
    all_goals (refine AtT.kmove ?_)
    all_goals (first | refine AtT.kL 64 ?_ | refine AtT.pcase (d := 64) rfl (fun hg64 => ?_) (fun hg64 => ?_) | refine AtT.bcase (d := 64) rfl (fun hg64 => ?_) (fun hg64 => ?_))
    all_goals (first | refine AtT.kpass ?_ | refine AtT.kpassU ?_ | ((refine AtT.kmove ?_)))
    all_goals (first | refine AtT.kpass ?_ | refine AtT.kpassU ?_ | ((refine AtT.keqI ?_)))
    all_goals (first | refine AtT.kpass ?_ | refine AtT.kpassU ?_ | ((refine AtT.kmove ?_)))
    all_goals (first | refine AtT.kpass ?_ | refine AtT.kpassU ?_ | ((first | refine AtT.kfieldO fo31_1 ?_ | with_reducible refine AtT.kfield2 fo31_1 ?_ | refine AtT.kfield fo31_1 ?_)))
    all_goals (first | refine AtT.kpass ?_ | refine AtT.kpassU ?_ | ((first | refine AtT.kloadO tk2 ?_ | refine AtT.kload tk2 ?_)))
    all_goals (first | refine AtT.kpass ?_ | refine AtT.kpassU ?_ | ((first | refine AtT.kmul ?_ | refine AtT.kmulW ?_)))
    all_goals (first | refine AtT.kpass ?_ | refine AtT.kpassU ?_ | ((first | refine AtT.kfieldO fo31_0 ?_ | with_reducible refine AtT.kfield2 fo31_0 ?_ | refine AtT.kfield fo31_0 ?_)))
    all_goals (first | refine AtT.kpass ?_ | refine AtT.kpassU ?_ | ((first | refine AtT.kloadO tk2 ?_ | refine AtT.kload tk2 ?_)))
    all_goals (first | refine AtT.kpass ?_ | refine AtT.kpassU ?_ | ((refine AtT.kleq ?_)))
    all_goals (refine AtT.setF (d := 73) rfl (hnv) ?_)
    all_goals (first | refine AtT.kpass ?_ | refine AtT.kpassU ?_ | ((refine AtT.neB rfl ⟨_, _, rfl, rfl, rfl⟩ Try.underlying4 rfl rfl (by decide) ?_)))
    all_goals (refine AtT.kpick ?_)
    all_goals (refine AtT.kmove ?_)
    all_goals (first | refine AtT.kL 76 ?_ | refine AtT.pcase (d := 76) rfl (fun hg76 => ?_) (fun hg76 => ?_) | refine AtT.bcase (d := 76) rfl (fun hg76 => ?_) (fun hg76 => ?_))
    all_goals (first | refine AtT.kpass ?_ | refine AtT.kpassU ?_ | ((refine AtT.kmove ?_)))
    all_goals (first | refine AtT.kpass ?_ | refine AtT.kpassU ?_ | ((refine AtT.kneI ?_)))
    all_goals (first | refine AtT.kpass ?_ | refine AtT.kpassU ?_ | ((refine AtT.kmove ?_)))
    all_goals (first | refine AtT.kL 79 ?_ | refine AtT.pcase (d := 79) rfl (fun hg79 => ?_) (fun hg79 => ?_) | refine AtT.bcase (d := 79) rfl (fun hg79 => ?_) (fun hg79 => ?_))
    all_goals (first | refine AtT.kpass ?_ | refine AtT.kpassU ?_ | ((refine AtT.kmove ?_)))
    all_goals (first | refine AtT.kpass ?_ | refine AtT.kpassU ?_ | ((refine AtT.kneI ?_)))
    all_goals (first | refine AtT.kpass ?_ | refine AtT.kpassU ?_ | ((refine AtT.kpick ?_)))
    all_goals (refine AtT.kpick ?_)
    all_goals refine AtT.done ?_
    all_goals (refine At.nrm ?_)
    refine At.condF rfl rfl ?_
    refine At.nrm ?_
    refine At.ktext (.q 0 (.q 1 .done)) ?_
    refine AtT.kmove ?_
    refine AtT.kneI ?_
    refine AtT.done ?_
    refine At.nrm ?_
    refine At.condT rfl rfl ?_
    refine At.nrm ?_
    refine At.ktext (.q 0 (.q 1 (.q 2 (.n false 3 (.q 4 (.q 5 .done)))))) ?_
    refine AtT.kmove ?_
    refine AtT.keqI ?_
    refine AtT.kmove ?_
    all_goals (first | refine AtT.kL 88 ?_ | refine AtT.pcase (d := 88) rfl (fun hg88 => ?_) (fun hg88 => ?_) | refine AtT.bcase (d := 88) rfl (fun hg88 => ?_) (fun hg88 => ?_))
    all_goals (first | refine AtT.kpassN ?_ | refine AtT.kpassNU ?_ | ((refine AtT.kcallP rfl rfl ok19 (works_f _) ?_) ; (rintro _ rfl)))
    all_goals (refine AtT.kpick ?_)
    all_goals (refine AtT.kassign ?_)
    all_goals refine AtT.done ?_
    all_goals (refine At.nrm ?_)
    exact At.ret1 rfl (.tmp rfl) rfl
  · have hs := hg_spec hL hcb hx0 hv1
    have hyv : tm number * (bestV L).den ≤ (bestV L).num := (core_le hbs.can _).2 hv1
    rcases hgh_cases he hcb2 hx0 with ⟨hv2, hg2⟩ | ⟨hv2, hg2⟩
    · refine At.ktext (.q 0 (.q 1 (.q 2 (.n false 3 (.q 4 (.q 5 (.q 6 (.q 7 (.n false 8 (.n false 9 (.n true 10 (.n true 11 (.q 12 .done))))))))))))) ?_
      first | refine AtT.kloadOA tk25 ?_ | refine AtT.kloadA tk25 ?_ | refine AtT.kloadOP tk25 ?_
      refine AtT.kmove ?_
      refine AtT.kmove ?_
      refine AtT.kcallP rfl rfl ok34 (heights_p L (tm number) xx _ _ hv') ?_
      rintro _ rfl; rw [hg]
      refine AtT.kmove ?_
      refine AtT.kextract ?_
      refine AtT.kextract ?_
      refine AtT.kextract ?_
      refine AtT.kalloc z31 ?_
      intro b13
      refine AtT.kalloc z31 ?_
      intro b14
      refine AtT.kstoreA tk31 ?_
      refine AtT.kstoreA tk31 ?_
      refine AtT.kassign ?_
      refine AtT.done ?_
      refine At.nrm ?_
      refine At.ktext (.q 0 (.q 1 (.q 2 (.q 3 (.q 4 (.q 5 (.q 6 (.n false 7 (.q 8 (.q 9 (.q 10 (.q 11 (.n false 12 (.n false 13 (.n true 14 (.n true 15 (.q 16 .done))))))))))))))))) ?_
      first | refine AtT.kloadOA tk25 ?_ | refine AtT.kloadA tk25 ?_ | refine AtT.kloadOP tk25 ?_
      refine AtT.kmove ?_
      refine AtT.kmove ?_
      refine AtT.kconv un5 Try.underlying2 ?_
      rw [wrap_fit (Fit.of (by omega) (by omega))]
      first | refine AtT.kadd ?_ | refine AtT.kaddW ?_
      refine AtT.kmin2 ?_
      refine AtT.re (d := 48) rfl (show iv (min 2000 (tm number + more)) = iv c2 from by rw [hc2]) ?_
      refine AtT.kmove ?_
      refine AtT.kcallP rfl rfl ok34 (heights_p L c2 xx _ _ hv') ?_
      rintro _ rfl; rw [hg2]
      refine AtT.kmove ?_
      refine AtT.kextract ?_
      refine AtT.kextract ?_
      refine AtT.kextract ?_
      refine AtT.kalloc z31 ?_
      intro b16
      refine AtT.kalloc z31 ?_
      intro b17
      refine AtT.kstoreA tk31 ?_
      refine AtT.kstoreA tk31 ?_
      refine AtT.kassign ?_
      refine AtT.done ?_
      refine At.nrm ?_
      refine At.ktext (.q 0 (.q 1 (.q 2 (.q 3 (.q 4 (.q 5 (.q 6 (.q 7 (.q 8 (.q 9 (.q 10 (.q 11 (.q 12 (.q 13 (.q 14 (.q 15 (.q 16 (.q 17 (.q 18 (.q 19 (.q 20 (.q 21 (.q 22 (.q 23 (.q 24 (.q 25 (.q 26 (.q 27 (.q 28 (.q 29 .done)))))))))))))))))))))))))))))) ?_
      refine AtT.kmove ?_
      refine AtT.knot ?_
      refine AtT.kmove ?_
      all_goals (first | refine AtT.kL 56 ?_ | refine AtT.pcase (d := 56) rfl (fun hg56 => ?_) (fun hg56 => ?_) | refine AtT.bcase (d := 56) rfl (fun hg56 => ?_) (fun hg56 => ?_))
      all_goals (first | refine AtT.kpass ?_ | refine AtT.kpassU ?_ | ((refine AtT.kmove ?_)))
      all_goals (first | refine AtT.kpass ?_ | refine AtT.kpassU ?_ | ((refine AtT.kneI ?_)))
      all_goals (first | refine AtT.kpass ?_ | refine AtT.kpassU ?_ | ((refine AtT.kmove ?_)))
      all_goals (first | refine AtT.kL 59 ?_ | refine AtT.pcase (d := 59) rfl (fun hg59 => ?_) (fun hg59 => ?_) | refine AtT.bcase (d := 59) rfl (fun hg59 => ?_) (fun hg59 => ?_))
      all_goals (first | refine AtT.kpass ?_ | refine AtT.kpassU ?_ | ((refine AtT.kmove ?_)))
      all_goals (first | refine AtT.kpass ?_ | refine AtT.kpassU ?_ | ((refine AtT.kneI ?_)))
      all_goals (first | refine AtT.kpass ?_ | refine AtT.kpassU ?_ | ((refine AtT.kpick ?_)))
      all_goals (refine AtT.kpick ?_)
      all_goals (refine AtT.kmove ?_)
      all_goals (first | refine AtT.kL 64 ?_ | refine AtT.pcase (d := 64) rfl (fun hg64 => ?_) (fun hg64 => ?_) | refine AtT.bcase (d := 64) rfl (fun hg64 => ?_) (fun hg64 => ?_))
      all_goals (first | refine AtT.kpass ?_ | refine AtT.kpassU ?_ | ((refine AtT.kmove ?_)))
      all_goals (first | refine AtT.kpass ?_ | refine AtT.kpassU ?_ | ((refine AtT.keqI ?_)))
      all_goals (first | refine AtT.kpass ?_ | refine AtT.kpassU ?_ | ((refine AtT.kmove ?_)))
      all_goals (first | refine AtT.kpass ?_ | refine AtT.kpassU ?_ | ((first | refine AtT.kfieldO fo31_1 ?_ | with_reducible refine AtT.kfield2 fo31_1 ?_ | refine AtT.kfield fo31_1 ?_)))
      all_goals (first | refine AtT.kpass ?_ | refine AtT.kpassU ?_ | ((first | refine AtT.kloadO tk2 ?_ | refine AtT.kload tk2 ?_)))
      all_goals (first | refine AtT.kpass ?_ | refine AtT.kpassU ?_ | ((first | refine AtT.kmul ?_ | refine AtT.kmulW ?_)))
      all_goals (first | refine AtT.kpass ?_ | refine AtT.kpassU ?_ | ((first | refine AtT.kfieldO fo31_0 ?_ | with_reducible refine AtT.kfield2 fo31_0 ?_ | refine AtT.kfield fo31_0 ?_)))
      all_goals (first | refine AtT.kpass ?_ | refine AtT.kpassU ?_ | ((first | refine AtT.kloadO tk2 ?_ | refine AtT.kload tk2 ?_)))
      all_goals (first | refine AtT.kpass ?_ | refine AtT.kpassU ?_ | ((refine AtT.kleq ?_)))
      all_goals (refine AtT.setT (d := 73) rfl (hyv) ?_)
      all_goals (first | refine AtT.kpass ?_ | refine AtT.kpassU ?_ | ((refine AtT.neB rfl ⟨_, _, rfl, rfl, rfl⟩ Try.underlying4 rfl rfl (by decide) ?_)))
      all_goals (refine AtT.kpick ?_)
      all_goals (refine AtT.kmove ?_)
      all_goals (first | refine AtT.kL 76 ?_ | refine AtT.pcase (d := 76) rfl (fun hg76 => ?_) (fun hg76 => ?_) | refine AtT.bcase (d := 76) rfl (fun hg76 => ?_) (fun hg76 => ?_))
      all_goals (first | refine AtT.kpass ?_ | refine AtT.kpassU ?_ | ((refine AtT.kmove ?_)))
      all_goals (first | refine AtT.kpass ?_ | refine AtT.kpassU ?_ | ((refine AtT.kneI ?_)))
      all_goals (first | refine AtT.kpass ?_ | refine AtT.kpassU ?_ | ((refine AtT.kmove ?_)))
      all_goals (first | refine AtT.kL 79 ?_ | refine AtT.pcase (d := 79) rfl (fun hg79 => ?_) (fun hg79 => ?_) | refine AtT.bcase (d := 79) rfl (fun hg79 => ?_) (fun hg79 => ?_))
      all_goals (first | refine AtT.kpass ?_ | refine AtT.kpassU ?_ | ((refine AtT.kmove ?_)))
      all_goals (first | refine AtT.kpass ?_ | refine AtT.kpassU ?_ | ((refine AtT.kneI ?_)))
      all_goals (first | refine AtT.kpass ?_ | refine AtT.kpassU ?_ | ((refine AtT.kpick ?_)))
      all_goals (refine AtT.kpick ?_)
      all_goals refine AtT.done ?_
      all_goals (refine At.nrm ?_)
      refine At.condF rfl rfl ?_
      refine At.nrm ?_
      refine At.ktext (.q 0 (.q 1 .done)) ?_
      refine AtT.kmove ?_
      refine AtT.kneI ?_
      refine AtT.done ?_
      refine At.nrm ?_
      refine At.condF rfl rfl ?_
      refine At.nrm ?_
      refine At.ktext (.q 0 (.n false 1 (.q 2 (.q 3 (.q 4 (.n false 5 (.q 6 (.q 7 (.q 8 (.q 9 (.q 10 (.n false 11 (.q 12 .done))))))))))))) ?_
      first | refine AtT.kloadOA tk31 ?_ | refine AtT.kloadA tk31 ?_ | refine AtT.kloadOP tk31 ?_
      refine AtT.kcallP rfl rfl ok48 (fit_f _ hs.f1 _) ?_
      rintro _ rfl
      refine AtT.knot ?_
      refine AtT.kmove ?_
      all_goals (first | refine AtT.kL 94 ?_ | refine AtT.pcase (d := 94) rfl (fun hg94 => ?_) (fun hg94 => ?_) | refine AtT.bcase (d := 94) rfl (fun hg94 => ?_) (fun hg94 => ?_))
      all_goals (first | refine AtT.kpass ?_ | refine AtT.kpassU ?_ | ((first | refine AtT.kloadOA tk31 ?_ | refine AtT.kloadA tk31 ?_ | refine AtT.kloadOP tk31 ?_)))
      all_goals (first | refine AtT.kpassN ?_ | refine AtT.kpassNU ?_ | ((refine AtT.kcallP rfl rfl ok48 (fit_f _ hs.f2 _) ?_) ; (rintro _ rfl)))
      all_goals (first | refine AtT.kpass ?_ | refine AtT.kpassU ?_ | ((refine AtT.knot ?_)))
      all_goals (refine AtT.kpick ?_)
      all_goals (refine AtT.kmove ?_)
      all_goals (first | refine AtT.kL 99 ?_ | refine AtT.pcase (d := 99) rfl (fun hg99 => ?_) (fun hg99 => ?_) | refine AtT.bcase (d := 99) rfl (fun hg99 => ?_) (fun hg99 => ?_))
      all_goals (first | refine AtT.kpass ?_ | refine AtT.kpassU ?_ | ((first | refine AtT.kloadOA tk31 ?_ | refine AtT.kloadA tk31 ?_ | refine AtT.kloadOP tk31 ?_)))
      all_goals (first | refine AtT.kpass ?_ | refine AtT.kpassU ?_ | ((first | refine AtT.kloadOA tk31 ?_ | refine AtT.kloadA tk31 ?_ | refine AtT.kloadOP tk31 ?_)))
      all_goals (first | refine AtT.kpassN ?_ | refine AtT.kpassNU ?_ | ((refine AtT.kcallP rfl rfl ok45 (rless_f (defH L (tm number) xx).2 (defH L (tm number) xx).1 _ (ft_fit hs.f2 hs.f1) (ft_fit hs.f1 hs.f2)) ?_) ; (rintro _ rfl)))
      all_goals (refine AtT.setB (d := 102) rfl (less_not hs.f2.can hs.f1.can hs.le) ?_)
      all_goals (refine AtT.kpick ?_)
      all_goals refine AtT.done ?_
      all_goals (refine At.nrm ?_)
      refine At.condF rfl rfl ?_
      refine At.nrm ?_
      refine At.ktext (.q 0 (.q 1 (.q 2 (.q 3 (.n false 4 (.q 5 (.q 6 (.n false 7 (.q 8 (.q 9 (.q 10 (.q 11 (.n false 12 (.q 13 (.q 14 (.q 15 (.q 16 (.q 17 (.n false 18 (.q 19 (.q 20 (.q 21 (.q 22 (.n false 23 (.q 24 (.q 25 .done)))))))))))))))))))))))))) ?_
      refine AtT.kmove ?_
      refine AtT.kneI ?_
      refine AtT.kmove ?_
      all_goals (first | refine AtT.kL 106 ?_ | refine AtT.pcase (d := 106) rfl (fun hg106 => ?_) (fun hg106 => ?_) | refine AtT.bcase (d := 106) rfl (fun hg106 => ?_) (fun hg106 => ?_))
      all_goals (first | refine AtT.kpass ?_ | refine AtT.kpassU ?_ | ((first | refine AtT.kloadOA tk31 ?_ | refine AtT.kloadA tk31 ?_ | refine AtT.kloadOP tk31 ?_)))
      all_goals (first | refine AtT.kpassN ?_ | refine AtT.kpassNU ?_ | ((fail)))
      all_goals (first | refine AtT.kpass ?_ | refine AtT.kpassU ?_ | ((refine AtT.kmove ?_)))
      all_goals (first | refine AtT.kL 109 ?_ | refine AtT.pcase (d := 109) rfl (fun hg109 => ?_) (fun hg109 => ?_) | refine AtT.bcase (d := 109) rfl (fun hg109 => ?_) (fun hg109 => ?_))
      all_goals (first | refine AtT.kpass ?_ | refine AtT.kpassU ?_ | ((first | refine AtT.kloadOA tk31 ?_ | refine AtT.kloadA tk31 ?_ | refine AtT.kloadOP tk31 ?_)))
      all_goals (first | refine AtT.kpassN ?_ | refine AtT.kpassNU ?_ | ((fail)))
      all_goals (first | refine AtT.kpass ?_ | refine AtT.kpassU ?_ | ((refine AtT.kpick ?_)))
      all_goals (first | refine AtT.kpass ?_ | refine AtT.kpassU ?_ | ((refine AtT.kmove ?_)))
      all_goals (first | refine AtT.kL 113 ?_ | refine AtT.pcase (d := 113) rfl (fun hg113 => ?_) (fun hg113 => ?_) | refine AtT.bcase (d := 113) rfl (fun hg113 => ?_) (fun hg113 => ?_))
      all_goals (first | refine AtT.kpass ?_ | refine AtT.kpassU ?_ | ((first | refine AtT.kloadOA tk31 ?_ | refine AtT.kloadA tk31 ?_ | refine AtT.kloadOP tk31 ?_)))
      all_goals (first | refine AtT.kpass ?_ | refine AtT.kpassU ?_ | ((first | refine AtT.kloadOA tk31 ?_ | refine AtT.kloadA tk31 ?_ | refine AtT.kloadOP tk31 ?_)))
      all_goals (first | refine AtT.kpassN ?_ | refine AtT.kpassNU ?_ | ((fail)))
      all_goals (first | refine AtT.kpass ?_ | refine AtT.kpassU ?_ | ((refine AtT.knot ?_)))
      all_goals (first | refine AtT.kpass ?_ | refine AtT.kpassU ?_ | ((refine AtT.kpick ?_)))
      all_goals (first | refine AtT.kpass ?_ | refine AtT.kpassU ?_ | ((refine AtT.kmove ?_)))
      all_goals (first | refine AtT.kL 119 ?_ | refine AtT.pcase (d := 119) rfl (fun hg119 => ?_) (fun hg119 => ?_) | refine AtT.bcase (d := 119) rfl (fun hg119 => ?_) (fun hg119 => ?_))
      all_goals (first | refine AtT.kpass ?_ | refine AtT.kpassU ?_ | ((first | refine AtT.kloadOA tk31 ?_ | refine AtT.kloadA tk31 ?_ | refine AtT.kloadOP tk31 ?_)))
      all_goals (first | refine AtT.kpass ?_ | refine AtT.kpassU ?_ | ((first | refine AtT.kloadOA tk31 ?_ | refine AtT.kloadA tk31 ?_ | refine AtT.kloadOP tk31 ?_)))
      all_goals (first | refine AtT.kpassN ?_ | refine AtT.kpassNU ?_ | ((fail)))
      all_goals (first | refine AtT.kpass ?_ | refine AtT.kpassU ?_ | ((refine AtT.knot ?_)))
      all_goals (first | refine AtT.kpass ?_ | refine AtT.kpassU ?_ | ((refine AtT.kpick ?_)))
      all_goals (refine AtT.kpick ?_)
      all_goals (refine AtT.kmove ?_)
      all_goals (first | refine AtT.kL 126 ?_ | refine AtT.pcase (d := 126) rfl (fun hg126 => ?_) (fun hg126 => ?_) | refine AtT.bcase (d := 126) rfl (fun hg126 => ?_) (fun hg126 => ?_))
      all_goals (first | refine AtT.kpassN ?_ | refine AtT.kpassNU ?_ | ((refine AtT.kcallP rfl rfl ok19 (works_f _) ?_) ; (rintro _ rfl)))
      all_goals (refine AtT.kpick ?_)
      all_goals (refine AtT.kassign ?_)
      all_goals refine AtT.done ?_
      all_goals (refine At.nrm ?_)
      exact At.ret1 rfl (.tmp rfl) rfl
    · have hs2 := hg_spec hL hcb2 hx0 hv2
      have hmo := hs.more hs2 hcc
      refine At.ktext (.q 0 (.q 1 (.q 2 (.n false 3 (.q 4 (.q 5 (.q 6 (.q 7 (.n false 8 (.n false 9 (.n true 10 (.n true 11 (.q 12 .done))))))))))))) ?_
      first | refine AtT.kloadOA tk25 ?_ | refine AtT.kloadA tk25 ?_ | refine AtT.kloadOP tk25 ?_
      refine AtT.kmove ?_
      refine AtT.kmove ?_
      refine AtT.kcallP rfl rfl ok34 (heights_p L (tm number) xx _ _ hv') ?_
      rintro _ rfl; rw [hg]
      refine AtT.kmove ?_
      refine AtT.kextract ?_
      refine AtT.kextract ?_
      refine AtT.kextract ?_
      refine AtT.kalloc z31 ?_
      intro b13
      refine AtT.kalloc z31 ?_
      intro b14
      refine AtT.kstoreA tk31 ?_
      refine AtT.kstoreA tk31 ?_
      refine AtT.kassign ?_
      refine AtT.done ?_
      refine At.nrm ?_
      refine At.ktext (.q 0 (.q 1 (.q 2 (.q 3 (.q 4 (.q 5 (.q 6 (.n false 7 (.q 8 (.q 9 (.q 10 (.q 11 (.n false 12 (.n false 13 (.n true 14 (.n true 15 (.q 16 .done))))))))))))))))) ?_
      first | refine AtT.kloadOA tk25 ?_ | refine AtT.kloadA tk25 ?_ | refine AtT.kloadOP tk25 ?_
      refine AtT.kmove ?_
      refine AtT.kmove ?_
      refine AtT.kconv un5 Try.underlying2 ?_
      rw [wrap_fit (Fit.of (by omega) (by omega))]
      first | refine AtT.kadd ?_ | refine AtT.kaddW ?_
      refine AtT.kmin2 ?_
      refine AtT.re (d := 48) rfl (show iv (min 2000 (tm number + more)) = iv c2 from by rw [hc2]) ?_
      refine AtT.kmove ?_
      refine AtT.kcallP rfl rfl ok34 (heights_p L c2 xx _ _ hv') ?_
      rintro _ rfl; rw [hg2]
      refine AtT.kmove ?_
      refine AtT.kextract ?_
      refine AtT.kextract ?_
      refine AtT.kextract ?_
      refine AtT.kalloc z31 ?_
      intro b16
      refine AtT.kalloc z31 ?_
      intro b17
      refine AtT.kstoreA tk31 ?_
      refine AtT.kstoreA tk31 ?_
      refine AtT.kassign ?_
      refine AtT.done ?_
      refine At.nrm ?_
      refine At.ktext (.q 0 (.q 1 (.q 2 (.q 3 (.q 4 (.q 5 (.q 6 (.q 7 (.q 8 (.q 9 (.q 10 (.q 11 (.q 12 (.q 13 (.q 14 (.q 15 (.q 16 (.q 17 (.q 18 (.q 19 (.q 20 (.q 21 (.q 22 (.q 23 (.q 24 (.q 25 (.q 26 (.q 27 (.q 28 (.q 29 .done)))))))))))))))))))))))))))))) ?_
      refine AtT.kmove ?_
      refine AtT.knot ?_
      refine AtT.kmove ?_
      all_goals (first | refine AtT.kL 56 ?_ | refine AtT.pcase (d := 56) rfl (fun hg56 => ?_) (fun hg56 => ?_) | refine AtT.bcase (d := 56) rfl (fun hg56 => ?_) (fun hg56 => ?_))
      all_goals (first | refine AtT.kpass ?_ | refine AtT.kpassU ?_ | ((refine AtT.kmove ?_)))
      all_goals (first | refine AtT.kpass ?_ | refine AtT.kpassU ?_ | ((refine AtT.kneI ?_)))
      all_goals (first | refine AtT.kpass ?_ | refine AtT.kpassU ?_ | ((refine AtT.kmove ?_)))
      all_goals (first | refine AtT.kL 59 ?_ | refine AtT.pcase (d := 59) rfl (fun hg59 => ?_) (fun hg59 => ?_) | refine AtT.bcase (d := 59) rfl (fun hg59 => ?_) (fun hg59 => ?_))
      all_goals (first | refine AtT.kpass ?_ | refine AtT.kpassU ?_ | ((refine AtT.kmove ?_)))
      all_goals (first | refine AtT.kpass ?_ | refine AtT.kpassU ?_ | ((refine AtT.kneI ?_)))
      all_goals (first | refine AtT.kpass ?_ | refine AtT.kpassU ?_ | ((refine AtT.kpick ?_)))
      all_goals (refine AtT.kpick ?_)
      all_goals (refine AtT.kmove ?_)
      all_goals (first | refine AtT.kL 64 ?_ | refine AtT.pcase (d := 64) rfl (fun hg64 => ?_) (fun hg64 => ?_) | refine AtT.bcase (d := 64) rfl (fun hg64 => ?_) (fun hg64 => ?_))
      all_goals (first | refine AtT.kpass ?_ | refine AtT.kpassU ?_ | ((refine AtT.kmove ?_)))
      all_goals (first | refine AtT.kpass ?_ | refine AtT.kpassU ?_ | ((refine AtT.keqI ?_)))
      all_goals (first | refine AtT.kpass ?_ | refine AtT.kpassU ?_ | ((refine AtT.kmove ?_)))
      all_goals (first | refine AtT.kpass ?_ | refine AtT.kpassU ?_ | ((first | refine AtT.kfieldO fo31_1 ?_ | with_reducible refine AtT.kfield2 fo31_1 ?_ | refine AtT.kfield fo31_1 ?_)))
      all_goals (first | refine AtT.kpass ?_ | refine AtT.kpassU ?_ | ((first | refine AtT.kloadO tk2 ?_ | refine AtT.kload tk2 ?_)))
      all_goals (first | refine AtT.kpass ?_ | refine AtT.kpassU ?_ | ((first | refine AtT.kmul ?_ | refine AtT.kmulW ?_)))
      all_goals (first | refine AtT.kpass ?_ | refine AtT.kpassU ?_ | ((first | refine AtT.kfieldO fo31_0 ?_ | with_reducible refine AtT.kfield2 fo31_0 ?_ | refine AtT.kfield fo31_0 ?_)))
      all_goals (first | refine AtT.kpass ?_ | refine AtT.kpassU ?_ | ((first | refine AtT.kloadO tk2 ?_ | refine AtT.kload tk2 ?_)))
      all_goals (first | refine AtT.kpass ?_ | refine AtT.kpassU ?_ | ((refine AtT.kleq ?_)))
      all_goals (refine AtT.setT (d := 73) rfl (hyv) ?_)
      all_goals (first | refine AtT.kpass ?_ | refine AtT.kpassU ?_ | ((refine AtT.neB rfl ⟨_, _, rfl, rfl, rfl⟩ Try.underlying4 rfl rfl (by decide) ?_)))
      all_goals (refine AtT.kpick ?_)
      all_goals (refine AtT.kmove ?_)
      all_goals (first | refine AtT.kL 76 ?_ | refine AtT.pcase (d := 76) rfl (fun hg76 => ?_) (fun hg76 => ?_) | refine AtT.bcase (d := 76) rfl (fun hg76 => ?_) (fun hg76 => ?_))
      all_goals (first | refine AtT.kpass ?_ | refine AtT.kpassU ?_ | ((refine AtT.kmove ?_)))
      all_goals (first | refine AtT.kpass ?_ | refine AtT.kpassU ?_ | ((refine AtT.kneI ?_)))
      all_goals (first | refine AtT.kpass ?_ | refine AtT.kpassU ?_ | ((refine AtT.kmove ?_)))
      all_goals (first | refine AtT.kL 79 ?_ | refine AtT.pcase (d := 79) rfl (fun hg79 => ?_) (fun hg79 => ?_) | refine AtT.bcase (d := 79) rfl (fun hg79 => ?_) (fun hg79 => ?_))
      all_goals (first | refine AtT.kpass ?_ | refine AtT.kpassU ?_ | ((refine AtT.kmove ?_)))
      all_goals (first | refine AtT.kpass ?_ | refine AtT.kpassU ?_ | ((refine AtT.kneI ?_)))
      all_goals (first | refine AtT.kpass ?_ | refine AtT.kpassU ?_ | ((refine AtT.kpick ?_)))
      all_goals (refine AtT.kpick ?_)
      all_goals refine AtT.done ?_
      all_goals (refine At.nrm ?_)
      refine At.condF rfl rfl ?_
      refine At.nrm ?_
      refine At.ktext (.q 0 (.q 1 .done)) ?_
      refine AtT.kmove ?_
      refine AtT.kneI ?_
      refine AtT.done ?_
      refine At.nrm ?_
      refine At.condF rfl rfl ?_
      refine At.nrm ?_
      refine At.ktext (.q 0 (.n false 1 (.q 2 (.q 3 (.q 4 (.n false 5 (.q 6 (.q 7 (.q 8 (.q 9 (.q 10 (.n false 11 (.q 12 .done))))))))))))) ?_
      first | refine AtT.kloadOA tk31 ?_ | refine AtT.kloadA tk31 ?_ | refine AtT.kloadOP tk31 ?_
      refine AtT.kcallP rfl rfl ok48 (fit_f _ hs.f1 _) ?_
      rintro _ rfl
      refine AtT.knot ?_
      refine AtT.kmove ?_
      all_goals (first | refine AtT.kL 94 ?_ | refine AtT.pcase (d := 94) rfl (fun hg94 => ?_) (fun hg94 => ?_) | refine AtT.bcase (d := 94) rfl (fun hg94 => ?_) (fun hg94 => ?_))
      all_goals (first | refine AtT.kpass ?_ | refine AtT.kpassU ?_ | ((first | refine AtT.kloadOA tk31 ?_ | refine AtT.kloadA tk31 ?_ | refine AtT.kloadOP tk31 ?_)))
      all_goals (first | refine AtT.kpassN ?_ | refine AtT.kpassNU ?_ | ((refine AtT.kcallP rfl rfl ok48 (fit_f _ hs.f2 _) ?_) ; (rintro _ rfl)))
      all_goals (first | refine AtT.kpass ?_ | refine AtT.kpassU ?_ | ((refine AtT.knot ?_)))
      all_goals (refine AtT.kpick ?_)
      all_goals (refine AtT.kmove ?_)
      all_goals (first | refine AtT.kL 99 ?_ | refine AtT.pcase (d := 99) rfl (fun hg99 => ?_) (fun hg99 => ?_) | refine AtT.bcase (d := 99) rfl (fun hg99 => ?_) (fun hg99 => ?_))
      all_goals (first | refine AtT.kpass ?_ | refine AtT.kpassU ?_ | ((first | refine AtT.kloadOA tk31 ?_ | refine AtT.kloadA tk31 ?_ | refine AtT.kloadOP tk31 ?_)))
      all_goals (first | refine AtT.kpass ?_ | refine AtT.kpassU ?_ | ((first | refine AtT.kloadOA tk31 ?_ | refine AtT.kloadA tk31 ?_ | refine AtT.kloadOP tk31 ?_)))
      all_goals (first | refine AtT.kpassN ?_ | refine AtT.kpassNU ?_ | ((refine AtT.kcallP rfl rfl ok45 (rless_f (defH L (tm number) xx).2 (defH L (tm number) xx).1 _ (ft_fit hs.f2 hs.f1) (ft_fit hs.f1 hs.f2)) ?_) ; (rintro _ rfl)))
      all_goals (refine AtT.setB (d := 102) rfl (less_not hs.f2.can hs.f1.can hs.le) ?_)
      all_goals (refine AtT.kpick ?_)
      all_goals refine AtT.done ?_
      all_goals (refine At.nrm ?_)
      refine At.condF rfl rfl ?_
      refine At.nrm ?_
      refine At.ktext (.q 0 (.q 1 (.q 2 (.q 3 (.n false 4 (.q 5 (.q 6 (.n false 7 (.q 8 (.q 9 (.q 10 (.q 11 (.n false 12 (.q 13 (.q 14 (.q 15 (.q 16 (.q 17 (.n false 18 (.q 19 (.q 20 (.q 21 (.q 22 (.n false 23 (.q 24 (.q 25 .done)))))))))))))))))))))))))) ?_
      refine AtT.kmove ?_
      refine AtT.kneI ?_
      refine AtT.kmove ?_
      all_goals (first | refine AtT.kL 106 ?_ | refine AtT.pcase (d := 106) rfl (fun hg106 => ?_) (fun hg106 => ?_) | refine AtT.bcase (d := 106) rfl (fun hg106 => ?_) (fun hg106 => ?_))
      all_goals (first | refine AtT.kpass ?_ | refine AtT.kpassU ?_ | ((first | refine AtT.kloadOA tk31 ?_ | refine AtT.kloadA tk31 ?_ | refine AtT.kloadOP tk31 ?_)))
      all_goals (first | refine AtT.kpassN ?_ | refine AtT.kpassNU ?_ | ((refine AtT.kcallP rfl rfl ok48 (fit_f _ hs2.f1 _) ?_) ; (rintro _ rfl)))
      all_goals (first | refine AtT.kpass ?_ | refine AtT.kpassU ?_ | ((refine AtT.kmove ?_)))
      all_goals (first | refine AtT.kL 109 ?_ | refine AtT.pcase (d := 109) rfl (fun hg109 => ?_) (fun hg109 => ?_) | refine AtT.bcase (d := 109) rfl (fun hg109 => ?_) (fun hg109 => ?_))
      all_goals (first | refine AtT.kpass ?_ | refine AtT.kpassU ?_ | ((first | refine AtT.kloadOA tk31 ?_ | refine AtT.kloadA tk31 ?_ | refine AtT.kloadOP tk31 ?_)))
      all_goals (first | refine AtT.kpassN ?_ | refine AtT.kpassNU ?_ | ((refine AtT.kcallP rfl rfl ok48 (fit_f _ hs2.f2 _) ?_) ; (rintro _ rfl)))
      all_goals (first | refine AtT.kpass ?_ | refine AtT.kpassU ?_ | ((refine AtT.kpick ?_)))
      all_goals (first | refine AtT.kpass ?_ | refine AtT.kpassU ?_ | ((refine AtT.kmove ?_)))
      all_goals (first | refine AtT.kL 113 ?_ | refine AtT.pcase (d := 113) rfl (fun hg113 => ?_) (fun hg113 => ?_) | refine AtT.bcase (d := 113) rfl (fun hg113 => ?_) (fun hg113 => ?_))
      all_goals (first | refine AtT.kpass ?_ | refine AtT.kpassU ?_ | ((first | refine AtT.kloadOA tk31 ?_ | refine AtT.kloadA tk31 ?_ | refine AtT.kloadOP tk31 ?_)))
      all_goals (first | refine AtT.kpass ?_ | refine AtT.kpassU ?_ | ((first | refine AtT.kloadOA tk31 ?_ | refine AtT.kloadA tk31 ?_ | refine AtT.kloadOP tk31 ?_)))
      all_goals (first | refine AtT.kpassN ?_ | refine AtT.kpassNU ?_ | ((refine AtT.kcallP rfl rfl ok45 (rless_f (defH L c2 xx).1 (defH L (tm number) xx).1 _ (ft_fit hs2.f1 hs.f1) (ft_fit hs.f1 hs2.f1)) ?_) ; (rintro _ rfl)))
      all_goals (refine AtT.setB (d := 116) rfl (less_not hs2.f1.can hs.f1.can hmo.1) ?_)
      all_goals (first | refine AtT.kpass ?_ | refine AtT.kpassU ?_ | ((refine AtT.knot ?_)))
      all_goals (first | refine AtT.kpass ?_ | refine AtT.kpassU ?_ | ((refine AtT.kpick ?_)))
      all_goals (first | refine AtT.kpass ?_ | refine AtT.kpassU ?_ | ((refine AtT.kmove ?_)))
      all_goals (first | refine AtT.kL 119 ?_ | refine AtT.pcase (d := 119) rfl (fun hg119 => ?_) (fun hg119 => ?_) | refine AtT.bcase (d := 119) rfl (fun hg119 => ?_) (fun hg119 => ?_))
      all_goals (first | refine AtT.kpass ?_ | refine AtT.kpassU ?_ | ((first | refine AtT.kloadOA tk31 ?_ | refine AtT.kloadA tk31 ?_ | refine AtT.kloadOP tk31 ?_)))
      all_goals (first | refine AtT.kpass ?_ | refine AtT.kpassU ?_ | ((first | refine AtT.kloadOA tk31 ?_ | refine AtT.kloadA tk31 ?_ | refine AtT.kloadOP tk31 ?_)))
      all_goals (first | refine AtT.kpassN ?_ | refine AtT.kpassNU ?_ | ((refine AtT.kcallP rfl rfl ok45 (rless_f (defH L (tm number) xx).2 (defH L c2 xx).2 _ (ft_fit hs.f2 hs2.f2) (ft_fit hs2.f2 hs.f2)) ?_) ; (rintro _ rfl)))
      all_goals (refine AtT.setB (d := 122) rfl (less_not hs.f2.can hs2.f2.can hmo.2) ?_)
      all_goals (first | refine AtT.kpass ?_ | refine AtT.kpassU ?_ | ((refine AtT.knot ?_)))
      all_goals (first | refine AtT.kpass ?_ | refine AtT.kpassU ?_ | ((refine AtT.kpick ?_)))
      all_goals (refine AtT.kpick ?_)
      all_goals (refine AtT.kmove ?_)
      all_goals (first | refine AtT.kL 126 ?_ | refine AtT.pcase (d := 126) rfl (fun hg126 => ?_) (fun hg126 => ?_) | refine AtT.bcase (d := 126) rfl (fun hg126 => ?_) (fun hg126 => ?_))
      all_goals (first | refine AtT.kpassN ?_ | refine AtT.kpassNU ?_ | ((refine AtT.kcallP rfl rfl ok19 (works_f _) ?_) ; (rintro _ rfl)))
      all_goals (refine AtT.kpick ?_)
      all_goals (refine AtT.kassign ?_)
      all_goals refine AtT.done ?_
      all_goals (refine At.nrm ?_)
      exact At.ret1 rfl (.tmp rfl) rfl
end Go.Proofs.Ytnionkopmncopaa
set_option linter.unusedVariables false
namespace Go.Proofs.Ytnionkopmncopaa
open Go.Pl

def halfV (L : Lg) (o t r f : Int) : Ln := ⟨2 * (linedV L o t).den, (linedV L o t).start + (linedV L r f).start, (linedV L o t).step + (linedV L r f).step⟩
theorem lined_bd {L : Lg} (hL : LgOk L) (one two : Int) : 0 < (linedV L one two).den ∧ (linedV L one two).den ≤ 100 ∧ -400000 ≤ (linedV L one two).start ∧ (linedV L one two).start ≤ 400000 ∧ -4000 ≤ (linedV L one two).step ∧ (linedV L one two).step ≤ 4000 := by
  have e := ends_bd hL
  have t1 := tm_bd one
  have t2 := tm_bd two
  have m1 := mul_bd (a := tm one) (b := lastX L) (A := 2000) (B := 100) (by decide) (by decide) (by omega) (by omega) (by omega) (by omega)
  have m2 := mul_bd (a := tm two) (b := firstX L) (A := 2000) (B := 100) (by decide) (by decide) (by omega) (by omega) (by omega) (by omega)
  simp only [linedV]
  omega
theorem half_ok {L : Lg} (hL : LgOk L) (o t r f : Int) : LnB (halfV L o t r f) ∧ lineE (halfV L o t r f) = 0 := by
  have a := lined_bd hL o t
  have b := lined_bd hL r f
  refine ⟨⟨?_, ?_, ?_, ?_, ?_, ?_⟩, ?_⟩
  all_goals first | (unfold halfV; dsimp only; omega) | skip
  have w1 : wi 1 100000 [(halfV L o t r f).den] = true := by simp only [wi, List.any_cons, List.any_nil, outB, Bool.or_false, Bool.not_eq_true', Bool.or_eq_false_iff, decide_eq_false_iff_not, halfV]; omega
  have w2 : wi (-68719476736) 68719476736 [(halfV L o t r f).start, (halfV L o t r f).step] = true := by simp only [wi, List.any_cons, List.any_nil, outB, Bool.or_false, Bool.not_eq_true', Bool.or_eq_false_iff, decide_eq_false_iff_not, halfV]; omega
  unfold lineE
  rw [w1, w2]; simp
theorem half_core {L : Lg} (hL : LgOk L) (o t r f : Int) {c : Rat} (h1 : c ≤ (coreOf L (linedV L o t)).q) (h2 : c ≤ (coreOf L (linedV L r f)).q) : c ≤ (coreOf L (halfV L o t r f)).q := by
  have a := lined_bd hL o t
  have b := lined_bd hL r f
  have hd := (half_ok hL o t r f).1.d0
  rw [core_keeps hL (by omega)] at h1 h2
  rw [core_keeps hL hd]
  intro m hm
  have k1 := h1 m hm
  have k2 := h2 m hm
  have hden : (linedV L r f).den = (linedV L o t).den := rfl
  rw [hden] at k2
  have hw := cpos a.1
  have hwn := cne a.1
  have e : ((halfV L o t r f).start : Rat) / ((halfV L o t r f).den : Rat) + ((halfV L o t r f).step : Rat) / ((halfV L o t r f).den : Rat) * Xq L m =
    ((((linedV L o t).start : Rat) / (linedV L o t).den + ((linedV L o t).step : Rat) / (linedV L o t).den * Xq L m) + (((linedV L r f).start : Rat) / (linedV L o t).den + ((linedV L r f).step : Rat) / (linedV L o t).den * Xq L m)) / 2 := by
    simp only [halfV]
    push_cast
    grind
  rw [e]
  exact ⟨by grind, by grind⟩
theorem half_sm {L : Lg} (hL : LgOk L) (o t r f : Int) : Sm (coreOf L (halfV L o t r f)) := by
  have hd := (half_ok hL o t r f).1.d0
  have a := lined_bd hL o t
  have s1 := lined_sm hL o t
  have s2 := lined_sm hL r f
  have q1 := q_of s1.can s1.lo s1.hi
  have q2 := q_of s2.can s2.lo s2.hi
  have hc := core_can (L := L) hd
  have hbs := best_sm hL
  have hbq := q_of hbs.can hbs.lo hbs.hi
  have hb := num_of hc (A := 3000) (half_core hL o t r f q1.1 q2.1) (Rat.le_trans (core_le_best hL hd) hbq.2)
  refine ⟨hc, ?_, hb.1, hb.2⟩
  have h1 : (coreOf L (halfV L o t r f)).den ≤ (halfV L o t r f).den := (rat_bd _ _ hd).2.2
  have h2 : (halfV L o t r f).den = 2 * (linedV L o t).den := rfl
  omega
/-- A line keeps at most 1,000. -/
theorem core_1000 {L : Lg} (hL : LgOk L) {c h s : Rat} (hk : Keeps L c h s) : c ≤ 1000 := by
  have n2 := hL.n2
  have k := hk 0 (by omega)
  have b := loq_bd hL (i := 0) (by omega)
  simp only [loq, hiq] at k
  grind

theorem cross_le {r : Rt} (hr : Go.Pl.Can r) {h d : Int} (hd : 0 < d) (hq : r.q ≤ (h : Rat) / d) : r.num * d ≤ h * r.den := by
  have hp := cpos hr.pos
  have hn := cne hr.pos
  have dp := cpos hd
  have dn := cne hd
  have e : r.q * r.den = r.num := by unfold Rt.q; grind
  have k1 := rmul_le hq (c := (r.den : Rat) * d) (rmul_nn (by grind) (by grind))
  have e1 : r.q * ((r.den : Rat) * d) = r.num * d := by rw [← e]; grind
  have e2 : (h : Rat) / d * ((r.den : Rat) * d) = h * r.den := by grind
  rw [e1, e2] at k1
  exact_mod_cast k1
theorem cross_ge {r : Rt} (hr : Go.Pl.Can r) {h d : Int} (hd : 0 < d) (hq : (h : Rat) / d ≤ r.q) : h * r.den ≤ r.num * d := by
  have hp := cpos hr.pos
  have hn := cne hr.pos
  have dp := cpos hd
  have dn := cne hd
  have e : r.q * r.den = r.num := by unfold Rt.q; grind
  have k1 := rmul_le hq (c := (r.den : Rat) * d) (rmul_nn (by grind) (by grind))
  have e1 : r.q * ((r.den : Rat) * d) = r.num * d := by rw [← e]; grind
  have e2 : (h : Rat) / d * ((r.den : Rat) * d) = h * r.den := by grind
  rw [e1, e2] at k1
  exact_mod_cast k1
/-- A line's height at a number, and what it keeps as a whole number. -/
theorem kept_spec {L : Lg} (hL : LgOk L) {x : Ln} (hx : 0 < x.den) {core xx : Int} (hc : core * (coreOf L x).den ≤ (coreOf L x).num) (h1 : -2000 ≤ core) (hxx : 0 ≤ xx ∧ xx ≤ 100) :
    core ≤ 1000 ∧ (core : Rat) ≤ (bestV L).q ∧ ∀ (_ : HgSpec L core xx), (defH L core xx).1.num * x.den ≤ (x.start + x.step * xx) * (defH L core xx).1.den ∧ (x.start + x.step * xx) * (defH L core xx).2.den ≤ (defH L core xx).2.num * x.den := by
  have hq := (core_le (core_can hx) core).1 hc
  have hk := (core_keeps hL hx _).1 hq
  have hdn := cne hx
  refine ⟨?_, keeps_best hL hk, fun hs => ?_⟩
  · have : ((core : Int) : Rat) ≤ ((1000 : Int) : Rat) := core_1000 hL hk
    exact Rat.intCast_le_intCast.1 this
  · have e : (x.start : Rat) / x.den + (x.step : Rat) / x.den * (xx : Rat) = ((x.start + x.step * xx : Int) : Rat) / x.den := by push_cast; grind
    have m1 := hs.m1 _ _ hk
    have m2 := hs.m2 _ _ hk
    rw [e] at m1 m2
    exact ⟨cross_le hs.f1.can hx m1, cross_ge hs.f2.can hx m2⟩

/-- As great a whole number. -/
def floorV (n d : Int) : Int := if n < 0 ∧ n.tmod d ≠ 0 then (n - n.tmod d).tdiv d - 1 else (n - n.tmod d).tdiv d
theorem floor_le {n d : Int} (hd : 0 < d) (h1 : -3000 * d ≤ n) (h2 : n ≤ 3000 * d) : floorV n d * d ≤ n ∧ -3001 ≤ floorV n d ∧ floorV n d ≤ 3000 ∧ -3001 ≤ (n - n.tmod d).tdiv d ∧ (n - n.tmod d).tdiv d ≤ 3001 := by
  have ht := tmod_lt n hd
  have e := Int.mul_tdiv_add_tmod n d
  have e2 : n - n.tmod d = d * n.tdiv d := by omega
  have e3 : (n - n.tmod d).tdiv d = n.tdiv d := by rw [e2]; exact Int.mul_tdiv_cancel_left _ (by omega)
  unfold floorV
  rw [e3]
  have hsign : (0 ≤ n → 0 ≤ n.tmod d) ∧ (n ≤ 0 → n.tmod d ≤ 0) := ⟨fun h => Int.tmod_nonneg _ h, fun h => by have := Int.tmod_nonneg (a := -n) d (by omega); rw [Int.neg_tmod] at this; omega⟩
  generalize n.tmod d = t at *
  generalize n.tdiv d = q at *
  have hq1 : q ≤ 3000 := by
    by_cases c : q ≤ 3000
    · exact c
    · have : d * 3001 ≤ d * q := Int.mul_le_mul_of_nonneg_left (by omega) (by omega)
      omega
  have hq2 : -3000 ≤ q := by
    by_cases c : -3000 ≤ q
    · exact c
    · have : d * q ≤ d * (-3001) := Int.mul_le_mul_of_nonneg_left (by omega) (by omega)
      omega
  have hdq : q * d = d * q := Int.mul_comm _ _
  split
  · have : (q - 1) * d = q * d - d := by rw [Int.sub_mul, Int.one_mul]
    omega
  · rename_i c
    by_cases h : n < 0
    · have : t = 0 := by
        by_cases z : t = 0
        · exact z
        · exact absurd ⟨h, z⟩ c
      omega
    · omega
end Go.Proofs.Ytnionkopmncopaa
set_option linter.unusedVariables false
namespace Go.Proofs.Ytnionkopmncopaa
open Go.Lw Go.Pl Go.RowKit

theorem coreR_half {L : Lg} (he : logE L = 0) (o t r f : Int) : coreR L (halfV L o t r f) = (coreOf L (halfV L o t r f), 0) := by
  unfold coreR
  rw [if_neg (by simp [he]), if_neg (by simp [(half_ok (logE_ok he) o t r f).2])]

theorem core_val {L : Lg} {x : Ln} {y : Rt} {V : View} {v : Value} (hv : LogV V v L) (h : coreR L x = (y, 0)) : Fnc Try.prog 20 [v, lnv x] V fun r _ => r = .tuple #[rtv y, iv 0] := by
  have := core_p L x V v hv
  rw [h] at this; exact this

theorem hgh_val {L : Lg} {core x : Int} {y z : Rt} {e : Int} {V : View} {v : Value} (hv : LogV V v L) (h : hghR L core x = (y, z, e)) : Fnc Try.prog 34 [v, iv core, iv x] V fun r _ => r = .tuple #[rtv y, rtv z, iv e] := by
  have := heights_p L core x V v hv
  rw [h] at this; exact this

theorem peelKept_f (L : Lg) (o t r f x : Int) (V : View) (v : Value) (hv : LogV V v L) (ho : -32768 ≤ o ∧ o ≤ 32767) (ht : -32768 ≤ t ∧ t ≤ 32767) (hr : -32768 ≤ r ∧ r ≤ 32767) (hf : -32768 ≤ f ∧ f ≤ 32767) (h3 : 0 ≤ x ∧ x ≤ 255) :
    Fnc Try.prog 9 [v, .int .i16 o, .int .i16 t, .int .i16 r, .int .i16 f, .int .u8 x] V fun r _ => r = .bool true := by
  have hv' := hv
  obtain ⟨a, c, a', c', rfl, g2, g3⟩ := hv
  refine fn_of Try.func9 rfl Try.ntmps9 (Nat.le_of_ble_eq_true rfl) ?_
  intro w0 hw0
  refine At.nrm ?_
  refine At.ktext (.n false 0 (.q 1 .done)) ?_
  refine AtT.kbox ?_
  intro b6
  refine AtT.kassign ?_
  refine AtT.done ?_
  refine At.nrm ?_
  refine At.ktext (.q 0 (.n false 1 (.q 2 .done))) ?_
  first | refine AtT.kloadOA tk25 ?_ | refine AtT.kloadA tk25 ?_ | refine AtT.kloadOP tk25 ?_
  refine AtT.kcallP rfl rfl ok41 (fine_f L _ _ hv') ?_
  rintro _ rfl
  refine AtT.knot ?_
  refine AtT.done ?_
  refine At.nrm ?_
  by_cases he : logE L = 0
  rotate_left
  · refine At.condT rfl (by rw [decide_eq_false he]; rfl) ?_
    refine At.nrm ?_
    refine At.ktext (.n false 0 (.q 1 .done)) ?_
    refine AtT.kcallP rfl rfl ok19 (works_f _) ?_
    rintro _ rfl
    refine AtT.kassign ?_
    refine AtT.done ?_
    refine At.nrm ?_
    exact At.ret1 rfl (.tmp rfl) rfl
  refine At.condF rfl (by rw [decide_eq_true he]; rfl) ?_
  have hL := logE_ok he
  have hbs := best_sm hL
  have hx0 : 0 ≤ x.tmod 101 ∧ x.tmod 101 ≤ 100 := by
    have := Int.tmod_nonneg (a := x) 101 h3.1
    have := tmod_lt x (m := 101) (by decide)
    omega
  have ba := lined_bd hL o t
  have bb := lined_bd hL r f
  have sa := lined_sm hL o t
  have sb := lined_sm hL r f
  have sm := half_sm hL o t r f
  have pa := sa.can.pos
  have pb := sb.can.pos
  have pm := sm.can.pos
  have da := sa.d
  have db := sb.d
  have dm := sm.d
  have hfl := floor_le pa sa.lo sa.hi
  have hnl : -600000 ≤ (coreOf L (linedV L o t)).num ∧ (coreOf L (linedV L o t)).num ≤ 600000 := by
    have := sa.lo; have := sa.hi; omega
  obtain ⟨xx, hxx⟩ : ∃ xx, xx = x.tmod 101 := ⟨_, rfl⟩
  rw [← hxx] at hx0
  refine At.nrm ?_
  apply At.draw2 (.q 0 (.q 1 (.q 2 (.q 4 (.q 5 (.q 6 (.q 8 (.q 9 (.q 10 (.br [3, 11, 12] (fun i => bif Nat.beq i 3 then (.br [7, 11, 12] (fun i => bif Nat.beq i 7 then (Tr.al 2 [11, 12] (.n false 13 (.n false 14 (.q 15 .done)))) else bif Nat.beq i 11 then (.two 7 (.n false 12 (.n false 13 (.n false 14 (.q 15 .done)))) 12 (.n false 7 (.n false 13 (.n false 14 (.q 15 .done))))) else bif Nat.beq i 12 then (.two 7 (.n false 11 (.n false 13 (.n false 14 (.q 15 .done)))) 11 (.n false 7 (.n false 13 (.n false 14 (.q 15 .done))))) else .done)) else bif Nat.beq i 11 then (.two 3 (.two 7 (.n false 12 (.n false 13 (.n false 14 (.q 15 .done)))) 12 (.n false 7 (.n false 13 (.n false 14 (.q 15 .done))))) 12 (.n false 3 (.n false 7 (.n false 13 (.n false 14 (.q 15 .done)))))) else bif Nat.beq i 12 then (.two 3 (.two 7 (.n false 11 (.n false 13 (.n false 14 (.q 15 .done)))) 11 (.n false 7 (.n false 13 (.n false 14 (.q 15 .done))))) 11 (.n false 3 (.n false 7 (.n false 13 (.n false 14 (.q 15 .done)))))) else .done))))))))))) ffm (by kernel_rfl)
  · refine AtC.start ?_
    refine AtC.pre (fun hle0 => ?_)
    refine AtC.kq (by (first | refine AtT.kloadOA tk25 ?_ | refine AtT.kloadA tk25 ?_ | refine AtT.kloadOP tk25 ?_); exact At.knows) ?_
    refine AtC.kq (by (refine AtT.kmove ?_); exact At.knows) ?_
    refine AtC.kq (by (refine AtT.kmove ?_); exact At.knows) ?_
    refine AtC.kq (by (first | refine AtT.kloadOA tk25 ?_ | refine AtT.kloadA tk25 ?_ | refine AtT.kloadOP tk25 ?_); exact At.knows) ?_
    refine AtC.kq (by (refine AtT.kmove ?_); exact At.knows) ?_
    refine AtC.kq (by (refine AtT.kmove ?_); exact At.knows) ?_
    refine AtC.kq (by (refine AtT.kmove ?_); exact At.knows) ?_
    refine AtC.kq (by (refine AtT.kconv un5 Try.underlying2 ?_); exact At.knows) ?_
    rw [wrap_fit (Fit.of (by omega) (by omega))]
    refine AtC.kq (by (refine AtT.krem ?_); exact At.knows) ?_
    refine AtC.br (fun i hi => ?_)
    simp only [List.mem_cons, List.not_mem_nil, or_false] at hi
    rcases hi with rfl | rfl | rfl
    focus
      refine AtC.nz ?_
      refine AtT.kcallP rfl rfl ok43 (lined_f L o t _ _ hv' hL ho ht) ?_
      rintro _ rfl
      refine AtC.kgo ?_
      refine AtC.br (fun i hi => ?_)
      simp only [List.mem_cons, List.not_mem_nil, or_false] at hi
      rcases hi with rfl | rfl | rfl
      focus
        refine AtC.nz ?_
        refine AtT.kcallP rfl rfl ok43 (lined_f L r f _ _ hv' hL hr hf) ?_
        rintro _ rfl
        refine AtC.kgo ?_
        refine AtC.als2 ⟨⟨_, _, _, _, rfl, z27, rfl, by decide⟩, ⟨_, _, _, _, rfl, z27, rfl, by decide⟩, trivial⟩ (by decide) (by decide) (AtC.sub1 Pt.auto (by first | exact Le.refl _ | assumption | exact Le.trans (by assumption) (by assumption)) (by assumption)) ?_
        intro b13 b14
        refine AtC.nz ?_
        refine AtT.kstoreA tk27 ?_
        refine AtC.kgo ?_
        refine AtC.nz ?_
        refine AtT.kstoreA tk27 ?_
        refine AtC.kgo ?_
        refine AtC.kq (by (refine AtT.kassign ?_); exact At.knows) ?_
        exact AtC.done (fun a w hk hm => ⟨b13, b14, hk, hm⟩)
      focus
        refine AtC.nz ?_
        refine AtT.kalloc z27 ?_
        intro b13
        refine AtC.kgo ?_
        refine AtC.two ?_ ?_
        focus
          refine AtC.nz ?_
          refine AtT.kcallP rfl rfl ok43 (lined_f L r f _ _ hv' hL hr hf) ?_
          rintro _ rfl
          refine AtC.kgo ?_
          refine AtC.nz ?_
          refine AtT.kalloc z27 ?_
          intro b14
          refine AtC.kgo ?_
          refine AtC.nz ?_
          refine AtT.kstoreA tk27 ?_
          refine AtC.kgo ?_
          refine AtC.nz ?_
          refine AtT.kstoreA tk27 ?_
          refine AtC.kgo ?_
          refine AtC.kq (by (refine AtT.kassign ?_); exact At.knows) ?_
          exact AtC.done (At.mid2 b13 b14)
        focus
          refine AtC.nz ?_
          refine AtT.kalloc z27 ?_
          intro b14
          refine AtC.kgo ?_
          refine AtC.nz ?_
          refine AtT.kcallP rfl rfl ok43 (lined_f L r f _ _ hv' hL hr hf) ?_
          rintro _ rfl
          refine AtC.kgo ?_
          refine AtC.nz ?_
          refine AtT.kstoreA tk27 ?_
          refine AtC.kgo ?_
          refine AtC.nz ?_
          refine AtT.kstoreA tk27 ?_
          refine AtC.kgo ?_
          refine AtC.kq (by (refine AtT.kassign ?_); exact At.knows) ?_
          exact AtC.done (At.mid2 b13 b14)
      focus
        refine AtC.nz ?_
        refine AtT.kalloc z27 ?_
        intro b14
        refine AtC.kgo ?_
        refine AtC.two ?_ ?_
        focus
          refine AtC.nz ?_
          refine AtT.kcallP rfl rfl ok43 (lined_f L r f _ _ hv' hL hr hf) ?_
          rintro _ rfl
          refine AtC.kgo ?_
          refine AtC.nz ?_
          refine AtT.kalloc z27 ?_
          intro b13
          refine AtC.kgo ?_
          refine AtC.nz ?_
          refine AtT.kstoreA tk27 ?_
          refine AtC.kgo ?_
          refine AtC.nz ?_
          refine AtT.kstoreA tk27 ?_
          refine AtC.kgo ?_
          refine AtC.kq (by (refine AtT.kassign ?_); exact At.knows) ?_
          exact AtC.done (At.mid2 b13 b14)
        focus
          refine AtC.nz ?_
          refine AtT.kalloc z27 ?_
          intro b13
          refine AtC.kgo ?_
          refine AtC.nz ?_
          refine AtT.kcallP rfl rfl ok43 (lined_f L r f _ _ hv' hL hr hf) ?_
          rintro _ rfl
          refine AtC.kgo ?_
          refine AtC.nz ?_
          refine AtT.kstoreA tk27 ?_
          refine AtC.kgo ?_
          refine AtC.nz ?_
          refine AtT.kstoreA tk27 ?_
          refine AtC.kgo ?_
          refine AtC.kq (by (refine AtT.kassign ?_); exact At.knows) ?_
          exact AtC.done (At.mid2 b13 b14)
    focus
      refine AtC.nz ?_
      refine AtT.kalloc z27 ?_
      intro b13
      refine AtC.kgo ?_
      refine AtC.two ?_ ?_
      focus
        refine AtC.nz ?_
        refine AtT.kcallP rfl rfl ok43 (lined_f L o t _ _ hv' hL ho ht) ?_
        rintro _ rfl
        refine AtC.kgo ?_
        refine AtC.two ?_ ?_
        focus
          refine AtC.nz ?_
          refine AtT.kcallP rfl rfl ok43 (lined_f L r f _ _ hv' hL hr hf) ?_
          rintro _ rfl
          refine AtC.kgo ?_
          refine AtC.nz ?_
          refine AtT.kalloc z27 ?_
          intro b14
          refine AtC.kgo ?_
          refine AtC.nz ?_
          refine AtT.kstoreA tk27 ?_
          refine AtC.kgo ?_
          refine AtC.nz ?_
          refine AtT.kstoreA tk27 ?_
          refine AtC.kgo ?_
          refine AtC.kq (by (refine AtT.kassign ?_); exact At.knows) ?_
          exact AtC.done (At.mid2 b13 b14)
        focus
          refine AtC.nz ?_
          refine AtT.kalloc z27 ?_
          intro b14
          refine AtC.kgo ?_
          refine AtC.nz ?_
          refine AtT.kcallP rfl rfl ok43 (lined_f L r f _ _ hv' hL hr hf) ?_
          rintro _ rfl
          refine AtC.kgo ?_
          refine AtC.nz ?_
          refine AtT.kstoreA tk27 ?_
          refine AtC.kgo ?_
          refine AtC.nz ?_
          refine AtT.kstoreA tk27 ?_
          refine AtC.kgo ?_
          refine AtC.kq (by (refine AtT.kassign ?_); exact At.knows) ?_
          exact AtC.done (At.mid2 b13 b14)
      focus
        refine AtC.nz ?_
        refine AtT.kalloc z27 ?_
        intro b14
        refine AtC.kgo ?_
        refine AtC.nz ?_
        refine AtT.kcallP rfl rfl ok43 (lined_f L o t _ _ hv' hL ho ht) ?_
        rintro _ rfl
        refine AtC.kgo ?_
        refine AtC.nz ?_
        refine AtT.kcallP rfl rfl ok43 (lined_f L r f _ _ hv' hL hr hf) ?_
        rintro _ rfl
        refine AtC.kgo ?_
        refine AtC.nz ?_
        refine AtT.kstoreA tk27 ?_
        refine AtC.kgo ?_
        refine AtC.nz ?_
        refine AtT.kstoreA tk27 ?_
        refine AtC.kgo ?_
        refine AtC.kq (by (refine AtT.kassign ?_); exact At.knows) ?_
        exact AtC.done (At.mid2 b13 b14)
    focus
      refine AtC.nz ?_
      refine AtT.kalloc z27 ?_
      intro b14
      refine AtC.kgo ?_
      refine AtC.two ?_ ?_
      focus
        refine AtC.nz ?_
        refine AtT.kcallP rfl rfl ok43 (lined_f L o t _ _ hv' hL ho ht) ?_
        rintro _ rfl
        refine AtC.kgo ?_
        refine AtC.two ?_ ?_
        focus
          refine AtC.nz ?_
          refine AtT.kcallP rfl rfl ok43 (lined_f L r f _ _ hv' hL hr hf) ?_
          rintro _ rfl
          refine AtC.kgo ?_
          refine AtC.nz ?_
          refine AtT.kalloc z27 ?_
          intro b13
          refine AtC.kgo ?_
          refine AtC.nz ?_
          refine AtT.kstoreA tk27 ?_
          refine AtC.kgo ?_
          refine AtC.nz ?_
          refine AtT.kstoreA tk27 ?_
          refine AtC.kgo ?_
          refine AtC.kq (by (refine AtT.kassign ?_); exact At.knows) ?_
          exact AtC.done (At.mid2 b13 b14)
        focus
          refine AtC.nz ?_
          refine AtT.kalloc z27 ?_
          intro b13
          refine AtC.kgo ?_
          refine AtC.nz ?_
          refine AtT.kcallP rfl rfl ok43 (lined_f L r f _ _ hv' hL hr hf) ?_
          rintro _ rfl
          refine AtC.kgo ?_
          refine AtC.nz ?_
          refine AtT.kstoreA tk27 ?_
          refine AtC.kgo ?_
          refine AtC.nz ?_
          refine AtT.kstoreA tk27 ?_
          refine AtC.kgo ?_
          refine AtC.kq (by (refine AtT.kassign ?_); exact At.knows) ?_
          exact AtC.done (At.mid2 b13 b14)
      focus
        refine AtC.nz ?_
        refine AtT.kalloc z27 ?_
        intro b13
        refine AtC.kgo ?_
        refine AtC.nz ?_
        refine AtT.kcallP rfl rfl ok43 (lined_f L o t _ _ hv' hL ho ht) ?_
        rintro _ rfl
        refine AtC.kgo ?_
        refine AtC.nz ?_
        refine AtT.kcallP rfl rfl ok43 (lined_f L r f _ _ hv' hL hr hf) ?_
        rintro _ rfl
        refine AtC.kgo ?_
        refine AtC.nz ?_
        refine AtT.kstoreA tk27 ?_
        refine AtC.kgo ?_
        refine AtC.nz ?_
        refine AtT.kstoreA tk27 ?_
        refine AtC.kgo ?_
        refine AtC.kq (by (refine AtT.kassign ?_); exact At.knows) ?_
        exact AtC.done (At.mid2 b13 b14)
  intro b13 b14
  refine At.nrm ?_
  refine At.re (d := 15) rfl (show iv (x.tmod 101) = iv xx from by rw [hxx]) ?_
  refine At.ktext (.q 0 (.q 1 (.n false 2 (.q 3 (.q 4 (.q 5 (.n false 6 (.n true 7 (.q 8 .done))))))))) ?_
  first | refine AtT.kloadOA tk25 ?_ | refine AtT.kloadA tk25 ?_ | refine AtT.kloadOP tk25 ?_
  first | refine AtT.kloadOA tk27 ?_ | refine AtT.kloadA tk27 ?_ | refine AtT.kloadOP tk27 ?_
  refine AtT.kcallP rfl rfl ok20 (core_val hv' (coreR_lined he o t)) ?_
  rintro _ rfl
  refine AtT.kmove ?_
  refine AtT.kextract ?_
  refine AtT.kextract ?_
  refine AtT.kalloc z31 ?_
  intro b16
  refine AtT.kstoreA tk31 ?_
  refine AtT.kassign ?_
  refine AtT.done ?_
  refine At.nrm ?_
  refine At.ktext (.q 0 (.q 1 (.n false 2 (.q 3 (.q 4 (.q 5 (.n false 6 (.n true 7 (.q 8 .done))))))))) ?_
  first | refine AtT.kloadOA tk25 ?_ | refine AtT.kloadA tk25 ?_ | refine AtT.kloadOP tk25 ?_
  first | refine AtT.kloadOA tk27 ?_ | refine AtT.kloadA tk27 ?_ | refine AtT.kloadOP tk27 ?_
  refine AtT.kcallP rfl rfl ok20 (core_val hv' (coreR_lined he r f)) ?_
  rintro _ rfl
  refine AtT.kmove ?_
  refine AtT.kextract ?_
  refine AtT.kextract ?_
  refine AtT.kalloc z31 ?_
  intro b18
  refine AtT.kstoreA tk31 ?_
  refine AtT.kassign ?_
  refine AtT.done ?_
  refine At.nrm ?_
  apply At.draw1 (.q 0 (.q 1 (.q 2 (.q 3 (.q 4 (.q 5 (.q 6 (.q 7 (.q 8 (.q 9 (.q 10 (.q 11 (.q 12 (.q 13 (.two 14 (.two 15 (.q 16 (.q 17 (.q 18 (.n false 19 (.n false 20 (.q 21 .done)))))) 19 (.n false 15 (.q 16 (.q 17 (.q 18 (.n false 20 (.q 21 .done))))))) 19 (.n false 14 (.n false 15 (.q 16 (.q 17 (.q 18 (.n false 20 (.q 21 .done)))))))))))))))))))))) ffm (by kernel_rfl)
  · refine AtC.start ?_
    refine AtC.pre (fun hle0 => ?_)
    refine AtC.kq (by (first | refine AtT.kloadOA tk25 ?_ | refine AtT.kloadA tk25 ?_ | refine AtT.kloadOP tk25 ?_); exact At.knows) ?_
    refine AtC.kq (by (first | refine AtT.kfieldO fo27_0 ?_ | with_reducible refine AtT.kfield2 fo27_0 ?_ | refine AtT.kfield fo27_0 ?_); exact At.knows) ?_
    refine AtC.kq (by (first | refine AtT.kloadO tk2 ?_ | refine AtT.kload tk2 ?_); exact At.knows) ?_
    refine AtC.kq (by (first | refine AtT.kmul ?_ | refine AtT.kmulW ?_); exact At.knows) ?_
    refine AtC.kq (by (first | refine AtT.kfieldO fo27_1 ?_ | with_reducible refine AtT.kfield2 fo27_1 ?_ | refine AtT.kfield fo27_1 ?_); exact At.knows) ?_
    refine AtC.kq (by (first | refine AtT.kloadO tk2 ?_ | refine AtT.kload tk2 ?_); exact At.knows) ?_
    refine AtC.kq (by (first | refine AtT.kfieldO fo27_1 ?_ | with_reducible refine AtT.kfield2 fo27_1 ?_ | refine AtT.kfield fo27_1 ?_); exact At.knows) ?_
    refine AtC.kq (by (first | refine AtT.kloadO tk2 ?_ | refine AtT.kload tk2 ?_); exact At.knows) ?_
    refine AtC.kq (by (first | refine AtT.kadd ?_ | refine AtT.kaddW ?_); exact At.knows) ?_
    refine AtC.kq (by (first | refine AtT.kfieldO fo27_2 ?_ | with_reducible refine AtT.kfield2 fo27_2 ?_ | refine AtT.kfield fo27_2 ?_); exact At.knows) ?_
    refine AtC.kq (by (first | refine AtT.kloadO tk2 ?_ | refine AtT.kload tk2 ?_); exact At.knows) ?_
    refine AtC.kq (by (first | refine AtT.kfieldO fo27_2 ?_ | with_reducible refine AtT.kfield2 fo27_2 ?_ | refine AtT.kfield fo27_2 ?_); exact At.knows) ?_
    refine AtC.kq (by (first | refine AtT.kloadO tk2 ?_ | refine AtT.kload tk2 ?_); exact At.knows) ?_
    refine AtC.kq (by (first | refine AtT.kadd ?_ | refine AtT.kaddW ?_); exact At.knows) ?_
    refine AtC.two ?_ ?_
    focus
      refine AtC.nz ?_
      refine AtT.kcallP rfl rfl ok47 (line47_f _ _ _ _) ?_
      rintro _ rfl
      refine AtC.kgo ?_
      refine AtC.two ?_ ?_
      focus
        refine AtC.nz ?_
        refine AtT.kcallP rfl rfl ok20 (core_val (x := halfV L o t r f) hv' (coreR_half he o t r f)) ?_
        rintro _ rfl
        refine AtC.kgo ?_
        refine AtC.kq (by (refine AtT.kmove ?_); exact At.knows) ?_
        refine AtC.kq (by (refine AtT.kextract ?_); exact At.knows) ?_
        refine AtC.kq (by (refine AtT.kextract ?_); exact At.knows) ?_
        refine AtC.nz ?_
        refine AtT.kalloc z31 ?_
        intro b20
        refine AtC.kgo ?_
        refine AtC.nz ?_
        refine AtT.kstoreA tk31 ?_
        refine AtC.kgo ?_
        refine AtC.kq (by (refine AtT.kassign ?_); exact At.knows) ?_
        exact AtC.done (fun a w hk hm => ⟨b20, hk, hm⟩)
      focus
        refine AtC.nz ?_
        refine AtT.kalloc z31 ?_
        intro b20
        refine AtC.kgo ?_
        refine AtC.nz ?_
        refine AtT.kcallP rfl rfl ok20 (core_val (x := halfV L o t r f) hv' (coreR_half he o t r f)) ?_
        rintro _ rfl
        refine AtC.kgo ?_
        refine AtC.kq (by (refine AtT.kmove ?_); exact At.knows) ?_
        refine AtC.kq (by (refine AtT.kextract ?_); exact At.knows) ?_
        refine AtC.kq (by (refine AtT.kextract ?_); exact At.knows) ?_
        refine AtC.nz ?_
        refine AtT.kstoreA tk31 ?_
        refine AtC.kgo ?_
        refine AtC.kq (by (refine AtT.kassign ?_); exact At.knows) ?_
        exact AtC.done (At.mid1 b20)
    focus
      refine AtC.nz ?_
      refine AtT.kalloc z31 ?_
      intro b20
      refine AtC.kgo ?_
      refine AtC.nz ?_
      refine AtT.kcallP rfl rfl ok47 (line47_f _ _ _ _) ?_
      rintro _ rfl
      refine AtC.kgo ?_
      refine AtC.nz ?_
      refine AtT.kcallP rfl rfl ok20 (core_val (x := halfV L o t r f) hv' (coreR_half he o t r f)) ?_
      rintro _ rfl
      refine AtC.kgo ?_
      refine AtC.kq (by (refine AtT.kmove ?_); exact At.knows) ?_
      refine AtC.kq (by (refine AtT.kextract ?_); exact At.knows) ?_
      refine AtC.kq (by (refine AtT.kextract ?_); exact At.knows) ?_
      refine AtC.nz ?_
      refine AtT.kstoreA tk31 ?_
      refine AtC.kgo ?_
      refine AtC.kq (by (refine AtT.kassign ?_); exact At.knows) ?_
      exact AtC.done (At.mid1 b20)
  intro b20
  refine At.nrm ?_
  -- not both are greater than what the line half and half keeps
  have hmin : ¬ ((coreOf L (halfV L o t r f)).q < (coreOf L (linedV L o t)).q ∧ (coreOf L (halfV L o t r f)).q < (coreOf L (linedV L r f)).q) := by
    rintro ⟨q1, q2⟩
    by_cases h : (coreOf L (linedV L o t)).q ≤ (coreOf L (linedV L r f)).q
    · have := half_core hL o t r f (Rat.le_refl) h; grind
    · have := half_core hL o t r f (c := (coreOf L (linedV L r f)).q) (by grind) (Rat.le_refl); grind
  refine At.cutG (ι := Unit) (fun _ => [(6, .pointer (some ⟨b6, 0, none⟩)), (13, .pointer (some ⟨b13, 0, none⟩)), (14, .pointer (some ⟨b14, 0, none⟩)), (15, iv xx), (16, .pointer (some ⟨b16, 0, none⟩)), (18, .pointer (some ⟨b18, 0, none⟩)), (20, .pointer (some ⟨b20, 0, none⟩)), (117, .bool false)])
    (fun _ => [.blk b6 (LC [.slice a L.pl.length c, .slice a' L.ed.length c'] 25), .blk b13 (LC [iv (linedV L o t).den, iv (linedV L o t).start, iv (linedV L o t).step] 27), .blk b14 (LC [iv (linedV L r f).den, iv (linedV L r f).start, iv (linedV L r f).step] 27), .blk b16 (LC (rte (coreOf L (linedV L o t))) 31), .blk b18 (LC (rte (coreOf L (linedV L r f))) 31), .blk b20 (LC (rte (coreOf L (halfV L o t r f))) 31)]) (fun _ V' => V = V') ?_ ?_
  · cases hl1 : lessB (coreOf L (halfV L o t r f)) (coreOf L (linedV L o t))
    · refine At.ktext (.q 0 (.q 1 (.q 2 (.q 3 (.q 4 (.q 5 (.q 6 (.q 7 (.q 8 (.q 9 (.q 10 (.q 11 (.q 12 (.q 13 (.q 14 (.q 15 (.q 16 (.q 17 (.q 18 (.q 19 (.q 20 (.q 21 (.q 22 (.q 23 (.q 24 (.q 25 (.q 26 (.q 27 (.q 28 (.q 29 (.q 30 (.q 31 (.q 32 (.q 33 (.q 34 (.q 35 (.q 36 (.q 37 (.n false 38 (.q 39 (.q 40 (.q 41 (.n false 42 (.q 43 (.q 44 .done))))))))))))))))))))))))))))))))))))))))))))) ?_
      refine AtT.kmove ?_
      refine AtT.kneI ?_
      refine AtT.kmove ?_
      all_goals (first | refine AtT.kL 75 ?_ | refine AtT.pcase (d := 75) rfl (fun hg75 => ?_) (fun hg75 => ?_) | refine AtT.bcase (d := 75) rfl (fun hg75 => ?_) (fun hg75 => ?_))
      all_goals (first | refine AtT.kpass ?_ | refine AtT.kpassU ?_ | ((refine AtT.kmove ?_)))
      all_goals (first | refine AtT.kpass ?_ | refine AtT.kpassU ?_ | ((refine AtT.kneI ?_)))
      all_goals (refine AtT.kpick ?_)
      all_goals (refine AtT.kmove ?_)
      all_goals (first | refine AtT.kL 79 ?_ | refine AtT.pcase (d := 79) rfl (fun hg79 => ?_) (fun hg79 => ?_) | refine AtT.bcase (d := 79) rfl (fun hg79 => ?_) (fun hg79 => ?_))
      all_goals (first | refine AtT.kpass ?_ | refine AtT.kpassU ?_ | ((refine AtT.kmove ?_)))
      all_goals (first | refine AtT.kpass ?_ | refine AtT.kpassU ?_ | ((refine AtT.kneI ?_)))
      all_goals (refine AtT.kpick ?_)
      all_goals (refine AtT.kmove ?_)
      all_goals (first | refine AtT.kL 83 ?_ | refine AtT.pcase (d := 83) rfl (fun hg83 => ?_) (fun hg83 => ?_) | refine AtT.bcase (d := 83) rfl (fun hg83 => ?_) (fun hg83 => ?_))
      all_goals (first | refine AtT.kpass ?_ | refine AtT.kpassU ?_ | ((first | refine AtT.kfieldO fo31_1 ?_ | with_reducible refine AtT.kfield2 fo31_1 ?_ | refine AtT.kfield fo31_1 ?_)))
      all_goals (first | refine AtT.kpass ?_ | refine AtT.kpassU ?_ | ((first | refine AtT.kloadO tk2 ?_ | refine AtT.kload tk2 ?_)))
      all_goals (first | refine AtT.kpass ?_ | refine AtT.kpassU ?_ | ((refine AtT.klss ?_)))
      all_goals (refine AtT.setF (d := 86) rfl (by omega) ?_)
      all_goals (refine AtT.kpick ?_)
      all_goals (refine AtT.kmove ?_)
      all_goals (first | refine AtT.kL 88 ?_ | refine AtT.pcase (d := 88) rfl (fun hg88 => ?_) (fun hg88 => ?_) | refine AtT.bcase (d := 88) rfl (fun hg88 => ?_) (fun hg88 => ?_))
      all_goals (first | refine AtT.kpass ?_ | refine AtT.kpassU ?_ | ((first | refine AtT.kfieldO fo31_1 ?_ | with_reducible refine AtT.kfield2 fo31_1 ?_ | refine AtT.kfield fo31_1 ?_)))
      all_goals (first | refine AtT.kpass ?_ | refine AtT.kpassU ?_ | ((first | refine AtT.kloadO tk2 ?_ | refine AtT.kload tk2 ?_)))
      all_goals (first | refine AtT.kpass ?_ | refine AtT.kpassU ?_ | ((refine AtT.klss ?_)))
      all_goals (refine AtT.setF (d := 91) rfl (by omega) ?_)
      all_goals (refine AtT.kpick ?_)
      all_goals (refine AtT.kmove ?_)
      all_goals (first | refine AtT.kL 93 ?_ | refine AtT.pcase (d := 93) rfl (fun hg93 => ?_) (fun hg93 => ?_) | refine AtT.bcase (d := 93) rfl (fun hg93 => ?_) (fun hg93 => ?_))
      all_goals (first | refine AtT.kpass ?_ | refine AtT.kpassU ?_ | ((first | refine AtT.kfieldO fo31_1 ?_ | with_reducible refine AtT.kfield2 fo31_1 ?_ | refine AtT.kfield fo31_1 ?_)))
      all_goals (first | refine AtT.kpass ?_ | refine AtT.kpassU ?_ | ((first | refine AtT.kloadO tk2 ?_ | refine AtT.kload tk2 ?_)))
      all_goals (first | refine AtT.kpass ?_ | refine AtT.kpassU ?_ | ((refine AtT.klss ?_)))
      all_goals (refine AtT.setF (d := 96) rfl (by omega) ?_)
      all_goals (refine AtT.kpick ?_)
      all_goals (refine AtT.kmove ?_)
      all_goals (first | refine AtT.kL 98 ?_ | refine AtT.pcase (d := 98) rfl (fun hg98 => ?_) (fun hg98 => ?_) | refine AtT.bcase (d := 98) rfl (fun hg98 => ?_) (fun hg98 => ?_))
      all_goals (first | refine AtT.kpass ?_ | refine AtT.kpassU ?_ | ((first | refine AtT.kfieldO fo31_1 ?_ | with_reducible refine AtT.kfield2 fo31_1 ?_ | refine AtT.kfield fo31_1 ?_)))
      all_goals (first | refine AtT.kpass ?_ | refine AtT.kpassU ?_ | ((first | refine AtT.kloadO tk2 ?_ | refine AtT.kload tk2 ?_)))
      all_goals (first | refine AtT.kpass ?_ | refine AtT.kpassU ?_ | ((first | refine AtT.kfieldO fo31_1 ?_ | with_reducible refine AtT.kfield2 fo31_1 ?_ | refine AtT.kfield fo31_1 ?_)))
      all_goals (first | refine AtT.kpass ?_ | refine AtT.kpassU ?_ | ((first | refine AtT.kloadO tk2 ?_ | refine AtT.kload tk2 ?_)))
      all_goals (first | refine AtT.kpass ?_ | refine AtT.kpassU ?_ | ((first | refine AtT.kfieldO fo31_1 ?_ | with_reducible refine AtT.kfield2 fo31_1 ?_ | refine AtT.kfield fo31_1 ?_)))
      all_goals (first | refine AtT.kpass ?_ | refine AtT.kpassU ?_ | ((first | refine AtT.kloadO tk2 ?_ | refine AtT.kload tk2 ?_)))
      all_goals (first | refine AtT.kpass ?_ | refine AtT.kpassU ?_ | ((refine AtT.max3 rfl ⟨_, _, rfl, rfl, rfl⟩ rfl rfl rfl (by decide) ?_)))
      all_goals (first | refine AtT.kpass ?_ | refine AtT.kpassU ?_ | ((refine AtT.kgtr ?_)))
      all_goals (refine AtT.setF (d := 106) rfl (by omega) ?_)
      all_goals (refine AtT.kpick ?_)
      all_goals (refine AtT.kmove ?_)
      all_goals (first | refine AtT.kL 108 ?_ | refine AtT.pcase (d := 108) rfl (fun hg108 => ?_) (fun hg108 => ?_) | refine AtT.bcase (d := 108) rfl (fun hg108 => ?_) (fun hg108 => ?_))
      all_goals (first | refine AtT.kpass ?_ | refine AtT.kpassU ?_ | ((first | refine AtT.kloadOA tk31 ?_ | refine AtT.kloadA tk31 ?_ | refine AtT.kloadOP tk31 ?_)))
      all_goals (first | refine AtT.kpass ?_ | refine AtT.kpassU ?_ | ((first | refine AtT.kloadOA tk31 ?_ | refine AtT.kloadA tk31 ?_ | refine AtT.kloadOP tk31 ?_)))
      all_goals (first | refine AtT.kpassN ?_ | refine AtT.kpassNU ?_ | ((refine AtT.kcallP rfl rfl ok45 (rless_f (coreOf L (halfV L o t r f)) (coreOf L (linedV L o t)) _ (sm_fit sm sa) (sm_fit sa sm)) ?_) ; (rintro _ rfl)))
      all_goals (refine AtT.setB (d := 111) rfl (hl1) ?_)
      all_goals (first | refine AtT.kpass ?_ | refine AtT.kpassU ?_ | ((refine AtT.kmove ?_)))
      all_goals (first | refine AtT.kL 112 ?_ | refine AtT.pcase (d := 112) rfl (fun hg112 => ?_) (fun hg112 => ?_) | refine AtT.bcase (d := 112) rfl (fun hg112 => ?_) (fun hg112 => ?_))
      all_goals (first | refine AtT.kpass ?_ | refine AtT.kpassU ?_ | ((first | refine AtT.kloadOA tk31 ?_ | refine AtT.kloadA tk31 ?_ | refine AtT.kloadOP tk31 ?_)))
      all_goals (first | refine AtT.kpass ?_ | refine AtT.kpassU ?_ | ((first | refine AtT.kloadOA tk31 ?_ | refine AtT.kloadA tk31 ?_ | refine AtT.kloadOP tk31 ?_)))
      all_goals (first | refine AtT.kpassN ?_ | refine AtT.kpassNU ?_ | ((fail)))
      all_goals (first | refine AtT.kpass ?_ | refine AtT.kpassU ?_ | ((refine AtT.kpick ?_)))
      all_goals (refine AtT.kpick ?_)
      all_goals refine AtT.done ?_
      all_goals (refine At.nrm ?_)
      exact At.meetG () rfl ⟨rfl, rfl, rfl, rfl, rfl, rfl, rfl, rfl, trivial⟩ Pt.auto
    · have hl2 : lessB (coreOf L (halfV L o t r f)) (coreOf L (linedV L r f)) = false := by
        cases hl : lessB (coreOf L (halfV L o t r f)) (coreOf L (linedV L r f)) with
        | false => rfl
        | true => exact absurd ⟨(lessB_q pm pa).1 hl1, (lessB_q pm pb).1 hl⟩ hmin
      refine At.ktext (.q 0 (.q 1 (.q 2 (.q 3 (.q 4 (.q 5 (.q 6 (.q 7 (.q 8 (.q 9 (.q 10 (.q 11 (.q 12 (.q 13 (.q 14 (.q 15 (.q 16 (.q 17 (.q 18 (.q 19 (.q 20 (.q 21 (.q 22 (.q 23 (.q 24 (.q 25 (.q 26 (.q 27 (.q 28 (.q 29 (.q 30 (.q 31 (.q 32 (.q 33 (.q 34 (.q 35 (.q 36 (.q 37 (.n false 38 (.q 39 (.q 40 (.q 41 (.n false 42 (.q 43 (.q 44 .done))))))))))))))))))))))))))))))))))))))))))))) ?_
      refine AtT.kmove ?_
      refine AtT.kneI ?_
      refine AtT.kmove ?_
      all_goals (first | refine AtT.kL 75 ?_ | refine AtT.pcase (d := 75) rfl (fun hg75 => ?_) (fun hg75 => ?_) | refine AtT.bcase (d := 75) rfl (fun hg75 => ?_) (fun hg75 => ?_))
      all_goals (first | refine AtT.kpass ?_ | refine AtT.kpassU ?_ | ((refine AtT.kmove ?_)))
      all_goals (first | refine AtT.kpass ?_ | refine AtT.kpassU ?_ | ((refine AtT.kneI ?_)))
      all_goals (refine AtT.kpick ?_)
      all_goals (refine AtT.kmove ?_)
      all_goals (first | refine AtT.kL 79 ?_ | refine AtT.pcase (d := 79) rfl (fun hg79 => ?_) (fun hg79 => ?_) | refine AtT.bcase (d := 79) rfl (fun hg79 => ?_) (fun hg79 => ?_))
      all_goals (first | refine AtT.kpass ?_ | refine AtT.kpassU ?_ | ((refine AtT.kmove ?_)))
      all_goals (first | refine AtT.kpass ?_ | refine AtT.kpassU ?_ | ((refine AtT.kneI ?_)))
      all_goals (refine AtT.kpick ?_)
      all_goals (refine AtT.kmove ?_)
      all_goals (first | refine AtT.kL 83 ?_ | refine AtT.pcase (d := 83) rfl (fun hg83 => ?_) (fun hg83 => ?_) | refine AtT.bcase (d := 83) rfl (fun hg83 => ?_) (fun hg83 => ?_))
      all_goals (first | refine AtT.kpass ?_ | refine AtT.kpassU ?_ | ((first | refine AtT.kfieldO fo31_1 ?_ | with_reducible refine AtT.kfield2 fo31_1 ?_ | refine AtT.kfield fo31_1 ?_)))
      all_goals (first | refine AtT.kpass ?_ | refine AtT.kpassU ?_ | ((first | refine AtT.kloadO tk2 ?_ | refine AtT.kload tk2 ?_)))
      all_goals (first | refine AtT.kpass ?_ | refine AtT.kpassU ?_ | ((refine AtT.klss ?_)))
      all_goals (refine AtT.setF (d := 86) rfl (by omega) ?_)
      all_goals (refine AtT.kpick ?_)
      all_goals (refine AtT.kmove ?_)
      all_goals (first | refine AtT.kL 88 ?_ | refine AtT.pcase (d := 88) rfl (fun hg88 => ?_) (fun hg88 => ?_) | refine AtT.bcase (d := 88) rfl (fun hg88 => ?_) (fun hg88 => ?_))
      all_goals (first | refine AtT.kpass ?_ | refine AtT.kpassU ?_ | ((first | refine AtT.kfieldO fo31_1 ?_ | with_reducible refine AtT.kfield2 fo31_1 ?_ | refine AtT.kfield fo31_1 ?_)))
      all_goals (first | refine AtT.kpass ?_ | refine AtT.kpassU ?_ | ((first | refine AtT.kloadO tk2 ?_ | refine AtT.kload tk2 ?_)))
      all_goals (first | refine AtT.kpass ?_ | refine AtT.kpassU ?_ | ((refine AtT.klss ?_)))
      all_goals (refine AtT.setF (d := 91) rfl (by omega) ?_)
      all_goals (refine AtT.kpick ?_)
      all_goals (refine AtT.kmove ?_)
      all_goals (first | refine AtT.kL 93 ?_ | refine AtT.pcase (d := 93) rfl (fun hg93 => ?_) (fun hg93 => ?_) | refine AtT.bcase (d := 93) rfl (fun hg93 => ?_) (fun hg93 => ?_))
      all_goals (first | refine AtT.kpass ?_ | refine AtT.kpassU ?_ | ((first | refine AtT.kfieldO fo31_1 ?_ | with_reducible refine AtT.kfield2 fo31_1 ?_ | refine AtT.kfield fo31_1 ?_)))
      all_goals (first | refine AtT.kpass ?_ | refine AtT.kpassU ?_ | ((first | refine AtT.kloadO tk2 ?_ | refine AtT.kload tk2 ?_)))
      all_goals (first | refine AtT.kpass ?_ | refine AtT.kpassU ?_ | ((refine AtT.klss ?_)))
      all_goals (refine AtT.setF (d := 96) rfl (by omega) ?_)
      all_goals (refine AtT.kpick ?_)
      all_goals (refine AtT.kmove ?_)
      all_goals (first | refine AtT.kL 98 ?_ | refine AtT.pcase (d := 98) rfl (fun hg98 => ?_) (fun hg98 => ?_) | refine AtT.bcase (d := 98) rfl (fun hg98 => ?_) (fun hg98 => ?_))
      all_goals (first | refine AtT.kpass ?_ | refine AtT.kpassU ?_ | ((first | refine AtT.kfieldO fo31_1 ?_ | with_reducible refine AtT.kfield2 fo31_1 ?_ | refine AtT.kfield fo31_1 ?_)))
      all_goals (first | refine AtT.kpass ?_ | refine AtT.kpassU ?_ | ((first | refine AtT.kloadO tk2 ?_ | refine AtT.kload tk2 ?_)))
      all_goals (first | refine AtT.kpass ?_ | refine AtT.kpassU ?_ | ((first | refine AtT.kfieldO fo31_1 ?_ | with_reducible refine AtT.kfield2 fo31_1 ?_ | refine AtT.kfield fo31_1 ?_)))
      all_goals (first | refine AtT.kpass ?_ | refine AtT.kpassU ?_ | ((first | refine AtT.kloadO tk2 ?_ | refine AtT.kload tk2 ?_)))
      all_goals (first | refine AtT.kpass ?_ | refine AtT.kpassU ?_ | ((first | refine AtT.kfieldO fo31_1 ?_ | with_reducible refine AtT.kfield2 fo31_1 ?_ | refine AtT.kfield fo31_1 ?_)))
      all_goals (first | refine AtT.kpass ?_ | refine AtT.kpassU ?_ | ((first | refine AtT.kloadO tk2 ?_ | refine AtT.kload tk2 ?_)))
      all_goals (first | refine AtT.kpass ?_ | refine AtT.kpassU ?_ | ((refine AtT.max3 rfl ⟨_, _, rfl, rfl, rfl⟩ rfl rfl rfl (by decide) ?_)))
      all_goals (first | refine AtT.kpass ?_ | refine AtT.kpassU ?_ | ((refine AtT.kgtr ?_)))
      all_goals (refine AtT.setF (d := 106) rfl (by omega) ?_)
      all_goals (refine AtT.kpick ?_)
      all_goals (refine AtT.kmove ?_)
      all_goals (first | refine AtT.kL 108 ?_ | refine AtT.pcase (d := 108) rfl (fun hg108 => ?_) (fun hg108 => ?_) | refine AtT.bcase (d := 108) rfl (fun hg108 => ?_) (fun hg108 => ?_))
      all_goals (first | refine AtT.kpass ?_ | refine AtT.kpassU ?_ | ((first | refine AtT.kloadOA tk31 ?_ | refine AtT.kloadA tk31 ?_ | refine AtT.kloadOP tk31 ?_)))
      all_goals (first | refine AtT.kpass ?_ | refine AtT.kpassU ?_ | ((first | refine AtT.kloadOA tk31 ?_ | refine AtT.kloadA tk31 ?_ | refine AtT.kloadOP tk31 ?_)))
      all_goals (first | refine AtT.kpassN ?_ | refine AtT.kpassNU ?_ | ((refine AtT.kcallP rfl rfl ok45 (rless_f (coreOf L (halfV L o t r f)) (coreOf L (linedV L o t)) _ (sm_fit sm sa) (sm_fit sa sm)) ?_) ; (rintro _ rfl)))
      all_goals (refine AtT.setB (d := 111) rfl (hl1) ?_)
      all_goals (first | refine AtT.kpass ?_ | refine AtT.kpassU ?_ | ((refine AtT.kmove ?_)))
      all_goals (first | refine AtT.kL 112 ?_ | refine AtT.pcase (d := 112) rfl (fun hg112 => ?_) (fun hg112 => ?_) | refine AtT.bcase (d := 112) rfl (fun hg112 => ?_) (fun hg112 => ?_))
      all_goals (first | refine AtT.kpass ?_ | refine AtT.kpassU ?_ | ((first | refine AtT.kloadOA tk31 ?_ | refine AtT.kloadA tk31 ?_ | refine AtT.kloadOP tk31 ?_)))
      all_goals (first | refine AtT.kpass ?_ | refine AtT.kpassU ?_ | ((first | refine AtT.kloadOA tk31 ?_ | refine AtT.kloadA tk31 ?_ | refine AtT.kloadOP tk31 ?_)))
      all_goals (first | refine AtT.kpassN ?_ | refine AtT.kpassNU ?_ | ((refine AtT.kcallP rfl rfl ok45 (rless_f (coreOf L (halfV L o t r f)) (coreOf L (linedV L r f)) _ (sm_fit sm sb) (sm_fit sb sm)) ?_) ; (rintro _ rfl)))
      all_goals (refine AtT.setB (d := 115) rfl (hl2) ?_)
      all_goals (first | refine AtT.kpass ?_ | refine AtT.kpassU ?_ | ((refine AtT.kpick ?_)))
      all_goals (refine AtT.kpick ?_)
      all_goals refine AtT.done ?_
      all_goals (refine At.nrm ?_)
      exact At.meetG () rfl ⟨rfl, rfl, rfl, rfl, rfl, rfl, rfl, rfl, trivial⟩ Pt.auto
  rintro _ V' ks' O' rfl hk hO hl0
  subst hk hO
  refine At.condF rfl rfl ?_
  refine At.nrm ?_
  have htm := tmod_lt (coreOf L (linedV L o t)).num pa
  refine At.draw (.q 0 (.q 1 (.q 2 (.q 3 (.q 4 (.q 5 (.q 6 (.q 7 (.q 8 (.q 9 (.q 10 (.q 11 .done)))))))))))) ffm (by kernel_rfl) ?_
  first | refine AtT.kfieldO fo31_0 ?_ | with_reducible refine AtT.kfield2 fo31_0 ?_ | refine AtT.kfield fo31_0 ?_
  first | refine AtT.kloadO tk2 ?_ | refine AtT.kload tk2 ?_
  first | refine AtT.kfieldO fo31_0 ?_ | with_reducible refine AtT.kfield2 fo31_0 ?_ | refine AtT.kfield fo31_0 ?_
  first | refine AtT.kloadO tk2 ?_ | refine AtT.kload tk2 ?_
  first | refine AtT.kfieldO fo31_1 ?_ | with_reducible refine AtT.kfield2 fo31_1 ?_ | refine AtT.kfield fo31_1 ?_
  first | refine AtT.kloadO tk2 ?_ | refine AtT.kload tk2 ?_
  refine AtT.krem ?_
  first | refine AtT.ksubt ?_ | refine AtT.ksubW ?_
  first | refine AtT.kfieldO fo31_1 ?_ | with_reducible refine AtT.kfield2 fo31_1 ?_ | refine AtT.kfield fo31_1 ?_
  first | refine AtT.kloadO tk2 ?_ | refine AtT.kload tk2 ?_
  refine AtT.kquo ?_
  refine AtT.kassign ?_
  refine AtT.done ?_
  refine At.nrm ?_
  refine At.cutG (ι := Unit) (fun _ => [(6, .pointer (some ⟨b6, 0, none⟩)), (13, .pointer (some ⟨b13, 0, none⟩)), (14, .pointer (some ⟨b14, 0, none⟩)), (15, iv xx), (16, .pointer (some ⟨b16, 0, none⟩)), (22, iv (((coreOf L (linedV L o t)).num - (coreOf L (linedV L o t)).num.tmod (coreOf L (linedV L o t)).den).tdiv (coreOf L (linedV L o t)).den)), (139, .bool (decide ((coreOf L (linedV L o t)).num < 0 ∧ (coreOf L (linedV L o t)).num.tmod (coreOf L (linedV L o t)).den ≠ 0)))]) (fun _ => [.blk b6 (LC [.slice a L.pl.length c, .slice a' L.ed.length c'] 25), .blk b13 (LC [iv (linedV L o t).den, iv (linedV L o t).start, iv (linedV L o t).step] 27), .blk b16 (LC (rte (coreOf L (linedV L o t))) 31)]) (fun _ V' => V = V') ?_ ?_
  · refine At.ktext (.q 0 (.q 1 (.q 2 (.q 3 (.q 4 (.q 5 (.q 6 (.q 7 (.q 8 (.q 9 (.q 10 .done))))))))))) ?_
    first | refine AtT.kfieldO fo31_0 ?_ | with_reducible refine AtT.kfield2 fo31_0 ?_ | refine AtT.kfield fo31_0 ?_
    first | refine AtT.kloadO tk2 ?_ | refine AtT.kload tk2 ?_
    refine AtT.klss ?_
    refine AtT.kmove ?_
    all_goals (first | refine AtT.kL 132 ?_ | refine AtT.pcase (d := 132) rfl (fun hg132 => ?_) (fun hg132 => ?_) | refine AtT.bcase (d := 132) rfl (fun hg132 => ?_) (fun hg132 => ?_))
    all_goals (first | refine AtT.kpass ?_ | refine AtT.kpassU ?_ | ((first | refine AtT.kfieldO fo31_0 ?_ | with_reducible refine AtT.kfield2 fo31_0 ?_ | refine AtT.kfield fo31_0 ?_)))
    all_goals (first | refine AtT.kpass ?_ | refine AtT.kpassU ?_ | ((first | refine AtT.kloadO tk2 ?_ | refine AtT.kload tk2 ?_)))
    all_goals (first | refine AtT.kpass ?_ | refine AtT.kpassU ?_ | ((first | refine AtT.kfieldO fo31_1 ?_ | with_reducible refine AtT.kfield2 fo31_1 ?_ | refine AtT.kfield fo31_1 ?_)))
    all_goals (first | refine AtT.kpass ?_ | refine AtT.kpassU ?_ | ((first | refine AtT.kloadO tk2 ?_ | refine AtT.kload tk2 ?_)))
    all_goals (first | refine AtT.kpass ?_ | refine AtT.kpassU ?_ | ((refine AtT.krem ?_)))
    all_goals (first | refine AtT.kpass ?_ | refine AtT.kpassU ?_ | ((refine AtT.kneI ?_)))
    all_goals (refine AtT.kpick ?_)
    all_goals refine AtT.done ?_
    all_goals (refine At.nrm ?_)
    all_goals (refine At.meetG () rfl ⟨rfl, rfl, rfl, rfl, rfl, rfl, bsome ?_, trivial⟩ Pt.auto)
    all_goals (rw [Bool.eq_iff_iff]; simp [*])
  rintro _ V' ks' O' rfl hk hO hl0'
  subst hk hO
  refine At.nrm ?_
  refine At.cutG (ι := Unit) (fun _ => [(6, .pointer (some ⟨b6, 0, none⟩)), (13, .pointer (some ⟨b13, 0, none⟩)), (14, .pointer (some ⟨b14, 0, none⟩)), (15, iv xx), (16, .pointer (some ⟨b16, 0, none⟩)), (22, iv (floorV (coreOf L (linedV L o t)).num (coreOf L (linedV L o t)).den))]) (fun _ => [.blk b6 (LC [.slice a L.pl.length c, .slice a' L.ed.length c'] 25), .blk b13 (LC [iv (linedV L o t).den, iv (linedV L o t).start, iv (linedV L o t).step] 27), .blk b16 (LC (rte (coreOf L (linedV L o t))) 31)]) (fun _ V' => V = V') ?_ ?_
  · refine At.condP rfl (fun hc => ?_) (fun hc => ?_)
    · refine At.nrm ?_
      refine At.ktext (.q 0 (.q 1 (.q 2 .done))) ?_
      refine AtT.kmove ?_
      first | refine AtT.ksubt ?_ | refine AtT.ksubW ?_
      refine AtT.kassign ?_
      refine AtT.done ?_
      refine At.nrm ?_
      exact At.meetG () rfl ⟨rfl, rfl, rfl, rfl, rfl, ivs (by unfold floorV; rw [if_pos hc]), trivial⟩ Pt.auto
    · refine At.nrm ?_
      exact At.meetG () rfl ⟨rfl, rfl, rfl, rfl, rfl, ivs (by unfold floorV; rw [if_neg hc]), trivial⟩ Pt.auto
  rintro _ V' ks' O' rfl hk hO hl1
  subst hk hO
  obtain ⟨cc, hcc⟩ : ∃ cc, cc = floorV (coreOf L (linedV L o t)).num (coreOf L (linedV L o t)).den := ⟨_, rfl⟩
  rw [← hcc] at hfl ⊢
  refine At.nrm ?_
  refine At.ktext (.q 0 (.q 1 .done)) ?_
  refine AtT.kmove ?_
  refine AtT.klss ?_
  refine AtT.done ?_
  refine At.nrm ?_
  refine At.condP rfl (fun hc => ?_) (fun hc => ?_)
  · refine At.nrm ?_
    refine At.ktext (.n false 0 (.q 1 .done)) ?_
    refine AtT.kcallP rfl rfl ok19 (works_f _) ?_
    rintro _ rfl
    refine AtT.kassign ?_
    refine AtT.done ?_
    refine At.nrm ?_
    exact At.ret1 rfl (.tmp rfl) rfl
  have hks := kept_spec hL ba.1 (xx := xx) hfl.1 (by omega) hx0
  have hcb : -2000 ≤ cc ∧ cc ≤ 2000 := ⟨by omega, by omega⟩
  have hs := hg_spec hL hcb hx0 hks.2.1
  have hin := hks.2.2 hs
  rcases hgh_cases he hcb hx0 with ⟨hv1, _⟩ | ⟨_, hg⟩
  · exact absurd hks.2.1 hv1
  have f1 := hs.f1
  have f2 := hs.f2
  have p1 := f1.can.pos
  have p2 := f2.can.pos
  have d1 := f1.d
  have d2 := f2.d
  have l1 := f1.lo
  have l2 := f2.lo
  have u1 := f1.hi
  have u2 := f2.hi
  have mst := mul_bd (a := (linedV L o t).step) (b := xx) (A := 4000) (B := 100) (by decide) (by decide) (by omega) (by omega) (by omega) (by omega)
  have mh1 := mul_bd (a := (linedV L o t).start + (linedV L o t).step * xx) (b := (defH L cc xx).1.den) (A := 800000) (B := 200) (by decide) (by decide) (by omega) (by omega) (by omega) (by omega)
  have mh2 := mul_bd (a := (linedV L o t).start + (linedV L o t).step * xx) (b := (defH L cc xx).2.den) (A := 800000) (B := 200) (by decide) (by decide) (by omega) (by omega) (by omega) (by omega)
  have mn1 := mul_bd (a := (defH L cc xx).1.num) (b := (linedV L o t).den) (A := 200000000) (B := 100) (by decide) (by decide) (by omega) (by omega) (by omega) (by omega)
  have mn2 := mul_bd (a := (defH L cc xx).2.num) (b := (linedV L o t).den) (A := 200000000) (B := 100) (by decide) (by decide) (by omega) (by omega) (by omega) (by omega)
  refine At.nrm ?_
  refine At.ktext (.q 0 (.q 1 (.q 2 (.n false 3 (.q 4 (.q 5 (.q 6 (.q 7 (.n false 8 (.n false 9 (.n true 10 (.n true 11 (.q 12 .done))))))))))))) ?_
  first | refine AtT.kloadOA tk25 ?_ | refine AtT.kloadA tk25 ?_ | refine AtT.kloadOP tk25 ?_
  refine AtT.kmove ?_
  refine AtT.kmove ?_
  refine AtT.kcallP rfl rfl ok34 (hgh_val hv' hg) ?_
  rintro _ rfl
  refine AtT.kmove ?_
  refine AtT.kextract ?_
  refine AtT.kextract ?_
  refine AtT.kextract ?_
  refine AtT.kalloc z31 ?_
  intro b23
  refine AtT.kalloc z31 ?_
  intro b24
  refine AtT.kstoreA tk31 ?_
  refine AtT.kstoreA tk31 ?_
  refine AtT.kassign ?_
  refine AtT.done ?_
  refine At.nrm ?_
  refine At.ktext (.q 0 (.q 1 (.q 2 (.q 3 (.n false 4 (.q 5 (.q 6 (.q 7 (.q 8 (.n false 9 (.q 10 (.q 11 .done)))))))))))) ?_
  refine AtT.kmove ?_
  refine AtT.kneI ?_
  refine AtT.kmove ?_
  all_goals (first | refine AtT.kL 155 ?_ | refine AtT.pcase (d := 155) rfl (fun hg155 => ?_) (fun hg155 => ?_) | refine AtT.bcase (d := 155) rfl (fun hg155 => ?_) (fun hg155 => ?_))
  all_goals (first | refine AtT.kpass ?_ | refine AtT.kpassU ?_ | ((first | refine AtT.kloadOA tk31 ?_ | refine AtT.kloadA tk31 ?_ | refine AtT.kloadOP tk31 ?_)))
  all_goals (first | refine AtT.kpassN ?_ | refine AtT.kpassNU ?_ | ((refine AtT.kcallP rfl rfl ok48 (fit_f _ f1 _) ?_) ; (rintro _ rfl)))
  all_goals (first | refine AtT.kpass ?_ | refine AtT.kpassU ?_ | ((refine AtT.knot ?_)))
  all_goals (refine AtT.kpick ?_)
  all_goals (refine AtT.kmove ?_)
  all_goals (first | refine AtT.kL 160 ?_ | refine AtT.pcase (d := 160) rfl (fun hg160 => ?_) (fun hg160 => ?_) | refine AtT.bcase (d := 160) rfl (fun hg160 => ?_) (fun hg160 => ?_))
  all_goals (first | refine AtT.kpass ?_ | refine AtT.kpassU ?_ | ((first | refine AtT.kloadOA tk31 ?_ | refine AtT.kloadA tk31 ?_ | refine AtT.kloadOP tk31 ?_)))
  all_goals (first | refine AtT.kpassN ?_ | refine AtT.kpassNU ?_ | ((refine AtT.kcallP rfl rfl ok48 (fit_f _ f2 _) ?_) ; (rintro _ rfl)))
  all_goals (first | refine AtT.kpass ?_ | refine AtT.kpassU ?_ | ((refine AtT.knot ?_)))
  all_goals (refine AtT.kpick ?_)
  all_goals refine AtT.done ?_
  all_goals (refine At.nrm ?_)
  refine At.condF rfl rfl ?_
  refine At.nrm ?_
  refine At.ktext (.q 0 (.q 1 (.q 2 (.q 3 (.q 4 (.q 5 (.q 6 (.q 7 .done)))))))) ?_
  first | refine AtT.kfieldO fo27_1 ?_ | with_reducible refine AtT.kfield2 fo27_1 ?_ | refine AtT.kfield fo27_1 ?_
  first | refine AtT.kloadO tk2 ?_ | refine AtT.kload tk2 ?_
  first | refine AtT.kfieldO fo27_2 ?_ | with_reducible refine AtT.kfield2 fo27_2 ?_ | refine AtT.kfield fo27_2 ?_
  first | refine AtT.kloadO tk2 ?_ | refine AtT.kload tk2 ?_
  refine AtT.kmove ?_
  first | refine AtT.kmul ?_ | refine AtT.kmulW ?_
  first | refine AtT.kadd ?_ | refine AtT.kaddW ?_
  refine AtT.kassign ?_
  refine AtT.done ?_
  refine At.nrm ?_
  refine At.ktext (.q 0 (.q 1 (.q 2 (.q 3 (.q 4 (.q 5 (.q 6 (.q 7 (.q 8 (.q 9 (.q 10 (.q 11 (.q 12 (.q 13 (.q 14 (.q 15 (.q 16 (.q 17 (.q 18 (.q 19 (.q 20 (.q 21 (.q 22 (.n false 23 (.q 24 (.q 25 .done)))))))))))))))))))))))))) ?_
  first | refine AtT.kfieldO fo31_0 ?_ | with_reducible refine AtT.kfield2 fo31_0 ?_ | refine AtT.kfield fo31_0 ?_
  first | refine AtT.kloadO tk2 ?_ | refine AtT.kload tk2 ?_
  first | refine AtT.kfieldO fo27_0 ?_ | with_reducible refine AtT.kfield2 fo27_0 ?_ | refine AtT.kfield fo27_0 ?_
  first | refine AtT.kloadO tk2 ?_ | refine AtT.kload tk2 ?_
  first | refine AtT.kmul ?_ | refine AtT.kmulW ?_
  refine AtT.kmove ?_
  first | refine AtT.kfieldO fo31_1 ?_ | with_reducible refine AtT.kfield2 fo31_1 ?_ | refine AtT.kfield fo31_1 ?_
  first | refine AtT.kloadO tk2 ?_ | refine AtT.kload tk2 ?_
  first | refine AtT.kmul ?_ | refine AtT.kmulW ?_
  refine AtT.kleq ?_
  refine AtT.setT (d := 181) rfl (hin.1) ?_
  refine AtT.kmove ?_
  all_goals (first | refine AtT.kL 182 ?_ | refine AtT.pcase (d := 182) rfl (fun hg182 => ?_) (fun hg182 => ?_) | refine AtT.bcase (d := 182) rfl (fun hg182 => ?_) (fun hg182 => ?_))
  all_goals (first | refine AtT.kpass ?_ | refine AtT.kpassU ?_ | ((refine AtT.kmove ?_)))
  all_goals (first | refine AtT.kpass ?_ | refine AtT.kpassU ?_ | ((first | refine AtT.kfieldO fo31_1 ?_ | with_reducible refine AtT.kfield2 fo31_1 ?_ | refine AtT.kfield fo31_1 ?_)))
  all_goals (first | refine AtT.kpass ?_ | refine AtT.kpassU ?_ | ((first | refine AtT.kloadO tk2 ?_ | refine AtT.kload tk2 ?_)))
  all_goals (first | refine AtT.kpass ?_ | refine AtT.kpassU ?_ | ((first | refine AtT.kmul ?_ | refine AtT.kmulW ?_)))
  all_goals (first | refine AtT.kpass ?_ | refine AtT.kpassU ?_ | ((first | refine AtT.kfieldO fo31_0 ?_ | with_reducible refine AtT.kfield2 fo31_0 ?_ | refine AtT.kfield fo31_0 ?_)))
  all_goals (first | refine AtT.kpass ?_ | refine AtT.kpassU ?_ | ((first | refine AtT.kloadO tk2 ?_ | refine AtT.kload tk2 ?_)))
  all_goals (first | refine AtT.kpass ?_ | refine AtT.kpassU ?_ | ((first | refine AtT.kfieldO fo27_0 ?_ | with_reducible refine AtT.kfield2 fo27_0 ?_ | refine AtT.kfield fo27_0 ?_)))
  all_goals (first | refine AtT.kpass ?_ | refine AtT.kpassU ?_ | ((first | refine AtT.kloadO tk2 ?_ | refine AtT.kload tk2 ?_)))
  all_goals (first | refine AtT.kpass ?_ | refine AtT.kpassU ?_ | ((first | refine AtT.kmul ?_ | refine AtT.kmulW ?_)))
  all_goals (first | refine AtT.kpass ?_ | refine AtT.kpassU ?_ | ((refine AtT.kleq ?_)))
  all_goals (refine AtT.setT (d := 192) rfl (hin.2) ?_)
  all_goals (refine AtT.kpick ?_)
  all_goals (refine AtT.kmove ?_)
  all_goals (first | refine AtT.kL 194 ?_ | refine AtT.pcase (d := 194) rfl (fun hg194 => ?_) (fun hg194 => ?_) | refine AtT.bcase (d := 194) rfl (fun hg194 => ?_) (fun hg194 => ?_))
  all_goals (first | refine AtT.kpassN ?_ | refine AtT.kpassNU ?_ | ((refine AtT.kcallP rfl rfl ok19 (works_f _) ?_) ; (rintro _ rfl)))
  all_goals (refine AtT.kpick ?_)
  all_goals (refine AtT.kassign ?_)
  all_goals refine AtT.done ?_
  all_goals (refine At.nrm ?_)
  exact At.ret1 rfl (.tmp rfl) rfl
end Go.Proofs.Ytnionkopmncopaa
