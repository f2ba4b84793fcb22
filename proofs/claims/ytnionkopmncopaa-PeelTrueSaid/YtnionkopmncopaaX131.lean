/- In a given truth of a rough log the best core is within its span; with narrower bounds of a place the span is no wider: for every rough log, list of numbers and place. No condition. -/
import Derived.Test.YtnionkopmncopaaB5
set_option linter.unusedVariables false
set_option linter.unusedSimpArgs false
set_option linter.unusedSectionVars false
set_option linter.unusedVariables false
namespace Go.Proofs.Ytnionkopmncopaa
open Go.Pl

theorem best_mono {L X : Lg} (hL : LgOk L) (hX : LgOk X) (h : ∀ c h s, Keeps L c h s → ∃ h' s', Keeps X c h' s') : (bestV L).q ≤ (bestV X).q := by
  obtain ⟨_, _, h0, s0, _, _, hk, _⟩ := best_line hL
  obtain ⟨h1, s1, hk'⟩ := h _ _ _ hk
  exact keeps_best hX hk'
theorem best_same {L X : Lg} (hL : LgOk L) (hX : LgOk X) (h : ∀ c h s, Keeps L c h s → ∃ h' s', Keeps X c h' s') (h' : ∀ c h s, Keeps X c h s → ∃ h' s', Keeps L c h' s') : bestV L = bestV X := by
  refine can_ext (best_can hL) (best_can hX) ?_
  have := best_mono hL hX h
  have := best_mono hX hL h'
  grind

/-! ### Moved by a line -/
def movR (hh ss : Int) (x : Int) (e : Rg) : Rg := ⟨e.lo + (hh + ss * x), e.hi + (hh + ss * x)⟩
def movedL (L : Lg) (hh ss : Int) : Lg := ⟨L.pl, List.zipWith (movR hh ss) L.pl L.ed⟩
theorem movedL_pl (L : Lg) (hh ss : Int) (i : Int) : plP (movedL L hh ss) i = plP L i := rfl
theorem movedL_at {L : Lg} (hL : LgOk L) (hh ss : Int) {i : Nat} (hi : i < L.pl.length) : (movedL L hh ss).ed[i]? = some (movR hh ss (plP L i) (edP L i)) := by
  simp only [movedL, List.getElem?_zipWith, plP_at hi, edP_at (L := L) (i := i) (by have := hL.el; omega)]
theorem movedL_ed {L : Lg} (hL : LgOk L) (hh ss : Int) {i : Nat} (hi : i < L.pl.length) : edP (movedL L hh ss) i = movR hh ss (plP L i) (edP L i) := (edP_some (i := (i : Int)) (movedL_at hL hh ss hi)).symm
theorem moved_keeps {L : Lg} (hL : LgOk L) (hh ss : Int) (c h s : Rat) : Keeps (movedL L hh ss) c (h + hh) (s + ss) ↔ Keeps L c h s := by
  have e : ∀ m, m < L.pl.length → loq (movedL L hh ss) c m = loq L c m + (hh + ss * Xq L m) ∧ hiq (movedL L hh ss) c m = hiq L c m + (hh + ss * Xq L m) := fun m hm => by
    simp only [loq, hiq, movedL_ed hL hh ss hm, movR, Xq]
    push_cast
    exact ⟨by grind, by grind⟩
  have eX : ∀ m, Xq (movedL L hh ss) m = Xq L m := fun m => rfl
  constructor
  · intro hk m hm
    have := hk m hm
    rw [(e m hm).1, (e m hm).2, eX] at this
    exact ⟨by grind, by grind⟩
  · intro hk m hm
    have := hk m hm
    rw [(e m hm).1, (e m hm).2, eX]
    exact ⟨by grind, by grind⟩
theorem moved_best {L : Lg} (hL : LgOk L) (hh ss : Int) (hX : LgOk (movedL L hh ss)) : bestV L = bestV (movedL L hh ss) := by
  refine best_same hL hX (fun c h s hk => ⟨_, _, (moved_keeps hL hh ss c h s).2 hk⟩) (fun c h s hk => ⟨h - hh, s - ss, (moved_keeps hL hh ss c _ _).1 ?_⟩)
  have e1 : h - (hh : Rat) + hh = h := by grind
  have e2 : s - (ss : Rat) + ss = s := by grind
  rw [e1, e2]; exact hk
def movLn (y : Ln) (hh ss : Int) : Ln := ⟨y.den, y.start + y.den * hh, y.step + y.den * ss⟩
theorem moved_core {L : Lg} (hL : LgOk L) (hh ss : Int) (hX : LgOk (movedL L hh ss)) {y : Ln} (hy : 0 < y.den) : coreOf (movedL L hh ss) (movLn y hh ss) = coreOf L y := by
  have hdn := cne hy
  have key : ∀ c : Rat, c ≤ (coreOf (movedL L hh ss) (movLn y hh ss)).q ↔ c ≤ (coreOf L y).q := fun c => by
    rw [core_keeps hX (x := movLn y hh ss) hy, core_keeps hL hy, ← moved_keeps hL hh ss]
    have e1 : ((movLn y hh ss).start : Rat) / ((movLn y hh ss).den : Rat) = (y.start : Rat) / y.den + hh := by simp only [movLn]; push_cast; grind
    have e2 : ((movLn y hh ss).step : Rat) / ((movLn y hh ss).den : Rat) = (y.step : Rat) / y.den + ss := by simp only [movLn]; push_cast; grind
    rw [e1, e2]
  refine can_ext (core_can (x := movLn y hh ss) hy) (core_can hy) ?_
  have a := (key _).1 Rat.le_refl
  have b := (key _).2 Rat.le_refl
  grind

/-! ### Scaled -/
def sclR (t : Int) (e : Rg) : Rg := ⟨t * e.lo, t * e.hi⟩
def sclE (L : Lg) (t : Int) : Lg := ⟨L.pl, L.ed.map (sclR t)⟩
def farP (L : Lg) (m : Int) : Lg := ⟨L.pl.map (· + m), L.ed⟩
def sclP (L : Lg) (t : Int) : Lg := ⟨L.pl.map (t * ·), L.ed⟩
theorem sclE_ed {L : Lg} (hL : LgOk L) (t : Int) {i : Nat} (hi : i < L.pl.length) : edP (sclE L t) i = sclR t (edP L i) := by
  have h : (sclE L t).ed[i]? = some (sclR t (edP L i)) := by simp only [sclE, List.getElem?_map, edP_at (L := L) (i := i) (by have := hL.el; omega)]; rfl
  exact (edP_some (i := (i : Int)) h).symm
theorem farP_pl {L : Lg} (m : Int) {i : Nat} (hi : i < L.pl.length) : plP (farP L m) i = plP L i + m := by
  have h : (farP L m).pl[i]? = some (plP L i + m) := by simp only [farP, List.getElem?_map, plP_at hi]; rfl
  exact (plP_some (i := (i : Int)) h).symm
theorem sclP_pl {L : Lg} (t : Int) {i : Nat} (hi : i < L.pl.length) : plP (sclP L t) i = t * plP L i := by
  have h : (sclP L t).pl[i]? = some (t * plP L i) := by simp only [sclP, List.getElem?_map, plP_at hi]; rfl
  exact (plP_some (i := (i : Int)) h).symm
theorem sclE_keeps {L : Lg} (hL : LgOk L) {t : Int} (ht : 0 < t) (c h s : Rat) : Keeps (sclE L t) (t * c) (t * h) (t * s) ↔ Keeps L c h s := by
  have tp := cpos ht
  have e : ∀ m, m < L.pl.length → loq (sclE L t) (t * c) m = loq L c m * t ∧ hiq (sclE L t) (t * c) m = hiq L c m * t := fun m hm => by
    simp only [loq, hiq, sclE_ed hL t hm, sclR]
    push_cast
    exact ⟨by grind, by grind⟩
  have eX : ∀ m, Xq (sclE L t) m = Xq L m := fun m => rfl
  have e3 : ∀ m, (t : Rat) * h + t * s * Xq L m = (h + s * Xq L m) * t := fun m => by grind
  constructor
  · intro hk m hm
    have := hk m hm
    rw [(e m hm).1, (e m hm).2, eX, e3] at this
    exact ⟨rle_of this.1 tp, rle_of this.2 tp⟩
  · intro hk m hm
    have := hk m hm
    rw [(e m hm).1, (e m hm).2, eX, e3]
    exact ⟨rmul_le this.1 (by grind), rmul_le this.2 (by grind)⟩
theorem sclE_best {L : Lg} (hL : LgOk L) {t : Int} (ht : 0 < t) (hX : LgOk (sclE L t)) : bestV (sclE L t) = rat (t * (bestV L).num) (bestV L).den := by
  have tp := cpos ht
  have tn := cne ht
  have bp := (best_can hL).pos
  have bn := cne bp
  refine can_ext (best_can hX) (rat_can bp) ?_
  have e : (rat (t * (bestV L).num) (bestV L).den).q = t * (bestV L).q := by
    rw [rat_q bp]; unfold Rt.q; push_cast; grind
  rw [e]
  obtain ⟨_, _, h0, s0, _, _, hk, _⟩ := best_line hL
  obtain ⟨_, _, h1, s1, _, _, hk1, _⟩ := best_line hX
  have a := keeps_best hX ((sclE_keeps hL ht _ _ _).2 hk)
  have hk1' : Keeps (sclE L t) (t * ((bestV (sclE L t)).q / t)) (t * (h1 / t)) (t * (s1 / t)) := by
    have g1 : (t : Rat) * ((bestV (sclE L t)).q / t) = (bestV (sclE L t)).q := by grind
    have g2 : (t : Rat) * (h1 / t) = h1 := by grind
    have g3 : (t : Rat) * (s1 / t) = s1 := by grind
    rw [g1, g2, g3]; exact hk1
  have b := keeps_best hL ((sclE_keeps hL ht _ _ _).1 hk1')
  have b' := rmul_le b (c := (t : Rat)) (by grind)
  have g : (bestV (sclE L t)).q / t * t = (bestV (sclE L t)).q := by grind
  rw [g] at b'
  grind
theorem farP_keeps {L : Lg} (m : Int) (c h s : Rat) : Keeps (farP L m) c h s ↔ Keeps L c (h + s * m) s := by
  have hl : (farP L m).pl.length = L.pl.length := by simp [farP]
  have e : ∀ j, j < L.pl.length → Xq (farP L m) j = Xq L j + m := fun j hj => by simp only [Xq, farP_pl m hj]; push_cast; rfl
  have ev : ∀ j, j < L.pl.length → h + s * Xq (farP L m) j = h + s * m + s * Xq L j := fun j hj => by rw [e j hj]; grind
  constructor
  · intro hk j hj
    have := hk j (by rw [hl]; exact hj)
    rw [ev j hj] at this
    exact this
  · intro hk j hj
    rw [hl] at hj
    have := hk j hj
    rw [ev j hj]
    exact this
theorem farP_best {L : Lg} (hL : LgOk L) (m : Int) (hX : LgOk (farP L m)) : bestV L = bestV (farP L m) := by
  refine best_same hL hX (fun c h s hk => ⟨h - s * m, s, (farP_keeps m c _ _).2 ?_⟩) (fun c h s hk => ⟨_, _, (farP_keeps m c h s).1 hk⟩)
  have : h - s * (m : Rat) + s * m = h := by grind
  rw [this]; exact hk
theorem sclP_keeps {L : Lg} (t : Int) (c h s : Rat) : Keeps (sclP L t) c h s ↔ Keeps L c h (s * t) := by
  have hl : (sclP L t).pl.length = L.pl.length := by simp [sclP]
  have ev : ∀ j, j < L.pl.length → h + s * Xq (sclP L t) j = h + s * t * Xq L j := fun j hj => by simp only [Xq, sclP_pl t hj]; push_cast; grind
  constructor
  · intro hk j hj
    have := hk j (by rw [hl]; exact hj)
    rw [ev j hj] at this
    exact this
  · intro hk j hj
    rw [hl] at hj
    have := hk j hj
    rw [ev j hj]
    exact this
theorem sclP_best {L : Lg} (hL : LgOk L) {t : Int} (ht : 0 < t) (hX : LgOk (sclP L t)) : bestV L = bestV (sclP L t) := by
  have tn := cne ht
  refine best_same hL hX (fun c h s hk => ⟨h, s / t, (sclP_keeps t c _ _).2 ?_⟩) (fun c h s hk => ⟨_, _, (sclP_keeps t c h s).1 hk⟩)
  have : s / (t : Rat) * t = s := by grind
  rw [this]; exact hk

/-! ### Wider, and without a place -/
def widR (d : Int) (e : Rg) : Rg := ⟨max (-1000) (e.lo - d), min 1000 (e.hi + d.tdiv 2)⟩
def widL (L : Lg) (d : Int) : Lg := ⟨L.pl, L.ed.map (widR d)⟩
theorem widL_ed {L : Lg} (hL : LgOk L) (d : Int) {i : Nat} (hi : i < L.pl.length) : edP (widL L d) i = widR d (edP L i) := by
  have h : (widL L d).ed[i]? = some (widR d (edP L i)) := by simp only [widL, List.getElem?_map, edP_at (L := L) (i := i) (by have := hL.el; omega)]; rfl
  exact (edP_some (i := (i : Int)) h).symm
theorem ok_logE {L : Lg} (h : LgOk L) : logE L = 0 := by
  unfold logE placedE
  have c1 : wi 2 8 [(L.pl.length : Int)] = true := by
    have := h.n2; have := h.n8
    simp only [wi, List.any_cons, List.any_nil, outB, Bool.or_false, Bool.not_eq_true', Bool.or_eq_false_iff, decide_eq_false_iff_not]; omega
  have c2 : ([L.ed].any fun l => decide (l.length ≠ L.pl.length)) = false := by simp [h.el]
  have c3 : ([L.ed].any fun l => l.any strayB) = false := by
    simp only [List.any_cons, List.any_nil, Bool.or_false]
    rw [List.any_eq_false]
    intro r hr
    have := h.edge r hr
    rw [strayB_iff]; simp; omega
  have c4 : wi 0 100 L.pl = true := by
    simp only [wi, Bool.not_eq_true']
    rw [List.any_eq_false]
    intro x hx
    have := h.at0 x hx
    simp [outB]; omega
  have c5 : incB L.pl = true := incB_true.2 h.inc
  rw [if_neg (by rw [c1]; simp), if_neg (by rw [c2]; simp), if_neg (by rw [c3]; simp), if_neg (by rw [c4]; simp), if_neg (by rw [c5]; simp)]
theorem widL_ok {L : Lg} (hL : LgOk L) {d : Int} (h0 : 0 ≤ d) : LgOk (widL L d) := by
  refine ⟨hL.n2, hL.n8, by simp [widL, hL.el], hL.at0, fun r hr => ?_, hL.inc⟩
  simp only [widL, List.mem_map] at hr
  obtain ⟨e, he, rfl⟩ := hr
  have := hL.edge e he
  have hd : 0 ≤ d.tdiv 2 := Int.tdiv_nonneg h0 (by decide)
  simp only [widR]; omega
theorem widL_best {L : Lg} (hL : LgOk L) {d : Int} (h0 : 0 ≤ d) : (bestV L).q ≤ (bestV (widL L d)).q ∧ (bestV (widL L d)).q ≤ (bestV L).q + d := by
  have hX := widL_ok hL h0
  have hd : 0 ≤ d.tdiv 2 ∧ d.tdiv 2 ≤ d := by
    have := Int.tdiv_nonneg h0 (b := 2) (by decide)
    have := Int.mul_tdiv_add_tmod d 2
    have := Int.tmod_nonneg (a := d) 2 h0
    omega
  have e : ∀ m, m < L.pl.length → ((edP (widL L d) m).lo : Rat) ≤ (edP L m).lo ∧ ((edP L m).hi : Rat) ≤ (edP (widL L d) m).hi ∧ ((edP L m).lo : Rat) ≤ (edP (widL L d) m).lo + d ∧ ((edP (widL L d) m).hi : Rat) ≤ (edP L m).hi + d := fun m hm => by
    have b := hL.edB (i := (m : Int)) (by omega) (by omega)
    rw [widL_ed hL d hm]
    simp only [widR]
    refine ⟨cle (by omega), cle (by omega), ?_, ?_⟩
    · have := cle (a := (edP L m).lo) (b := max (-1000) ((edP L m).lo - d) + d) (by omega)
      rwa [Rat.intCast_add] at this
    · have := cle (a := min 1000 ((edP L m).hi + d.tdiv 2)) (b := (edP L m).hi + d) (by omega)
      rwa [Rat.intCast_add] at this
  constructor
  · refine best_mono hL hX fun c h s hk => ⟨h, s, fun m hm => ?_⟩
    have k := hk m hm
    have := e m hm
    have eX : Xq (widL L d) m = Xq L m := rfl
    simp only [loq, hiq, eX] at k ⊢
    exact ⟨by grind, by grind⟩
  · obtain ⟨_, _, h1, s1, _, _, hk1, _⟩ := best_line hX
    have := keeps_best hL (c := (bestV (widL L d)).q - d) (h := h1) (s := s1) fun m hm => by
      have k := hk1 m hm
      have := e m hm
      have eX : Xq (widL L d) m = Xq L m := rfl
      simp only [loq, hiq, eX] at k ⊢
      exact ⟨by grind, by grind⟩
    grind
def lessL (L : Lg) (i : Nat) : Lg := ⟨L.pl.eraseIdx i, L.ed.eraseIdx i⟩
theorem lessL_best {L : Lg} (hL : LgOk L) {i : Nat} (hi : i < L.pl.length) (hX : LgOk (lessL L i)) : (bestV L).q ≤ (bestV (lessL L i)).q := by
  refine best_mono hL hX fun c h s hk => ⟨h, s, fun m hm => ?_⟩
  have el := hL.el
  have hlen : (lessL L i).pl.length = L.pl.length - 1 := by simp only [lessL, List.length_eraseIdx, hi, if_true]
  rw [hlen] at hm
  have h1 : plP (lessL L i) m = plP L (if m < i then m else m + 1 : Nat) := by
    simp only [plP, lessL, List.getD, List.getElem?_eraseIdx, Int.toNat_natCast]
    split <;> rfl
  have h2 : edP (lessL L i) m = edP L (if m < i then m else m + 1 : Nat) := by
    simp only [edP, lessL, List.getD, List.getElem?_eraseIdx, Int.toNat_natCast]
    split <;> rfl
  have := hk (if m < i then m else m + 1) (by split <;> omega)
  simp only [loq, hiq, Xq, h1, h2] at this ⊢
  exact this
end Go.Proofs.Ytnionkopmncopaa
set_option linter.unusedVariables false
namespace Go.Pl
theorem ok_roughE {R : Rough} (h1 : LgOk ⟨R.pl, R.low⟩) (h2 : LgOk ⟨R.pl, R.high⟩) (hle : ∀ (i : Nat) (x y : Rg), R.low[i]? = some x → R.high[i]? = some y → x.hi ≤ y.lo) : roughE R = 0 := by
  have c0 : placedE R.pl [R.low, R.high] = 0 := by
    have n2 := h1.n2
    have n8 := h1.n8
    have e1 := h1.el
    have e2 := h2.el
    dsimp only at n2 n8 e1 e2
    unfold placedE
    have c1 : wi 2 8 [(R.pl.length : Int)] = true := by
      simp only [wi, List.any_cons, List.any_nil, outB, Bool.or_false, Bool.not_eq_true', Bool.or_eq_false_iff, decide_eq_false_iff_not]; omega
    have c2 : ([R.low, R.high].any fun l => decide (l.length ≠ R.pl.length)) = false := by simp [e1, e2]
    have c3 : ([R.low, R.high].any fun l => l.any strayB) = false := by
      simp only [List.any_cons, List.any_nil, Bool.or_false, Bool.or_eq_false_iff]
      constructor
      · rw [List.any_eq_false]
        intro r hr
        have := h1.edge r hr
        rw [strayB_iff]; simp; omega
      · rw [List.any_eq_false]
        intro r hr
        have := h2.edge r hr
        rw [strayB_iff]; simp; omega
    have c4 : wi 0 100 R.pl = true := by
      simp only [wi, Bool.not_eq_true']
      rw [List.any_eq_false]
      intro x hx
      have := h1.at0 x hx
      simp [outB]; omega
    have c5 : incB R.pl = true := incB_true.2 h1.inc
    rw [if_neg (by rw [c1]; simp), if_neg (by rw [c2]; simp), if_neg (by rw [c3]; simp), if_neg (by rw [c4]; simp), if_neg (by rw [c5]; simp)]
  unfold roughE
  rw [if_neg (by simp [c0]), if_neg]
  intro h
  rw [List.any_eq_true] at h
  obtain ⟨⟨x, y⟩, hm, hlt⟩ := h
  obtain ⟨i, hi⟩ := List.getElem?_of_mem hm
  rw [List.getElem?_zip_eq_some] at hi
  have := hle i x y hi.1 hi.2
  simp at hlt
  omega
theorem rough_at {R : Rough} (h : roughE R = 0) {i : Nat} (hi : i < R.pl.length) : ∃ a b, R.low[i]? = some a ∧ R.high[i]? = some b ∧ -1000 ≤ a.lo ∧ a.lo ≤ a.hi ∧ a.hi ≤ b.lo ∧ b.lo ≤ b.hi ∧ b.hi ≤ 1000 := by
  obtain ⟨e1, e2, k1, k2, hle⟩ := roughE_ok h
  have l1 : i < R.low.length := by omega
  have l2 : i < R.high.length := by omega
  have g1 := k1.edge _ (List.getElem_mem l1)
  have g2 := k2.edge _ (List.getElem_mem l2)
  have g3 := hle i _ _ (List.getElem?_eq_getElem l1) (List.getElem?_eq_getElem l2)
  exact ⟨_, _, List.getElem?_eq_getElem l1, List.getElem?_eq_getElem l2, g1.1, g1.2.1, g3, g2.2.1, g2.2.2⟩
/-- A truth of a rough log, by numbers. -/
abbrev U16 := {z : Int // 0 ≤ z ∧ z ≤ 65535}
def trN (ns : List U16) (i : Nat) : Int := ((ns[i % ns.length]?).map (·.1)).getD 0
theorem trN_bd (ns : List U16) (i : Nat) : 0 ≤ trN ns i ∧ trN ns i ≤ 65535 := by
  unfold trN
  cases ns[i % ns.length]? with
  | none => simp
  | some z => exact z.2
def trR (a b : Rg) (n : Int) : Rg := ⟨a.lo + n.tmod (a.hi - a.lo + 1), b.lo + (n.tdiv 3).tmod (b.hi - b.lo + 1)⟩
def trL (R : Rough) (ns : List U16) : Lg := ⟨R.pl, (List.range R.pl.length).map fun i => trR (R.low.getD i ⟨0, 0⟩) (R.high.getD i ⟨0, 0⟩) (trN ns i)⟩
theorem trR_bd {a b : Rg} {n : Int} (hn : 0 ≤ n) (ha : a.lo ≤ a.hi) (hb : b.lo ≤ b.hi) : a.lo ≤ (trR a b n).lo ∧ (trR a b n).lo ≤ a.hi ∧ b.lo ≤ (trR a b n).hi ∧ (trR a b n).hi ≤ b.hi := by
  have t0 : 0 ≤ n.tdiv 3 := Int.tdiv_nonneg hn (by decide)
  have r1 := Int.tmod_nonneg (a.hi - a.lo + 1) hn
  have r2 := Int.tmod_nonneg (b.hi - b.lo + 1) t0
  have s1 := Int.tmod_lt_of_pos n (b := a.hi - a.lo + 1) (by omega)
  have s2 := Int.tmod_lt_of_pos (n.tdiv 3) (b := b.hi - b.lo + 1) (by omega)
  simp only [trR]; omega
theorem trL_len (R : Rough) (ns : List U16) : (trL R ns).ed.length = R.pl.length := by simp [trL]
theorem trL_at {R : Rough} (ns : List U16) {i : Nat} (hi : i < R.pl.length) {a b : Rg} (ha : R.low[i]? = some a) (hb : R.high[i]? = some b) : (trL R ns).ed[i]? = some (trR a b (trN ns i)) := by
  simp only [trL, List.getElem?_map, List.getElem?_range hi, Option.map_some, List.getD, ha, hb, Option.getD_some]
theorem truth_at {R : Rough} (most : Bool) {i : Nat} {a b : Rg} (ha : R.low[i]? = some a) (hb : R.high[i]? = some b) : (truthL R most).ed[i]? = some ((if most then outR else innR) a b) := by
  simp only [truthL, List.getElem?_zipWith, ha, hb]
theorem trL_ok {R : Rough} (h : roughE R = 0) (ns : List U16) : LgOk (trL R ns) := by
  obtain ⟨e1, e2, k1, k2, hle⟩ := roughE_ok h
  refine ⟨k1.n2, k1.n8, trL_len R ns, k1.at0, fun r hr => ?_, k1.inc⟩
  obtain ⟨i, hi⟩ := List.getElem?_of_mem hr
  have hlt : i < R.pl.length := by
    have := (List.getElem?_eq_some_iff.1 hi).1
    rw [trL_len] at this; exact this
  obtain ⟨a, b, ha, hb, b1, b2, b3, b4, b5⟩ := rough_at h hlt
  rw [trL_at ns hlt ha hb] at hi
  cases hi
  have := trR_bd (n := trN ns i) (trN_bd ns i).1 b2 b4
  omega
/-- With narrower bounds at one place. -/
def nrwR (R : Rough) (ns : List U16) (i : Nat) : Rough := ⟨R.pl, R.low.set i ⟨(edP (trL R ns) i).lo, (R.low.getD i ⟨0, 0⟩).hi⟩, R.high.set i ⟨(R.high.getD i ⟨0, 0⟩).lo, (edP (trL R ns) i).hi⟩⟩
end Go.Pl
namespace Go.Proofs.Ytnionkopmncopaa
open Go.Pl
/-- Where the edges leave more room the best core is no less. -/
theorem best_room {L X : Lg} (hL : LgOk L) (hX : LgOk X) (hp : X.pl = L.pl) (h : ∀ m : Nat, m < L.pl.length → (edP X m).lo ≤ (edP L m).lo ∧ (edP L m).hi ≤ (edP X m).hi) : (bestV L).q ≤ (bestV X).q := by
  refine best_mono hL hX fun c h0 s hk => ⟨h0, s, fun m hm => ?_⟩
  rw [hp] at hm
  have k := hk m hm
  obtain ⟨a, b⟩ := h m hm
  have a' := cle a
  have b' := cle b
  have eX : Xq X m = Xq L m := by simp only [Xq, plP, hp]
  simp only [loq, hiq, eX] at k ⊢
  exact ⟨by grind, by grind⟩
theorem tr_span {R : Rough} (h : roughE R = 0) (ns : List U16) : (bestV (truthL R false)).q ≤ (bestV (trL R ns)).q ∧ (bestV (trL R ns)).q ≤ (bestV (truthL R true)).q := by
  have key : ∀ m : Nat, m < R.pl.length → ∃ a b, R.low[m]? = some a ∧ R.high[m]? = some b ∧ a.lo ≤ (edP (trL R ns) m).lo ∧ (edP (trL R ns) m).lo ≤ a.hi ∧ b.lo ≤ (edP (trL R ns) m).hi ∧ (edP (trL R ns) m).hi ≤ b.hi ∧ edP (truthL R true) m = outR a b ∧ edP (truthL R false) m = innR a b := fun m hm => by
    obtain ⟨a, b, ha, hb, b1, b2, b3, b4, b5⟩ := rough_at h hm
    have e := trR_bd (n := trN ns m) (trN_bd ns m).1 b2 b4
    rw [edP_some (i := (m : Int)) (trL_at ns hm ha hb)] at e
    exact ⟨a, b, ha, hb, e.1, e.2.1, e.2.2.1, e.2.2.2, (edP_some (i := (m : Int)) (truth_at true ha hb)).symm, (edP_some (i := (m : Int)) (truth_at false ha hb)).symm⟩
  constructor
  · refine best_room (truth_ok h false) (trL_ok h ns) rfl fun m hm => ?_
    obtain ⟨a, b, ha, hb, c1, c2, c3, c4, c5, c6⟩ := key m hm
    rw [c6]; simp only [innR]; omega
  · refine best_room (trL_ok h ns) (truth_ok h true) rfl fun m hm => ?_
    obtain ⟨a, b, ha, hb, c1, c2, c3, c4, c5, c6⟩ := key m hm
    rw [c5]; simp only [outR]; omega
theorem nrw_ok {R : Rough} (h : roughE R = 0) (ns : List U16) {i : Nat} (hi : i < R.pl.length) : roughE (nrwR R ns i) = 0 := by
  obtain ⟨e1, e2, k1, k2, hle⟩ := roughE_ok h
  obtain ⟨a, b, ha, hb, b1, b2, b3, b4, b5⟩ := rough_at h hi
  have e := trR_bd (n := trN ns i) (trN_bd ns i).1 b2 b4
  rw [edP_some (i := (i : Int)) (trL_at ns hi ha hb)] at e
  have ga : R.low.getD i ⟨0, 0⟩ = a := by simp [List.getD, ha]
  have gb : R.high.getD i ⟨0, 0⟩ = b := by simp [List.getD, hb]
  have hr : nrwR R ns i = ⟨R.pl, R.low.set i ⟨(edP (trL R ns) i).lo, a.hi⟩, R.high.set i ⟨b.lo, (edP (trL R ns) i).hi⟩⟩ := by simp only [nrwR, ga, gb]
  rw [hr]
  refine ok_roughE ⟨k1.n2, k1.n8, ?_, k1.at0, fun r hr => ?_, k1.inc⟩ ⟨k2.n2, k2.n8, ?_, k2.at0, fun r hr => ?_, k2.inc⟩ fun j x y hx hy => ?_
  · simpa using e1
  · rcases List.mem_or_eq_of_mem_set hr with hr | rfl
    · exact k1.edge r hr
    · dsimp only; omega
  · simpa using e2
  · rcases List.mem_or_eq_of_mem_set hr with hr | rfl
    · exact k2.edge r hr
    · dsimp only; omega
  · dsimp only at hx hy
    rw [List.getElem?_set] at hx hy
    by_cases c : i = j
    · subst c
      rw [if_pos rfl, if_pos (by omega)] at hx hy
      cases hx; cases hy
      exact b3
    · rw [if_neg c] at hx hy
      exact hle j x y hx hy
theorem nrw_inn {R : Rough} (h : roughE R = 0) (ns : List U16) {i : Nat} (hi : i < R.pl.length) : bestV (truthL (nrwR R ns i) false) = bestV (truthL R false) := by
  obtain ⟨a, b, ha, hb, b1, b2, b3, b4, b5⟩ := rough_at h hi
  obtain ⟨e1, e2, k1, k2, hle⟩ := roughE_ok h
  have ga : R.low.getD i ⟨0, 0⟩ = a := by simp [List.getD, ha]
  have gb : R.high.getD i ⟨0, 0⟩ = b := by simp [List.getD, hb]
  congr 1
  simp only [truthL, nrwR, ga, gb]
  congr 1
  apply List.ext_getElem?
  intro j
  simp only [List.getElem?_zipWith, List.getElem?_set]
  by_cases c : i = j
  · subst c
    rw [if_pos rfl, if_pos (by omega), if_pos rfl, if_pos (by omega), ha, hb]
    rfl
  · rw [if_neg c, if_neg c]
theorem nrw_out {R : Rough} (h : roughE R = 0) (ns : List U16) {i : Nat} (hi : i < R.pl.length) : (bestV (truthL (nrwR R ns i) true)).q ≤ (bestV (truthL R true)).q := by
  have hX := nrw_ok h ns hi
  obtain ⟨a, b, ha, hb, b1, b2, b3, b4, b5⟩ := rough_at h hi
  obtain ⟨e1, e2, k1, k2, hle⟩ := roughE_ok h
  have ga : R.low.getD i ⟨0, 0⟩ = a := by simp [List.getD, ha]
  have gb : R.high.getD i ⟨0, 0⟩ = b := by simp [List.getD, hb]
  have e := trR_bd (n := trN ns i) (trN_bd ns i).1 b2 b4
  rw [edP_some (i := (i : Int)) (trL_at ns hi ha hb)] at e
  refine best_room (truth_ok hX true) (truth_ok h true) rfl fun m hm => ?_
  have hm' : m < R.pl.length := hm
  obtain ⟨x, y, hx, hy, _⟩ := rough_at h hm'
  rw [← edP_some (i := (m : Int)) (truth_at true hx hy)]
  by_cases c : i = m
  · subst c
    rw [ha] at hx
    rw [hb] at hy
    cases hx; cases hy
    have q1 : (nrwR R ns i).low[i]? = some ⟨(edP (trL R ns) i).lo, a.hi⟩ := by simp only [nrwR, ga, List.getElem?_set]; rw [if_pos trivial, if_pos (by omega)]
    have q2 : (nrwR R ns i).high[i]? = some ⟨b.lo, (edP (trL R ns) i).hi⟩ := by simp only [nrwR, gb, List.getElem?_set]; rw [if_pos trivial, if_pos (by omega)]
    rw [← edP_some (i := (i : Int)) (truth_at true q1 q2)]
    simp only [if_true, outR]; omega
  · have q1 : (nrwR R ns i).low[m]? = some x := by simp only [nrwR, List.getElem?_set]; rw [if_neg c, hx]
    have q2 : (nrwR R ns i).high[m]? = some y := by simp only [nrwR, List.getElem?_set]; rw [if_neg c, hy]
    rw [← edP_some (i := (m : Int)) (truth_at true q1 q2)]
    simp only [if_true, outR]; omega
end Go.Proofs.Ytnionkopmncopaa
set_option linter.unusedVariables false
namespace Go.Proofs.Ytnionkopmncopaa
open Go.Lw Go.Pl Go.RowKit

theorem wide_not {R : Rough} (he : roughE R = 0) : ¬ (12 < (R.pl.length : Int) ∨ 12 < (R.low.length : Int) ∨ 12 < (R.high.length : Int)) := by
  obtain ⟨e1, e2, k1, k2, hle⟩ := roughE_ok he
  have := k1.n8
  dsimp only at this
  omega
theorem sound_f (R : Rough) (V : View) (v : Value) (hv : RoughV V v R) : Fnc Try.prog 52 [v] V fun r _ => r = .bool (decide (roughE R = 0)) := by
  have hv' := hv
  obtain ⟨a, c, a1, c1, a2, c2, rfl, h2, h3, h4⟩ := hv
  refine fn_of Try.func52 rfl Try.ntmps52 (Nat.le_of_ble_eq_true rfl) ?_
  intro w0 hw0
  refine At.nrm ?_
  refine At.ktext (.n false 0 (.q 1 .done)) ?_
  refine AtT.kbox ?_
  intro b1
  refine AtT.kassign ?_
  refine AtT.done ?_
  refine At.nrm ?_
  by_cases he : roughE R = 0
  · refine At.ktext (.q 0 (.n false 1 (.q 2 (.q 3 (.q 4 (.n false 5 (.q 6 (.q 7 (.q 8 .done))))))))) ?_
    first | refine AtT.kloadOA tk53 ?_ | refine AtT.kloadA tk53 ?_ | refine AtT.kloadOP tk53 ?_
    refine AtT.kcallP rfl rfl ok36 (wide_f R _ _ hv') ?_
    rintro _ rfl
    refine AtT.setF (d := 4) rfl (wide_not he) ?_
    refine AtT.knot ?_
    refine AtT.kmove ?_
    all_goals (first | refine AtT.kL 6 ?_ | refine AtT.pcase (d := 6) rfl (fun hg6 => ?_) (fun hg6 => ?_) | refine AtT.bcase (d := 6) rfl (fun hg6 => ?_) (fun hg6 => ?_))
    all_goals (first | refine AtT.kpass ?_ | refine AtT.kpassU ?_ | ((first | refine AtT.kloadOA tk53 ?_ | refine AtT.kloadA tk53 ?_ | refine AtT.kloadOP tk53 ?_)))
    all_goals (first | refine AtT.kpassN ?_ | refine AtT.kpassNU ?_ | ((refine AtT.kcallP rfl rfl ok40 (rcheckRough_f R _ _ hv') ?_) ; (rintro _ rfl)))
    all_goals (first | refine AtT.kpass ?_ | refine AtT.kpassU ?_ | ((refine AtT.keqI ?_)))
    all_goals (refine AtT.setT (d := 9) rfl (he) ?_)
    all_goals (refine AtT.kpick ?_)
    all_goals (refine AtT.kassign ?_)
    all_goals refine AtT.done ?_
    all_goals (refine At.nrm ?_)
    exact At.ret1 rfl (.tmp rfl) (by rw [decide_eq_true he]; rfl)
  · by_cases hg : 12 < (R.pl.length : Int) ∨ 12 < (R.low.length : Int) ∨ 12 < (R.high.length : Int)
    · refine At.ktext (.q 0 (.n false 1 (.q 2 (.q 3 (.q 4 (.n false 5 (.q 6 (.q 7 (.q 8 .done))))))))) ?_
      first | refine AtT.kloadOA tk53 ?_ | refine AtT.kloadA tk53 ?_ | refine AtT.kloadOP tk53 ?_
      refine AtT.kcallP rfl rfl ok36 (wide_f R _ _ hv') ?_
      rintro _ rfl
      refine AtT.setT (d := 4) rfl (hg) ?_
      refine AtT.knot ?_
      refine AtT.kmove ?_
      all_goals (first | refine AtT.kL 6 ?_ | refine AtT.pcase (d := 6) rfl (fun hg6 => ?_) (fun hg6 => ?_) | refine AtT.bcase (d := 6) rfl (fun hg6 => ?_) (fun hg6 => ?_))
      all_goals (first | refine AtT.kpass ?_ | refine AtT.kpassU ?_ | ((first | refine AtT.kloadOA tk53 ?_ | refine AtT.kloadA tk53 ?_ | refine AtT.kloadOP tk53 ?_)))
      all_goals (first | refine AtT.kpassN ?_ | refine AtT.kpassNU ?_ | ((refine AtT.kcallP rfl rfl ok40 (rcheckRough_f R _ _ hv') ?_) ; (rintro _ rfl)))
      all_goals (first | refine AtT.kpass ?_ | refine AtT.kpassU ?_ | ((refine AtT.keqI ?_)))
      all_goals (refine AtT.kpick ?_)
      all_goals (refine AtT.kassign ?_)
      all_goals refine AtT.done ?_
      all_goals (refine At.nrm ?_)
      exact At.ret1 rfl (.tmp rfl) (by rw [decide_eq_false he]; rfl)
    · refine At.ktext (.q 0 (.n false 1 (.q 2 (.q 3 (.q 4 (.n false 5 (.q 6 (.q 7 (.q 8 .done))))))))) ?_
      first | refine AtT.kloadOA tk53 ?_ | refine AtT.kloadA tk53 ?_ | refine AtT.kloadOP tk53 ?_
      refine AtT.kcallP rfl rfl ok36 (wide_f R _ _ hv') ?_
      rintro _ rfl
      refine AtT.setF (d := 4) rfl (hg) ?_
      refine AtT.knot ?_
      refine AtT.kmove ?_
      all_goals (first | refine AtT.kL 6 ?_ | refine AtT.pcase (d := 6) rfl (fun hg6 => ?_) (fun hg6 => ?_) | refine AtT.bcase (d := 6) rfl (fun hg6 => ?_) (fun hg6 => ?_))
      all_goals (first | refine AtT.kpass ?_ | refine AtT.kpassU ?_ | ((first | refine AtT.kloadOA tk53 ?_ | refine AtT.kloadA tk53 ?_ | refine AtT.kloadOP tk53 ?_)))
      all_goals (first | refine AtT.kpassN ?_ | refine AtT.kpassNU ?_ | ((refine AtT.kcallP rfl rfl ok40 (rcheckRough_f R _ _ hv') ?_) ; (rintro _ rfl)))
      all_goals (first | refine AtT.kpass ?_ | refine AtT.kpassU ?_ | ((refine AtT.keqI ?_)))
      all_goals (refine AtT.setF (d := 9) rfl (he) ?_)
      all_goals (refine AtT.kpick ?_)
      all_goals (refine AtT.kassign ?_)
      all_goals refine AtT.done ?_
      all_goals (refine At.nrm ?_)
      exact At.ret1 rfl (.tmp rfl) (by rw [decide_eq_false he]; rfl)

def eu (z : U16) : List Value := [.int .u16 z.1]
theorem eu_len (z : U16) : (eu z).length = 1 := rfl

theorem true_f (R : Rough) (ns : List U16) (au : Option Addr) (cu : Nat) (V : View) (v : Value) (hR : RoughV V v R) (hu : Sl V eu 1 (.slice au ns.length cu) ns) (he : roughE R = 0) :
    Fnc Try.prog 53 [v, .slice au ns.length cu] V fun r V' => LogV V' r (trL R ns) := by
  obtain ⟨a, c, a1, c1, a2, c2, rfl, h2, h3, h4⟩ := hR
  obtain ⟨e1, e2, k1, k2, hle⟩ := roughE_ok he
  have hn8 := k1.n8
  have hn2 := k1.n2
  dsimp only at hn8 hn2
  have hne : R.pl ≠ [] := fun h => by rw [h] at hn2; simp at hn2
  obtain ⟨q0, rfl⟩ : ∃ q, a = some q := by
    obtain ⟨a', c', h, _, _, hs, _⟩ := h2
    cases h
    exact Option.isSome_iff_exists.1 (hs hne)
  have hul := hu.lenLe
  have hedl := trL_len R ns
  refine fn_of Try.func53 rfl Try.ntmps53 (Nat.le_of_ble_eq_true rfl) ?_
  intro w0 hw0
  refine At.nrm ?_
  refine At.ktext (.n false 0 (.n false 1 .done)) ?_
  refine AtT.kbox ?_
  intro b2
  refine AtT.kalloc z25 ?_
  intro b4
  refine AtT.done ?_
  refine At.nrm ?_
  refine At.cutG (ι := Nat × Option Addr × Nat) (fun g => [(1, .slice au ns.length cu), (2, .pointer (some ⟨b2, 0, none⟩)), (4, .pointer (some ⟨b4, 0, none⟩)), (5, .pointer (some ⟨g.1, 0, none⟩))])
    (fun g => [.blk b2 (LC [.slice (some q0) R.pl.length c, .slice a1 R.low.length c1, .slice a2 R.high.length c2] 53), .blk b4 (LC [.slice none 0 0, .slice none 0 0] 25), .blk g.1 (LC [.slice g.2.1 R.pl.length g.2.2, .slice none 0 0] 25)])
    (fun g V' => Le V V' ∧ Sl V' ei 1 (.slice g.2.1 R.pl.length g.2.2) R.pl) ?_ ?_
  · refine At.draw (.q 1 (.q 2 (.two 0 (.two 3 (.q 4 (.n false 5 (.n true 6 .done))) 5 (.n false 3 (.q 4 (.n true 6 .done)))) 5 (.n false 0 (.n false 3 (.q 4 (.n true 6 .done))))))) ffm (by kernel_rfl) ?_
    first | refine AtT.kfieldO fo53_0 ?_ | with_reducible refine AtT.kfield2 fo53_0 ?_ | refine AtT.kfield fo53_0 ?_
    first | refine AtT.kloadO tk22 ?_ | refine AtT.kload tk22 ?_
    refine AtT.two ?_ ?_
    focus
      refine AtT.kcallP rfl rfl ok74 (longs74_f _ _) ?_
      rintro _ rfl
      refine AtT.two ?_ ?_
      focus
        refine AtT.appendC rfl trivial Try.underlying22 rw2 rfl (by decide) rfl (Sl.nil _ ei 1) rfl rfl (Sl.cells ei_len (h2.le (by first | exact Le.refl _ | assumption))) (fun _ => rfl) hne (by unfold maxLen; simp only [List.length_nil]; omega) (by simp only [List.length_nil]; omega) (by decide) (l := ([] : List Int)) (m := R.pl) ?_
        intro a13 c13 V13 hV13 hs13
        refine AtT.kbuild (bd25_0 _ _ _) ?_
        refine AtT.kalloc z25 ?_
        intro b5
        refine AtT.kstoreA tk25 ?_
        refine AtT.done ?_
      rotate_right
      focus
        refine AtT.kalloc z25 ?_
        intro b5
        refine AtT.appendC rfl trivial Try.underlying22 rw2 rfl (by decide) rfl (Sl.nil _ ei 1) rfl rfl (Sl.cells ei_len (h2.le (by first | exact Le.refl _ | assumption))) (fun _ => rfl) hne (by unfold maxLen; simp only [List.length_nil]; omega) (by simp only [List.length_nil]; omega) (by decide) (l := ([] : List Int)) (m := R.pl) ?_
        intro a13 c13 V13 hV13 hs13
        refine AtT.kbuild (bd25_0 _ _ _) ?_
        refine AtT.kstoreA tk25 ?_
        refine AtT.done ?_
    rotate_right
    focus
      refine AtT.kalloc z25 ?_
      intro b5
      refine AtT.kcallP rfl rfl ok74 (longs74_f _ _) ?_
      rintro _ rfl
      refine AtT.appendC rfl trivial Try.underlying22 rw2 rfl (by decide) rfl (Sl.nil _ ei 1) rfl rfl (Sl.cells ei_len (h2.le (by first | exact Le.refl _ | assumption))) (fun _ => rfl) hne (by unfold maxLen; simp only [List.length_nil]; omega) (by simp only [List.length_nil]; omega) (by decide) (l := ([] : List Int)) (m := R.pl) ?_
      intro a13 c13 V13 hV13 hs13
      refine AtT.kbuild (bd25_0 _ _ _) ?_
      refine AtT.kstoreA tk25 ?_
      refine AtT.done ?_
    all_goals (refine At.nrm ?_)
    all_goals (exact At.meetG (b5, a13, c13) ⟨by first | assumption | exact Le.trans (by assumption) (by assumption), by simpa using hs13⟩ ⟨rfl, rfl, rfl, rfl, trivial⟩ Pt.auto)
  rintro ⟨b5, a13, c13⟩ V1 ks' O' ⟨hV1, hs13⟩ hk hO hl1
  dsimp only at hk hO hs13
  subst hk hO
  have h3' := h3.le hV1
  have h4' := h4.le hV1
  have hu' := hu.le hV1
  refine At.nrm ?_
  refine At.ktext (.q 0 .done) ?_
  refine AtT.kassign ?_
  refine AtT.done ?_
  refine At.nrm ?_
  refine At.newRow 69 2 ?_
  refine At.lp (ι := Nat × Option Addr × Nat) (KS := fun g => [(1, .slice au ns.length cu), (2, .pointer (some ⟨b2, 0, none⟩)), (4, .pointer (some ⟨b4, 0, none⟩)), (5, .pointer (some ⟨b5, 0, none⟩)), (6, iv g.1)])
    (OS := fun g => [.blk b2 (LC [.slice (some q0) R.pl.length c, .slice a1 R.low.length c1, .slice a2 R.high.length c2] 53), .blk b4 (LC [.slice none 0 0, .slice none 0 0] 25), .blk b5 (LC [.slice a13 R.pl.length c13, .slice g.2.1 g.1 g.2.2] 25), .row (.slice g.2.1 g.1 g.2.2) 69 2 g.1 (flat rge ((trL R ns).ed.take g.1))])
    (VS := fun g V' => Le V1 V' ∧ g.1 ≤ R.pl.length) (μ := fun g => R.pl.length - g.1) (0, none, 0) ?_ ?_ ?_ ?_
  · exact ⟨rfl, rfl, rfl, rfl, rfl, trivial⟩
  · exact Pt.auto
  · exact ⟨Le.refl _, Nat.zero_le _⟩
  · rintro ⟨k, ao, co⟩ V' ks' O' ⟨hVV, hkl⟩ hk hO hl
    dsimp only at hkl hk hO
    subst hk hO
    have h3'' := h3'.le hVV
    have h4'' := h4'.le hVV
    have hu'' := hu'.le hVV
    refine At.nrm ?_
    refine At.ktext (.q 0 (.q 1 (.q 2 (.q 3 (.q 4 .done))))) ?_
    refine AtT.kmove ?_
    first | refine AtT.kfieldO fo53_0 ?_ | with_reducible refine AtT.kfield2 fo53_0 ?_ | refine AtT.kfield fo53_0 ?_
    first | refine AtT.kloadO tk22 ?_ | refine AtT.kload tk22 ?_
    first | refine AtT.klenS Try.underlying22 ?_ | refine AtT.klenR Try.underlying22 ?_
    refine AtT.klss ?_
    refine AtT.done ?_
    refine At.nrm ?_
    refine At.condP rfl (fun hb => ?_) (fun hb => ?_)
    · have hkn : k < R.pl.length := by omega
      obtain ⟨x, y, hx, hy, b1, b2', b3, b4', b5'⟩ := rough_at he hkn
      have hek := trL_at ns hkn hx hy
      obtain ⟨N, hN⟩ : ∃ N, trN ns k = N := ⟨_, rfl⟩
      have hNb := trN_bd ns k
      rw [hN] at hek hNb
      have hw := trR_bd (n := N) (a := x) (b := y) hNb.1 b2' b4'
      simp only [trR] at hw
      have hq : 0 ≤ N.tdiv 3 ∧ N.tdiv 3 ≤ 65535 := ⟨Int.tdiv_nonneg hNb.1 (by decide), by have := Int.mul_tdiv_add_tmod N 3; have := Int.tmod_nonneg (a := N) 3 hNb.1; omega⟩
      refine At.nrm ?_
      refine At.ktext (.q 0 .done) ?_
      refine AtT.kassign ?_
      refine AtT.done ?_
      refine At.nrm ?_
      refine At.ktext (.q 0 (.q 1 (.q 2 .done))) ?_
      refine AtT.kmove ?_
      first | refine AtT.klenS Try.underlying77 ?_ | refine AtT.klenR Try.underlying77 ?_
      refine AtT.kgtr ?_
      refine AtT.done ?_
      refine At.nrm ?_
      refine At.cutG (ι := Unit) (fun _ => [(1, .slice au ns.length cu), (2, .pointer (some ⟨b2, 0, none⟩)), (4, .pointer (some ⟨b4, 0, none⟩)), (5, .pointer (some ⟨b5, 0, none⟩)), (6, iv k), (7, iv N)])
        (fun _ => [.blk b2 (LC [.slice (some q0) R.pl.length c, .slice a1 R.low.length c1, .slice a2 R.high.length c2] 53), .blk b4 (LC [.slice none 0 0, .slice none 0 0] 25), .blk b5 (LC [.slice a13 R.pl.length c13, .slice ao k co] 25), .row (.slice ao k co) 69 2 k (flat rge ((trL R ns).ed.take k))]) (fun _ V'' => V' = V'') ?_ ?_
      · refine At.condP rfl (fun hn0 => ?_) (fun hn0 => ?_)
        · have hlt : (k : Int).tmod (ns.length : Int) < ns.length ∧ 0 ≤ (k : Int).tmod (ns.length : Int) := ⟨Int.tmod_lt_of_pos _ (by omega), Int.tmod_nonneg _ (by omega)⟩
          refine At.nrm ?_
          refine At.ktext (.q 0 (.q 1 (.q 2 (.q 3 (.q 4 (.q 5 (.q 6 (.q 7 (.q 8 .done))))))))) ?_
          refine AtT.kmove ?_
          refine AtT.kmove ?_
          refine AtT.kmove ?_
          first | refine AtT.klenS Try.underlying77 ?_ | refine AtT.klenR Try.underlying77 ?_
          refine AtT.krem ?_
          refine AtT.kidx Try.underlying77 tk81 ?_
          intro p30 e30 he30 hc30
          obtain rfl : e30.1 = N := by have : trN ns k = e30.1 := (by unfold trN; rw [show k % ns.length = ((k : Int).tmod (ns.length : Int)).toNat from by rw [← Int.ofNat_tmod]; rfl, he30]; rfl); rw [hN] at this; exact this.symm
          first | refine AtT.kloadO tk81 ?_ | refine AtT.kload tk81 ?_
          refine AtT.kconv un81 Try.underlying2 ?_
          rw [wrap_fit (Fit.of (by omega) (by omega))]
          refine AtT.kassign ?_
          refine AtT.done ?_
          refine At.nrm ?_
          exact At.meetG () rfl ⟨rfl, rfl, rfl, rfl, rfl, rfl, trivial⟩ Pt.auto
        · have hn0' : ns = [] := List.eq_nil_of_length_eq_zero (by omega)
          have hN0 : N = 0 := by rw [← hN, hn0']; rfl
          refine At.nrm ?_
          exact At.meetG () rfl ⟨rfl, rfl, rfl, rfl, rfl, ivs hN0.symm, trivial⟩ Pt.auto
      rintro _ V'' ks' O' rfl hk hO hl2
      subst hk hO
      refine At.nrm ?_
      refine At.cutG (ι := Nat × Nat) (fun g => [(1, .slice au ns.length cu), (2, .pointer (some ⟨b2, 0, none⟩)), (4, .pointer (some ⟨b4, 0, none⟩)), (5, .pointer (some ⟨b5, 0, none⟩)), (6, iv k), (7, iv N), (8, .pointer (some ⟨g.1, 0, none⟩)), (9, .pointer (some ⟨g.2, 0, none⟩))])
        (fun g => [.blk b2 (LC [.slice (some q0) R.pl.length c, .slice a1 R.low.length c1, .slice a2 R.high.length c2] 53), .blk b4 (LC [.slice none 0 0, .slice none 0 0] 25), .blk b5 (LC [.slice a13 R.pl.length c13, .slice ao k co] 25), .row (.slice ao k co) 69 2 k (flat rge ((trL R ns).ed.take k)), .blk g.1 (LC (rge x) 69), .blk g.2 (LC (rge y) 69)]) (fun _ V'' => V' = V'') ?_ ?_
      · refine At.draw (.q 0 (.q 1 (.q 2 (.q 3 (.q 4 (.q 5 (.q 6 (.q 7 (.q 8 (.q 9 (Tr.al 2 [10, 11] (.n false 12 (.n false 13 .done))))))))))))) ffm (by kernel_rfl) ?_
        refine AtC.start ?_
        refine AtC.pre (fun hle0 => ?_)
        refine AtC.kq (by (first | refine AtT.kfieldO fo53_1 ?_ | with_reducible refine AtT.kfield2 fo53_1 ?_ | refine AtT.kfield fo53_1 ?_); exact At.knows) ?_
        refine AtC.kq (by (first | refine AtT.kloadO tk23 ?_ | refine AtT.kload tk23 ?_); exact At.knows) ?_
        refine AtC.kq (by (refine AtT.kmove ?_); exact At.knows) ?_
        refine AtC.kidx Try.underlying23 tk69 ?_
        intro p36 e36 he36 hc36
        have h36 : e36 = x := by have : R.low[k]? = some e36 := (by simpa using he36); rw [hx] at this; simpa using this.symm
        subst h36
        refine AtC.kq (by (first | refine AtT.kloadOA tk69 ?_ | refine AtT.kloadA tk69 ?_ | refine AtT.kloadOP tk69 ?_); exact At.knows) ?_
        refine AtC.kq (by (first | refine AtT.kfieldO fo53_2 ?_ | with_reducible refine AtT.kfield2 fo53_2 ?_ | refine AtT.kfield fo53_2 ?_); exact At.knows) ?_
        refine AtC.kq (by (first | refine AtT.kloadO tk23 ?_ | refine AtT.kload tk23 ?_); exact At.knows) ?_
        refine AtC.kq (by (refine AtT.kmove ?_); exact At.knows) ?_
        refine AtC.kidx Try.underlying23 tk69 ?_
        intro p41 e41 he41 hc41
        have h41 : e41 = y := by have : R.high[k]? = some e41 := (by simpa using he41); rw [hy] at this; simpa using this.symm
        subst h41
        refine AtC.kq (by (first | refine AtT.kloadOA tk69 ?_ | refine AtT.kloadA tk69 ?_ | refine AtT.kloadOP tk69 ?_); exact At.knows) ?_
        refine AtC.als2 ⟨⟨_, _, _, _, rfl, z69, rfl, by decide⟩, ⟨_, _, _, _, rfl, z69, rfl, by decide⟩, trivial⟩ (by decide) (by decide) (AtC.sub1 Pt.auto (by first | exact Le.refl _ | assumption | exact Le.trans (by assumption) (by assumption)) (by assumption)) ?_
        intro b8 b9
        refine AtC.nz ?_
        refine AtT.kstoreA tk69 ?_
        refine AtC.kgo ?_
        refine AtC.nz ?_
        refine AtT.kstoreA tk69 ?_
        refine AtC.kgo ?_
        refine AtC.done ?_
        refine At.nrm ?_
        all_goals (exact At.meetG (b8, b9) rfl ⟨rfl, rfl, rfl, rfl, rfl, rfl, rfl, rfl, trivial⟩ Pt.auto)
      rintro ⟨b8, b9⟩ V'' ks' O' rfl hk hO hl3
      dsimp only at hk hO
      subst hk hO
      refine At.nrm ?_
      have htk := take_snoc' hek
      refine At.draw (.q 0 (.q 1 (.q 2 (.q 3 (.q 4 (.q 5 (.q 6 (.q 7 (.q 8 (.q 9 (.q 10 (.q 11 (.q 12 (.q 13 (.q 14 (.q 15 (.q 16 (.q 17 (.q 18 (.q 19 (.q 20 (.q 21 (.q 22 (.q 23 (.q 24 (.n false 25 (.n false 26 (.n true 27 (.q 28 (.n true 29 .done)))))))))))))))))))))))))))))) ffm (by kernel_rfl) ?_
      first | refine AtT.kfieldO fo25_1 ?_ | with_reducible refine AtT.kfield2 fo25_1 ?_ | refine AtT.kfield fo25_1 ?_
      first | refine AtT.kloadO tk23 ?_ | refine AtT.kload tk23 ?_
      first | refine AtT.kfieldO fo69_0 ?_ | with_reducible refine AtT.kfield2 fo69_0 ?_ | refine AtT.kfield fo69_0 ?_
      first | refine AtT.kloadO tk2 ?_ | refine AtT.kload tk2 ?_
      refine AtT.kmove ?_
      first | refine AtT.kfieldO fo69_1 ?_ | with_reducible refine AtT.kfield2 fo69_1 ?_ | refine AtT.kfield fo69_1 ?_
      first | refine AtT.kloadO tk2 ?_ | refine AtT.kload tk2 ?_
      first | refine AtT.kfieldO fo69_0 ?_ | with_reducible refine AtT.kfield2 fo69_0 ?_ | refine AtT.kfield fo69_0 ?_
      first | refine AtT.kloadO tk2 ?_ | refine AtT.kload tk2 ?_
      first | refine AtT.ksubt ?_ | refine AtT.ksubW ?_
      first | refine AtT.kadd ?_ | refine AtT.kaddW ?_
      refine AtT.krem ?_
      first | refine AtT.kadd ?_ | refine AtT.kaddW ?_
      first | refine AtT.kfieldO fo69_0 ?_ | with_reducible refine AtT.kfield2 fo69_0 ?_ | refine AtT.kfield fo69_0 ?_
      first | refine AtT.kloadO tk2 ?_ | refine AtT.kload tk2 ?_
      refine AtT.kmove ?_
      refine AtT.kquo ?_
      first | refine AtT.kfieldO fo69_1 ?_ | with_reducible refine AtT.kfield2 fo69_1 ?_ | refine AtT.kfield fo69_1 ?_
      first | refine AtT.kloadO tk2 ?_ | refine AtT.kload tk2 ?_
      first | refine AtT.kfieldO fo69_0 ?_ | with_reducible refine AtT.kfield2 fo69_0 ?_ | refine AtT.kfield fo69_0 ?_
      first | refine AtT.kloadO tk2 ?_ | refine AtT.kload tk2 ?_
      first | refine AtT.ksubt ?_ | refine AtT.ksubW ?_
      first | refine AtT.kadd ?_ | refine AtT.kaddW ?_
      refine AtT.krem ?_
      first | refine AtT.kadd ?_ | refine AtT.kaddW ?_
      refine AtT.kcallP rfl rfl ok49 (to49_f _ _ _) ?_
      rintro _ rfl
      refine AtT.kbsliceG (bs23_1_0 _ _) ?_
      intro q69 V69 hV69 hq69
      have g69 : Le V V69 := by first | exact hV69 | exact Le.trans (by assumption) hV69
      first | refine AtT.kappend Try.underlying23 rw69 ?_
      intro a70 c70
      first | refine AtT.kfieldO fo25_1 ?_ | with_reducible refine AtT.kfield2 fo25_1 ?_ | refine AtT.kfield fo25_1 ?_
      first | refine AtT.kstore1 tk23 ?_ | refine AtT.kstoreA tk23 ?_
      refine AtT.done ?_
      refine At.nrm ?_
      refine At.ktext (.q 0 (.q 1 (.q 2 .done))) ?_
      refine AtT.kmove ?_
      first | refine AtT.kadd ?_ | refine AtT.kaddW ?_
      refine AtT.kassign ?_
      refine AtT.done ?_
      refine At.nrm ?_
      refine At.round (k + 1, a70, c70) ?_ ?_ ?_ ?_
      · show R.pl.length - (k + 1) < R.pl.length - k; omega
      · exact ⟨hVV.trans hV69, by dsimp only; omega⟩
      · exact ⟨rfl, rfl, rfl, rfl, ivs (by dsimp only; omega), trivial⟩
      dsimp only
      rw [htk, flat_snoc]
      · exact Pt.auto
    · obtain rfl : k = R.pl.length := by omega
      rw [List.take_of_length_le (l := (trL R ns).ed) (by omega)]
      refine At.nrm ?_
      refine At.giveSl rge_len rfl hedl.symm Pick.auto (fun V4 hV4 hs4 => ?_)
      refine At.ktext (.q 0 (.n true 1 .done)) ?_
      first | refine AtT.kloadOA tk25 ?_ | refine AtT.kloadA tk25 ?_ | refine AtT.kloadOP tk25 ?_
      refine AtT.kstoreA tk25 ?_
      refine AtT.done ?_
      refine At.nrm ?_
      refine At.ret1 rfl (.agg rfl tk25 Pick.auto rfl) ?_
      exact ⟨a13, c13, ao, co, by rw [hedl]; rfl, hs13.le (hVV.trans hV4), by rw [hedl]; exact hs4⟩
end Go.Proofs.Ytnionkopmncopaa
set_option linter.unusedVariables false
namespace Go.Lw
open Go.RowKit

section
variable {cx : Cx} {n : Nat} {ks : List (Nat × Value)} {O R : List Own} {V : View} {w : World} {K : Act → World → Prop}

theorem Mem.rowBlk {v : Value} {e : TypeId} {s n : Nat} {xs : List Value} (h : Mem cx (.row v e s n xs :: O) V w) (hn : n ≠ 0) :
    ∃ b cap rest, v = .slice (some ⟨b, 0, none⟩) n cap ∧ n ≤ cap ∧ cap ≤ maxLen ∧ Mem cx (.blk b (LC (xs ++ rest) e) :: O) V w := by
  obtain ⟨fp, ⟨f, g, rfl, ⟨rfl, hr⟩, hl⟩, h2, h3⟩ := h.own
  rcases hr.2 with ⟨rfl, hn0⟩ | ⟨b, cap, cur, rfl, hb, hh, hnc, hcm, hcs, htake⟩
  · exact absurd hn0 hn
  · refine ⟨b, cap, cur.toList.drop (n * s), rfl, hnc, hcm, ?_⟩
    have hcur : (LC (xs ++ cur.toList.drop (n * s)) e : Obj) = .cells cur e (0, 0) := by
      show Obj.cells _ e (0, 0) = Obj.cells cur e (0, 0)
      congr 1
      rw [← htake, List.take_append_drop]
    rw [hcur]
    exact ⟨h.below, h.le0, h.fresh, h.view, [b] ++ g, ⟨[b], g, rfl, ⟨rfl, hb, hh⟩, hl⟩, by simpa [Value.ownBlock] using h2, by simpa [Value.ownBlock] using h3⟩
theorem At.rowBlk {v : Value} {e : TypeId} {s m : Nat} {xs : List Value} (hp : Pick (.row v e s m xs) O R) (hm : m ≠ 0)
    (h : ∀ b cap rest, v = .slice (some ⟨b, 0, none⟩) m cap → m ≤ cap → cap ≤ maxLen → At cx n ks (.blk b (LC (xs ++ rest) e) :: R) V K) : At cx n ks O V K := fun a w hk hmm => by
  obtain ⟨b, cap, rest, h1, h2, h3, h4⟩ := (hmm.pick hp).rowBlk hm
  exact h b cap rest h1 h2 h3 a w hk h4
end
section
variable {cx : Cx} {n : Nat} {ks : List (Nat × Value)} {O : List Own} {V : View} {P : Program} {ops : Array Oper} {Qn : Act → World → Prop} {t : Tr} {i d : Nat} {T : TypeId} {pos : String} {after : Array Edge} {gd : Option (Nat × Bool)} {x y : Operand}
/-- The address of an element, by a natural number. -/
theorem AtT.idxZ {X E : TypeId} {len cap s j : Nat} {k : IntKind} {b : Nat} {ag : Bool} (ho : ops[i]? = some ⟨some d, .indexAddr X x y, T, pos, after, gd⟩) (hg : Gd ks ops gd) (hX : P.underlying X = some (.slice E)) (hE : tkB P E = some (ag, s))
    (hx : ev ks x = some (.slice (some ⟨b, 0, none⟩) len cap)) (hy : ev ks y = some (.int k (j : Int))) (h1 : j < len) (hn : d < n)
    (next : AtT cx n ((d, .pointer (some ⟨b, j * s, none⟩)) :: ks) O V P ops Qn t) : AtT cx n ks O V P ops Qn (.q i t) :=
  AtT.idxO ho hg hX hE hx hy (Int.natCast_nonneg j) (Int.ofNat_lt.2 h1) hn (by
    have e : 0 + (j : Int).toNat * s = j * s := by simp
    rw [e]; exact next)
end
theorem flat_setR {α : Type} {enc : α → List Value} {s : Nat} (he : ∀ x, (enc x).length = s) (l : List α) (i : Nat) (r : α) (rest : List Value) (h : i < l.length) : (flat enc l ++ rest).take (i * s) ++ enc r ++ (flat enc l ++ rest).drop (i * s + s) = flat enc (l.set i r) ++ rest := by
  have hl : (flat enc l).length = l.length * s := flat_len he l
  have h2 : i * s + s ≤ l.length * s := by
    rw [← Nat.add_one_mul]; exact Nat.mul_le_mul_right s h
  rw [List.take_append_of_le_length (by omega), List.drop_append_of_le_length (by omega), ← flat_set he l i r h]
  simp [List.append_assoc]
theorem cells_pre {V : View} {b : Nat} {us rest : List Value} {E : TypeId} {fr : Nat × Nat} (h : V b = some (LC (us ++ rest) E fr)) : Cells V ⟨b, 0, none⟩ us := fun j u hj =>
  cells_blk h j u (by rw [List.getElem?_append_left (List.getElem?_eq_some_iff.1 hj).1]; exact hj)
theorem flat_all1 {α : Type} {enc : α → List Value} (h1 : ∀ x, (enc x).all Value.oneCell' = true) (l : List α) : (flat enc l).all Value.oneCell' = true := by
  rw [List.all_eq_true]
  intro u hu
  simp only [flat, List.mem_flatMap] at hu
  obtain ⟨q, _, hq⟩ := hu
  exact List.all_eq_true.1 (h1 q) u hq
end Go.Lw
set_option linter.unusedVariables false
namespace Go.Proofs.Ytnionkopmncopaa
open Go.Lw Go.Pl Go.RowKit

theorem span_val {R : Rough} {y z : Rt} {e : Int} {V : View} {v : Value} (hv : RoughV V v R) (h : spanR R = (y, z, e)) : Fnc Try.prog 37 [v] V fun r _ => r = .tuple #[rtv y, rtv z, iv e] := by
  have := span_p R V v hv
  rw [h] at this; exact this
theorem span_eq {R : Rough} (h : roughE R = 0) : spanR R = (bestV (truthL R false), bestV (truthL R true), 0) := by rw [spanR, if_neg (by simp [h])]

theorem peelTrue_f (R : Rough) (ns : List U16) (which : Int) (au : Option Addr) (cu : Nat) (V : View) (v : Value) (hR : RoughV V v R) (hu : Sl V eu 1 (.slice au ns.length cu) ns) (h1 : 0 ≤ which ∧ which ≤ 255) :
    Fnc Try.prog 15 [v, .slice au ns.length cu, .int .u8 which] V fun r _ => r = .bool true := by
  have hR' := hR
  obtain ⟨a, c, a1, c1, a2, c2, rfl, g2, g3, g4⟩ := hR
  have hul := hu.lenLe
  refine fn_of Try.func15 rfl Try.ntmps15 (Nat.le_of_ble_eq_true rfl) ?_
  intro w0 hw0
  refine At.nrm ?_
  refine At.ktext (.n false 0 (.q 1 .done)) ?_
  refine AtT.kbox ?_
  intro b3
  refine AtT.kassign ?_
  refine AtT.done ?_
  refine At.nrm ?_
  by_cases he : roughE R = 0
  rotate_left
  · refine At.ktext (.q 0 (.n false 1 (.q 2 (.q 3 (.q 4 (.q 5 (.q 6 (.q 7 .done)))))))) ?_
    first | refine AtT.kloadOA tk53 ?_ | refine AtT.kloadA tk53 ?_ | refine AtT.kloadOP tk53 ?_
    refine AtT.kcallP rfl rfl ok52 (sound_f R _ _ hR') ?_
    rintro _ rfl
    refine AtT.setF (d := 19) rfl (he) ?_
    refine AtT.knot ?_
    refine AtT.kmove ?_
    all_goals (first | refine AtT.kL 21 ?_ | refine AtT.pcase (d := 21) rfl (fun hg21 => ?_) (fun hg21 => ?_) | refine AtT.bcase (d := 21) rfl (fun hg21 => ?_) (fun hg21 => ?_))
    all_goals (first | refine AtT.kpass ?_ | refine AtT.kpassU ?_ | ((refine AtT.kmove ?_)))
    all_goals (first | refine AtT.kpass ?_ | refine AtT.kpassU ?_ | ((first | refine AtT.klenS Try.underlying77 ?_ | refine AtT.klenR Try.underlying77 ?_)))
    all_goals (first | refine AtT.kpass ?_ | refine AtT.kpassU ?_ | ((refine AtT.kgtr ?_)))
    all_goals (refine AtT.kpick ?_)
    all_goals refine AtT.done ?_
    all_goals (refine At.nrm ?_)
    refine At.condT rfl rfl ?_
    refine At.nrm ?_
    refine At.ktext (.n false 0 (.q 1 .done)) ?_
    refine AtT.kcallP rfl rfl ok19 (works_f _) ?_
    rintro _ rfl
    refine AtT.kassign ?_
    refine AtT.done ?_
    refine At.nrm ?_
    exact At.ret1 rfl (.tmp rfl) rfl
  by_cases hl20 : (20 : Int) < ns.length
  · refine At.ktext (.q 0 (.n false 1 (.q 2 (.q 3 (.q 4 (.q 5 (.q 6 (.q 7 .done)))))))) ?_
    first | refine AtT.kloadOA tk53 ?_ | refine AtT.kloadA tk53 ?_ | refine AtT.kloadOP tk53 ?_
    refine AtT.kcallP rfl rfl ok52 (sound_f R _ _ hR') ?_
    rintro _ rfl
    refine AtT.setT (d := 19) rfl (he) ?_
    refine AtT.knot ?_
    refine AtT.kmove ?_
    all_goals (first | refine AtT.kL 21 ?_ | refine AtT.pcase (d := 21) rfl (fun hg21 => ?_) (fun hg21 => ?_) | refine AtT.bcase (d := 21) rfl (fun hg21 => ?_) (fun hg21 => ?_))
    all_goals (first | refine AtT.kpass ?_ | refine AtT.kpassU ?_ | ((refine AtT.kmove ?_)))
    all_goals (first | refine AtT.kpass ?_ | refine AtT.kpassU ?_ | ((first | refine AtT.klenS Try.underlying77 ?_ | refine AtT.klenR Try.underlying77 ?_)))
    all_goals (first | refine AtT.kpass ?_ | refine AtT.kpassU ?_ | ((refine AtT.kgtr ?_)))
    all_goals (refine AtT.setT (d := 24) rfl (hl20) ?_)
    all_goals (refine AtT.kpick ?_)
    all_goals refine AtT.done ?_
    all_goals (refine At.nrm ?_)
    refine At.condT rfl rfl ?_
    refine At.nrm ?_
    refine At.ktext (.n false 0 (.q 1 .done)) ?_
    refine AtT.kcallP rfl rfl ok19 (works_f _) ?_
    rintro _ rfl
    refine AtT.kassign ?_
    refine AtT.done ?_
    refine At.nrm ?_
    exact At.ret1 rfl (.tmp rfl) rfl
  refine At.ktext (.q 0 (.n false 1 (.q 2 (.q 3 (.q 4 (.q 5 (.q 6 (.q 7 .done)))))))) ?_
  first | refine AtT.kloadOA tk53 ?_ | refine AtT.kloadA tk53 ?_ | refine AtT.kloadOP tk53 ?_
  refine AtT.kcallP rfl rfl ok52 (sound_f R _ _ hR') ?_
  rintro _ rfl
  refine AtT.setT (d := 19) rfl (he) ?_
  refine AtT.knot ?_
  refine AtT.kmove ?_
  all_goals (first | refine AtT.kL 21 ?_ | refine AtT.pcase (d := 21) rfl (fun hg21 => ?_) (fun hg21 => ?_) | refine AtT.bcase (d := 21) rfl (fun hg21 => ?_) (fun hg21 => ?_))
  all_goals (first | refine AtT.kpass ?_ | refine AtT.kpassU ?_ | ((refine AtT.kmove ?_)))
  all_goals (first | refine AtT.kpass ?_ | refine AtT.kpassU ?_ | ((first | refine AtT.klenS Try.underlying77 ?_ | refine AtT.klenR Try.underlying77 ?_)))
  all_goals (first | refine AtT.kpass ?_ | refine AtT.kpassU ?_ | ((refine AtT.kgtr ?_)))
  all_goals (refine AtT.setF (d := 24) rfl (hl20) ?_)
  all_goals (refine AtT.kpick ?_)
  all_goals refine AtT.done ?_
  all_goals (refine At.nrm ?_)
  refine At.condF rfl rfl ?_
  obtain ⟨e1, e2, k1, k2, hle⟩ := roughE_ok he
  have hn8 := k1.n8
  have hn2 := k1.n2
  dsimp only at hn8 hn2
  have hT := trL_ok he ns
  have hedl := trL_len R ns
  have hi0 := truth_ok he false
  have ho0 := truth_ok he true
  have hsp := tr_span he ns
  have sT := best_sm hT
  have sI := best_sm hi0
  have sO := best_sm ho0
  obtain ⟨I, hI⟩ : ∃ I : Nat, which.tmod (R.pl.length : Int) = I := ⟨(which.tmod (R.pl.length : Int)).toNat, by have := Int.tmod_nonneg (R.pl.length : Int) h1.1; omega⟩
  have hIn : I < R.pl.length := by have := Int.tmod_lt_of_pos which (b := (R.pl.length : Int)) (by omega); omega
  have hX := nrw_ok he ns hIn
  have sXi := best_sm (truth_ok hX false)
  have sXo := best_sm (truth_ok hX true)
  have hxi := nrw_inn he ns hIn
  have hxo := nrw_out he ns hIn
  obtain ⟨x, y, hx, hy, b1, b2', b3', b4, b5⟩ := rough_at he hIn
  have gx : R.low.getD I ⟨0, 0⟩ = x := by simp [List.getD, hx]
  have gy : R.high.getD I ⟨0, 0⟩ = y := by simp [List.getD, hy]
  have hnl : R.low ≠ [] := fun h => by rw [h] at e1; simp at e1; omega
  have hnh : R.high ≠ [] := fun h => by rw [h] at e2; simp at e2; omega
  obtain ⟨ql, rfl⟩ : ∃ q, a1 = some q := by
    obtain ⟨a', c', h, _, _, hs, _⟩ := g3
    cases h
    exact Option.isSome_iff_exists.1 (hs hnl)
  obtain ⟨qh, rfl⟩ : ∃ q, a2 = some q := by
    obtain ⟨a', c', h, _, _, hs, _⟩ := g4
    cases h
    exact Option.isSome_iff_exists.1 (hs hnh)
  refine At.nrm ?_
  refine At.ktext (.q 0 (.q 1 (.n false 2 (.n false 3 (.n true 4 .done))))) ?_
  first | refine AtT.kloadOA tk53 ?_ | refine AtT.kloadA tk53 ?_ | refine AtT.kloadOP tk53 ?_
  refine AtT.kmove ?_
  refine AtT.kcall rfl rfl ok53 (true_f R ns au cu _ _ (hR'.le (by first | exact Le.refl _ | assumption)) (hu.le (by first | exact Le.refl _ | assumption)) he) ?_
  rintro _ V1 hV1 ⟨at', ct, ae, ce, rfl, q1, q2⟩
  refine AtT.kalloc z25 ?_
  intro b7
  refine AtT.kstoreA tk25 ?_
  refine AtT.done ?_
  refine At.nrm ?_
  have hRv := hR'.le hV1
  have g3' := g3.le hV1
  have g4' := g4.le hV1
  have hTv : LogV V1 (.agg #[.slice at' (trL R ns).pl.length ct, .slice ae (trL R ns).ed.length ce]) (trL R ns) := ⟨at', ct, ae, ce, rfl, q1, q2⟩
  refine At.ktext (.q 0 (.n false 1 (.q 2 (.q 3 (.q 4 (.n false 5 (.n true 6 (.q 7 .done)))))))) ?_
  first | refine AtT.kloadOA tk25 ?_ | refine AtT.kloadA tk25 ?_ | refine AtT.kloadOP tk25 ?_
  refine AtT.kcallP rfl rfl ok42 (best42_f (trL R ns) _ _ hTv (ok_logE hT)) ?_
  rintro _ rfl
  refine AtT.kmove ?_
  refine AtT.kextract ?_
  refine AtT.kextract ?_
  refine AtT.kalloc z31 ?_
  intro b8
  refine AtT.kstoreA tk31 ?_
  refine AtT.kassign ?_
  refine AtT.done ?_
  refine At.nrm ?_
  refine At.ktext (.q 0 (.n false 1 (.q 2 (.q 3 (.q 4 (.q 5 (.n false 6 (.n false 7 (.n true 8 (.n true 9 (.q 10 .done))))))))))) ?_
  first | refine AtT.kloadOA tk53 ?_ | refine AtT.kloadA tk53 ?_ | refine AtT.kloadOP tk53 ?_
  refine AtT.kcallP rfl rfl ok37 (span_val hRv (span_eq he)) ?_
  rintro _ rfl
  refine AtT.kmove ?_
  refine AtT.kextract ?_
  refine AtT.kextract ?_
  refine AtT.kextract ?_
  refine AtT.kalloc z31 ?_
  intro b10
  refine AtT.kalloc z31 ?_
  intro b11
  refine AtT.kstoreA tk31 ?_
  refine AtT.kstoreA tk31 ?_
  refine AtT.kassign ?_
  refine AtT.done ?_
  refine At.nrm ?_
  refine At.ktext (.q 0 (.q 1 (.q 2 (.q 3 (.q 4 (.q 5 (.q 6 (.q 7 (.n false 8 (.q 9 (.q 10 (.q 11 (.q 12 (.n false 13 (.q 14 (.q 15 (.q 16 (.q 17 (.q 18 (.n false 19 (.q 20 (.q 21 (.q 22 (.q 23 (.n false 24 (.q 25 .done)))))))))))))))))))))))))) ?_
  refine AtT.kmove ?_
  refine AtT.knot ?_
  refine AtT.kmove ?_
  all_goals (first | refine AtT.kL 43 ?_ | refine AtT.pcase (d := 43) rfl (fun hg43 => ?_) (fun hg43 => ?_) | refine AtT.bcase (d := 43) rfl (fun hg43 => ?_) (fun hg43 => ?_))
  all_goals (first | refine AtT.kpass ?_ | refine AtT.kpassU ?_ | ((refine AtT.kmove ?_)))
  all_goals (first | refine AtT.kpass ?_ | refine AtT.kpassU ?_ | ((refine AtT.kneI ?_)))
  all_goals (rw [neI])
  all_goals (refine AtT.kpick ?_)
  all_goals (refine AtT.kmove ?_)
  all_goals (first | refine AtT.kL 47 ?_ | refine AtT.pcase (d := 47) rfl (fun hg47 => ?_) (fun hg47 => ?_) | refine AtT.bcase (d := 47) rfl (fun hg47 => ?_) (fun hg47 => ?_))
  all_goals (first | refine AtT.kpass ?_ | refine AtT.kpassU ?_ | ((first | refine AtT.kloadOA tk31 ?_ | refine AtT.kloadA tk31 ?_ | refine AtT.kloadOP tk31 ?_)))
  all_goals (first | refine AtT.kpassN ?_ | refine AtT.kpassNU ?_ | ((refine AtT.kcallP rfl rfl ok46 (small_f _ sI _) ?_) ; (rintro _ rfl)))
  all_goals (first | refine AtT.kpass ?_ | refine AtT.kpassU ?_ | ((refine AtT.knot ?_)))
  all_goals (refine AtT.kpick ?_)
  all_goals (refine AtT.kmove ?_)
  all_goals (first | refine AtT.kL 52 ?_ | refine AtT.pcase (d := 52) rfl (fun hg52 => ?_) (fun hg52 => ?_) | refine AtT.bcase (d := 52) rfl (fun hg52 => ?_) (fun hg52 => ?_))
  all_goals (first | refine AtT.kpass ?_ | refine AtT.kpassU ?_ | ((first | refine AtT.kloadOA tk31 ?_ | refine AtT.kloadA tk31 ?_ | refine AtT.kloadOP tk31 ?_)))
  all_goals (first | refine AtT.kpassN ?_ | refine AtT.kpassNU ?_ | ((refine AtT.kcallP rfl rfl ok46 (small_f _ sO _) ?_) ; (rintro _ rfl)))
  all_goals (first | refine AtT.kpass ?_ | refine AtT.kpassU ?_ | ((refine AtT.knot ?_)))
  all_goals (refine AtT.kpick ?_)
  all_goals (refine AtT.kmove ?_)
  all_goals (first | refine AtT.kL 57 ?_ | refine AtT.pcase (d := 57) rfl (fun hg57 => ?_) (fun hg57 => ?_) | refine AtT.bcase (d := 57) rfl (fun hg57 => ?_) (fun hg57 => ?_))
  all_goals (first | refine AtT.kpass ?_ | refine AtT.kpassU ?_ | ((first | refine AtT.kloadOA tk31 ?_ | refine AtT.kloadA tk31 ?_ | refine AtT.kloadOP tk31 ?_)))
  all_goals (first | refine AtT.kpass ?_ | refine AtT.kpassU ?_ | ((first | refine AtT.kloadOA tk31 ?_ | refine AtT.kloadA tk31 ?_ | refine AtT.kloadOP tk31 ?_)))
  all_goals (first | refine AtT.kpassN ?_ | refine AtT.kpassNU ?_ | ((refine AtT.kcallP rfl rfl ok45 (rless_f (bestV (trL R ns)) (bestV (truthL R false)) _ (sm_fit sT sI) (sm_fit sI sT)) ?_) ; (rintro _ rfl)))
  all_goals (refine AtT.setB (d := 60) rfl (less_not sT.can sI.can hsp.1) ?_)
  all_goals (refine AtT.kpick ?_)
  all_goals (refine AtT.kmove ?_)
  all_goals (first | refine AtT.kL 62 ?_ | refine AtT.pcase (d := 62) rfl (fun hg62 => ?_) (fun hg62 => ?_) | refine AtT.bcase (d := 62) rfl (fun hg62 => ?_) (fun hg62 => ?_))
  all_goals (first | refine AtT.kpass ?_ | refine AtT.kpassU ?_ | ((first | refine AtT.kloadOA tk31 ?_ | refine AtT.kloadA tk31 ?_ | refine AtT.kloadOP tk31 ?_)))
  all_goals (first | refine AtT.kpass ?_ | refine AtT.kpassU ?_ | ((first | refine AtT.kloadOA tk31 ?_ | refine AtT.kloadA tk31 ?_ | refine AtT.kloadOP tk31 ?_)))
  all_goals (first | refine AtT.kpassN ?_ | refine AtT.kpassNU ?_ | ((refine AtT.kcallP rfl rfl ok45 (rless_f (bestV (truthL R true)) (bestV (trL R ns)) _ (sm_fit sO sT) (sm_fit sT sO)) ?_) ; (rintro _ rfl)))
  all_goals (refine AtT.setB (d := 65) rfl (less_not sO.can sT.can hsp.2) ?_)
  all_goals (refine AtT.kpick ?_)
  all_goals refine AtT.done ?_
  all_goals (refine At.nrm ?_)
  refine At.condF rfl rfl ?_
  refine At.newRow 69 2 ?_
  refine At.newRow 69 2 ?_
  refine At.nrm ?_
  refine At.cutG (ι := Nat × (Option Addr × Nat) × (Option Addr × Nat)) (fun g => [(2, .int .u8 which), (3, .pointer (some ⟨b3, 0, none⟩)), (7, .pointer (some ⟨b7, 0, none⟩)), (10, .pointer (some ⟨b10, 0, none⟩)), (11, .pointer (some ⟨b11, 0, none⟩)), (13, .pointer (some ⟨g.1, 0, none⟩))])
    (fun g => [.blk b3 (LC [.slice a R.pl.length c, .slice (some ql) R.low.length c1, .slice (some qh) R.high.length c2] 53), .blk b7 (LC [.slice at' (trL R ns).pl.length ct, .slice ae (trL R ns).ed.length ce] 25),
      .blk b10 (LC (rte (bestV (truthL R false))) 31), .blk b11 (LC (rte (bestV (truthL R true))) 31),
      .blk g.1 (LC [.slice a R.pl.length c, .slice g.2.1.1 R.low.length g.2.1.2, .slice g.2.2.1 R.high.length g.2.2.2] 53), .row (.slice g.2.1.1 R.low.length g.2.1.2) 69 2 R.low.length (flat rge R.low), .row (.slice g.2.2.1 R.high.length g.2.2.2) 69 2 R.high.length (flat rge R.high)])
    (fun _ V' => Le V1 V') ?_ ?_
  · refine At.drawC [.blk b3 (LC [.slice a R.pl.length c, .slice (some ql) R.low.length c1, .slice (some qh) R.high.length c2] 53)] (.q 0 (.q 1 (.q 3 (.q 4 (.q 7 (.q 8 (.two 2 (.two 5 (.two 6 (.two 9 (.q 10 (.n false 11 (.n false 12 .done))) 11 (.n false 9 (.q 10 (.n false 12 .done)))) 11 (.n false 6 (.n false 9 (.q 10 (.n false 12 .done))))) 11 (.n false 5 (.n false 6 (.n false 9 (.q 10 (.n false 12 .done)))))) 11 (.n false 2 (.n false 5 (.n false 6 (.n false 9 (.q 10 (.n false 12 .done))))))))))))) ffm (by kernel_rfl) Pt.auto ?_
    refine AtC.pre (fun hle0 => ?_)
    refine AtC.kq (by (first | refine AtT.kfieldO fo53_0 ?_ | with_reducible refine AtT.kfield2 fo53_0 ?_ | refine AtT.kfield fo53_0 ?_); exact At.knows) ?_
    refine AtC.kq (by (first | refine AtT.kloadO tk22 ?_ | refine AtT.kload tk22 ?_); exact At.knows) ?_
    refine AtC.kq (by (first | refine AtT.kfieldO fo53_1 ?_ | with_reducible refine AtT.kfield2 fo53_1 ?_ | refine AtT.kfield fo53_1 ?_); exact At.knows) ?_
    refine AtC.kq (by (first | refine AtT.kloadO tk23 ?_ | refine AtT.kload tk23 ?_); exact At.knows) ?_
    refine AtC.kq (by (first | refine AtT.kfieldO fo53_2 ?_ | with_reducible refine AtT.kfield2 fo53_2 ?_ | refine AtT.kfield fo53_2 ?_); exact At.knows) ?_
    refine AtC.kq (by (first | refine AtT.kloadO tk23 ?_ | refine AtT.kload tk23 ?_); exact At.knows) ?_
    refine AtC.two ?_ ?_
    focus
      refine AtC.nz ?_
      refine AtT.kcallP rfl rfl ok54 (ranges54_f _ _) ?_
      rintro _ rfl
      refine AtC.kgo ?_
      refine AtC.two ?_ ?_
      focus
        refine AtC.nz ?_
        refine AtT.append rfl trivial Try.underlying23 rw69 rfl (by decide) rfl rfl Pick.auto (Sl.cells rge_len (g3'.le (by first | exact Le.refl _ | assumption | exact Le.trans (by assumption) (by assumption)))) (flat_len rge_len _) (flat_all1 (fun _ => rfl) _) (by unfold maxLen; omega) (by omega) (by decide) ?_
        intro a72 c72
        refine AtC.kgo ?_
        refine AtC.two ?_ ?_
        focus
          refine AtC.nz ?_
          refine AtT.kcallP rfl rfl ok54 (ranges54_f _ _) ?_
          rintro _ rfl
          refine AtC.kgo ?_
          refine AtC.two ?_ ?_
          focus
            refine AtC.nz ?_
            refine AtT.append rfl trivial Try.underlying23 rw69 rfl (by decide) rfl rfl Pick.auto (Sl.cells rge_len (g4'.le (by first | exact Le.refl _ | assumption | exact Le.trans (by assumption) (by assumption)))) (flat_len rge_len _) (flat_all1 (fun _ => rfl) _) (by unfold maxLen; omega) (by omega) (by decide) ?_
            intro a76 c76
            refine AtC.kgo ?_
            refine AtC.kq (by (refine AtT.kbuild (bd53_0_1_2 _ _ _ _ _ _ _ _ _) ?_); exact At.knows) ?_
            refine AtC.nz ?_
            refine AtT.kalloc z53 ?_
            intro b13
            refine AtC.kgo ?_
            refine AtC.nz ?_
            refine AtT.kstoreA tk53 ?_
            refine AtC.kgo ?_
            refine AtC.done ?_
          rotate_right
          focus
            refine AtC.nz ?_
            refine AtT.kalloc z53 ?_
            intro b13
            refine AtC.kgo ?_
            refine AtC.nz ?_
            refine AtT.append rfl trivial Try.underlying23 rw69 rfl (by decide) rfl rfl Pick.auto (Sl.cells rge_len (g4'.le (by first | exact Le.refl _ | assumption | exact Le.trans (by assumption) (by assumption)))) (flat_len rge_len _) (flat_all1 (fun _ => rfl) _) (by unfold maxLen; omega) (by omega) (by decide) ?_
            intro a76 c76
            refine AtC.kgo ?_
            refine AtC.kq (by (refine AtT.kbuild (bd53_0_1_2 _ _ _ _ _ _ _ _ _) ?_); exact At.knows) ?_
            refine AtC.nz ?_
            refine AtT.kstoreA tk53 ?_
            refine AtC.kgo ?_
            refine AtC.done ?_
        rotate_right
        focus
          refine AtC.nz ?_
          refine AtT.kalloc z53 ?_
          intro b13
          refine AtC.kgo ?_
          refine AtC.nz ?_
          refine AtT.kcallP rfl rfl ok54 (ranges54_f _ _) ?_
          rintro _ rfl
          refine AtC.kgo ?_
          refine AtC.nz ?_
          refine AtT.append rfl trivial Try.underlying23 rw69 rfl (by decide) rfl rfl Pick.auto (Sl.cells rge_len (g4'.le (by first | exact Le.refl _ | assumption | exact Le.trans (by assumption) (by assumption)))) (flat_len rge_len _) (flat_all1 (fun _ => rfl) _) (by unfold maxLen; omega) (by omega) (by decide) ?_
          intro a76 c76
          refine AtC.kgo ?_
          refine AtC.kq (by (refine AtT.kbuild (bd53_0_1_2 _ _ _ _ _ _ _ _ _) ?_); exact At.knows) ?_
          refine AtC.nz ?_
          refine AtT.kstoreA tk53 ?_
          refine AtC.kgo ?_
          refine AtC.done ?_
      rotate_right
      focus
        refine AtC.nz ?_
        refine AtT.kalloc z53 ?_
        intro b13
        refine AtC.kgo ?_
        refine AtC.nz ?_
        refine AtT.append rfl trivial Try.underlying23 rw69 rfl (by decide) rfl rfl Pick.auto (Sl.cells rge_len (g3'.le (by first | exact Le.refl _ | assumption | exact Le.trans (by assumption) (by assumption)))) (flat_len rge_len _) (flat_all1 (fun _ => rfl) _) (by unfold maxLen; omega) (by omega) (by decide) ?_
        intro a72 c72
        refine AtC.kgo ?_
        refine AtC.nz ?_
        refine AtT.kcallP rfl rfl ok54 (ranges54_f _ _) ?_
        rintro _ rfl
        refine AtC.kgo ?_
        refine AtC.nz ?_
        refine AtT.append rfl trivial Try.underlying23 rw69 rfl (by decide) rfl rfl Pick.auto (Sl.cells rge_len (g4'.le (by first | exact Le.refl _ | assumption | exact Le.trans (by assumption) (by assumption)))) (flat_len rge_len _) (flat_all1 (fun _ => rfl) _) (by unfold maxLen; omega) (by omega) (by decide) ?_
        intro a76 c76
        refine AtC.kgo ?_
        refine AtC.kq (by (refine AtT.kbuild (bd53_0_1_2 _ _ _ _ _ _ _ _ _) ?_); exact At.knows) ?_
        refine AtC.nz ?_
        refine AtT.kstoreA tk53 ?_
        refine AtC.kgo ?_
        refine AtC.done ?_
    rotate_right
    focus
      refine AtC.nz ?_
      refine AtT.kalloc z53 ?_
      intro b13
      refine AtC.kgo ?_
      refine AtC.nz ?_
      refine AtT.kcallP rfl rfl ok54 (ranges54_f _ _) ?_
      rintro _ rfl
      refine AtC.kgo ?_
      refine AtC.nz ?_
      refine AtT.append rfl trivial Try.underlying23 rw69 rfl (by decide) rfl rfl Pick.auto (Sl.cells rge_len (g3'.le (by first | exact Le.refl _ | assumption | exact Le.trans (by assumption) (by assumption)))) (flat_len rge_len _) (flat_all1 (fun _ => rfl) _) (by unfold maxLen; omega) (by omega) (by decide) ?_
      intro a72 c72
      refine AtC.kgo ?_
      refine AtC.nz ?_
      refine AtT.kcallP rfl rfl ok54 (ranges54_f _ _) ?_
      rintro _ rfl
      refine AtC.kgo ?_
      refine AtC.nz ?_
      refine AtT.append rfl trivial Try.underlying23 rw69 rfl (by decide) rfl rfl Pick.auto (Sl.cells rge_len (g4'.le (by first | exact Le.refl _ | assumption | exact Le.trans (by assumption) (by assumption)))) (flat_len rge_len _) (flat_all1 (fun _ => rfl) _) (by unfold maxLen; omega) (by omega) (by decide) ?_
      intro a76 c76
      refine AtC.kgo ?_
      refine AtC.kq (by (refine AtT.kbuild (bd53_0_1_2 _ _ _ _ _ _ _ _ _) ?_); exact At.knows) ?_
      refine AtC.nz ?_
      refine AtT.kstoreA tk53 ?_
      refine AtC.kgo ?_
      refine AtC.done ?_
    all_goals (refine At.nrm ?_)
    all_goals (simp only [Nat.zero_add, List.nil_append])
    all_goals (exact At.meetG (b13, (a72, c72), (a76, c76)) (by first | exact Le.refl _ | assumption | exact Le.trans (by assumption) (by assumption)) ⟨rfl, rfl, rfl, rfl, rfl, rfl, trivial⟩ Pt.auto)
  rintro ⟨b13, ⟨a72, c72⟩, ⟨a76, c76⟩⟩ V2 ks' O' hV2 hk hO hl2
  dsimp only at hk hO
  subst hk hO
  refine At.rowBlk (v := .slice a72 R.low.length c72) Pick.auto (by omega) (fun bl cl rl hbl hcl hml => ?_)
  cases hbl
  refine At.rowBlk (v := .slice a76 R.high.length c76) Pick.auto (by omega) (fun bh ch rh hbh hch hmh => ?_)
  cases hbh
  have q2' := q2.le hV2
  have g3'' := g3'.le hV2
  have g4'' := g4'.le hV2
  have g2'' := (g2.le hV1).le hV2
  refine At.nrm ?_
  refine At.ktext (.q 0 (.q 1 (.q 2 (.q 3 (.q 4 (.q 5 (.q 6 .done))))))) ?_
  refine AtT.kmove ?_
  refine AtT.kconv un5 Try.underlying3 ?_
  rw [wrap_fit (Fit.of (by omega) (by omega))]
  first | refine AtT.kfieldO fo53_0 ?_ | with_reducible refine AtT.kfield2 fo53_0 ?_ | refine AtT.kfield fo53_0 ?_
  first | refine AtT.kloadO tk22 ?_ | refine AtT.kload tk22 ?_
  first | refine AtT.klenS Try.underlying22 ?_ | refine AtT.klenR Try.underlying22 ?_
  refine AtT.krem ?_
  refine AtT.kassign ?_
  refine AtT.done ?_
  refine At.nrm ?_
  refine At.re (d := 14) rfl (show iv (which.tmod (R.pl.length : Int)) = iv I from by rw [hI]) ?_
  have s1 := flat_setR rge_len R.low I ⟨(edP (trL R ns) I).lo, x.hi⟩ rl (by omega)
  have s2 := flat_setR rge_len R.high I ⟨y.lo, (edP (trL R ns) I).hi⟩ rh (by omega)
  have f1 : (flat rge R.low).length = R.low.length * 2 := flat_len rge_len _
  have f2 : (flat rge R.high).length = R.high.length * 2 := flat_len rge_len _
  refine At.drawC [.blk b3 (LC [.slice a R.pl.length c, .slice (some ql) R.low.length c1, .slice (some qh) R.high.length c2] 53), .blk b7 (LC [.slice at' (trL R ns).pl.length ct, .slice ae (trL R ns).ed.length ce] 25), .blk b13 (LC [.slice a R.pl.length c, .slice (some ⟨bl, 0, none⟩) R.low.length c72, .slice (some ⟨bh, 0, none⟩) R.high.length c76] 53)] (.q 0 (.q 1 (.q 2 (.q 3 (.q 4 (.q 5 (.q 6 (.q 7 (.q 8 (.q 9 (.q 10 (.q 11 (.q 12 (.q 13 (.q 14 (.q 15 (.q 16 (.q 17 (.q 19 (.q 20 (.q 21 (.q 22 (.q 23 (.q 24 (.q 25 (.q 26 (.q 27 (.q 28 (.q 29 (.q 30 (.n false 18 (.n false 31 (.q 32 (.n false 33 (.q 34 (.n false 35 .done)))))))))))))))))))))))))))))))))))) ffm (by kernel_rfl) Pt.auto ?_
  refine AtC.pre (fun hle0 => ?_)
  refine AtC.kq (by (first | refine AtT.kfieldO fo53_1 ?_ | with_reducible refine AtT.kfield2 fo53_1 ?_ | refine AtT.kfield fo53_1 ?_); exact At.knows) ?_
  refine AtC.kq (by (first | refine AtT.kloadO tk23 ?_ | refine AtT.kload tk23 ?_); exact At.knows) ?_
  refine AtC.kq (by (refine AtT.kmove ?_); exact At.knows) ?_
  refine AtC.kq (by (first | refine AtT.kfieldO fo53_2 ?_ | with_reducible refine AtT.kfield2 fo53_2 ?_ | refine AtT.kfield fo53_2 ?_); exact At.knows) ?_
  refine AtC.kq (by (first | refine AtT.kloadO tk23 ?_ | refine AtT.kload tk23 ?_); exact At.knows) ?_
  refine AtC.kq (by (refine AtT.kmove ?_); exact At.knows) ?_
  refine AtC.kq (by (first | refine AtT.kfieldO fo25_1 ?_ | with_reducible refine AtT.kfield2 fo25_1 ?_ | refine AtT.kfield fo25_1 ?_); exact At.knows) ?_
  refine AtC.kq (by (first | refine AtT.kloadO tk23 ?_ | refine AtT.kload tk23 ?_); exact At.knows) ?_
  refine AtC.kq (by (refine AtT.kmove ?_); exact At.knows) ?_
  refine AtC.kidx Try.underlying23 tk69 ?_
  intro p93 e93 he93 hc93
  obtain rfl : e93 = edP (trL R ns) I := edP_some he93
  refine AtC.kq (by (first | refine AtT.kfieldO fo69_0 ?_ | with_reducible refine AtT.kfield2 fo69_0 ?_ | refine AtT.kfield fo69_0 ?_); exact At.knows) ?_
  refine AtC.kq (by (first | refine AtT.kloadO tk2 ?_ | refine AtT.kload tk2 ?_); exact At.knows) ?_
  refine AtC.kq (by (first | refine AtT.kfieldO fo53_1 ?_ | with_reducible refine AtT.kfield2 fo53_1 ?_ | refine AtT.kfield fo53_1 ?_); exact At.knows) ?_
  refine AtC.kq (by (first | refine AtT.kloadO tk23 ?_ | refine AtT.kload tk23 ?_); exact At.knows) ?_
  refine AtC.kq (by (refine AtT.kmove ?_); exact At.knows) ?_
  refine AtC.kidx Try.underlying23 tk69 ?_
  intro p99 e99 he99 hc99
  obtain rfl : e99 = x := by have : R.low[I]? = some e99 := (by simpa using he99); rw [hx] at this; simpa using this.symm
  refine AtC.kq (by (first | refine AtT.kfieldO fo69_1 ?_ | with_reducible refine AtT.kfield2 fo69_1 ?_ | refine AtT.kfield fo69_1 ?_); exact At.knows) ?_
  refine AtC.kq (by (first | refine AtT.kloadO tk2 ?_ | refine AtT.kload tk2 ?_); exact At.knows) ?_
  refine AtC.kq (by (first | refine AtT.kfieldO fo53_2 ?_ | with_reducible refine AtT.kfield2 fo53_2 ?_ | refine AtT.kfield fo53_2 ?_); exact At.knows) ?_
  refine AtC.kq (by (first | refine AtT.kloadO tk23 ?_ | refine AtT.kload tk23 ?_); exact At.knows) ?_
  refine AtC.kq (by (refine AtT.kmove ?_); exact At.knows) ?_
  refine AtC.kidx Try.underlying23 tk69 ?_
  intro p106 e106 he106 hc106
  obtain rfl : e106 = y := by have : R.high[I]? = some e106 := (by simpa using he106); rw [hy] at this; simpa using this.symm
  refine AtC.kq (by (first | refine AtT.kfieldO fo69_0 ?_ | with_reducible refine AtT.kfield2 fo69_0 ?_ | refine AtT.kfield fo69_0 ?_); exact At.knows) ?_
  refine AtC.kq (by (first | refine AtT.kloadO tk2 ?_ | refine AtT.kload tk2 ?_); exact At.knows) ?_
  refine AtC.kq (by (first | refine AtT.kfieldO fo25_1 ?_ | with_reducible refine AtT.kfield2 fo25_1 ?_ | refine AtT.kfield fo25_1 ?_); exact At.knows) ?_
  refine AtC.kq (by (first | refine AtT.kloadO tk23 ?_ | refine AtT.kload tk23 ?_); exact At.knows) ?_
  refine AtC.kq (by (refine AtT.kmove ?_); exact At.knows) ?_
  refine AtC.kidx Try.underlying23 tk69 ?_
  intro p112 e112 he112 hc112
  obtain rfl : e112 = edP (trL R ns) I := edP_some he112
  refine AtC.kq (by (first | refine AtT.kfieldO fo69_1 ?_ | with_reducible refine AtT.kfield2 fo69_1 ?_ | refine AtT.kfield fo69_1 ?_); exact At.knows) ?_
  refine AtC.kq (by (first | refine AtT.kloadO tk2 ?_ | refine AtT.kload tk2 ?_); exact At.knows) ?_
  refine AtC.nz ?_
  refine AtT.kcallP rfl rfl ok49 (to49_f _ _ _) ?_
  rintro _ rfl
  refine AtC.kgo ?_
  refine AtC.nz ?_
  refine AtT.kcallP rfl rfl ok49 (to49_f _ _ _) ?_
  rintro _ rfl
  refine AtC.kgo ?_
  refine AtC.kq (by (refine AtT.idxZ rfl trivial Try.underlying23 tk69 rfl rfl (by omega) (by decide) ?_); exact At.knows) ?_
  refine AtC.nz ?_
  refine AtT.store rfl trivial rfl rfl tk69 rfl rfl (by simp; omega) rfl s1 (by repeat (first | exact Upd.here | apply Upd.there)) ?_
  refine AtC.kgo ?_
  refine AtC.kq (by (refine AtT.idxZ rfl trivial Try.underlying23 tk69 rfl rfl (by omega) (by decide) ?_); exact At.knows) ?_
  refine AtC.nz ?_
  refine AtT.store rfl trivial rfl rfl tk69 rfl rfl (by simp; omega) rfl s2 (by repeat (first | exact Upd.here | apply Upd.there)) ?_
  refine AtC.kgo ?_
  refine AtC.done ?_
  refine At.nrm ?_
  refine At.giveB (b := bl) Pick.auto (fun V3 hV3 hb3 => ?_)
  refine At.giveB (b := bh) Pick.auto (fun V4 hV4 hb4 => ?_)
  have lx : (nrwR R ns I).low.length = R.low.length := by simp [nrwR]
  have ly : (nrwR R ns I).high.length = R.high.length := by simp [nrwR]
  have hXv : RoughV V4 (.agg #[.slice a R.pl.length c, .slice (some ⟨bl, 0, none⟩) R.low.length c72, .slice (some ⟨bh, 0, none⟩) R.high.length c76]) (nrwR R ns I) := by
    refine ⟨a, c, some ⟨bl, 0, none⟩, c72, some ⟨bh, 0, none⟩, c76, by rw [lx, ly]; rfl, (g2''.le hV3).le hV4, ?_, ?_⟩
    · have hc := (cells_pre hb3).le hV4
      rw [← gx] at hc
      exact Sl.of_cells (l := (nrwR R ns I).low) rge_len hc (by rw [lx]; exact hcl) hml
    · have hc := cells_pre hb4
      rw [← gy] at hc
      exact Sl.of_cells (l := (nrwR R ns I).high) rge_len hc (by rw [ly]; exact hch) hmh
  have hse := span_eq hX
  rw [hxi] at hse
  refine At.nrm ?_
  refine At.ktext (.q 0 (.n false 1 (.q 2 (.q 3 (.q 4 (.q 5 (.n false 6 (.n false 7 (.n true 8 (.n true 9 (.q 10 .done))))))))))) ?_
  first | refine AtT.kloadOA tk53 ?_ | refine AtT.kloadA tk53 ?_ | refine AtT.kloadOP tk53 ?_
  refine AtT.kcallP rfl rfl ok37 (span_val hXv hse) ?_
  rintro _ rfl
  refine AtT.kmove ?_
  refine AtT.kextract ?_
  refine AtT.kextract ?_
  refine AtT.kextract ?_
  refine AtT.kalloc z31 ?_
  intro b15
  refine AtT.kalloc z31 ?_
  intro b16
  refine AtT.kstoreA tk31 ?_
  refine AtT.kstoreA tk31 ?_
  refine AtT.kassign ?_
  refine AtT.done ?_
  refine At.nrm ?_
  refine At.ktext (.q 0 (.q 1 (.q 2 (.q 3 (.n false 4 (.q 5 (.q 6 (.q 7 (.n false 8 (.q 9 (.q 10 (.q 11 (.q 12 (.n false 13 (.q 14 (.q 15 (.q 16 (.q 17 (.q 18 (.n false 19 (.q 20 (.q 21 (.q 22 (.n false 23 (.q 24 (.q 25 .done)))))))))))))))))))))))))) ?_
  refine AtT.kmove ?_
  refine AtT.keqI ?_
  rw [eqI]
  refine AtT.kmove ?_
  all_goals (first | refine AtT.kL 126 ?_ | refine AtT.pcase (d := 126) rfl (fun hg126 => ?_) (fun hg126 => ?_) | refine AtT.bcase (d := 126) rfl (fun hg126 => ?_) (fun hg126 => ?_))
  all_goals (first | refine AtT.kpass ?_ | refine AtT.kpassU ?_ | ((first | refine AtT.kloadOA tk31 ?_ | refine AtT.kloadA tk31 ?_ | refine AtT.kloadOP tk31 ?_)))
  all_goals (first | refine AtT.kpassN ?_ | refine AtT.kpassNU ?_ | ((refine AtT.kcallP rfl rfl ok46 (small_f _ sI _) ?_) ; (rintro _ rfl)))
  all_goals (refine AtT.kpick ?_)
  all_goals (refine AtT.kmove ?_)
  all_goals (first | refine AtT.kL 130 ?_ | refine AtT.pcase (d := 130) rfl (fun hg130 => ?_) (fun hg130 => ?_) | refine AtT.bcase (d := 130) rfl (fun hg130 => ?_) (fun hg130 => ?_))
  all_goals (first | refine AtT.kpass ?_ | refine AtT.kpassU ?_ | ((first | refine AtT.kloadOA tk31 ?_ | refine AtT.kloadA tk31 ?_ | refine AtT.kloadOP tk31 ?_)))
  all_goals (first | refine AtT.kpassN ?_ | refine AtT.kpassNU ?_ | ((refine AtT.kcallP rfl rfl ok46 (small_f _ sXo _) ?_) ; (rintro _ rfl)))
  all_goals (refine AtT.kpick ?_)
  all_goals (refine AtT.kmove ?_)
  all_goals (first | refine AtT.kL 134 ?_ | refine AtT.pcase (d := 134) rfl (fun hg134 => ?_) (fun hg134 => ?_) | refine AtT.bcase (d := 134) rfl (fun hg134 => ?_) (fun hg134 => ?_))
  all_goals (first | refine AtT.kpass ?_ | refine AtT.kpassU ?_ | ((first | refine AtT.kloadOA tk31 ?_ | refine AtT.kloadA tk31 ?_ | refine AtT.kloadOP tk31 ?_)))
  all_goals (first | refine AtT.kpass ?_ | refine AtT.kpassU ?_ | ((first | refine AtT.kloadOA tk31 ?_ | refine AtT.kloadA tk31 ?_ | refine AtT.kloadOP tk31 ?_)))
  all_goals (first | refine AtT.kpassN ?_ | refine AtT.kpassNU ?_ | ((refine AtT.kcallP rfl rfl ok45 (rless_f (bestV (truthL R false)) (bestV (truthL R false)) _ (sm_fit sI sI) (sm_fit sI sI)) ?_) ; (rintro _ rfl)))
  all_goals (refine AtT.setB (d := 137) rfl (less_not sI.can sI.can Rat.le_refl) ?_)
  all_goals (first | refine AtT.kpass ?_ | refine AtT.kpassU ?_ | ((refine AtT.knot ?_)))
  all_goals (refine AtT.kpick ?_)
  all_goals (refine AtT.kmove ?_)
  all_goals (first | refine AtT.kL 140 ?_ | refine AtT.pcase (d := 140) rfl (fun hg140 => ?_) (fun hg140 => ?_) | refine AtT.bcase (d := 140) rfl (fun hg140 => ?_) (fun hg140 => ?_))
  all_goals (first | refine AtT.kpass ?_ | refine AtT.kpassU ?_ | ((first | refine AtT.kloadOA tk31 ?_ | refine AtT.kloadA tk31 ?_ | refine AtT.kloadOP tk31 ?_)))
  all_goals (first | refine AtT.kpass ?_ | refine AtT.kpassU ?_ | ((first | refine AtT.kloadOA tk31 ?_ | refine AtT.kloadA tk31 ?_ | refine AtT.kloadOP tk31 ?_)))
  all_goals (first | refine AtT.kpassN ?_ | refine AtT.kpassNU ?_ | ((refine AtT.kcallP rfl rfl ok45 (rless_f (bestV (truthL R true)) (bestV (truthL (nrwR R ns I) true)) _ (sm_fit sO sXo) (sm_fit sXo sO)) ?_) ; (rintro _ rfl)))
  all_goals (refine AtT.setB (d := 143) rfl (less_not sO.can sXo.can hxo) ?_)
  all_goals (first | refine AtT.kpass ?_ | refine AtT.kpassU ?_ | ((refine AtT.knot ?_)))
  all_goals (refine AtT.kpick ?_)
  all_goals (refine AtT.kmove ?_)
  all_goals (first | refine AtT.kL 146 ?_ | refine AtT.pcase (d := 146) rfl (fun hg146 => ?_) (fun hg146 => ?_) | refine AtT.bcase (d := 146) rfl (fun hg146 => ?_) (fun hg146 => ?_))
  all_goals (first | refine AtT.kpassN ?_ | refine AtT.kpassNU ?_ | ((refine AtT.kcallP rfl rfl ok19 (works_f _) ?_) ; (rintro _ rfl)))
  all_goals (refine AtT.kpick ?_)
  all_goals (refine AtT.kassign ?_)
  all_goals refine AtT.done ?_
  all_goals (refine At.nrm ?_)
  exact At.ret1 rfl (.tmp rfl) rfl
end Go.Proofs.Ytnionkopmncopaa
set_option linter.unusedVariables false
set_option maxRecDepth 100000
namespace Go.Proofs.Ytnionkopmncopaa
open Go.Lw Go.Pl Go.RowKit Go.ChangeShapes Go.WideShapes Go.ChangeAt Go.Joins Go.Deep

theorem cells81 : Try.prog.cellsOf 81 = 1 := by kernel_rfl
section
variable {H : Type} {enc : TypeId × Value → H} {W : World} {base : Nat} {spare : Nat → Bool} {held : Bool} {v : Value} {d : DataW H} {p : List MemPlace} {b0 : Nat} {r : Reach}
theorem rd_u16s (hv : Value.okWide Try.prog W r b0 77 v) (h : DataW.Trod enc Try.prog W base spare held 77 v d p) : ∃ (l : List U16) (a : Option Addr) (cap : Nat), v = .slice a l.length cap ∧ Sl (hp W) eu 1 (.slice a l.length cap) l := by
  obtain ⟨a, n, c, rfl⟩ := okWide_slice Try.underlying77 hv
  obtain ⟨fuel, h⟩ := h
  refine sl_of Try.underlying77 cells81 (fun _ cs _ h _ => ?_) h
  obtain ⟨z, e, w⟩ := el_int Try.underlying81 h
  exact ⟨⟨z, bounds_u16 w⟩, e⟩
end
end Go.Proofs.Ytnionkopmncopaa
set_option linter.unusedVariables false
namespace Go.Proofs.Ytnionkopmncopaa.c13
open Go.Lw Go.Pl Go.RowKit Go.ChangeShapes Go.WideShapes Go.ChangeAt

set_option maxRecDepth 100000 in
theorem lifted (os : Os) (started : os.Started) (H : Type) (enc : TypeId × Value → H) :
    ReturnsInHanded {} Try.checked os 15 .any (Rows.peelTrueSpec.pre6 enc Try.prog Try.f15 Rows.peelTrueRow.domain false) (Rows.peelTrueSpec.post enc Try.prog Try.f15 false true false false) := by
  refine law_lift (tb := 4) (fun ds hd => by match ds, hd with | [d0, d1, d2], _ => rfl) rfl (by kernel_rfl) Try.underlying4 laidOut (by kernel_rfl) own started (by kernel_rfl) Try.func15
    (ChangeSpec.witness6 (enc := enc) (C := Try.checked) false ⟨#[], #[.agg #[.slice none 0 0, .slice none 0 0, .slice none 0 0], .slice none 0 0, .int .u8 0], []⟩ 8 (by kernel_rfl) (by kernel_rfl) (by kernel_rfl) (by kernel_rfl)) ?_
  intro W base args ds ps hval hA
  rw [Try.params15] at hA hval
  obtain ⟨v0, vs0, d0, ds0, p0, q0, hargs, rfl, rfl, h0, r0⟩ := trodAll_cons hA
  obtain ⟨v1, vs1, d1, ds1, p1, q1, rfl, rfl, rfl, h1, r1⟩ := trodAll_cons r0
  obtain ⟨v2, vs2, d2, ds2, p2, q2, rfl, rfl, rfl, h2, r2⟩ := trodAll_cons r1
  obtain ⟨rfl, rfl, rfl⟩ := trodAll_nil r2
  obtain rfl : args = #[v0, v1, v2] := by cases args; simp_all
  obtain ⟨L0, hL0⟩ := open_rough (hval 0 53 v0 rfl rfl) h0
  obtain ⟨l1, a1, c1, rfl, s1⟩ := rd_u16s (hval 1 77 v1 rfl rfl) h1
  obtain ⟨x2, rfl, _, _, w2⟩ := open_int Try.underlying5 (hval 2 5 v2 rfl rfl) h2
  have b2 := bounds_u8 w2
  exact ⟨[v0, .slice a1 l1.length c1, .int .u8 x2], rfl, peelTrue_f L0 l1 x2 _ _ _ _ hL0 s1 b2⟩

theorem over : Rows.peelTrueRow.holds Try.pinned (OpenSpec.ofChange Rows.peelTrueSpec) :=
  OpenClaim.holds_of_wide 15 Try.f15 rfl rfl rfl rfl rfl rfl rfl ⟨rfl, rfl, rfl, rfl, rfl⟩ rfl rfl rfl rfl rfl (by kernel_rfl) Try.func15 (by kernel_rfl)
    (of_decide_eq_true (by kernel_rfl)) (by unfold Func.isWrapper; first | (rw [if_pos (by decide +kernel)]; kernel_rfl) | (rw [if_neg (by decide +kernel)]; exact ⟨rfl, rfl⟩))
    (fun os started H enc _ => lifted os started H enc)

theorem proved : Rows.PeelTrueSaid := over
#print axioms proved
end Go.Proofs.Ytnionkopmncopaa.c13
