/- If a log is turned end for end, or upside down, the best core stays, and so do the heights of a number, turned with it: for every log, core and number. No condition. -/
import Derived.Test.YtnionkopmncopaaB5
set_option linter.unusedVariables false
set_option linter.unusedSimpArgs false
set_option linter.unusedSectionVars false
set_option linter.unusedVariables false
namespace Go.Proofs.Ytnionkopmncopaa
open Go.Pl

theorem best_mono {L X : Lg} (hL : LgOk L) (hX : LgOk X) (h : ∀ c h s, Keeps L c h s → ∃ h' s', Keeps X c h' s') : (bestV L).q ≤ (bestV X).q := by
  obtain ⟨_, _, h0, s0, _, _, hk, _⟩ := best_line hL
  obtain ⟨h1, s1, hk'⟩ := h _ _ _ hk
  exact keeps_best hX hk'
theorem best_same {L X : Lg} (hL : LgOk L) (hX : LgOk X) (h : ∀ c h s, Keeps L c h s → ∃ h' s', Keeps X c h' s') (h' : ∀ c h s, Keeps X c h s → ∃ h' s', Keeps L c h' s') : bestV L = bestV X := by
  refine can_ext (best_can hL) (best_can hX) ?_
  have := best_mono hL hX h
  have := best_mono hX hL h'
  grind

/-! ### Moved by a line -/
def movR (hh ss : Int) (x : Int) (e : Rg) : Rg := ⟨e.lo + (hh + ss * x), e.hi + (hh + ss * x)⟩
def movedL (L : Lg) (hh ss : Int) : Lg := ⟨L.pl, List.zipWith (movR hh ss) L.pl L.ed⟩
theorem movedL_pl (L : Lg) (hh ss : Int) (i : Int) : plP (movedL L hh ss) i = plP L i := rfl
theorem movedL_at {L : Lg} (hL : LgOk L) (hh ss : Int) {i : Nat} (hi : i < L.pl.length) : (movedL L hh ss).ed[i]? = some (movR hh ss (plP L i) (edP L i)) := by
  simp only [movedL, List.getElem?_zipWith, plP_at hi, edP_at (L := L) (i := i) (by have := hL.el; omega)]
theorem movedL_ed {L : Lg} (hL : LgOk L) (hh ss : Int) {i : Nat} (hi : i < L.pl.length) : edP (movedL L hh ss) i = movR hh ss (plP L i) (edP L i) := (edP_some (i := (i : Int)) (movedL_at hL hh ss hi)).symm
theorem moved_keeps {L : Lg} (hL : LgOk L) (hh ss : Int) (c h s : Rat) : Keeps (movedL L hh ss) c (h + hh) (s + ss) ↔ Keeps L c h s := by
  have e : ∀ m, m < L.pl.length → loq (movedL L hh ss) c m = loq L c m + (hh + ss * Xq L m) ∧ hiq (movedL L hh ss) c m = hiq L c m + (hh + ss * Xq L m) := fun m hm => by
    simp only [loq, hiq, movedL_ed hL hh ss hm, movR, Xq]
    push_cast
    exact ⟨by grind, by grind⟩
  have eX : ∀ m, Xq (movedL L hh ss) m = Xq L m := fun m => rfl
  constructor
  · intro hk m hm
    have := hk m hm
    rw [(e m hm).1, (e m hm).2, eX] at this
    exact ⟨by grind, by grind⟩
  · intro hk m hm
    have := hk m hm
    rw [(e m hm).1, (e m hm).2, eX]
    exact ⟨by grind, by grind⟩
theorem moved_best {L : Lg} (hL : LgOk L) (hh ss : Int) (hX : LgOk (movedL L hh ss)) : bestV L = bestV (movedL L hh ss) := by
  refine best_same hL hX (fun c h s hk => ⟨_, _, (moved_keeps hL hh ss c h s).2 hk⟩) (fun c h s hk => ⟨h - hh, s - ss, (moved_keeps hL hh ss c _ _).1 ?_⟩)
  have e1 : h - (hh : Rat) + hh = h := by grind
  have e2 : s - (ss : Rat) + ss = s := by grind
  rw [e1, e2]; exact hk
def movLn (y : Ln) (hh ss : Int) : Ln := ⟨y.den, y.start + y.den * hh, y.step + y.den * ss⟩
theorem moved_core {L : Lg} (hL : LgOk L) (hh ss : Int) (hX : LgOk (movedL L hh ss)) {y : Ln} (hy : 0 < y.den) : coreOf (movedL L hh ss) (movLn y hh ss) = coreOf L y := by
  have hdn := cne hy
  have key : ∀ c : Rat, c ≤ (coreOf (movedL L hh ss) (movLn y hh ss)).q ↔ c ≤ (coreOf L y).q := fun c => by
    rw [core_keeps hX (x := movLn y hh ss) hy, core_keeps hL hy, ← moved_keeps hL hh ss]
    have e1 : ((movLn y hh ss).start : Rat) / ((movLn y hh ss).den : Rat) = (y.start : Rat) / y.den + hh := by simp only [movLn]; push_cast; grind
    have e2 : ((movLn y hh ss).step : Rat) / ((movLn y hh ss).den : Rat) = (y.step : Rat) / y.den + ss := by simp only [movLn]; push_cast; grind
    rw [e1, e2]
  refine can_ext (core_can (x := movLn y hh ss) hy) (core_can hy) ?_
  have a := (key _).1 Rat.le_refl
  have b := (key _).2 Rat.le_refl
  grind

/-! ### Scaled -/
def sclR (t : Int) (e : Rg) : Rg := ⟨t * e.lo, t * e.hi⟩
def sclE (L : Lg) (t : Int) : Lg := ⟨L.pl, L.ed.map (sclR t)⟩
def farP (L : Lg) (m : Int) : Lg := ⟨L.pl.map (· + m), L.ed⟩
def sclP (L : Lg) (t : Int) : Lg := ⟨L.pl.map (t * ·), L.ed⟩
theorem sclE_ed {L : Lg} (hL : LgOk L) (t : Int) {i : Nat} (hi : i < L.pl.length) : edP (sclE L t) i = sclR t (edP L i) := by
  have h : (sclE L t).ed[i]? = some (sclR t (edP L i)) := by simp only [sclE, List.getElem?_map, edP_at (L := L) (i := i) (by have := hL.el; omega)]; rfl
  exact (edP_some (i := (i : Int)) h).symm
theorem farP_pl {L : Lg} (m : Int) {i : Nat} (hi : i < L.pl.length) : plP (farP L m) i = plP L i + m := by
  have h : (farP L m).pl[i]? = some (plP L i + m) := by simp only [farP, List.getElem?_map, plP_at hi]; rfl
  exact (plP_some (i := (i : Int)) h).symm
theorem sclP_pl {L : Lg} (t : Int) {i : Nat} (hi : i < L.pl.length) : plP (sclP L t) i = t * plP L i := by
  have h : (sclP L t).pl[i]? = some (t * plP L i) := by simp only [sclP, List.getElem?_map, plP_at hi]; rfl
  exact (plP_some (i := (i : Int)) h).symm
theorem sclE_keeps {L : Lg} (hL : LgOk L) {t : Int} (ht : 0 < t) (c h s : Rat) : Keeps (sclE L t) (t * c) (t * h) (t * s) ↔ Keeps L c h s := by
  have tp := cpos ht
  have e : ∀ m, m < L.pl.length → loq (sclE L t) (t * c) m = loq L c m * t ∧ hiq (sclE L t) (t * c) m = hiq L c m * t := fun m hm => by
    simp only [loq, hiq, sclE_ed hL t hm, sclR]
    push_cast
    exact ⟨by grind, by grind⟩
  have eX : ∀ m, Xq (sclE L t) m = Xq L m := fun m => rfl
  have e3 : ∀ m, (t : Rat) * h + t * s * Xq L m = (h + s * Xq L m) * t := fun m => by grind
  constructor
  · intro hk m hm
    have := hk m hm
    rw [(e m hm).1, (e m hm).2, eX, e3] at this
    exact ⟨rle_of this.1 tp, rle_of this.2 tp⟩
  · intro hk m hm
    have := hk m hm
    rw [(e m hm).1, (e m hm).2, eX, e3]
    exact ⟨rmul_le this.1 (by grind), rmul_le this.2 (by grind)⟩
theorem sclE_best {L : Lg} (hL : LgOk L) {t : Int} (ht : 0 < t) (hX : LgOk (sclE L t)) : bestV (sclE L t) = rat (t * (bestV L).num) (bestV L).den := by
  have tp := cpos ht
  have tn := cne ht
  have bp := (best_can hL).pos
  have bn := cne bp
  refine can_ext (best_can hX) (rat_can bp) ?_
  have e : (rat (t * (bestV L).num) (bestV L).den).q = t * (bestV L).q := by
    rw [rat_q bp]; unfold Rt.q; push_cast; grind
  rw [e]
  obtain ⟨_, _, h0, s0, _, _, hk, _⟩ := best_line hL
  obtain ⟨_, _, h1, s1, _, _, hk1, _⟩ := best_line hX
  have a := keeps_best hX ((sclE_keeps hL ht _ _ _).2 hk)
  have hk1' : Keeps (sclE L t) (t * ((bestV (sclE L t)).q / t)) (t * (h1 / t)) (t * (s1 / t)) := by
    have g1 : (t : Rat) * ((bestV (sclE L t)).q / t) = (bestV (sclE L t)).q := by grind
    have g2 : (t : Rat) * (h1 / t) = h1 := by grind
    have g3 : (t : Rat) * (s1 / t) = s1 := by grind
    rw [g1, g2, g3]; exact hk1
  have b := keeps_best hL ((sclE_keeps hL ht _ _ _).1 hk1')
  have b' := rmul_le b (c := (t : Rat)) (by grind)
  have g : (bestV (sclE L t)).q / t * t = (bestV (sclE L t)).q := by grind
  rw [g] at b'
  grind
theorem farP_keeps {L : Lg} (m : Int) (c h s : Rat) : Keeps (farP L m) c h s ↔ Keeps L c (h + s * m) s := by
  have hl : (farP L m).pl.length = L.pl.length := by simp [farP]
  have e : ∀ j, j < L.pl.length → Xq (farP L m) j = Xq L j + m := fun j hj => by simp only [Xq, farP_pl m hj]; push_cast; rfl
  have ev : ∀ j, j < L.pl.length → h + s * Xq (farP L m) j = h + s * m + s * Xq L j := fun j hj => by rw [e j hj]; grind
  constructor
  · intro hk j hj
    have := hk j (by rw [hl]; exact hj)
    rw [ev j hj] at this
    exact this
  · intro hk j hj
    rw [hl] at hj
    have := hk j hj
    rw [ev j hj]
    exact this
theorem farP_best {L : Lg} (hL : LgOk L) (m : Int) (hX : LgOk (farP L m)) : bestV L = bestV (farP L m) := by
  refine best_same hL hX (fun c h s hk => ⟨h - s * m, s, (farP_keeps m c _ _).2 ?_⟩) (fun c h s hk => ⟨_, _, (farP_keeps m c h s).1 hk⟩)
  have : h - s * (m : Rat) + s * m = h := by grind
  rw [this]; exact hk
theorem sclP_keeps {L : Lg} (t : Int) (c h s : Rat) : Keeps (sclP L t) c h s ↔ Keeps L c h (s * t) := by
  have hl : (sclP L t).pl.length = L.pl.length := by simp [sclP]
  have ev : ∀ j, j < L.pl.length → h + s * Xq (sclP L t) j = h + s * t * Xq L j := fun j hj => by simp only [Xq, sclP_pl t hj]; push_cast; grind
  constructor
  · intro hk j hj
    have := hk j (by rw [hl]; exact hj)
    rw [ev j hj] at this
    exact this
  · intro hk j hj
    rw [hl] at hj
    have := hk j hj
    rw [ev j hj]
    exact this
theorem sclP_best {L : Lg} (hL : LgOk L) {t : Int} (ht : 0 < t) (hX : LgOk (sclP L t)) : bestV L = bestV (sclP L t) := by
  have tn := cne ht
  refine best_same hL hX (fun c h s hk => ⟨h, s / t, (sclP_keeps t c _ _).2 ?_⟩) (fun c h s hk => ⟨_, _, (sclP_keeps t c h s).1 hk⟩)
  have : s / (t : Rat) * t = s := by grind
  rw [this]; exact hk

/-! ### Wider, and without a place -/
def widR (d : Int) (e : Rg) : Rg := ⟨max (-1000) (e.lo - d), min 1000 (e.hi + d.tdiv 2)⟩
def widL (L : Lg) (d : Int) : Lg := ⟨L.pl, L.ed.map (widR d)⟩
theorem widL_ed {L : Lg} (hL : LgOk L) (d : Int) {i : Nat} (hi : i < L.pl.length) : edP (widL L d) i = widR d (edP L i) := by
  have h : (widL L d).ed[i]? = some (widR d (edP L i)) := by simp only [widL, List.getElem?_map, edP_at (L := L) (i := i) (by have := hL.el; omega)]; rfl
  exact (edP_some (i := (i : Int)) h).symm
theorem ok_logE {L : Lg} (h : LgOk L) : logE L = 0 := by
  unfold logE placedE
  have c1 : wi 2 8 [(L.pl.length : Int)] = true := by
    have := h.n2; have := h.n8
    simp only [wi, List.any_cons, List.any_nil, outB, Bool.or_false, Bool.not_eq_true', Bool.or_eq_false_iff, decide_eq_false_iff_not]; omega
  have c2 : ([L.ed].any fun l => decide (l.length ≠ L.pl.length)) = false := by simp [h.el]
  have c3 : ([L.ed].any fun l => l.any strayB) = false := by
    simp only [List.any_cons, List.any_nil, Bool.or_false]
    rw [List.any_eq_false]
    intro r hr
    have := h.edge r hr
    rw [strayB_iff]; simp; omega
  have c4 : wi 0 100 L.pl = true := by
    simp only [wi, Bool.not_eq_true']
    rw [List.any_eq_false]
    intro x hx
    have := h.at0 x hx
    simp [outB]; omega
  have c5 : incB L.pl = true := incB_true.2 h.inc
  rw [if_neg (by rw [c1]; simp), if_neg (by rw [c2]; simp), if_neg (by rw [c3]; simp), if_neg (by rw [c4]; simp), if_neg (by rw [c5]; simp)]
theorem widL_ok {L : Lg} (hL : LgOk L) {d : Int} (h0 : 0 ≤ d) : LgOk (widL L d) := by
  refine ⟨hL.n2, hL.n8, by simp [widL, hL.el], hL.at0, fun r hr => ?_, hL.inc⟩
  simp only [widL, List.mem_map] at hr
  obtain ⟨e, he, rfl⟩ := hr
  have := hL.edge e he
  have hd : 0 ≤ d.tdiv 2 := Int.tdiv_nonneg h0 (by decide)
  simp only [widR]; omega
theorem widL_best {L : Lg} (hL : LgOk L) {d : Int} (h0 : 0 ≤ d) : (bestV L).q ≤ (bestV (widL L d)).q ∧ (bestV (widL L d)).q ≤ (bestV L).q + d := by
  have hX := widL_ok hL h0
  have hd : 0 ≤ d.tdiv 2 ∧ d.tdiv 2 ≤ d := by
    have := Int.tdiv_nonneg h0 (b := 2) (by decide)
    have := Int.mul_tdiv_add_tmod d 2
    have := Int.tmod_nonneg (a := d) 2 h0
    omega
  have e : ∀ m, m < L.pl.length → ((edP (widL L d) m).lo : Rat) ≤ (edP L m).lo ∧ ((edP L m).hi : Rat) ≤ (edP (widL L d) m).hi ∧ ((edP L m).lo : Rat) ≤ (edP (widL L d) m).lo + d ∧ ((edP (widL L d) m).hi : Rat) ≤ (edP L m).hi + d := fun m hm => by
    have b := hL.edB (i := (m : Int)) (by omega) (by omega)
    rw [widL_ed hL d hm]
    simp only [widR]
    refine ⟨cle (by omega), cle (by omega), ?_, ?_⟩
    · have := cle (a := (edP L m).lo) (b := max (-1000) ((edP L m).lo - d) + d) (by omega)
      rwa [Rat.intCast_add] at this
    · have := cle (a := min 1000 ((edP L m).hi + d.tdiv 2)) (b := (edP L m).hi + d) (by omega)
      rwa [Rat.intCast_add] at this
  constructor
  · refine best_mono hL hX fun c h s hk => ⟨h, s, fun m hm => ?_⟩
    have k := hk m hm
    have := e m hm
    have eX : Xq (widL L d) m = Xq L m := rfl
    simp only [loq, hiq, eX] at k ⊢
    exact ⟨by grind, by grind⟩
  · obtain ⟨_, _, h1, s1, _, _, hk1, _⟩ := best_line hX
    have := keeps_best hL (c := (bestV (widL L d)).q - d) (h := h1) (s := s1) fun m hm => by
      have k := hk1 m hm
      have := e m hm
      have eX : Xq (widL L d) m = Xq L m := rfl
      simp only [loq, hiq, eX] at k ⊢
      exact ⟨by grind, by grind⟩
    grind
def lessL (L : Lg) (i : Nat) : Lg := ⟨L.pl.eraseIdx i, L.ed.eraseIdx i⟩
theorem lessL_best {L : Lg} (hL : LgOk L) {i : Nat} (hi : i < L.pl.length) (hX : LgOk (lessL L i)) : (bestV L).q ≤ (bestV (lessL L i)).q := by
  refine best_mono hL hX fun c h s hk => ⟨h, s, fun m hm => ?_⟩
  have el := hL.el
  have hlen : (lessL L i).pl.length = L.pl.length - 1 := by simp only [lessL, List.length_eraseIdx, hi, if_true]
  rw [hlen] at hm
  have h1 : plP (lessL L i) m = plP L (if m < i then m else m + 1 : Nat) := by
    simp only [plP, lessL, List.getD, List.getElem?_eraseIdx, Int.toNat_natCast]
    split <;> rfl
  have h2 : edP (lessL L i) m = edP L (if m < i then m else m + 1 : Nat) := by
    simp only [edP, lessL, List.getD, List.getElem?_eraseIdx, Int.toNat_natCast]
    split <;> rfl
  have := hk (if m < i then m else m + 1) (by split <;> omega)
  simp only [loq, hiq, Xq, h1, h2] at this ⊢
  exact this
end Go.Proofs.Ytnionkopmncopaa
set_option linter.unusedVariables false
namespace Go.Proofs.Ytnionkopmncopaa
open Go.Pl

/-! ### End for end -/
def endL (L : Lg) : Lg := ⟨(L.pl.map (fun x => 100 - x)).reverse, L.ed.reverse⟩
theorem endL_len (L : Lg) : (endL L).pl.length = L.pl.length := by simp [endL]
theorem endL_plat {L : Lg} {i : Nat} (hi : i < L.pl.length) : (endL L).pl[i]? = some (100 - plP L ((L.pl.length : Int) - 1 - i)) := by
  have h : L.pl[L.pl.length - 1 - i]? = some (plP L ((L.pl.length : Int) - 1 - i)) := by
    rw [plP_at (by omega)]; congr 2; omega
  simp only [endL]
  rw [List.getElem?_reverse (by simpa using hi)]
  simp only [List.length_map, List.getElem?_map, h, Option.map_some]
theorem endL_edat {L : Lg} (hL : LgOk L) {i : Nat} (hi : i < L.pl.length) : (endL L).ed[i]? = some (edP L ((L.pl.length : Int) - 1 - i)) := by
  have el := hL.el
  have h : L.ed[L.ed.length - 1 - i]? = some (edP L ((L.pl.length : Int) - 1 - i)) := by
    rw [edP_at (by omega)]; congr 2; omega
  simp only [endL]
  rw [List.getElem?_reverse (by omega)]
  exact h
theorem endL_pl {L : Lg} {i : Nat} (hi : i < L.pl.length) : plP (endL L) i = 100 - plP L ((L.pl.length : Int) - 1 - i) := (plP_some (i := (i : Int)) (endL_plat hi)).symm
theorem endL_ed {L : Lg} (hL : LgOk L) {i : Nat} (hi : i < L.pl.length) : edP (endL L) i = edP L ((L.pl.length : Int) - 1 - i) := (edP_some (i := (i : Int)) (endL_edat hL hi)).symm
theorem getD_of {l : List Int} {i : Nat} {x : Int} (h : l[i]? = some x) : l.getD i 0 = x := by simp [List.getD, h]
theorem endL_ok {L : Lg} (hL : LgOk L) : LgOk (endL L) := by
  have ll := endL_len L
  refine ⟨by rw [ll]; exact hL.n2, by rw [ll]; exact hL.n8, by rw [ll]; simp [endL, hL.el], fun x hx => ?_, fun r hr => ?_, fun i hi => ?_⟩
  · simp only [endL, List.mem_reverse, List.mem_map] at hx
    obtain ⟨y, hy, rfl⟩ := hx
    have := hL.at0 y hy
    omega
  · simp only [endL, List.mem_reverse] at hr
    exact hL.edge r hr
  · rw [ll] at hi
    rw [getD_of (endL_plat (L := L) (i := i) (by omega)), getD_of (endL_plat (L := L) (i := i + 1) (by omega))]
    have := hL.plL (i := (L.pl.length : Int) - 1 - (i + 1 : Nat)) (j := (L.pl.length : Int) - 1 - i) (by omega) (by omega) (by omega)
    omega
theorem end_keeps {L : Lg} (hL : LgOk L) (c h s : Rat) : Keeps (endL L) c h s ↔ Keeps L c (h + 100 * s) (-s) := by
  have ll := endL_len L
  have e : ∀ m, m < L.pl.length → loq (endL L) c m = loq L c (L.pl.length - 1 - m) ∧ hiq (endL L) c m = hiq L c (L.pl.length - 1 - m) ∧ h + s * Xq (endL L) m = h + 100 * s + -s * Xq L (L.pl.length - 1 - m) := fun m hm => by
    have hx : ((L.pl.length - 1 - m : Nat) : Int) = (L.pl.length : Int) - 1 - m := by omega
    simp only [loq, hiq, Xq, endL_ed hL hm, endL_pl hm, hx]
    push_cast
    exact ⟨trivial, trivial, by grind⟩
  constructor
  · intro hk m hm
    have := hk (L.pl.length - 1 - m) (by rw [ll]; omega)
    obtain ⟨a, b, d⟩ := e (L.pl.length - 1 - m) (by omega)
    rw [a, b, d, show L.pl.length - 1 - (L.pl.length - 1 - m) = m from by omega] at this
    exact this
  · intro hk m hm
    rw [ll] at hm
    have := hk (L.pl.length - 1 - m) (by omega)
    obtain ⟨a, b, d⟩ := e m hm
    rw [a, b, d]
    exact this
theorem end_back {L : Lg} (hL : LgOk L) {c h s : Rat} (hk : Keeps L c h s) : Keeps (endL L) c (h + 100 * s) (-s) := by
  refine (end_keeps hL _ _ _).2 ?_
  have e1 : h + 100 * s + 100 * -s = h := by grind
  have e2 : - -s = s := by grind
  rw [e1, e2]; exact hk
theorem end_best {L : Lg} (hL : LgOk L) : bestV L = bestV (endL L) :=
  best_same hL (endL_ok hL) (fun c h s hk => ⟨_, _, end_back hL hk⟩) (fun c h s hk => ⟨_, _, (end_keeps hL c h s).1 hk⟩)

/-! ### Upside down -/
def downR (e : Rg) : Rg := ⟨-e.hi, -e.lo⟩
def downL (L : Lg) : Lg := ⟨L.pl, L.ed.map downR⟩
theorem downL_ed {L : Lg} (hL : LgOk L) {i : Nat} (hi : i < L.pl.length) : edP (downL L) i = downR (edP L i) := by
  have h : (downL L).ed[i]? = some (downR (edP L i)) := by simp only [downL, List.getElem?_map, edP_at (L := L) (i := i) (by have := hL.el; omega)]; rfl
  exact (edP_some (i := (i : Int)) h).symm
theorem downL_ok {L : Lg} (hL : LgOk L) : LgOk (downL L) := by
  refine ⟨hL.n2, hL.n8, by simp [downL, hL.el], hL.at0, fun r hr => ?_, hL.inc⟩
  simp only [downL, List.mem_map] at hr
  obtain ⟨e, he, rfl⟩ := hr
  have := hL.edge e he
  simp only [downR]; omega
theorem down_keeps {L : Lg} (hL : LgOk L) (c h s : Rat) : Keeps (downL L) c h s ↔ Keeps L c (-h) (-s) := by
  have e : ∀ m, m < L.pl.length → loq (downL L) c m = -hiq L c m ∧ hiq (downL L) c m = -loq L c m ∧ -h + -s * Xq L m = -(h + s * Xq (downL L) m) := fun m hm => by
    have eX : Xq (downL L) m = Xq L m := rfl
    simp only [loq, hiq, eX, downL_ed hL hm, downR]
    push_cast
    exact ⟨by grind, by grind, by grind⟩
  constructor
  · intro hk m hm
    have := hk m hm
    obtain ⟨a, b, d⟩ := e m hm
    rw [a, b] at this
    rw [d]
    exact ⟨by grind, by grind⟩
  · intro hk m hm
    have := hk m hm
    obtain ⟨a, b, d⟩ := e m hm
    rw [d] at this
    rw [a, b]
    exact ⟨by grind, by grind⟩
theorem down_back {L : Lg} (hL : LgOk L) {c h s : Rat} (hk : Keeps L c h s) : Keeps (downL L) c (-h) (-s) := by
  refine (down_keeps hL _ _ _).2 ?_
  have e1 : - -h = h := by grind
  have e2 : - -s = s := by grind
  rw [e1, e2]; exact hk
theorem down_best {L : Lg} (hL : LgOk L) : bestV L = bestV (downL L) :=
  best_same hL (downL_ok hL) (fun c h s hk => ⟨_, _, down_back hL hk⟩) (fun c h s hk => ⟨_, _, (down_keeps hL c h s).1 hk⟩)

/-! ### Their heights -/
def ngR (r : Rt) : Rt := ⟨-r.num, r.den⟩
theorem ngR_can {r : Rt} (h : Go.Pl.Can r) : Go.Pl.Can (ngR r) := ⟨h.pos, by simp only [ngR, Int.neg_gcd]; exact h.red⟩
theorem ngR_q (r : Rt) : (ngR r).q = -r.q := by simp only [ngR, Rt.q]; push_cast; grind
theorem end_hgh {L : Lg} (he : logE L = 0) {core x : Int} (hcb : -2000 ≤ core ∧ core ≤ 2000) (hxb : 0 ≤ x ∧ x ≤ 100) : hghR (endL L) core (100 - x) = hghR L core x := by
  have hL := logE_ok he
  have hX := endL_ok hL
  have heX := ok_logE hX
  have hb := end_best hL
  rcases hgh_cases he hcb hxb with ⟨hv, hg⟩ | ⟨hv, hg⟩
  · rcases hgh_cases heX hcb (x := 100 - x) (by omega) with ⟨hv2, hg2⟩ | ⟨hv2, hg2⟩
    · rw [hg, hg2]
    · rw [← hb] at hv2; exact absurd hv2 hv
  · rcases hgh_cases heX hcb (x := 100 - x) (by omega) with ⟨hv2, hg2⟩ | ⟨hv2, hg2⟩
    · rw [← hb] at hv2; exact absurd hv hv2
    · have s1 := hg_spec hL hcb hxb hv
      have s2 := hg_spec hX hcb (x := 100 - x) (by omega) hv2
      have a1 : (defH (endL L) core (100 - x)).1 = (defH L core x).1 := by
        refine can_ext s2.f1.can s1.f1.can ?_
        obtain ⟨h1, t1, k1, e1⟩ := s1.a1
        obtain ⟨h2, t2, k2, e2⟩ := s2.a1
        have m2 := s2.m1 _ _ (end_back hL k1)
        have m1 := s1.m1 _ _ ((end_keeps hL _ _ _).1 k2)
        push_cast at e2 m2
        grind
      have a2 : (defH (endL L) core (100 - x)).2 = (defH L core x).2 := by
        refine can_ext s2.f2.can s1.f2.can ?_
        obtain ⟨h1, t1, k1, e1⟩ := s1.a2
        obtain ⟨h2, t2, k2, e2⟩ := s2.a2
        have m2 := s2.m2 _ _ (end_back hL k1)
        have m1 := s1.m2 _ _ ((end_keeps hL _ _ _).1 k2)
        push_cast at e2 m2
        grind
      rw [hg, hg2, a1, a2]
theorem down_hgh {L : Lg} (he : logE L = 0) {core x : Int} (hcb : -2000 ≤ core ∧ core ≤ 2000) (hxb : 0 ≤ x ∧ x ≤ 100) : hghR (downL L) core x = (ngR (hghR L core x).2.1, ngR (hghR L core x).1, (hghR L core x).2.2) := by
  have hL := logE_ok he
  have hX := downL_ok hL
  have heX := ok_logE hX
  have hb := down_best hL
  rcases hgh_cases he hcb hxb with ⟨hv, hg⟩ | ⟨hv, hg⟩
  · rcases hgh_cases heX hcb hxb with ⟨hv2, hg2⟩ | ⟨hv2, hg2⟩
    · rw [hg, hg2]; rfl
    · rw [← hb] at hv2; exact absurd hv2 hv
  · rcases hgh_cases heX hcb hxb with ⟨hv2, hg2⟩ | ⟨hv2, hg2⟩
    · rw [← hb] at hv2; exact absurd hv hv2
    · have s1 := hg_spec hL hcb hxb hv
      have s2 := hg_spec hX hcb hxb hv2
      have a1 : (defH (downL L) core x).1 = ngR (defH L core x).2 := by
        refine can_ext s2.f1.can (ngR_can s1.f2.can) ?_
        rw [ngR_q]
        obtain ⟨h1, t1, k1, e1⟩ := s1.a2
        obtain ⟨h2, t2, k2, e2⟩ := s2.a1
        have m2 := s2.m1 _ _ (down_back hL k1)
        have m1 := s1.m2 _ _ ((down_keeps hL _ _ _).1 k2)
        grind
      have a2 : (defH (downL L) core x).2 = ngR (defH L core x).1 := by
        refine can_ext s2.f2.can (ngR_can s1.f1.can) ?_
        rw [ngR_q]
        obtain ⟨h1, t1, k1, e1⟩ := s1.a1
        obtain ⟨h2, t2, k2, e2⟩ := s2.a2
        have m2 := s2.m2 _ _ (down_back hL k1)
        have m1 := s1.m1 _ _ ((down_keeps hL _ _ _).1 k2)
        grind
      rw [hg, hg2, a1, a2]
theorem hgh_small {L : Lg} (he : logE L = 0) {core x : Int} (hcb : -2000 ≤ core ∧ core ≤ 2000) (hxb : 0 ≤ x ∧ x ≤ 100) : (-1000000000 ≤ (hghR L core x).1.num ∧ (hghR L core x).1.num ≤ 1000000000) ∧ (-1000000000 ≤ (hghR L core x).2.1.num ∧ (hghR L core x).2.1.num ≤ 1000000000) := by
  rcases hgh_cases he hcb hxb with ⟨hv, hg⟩ | ⟨hv, hg⟩
  · rw [hg]; dsimp only; omega
  · have s1 := hg_spec (logE_ok he) hcb hxb hv
    rw [hg]; dsimp only
    have a := s1.f1.lo
    have b := s1.f1.hi
    have c := s1.f1.d
    have d := s1.f2.lo
    have e := s1.f2.hi
    have f := s1.f2.d
    have g := s1.f1.can.pos
    have h := s1.f2.can.pos
    omega
end Go.Proofs.Ytnionkopmncopaa
set_option linter.unusedVariables false
namespace Go.Proofs.Ytnionkopmncopaa
open Go.Lw Go.Pl Go.RowKit

theorem peelTurned_f (L : Lg) (number x : Int) (V : View) (v : Value) (hv : LogV V v L) (h1 : -32768 ≤ number ∧ number ≤ 32767) (h3 : 0 ≤ x ∧ x ≤ 255) :
    Fnc Try.prog 11 [v, .int .i16 number, .int .u8 x] V fun r _ => r = .bool true := by
  have hv' := hv
  obtain ⟨a, c, a', c', rfl, g2, g3⟩ := hv
  refine fn_of Try.func11 rfl Try.ntmps11 (Nat.le_of_ble_eq_true rfl) ?_
  intro w0 hw0
  refine At.nrm ?_
  refine At.ktext (.n false 0 (.q 1 .done)) ?_
  refine AtT.kbox ?_
  intro b3
  refine AtT.kassign ?_
  refine AtT.done ?_
  refine At.nrm ?_
  refine At.ktext (.q 0 (.n false 1 (.q 2 .done))) ?_
  first | refine AtT.kloadOA tk25 ?_ | refine AtT.kloadA tk25 ?_ | refine AtT.kloadOP tk25 ?_
  refine AtT.kcallP rfl rfl ok41 (fine_f L _ _ hv') ?_
  rintro _ rfl
  refine AtT.knot ?_
  refine AtT.done ?_
  refine At.nrm ?_
  by_cases he : logE L = 0
  rotate_left
  · refine At.condT rfl (by rw [decide_eq_false he]; rfl) ?_
    refine At.nrm ?_
    refine At.ktext (.n false 0 (.q 1 .done)) ?_
    refine AtT.kcallP rfl rfl ok19 (works_f _) ?_
    rintro _ rfl
    refine AtT.kassign ?_
    refine AtT.done ?_
    refine At.nrm ?_
    exact At.ret1 rfl (.tmp rfl) rfl
  refine At.condF rfl (by rw [decide_eq_true he]; rfl) ?_
  have hL := logE_ok he
  have n2 := hL.n2
  have n8 := hL.n8
  have el := hL.el
  have ht := tm_bd number
  have hx0 : 0 ≤ x.tmod 101 ∧ x.tmod 101 ≤ 100 := by
    have := Int.tmod_nonneg (a := x) 101 h3.1
    have := tmod_lt x (m := 101) (by decide)
    omega
  have hcb : -2000 ≤ tm number ∧ tm number ≤ 2000 := ⟨by omega, by omega⟩
  obtain ⟨xx, hxx⟩ : ∃ xx, xx = x.tmod 101 := ⟨_, rfl⟩
  rw [← hxx] at hx0
  obtain ⟨N, hN⟩ : ∃ N : Nat, N = L.pl.length := ⟨_, rfl⟩
  refine At.nrm ?_
  refine At.ktext (.q 0 (.q 1 (.q 2 (.q 3 (.q 4 (.q 5 (.q 6 (.q 7 .done)))))))) ?_
  refine AtT.kmove ?_
  refine AtT.kconv un57 Try.underlying2 ?_
  rw [wrap_fit (Fit.of (by omega) (by omega))]
  refine AtT.krem ?_
  refine AtT.kmove ?_
  refine AtT.kconv un5 Try.underlying2 ?_
  rw [wrap_fit (Fit.of (by omega) (by omega))]
  refine AtT.krem ?_
  refine AtT.kassign ?_
  refine AtT.kassign ?_
  refine AtT.done ?_
  refine At.nrm ?_
  refine At.re (d := 7) rfl (show iv (number.tmod 2001) = iv (tm number) from rfl) ?_
  refine At.re (d := 8) rfl (show iv (x.tmod 101) = iv xx from by rw [hxx]) ?_
  refine At.ktext (.n false 0 (.n false 1 .done)) ?_
  refine AtT.kalloc z25 ?_
  intro b9
  refine AtT.kalloc z25 ?_
  intro b10
  refine AtT.done ?_
  refine At.nrm ?_
  refine At.ktext (.q 0 (.q 1 (.q 2 (.q 3 (.q 4 .done))))) ?_
  first | refine AtT.kfieldO fo25_0 ?_ | with_reducible refine AtT.kfield2 fo25_0 ?_ | refine AtT.kfield fo25_0 ?_
  first | refine AtT.kloadO tk22 ?_ | refine AtT.kload tk22 ?_
  first | refine AtT.klenS Try.underlying22 ?_ | refine AtT.klenR Try.underlying22 ?_
  first | refine AtT.ksubt ?_ | refine AtT.ksubW ?_
  refine AtT.kassign ?_
  refine AtT.done ?_
  refine At.nrm ?_
  refine At.newRow 2 1 ?_
  refine At.newRow 69 2 ?_
  refine At.newRow 2 1 ?_
  refine At.newRow 69 2 ?_
  refine At.lp (ι := Nat × (Option Addr × Nat) × (Option Addr × Nat)) (KS := fun g => [(3, .pointer (some ⟨b3, 0, none⟩)), (7, iv (tm number)), (8, iv xx), (9, .pointer (some ⟨b9, 0, none⟩)), (10, .pointer (some ⟨b10, 0, none⟩)), (11, iv ((L.pl.length : Int) - 1 - g.1))])
    (OS := fun g => [.blk b3 (LC [.slice a L.pl.length c, .slice a' L.ed.length c'] 25), .blk b9 (LC [.slice g.2.1.1 g.1 g.2.1.2, .slice g.2.2.1 g.1 g.2.2.2] 25), .blk b10 (LC [.slice none 0 0, .slice none 0 0] 25),
      .row (.slice g.2.1.1 g.1 g.2.1.2) 2 1 g.1 (flat ei ((endL L).pl.take g.1)), .row (.slice g.2.2.1 g.1 g.2.2.2) 69 2 g.1 (flat rge ((endL L).ed.take g.1)), .row (.slice none 0 0) 2 1 0 (flat ei []), .row (.slice none 0 0) 69 2 0 (flat rge [])])
    (VS := fun g V' => Le V V' ∧ g.1 ≤ L.pl.length) (μ := fun g => L.pl.length - g.1) (0, (none, 0), (none, 0)) ?_ ?_ ?_ ?_
  · exact ⟨rfl, rfl, rfl, rfl, rfl, ivs (by dsimp only; omega), trivial⟩
  · exact Pt.auto
  · exact ⟨Le.refl _, Nat.zero_le _⟩
  · rintro ⟨k, ⟨ao, co⟩, ⟨ap, cp⟩⟩ V' ks' O' ⟨hVV, hkl⟩ hk hO hl2
    dsimp only at hkl hk hO
    subst hk hO
    have g2' := g2.le hVV
    have g3' := g3.le hVV
    refine At.nrm ?_
    refine At.ktext (.q 0 (.q 1 .done)) ?_
    refine AtT.kmove ?_
    refine AtT.kgeq ?_
    refine AtT.done ?_
    refine At.nrm ?_
    refine At.condP rfl (fun hb => ?_) (fun hb => ?_)
    · have hkn : k < L.pl.length := by omega
      have pb := hL.plB (i := (L.pl.length : Int) - 1 - k) (by omega) (by omega)
      have k1 := endL_plat (L := L) hkn
      have k2 := endL_edat hL hkn
      refine At.nrm ?_
      refine At.cutG (ι := (Option Addr × Nat) × (Option Addr × Nat)) (fun _ => [(3, .pointer (some ⟨b3, 0, none⟩)), (7, iv (tm number)), (8, iv xx), (9, .pointer (some ⟨b9, 0, none⟩)), (10, .pointer (some ⟨b10, 0, none⟩)), (11, iv ((L.pl.length : Int) - 1 - k))])
        (fun g => [.blk b3 (LC [.slice a L.pl.length c, .slice a' L.ed.length c'] 25), .blk b9 (LC [.slice g.1.1 (k + 1) g.1.2, .slice g.2.1 (k + 1) g.2.2] 25), .blk b10 (LC [.slice none 0 0, .slice none 0 0] 25),
          .row (.slice g.1.1 (k + 1) g.1.2) 2 1 (k + 1) (flat ei ((endL L).pl.take (k + 1))), .row (.slice g.2.1 (k + 1) g.2.2) 69 2 (k + 1) (flat rge ((endL L).ed.take (k + 1))), .row (.slice none 0 0) 2 1 0 (flat ei []), .row (.slice none 0 0) 69 2 0 (flat rge [])]) (fun _ V'' => Le V' V'') ?_ ?_
      · rw [take_snoc' k1, take_snoc' k2, flat_snoc, flat_snoc]
        refine At.drawC [.blk b3 (LC [.slice a L.pl.length c, .slice a' L.ed.length c'] 25), .blk b9 (LC [.slice ao k co, .slice ap k cp] 25)] (.q 0 (.q 1 (.q 2 (.q 3 (.q 4 (.q 5 (.q 6 (.q 7 (.q 10 (.q 11 (.q 12 (.q 13 (.q 14 (.q 15 (.q 16 (.two 8 (.two 9 (.q 19 (.n false 17 (.n false 18 (.n true 20 (.q 21 (.n true 22 .done)))))) 17 (.n false 9 (.q 19 (.n false 18 (.n true 20 (.q 21 (.n true 22 .done))))))) 17 (.n false 8 (.n false 9 (.q 19 (.n false 18 (.n true 20 (.q 21 (.n true 22 .done))))))))))))))))))))))) ffm (by kernel_rfl) Pt.auto ?_
        refine AtC.pre (fun hle0 => ?_)
        refine AtC.kq (by (first | refine AtT.kfieldO fo25_0 ?_ | with_reducible refine AtT.kfield2 fo25_0 ?_ | refine AtT.kfield fo25_0 ?_); exact At.knows) ?_
        refine AtC.kq (by (first | refine AtT.kloadO tk22 ?_ | refine AtT.kload tk22 ?_); exact At.knows) ?_
        refine AtC.kq (by (first | refine AtT.kfieldO fo25_0 ?_ | with_reducible refine AtT.kfield2 fo25_0 ?_ | refine AtT.kfield fo25_0 ?_); exact At.knows) ?_
        refine AtC.kq (by (first | refine AtT.kloadO tk22 ?_ | refine AtT.kload tk22 ?_); exact At.knows) ?_
        refine AtC.kq (by (refine AtT.kmove ?_); exact At.knows) ?_
        refine AtC.kidx Try.underlying22 tk2 ?_
        intro p51 e51 he51 hc51
        obtain rfl : e51 = plP L ((L.pl.length : Int) - 1 - k) := plP_some he51
        refine AtC.kq (by (first | refine AtT.kloadO tk2 ?_ | refine AtT.kload tk2 ?_); exact At.knows) ?_
        refine AtC.kq (by (first | refine AtT.ksubt ?_ | refine AtT.ksubW ?_); exact At.knows) ?_
        refine AtC.kq (by (first | refine AtT.kfieldO fo25_1 ?_ | with_reducible refine AtT.kfield2 fo25_1 ?_ | refine AtT.kfield fo25_1 ?_); exact At.knows) ?_
        refine AtC.kq (by (first | refine AtT.kloadO tk23 ?_ | refine AtT.kload tk23 ?_); exact At.knows) ?_
        refine AtC.kq (by (first | refine AtT.kfieldO fo25_1 ?_ | with_reducible refine AtT.kfield2 fo25_1 ?_ | refine AtT.kfield fo25_1 ?_); exact At.knows) ?_
        refine AtC.kq (by (first | refine AtT.kloadO tk23 ?_ | refine AtT.kload tk23 ?_); exact At.knows) ?_
        refine AtC.kq (by (refine AtT.kmove ?_); exact At.knows) ?_
        refine AtC.kidx Try.underlying23 tk69 ?_
        intro p61 e61 he61 hc61
        obtain rfl : e61 = edP L ((L.pl.length : Int) - 1 - k) := edP_some he61
        refine AtC.kq (by (first | refine AtT.kloadOA tk69 ?_ | refine AtT.kloadA tk69 ?_ | refine AtT.kloadOP tk69 ?_); exact At.knows) ?_
        refine AtC.two ?_ ?_
        focus
          refine AtC.nz ?_
          refine AtT.kbsliceG (bs22_1_0 _) ?_
          intro q54 V54 hV54 hq54
          have g54 : Le V V54 := by first | exact hV54 | exact Le.trans (by assumption) hV54
          refine AtC.kgo ?_
          refine AtC.two ?_ ?_
          focus
            refine AtC.nz ?_
            first | refine AtT.kappend Try.underlying22 rw2 ?_
            intro a55 c55
            refine AtC.kgo ?_
            refine AtC.kq (by (first | refine AtT.kfieldO fo25_0 ?_ | with_reducible refine AtT.kfield2 fo25_0 ?_ | refine AtT.kfield fo25_0 ?_); exact At.knows) ?_
            refine AtC.nz ?_
            refine AtT.kbsliceG (bs23_1_0 _ _) ?_
            intro q63 V63 hV63 hq63
            have g63 : Le V V63 := by first | exact hV63 | exact Le.trans (by assumption) hV63
            refine AtC.kgo ?_
            refine AtC.nz ?_
            first | refine AtT.kappend Try.underlying23 rw69 ?_
            intro a64 c64
            refine AtC.kgo ?_
            refine AtC.toT ?_
            first | refine AtT.kstore1 tk22 ?_ | refine AtT.kstoreA tk22 ?_
            first | refine AtT.kfieldO fo25_1 ?_ | with_reducible refine AtT.kfield2 fo25_1 ?_ | refine AtT.kfield fo25_1 ?_
            first | refine AtT.kstore1 tk23 ?_ | refine AtT.kstoreA tk23 ?_
            refine AtT.done ?_
          rotate_right
          focus
            refine AtC.nz ?_
            refine AtT.kbsliceG (bs23_1_0 _ _) ?_
            intro q63 V63 hV63 hq63
            have g63 : Le V V63 := by first | exact hV63 | exact Le.trans (by assumption) hV63
            refine AtC.kgo ?_
            refine AtC.nz ?_
            first | refine AtT.kappend Try.underlying22 rw2 ?_
            intro a55 c55
            refine AtC.kgo ?_
            refine AtC.kq (by (first | refine AtT.kfieldO fo25_0 ?_ | with_reducible refine AtT.kfield2 fo25_0 ?_ | refine AtT.kfield fo25_0 ?_); exact At.knows) ?_
            refine AtC.nz ?_
            first | refine AtT.kappend Try.underlying23 rw69 ?_
            intro a64 c64
            refine AtC.kgo ?_
            refine AtC.toT ?_
            first | refine AtT.kstore1 tk22 ?_ | refine AtT.kstoreA tk22 ?_
            first | refine AtT.kfieldO fo25_1 ?_ | with_reducible refine AtT.kfield2 fo25_1 ?_ | refine AtT.kfield fo25_1 ?_
            first | refine AtT.kstore1 tk23 ?_ | refine AtT.kstoreA tk23 ?_
            refine AtT.done ?_
        rotate_right
        focus
          refine AtC.nz ?_
          refine AtT.kbsliceG (bs23_1_0 _ _) ?_
          intro q63 V63 hV63 hq63
          have g63 : Le V V63 := by first | exact hV63 | exact Le.trans (by assumption) hV63
          refine AtC.kgo ?_
          refine AtC.nz ?_
          refine AtT.kbsliceG (bs22_1_0 _) ?_
          intro q54 V54 hV54 hq54
          have g54 : Le V V54 := by first | exact hV54 | exact Le.trans (by assumption) hV54
          refine AtC.kgo ?_
          refine AtC.nz ?_
          first | refine AtT.kappend Try.underlying22 rw2 ?_
          intro a55 c55
          refine AtC.kgo ?_
          refine AtC.kq (by (first | refine AtT.kfieldO fo25_0 ?_ | with_reducible refine AtT.kfield2 fo25_0 ?_ | refine AtT.kfield fo25_0 ?_); exact At.knows) ?_
          refine AtC.nz ?_
          first | refine AtT.kappend Try.underlying23 rw69 ?_
          intro a64 c64
          refine AtC.kgo ?_
          refine AtC.toT ?_
          first | refine AtT.kstore1 tk22 ?_ | refine AtT.kstoreA tk22 ?_
          first | refine AtT.kfieldO fo25_1 ?_ | with_reducible refine AtT.kfield2 fo25_1 ?_ | refine AtT.kfield fo25_1 ?_
          first | refine AtT.kstore1 tk23 ?_ | refine AtT.kstoreA tk23 ?_
          refine AtT.done ?_
        all_goals (refine At.nrm ?_)
        all_goals (exact At.meetG ((a55, c55), (a64, c64)) (by first | exact Le.refl _ | assumption | exact Le.trans (by assumption) (by assumption)) ⟨rfl, rfl, rfl, rfl, rfl, rfl, trivial⟩ Pt.auto)
      rintro ⟨⟨a55, c55⟩, ⟨a64, c64⟩⟩ V9 ks' O' hV9 hk hO hl3
      dsimp only at hk hO
      subst hk hO
      refine At.nrm ?_
      refine At.ktext (.q 0 (.q 1 (.q 2 .done))) ?_
      refine AtT.kmove ?_
      first | refine AtT.ksubt ?_ | refine AtT.ksubW ?_
      refine AtT.kassign ?_
      refine AtT.done ?_
      refine At.nrm ?_
      refine At.round (k + 1, (a55, c55), (a64, c64)) ?_ ?_ ?_ ?_
      · show L.pl.length - (k + 1) < L.pl.length - k; omega
      · exact ⟨hVV.trans hV9, by dsimp only; omega⟩
      · exact ⟨rfl, rfl, rfl, rfl, rfl, ivs (by dsimp only; omega), trivial⟩
      dsimp only
      · exact Pt.auto
    · obtain rfl : k = L.pl.length := by omega
      have lx : (endL L).pl.length = L.pl.length := endL_len L
      have ly : (endL L).ed.length = L.pl.length := by simp [endL, el]
      rw [List.take_of_length_le (l := (endL L).pl) (by omega), List.take_of_length_le (l := (endL L).ed) (by omega)]
      refine At.nrm ?_
      refine At.ktext (.q 0 .done) ?_
      refine AtT.kassign ?_
      refine AtT.done ?_
      refine At.nrm ?_
      refine At.lp (ι := Nat × (Option Addr × Nat) × (Option Addr × Nat)) (KS := fun g => [(3, .pointer (some ⟨b3, 0, none⟩)), (7, iv (tm number)), (8, iv xx), (9, .pointer (some ⟨b9, 0, none⟩)), (10, .pointer (some ⟨b10, 0, none⟩)), (12, iv g.1)])
        (OS := fun g => [.blk b3 (LC [.slice a L.pl.length c, .slice a' L.ed.length c'] 25), .blk b9 (LC [.slice ao L.pl.length co, .slice ap L.pl.length cp] 25), .blk b10 (LC [.slice g.2.1.1 g.1 g.2.1.2, .slice g.2.2.1 g.1 g.2.2.2] 25),
          .row (.slice ao L.pl.length co) 2 1 L.pl.length (flat ei (endL L).pl), .row (.slice ap L.pl.length cp) 69 2 L.pl.length (flat rge (endL L).ed), .row (.slice g.2.1.1 g.1 g.2.1.2) 2 1 g.1 (flat ei ((downL L).pl.take g.1)), .row (.slice g.2.2.1 g.1 g.2.2.2) 69 2 g.1 (flat rge ((downL L).ed.take g.1))])
        (VS := fun g V' => Le V V' ∧ g.1 ≤ L.pl.length) (μ := fun g => L.pl.length - g.1) (0, (none, 0), (none, 0)) ?_ ?_ ?_ ?_
      · exact ⟨rfl, rfl, rfl, rfl, rfl, rfl, trivial⟩
      · exact Pt.auto
      · exact ⟨hVV, Nat.zero_le _⟩
      · rintro ⟨k, ⟨aq, cq⟩, ⟨ar, cr⟩⟩ V' ks' O' ⟨hVV, hkl⟩ hk hO hl2
        dsimp only at hkl hk hO
        subst hk hO
        have g2' := g2.le hVV
        have g3' := g3.le hVV
        refine At.nrm ?_
        refine At.ktext (.q 0 (.q 1 (.q 2 (.q 3 (.q 4 .done))))) ?_
        refine AtT.kmove ?_
        first | refine AtT.kfieldO fo25_0 ?_ | with_reducible refine AtT.kfield2 fo25_0 ?_ | refine AtT.kfield fo25_0 ?_
        first | refine AtT.kloadO tk22 ?_ | refine AtT.kload tk22 ?_
        first | refine AtT.klenS Try.underlying22 ?_ | refine AtT.klenR Try.underlying22 ?_
        refine AtT.klss ?_
        refine AtT.done ?_
        refine At.nrm ?_
        refine At.condP rfl (fun hb => ?_) (fun hb => ?_)
        · have hkn : k < L.pl.length := by omega
          have pb := hL.plB (i := (k : Int)) (by omega) (by omega)
          have eb := hL.edB (i := (k : Int)) (by omega) (by omega)
          have k1 : (downL L).pl[k]? = some (plP L k) := plP_at hkn
          have k2 : (downL L).ed[k]? = some (downR (edP L k)) := by simp only [downL, List.getElem?_map, edP_at (L := L) (i := k) (by omega)]; rfl
          refine At.nrm ?_
          refine At.cutG (ι := (Option Addr × Nat) × (Option Addr × Nat)) (fun _ => [(3, .pointer (some ⟨b3, 0, none⟩)), (7, iv (tm number)), (8, iv xx), (9, .pointer (some ⟨b9, 0, none⟩)), (10, .pointer (some ⟨b10, 0, none⟩)), (12, iv k)])
            (fun g => [.blk b3 (LC [.slice a L.pl.length c, .slice a' L.ed.length c'] 25), .blk b9 (LC [.slice ao L.pl.length co, .slice ap L.pl.length cp] 25), .blk b10 (LC [.slice g.1.1 (k + 1) g.1.2, .slice g.2.1 (k + 1) g.2.2] 25),
              .row (.slice ao L.pl.length co) 2 1 L.pl.length (flat ei (endL L).pl), .row (.slice ap L.pl.length cp) 69 2 L.pl.length (flat rge (endL L).ed), .row (.slice g.1.1 (k + 1) g.1.2) 2 1 (k + 1) (flat ei ((downL L).pl.take (k + 1))), .row (.slice g.2.1 (k + 1) g.2.2) 69 2 (k + 1) (flat rge ((downL L).ed.take (k + 1)))]) (fun _ V'' => Le V' V'') ?_ ?_
          · rw [take_snoc' k1, take_snoc' k2, flat_snoc, flat_snoc]
            refine At.drawC [.blk b3 (LC [.slice a L.pl.length c, .slice a' L.ed.length c'] 25), .blk b9 (LC [.slice ao L.pl.length co, .slice ap L.pl.length cp] 25), .blk b10 (LC [.slice aq k cq, .slice ar k cr] 25)] (.q 0 (.q 1 (.q 2 (.q 3 (.q 4 (.q 5 (.q 6 (.q 9 (.q 10 (.q 11 (.q 12 (.q 13 (.q 14 (.q 15 (.q 16 (.q 17 (.q 18 (.q 19 (.q 20 (.q 21 (.q 22 (.q 23 (.q 24 (.n false 7 (.n false 8 (.q 28 (.n false 25 (.n false 26 (.n false 27 (.n true 29 (.q 30 (.n true 31 .done)))))))))))))))))))))))))))))))) ffm (by kernel_rfl) Pt.auto ?_
            refine AtC.pre (fun hle0 => ?_)
            refine AtC.kq (by (first | refine AtT.kfieldO fo25_0 ?_ | with_reducible refine AtT.kfield2 fo25_0 ?_ | refine AtT.kfield fo25_0 ?_); exact At.knows) ?_
            refine AtC.kq (by (first | refine AtT.kloadO tk22 ?_ | refine AtT.kload tk22 ?_); exact At.knows) ?_
            refine AtC.kq (by (first | refine AtT.kfieldO fo25_0 ?_ | with_reducible refine AtT.kfield2 fo25_0 ?_ | refine AtT.kfield fo25_0 ?_); exact At.knows) ?_
            refine AtC.kq (by (first | refine AtT.kloadO tk22 ?_ | refine AtT.kload tk22 ?_); exact At.knows) ?_
            refine AtC.kq (by (refine AtT.kmove ?_); exact At.knows) ?_
            refine AtC.kidx Try.underlying22 tk2 ?_
            intro p79 e79 he79 hc79
            obtain rfl : e79 = plP L k := plP_some he79
            refine AtC.kq (by (first | refine AtT.kloadO tk2 ?_ | refine AtT.kload tk2 ?_); exact At.knows) ?_
            refine AtC.kq (by (first | refine AtT.kfieldO fo25_1 ?_ | with_reducible refine AtT.kfield2 fo25_1 ?_ | refine AtT.kfield fo25_1 ?_); exact At.knows) ?_
            refine AtC.kq (by (first | refine AtT.kloadO tk23 ?_ | refine AtT.kload tk23 ?_); exact At.knows) ?_
            refine AtC.kq (by (first | refine AtT.kfieldO fo25_1 ?_ | with_reducible refine AtT.kfield2 fo25_1 ?_ | refine AtT.kfield fo25_1 ?_); exact At.knows) ?_
            refine AtC.kq (by (first | refine AtT.kloadO tk23 ?_ | refine AtT.kload tk23 ?_); exact At.knows) ?_
            refine AtC.kq (by (refine AtT.kmove ?_); exact At.knows) ?_
            refine AtC.kidx Try.underlying23 tk69 ?_
            intro p88 e88 he88 hc88
            obtain rfl : e88 = edP L k := edP_some he88
            refine AtC.kq (by (first | refine AtT.kfieldO fo69_1 ?_ | with_reducible refine AtT.kfield2 fo69_1 ?_ | refine AtT.kfield fo69_1 ?_); exact At.knows) ?_
            refine AtC.kq (by (first | refine AtT.kloadO tk2 ?_ | refine AtT.kload tk2 ?_); exact At.knows) ?_
            refine AtC.kq (by (first | refine AtT.kneg ?_ | refine AtT.knegW ?_); exact At.knows) ?_
            refine AtC.kq (by (first | refine AtT.kfieldO fo25_1 ?_ | with_reducible refine AtT.kfield2 fo25_1 ?_ | refine AtT.kfield fo25_1 ?_); exact At.knows) ?_
            refine AtC.kq (by (first | refine AtT.kloadO tk23 ?_ | refine AtT.kload tk23 ?_); exact At.knows) ?_
            refine AtC.kq (by (refine AtT.kmove ?_); exact At.knows) ?_
            refine AtC.kidx Try.underlying23 tk69 ?_
            intro p95 e95 he95 hc95
            obtain rfl : e95 = edP L k := edP_some he95
            refine AtC.kq (by (first | refine AtT.kfieldO fo69_0 ?_ | with_reducible refine AtT.kfield2 fo69_0 ?_ | refine AtT.kfield fo69_0 ?_); exact At.knows) ?_
            refine AtC.kq (by (first | refine AtT.kloadO tk2 ?_ | refine AtT.kload tk2 ?_); exact At.knows) ?_
            refine AtC.kq (by (first | refine AtT.kneg ?_ | refine AtT.knegW ?_); exact At.knows) ?_
            refine AtC.nz ?_
            refine AtT.kbsliceG (bs22_1_0 _) ?_
            intro q81 V81 hV81 hq81
            have g81 : Le V V81 := by first | exact hV81 | exact Le.trans (by assumption) hV81
            refine AtC.kgo ?_
            refine AtC.nz ?_
            first | refine AtT.kappend Try.underlying22 rw2 ?_
            intro a82 c82
            refine AtC.kgo ?_
            refine AtC.kq (by (first | refine AtT.kfieldO fo25_0 ?_ | with_reducible refine AtT.kfield2 fo25_0 ?_ | refine AtT.kfield fo25_0 ?_); exact At.knows) ?_
            refine AtC.nz ?_
            refine AtT.kcallP rfl rfl ok49 (to49_f _ _ _) ?_
            rintro _ rfl
            refine AtC.kgo ?_
            refine AtC.nz ?_
            refine AtT.kbsliceG (bs23_1_0 _ _) ?_
            intro q100 V100 hV100 hq100
            have g100 : Le V V100 := by first | exact hV100 | exact Le.trans (by assumption) hV100
            refine AtC.kgo ?_
            refine AtC.nz ?_
            first | refine AtT.kappend Try.underlying23 rw69 ?_
            intro a101 c101
            refine AtC.kgo ?_
            refine AtC.toT ?_
            first | refine AtT.kstore1 tk22 ?_ | refine AtT.kstoreA tk22 ?_
            first | refine AtT.kfieldO fo25_1 ?_ | with_reducible refine AtT.kfield2 fo25_1 ?_ | refine AtT.kfield fo25_1 ?_
            first | refine AtT.kstore1 tk23 ?_ | refine AtT.kstoreA tk23 ?_
            refine AtT.done ?_
            refine At.nrm ?_
            all_goals (exact At.meetG ((a82, c82), (a101, c101)) (by first | exact Le.refl _ | assumption | exact Le.trans (by assumption) (by assumption)) ⟨rfl, rfl, rfl, rfl, rfl, rfl, trivial⟩ Pt.auto)
          rintro ⟨⟨a82, c82⟩, ⟨a101, c101⟩⟩ V9 ks' O' hV9 hk hO hl3
          dsimp only at hk hO
          subst hk hO
          refine At.nrm ?_
          refine At.ktext (.q 0 (.q 1 (.q 2 .done))) ?_
          refine AtT.kmove ?_
          first | refine AtT.kadd ?_ | refine AtT.kaddW ?_
          refine AtT.kassign ?_
          refine AtT.done ?_
          refine At.nrm ?_
          refine At.round (k + 1, (a82, c82), (a101, c101)) ?_ ?_ ?_ ?_
          · show L.pl.length - (k + 1) < L.pl.length - k; omega
          · exact ⟨hVV.trans hV9, by dsimp only; omega⟩
          · exact ⟨rfl, rfl, rfl, rfl, rfl, ivs (by dsimp only; omega), trivial⟩
          dsimp only
          · exact Pt.auto
        · obtain rfl : k = L.pl.length := by omega
          have lz : (downL L).ed.length = L.pl.length := by simp [downL, el]
          rw [show (downL L).pl.take L.pl.length = (downL L).pl from List.take_length, List.take_of_length_le (l := (downL L).ed) (by omega)]
          refine At.nrm ?_
          refine At.giveSl ei_len rfl lx.symm Pick.auto (fun V4 hV4 hs4 => ?_)
          refine At.giveSl rge_len rfl ly.symm Pick.auto (fun V5 hV5 hs5 => ?_)
          refine At.giveSl ei_len rfl rfl Pick.auto (fun V6 hV6 hs6 => ?_)
          refine At.giveSl rge_len rfl lz.symm Pick.auto (fun V7 hV7 hs7 => ?_)
          have hle := (((hVV.trans hV4).trans hV5).trans hV6).trans hV7
          have hvl : LogV V7 (.agg #[.slice a L.pl.length c, .slice a' L.ed.length c']) L := ⟨_, _, _, _, rfl, g2.le hle, g3.le hle⟩
          have hvx : LogV V7 (.agg #[.slice ao L.pl.length co, .slice ap L.pl.length cp]) (endL L) := ⟨ao, co, ap, cp, by rw [lx, ly], by rw [lx]; exact ((hs4.le hV5).le hV6).le hV7, by rw [ly]; exact (hs5.le hV6).le hV7⟩
          have hvy : LogV V7 (.agg #[.slice aq L.pl.length cq, .slice ar L.pl.length cr]) (downL L) := ⟨aq, cq, ar, cr, by rw [lz]; rfl, hs6.le hV7, by rw [lz]; exact hs7⟩
          have hb1 := (end_best hL).symm
          have hb2 := (down_best hL).symm
          have hg1 := end_hgh he hcb hx0
          have hg2 := down_hgh he hcb hx0
          have hgs := hgh_small he hcb hx0
          obtain ⟨⟨lo, hi, e⟩, hg⟩ : ∃ g, g = hghR L (tm number) xx := ⟨_, rfl⟩
          rw [← hg] at hg1 hg2 hgs
          obtain ⟨ln, ld⟩ := lo
          obtain ⟨hn, hd⟩ := hi
          dsimp only at hgs
          replace hg2 : hghR (downL L) (tm number) xx = (⟨-hn, hd⟩, ⟨-ln, ld⟩, e) := hg2
          refine At.ktext (.q 0 (.n false 1 (.q 2 (.q 3 (.q 4 (.n false 5 (.n true 6 (.q 7 .done)))))))) ?_
          first | refine AtT.kloadOA tk25 ?_ | refine AtT.kloadA tk25 ?_ | refine AtT.kloadOP tk25 ?_
          refine AtT.kcallP rfl rfl ok42 (best42_f L _ _ hvl he) ?_
          rintro _ rfl
          refine AtT.kmove ?_
          refine AtT.kextract ?_
          refine AtT.kextract ?_
          refine AtT.kalloc z31 ?_
          intro b13
          refine AtT.kstoreA tk31 ?_
          refine AtT.kassign ?_
          refine AtT.done ?_
          refine At.nrm ?_
          refine At.ktext (.q 0 (.n false 1 (.q 2 (.q 3 (.q 4 (.n false 5 (.n true 6 (.q 7 .done)))))))) ?_
          first | refine AtT.kloadOA tk25 ?_ | refine AtT.kloadA tk25 ?_ | refine AtT.kloadOP tk25 ?_
          refine AtT.kcallP rfl rfl ok42 (best42_f (endL L) _ _ hvx (ok_logE (endL_ok hL))) ?_
          rintro _ rfl; rw [hb1]
          refine AtT.kmove ?_
          refine AtT.kextract ?_
          refine AtT.kextract ?_
          refine AtT.kalloc z31 ?_
          intro b15
          refine AtT.kstoreA tk31 ?_
          refine AtT.kassign ?_
          refine AtT.done ?_
          refine At.nrm ?_
          refine At.ktext (.q 0 (.n false 1 (.q 2 (.q 3 (.q 4 (.n false 5 (.n true 6 (.q 7 .done)))))))) ?_
          first | refine AtT.kloadOA tk25 ?_ | refine AtT.kloadA tk25 ?_ | refine AtT.kloadOP tk25 ?_
          refine AtT.kcallP rfl rfl ok42 (best42_f (downL L) _ _ hvy (ok_logE (downL_ok hL))) ?_
          rintro _ rfl; rw [hb2]
          refine AtT.kmove ?_
          refine AtT.kextract ?_
          refine AtT.kextract ?_
          refine AtT.kalloc z31 ?_
          intro b17
          refine AtT.kstoreA tk31 ?_
          refine AtT.kassign ?_
          refine AtT.done ?_
          refine At.nrm ?_
          refine At.ktext (.q 0 (.q 1 (.q 2 (.n false 3 (.q 4 (.q 5 (.q 6 (.q 7 (.n false 8 (.n false 9 (.n true 10 (.n true 11 (.q 12 .done))))))))))))) ?_
          first | refine AtT.kloadOA tk25 ?_ | refine AtT.kloadA tk25 ?_ | refine AtT.kloadOP tk25 ?_
          refine AtT.kmove ?_
          refine AtT.kmove ?_
          refine AtT.kcallP rfl rfl ok34 (hgh_val hvl hg.symm) ?_
          rintro _ rfl
          refine AtT.kmove ?_
          refine AtT.kextract ?_
          refine AtT.kextract ?_
          refine AtT.kextract ?_
          refine AtT.kalloc z31 ?_
          intro b19
          refine AtT.kalloc z31 ?_
          intro b20
          refine AtT.kstoreA tk31 ?_
          refine AtT.kstoreA tk31 ?_
          refine AtT.kassign ?_
          refine AtT.done ?_
          refine At.nrm ?_
          refine At.ktext (.q 0 (.q 1 (.q 2 (.q 3 (.n false 4 (.q 5 (.q 6 (.q 7 (.q 8 (.n false 9 (.n false 10 (.n true 11 (.n true 12 (.q 13 .done)))))))))))))) ?_
          first | refine AtT.kloadOA tk25 ?_ | refine AtT.kloadA tk25 ?_ | refine AtT.kloadOP tk25 ?_
          refine AtT.kmove ?_
          refine AtT.kmove ?_
          first | refine AtT.ksubt ?_ | refine AtT.ksubW ?_
          refine AtT.kcallP rfl rfl ok34 (hgh_val hvx hg1) ?_
          rintro _ rfl
          refine AtT.kmove ?_
          refine AtT.kextract ?_
          refine AtT.kextract ?_
          refine AtT.kextract ?_
          refine AtT.kalloc z31 ?_
          intro b22
          refine AtT.kalloc z31 ?_
          intro b23
          refine AtT.kstoreA tk31 ?_
          refine AtT.kstoreA tk31 ?_
          refine AtT.kassign ?_
          refine AtT.done ?_
          refine At.nrm ?_
          refine At.ktext (.q 0 (.q 1 (.q 2 (.n false 3 (.q 4 (.q 5 (.q 6 (.q 7 (.n false 8 (.n false 9 (.n true 10 (.n true 11 (.q 12 .done))))))))))))) ?_
          first | refine AtT.kloadOA tk25 ?_ | refine AtT.kloadA tk25 ?_ | refine AtT.kloadOP tk25 ?_
          refine AtT.kmove ?_
          refine AtT.kmove ?_
          refine AtT.kcallP rfl rfl ok34 (hgh_val hvy hg2) ?_
          rintro _ rfl
          refine AtT.kmove ?_
          refine AtT.kextract ?_
          refine AtT.kextract ?_
          refine AtT.kextract ?_
          refine AtT.kalloc z31 ?_
          intro b25
          refine AtT.kalloc z31 ?_
          intro b26
          refine AtT.kstoreA tk31 ?_
          refine AtT.kstoreA tk31 ?_
          refine AtT.kassign ?_
          refine AtT.done ?_
          refine At.nrm ?_
          refine At.ktext (.q 0 (.q 1 (.q 2 (.q 3 (.q 4 (.q 5 (.q 6 (.q 7 (.q 8 (.q 9 (.q 10 (.q 11 (.q 12 (.q 13 (.q 14 (.q 15 (.q 16 (.q 17 (.q 18 (.q 19 (.q 20 (.q 21 (.q 22 (.q 23 (.q 24 (.q 25 (.q 26 (.q 27 (.q 28 (.q 29 (.q 30 (.q 31 (.q 32 (.q 33 (.q 34 (.q 35 (.q 36 (.q 37 (.q 38 (.q 39 .done)))))))))))))))))))))))))))))))))))))))) ?_
          refine AtT.kmove ?_
          refine AtT.knot ?_
          refine AtT.kmove ?_
          all_goals (first | refine AtT.kL 146 ?_ | refine AtT.pcase (d := 146) rfl (fun hg146 => ?_) (fun hg146 => ?_) | refine AtT.bcase (d := 146) rfl (fun hg146 => ?_) (fun hg146 => ?_))
          all_goals (first | refine AtT.kpass ?_ | refine AtT.kpassU ?_ | ((refine AtT.kmove ?_)))
          all_goals (first | refine AtT.kpass ?_ | refine AtT.kpassU ?_ | ((refine AtT.knot ?_)))
          all_goals (refine AtT.kpick ?_)
          all_goals (refine AtT.kmove ?_)
          all_goals (first | refine AtT.kL 150 ?_ | refine AtT.pcase (d := 150) rfl (fun hg150 => ?_) (fun hg150 => ?_) | refine AtT.bcase (d := 150) rfl (fun hg150 => ?_) (fun hg150 => ?_))
          all_goals (first | refine AtT.kpass ?_ | refine AtT.kpassU ?_ | ((refine AtT.kmove ?_)))
          all_goals (first | refine AtT.kpass ?_ | refine AtT.kpassU ?_ | ((refine AtT.knot ?_)))
          all_goals (refine AtT.kpick ?_)
          all_goals (refine AtT.kmove ?_)
          all_goals (first | refine AtT.kL 154 ?_ | refine AtT.pcase (d := 154) rfl (fun hg154 => ?_) (fun hg154 => ?_) | refine AtT.bcase (d := 154) rfl (fun hg154 => ?_) (fun hg154 => ?_))
          all_goals (first | refine AtT.kpass ?_ | refine AtT.kpassU ?_ | ((first | refine AtT.kloadOA tk31 ?_ | refine AtT.kloadA tk31 ?_ | refine AtT.kloadOP tk31 ?_)))
          all_goals (first | refine AtT.kpass ?_ | refine AtT.kpassU ?_ | ((first | refine AtT.kloadOA tk31 ?_ | refine AtT.kloadA tk31 ?_ | refine AtT.kloadOP tk31 ?_)))
          all_goals (first | refine AtT.kpass ?_ | refine AtT.kpassU ?_ | ((refine AtT.kneS (eqS31 _ _ _ _) ?_)))
          all_goals (rw [neR])
          all_goals (refine AtT.kpick ?_)
          all_goals (refine AtT.kmove ?_)
          all_goals (first | refine AtT.kL 159 ?_ | refine AtT.pcase (d := 159) rfl (fun hg159 => ?_) (fun hg159 => ?_) | refine AtT.bcase (d := 159) rfl (fun hg159 => ?_) (fun hg159 => ?_))
          all_goals (first | refine AtT.kpass ?_ | refine AtT.kpassU ?_ | ((first | refine AtT.kloadOA tk31 ?_ | refine AtT.kloadA tk31 ?_ | refine AtT.kloadOP tk31 ?_)))
          all_goals (first | refine AtT.kpass ?_ | refine AtT.kpassU ?_ | ((first | refine AtT.kloadOA tk31 ?_ | refine AtT.kloadA tk31 ?_ | refine AtT.kloadOP tk31 ?_)))
          all_goals (first | refine AtT.kpass ?_ | refine AtT.kpassU ?_ | ((refine AtT.kneS (eqS31 _ _ _ _) ?_)))
          all_goals (rw [neR])
          all_goals (refine AtT.kpick ?_)
          all_goals (refine AtT.kmove ?_)
          all_goals (first | refine AtT.kL 164 ?_ | refine AtT.pcase (d := 164) rfl (fun hg164 => ?_) (fun hg164 => ?_) | refine AtT.bcase (d := 164) rfl (fun hg164 => ?_) (fun hg164 => ?_))
          all_goals (first | refine AtT.kpass ?_ | refine AtT.kpassU ?_ | ((refine AtT.kmove ?_)))
          all_goals (first | refine AtT.kpass ?_ | refine AtT.kpassU ?_ | ((refine AtT.kmove ?_)))
          all_goals (first | refine AtT.kpass ?_ | refine AtT.kpassU ?_ | ((refine AtT.kneI ?_)))
          all_goals (rw [neI])
          all_goals (refine AtT.kpick ?_)
          all_goals (refine AtT.kmove ?_)
          all_goals (first | refine AtT.kL 169 ?_ | refine AtT.pcase (d := 169) rfl (fun hg169 => ?_) (fun hg169 => ?_) | refine AtT.bcase (d := 169) rfl (fun hg169 => ?_) (fun hg169 => ?_))
          all_goals (first | refine AtT.kpass ?_ | refine AtT.kpassU ?_ | ((refine AtT.kmove ?_)))
          all_goals (first | refine AtT.kpass ?_ | refine AtT.kpassU ?_ | ((refine AtT.kmove ?_)))
          all_goals (first | refine AtT.kpass ?_ | refine AtT.kpassU ?_ | ((refine AtT.kneI ?_)))
          all_goals (rw [neI])
          all_goals (refine AtT.kpick ?_)
          all_goals (refine AtT.kmove ?_)
          all_goals (first | refine AtT.kL 174 ?_ | refine AtT.pcase (d := 174) rfl (fun hg174 => ?_) (fun hg174 => ?_) | refine AtT.bcase (d := 174) rfl (fun hg174 => ?_) (fun hg174 => ?_))
          all_goals (first | refine AtT.kpass ?_ | refine AtT.kpassU ?_ | ((first | refine AtT.kloadOA tk31 ?_ | refine AtT.kloadA tk31 ?_ | refine AtT.kloadOP tk31 ?_)))
          all_goals (first | refine AtT.kpass ?_ | refine AtT.kpassU ?_ | ((first | refine AtT.kloadOA tk31 ?_ | refine AtT.kloadA tk31 ?_ | refine AtT.kloadOP tk31 ?_)))
          all_goals (first | refine AtT.kpass ?_ | refine AtT.kpassU ?_ | ((refine AtT.kneS (eqS31 _ _ _ _) ?_)))
          all_goals (rw [neR])
          all_goals (refine AtT.kpick ?_)
          all_goals (refine AtT.kmove ?_)
          all_goals (first | refine AtT.kL 179 ?_ | refine AtT.pcase (d := 179) rfl (fun hg179 => ?_) (fun hg179 => ?_) | refine AtT.bcase (d := 179) rfl (fun hg179 => ?_) (fun hg179 => ?_))
          all_goals (first | refine AtT.kpass ?_ | refine AtT.kpassU ?_ | ((first | refine AtT.kloadOA tk31 ?_ | refine AtT.kloadA tk31 ?_ | refine AtT.kloadOP tk31 ?_)))
          all_goals (first | refine AtT.kpass ?_ | refine AtT.kpassU ?_ | ((first | refine AtT.kloadOA tk31 ?_ | refine AtT.kloadA tk31 ?_ | refine AtT.kloadOP tk31 ?_)))
          all_goals (first | refine AtT.kpass ?_ | refine AtT.kpassU ?_ | ((refine AtT.kneS (eqS31 _ _ _ _) ?_)))
          all_goals (rw [neR])
          all_goals (refine AtT.kpick ?_)
          all_goals refine AtT.done ?_
          all_goals (refine At.nrm ?_)
          refine At.condF rfl rfl ?_
          refine At.nrm ?_
          refine At.ktext (.q 0 (.q 1 (.q 2 (.q 3 (.q 4 (.q 5 (.q 6 (.q 7 (.q 8 (.q 9 (.q 10 (.q 11 (.q 12 (.q 13 (.q 14 (.q 15 (.q 16 (.q 17 (.q 18 (.q 19 (.q 20 (.q 21 (.q 22 (.q 23 (.q 24 (.q 25 (.q 26 (.q 27 (.q 28 (.n false 29 (.q 30 (.q 31 .done)))))))))))))))))))))))))))))))) ?_
          first | refine AtT.kfieldO fo31_0 ?_ | with_reducible refine AtT.kfield2 fo31_0 ?_ | refine AtT.kfield fo31_0 ?_
          first | refine AtT.kloadO tk2 ?_ | refine AtT.kload tk2 ?_
          first | refine AtT.kfieldO fo31_0 ?_ | with_reducible refine AtT.kfield2 fo31_0 ?_ | refine AtT.kfield fo31_0 ?_
          first | refine AtT.kloadO tk2 ?_ | refine AtT.kload tk2 ?_
          first | refine AtT.kneg ?_ | refine AtT.knegW ?_
          rw [wrap_fit (Fit.of (by dsimp only; omega) (by dsimp only; omega))]
          refine AtT.keqI ?_
          rw [eqI]
          refine AtT.kmove ?_
          all_goals (first | refine AtT.kL 190 ?_ | refine AtT.pcase (d := 190) rfl (fun hg190 => ?_) (fun hg190 => ?_) | refine AtT.bcase (d := 190) rfl (fun hg190 => ?_) (fun hg190 => ?_))
          all_goals (first | refine AtT.kpass ?_ | refine AtT.kpassU ?_ | ((first | refine AtT.kfieldO fo31_1 ?_ | with_reducible refine AtT.kfield2 fo31_1 ?_ | refine AtT.kfield fo31_1 ?_)))
          all_goals (first | refine AtT.kpass ?_ | refine AtT.kpassU ?_ | ((first | refine AtT.kloadO tk2 ?_ | refine AtT.kload tk2 ?_)))
          all_goals (first | refine AtT.kpass ?_ | refine AtT.kpassU ?_ | ((first | refine AtT.kfieldO fo31_1 ?_ | with_reducible refine AtT.kfield2 fo31_1 ?_ | refine AtT.kfield fo31_1 ?_)))
          all_goals (first | refine AtT.kpass ?_ | refine AtT.kpassU ?_ | ((first | refine AtT.kloadO tk2 ?_ | refine AtT.kload tk2 ?_)))
          all_goals (first | refine AtT.kpass ?_ | refine AtT.kpassU ?_ | ((refine AtT.keqI ?_)))
          all_goals (rw [eqI])
          all_goals (refine AtT.kpick ?_)
          all_goals (refine AtT.kmove ?_)
          all_goals (first | refine AtT.kL 197 ?_ | refine AtT.pcase (d := 197) rfl (fun hg197 => ?_) (fun hg197 => ?_) | refine AtT.bcase (d := 197) rfl (fun hg197 => ?_) (fun hg197 => ?_))
          all_goals (first | refine AtT.kpass ?_ | refine AtT.kpassU ?_ | ((first | refine AtT.kfieldO fo31_0 ?_ | with_reducible refine AtT.kfield2 fo31_0 ?_ | refine AtT.kfield fo31_0 ?_)))
          all_goals (first | refine AtT.kpass ?_ | refine AtT.kpassU ?_ | ((first | refine AtT.kloadO tk2 ?_ | refine AtT.kload tk2 ?_)))
          all_goals (first | refine AtT.kpass ?_ | refine AtT.kpassU ?_ | ((first | refine AtT.kfieldO fo31_0 ?_ | with_reducible refine AtT.kfield2 fo31_0 ?_ | refine AtT.kfield fo31_0 ?_)))
          all_goals (first | refine AtT.kpass ?_ | refine AtT.kpassU ?_ | ((first | refine AtT.kloadO tk2 ?_ | refine AtT.kload tk2 ?_)))
          all_goals (first | refine AtT.kpass ?_ | refine AtT.kpassU ?_ | ((first | refine AtT.kneg ?_ | refine AtT.knegW ?_)))
          all_goals (rw [wrap_fit (Fit.of (by dsimp only; omega) (by dsimp only; omega))])
          all_goals (first | refine AtT.kpass ?_ | refine AtT.kpassU ?_ | ((refine AtT.keqI ?_)))
          all_goals (rw [eqI])
          all_goals (refine AtT.kpick ?_)
          all_goals (refine AtT.kmove ?_)
          all_goals (first | refine AtT.kL 205 ?_ | refine AtT.pcase (d := 205) rfl (fun hg205 => ?_) (fun hg205 => ?_) | refine AtT.bcase (d := 205) rfl (fun hg205 => ?_) (fun hg205 => ?_))
          all_goals (first | refine AtT.kpass ?_ | refine AtT.kpassU ?_ | ((first | refine AtT.kfieldO fo31_1 ?_ | with_reducible refine AtT.kfield2 fo31_1 ?_ | refine AtT.kfield fo31_1 ?_)))
          all_goals (first | refine AtT.kpass ?_ | refine AtT.kpassU ?_ | ((first | refine AtT.kloadO tk2 ?_ | refine AtT.kload tk2 ?_)))
          all_goals (first | refine AtT.kpass ?_ | refine AtT.kpassU ?_ | ((first | refine AtT.kfieldO fo31_1 ?_ | with_reducible refine AtT.kfield2 fo31_1 ?_ | refine AtT.kfield fo31_1 ?_)))
          all_goals (first | refine AtT.kpass ?_ | refine AtT.kpassU ?_ | ((first | refine AtT.kloadO tk2 ?_ | refine AtT.kload tk2 ?_)))
          all_goals (first | refine AtT.kpass ?_ | refine AtT.kpassU ?_ | ((refine AtT.keqI ?_)))
          all_goals (rw [eqI])
          all_goals (refine AtT.kpick ?_)
          all_goals (refine AtT.kmove ?_)
          all_goals (first | refine AtT.kL 212 ?_ | refine AtT.pcase (d := 212) rfl (fun hg212 => ?_) (fun hg212 => ?_) | refine AtT.bcase (d := 212) rfl (fun hg212 => ?_) (fun hg212 => ?_))
          all_goals (first | refine AtT.kpassN ?_ | refine AtT.kpassNU ?_ | ((refine AtT.kcallP rfl rfl ok19 (works_f _) ?_) ; (rintro _ rfl)))
          all_goals (refine AtT.kpick ?_)
          all_goals (refine AtT.kassign ?_)
          all_goals refine AtT.done ?_
          all_goals (refine At.nrm ?_)
          exact At.ret1 rfl (.tmp rfl) rfl
end Go.Proofs.Ytnionkopmncopaa
set_option linter.unusedVariables false
namespace Go.Proofs.Ytnionkopmncopaa.c9
open Go.Lw Go.Pl Go.RowKit Go.ChangeShapes Go.WideShapes Go.ChangeAt

set_option maxRecDepth 100000 in
theorem lifted (os : Os) (started : os.Started) (H : Type) (enc : TypeId × Value → H) :
    ReturnsInHanded {} Try.checked os 11 .any (Rows.peelTurnedSpec.pre6 enc Try.prog Try.f11 Rows.peelTurnedRow.domain false) (Rows.peelTurnedSpec.post enc Try.prog Try.f11 false true false false) := by
  refine law_lift (tb := 4) (fun ds hd => by match ds, hd with | [d0, d1, d2], _ => rfl) rfl (by kernel_rfl) Try.underlying4 laidOut (by kernel_rfl) own started (by kernel_rfl) Try.func11
    (ChangeSpec.witness6 (enc := enc) (C := Try.checked) false ⟨#[], #[.agg #[.slice none 0 0, .slice none 0 0], .int .i16 0, .int .u8 0], []⟩ 8 (by kernel_rfl) (by kernel_rfl) (by kernel_rfl) (by kernel_rfl)) ?_
  intro W base args ds ps hval hA
  rw [Try.params11] at hA hval
  obtain ⟨v0, vs0, d0, ds0, p0, q0, hargs, rfl, rfl, h0, r0⟩ := trodAll_cons hA
  obtain ⟨v1, vs1, d1, ds1, p1, q1, rfl, rfl, rfl, h1, r1⟩ := trodAll_cons r0
  obtain ⟨v2, vs2, d2, ds2, p2, q2, rfl, rfl, rfl, h2, r2⟩ := trodAll_cons r1
  obtain ⟨rfl, rfl, rfl⟩ := trodAll_nil r2
  obtain rfl : args = #[v0, v1, v2] := by cases args; simp_all
  obtain ⟨L0, hL0⟩ := open_log (hval 0 25 v0 rfl rfl) h0
  obtain ⟨x1, rfl, _, _, w1⟩ := open_int Try.underlying57 (hval 1 57 v1 rfl rfl) h1
  have b1 := bounds_i16 w1
  obtain ⟨x2, rfl, _, _, w2⟩ := open_int Try.underlying5 (hval 2 5 v2 rfl rfl) h2
  have b2 := bounds_u8 w2
  exact ⟨[v0, .int .i16 x1, .int .u8 x2], rfl, peelTurned_f L0 x1 x2 _ _ hL0 b1 b2⟩

theorem over : Rows.peelTurnedRow.holds Try.pinned (OpenSpec.ofChange Rows.peelTurnedSpec) :=
  OpenClaim.holds_of_wide 11 Try.f11 rfl rfl rfl rfl rfl rfl rfl ⟨rfl, rfl, rfl, rfl, rfl⟩ rfl rfl rfl rfl rfl (by kernel_rfl) Try.func11 (by kernel_rfl)
    (of_decide_eq_true (by kernel_rfl)) (by unfold Func.isWrapper; first | (rw [if_pos (by decide +kernel)]; kernel_rfl) | (rw [if_neg (by decide +kernel)]; exact ⟨rfl, rfl⟩))
    (fun os started H enc _ => lifted os started H enc)

theorem proved : Rows.PeelTurnedSaid := over
#print axioms proved
end Go.Proofs.Ytnionkopmncopaa.c9
