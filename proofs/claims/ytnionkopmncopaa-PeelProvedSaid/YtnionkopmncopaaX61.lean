/- No given line has a core that is greater than what a given proof proves, or than the best core, which the line that is returned has, and the proof that is returned proves: for every log, two heights, three places and a side. No condition. -/
import Derived.Test.YtnionkopmncopaaB5
set_option linter.unusedVariables false
set_option linter.unusedSimpArgs false
set_option linter.unusedSectionVars false
set_option linter.unusedVariables false
namespace Go.Proofs.Ytnionkopmncopaa
open Go.Lw Go.Pl Go.RowKit

theorem peelHeights_f (L : Lg) (core x : Int) (V : View) (v : Value) (hv : LogV V v L) : Fnc Try.prog 6 [v, iv core, iv x] V fun r _ => r = .bool true := by
  have hv' := hv
  obtain ⟨a, c, a', c', rfl, h2, h3⟩ := hv
  refine fn_of Try.func6 rfl Try.ntmps6 (Nat.le_of_ble_eq_true rfl) ?_
  intro w0 hw0
  refine At.nrm ?_
  refine At.ktext (.n false 0 (.q 1 .done)) ?_
  refine AtT.kbox ?_
  intro b3
  refine AtT.kassign ?_
  refine AtT.done ?_
  refine At.nrm ?_
  refine At.ktext (.q 0 (.n false 1 .done)) ?_
  first | refine AtT.kloadOA tk25 ?_ | refine AtT.kloadA tk25 ?_ | refine AtT.kloadOP tk25 ?_
  refine AtT.kcallP rfl rfl ok18 (great_f L _ _ hv') ?_
  rintro _ rfl
  refine AtT.done ?_
  refine At.nrm ?_
  refine At.condP rfl (fun hb => ?_) (fun hb => ?_)
  · refine At.nrm ?_
    refine At.ktext (.n false 0 (.q 1 .done)) ?_
    refine AtT.kcallP rfl rfl ok19 (works_f _) ?_
    rintro _ rfl
    refine AtT.kassign ?_
    refine AtT.done ?_
    refine At.nrm ?_
    exact At.ret1 rfl (.tmp rfl) rfl
  · refine At.nrm ?_
    refine At.ktext (.q 0 (.q 1 (.q 2 (.n false 3 (.q 4 (.q 5 (.q 6 (.q 7 (.n false 8 (.n false 9 (.n true 10 (.n true 11 (.q 12 .done))))))))))))) ?_
    first | refine AtT.kloadOA tk25 ?_ | refine AtT.kloadA tk25 ?_ | refine AtT.kloadOP tk25 ?_
    refine AtT.kmove ?_
    refine AtT.kmove ?_
    refine AtT.kcallP rfl rfl ok34 (heights_p L core x _ _ hv') ?_
    rintro _ rfl
    refine AtT.kmove ?_
    refine AtT.kextract ?_
    refine AtT.kextract ?_
    refine AtT.kextract ?_
    refine AtT.kalloc z31 ?_
    intro b7
    refine AtT.kalloc z31 ?_
    intro b8
    refine AtT.kstoreA tk31 ?_
    refine AtT.kstoreA tk31 ?_
    refine AtT.kassign ?_
    refine AtT.done ?_
    refine At.nrm ?_
    refine At.ktext (.q 0 (.q 1 (.q 2 (.n false 3 (.q 4 (.q 5 (.q 6 (.q 7 (.n false 8 (.n false 9 (.n true 10 (.n true 11 (.q 12 .done))))))))))))) ?_
    first | refine AtT.kloadOA tk25 ?_ | refine AtT.kloadA tk25 ?_ | refine AtT.kloadOP tk25 ?_
    refine AtT.kmove ?_
    refine AtT.kmove ?_
    refine AtT.kcallP rfl rfl ok35 (heights_q L core x _ _ hv') ?_
    rintro _ rfl; rw [← heights_eq]
    refine AtT.kmove ?_
    refine AtT.kextract ?_
    refine AtT.kextract ?_
    refine AtT.kextract ?_
    refine AtT.kalloc z31 ?_
    intro b10
    refine AtT.kalloc z31 ?_
    intro b11
    refine AtT.kstoreA tk31 ?_
    refine AtT.kstoreA tk31 ?_
    refine AtT.kassign ?_
    refine AtT.done ?_
    refine At.nrm ?_
    refine At.ktext (.q 0 (.q 1 (.q 2 (.q 3 (.q 4 (.q 5 (.q 6 (.q 7 (.q 8 (.q 9 (.q 10 (.q 11 (.q 12 (.q 13 (.n false 14 (.q 15 (.q 16 .done))))))))))))))))) ?_
    first | refine AtT.kloadOA tk31 ?_ | refine AtT.kloadA tk31 ?_ | refine AtT.kloadOP tk31 ?_
    first | refine AtT.kloadOA tk31 ?_ | refine AtT.kloadA tk31 ?_ | refine AtT.kloadOP tk31 ?_
    refine AtT.keqS (eqS31 _ _ _ _) ?_
    rw [eqR]
    refine AtT.kmove ?_
    all_goals (first | refine AtT.kL 35 ?_ | refine AtT.pcase (d := 35) rfl (fun hg35 => ?_) (fun hg35 => ?_) | refine AtT.bcase (d := 35) rfl (fun hg35 => ?_) (fun hg35 => ?_))
    all_goals (first | refine AtT.kpass ?_ | refine AtT.kpassU ?_ | ((first | refine AtT.kloadOA tk31 ?_ | refine AtT.kloadA tk31 ?_ | refine AtT.kloadOP tk31 ?_)))
    all_goals (first | refine AtT.kpass ?_ | refine AtT.kpassU ?_ | ((first | refine AtT.kloadOA tk31 ?_ | refine AtT.kloadA tk31 ?_ | refine AtT.kloadOP tk31 ?_)))
    all_goals (first | refine AtT.kpass ?_ | refine AtT.kpassU ?_ | ((refine AtT.keqS (eqS31 _ _ _ _) ?_)))
    all_goals (rw [eqR])
    all_goals (refine AtT.kpick ?_)
    all_goals (refine AtT.kmove ?_)
    all_goals (first | refine AtT.kL 40 ?_ | refine AtT.pcase (d := 40) rfl (fun hg40 => ?_) (fun hg40 => ?_) | refine AtT.bcase (d := 40) rfl (fun hg40 => ?_) (fun hg40 => ?_))
    all_goals (first | refine AtT.kpass ?_ | refine AtT.kpassU ?_ | ((refine AtT.kmove ?_)))
    all_goals (first | refine AtT.kpass ?_ | refine AtT.kpassU ?_ | ((refine AtT.kmove ?_)))
    all_goals (first | refine AtT.kpass ?_ | refine AtT.kpassU ?_ | ((refine AtT.keqI ?_)))
    all_goals (rw [eqI])
    all_goals (refine AtT.kpick ?_)
    all_goals (refine AtT.kmove ?_)
    all_goals (first | refine AtT.kL 45 ?_ | refine AtT.pcase (d := 45) rfl (fun hg45 => ?_) (fun hg45 => ?_) | refine AtT.bcase (d := 45) rfl (fun hg45 => ?_) (fun hg45 => ?_))
    all_goals (first | refine AtT.kpassN ?_ | refine AtT.kpassNU ?_ | ((refine AtT.kcallP rfl rfl ok19 (works_f _) ?_) ; (rintro _ rfl)))
    all_goals (refine AtT.kpick ?_)
    all_goals (refine AtT.kassign ?_)
    all_goals refine AtT.done ?_
    all_goals (refine At.nrm ?_)
    exact At.ret1 rfl (.tmp rfl) rfl
end Go.Proofs.Ytnionkopmncopaa
namespace Go.Pl

structure Sm (r : Rt) : Prop where
  can : Can r
  d : r.den ≤ 200
  lo : -3000 * r.den ≤ r.num
  hi : r.num ≤ 3000 * r.den
structure Ft (r : Rt) : Prop where
  can : Can r
  d : r.den ≤ 200
  lo : -1000000 * r.den ≤ r.num
  hi : r.num ≤ 1000000 * r.den

/-- A fraction's numbers by what it is. -/
theorem num_of {r : Rt} (hc : Can r) {A : Int} (h1 : (-A : Rat) ≤ r.q) (h2 : r.q ≤ (A : Rat)) : -A * r.den ≤ r.num ∧ r.num ≤ A * r.den := by
  have hp := cpos hc.pos
  have hn := cne hc.pos
  have e : r.q * r.den = r.num := by unfold Rt.q; grind
  have k1 := rmul_le h1 (c := (r.den : Rat)) (by grind)
  have k2 := rmul_le h2 (c := (r.den : Rat)) (by grind)
  rw [e] at k1 k2
  constructor
  · have : ((-A * r.den : Int) : Rat) ≤ (r.num : Rat) := by push_cast; grind
    exact_mod_cast this
  · have : (r.num : Rat) ≤ ((A * r.den : Int) : Rat) := by push_cast; grind
    exact_mod_cast this
theorem q_of {r : Rt} (hc : Can r) {A : Int} (h1 : -A * r.den ≤ r.num) (h2 : r.num ≤ A * r.den) : (-A : Rat) ≤ r.q ∧ r.q ≤ (A : Rat) := by
  have hp := cpos hc.pos
  have hn := cne hc.pos
  have e : r.q * r.den = r.num := by unfold Rt.q; grind
  have k1 : ((-A * r.den : Int) : Rat) ≤ (r.num : Rat) := by exact_mod_cast h1
  have k2 : (r.num : Rat) ≤ ((A * r.den : Int) : Rat) := by exact_mod_cast h2
  push_cast at k1 k2
  exact ⟨rle_of (c := (r.den : Rat)) (by grind) hp, rle_of (c := (r.den : Rat)) (by grind) hp⟩
theorem cle {a b : Int} (h : a ≤ b) : (a : Rat) ≤ (b : Rat) := by exact_mod_cast h

theorem loq_bd {L : Lg} (hL : LgOk L) {i : Nat} (hi : i < L.pl.length) : (-1000 : Rat) ≤ ((edP L i).lo : Rat) ∧ ((edP L i).lo : Rat) ≤ ((edP L i).hi : Rat) ∧ ((edP L i).hi : Rat) ≤ 1000 := by
  have e := hL.edB (i := (i : Int)) (by omega) (by omega)
  exact ⟨cle e.1, cle e.2.1, cle e.2.2⟩
/-- What a proof proves is small. -/
theorem prov_sm {L : Lg} (hL : LgOk L) {p : Pf} (hp : PfOk L p) : Sm (provV L p) := by
  have hb := prov_bd hL hp
  have hc : Can (provV L p) := rat_can hb.2.1
  have hd : provD L p ≤ 200 := by
    rcases pf_form hp with ⟨i, hi, rfl⟩ | ⟨i, k, j, s, h1, h2, h3, hs, rfl⟩
    · simp [provD]
    · have a := hL.plB (i := (i : Int)) (by omega) (by omega)
      have b := hL.plB (i := (j : Int)) (by omega) (by omega)
      have hne : ((i : Nat) : Int) ≠ (j : Nat) := by omega
      simp only [provD, hne, if_false, lftP, rgtP]
      omega
  have hv : (-((3000 : Int) : Rat)) ≤ (provV L p).q ∧ (provV L p).q ≤ ((3000 : Int) : Rat) := by
    have hq := prov_q hL hp
    have hdp := cpos hb.2.1
    have hdn := cne hb.2.1
    have he := prov_eq hL hp _ rfl
    rcases pf_form hp with ⟨i, hi, rfl⟩ | ⟨i, k, j, s, h1, h2, h3, hs, rfl⟩
    · have b := loq_bd hL hi
      simp only [provD, provN, if_true] at he
      push_cast at he ⊢
      exact ⟨by grind, by grind⟩
    · have hne : ((i : Nat) : Int) ≠ (j : Nat) := by omega
      have x1 := hL.rise i k h1 (by omega)
      have x2 := hL.rise k j h2 h3
      have b1 := loq_bd hL (i := i) (by omega)
      have b2 := loq_bd hL (i := k) (by omega)
      have b3 := loq_bd hL h3
      have hX : ((plP L ((j : Nat) : Int) : Int) : Rat) = Xq L j := rfl
      have hY : ((plP L ((k : Nat) : Int) : Int) : Rat) = Xq L k := rfl
      have hZ : ((plP L ((i : Nat) : Int) : Int) : Rat) = Xq L i := rfl
      have core : ∀ (u v w : Rat), w * (2 * ((Xq L k - Xq L i) + (Xq L j - Xq L k))) = u * (Xq L j - Xq L k) + v * (Xq L k - Xq L i) → -2000 ≤ u → u ≤ 2000 → -2000 ≤ v → v ≤ 2000 → -3000 ≤ w ∧ w ≤ 3000 := by
        intro u v w e u1 u2 v1 v2
        have g1 := rmul_le u1 (c := Xq L j - Xq L k) (by grind)
        have g2 := rmul_le u2 (c := Xq L j - Xq L k) (by grind)
        have g3 := rmul_le v1 (c := Xq L k - Xq L i) (by grind)
        have g4 := rmul_le v2 (c := Xq L k - Xq L i) (by grind)
        have hp : 0 < 2 * ((Xq L k - Xq L i) + (Xq L j - Xq L k)) := by grind
        exact ⟨rle_of (c := 2 * ((Xq L k - Xq L i) + (Xq L j - Xq L k))) (by grind) hp, rle_of (c := 2 * ((Xq L k - Xq L i) + (Xq L j - Xq L k))) (by grind) hp⟩
      rcases hs with rfl | rfl
      · simp only [provD, provN, hne, if_false, if_true, lftP, rgtP] at he
        push_cast at he ⊢
        rw [hX, hY, hZ] at he
        exact core _ _ _ he (by grind) (by grind) (by grind) (by grind)
      · simp only [provD, provN, hne, if_false, show ¬ (2 : Int) = 1 from by decide, lftP, rgtP] at he
        push_cast at he ⊢
        rw [hX, hY, hZ] at he
        exact core _ _ _ he (by grind) (by grind) (by grind) (by grind)
  have := num_of hc hv.1 hv.2
  have hr := rat_bd (provN L p) (provD L p) hb.2.1
  exact ⟨hc, Int.le_trans hr.2.2 hd, this.1, this.2⟩
theorem best_sm {L : Lg} (hL : LgOk L) : Sm (bestV L) := by rw [← leastP_v]; exact prov_sm hL (leastP_ok hL)
theorem sm_fit {a b : Rt} (ha : Sm a) (hb : Sm b) : Go.Lw.Fit (a.num * b.den) := by
  have h1 := ha.can.pos
  have h2 := ha.d
  have h3 := ha.lo
  have h4 := ha.hi
  have m := mul_bd (a := a.num) (b := b.den) (A := 600000) (B := 200) (by decide) (by decide) (by omega) (by omega) (by have := hb.can.pos; omega) hb.d
  exact ⟨by omega, by omega⟩
theorem ft_fit {a b : Rt} (ha : Ft a) (hb : Ft b) : Go.Lw.Fit (a.num * b.den) := by
  have h1 := ha.can.pos
  have h2 := ha.d
  have h3 := ha.lo
  have h4 := ha.hi
  have m := mul_bd (a := a.num) (b := b.den) (A := 200000000) (B := 200) (by decide) (by decide) (by omega) (by omega) (by have := hb.can.pos; omega) hb.d
  exact ⟨by omega, by omega⟩
theorem Sm.ft {a : Rt} (ha : Sm a) : Ft a := by
  have h1 := ha.can.pos
  have h3 := ha.lo
  have h4 := ha.hi
  exact ⟨ha.can, ha.d, by omega, by omega⟩

/-! ### Lines by two heights -/
def tm (x : Int) : Int := x.tmod 2001
theorem tmod_lt (x : Int) {m : Int} (hm : 0 < m) : -m < x.tmod m ∧ x.tmod m < m := by
  have h : (x.tmod m).natAbs < m.natAbs := by
    rw [Int.natAbs_tmod]; exact Nat.mod_lt _ (by omega)
  omega
theorem tm_bd (x : Int) : -2000 ≤ tm x ∧ tm x ≤ 2000 := by
  have := tmod_lt x (m := 2001) (by decide)
  unfold tm; omega
def lastX (L : Lg) : Int := plP L ((L.pl.length - 1 : Nat) : Int)
def firstX (L : Lg) : Int := plP L 0
def linedV (L : Lg) (one two : Int) : Ln := ⟨lastX L - firstX L, tm one * lastX L - tm two * firstX L, tm two - tm one⟩
theorem ends_bd {L : Lg} (hL : LgOk L) : 0 ≤ firstX L ∧ firstX L < lastX L ∧ lastX L ≤ 100 := by
  have n2 := hL.n2
  have a := hL.plB (i := 0) (by omega) (by omega)
  have b := hL.plB (i := ((L.pl.length - 1 : Nat) : Int)) (by omega) (by omega)
  have c := hL.plL (i := 0) (j := ((L.pl.length - 1 : Nat) : Int)) (by omega) (by omega) (by omega)
  unfold firstX lastX; omega
theorem lined_ok {L : Lg} (hL : LgOk L) (one two : Int) : LnB (linedV L one two) ∧ lineE (linedV L one two) = 0 ∧ (linedV L one two).den ≤ 100 := by
  have e := ends_bd hL
  have t1 := tm_bd one
  have t2 := tm_bd two
  have m1 := mul_bd (a := tm one) (b := lastX L) (A := 2000) (B := 100) (by decide) (by decide) (by omega) (by omega) (by omega) (by omega)
  have m2 := mul_bd (a := tm two) (b := firstX L) (A := 2000) (B := 100) (by decide) (by decide) (by omega) (by omega) (by omega) (by omega)
  refine ⟨⟨?_, ?_, ?_, ?_, ?_, ?_⟩, ?_, ?_⟩
  all_goals first | (unfold linedV; dsimp only; omega) | skip
  unfold lineE
  rw [if_neg]
  have w1 : wi 1 100000 [(linedV L one two).den] = true := by simp only [wi, List.any_cons, List.any_nil, outB, Bool.or_false, Bool.not_eq_true', Bool.or_eq_false_iff, decide_eq_false_iff_not, linedV]; omega
  have w2 : wi (-68719476736) 68719476736 [(linedV L one two).start, (linedV L one two).step] = true := by simp only [wi, List.any_cons, List.any_nil, outB, Bool.or_false, Bool.not_eq_true', Bool.or_eq_false_iff, decide_eq_false_iff_not, linedV]; omega
  rw [w1, w2]; simp
/-- A line by two heights at the ends keeps at least -3,000 at all places, and at most 1,000. -/
theorem lined_core {L : Lg} (hL : LgOk L) (one two : Int) : Can (coreOf L (linedV L one two)) ∧ (coreOf L (linedV L one two)).den ≤ 100 ∧ -3000 * (coreOf L (linedV L one two)).den ≤ (coreOf L (linedV L one two)).num ∧ (coreOf L (linedV L one two)).num ≤ 3000 * (coreOf L (linedV L one two)).den := by
  have hk := lined_ok hL one two
  have hd := hk.1.d0
  have hc := core_can (L := L) hd
  have e := ends_bd hL
  have n2 := hL.n2
  have hden : (coreOf L (linedV L one two)).den ≤ (linedV L one two).den := (rat_bd _ _ hd).2.2
  have hup := core_le_best hL hd
  have hbs := best_sm hL
  have hbq := q_of hbs.can hbs.lo hbs.hi
  have hlow : (-((3000 : Int) : Rat)) ≤ (coreOf L (linedV L one two)).q := by
    rw [core_keeps hL hd]
    intro m hm
    have b := loq_bd hL hm
    -- the height there lies between the two ends' heights
    have x1 : firstX L ≤ plP L m := by
      by_cases c : m = 0
      · subst c; exact Int.le_refl _
      · have := hL.plL (i := 0) (j := (m : Int)) (by omega) (by omega) (by omega)
        unfold firstX; omega
    have x2 : plP L m ≤ lastX L := by
      by_cases c : m = L.pl.length - 1
      · subst c; exact Int.le_refl _
      · have := hL.plL (i := (m : Int)) (j := ((L.pl.length - 1 : Nat) : Int)) (by omega) (by omega) (by omega)
        unfold lastX; omega
    have t1 := tm_bd one
    have t2 := tm_bd two
    have hdq := cpos hd
    have hdn := cne hd
    have hs : ((linedV L one two).start : Rat) / (linedV L one two).den + ((linedV L one two).step : Rat) / (linedV L one two).den * Xq L m = ((tm one : Rat) * ((lastX L : Rat) - Xq L m) + (tm two : Rat) * (Xq L m - firstX L)) / (linedV L one two).den := by
      simp only [linedV]; push_cast; grind
    have r1 : (firstX L : Rat) ≤ Xq L m := cle x1
    have r2 : Xq L m ≤ (lastX L : Rat) := cle x2
    have u1 : (-2000 : Rat) ≤ (tm one : Rat) := cle t1.1
    have u2 : (tm one : Rat) ≤ 2000 := cle t1.2
    have v1 : (-2000 : Rat) ≤ (tm two : Rat) := cle t2.1
    have v2 : (tm two : Rat) ≤ 2000 := cle t2.2
    have g1 := rmul_le u1 (c := (lastX L : Rat) - Xq L m) (by grind)
    have g2 := rmul_le u2 (c := (lastX L : Rat) - Xq L m) (by grind)
    have g3 := rmul_le v1 (c := Xq L m - (firstX L : Rat)) (by grind)
    have g4 := rmul_le v2 (c := Xq L m - (firstX L : Rat)) (by grind)
    have hdd : ((linedV L one two).den : Rat) = (lastX L : Rat) - firstX L := by simp only [linedV]; push_cast; rfl
    generalize hN : (tm one : Rat) * ((lastX L : Rat) - Xq L m) + (tm two : Rat) * (Xq L m - firstX L) = N at hs
    have hh : N / (linedV L one two).den * (linedV L one two).den = N := by grind
    have k1 : (-2000 : Rat) ≤ N / (linedV L one two).den := rle_of (c := ((linedV L one two).den : Rat)) (by rw [hh, hdd]; grind) hdq
    have k2 : N / (linedV L one two).den ≤ 2000 := rle_of (c := ((linedV L one two).den : Rat)) (by rw [hh, hdd]; grind) hdq
    rw [hs]
    simp only [loq, hiq]
    push_cast
    exact ⟨by grind, by grind⟩
  have := num_of hc hlow (by grind)
  exact ⟨hc, Int.le_trans hden hk.2.2, this.1, this.2⟩
theorem lined_sm {L : Lg} (hL : LgOk L) (one two : Int) : Sm (coreOf L (linedV L one two)) := by
  obtain ⟨a, b, c, d⟩ := lined_core hL one two
  exact ⟨a, by omega, c, d⟩
end Go.Pl
set_option linter.unusedVariables false
namespace Go.Proofs.Ytnionkopmncopaa
open Go.Lw Go.Pl Go.RowKit

theorem great_not {L : Lg} (he : logE L = 0) : ¬ (12 < (L.pl.length : Int) ∨ 12 < (L.ed.length : Int)) := by
  have h := logE_ok he
  have := h.n8; have := h.el
  omega
theorem fine_f (L : Lg) (V : View) (v : Value) (hv : LogV V v L) : Fnc Try.prog 41 [v] V fun r _ => r = .bool (decide (logE L = 0)) := by
  have hv' := hv
  obtain ⟨a, c, a', c', rfl, h2, h3⟩ := hv
  refine fn_of Try.func41 rfl Try.ntmps41 (Nat.le_of_ble_eq_true rfl) ?_
  intro w0 hw0
  refine At.nrm ?_
  refine At.ktext (.n false 0 (.q 1 .done)) ?_
  refine AtT.kbox ?_
  intro b1
  refine AtT.kassign ?_
  refine AtT.done ?_
  refine At.nrm ?_
  by_cases he : logE L = 0
  · refine At.ktext (.q 0 (.n false 1 (.q 2 (.q 3 (.q 4 (.n false 5 (.q 6 (.q 7 (.q 8 .done))))))))) ?_
    first | refine AtT.kloadOA tk25 ?_ | refine AtT.kloadA tk25 ?_ | refine AtT.kloadOP tk25 ?_
    refine AtT.kcallP rfl rfl ok18 (great_f L _ _ hv') ?_
    rintro _ rfl
    refine AtT.setF (d := 4) rfl (great_not he) ?_
    refine AtT.knot ?_
    refine AtT.kmove ?_
    all_goals (first | refine AtT.kL 6 ?_ | refine AtT.pcase (d := 6) rfl (fun hg6 => ?_) (fun hg6 => ?_) | refine AtT.bcase (d := 6) rfl (fun hg6 => ?_) (fun hg6 => ?_))
    all_goals (first | refine AtT.kpass ?_ | refine AtT.kpassU ?_ | ((first | refine AtT.kloadOA tk25 ?_ | refine AtT.kloadA tk25 ?_ | refine AtT.kloadOP tk25 ?_)))
    all_goals (first | refine AtT.kpassN ?_ | refine AtT.kpassNU ?_ | ((refine AtT.kcallP rfl rfl ok23 (rcheckLog_f L _ _ hv') ?_) ; (rintro _ rfl)))
    all_goals (first | refine AtT.kpass ?_ | refine AtT.kpassU ?_ | ((refine AtT.keqI ?_)))
    all_goals (refine AtT.setT (d := 9) rfl (he) ?_)
    all_goals (refine AtT.kpick ?_)
    all_goals (refine AtT.kassign ?_)
    all_goals refine AtT.done ?_
    all_goals (refine At.nrm ?_)
    exact At.ret1 rfl (.tmp rfl) (by rw [decide_eq_true he]; rfl)
  · by_cases hg : 12 < (L.pl.length : Int) ∨ 12 < (L.ed.length : Int)
    · refine At.ktext (.q 0 (.n false 1 (.q 2 (.q 3 (.q 4 (.n false 5 (.q 6 (.q 7 (.q 8 .done))))))))) ?_
      first | refine AtT.kloadOA tk25 ?_ | refine AtT.kloadA tk25 ?_ | refine AtT.kloadOP tk25 ?_
      refine AtT.kcallP rfl rfl ok18 (great_f L _ _ hv') ?_
      rintro _ rfl
      refine AtT.setT (d := 4) rfl (hg) ?_
      refine AtT.knot ?_
      refine AtT.kmove ?_
      all_goals (first | refine AtT.kL 6 ?_ | refine AtT.pcase (d := 6) rfl (fun hg6 => ?_) (fun hg6 => ?_) | refine AtT.bcase (d := 6) rfl (fun hg6 => ?_) (fun hg6 => ?_))
      all_goals (first | refine AtT.kpass ?_ | refine AtT.kpassU ?_ | ((first | refine AtT.kloadOA tk25 ?_ | refine AtT.kloadA tk25 ?_ | refine AtT.kloadOP tk25 ?_)))
      all_goals (first | refine AtT.kpassN ?_ | refine AtT.kpassNU ?_ | ((refine AtT.kcallP rfl rfl ok23 (rcheckLog_f L _ _ hv') ?_) ; (rintro _ rfl)))
      all_goals (first | refine AtT.kpass ?_ | refine AtT.kpassU ?_ | ((refine AtT.keqI ?_)))
      all_goals (refine AtT.kpick ?_)
      all_goals (refine AtT.kassign ?_)
      all_goals refine AtT.done ?_
      all_goals (refine At.nrm ?_)
      exact At.ret1 rfl (.tmp rfl) (by rw [decide_eq_false he]; rfl)
    · refine At.ktext (.q 0 (.n false 1 (.q 2 (.q 3 (.q 4 (.n false 5 (.q 6 (.q 7 (.q 8 .done))))))))) ?_
      first | refine AtT.kloadOA tk25 ?_ | refine AtT.kloadA tk25 ?_ | refine AtT.kloadOP tk25 ?_
      refine AtT.kcallP rfl rfl ok18 (great_f L _ _ hv') ?_
      rintro _ rfl
      refine AtT.setF (d := 4) rfl (hg) ?_
      refine AtT.knot ?_
      refine AtT.kmove ?_
      all_goals (first | refine AtT.kL 6 ?_ | refine AtT.pcase (d := 6) rfl (fun hg6 => ?_) (fun hg6 => ?_) | refine AtT.bcase (d := 6) rfl (fun hg6 => ?_) (fun hg6 => ?_))
      all_goals (first | refine AtT.kpass ?_ | refine AtT.kpassU ?_ | ((first | refine AtT.kloadOA tk25 ?_ | refine AtT.kloadA tk25 ?_ | refine AtT.kloadOP tk25 ?_)))
      all_goals (first | refine AtT.kpassN ?_ | refine AtT.kpassNU ?_ | ((refine AtT.kcallP rfl rfl ok23 (rcheckLog_f L _ _ hv') ?_) ; (rintro _ rfl)))
      all_goals (first | refine AtT.kpass ?_ | refine AtT.kpassU ?_ | ((refine AtT.keqI ?_)))
      all_goals (refine AtT.setF (d := 9) rfl (he) ?_)
      all_goals (refine AtT.kpick ?_)
      all_goals (refine AtT.kassign ?_)
      all_goals refine AtT.done ?_
      all_goals (refine At.nrm ?_)
      exact At.ret1 rfl (.tmp rfl) (by rw [decide_eq_false he]; rfl)

theorem small_f (r : Rt) (h : Sm r) (V : View) : Fnc Try.prog 46 [rtv r] V fun v _ => v = .bool true := by
  have hp := h.can.pos
  have hd := h.d
  have hl := h.lo
  have hh := h.hi
  refine fn_of Try.func46 rfl Try.ntmps46 (Nat.le_of_ble_eq_true rfl) ?_
  intro w0 hw0
  refine At.nrm ?_
  refine At.ktext (.n false 0 (.q 1 .done)) ?_
  refine AtT.kbox ?_
  intro b1
  refine AtT.kassign ?_
  refine AtT.done ?_
  refine At.nrm ?_
  refine At.draw (.q 0 (.q 1 (.q 2 (.q 3 (.q 4 (.q 5 (.q 6 (.q 7 (.q 8 (.q 9 (.q 10 (.q 11 (.q 12 (.q 13 (.q 14 (.q 15 (.q 16 (.q 17 (.q 18 (.q 19 (.q 20 (.q 21 (.q 22 (.q 23 (.q 24 (.q 25 (.q 26 (.q 27 (.q 28 (.q 30 (.n false 29 (.q 31 (.q 32 (.q 33 .done)))))))))))))))))))))))))))))))))) ffm (by kernel_rfl) ?_
  first | refine AtT.kfieldO fo31_1 ?_ | with_reducible refine AtT.kfield2 fo31_1 ?_ | refine AtT.kfield fo31_1 ?_
  first | refine AtT.kloadO tk2 ?_ | refine AtT.kload tk2 ?_
  refine AtT.kgeq ?_
  refine AtT.setT (d := 5) rfl (by omega) ?_
  refine AtT.kmove ?_
  all_goals (first | refine AtT.kL 6 ?_ | refine AtT.pcase (d := 6) rfl (fun hg6 => ?_) (fun hg6 => ?_) | refine AtT.bcase (d := 6) rfl (fun hg6 => ?_) (fun hg6 => ?_))
  all_goals (first | refine AtT.kpass ?_ | refine AtT.kpassU ?_ | ((first | refine AtT.kfieldO fo31_1 ?_ | with_reducible refine AtT.kfield2 fo31_1 ?_ | refine AtT.kfield fo31_1 ?_)))
  all_goals (first | refine AtT.kpass ?_ | refine AtT.kpassU ?_ | ((first | refine AtT.kloadO tk2 ?_ | refine AtT.kload tk2 ?_)))
  all_goals (first | refine AtT.kpass ?_ | refine AtT.kpassU ?_ | ((refine AtT.kleq ?_)))
  all_goals (refine AtT.setT (d := 9) rfl (by omega) ?_)
  all_goals (refine AtT.kpick ?_)
  all_goals (refine AtT.kmove ?_)
  all_goals (first | refine AtT.kL 11 ?_ | refine AtT.pcase (d := 11) rfl (fun hg11 => ?_) (fun hg11 => ?_) | refine AtT.bcase (d := 11) rfl (fun hg11 => ?_) (fun hg11 => ?_))
  all_goals (first | refine AtT.kpass ?_ | refine AtT.kpassU ?_ | ((first | refine AtT.kfieldO fo31_0 ?_ | with_reducible refine AtT.kfield2 fo31_0 ?_ | refine AtT.kfield fo31_0 ?_)))
  all_goals (first | refine AtT.kpass ?_ | refine AtT.kpassU ?_ | ((first | refine AtT.kloadO tk2 ?_ | refine AtT.kload tk2 ?_)))
  all_goals (first | refine AtT.kpass ?_ | refine AtT.kpassU ?_ | ((first | refine AtT.kfieldO fo31_1 ?_ | with_reducible refine AtT.kfield2 fo31_1 ?_ | refine AtT.kfield fo31_1 ?_)))
  all_goals (first | refine AtT.kpass ?_ | refine AtT.kpassU ?_ | ((first | refine AtT.kloadO tk2 ?_ | refine AtT.kload tk2 ?_)))
  all_goals (first | refine AtT.kpass ?_ | refine AtT.kpassU ?_ | ((first | refine AtT.kmul ?_ | refine AtT.kmulW ?_)))
  all_goals (first | refine AtT.kpass ?_ | refine AtT.kpassU ?_ | ((refine AtT.kgeq ?_)))
  all_goals (refine AtT.setT (d := 17) rfl (by omega) ?_)
  all_goals (refine AtT.kpick ?_)
  all_goals (refine AtT.kmove ?_)
  all_goals (first | refine AtT.kL 19 ?_ | refine AtT.pcase (d := 19) rfl (fun hg19 => ?_) (fun hg19 => ?_) | refine AtT.bcase (d := 19) rfl (fun hg19 => ?_) (fun hg19 => ?_))
  all_goals (first | refine AtT.kpass ?_ | refine AtT.kpassU ?_ | ((first | refine AtT.kfieldO fo31_0 ?_ | with_reducible refine AtT.kfield2 fo31_0 ?_ | refine AtT.kfield fo31_0 ?_)))
  all_goals (first | refine AtT.kpass ?_ | refine AtT.kpassU ?_ | ((first | refine AtT.kloadO tk2 ?_ | refine AtT.kload tk2 ?_)))
  all_goals (first | refine AtT.kpass ?_ | refine AtT.kpassU ?_ | ((first | refine AtT.kfieldO fo31_1 ?_ | with_reducible refine AtT.kfield2 fo31_1 ?_ | refine AtT.kfield fo31_1 ?_)))
  all_goals (first | refine AtT.kpass ?_ | refine AtT.kpassU ?_ | ((first | refine AtT.kloadO tk2 ?_ | refine AtT.kload tk2 ?_)))
  all_goals (first | refine AtT.kpass ?_ | refine AtT.kpassU ?_ | ((first | refine AtT.kmul ?_ | refine AtT.kmulW ?_)))
  all_goals (first | refine AtT.kpass ?_ | refine AtT.kpassU ?_ | ((refine AtT.kleq ?_)))
  all_goals (refine AtT.setT (d := 25) rfl (by omega) ?_)
  all_goals (refine AtT.kpick ?_)
  all_goals (refine AtT.kmove ?_)
  all_goals (first | refine AtT.kL 27 ?_ | refine AtT.pcase (d := 27) rfl (fun hg27 => ?_) (fun hg27 => ?_) | refine AtT.bcase (d := 27) rfl (fun hg27 => ?_) (fun hg27 => ?_))
  all_goals (first | refine AtT.kpass ?_ | refine AtT.kpassU ?_ | ((first | refine AtT.kfieldO fo31_0 ?_ | with_reducible refine AtT.kfield2 fo31_0 ?_ | refine AtT.kfield fo31_0 ?_)))
  all_goals (first | refine AtT.kpass ?_ | refine AtT.kpassU ?_ | ((first | refine AtT.kloadO tk2 ?_ | refine AtT.kload tk2 ?_)))
  all_goals (first | refine AtT.kpass ?_ | refine AtT.kpassU ?_ | ((first | refine AtT.kfieldO fo31_1 ?_ | with_reducible refine AtT.kfield2 fo31_1 ?_ | refine AtT.kfield fo31_1 ?_)))
  all_goals (first | refine AtT.kpass ?_ | refine AtT.kpassU ?_ | ((first | refine AtT.kloadO tk2 ?_ | refine AtT.kload tk2 ?_)))
  all_goals (first | refine AtT.kpass ?_ | refine AtT.kpassU ?_ | ((first | refine AtT.kloadOA tk31 ?_ | refine AtT.kloadA tk31 ?_ | refine AtT.kloadOP tk31 ?_)))
  all_goals (first | refine AtT.kpassN ?_ | refine AtT.kpassNU ?_ | ((refine AtT.kcallP rfl rfl ok51 (by_r r.num r.den _ (by omega) (by omega) (by omega) (by omega)) ?_) ; (rintro _ rfl; rw [can_rat h.can])))
  all_goals (first | refine AtT.kpass ?_ | refine AtT.kpassU ?_ | ((refine AtT.keqS (eqS31 _ _ _ _) ?_)))
  all_goals (rw [eqR])
  all_goals (refine AtT.kpick ?_)
  all_goals (refine AtT.kassign ?_)
  all_goals refine AtT.done ?_
  all_goals (refine At.nrm ?_)
  exact At.ret1 rfl (.tmp rfl) rfl
theorem fit_f (r : Rt) (h : Ft r) (V : View) : Fnc Try.prog 48 [rtv r] V fun v _ => v = .bool true := by
  have hp := h.can.pos
  have hd := h.d
  have hl := h.lo
  have hh := h.hi
  refine fn_of Try.func48 rfl Try.ntmps48 (Nat.le_of_ble_eq_true rfl) ?_
  intro w0 hw0
  refine At.nrm ?_
  refine At.ktext (.n false 0 (.q 1 .done)) ?_
  refine AtT.kbox ?_
  intro b1
  refine AtT.kassign ?_
  refine AtT.done ?_
  refine At.nrm ?_
  refine At.draw (.q 0 (.q 1 (.q 2 (.q 3 (.q 4 (.q 5 (.q 6 (.q 7 (.q 8 (.q 9 (.q 10 (.q 11 (.q 12 (.q 13 (.q 14 (.q 15 (.q 16 (.q 17 (.q 18 (.q 19 (.q 20 (.q 21 (.q 22 (.q 23 (.q 24 (.q 25 (.q 26 (.q 27 (.q 28 (.q 30 (.n false 29 (.q 31 (.q 32 (.q 33 .done)))))))))))))))))))))))))))))))))) ffm (by kernel_rfl) ?_
  first | refine AtT.kfieldO fo31_1 ?_ | with_reducible refine AtT.kfield2 fo31_1 ?_ | refine AtT.kfield fo31_1 ?_
  first | refine AtT.kloadO tk2 ?_ | refine AtT.kload tk2 ?_
  refine AtT.kgeq ?_
  refine AtT.setT (d := 5) rfl (by omega) ?_
  refine AtT.kmove ?_
  all_goals (first | refine AtT.kL 6 ?_ | refine AtT.pcase (d := 6) rfl (fun hg6 => ?_) (fun hg6 => ?_) | refine AtT.bcase (d := 6) rfl (fun hg6 => ?_) (fun hg6 => ?_))
  all_goals (first | refine AtT.kpass ?_ | refine AtT.kpassU ?_ | ((first | refine AtT.kfieldO fo31_1 ?_ | with_reducible refine AtT.kfield2 fo31_1 ?_ | refine AtT.kfield fo31_1 ?_)))
  all_goals (first | refine AtT.kpass ?_ | refine AtT.kpassU ?_ | ((first | refine AtT.kloadO tk2 ?_ | refine AtT.kload tk2 ?_)))
  all_goals (first | refine AtT.kpass ?_ | refine AtT.kpassU ?_ | ((refine AtT.kleq ?_)))
  all_goals (refine AtT.setT (d := 9) rfl (by omega) ?_)
  all_goals (refine AtT.kpick ?_)
  all_goals (refine AtT.kmove ?_)
  all_goals (first | refine AtT.kL 11 ?_ | refine AtT.pcase (d := 11) rfl (fun hg11 => ?_) (fun hg11 => ?_) | refine AtT.bcase (d := 11) rfl (fun hg11 => ?_) (fun hg11 => ?_))
  all_goals (first | refine AtT.kpass ?_ | refine AtT.kpassU ?_ | ((first | refine AtT.kfieldO fo31_0 ?_ | with_reducible refine AtT.kfield2 fo31_0 ?_ | refine AtT.kfield fo31_0 ?_)))
  all_goals (first | refine AtT.kpass ?_ | refine AtT.kpassU ?_ | ((first | refine AtT.kloadO tk2 ?_ | refine AtT.kload tk2 ?_)))
  all_goals (first | refine AtT.kpass ?_ | refine AtT.kpassU ?_ | ((first | refine AtT.kfieldO fo31_1 ?_ | with_reducible refine AtT.kfield2 fo31_1 ?_ | refine AtT.kfield fo31_1 ?_)))
  all_goals (first | refine AtT.kpass ?_ | refine AtT.kpassU ?_ | ((first | refine AtT.kloadO tk2 ?_ | refine AtT.kload tk2 ?_)))
  all_goals (first | refine AtT.kpass ?_ | refine AtT.kpassU ?_ | ((first | refine AtT.kmul ?_ | refine AtT.kmulW ?_)))
  all_goals (first | refine AtT.kpass ?_ | refine AtT.kpassU ?_ | ((refine AtT.kgeq ?_)))
  all_goals (refine AtT.setT (d := 17) rfl (by omega) ?_)
  all_goals (refine AtT.kpick ?_)
  all_goals (refine AtT.kmove ?_)
  all_goals (first | refine AtT.kL 19 ?_ | refine AtT.pcase (d := 19) rfl (fun hg19 => ?_) (fun hg19 => ?_) | refine AtT.bcase (d := 19) rfl (fun hg19 => ?_) (fun hg19 => ?_))
  all_goals (first | refine AtT.kpass ?_ | refine AtT.kpassU ?_ | ((first | refine AtT.kfieldO fo31_0 ?_ | with_reducible refine AtT.kfield2 fo31_0 ?_ | refine AtT.kfield fo31_0 ?_)))
  all_goals (first | refine AtT.kpass ?_ | refine AtT.kpassU ?_ | ((first | refine AtT.kloadO tk2 ?_ | refine AtT.kload tk2 ?_)))
  all_goals (first | refine AtT.kpass ?_ | refine AtT.kpassU ?_ | ((first | refine AtT.kfieldO fo31_1 ?_ | with_reducible refine AtT.kfield2 fo31_1 ?_ | refine AtT.kfield fo31_1 ?_)))
  all_goals (first | refine AtT.kpass ?_ | refine AtT.kpassU ?_ | ((first | refine AtT.kloadO tk2 ?_ | refine AtT.kload tk2 ?_)))
  all_goals (first | refine AtT.kpass ?_ | refine AtT.kpassU ?_ | ((first | refine AtT.kmul ?_ | refine AtT.kmulW ?_)))
  all_goals (first | refine AtT.kpass ?_ | refine AtT.kpassU ?_ | ((refine AtT.kleq ?_)))
  all_goals (refine AtT.setT (d := 25) rfl (by omega) ?_)
  all_goals (refine AtT.kpick ?_)
  all_goals (refine AtT.kmove ?_)
  all_goals (first | refine AtT.kL 27 ?_ | refine AtT.pcase (d := 27) rfl (fun hg27 => ?_) (fun hg27 => ?_) | refine AtT.bcase (d := 27) rfl (fun hg27 => ?_) (fun hg27 => ?_))
  all_goals (first | refine AtT.kpass ?_ | refine AtT.kpassU ?_ | ((first | refine AtT.kfieldO fo31_0 ?_ | with_reducible refine AtT.kfield2 fo31_0 ?_ | refine AtT.kfield fo31_0 ?_)))
  all_goals (first | refine AtT.kpass ?_ | refine AtT.kpassU ?_ | ((first | refine AtT.kloadO tk2 ?_ | refine AtT.kload tk2 ?_)))
  all_goals (first | refine AtT.kpass ?_ | refine AtT.kpassU ?_ | ((first | refine AtT.kfieldO fo31_1 ?_ | with_reducible refine AtT.kfield2 fo31_1 ?_ | refine AtT.kfield fo31_1 ?_)))
  all_goals (first | refine AtT.kpass ?_ | refine AtT.kpassU ?_ | ((first | refine AtT.kloadO tk2 ?_ | refine AtT.kload tk2 ?_)))
  all_goals (first | refine AtT.kpass ?_ | refine AtT.kpassU ?_ | ((first | refine AtT.kloadOA tk31 ?_ | refine AtT.kloadA tk31 ?_ | refine AtT.kloadOP tk31 ?_)))
  all_goals (first | refine AtT.kpassN ?_ | refine AtT.kpassNU ?_ | ((refine AtT.kcallP rfl rfl ok51 (by_r r.num r.den _ (by omega) (by omega) (by omega) (by omega)) ?_) ; (rintro _ rfl; rw [can_rat h.can])))
  all_goals (first | refine AtT.kpass ?_ | refine AtT.kpassU ?_ | ((refine AtT.keqS (eqS31 _ _ _ _) ?_)))
  all_goals (rw [eqR])
  all_goals (refine AtT.kpick ?_)
  all_goals (refine AtT.kassign ?_)
  all_goals refine AtT.done ?_
  all_goals (refine At.nrm ?_)
  exact At.ret1 rfl (.tmp rfl) rfl

theorem best42_f (L : Lg) (V : View) (v : Value) (hv : LogV V v L) (he : logE L = 0) : Fnc Try.prog 42 [v] V fun r _ => r = .tuple #[rtv (bestV L), .bool true] := by
  have hL := logE_ok he
  have hv' := hv
  have hbe : bestR L = (bestV L, 0) := by unfold bestR; rw [if_neg (by simp [he])]
  have hpe : proofR L = (firstP L, 0) := by unfold proofR; rw [if_neg (by simp [he])]
  obtain ⟨hp1, hp2⟩ := proofR_core he
  rw [hpe] at hp1
  obtain ⟨a, c, a', c', rfl, h2, h3⟩ := hv
  refine fn_of Try.func42 rfl Try.ntmps42 (Nat.le_of_ble_eq_true rfl) ?_
  intro w0 hw0
  refine At.nrm ?_
  refine At.ktext (.n false 0 (.n false 1 (.q 2 .done))) ?_
  refine AtT.kbox ?_
  intro b1
  refine AtT.kalloc z31 ?_
  intro b2
  refine AtT.kassign ?_
  refine AtT.done ?_
  refine At.nrm ?_
  refine At.ktext (.q 0 (.n false 1 (.q 2 (.q 3 (.q 4 (.n false 5 (.n true 6 (.q 7 .done)))))))) ?_
  first | refine AtT.kloadOA tk25 ?_ | refine AtT.kloadA tk25 ?_ | refine AtT.kloadOP tk25 ?_
  refine AtT.kcallP rfl rfl ok26 (best_p26 L _ _ hv') ?_
  rintro _ rfl; rw [hbe]
  refine AtT.kmove ?_
  refine AtT.kextract ?_
  refine AtT.kextract ?_
  refine AtT.kalloc z31 ?_
  intro b4
  refine AtT.kstoreA tk31 ?_
  refine AtT.kassign ?_
  refine AtT.done ?_
  refine At.nrm ?_
  refine At.ktext (.q 0 (.n false 1 (.q 2 (.q 3 (.q 4 (.n false 5 (.n true 6 (.q 7 .done)))))))) ?_
  first | refine AtT.kloadOA tk25 ?_ | refine AtT.kloadA tk25 ?_ | refine AtT.kloadOP tk25 ?_
  refine AtT.kcallP rfl rfl ok28 (line_p28 L _ _ hv') ?_
  rintro _ (⟨he', rfl⟩ | ⟨he', lx, rfl, hx1, hx2⟩); exact absurd he he'
  refine AtT.kmove ?_
  refine AtT.kextract ?_
  refine AtT.kextract ?_
  refine AtT.kalloc z27 ?_
  intro b6
  refine AtT.kstoreA tk27 ?_
  refine AtT.kassign ?_
  refine AtT.done ?_
  refine At.nrm ?_
  have hlx := cand_ok hL hx1
  have hcx : coreR L lx = (bestV L, 0) := by
    unfold coreR
    rw [if_neg (by simp [he]), if_neg (by simp [hlx.2]), hx2]
  refine At.ktext (.q 0 (.n false 1 (.q 2 (.q 3 (.q 4 (.n false 5 (.n true 6 (.q 7 .done)))))))) ?_
  first | refine AtT.kloadOA tk25 ?_ | refine AtT.kloadA tk25 ?_ | refine AtT.kloadOP tk25 ?_
  refine AtT.kcallP rfl rfl ok33 (proof_p33 L _ _ hv') ?_
  rintro _ rfl; rw [hpe]
  refine AtT.kmove ?_
  refine AtT.kextract ?_
  refine AtT.kextract ?_
  refine AtT.kalloc z45 ?_
  intro b8
  refine AtT.kstoreA tk45 ?_
  refine AtT.kassign ?_
  refine AtT.done ?_
  refine At.nrm ?_
  refine At.ktext (.q 0 (.q 1 (.q 2 (.q 3 (.q 4 (.q 5 (.q 6 (.q 7 (.q 8 (.q 9 (.q 10 (.q 11 (.n false 12 (.q 13 (.q 14 (.q 15 (.q 16 (.n false 17 (.q 18 (.q 19 .done)))))))))))))))))))) ?_
  refine AtT.kmove ?_
  refine AtT.kneI ?_
  refine AtT.kmove ?_
  all_goals (first | refine AtT.kL 30 ?_ | refine AtT.pcase (d := 30) rfl (fun hg30 => ?_) (fun hg30 => ?_) | refine AtT.bcase (d := 30) rfl (fun hg30 => ?_) (fun hg30 => ?_))
  all_goals (first | refine AtT.kpass ?_ | refine AtT.kpassU ?_ | ((refine AtT.kmove ?_)))
  all_goals (first | refine AtT.kpass ?_ | refine AtT.kpassU ?_ | ((refine AtT.kneI ?_)))
  all_goals (refine AtT.kpick ?_)
  all_goals (refine AtT.kmove ?_)
  all_goals (first | refine AtT.kL 34 ?_ | refine AtT.pcase (d := 34) rfl (fun hg34 => ?_) (fun hg34 => ?_) | refine AtT.bcase (d := 34) rfl (fun hg34 => ?_) (fun hg34 => ?_))
  all_goals (first | refine AtT.kpass ?_ | refine AtT.kpassU ?_ | ((refine AtT.kmove ?_)))
  all_goals (first | refine AtT.kpass ?_ | refine AtT.kpassU ?_ | ((refine AtT.kneI ?_)))
  all_goals (refine AtT.kpick ?_)
  all_goals (refine AtT.kmove ?_)
  all_goals (first | refine AtT.kL 38 ?_ | refine AtT.pcase (d := 38) rfl (fun hg38 => ?_) (fun hg38 => ?_) | refine AtT.bcase (d := 38) rfl (fun hg38 => ?_) (fun hg38 => ?_))
  all_goals (first | refine AtT.kpass ?_ | refine AtT.kpassU ?_ | ((first | refine AtT.kloadOA tk31 ?_ | refine AtT.kloadA tk31 ?_ | refine AtT.kloadOP tk31 ?_)))
  all_goals (first | refine AtT.kpassN ?_ | refine AtT.kpassNU ?_ | ((refine AtT.kcallP rfl rfl ok46 (small_f (bestV L) (best_sm hL) _) ?_) ; (rintro _ rfl)))
  all_goals (first | refine AtT.kpass ?_ | refine AtT.kpassU ?_ | ((refine AtT.knot ?_)))
  all_goals (refine AtT.kpick ?_)
  all_goals (refine AtT.kmove ?_)
  all_goals (first | refine AtT.kL 43 ?_ | refine AtT.pcase (d := 43) rfl (fun hg43 => ?_) (fun hg43 => ?_) | refine AtT.bcase (d := 43) rfl (fun hg43 => ?_) (fun hg43 => ?_))
  all_goals (first | refine AtT.kpass ?_ | refine AtT.kpassU ?_ | ((first | refine AtT.kloadOA tk27 ?_ | refine AtT.kloadA tk27 ?_ | refine AtT.kloadOP tk27 ?_)))
  all_goals (first | refine AtT.kpassN ?_ | refine AtT.kpassNU ?_ | ((refine AtT.kcallP rfl rfl ok25 (rcheckLine_f lx _) ?_) ; (rintro _ rfl; rw [hlx.2])))
  all_goals (first | refine AtT.kpass ?_ | refine AtT.kpassU ?_ | ((refine AtT.kneI ?_)))
  all_goals (refine AtT.kpick ?_)
  all_goals refine AtT.done ?_
  all_goals (refine At.nrm ?_)
  refine At.condF rfl rfl ?_
  refine At.nrm ?_
  refine At.ktext (.q 0 (.q 1 (.n false 2 (.q 3 (.q 4 (.q 5 (.n false 6 (.n true 7 (.q 8 .done))))))))) ?_
  first | refine AtT.kloadOA tk25 ?_ | refine AtT.kloadA tk25 ?_ | refine AtT.kloadOP tk25 ?_
  first | refine AtT.kloadOA tk27 ?_ | refine AtT.kloadA tk27 ?_ | refine AtT.kloadOP tk27 ?_
  refine AtT.kcallP rfl rfl ok20 (core_p L lx _ _ hv') ?_
  rintro _ rfl; rw [hcx]
  refine AtT.kmove ?_
  refine AtT.kextract ?_
  refine AtT.kextract ?_
  refine AtT.kalloc z31 ?_
  intro b10
  refine AtT.kstoreA tk31 ?_
  refine AtT.kassign ?_
  refine AtT.done ?_
  refine At.nrm ?_
  refine At.ktext (.q 0 (.q 1 (.n false 2 (.q 3 (.q 4 (.q 5 (.n false 6 (.n true 7 (.q 8 .done))))))))) ?_
  first | refine AtT.kloadOA tk25 ?_ | refine AtT.kloadA tk25 ?_ | refine AtT.kloadOP tk25 ?_
  first | refine AtT.kloadOA tk45 ?_ | refine AtT.kloadA tk45 ?_ | refine AtT.kloadOP tk45 ?_
  refine AtT.kcallP rfl rfl ok31 (check_p L (firstP L) _ _ hv') ?_
  rintro _ rfl; rw [hp1]
  refine AtT.kmove ?_
  refine AtT.kextract ?_
  refine AtT.kextract ?_
  refine AtT.kalloc z31 ?_
  intro b11
  refine AtT.kstoreA tk31 ?_
  refine AtT.kassign ?_
  refine AtT.done ?_
  refine At.nrm ?_
  refine At.ktext (.q 0 (.q 1 (.n false 2 (.q 3 (.q 4 (.q 5 (.n false 6 (.n true 7 (.q 8 .done))))))))) ?_
  first | refine AtT.kloadOA tk25 ?_ | refine AtT.kloadA tk25 ?_ | refine AtT.kloadOP tk25 ?_
  first | refine AtT.kloadOA tk45 ?_ | refine AtT.kloadA tk45 ?_ | refine AtT.kloadOP tk45 ?_
  refine AtT.kcallP rfl rfl ok32 (check_q L (firstP L) _ _ hv') ?_
  rintro _ rfl; rw [hp1]
  refine AtT.kmove ?_
  refine AtT.kextract ?_
  refine AtT.kextract ?_
  refine AtT.kalloc z31 ?_
  intro b12
  refine AtT.kstoreA tk31 ?_
  refine AtT.kassign ?_
  refine AtT.done ?_
  refine At.nrm ?_
  refine At.drawC [.blk b12 (LC (rte (bestV L)) 31), .blk b11 (LC (rte (bestV L)) 31), .blk b10 (LC (rte (bestV L)) 31), .blk b6 (LC [iv lx.den, iv lx.start, iv lx.step] 27), .blk b4 (LC (rte (bestV L)) 31), .blk b1 (LC [.slice a L.pl.length c, .slice a' L.ed.length c'] 25)] (.q 0 (.q 1 (.q 2 (.q 3 (.q 4 (.q 5 (.q 6 (.q 7 (.q 8 (.q 9 (.q 10 (.q 11 (.q 12 (.q 13 (.q 14 (.q 15 (.q 16 (.q 17 (.q 18 (.q 19 (.q 20 (.q 21 (.q 22 (.q 23 (.q 24 (.q 25 (.q 26 (.q 27 (.q 28 (.q 30 (.n false 29 (.q 31 (.q 32 (.n false 33 (.q 34 .done))))))))))))))))))))))))))))))))))) ffm (by kernel_rfl) Pt.auto ?_
  refine AtC.pre (fun hle0 => ?_)
  refine AtC.kq (by (first | refine AtT.kloadOA tk31 ?_ | refine AtT.kloadA tk31 ?_ | refine AtT.kloadOP tk31 ?_); exact At.knows) ?_
  refine AtC.kq (by (refine AtT.kmove ?_); exact At.knows) ?_
  refine AtC.kq (by (refine AtT.keqI ?_); exact At.knows) ?_
  refine AtC.kq (by (refine AtT.kmove ?_); exact At.knows) ?_
  all_goals (first | refine AtC.kL 70 ?_ | refine AtC.pcase (d := 70) rfl (fun hg70 => ?_) (fun hg70 => ?_) | refine AtC.bcase (d := 70) rfl (fun hg70 => ?_) (fun hg70 => ?_))
  all_goals (refine AtC.kq (by (first | refine AtT.kpass ?_ | refine AtT.kpassU ?_ | ((refine AtT.kmove ?_))); exact At.knows) ?_)
  all_goals (refine AtC.kq (by (first | refine AtT.kpass ?_ | refine AtT.kpassU ?_ | ((refine AtT.keqI ?_))); exact At.knows) ?_)
  all_goals (refine AtC.kq (by (refine AtT.kpick ?_); exact At.knows) ?_)
  all_goals (refine AtC.kq (by (refine AtT.kmove ?_); exact At.knows) ?_)
  all_goals (first | refine AtC.kL 74 ?_ | refine AtC.pcase (d := 74) rfl (fun hg74 => ?_) (fun hg74 => ?_) | refine AtC.bcase (d := 74) rfl (fun hg74 => ?_) (fun hg74 => ?_))
  all_goals (refine AtC.kq (by (first | refine AtT.kpass ?_ | refine AtT.kpassU ?_ | ((refine AtT.kmove ?_))); exact At.knows) ?_)
  all_goals (refine AtC.kq (by (first | refine AtT.kpass ?_ | refine AtT.kpassU ?_ | ((refine AtT.keqI ?_))); exact At.knows) ?_)
  all_goals (refine AtC.kq (by (refine AtT.kpick ?_); exact At.knows) ?_)
  all_goals (refine AtC.kq (by (refine AtT.kmove ?_); exact At.knows) ?_)
  all_goals (first | refine AtC.kL 78 ?_ | refine AtC.pcase (d := 78) rfl (fun hg78 => ?_) (fun hg78 => ?_) | refine AtC.bcase (d := 78) rfl (fun hg78 => ?_) (fun hg78 => ?_))
  all_goals (refine AtC.kq (by (first | refine AtT.kpass ?_ | refine AtT.kpassU ?_ | ((first | refine AtT.kloadOA tk31 ?_ | refine AtT.kloadA tk31 ?_ | refine AtT.kloadOP tk31 ?_))); exact At.knows) ?_)
  all_goals (refine AtC.kq (by (first | refine AtT.kpass ?_ | refine AtT.kpassU ?_ | ((first | refine AtT.kloadOA tk31 ?_ | refine AtT.kloadA tk31 ?_ | refine AtT.kloadOP tk31 ?_))); exact At.knows) ?_)
  all_goals (refine AtC.kq (by (first | refine AtT.kpass ?_ | refine AtT.kpassU ?_ | ((refine AtT.keqS (eqS31 _ _ _ _) ?_))); exact At.knows) ?_)
  all_goals (rw [eqR])
  all_goals (refine AtC.kq (by (refine AtT.kpick ?_); exact At.knows) ?_)
  all_goals (refine AtC.kq (by (refine AtT.kmove ?_); exact At.knows) ?_)
  all_goals (first | refine AtC.kL 83 ?_ | refine AtC.pcase (d := 83) rfl (fun hg83 => ?_) (fun hg83 => ?_) | refine AtC.bcase (d := 83) rfl (fun hg83 => ?_) (fun hg83 => ?_))
  all_goals (refine AtC.kq (by (first | refine AtT.kpass ?_ | refine AtT.kpassU ?_ | ((first | refine AtT.kloadOA tk31 ?_ | refine AtT.kloadA tk31 ?_ | refine AtT.kloadOP tk31 ?_))); exact At.knows) ?_)
  all_goals (refine AtC.kq (by (first | refine AtT.kpass ?_ | refine AtT.kpassU ?_ | ((first | refine AtT.kloadOA tk31 ?_ | refine AtT.kloadA tk31 ?_ | refine AtT.kloadOP tk31 ?_))); exact At.knows) ?_)
  all_goals (refine AtC.kq (by (first | refine AtT.kpass ?_ | refine AtT.kpassU ?_ | ((refine AtT.keqS (eqS31 _ _ _ _) ?_))); exact At.knows) ?_)
  all_goals (rw [eqR])
  all_goals (refine AtC.kq (by (refine AtT.kpick ?_); exact At.knows) ?_)
  all_goals (refine AtC.kq (by (refine AtT.kmove ?_); exact At.knows) ?_)
  all_goals (first | refine AtC.kL 88 ?_ | refine AtC.pcase (d := 88) rfl (fun hg88 => ?_) (fun hg88 => ?_) | refine AtC.bcase (d := 88) rfl (fun hg88 => ?_) (fun hg88 => ?_))
  all_goals (refine AtC.kq (by (first | refine AtT.kpass ?_ | refine AtT.kpassU ?_ | ((first | refine AtT.kloadOA tk31 ?_ | refine AtT.kloadA tk31 ?_ | refine AtT.kloadOP tk31 ?_))); exact At.knows) ?_)
  all_goals (refine AtC.kq (by (first | refine AtT.kpass ?_ | refine AtT.kpassU ?_ | ((first | refine AtT.kloadOA tk31 ?_ | refine AtT.kloadA tk31 ?_ | refine AtT.kloadOP tk31 ?_))); exact At.knows) ?_)
  all_goals (refine AtC.kq (by (first | refine AtT.kpass ?_ | refine AtT.kpassU ?_ | ((refine AtT.keqS (eqS31 _ _ _ _) ?_))); exact At.knows) ?_)
  all_goals (rw [eqR])
  all_goals (refine AtC.kq (by (refine AtT.kpick ?_); exact At.knows) ?_)
  all_goals (refine AtC.kq (by (refine AtT.kmove ?_); exact At.knows) ?_)
  all_goals (first | refine AtC.kL 93 ?_ | refine AtC.pcase (d := 93) rfl (fun hg93 => ?_) (fun hg93 => ?_) | refine AtC.bcase (d := 93) rfl (fun hg93 => ?_) (fun hg93 => ?_))
  all_goals (refine AtC.kq (by (first | refine AtT.kpass ?_ | refine AtT.kpassU ?_ | ((first | refine AtT.kloadOA tk25 ?_ | refine AtT.kloadA tk25 ?_ | refine AtT.kloadOP tk25 ?_))); exact At.knows) ?_)
  all_goals (refine AtC.kq (by (first | refine AtT.kpass ?_ | refine AtT.kpassU ?_ | ((first | refine AtT.kloadOA tk27 ?_ | refine AtT.kloadA tk27 ?_ | refine AtT.kloadOP tk27 ?_))); exact At.knows) ?_)
  all_goals (refine AtC.kq (by (first | refine AtT.kpass ?_ | refine AtT.kpassU ?_ | ((first | refine AtT.kloadOA tk31 ?_ | refine AtT.kloadA tk31 ?_ | refine AtT.kloadOP tk31 ?_))); exact At.knows) ?_)
  all_goals (refine AtC.nz ?_)
  all_goals (first | refine AtT.kpassN ?_ | refine AtT.kpassNU ?_ | ((refine AtT.kcallP rfl rfl ok50 (rcoreOf_f L lx _ _ hv' hL hlx.1) ?_) ; (rintro _ rfl; rw [hx2])))
  all_goals (refine AtC.kgo ?_)
  all_goals (refine AtC.kq (by (first | refine AtT.kpass ?_ | refine AtT.kpassU ?_ | ((refine AtT.keqS (eqS31 _ _ _ _) ?_))); exact At.knows) ?_)
  all_goals (rw [eqR])
  all_goals (refine AtC.kq (by (refine AtT.kpick ?_); exact At.knows) ?_)
  all_goals (refine AtC.nz ?_)
  all_goals (refine AtT.kstoreA tk31 ?_)
  all_goals (refine AtC.kgo ?_)
  all_goals (refine AtC.kq (by (refine AtT.kassign ?_); exact At.knows) ?_)
  all_goals refine AtC.done ?_
  all_goals (refine At.nrm ?_)
  exact At.ret2 rfl (.agg rfl tk31 Pick.auto rfl) (.tmp rfl) rfl

theorem lined_f (L : Lg) (one two : Int) (V : View) (v : Value) (hv : LogV V v L) (hL : LgOk L) (h1 : -32768 ≤ one ∧ one ≤ 32767) (h2 : -32768 ≤ two ∧ two ≤ 32767) :
    Fnc Try.prog 43 [v, .int .i16 one, .int .i16 two] V fun r _ => r = lnv (linedV L one two) := by
  obtain ⟨a, c, a', c', rfl, g2, g3⟩ := hv
  have n2 := hL.n2
  have n8 := hL.n8
  have t1 := tm_bd one
  have t2 := tm_bd two
  have e := ends_bd hL
  have m1 := mul_bd (a := tm one) (b := lastX L) (A := 2000) (B := 100) (by decide) (by decide) (by omega) (by omega) (by omega) (by omega)
  have m2 := mul_bd (a := tm two) (b := firstX L) (A := 2000) (B := 100) (by decide) (by decide) (by omega) (by omega) (by omega) (by omega)
  refine fn_of Try.func43 rfl Try.ntmps43 (Nat.le_of_ble_eq_true rfl) ?_
  intro w0 hw0
  refine At.nrm ?_
  refine At.ktext (.n false 0 (.n false 1 .done)) ?_
  refine AtT.kbox ?_
  intro b3
  refine AtT.kalloc z27 ?_
  intro b6
  refine AtT.done ?_
  refine At.nrm ?_
  refine At.draw (.q 0 (.q 1 (.q 2 (.q 3 (.q 4 (.q 5 (.q 6 (.q 7 (.q 8 (.q 9 (.q 10 (.q 11 (.q 12 (.q 13 (.q 14 (.q 15 (.q 16 (.q 17 (.q 18 (.q 19 (.q 20 (.q 21 .done)))))))))))))))))))))) ffm (by kernel_rfl) ?_
  refine AtT.kmove ?_
  refine AtT.kconv un57 Try.underlying2 ?_
  rw [wrap_fit (Fit.of (by omega) (by omega))]
  refine AtT.krem ?_
  refine AtT.kmove ?_
  refine AtT.kconv un57 Try.underlying2 ?_
  rw [wrap_fit (Fit.of (by omega) (by omega))]
  refine AtT.krem ?_
  first | refine AtT.kfieldO fo25_0 ?_ | with_reducible refine AtT.kfield2 fo25_0 ?_ | refine AtT.kfield fo25_0 ?_
  first | refine AtT.kloadO tk22 ?_ | refine AtT.kload tk22 ?_
  refine AtT.kidx Try.underlying22 tk2 ?_
  intro p19 e19 he19 hc19
  obtain rfl : e19 = firstX L := plP_some (i := 0) he19
  first | refine AtT.kloadO tk2 ?_ | refine AtT.kload tk2 ?_
  first | refine AtT.kfieldO fo25_0 ?_ | with_reducible refine AtT.kfield2 fo25_0 ?_ | refine AtT.kfield fo25_0 ?_
  first | refine AtT.kloadO tk22 ?_ | refine AtT.kload tk22 ?_
  first | refine AtT.kfieldO fo25_0 ?_ | with_reducible refine AtT.kfield2 fo25_0 ?_ | refine AtT.kfield fo25_0 ?_
  first | refine AtT.kloadO tk22 ?_ | refine AtT.kload tk22 ?_
  first | refine AtT.klenS Try.underlying22 ?_ | refine AtT.klenR Try.underlying22 ?_
  first | refine AtT.ksubt ?_ | refine AtT.ksubW ?_
  refine AtT.kidx Try.underlying22 tk2 ?_
  intro p27 e27 he27 hc27
  obtain rfl : e27 = lastX L := plP_some (i := ((L.pl.length - 1 : Nat) : Int)) (by rw [← he27]; congr 1; omega)
  first | refine AtT.kloadO tk2 ?_ | refine AtT.kload tk2 ?_
  refine AtT.kassign ?_
  refine AtT.kassign ?_
  refine AtT.kassign ?_
  refine AtT.kassign ?_
  refine AtT.done ?_
  refine At.nrm ?_
  refine At.re (d := 7) rfl (show iv (one.tmod 2001) = iv (tm one) from rfl) ?_
  refine At.re (d := 8) rfl (show iv (two.tmod 2001) = iv (tm two) from rfl) ?_
  refine At.ktext (.q 0 (.q 1 (.q 2 (.q 3 (.q 4 (.q 5 (.q 6 (.q 7 (.q 8 (.q 9 (.q 10 (.q 11 (.q 12 (.n false 13 (.n true 14 .done))))))))))))))) ?_
  refine AtT.kmove ?_
  refine AtT.kmove ?_
  first | refine AtT.ksubt ?_ | refine AtT.ksubW ?_
  refine AtT.kmove ?_
  refine AtT.kmove ?_
  first | refine AtT.kmul ?_ | refine AtT.kmulW ?_
  refine AtT.kmove ?_
  refine AtT.kmove ?_
  first | refine AtT.kmul ?_ | refine AtT.kmulW ?_
  first | refine AtT.ksubt ?_ | refine AtT.ksubW ?_
  refine AtT.kmove ?_
  refine AtT.kmove ?_
  first | refine AtT.ksubt ?_ | refine AtT.ksubW ?_
  refine AtT.kcallP rfl rfl ok47 (line47_f _ _ _ _) ?_
  rintro _ rfl
  refine AtT.kstoreA tk27 ?_
  refine AtT.done ?_
  refine At.nrm ?_
  exact At.ret1 rfl (.agg rfl tk27 Pick.auto rfl) rfl
end Go.Proofs.Ytnionkopmncopaa
set_option linter.unusedVariables false
namespace Go.Proofs.Ytnionkopmncopaa
open Go.Lw Go.Pl Go.RowKit

theorem less_not {a b : Rt} (ha : Go.Pl.Can a) (hb : Go.Pl.Can b) (h : b.q ≤ a.q) : lessB a b = false := by
  cases hl : lessB a b with
  | false => rfl
  | true => have := (lessB_q ha.pos hb.pos).1 hl; grind
theorem coreR_lined {L : Lg} (he : logE L = 0) (one two : Int) : coreR L (linedV L one two) = (coreOf L (linedV L one two), 0) := by
  unfold coreR
  rw [if_neg (by simp [he]), if_neg (by simp [(lined_ok (logE_ok he) one two).2.1])]
theorem check_cases {L : Lg} (he : logE L = 0) (p : Pf) : (checkR L p = (⟨0, 0⟩, 2)) ∨ (PfOk L p ∧ checkR L p = (provV L p, 0)) := by
  unfold checkR
  rw [if_neg (by simp [he])]
  cases h : shapedB L p with
  | false => rw [if_pos rfl]; exact .inl rfl
  | true => rw [if_neg (by simp)]; exact .inr ⟨(shapedB_iff L p).1 h, rfl⟩

theorem peelProved_f (L : Lg) (one two : Int) (f m l : Int) (ov : Bool) (V : View) (v : Value) (hv : LogV V v L) (h1 : -32768 ≤ one ∧ one ≤ 32767) (h2 : -32768 ≤ two ∧ two ≤ 32767) (hf : 0 ≤ f ∧ f ≤ 255) (hm : 0 ≤ m ∧ m ≤ 255) (hl' : 0 ≤ l ∧ l ≤ 255) :
    Fnc Try.prog 8 [v, .int .i16 one, .int .i16 two, .int .u8 f, .int .u8 m, .int .u8 l, .bool ov] V fun r _ => r = .bool true := by
  have hv' := hv
  obtain ⟨a, c, a', c', rfl, g2, g3⟩ := hv
  refine fn_of Try.func8 rfl Try.ntmps8 (Nat.le_of_ble_eq_true rfl) ?_
  intro w0 hw0
  refine At.nrm ?_
  refine At.ktext (.n false 0 (.q 1 .done)) ?_
  refine AtT.kbox ?_
  intro b7
  refine AtT.kassign ?_
  refine AtT.done ?_
  refine At.nrm ?_
  refine At.ktext (.q 0 (.n false 1 (.q 2 .done))) ?_
  first | refine AtT.kloadOA tk25 ?_ | refine AtT.kloadA tk25 ?_ | refine AtT.kloadOP tk25 ?_
  refine AtT.kcallP rfl rfl ok41 (fine_f L _ _ hv') ?_
  rintro _ rfl
  refine AtT.knot ?_
  refine AtT.done ?_
  refine At.nrm ?_
  by_cases he : logE L = 0
  rotate_left
  · refine At.condT rfl (by rw [decide_eq_false he]; rfl) ?_
    refine At.nrm ?_
    refine At.ktext (.n false 0 (.q 1 .done)) ?_
    refine AtT.kcallP rfl rfl ok19 (works_f _) ?_
    rintro _ rfl
    refine AtT.kassign ?_
    refine AtT.done ?_
    refine At.nrm ?_
    exact At.ret1 rfl (.tmp rfl) rfl
  refine At.condF rfl (by rw [decide_eq_true he]; rfl) ?_
  have hL := logE_ok he
  have n2 := hL.n2
  have n8 := hL.n8
  have hlc := lined_core hL one two
  have hls := lined_sm hL one two
  have hlp := hls.can.pos
  have hbs := best_sm hL
  have hcb := core_le_best hL (lined_ok hL one two).1.d0
  refine At.nrm ?_
  refine At.ktext (.q 0 (.n false 1 (.q 2 (.q 3 (.q 4 (.n false 5 (.n true 6 (.q 7 .done)))))))) ?_
  first | refine AtT.kloadOA tk25 ?_ | refine AtT.kloadA tk25 ?_ | refine AtT.kloadOP tk25 ?_
  refine AtT.kcallP rfl rfl ok42 (best42_f L _ _ hv' he) ?_
  rintro _ rfl
  refine AtT.kmove ?_
  refine AtT.kextract ?_
  refine AtT.kextract ?_
  refine AtT.kalloc z31 ?_
  intro b15
  refine AtT.kstoreA tk31 ?_
  refine AtT.kassign ?_
  refine AtT.done ?_
  refine At.nrm ?_
  apply At.draw1 (.q 0 (.q 1 (.q 2 (.q 3 (.two 4 (.two 5 (.q 6 (.q 7 (.q 8 (.n false 9 (.n false 10 (.q 11 .done)))))) 9 (.n false 5 (.q 6 (.q 7 (.q 8 (.n false 10 (.q 11 .done))))))) 9 (.n false 4 (.n false 5 (.q 6 (.q 7 (.q 8 (.n false 10 (.q 11 .done)))))))))))) ffm (by kernel_rfl)
  · refine AtC.start ?_
    refine AtC.pre (fun hle0 => ?_)
    refine AtC.kq (by (first | refine AtT.kloadOA tk25 ?_ | refine AtT.kloadA tk25 ?_ | refine AtT.kloadOP tk25 ?_); exact At.knows) ?_
    refine AtC.kq (by (first | refine AtT.kloadOA tk25 ?_ | refine AtT.kloadA tk25 ?_ | refine AtT.kloadOP tk25 ?_); exact At.knows) ?_
    refine AtC.kq (by (refine AtT.kmove ?_); exact At.knows) ?_
    refine AtC.kq (by (refine AtT.kmove ?_); exact At.knows) ?_
    refine AtC.two ?_ ?_
    focus
      refine AtC.nz ?_
      refine AtT.kcallP rfl rfl ok43 (lined_f L one two _ _ hv' hL h1 h2) ?_
      rintro _ rfl
      refine AtC.kgo ?_
      refine AtC.two ?_ ?_
      focus
        refine AtC.nz ?_
        refine AtT.kcallP rfl rfl ok20 (core_p L (linedV L one two) _ _ hv') ?_
        rintro _ rfl; rw [coreR_lined he]
        refine AtC.kgo ?_
        refine AtC.kq (by (refine AtT.kmove ?_); exact At.knows) ?_
        refine AtC.kq (by (refine AtT.kextract ?_); exact At.knows) ?_
        refine AtC.kq (by (refine AtT.kextract ?_); exact At.knows) ?_
        refine AtC.nz ?_
        refine AtT.kalloc z31 ?_
        intro b17
        refine AtC.kgo ?_
        refine AtC.nz ?_
        refine AtT.kstoreA tk31 ?_
        refine AtC.kgo ?_
        refine AtC.kq (by (refine AtT.kassign ?_); exact At.knows) ?_
        exact AtC.done (fun a w hk hm => ⟨b17, hk, hm⟩)
      focus
        refine AtC.nz ?_
        refine AtT.kalloc z31 ?_
        intro b17
        refine AtC.kgo ?_
        refine AtC.nz ?_
        refine AtT.kcallP rfl rfl ok20 (core_p L (linedV L one two) _ _ hv') ?_
        rintro _ rfl; rw [coreR_lined he]
        refine AtC.kgo ?_
        refine AtC.kq (by (refine AtT.kmove ?_); exact At.knows) ?_
        refine AtC.kq (by (refine AtT.kextract ?_); exact At.knows) ?_
        refine AtC.kq (by (refine AtT.kextract ?_); exact At.knows) ?_
        refine AtC.nz ?_
        refine AtT.kstoreA tk31 ?_
        refine AtC.kgo ?_
        refine AtC.kq (by (refine AtT.kassign ?_); exact At.knows) ?_
        exact AtC.done (At.mid1 b17)
    focus
      refine AtC.nz ?_
      refine AtT.kalloc z31 ?_
      intro b17
      refine AtC.kgo ?_
      refine AtC.nz ?_
      refine AtT.kcallP rfl rfl ok43 (lined_f L one two _ _ hv' hL h1 h2) ?_
      rintro _ rfl
      refine AtC.kgo ?_
      refine AtC.nz ?_
      refine AtT.kcallP rfl rfl ok20 (core_p L (linedV L one two) _ _ hv') ?_
      rintro _ rfl; rw [coreR_lined he]
      refine AtC.kgo ?_
      refine AtC.kq (by (refine AtT.kmove ?_); exact At.knows) ?_
      refine AtC.kq (by (refine AtT.kextract ?_); exact At.knows) ?_
      refine AtC.kq (by (refine AtT.kextract ?_); exact At.knows) ?_
      refine AtC.nz ?_
      refine AtT.kstoreA tk31 ?_
      refine AtC.kgo ?_
      refine AtC.kq (by (refine AtT.kassign ?_); exact At.knows) ?_
      exact AtC.done (At.mid1 b17)
  intro b17
  refine At.nrm ?_
  refine At.ktext (.q 0 (.q 1 (.q 2 (.q 3 .done)))) ?_
  first | refine AtT.kfieldO fo25_0 ?_ | with_reducible refine AtT.kfield2 fo25_0 ?_ | refine AtT.kfield fo25_0 ?_
  first | refine AtT.kloadO tk22 ?_ | refine AtT.kload tk22 ?_
  first | refine AtT.klenS Try.underlying22 ?_ | refine AtT.klenR Try.underlying22 ?_
  refine AtT.kassign ?_
  refine AtT.done ?_
  refine At.nrm ?_
  apply At.draw1 (.q 0 (.q 1 (.q 2 (.q 3 (.q 4 (.q 5 (.q 6 (.q 7 (.q 8 (.q 9 (.q 10 (.q 11 (.two 12 (.n false 13 (.n true 14 .done)) 13 (.n false 12 (.n true 14 .done))))))))))))))) ffm (by kernel_rfl)
  · refine AtT.kmove ?_
    refine AtT.kconv un5 Try.underlying3 ?_
    rw [wrap_fit (Fit.of (by omega) (by omega))]
    refine AtT.kmove ?_
    refine AtT.krem ?_
    refine AtT.kmove ?_
    refine AtT.kconv un5 Try.underlying3 ?_
    rw [wrap_fit (Fit.of (by omega) (by omega))]
    refine AtT.kmove ?_
    refine AtT.krem ?_
    refine AtT.kmove ?_
    refine AtT.kconv un5 Try.underlying3 ?_
    rw [wrap_fit (Fit.of (by omega) (by omega))]
    refine AtT.kmove ?_
    refine AtT.krem ?_
    refine AtT.two ?_ ?_
    focus
      refine AtT.kcallP rfl rfl ok44 (proof44_f _ _ _ _ _) ?_
      rintro _ rfl
      refine AtT.kalloc z45 ?_
      intro b20
      refine AtT.kstoreA tk45 ?_
      exact AtT.done (fun a w hk hm => ⟨b20, hk, hm⟩)
    focus
      refine AtT.kalloc z45 ?_
      intro b20
      refine AtT.kcallP rfl rfl ok44 (proof44_f _ _ _ _ _) ?_
      rintro _ rfl
      refine AtT.kstoreA tk45 ?_
      exact AtT.done (At.mid1 b20)
  intro b20
  refine At.nrm ?_
  refine At.ktext (.q 0 .done) ?_
  refine AtT.kmove ?_
  refine AtT.done ?_
  refine At.nrm ?_
  refine At.cutG (ι := Pf) (fun _ => [(7, .pointer (some ⟨b7, 0, none⟩)), (15, .pointer (some ⟨b15, 0, none⟩)), (16, .bool true), (17, .pointer (some ⟨b17, 0, none⟩)), (18, iv 0), (20, .pointer (some ⟨b20, 0, none⟩))])
    (fun P => [.blk b7 (LC [.slice a L.pl.length c, .slice a' L.ed.length c'] 25), .blk b15 (LC (rte (bestV L)) 31), .blk b17 (LC (rte (coreOf L (linedV L one two))) 31), .blk b20 (LC (pfe P) 45)]) (fun _ V' => V = V') ?_ ?_
  · refine At.cond rfl (fun hb => ?_) (fun hb => ?_)
    · refine At.nrm ?_
      refine At.ktext (.q 0 (.n true 1 .done)) ?_
      first | refine AtT.kfieldO fo45_3 ?_ | with_reducible refine AtT.kfield2 fo45_3 ?_ | refine AtT.kfield fo45_3 ?_
      first | refine AtT.kstore1 tk3 ?_ | refine AtT.kstoreA tk3 ?_
      refine AtT.done ?_
      refine At.nrm ?_
      refine At.meetG ⟨f.tmod L.pl.length, m.tmod L.pl.length, l.tmod L.pl.length, 2⟩ rfl ⟨rfl, rfl, rfl, rfl, rfl, rfl, trivial⟩ ?_
      · exact Pt.auto
    · refine At.nrm ?_
      refine At.meetG ⟨f.tmod L.pl.length, m.tmod L.pl.length, l.tmod L.pl.length, 1⟩ rfl ⟨rfl, rfl, rfl, rfl, rfl, rfl, trivial⟩ ?_
      · exact Pt.auto
  rintro P0 V' ks' O' rfl hk hO hl0
  subst hk hO
  refine At.nrm ?_
  refine At.ktext (.q 0 (.q 1 (.q 2 (.q 3 (.q 4 .done))))) ?_
  first | refine AtT.kfieldO fo45_0 ?_ | with_reducible refine AtT.kfield2 fo45_0 ?_ | refine AtT.kfield fo45_0 ?_
  first | refine AtT.kloadO tk3 ?_ | refine AtT.kload tk3 ?_
  first | refine AtT.kfieldO fo45_2 ?_ | with_reducible refine AtT.kfield2 fo45_2 ?_ | refine AtT.kfield fo45_2 ?_
  first | refine AtT.kloadO tk3 ?_ | refine AtT.kload tk3 ?_
  refine AtT.keqI ?_
  refine AtT.done ?_
  refine At.nrm ?_
  refine At.cutG (ι := Pf) (fun _ => [(7, .pointer (some ⟨b7, 0, none⟩)), (15, .pointer (some ⟨b15, 0, none⟩)), (16, .bool true), (17, .pointer (some ⟨b17, 0, none⟩)), (18, iv 0), (20, .pointer (some ⟨b20, 0, none⟩))])
    (fun P => [.blk b7 (LC [.slice a L.pl.length c, .slice a' L.ed.length c'] 25), .blk b15 (LC (rte (bestV L)) 31), .blk b17 (LC (rte (coreOf L (linedV L one two))) 31), .blk b20 (LC (pfe P) 45)]) (fun _ V' => V = V') ?_ ?_
  · refine At.cond rfl (fun hb => ?_) (fun hb => ?_)
    · refine At.nrm ?_
      refine At.ktext (.q 0 (.q 1 (.q 2 (.n true 3 (.q 4 (.n true 5 .done)))))) ?_
      first | refine AtT.kfieldO fo45_0 ?_ | with_reducible refine AtT.kfield2 fo45_0 ?_ | refine AtT.kfield fo45_0 ?_
      first | refine AtT.kloadO tk3 ?_ | refine AtT.kload tk3 ?_
      first | refine AtT.kfieldO fo45_1 ?_ | with_reducible refine AtT.kfield2 fo45_1 ?_ | refine AtT.kfield fo45_1 ?_
      first | refine AtT.kstore1 tk3 ?_ | refine AtT.kstoreA tk3 ?_
      first | refine AtT.kfieldO fo45_3 ?_ | with_reducible refine AtT.kfield2 fo45_3 ?_ | refine AtT.kfield fo45_3 ?_
      first | refine AtT.kstore1 tk3 ?_ | refine AtT.kstoreA tk3 ?_
      refine AtT.done ?_
      refine At.nrm ?_
      refine At.meetG ⟨P0.f, P0.f, P0.l, 0⟩ rfl ⟨rfl, rfl, rfl, rfl, rfl, rfl, trivial⟩ ?_
      · exact Pt.auto
    · refine At.nrm ?_
      refine At.meetG P0 rfl ⟨rfl, rfl, rfl, rfl, rfl, rfl, trivial⟩ ?_
      · exact Pt.auto
  rintro P V' ks' O' rfl hk hO hl0'
  subst hk hO
  refine At.nrm ?_
  rcases check_cases he P with hch | ⟨hP, hch⟩
  · refine At.ktext (.q 0 (.q 1 (.n false 2 (.q 3 (.q 4 (.q 5 (.n false 6 (.n true 7 (.q 8 .done))))))))) ?_
    first | refine AtT.kloadOA tk25 ?_ | refine AtT.kloadA tk25 ?_ | refine AtT.kloadOP tk25 ?_
    first | refine AtT.kloadOA tk45 ?_ | refine AtT.kloadA tk45 ?_ | refine AtT.kloadOP tk45 ?_
    refine AtT.kcallP rfl rfl ok31 (check_p L P _ _ hv') ?_
    rintro _ rfl; rw [hch]
    refine AtT.kmove ?_
    refine AtT.kextract ?_
    refine AtT.kextract ?_
    refine AtT.kalloc z31 ?_
    intro b21
    refine AtT.kstoreA tk31 ?_
    refine AtT.kassign ?_
    refine AtT.done ?_
    refine At.nrm ?_
    refine At.ktext (.q 0 (.q 1 (.q 2 (.q 3 (.q 4 (.q 5 (.q 6 (.q 7 (.q 8 (.q 9 (.q 10 (.q 11 (.q 12 (.q 13 (.q 14 (.q 15 (.q 16 (.q 17 (.q 18 (.q 19 (.q 20 (.q 21 (.q 22 (.q 23 (.q 24 (.q 25 (.q 26 (.q 27 (.q 28 (.q 29 (.q 30 (.q 31 (.q 32 (.q 33 (.q 34 (.n false 35 (.q 36 .done))))))))))))))))))))))))))))))))))))) ?_
    refine AtT.kmove ?_
    refine AtT.knot ?_
    refine AtT.kmove ?_
    all_goals (first | refine AtT.kL 76 ?_ | refine AtT.pcase (d := 76) rfl (fun hg76 => ?_) (fun hg76 => ?_) | refine AtT.bcase (d := 76) rfl (fun hg76 => ?_) (fun hg76 => ?_))
    all_goals (first | refine AtT.kpass ?_ | refine AtT.kpassU ?_ | ((refine AtT.kmove ?_)))
    all_goals (first | refine AtT.kpass ?_ | refine AtT.kpassU ?_ | ((refine AtT.kneI ?_)))
    all_goals (refine AtT.kpick ?_)
    all_goals (refine AtT.kmove ?_)
    all_goals (first | refine AtT.kL 80 ?_ | refine AtT.pcase (d := 80) rfl (fun hg80 => ?_) (fun hg80 => ?_) | refine AtT.bcase (d := 80) rfl (fun hg80 => ?_) (fun hg80 => ?_))
    all_goals (first | refine AtT.kpass ?_ | refine AtT.kpassU ?_ | ((first | refine AtT.kfieldO fo31_1 ?_ | with_reducible refine AtT.kfield2 fo31_1 ?_ | refine AtT.kfield fo31_1 ?_)))
    all_goals (first | refine AtT.kpass ?_ | refine AtT.kpassU ?_ | ((first | refine AtT.kloadO tk2 ?_ | refine AtT.kload tk2 ?_)))
    all_goals (first | refine AtT.kpass ?_ | refine AtT.kpassU ?_ | ((refine AtT.klss ?_)))
    all_goals (refine AtT.setF (d := 83) rfl (by omega) ?_)
    all_goals (refine AtT.kpick ?_)
    all_goals (refine AtT.kmove ?_)
    all_goals (first | refine AtT.kL 85 ?_ | refine AtT.pcase (d := 85) rfl (fun hg85 => ?_) (fun hg85 => ?_) | refine AtT.bcase (d := 85) rfl (fun hg85 => ?_) (fun hg85 => ?_))
    all_goals (first | refine AtT.kpass ?_ | refine AtT.kpassU ?_ | ((first | refine AtT.kfieldO fo31_1 ?_ | with_reducible refine AtT.kfield2 fo31_1 ?_ | refine AtT.kfield fo31_1 ?_)))
    all_goals (first | refine AtT.kpass ?_ | refine AtT.kpassU ?_ | ((first | refine AtT.kloadO tk2 ?_ | refine AtT.kload tk2 ?_)))
    all_goals (first | refine AtT.kpass ?_ | refine AtT.kpassU ?_ | ((refine AtT.kgtr ?_)))
    all_goals (refine AtT.setF (d := 88) rfl (by omega) ?_)
    all_goals (refine AtT.kpick ?_)
    all_goals (refine AtT.kmove ?_)
    all_goals (first | refine AtT.kL 90 ?_ | refine AtT.pcase (d := 90) rfl (fun hg90 => ?_) (fun hg90 => ?_) | refine AtT.bcase (d := 90) rfl (fun hg90 => ?_) (fun hg90 => ?_))
    all_goals (first | refine AtT.kpass ?_ | refine AtT.kpassU ?_ | ((first | refine AtT.kfieldO fo31_0 ?_ | with_reducible refine AtT.kfield2 fo31_0 ?_ | refine AtT.kfield fo31_0 ?_)))
    all_goals (first | refine AtT.kpass ?_ | refine AtT.kpassU ?_ | ((first | refine AtT.kloadO tk2 ?_ | refine AtT.kload tk2 ?_)))
    all_goals (first | refine AtT.kpass ?_ | refine AtT.kpassU ?_ | ((first | refine AtT.kfieldO fo31_1 ?_ | with_reducible refine AtT.kfield2 fo31_1 ?_ | refine AtT.kfield fo31_1 ?_)))
    all_goals (first | refine AtT.kpass ?_ | refine AtT.kpassU ?_ | ((first | refine AtT.kloadO tk2 ?_ | refine AtT.kload tk2 ?_)))
    all_goals (first | refine AtT.kpass ?_ | refine AtT.kpassU ?_ | ((first | refine AtT.kmul ?_ | refine AtT.kmulW ?_)))
    all_goals (first | refine AtT.kpass ?_ | refine AtT.kpassU ?_ | ((refine AtT.klss ?_)))
    all_goals (refine AtT.setF (d := 96) rfl (by omega) ?_)
    all_goals (refine AtT.kpick ?_)
    all_goals (refine AtT.kmove ?_)
    all_goals (first | refine AtT.kL 98 ?_ | refine AtT.pcase (d := 98) rfl (fun hg98 => ?_) (fun hg98 => ?_) | refine AtT.bcase (d := 98) rfl (fun hg98 => ?_) (fun hg98 => ?_))
    all_goals (first | refine AtT.kpass ?_ | refine AtT.kpassU ?_ | ((first | refine AtT.kfieldO fo31_0 ?_ | with_reducible refine AtT.kfield2 fo31_0 ?_ | refine AtT.kfield fo31_0 ?_)))
    all_goals (first | refine AtT.kpass ?_ | refine AtT.kpassU ?_ | ((first | refine AtT.kloadO tk2 ?_ | refine AtT.kload tk2 ?_)))
    all_goals (first | refine AtT.kpass ?_ | refine AtT.kpassU ?_ | ((first | refine AtT.kfieldO fo31_1 ?_ | with_reducible refine AtT.kfield2 fo31_1 ?_ | refine AtT.kfield fo31_1 ?_)))
    all_goals (first | refine AtT.kpass ?_ | refine AtT.kpassU ?_ | ((first | refine AtT.kloadO tk2 ?_ | refine AtT.kload tk2 ?_)))
    all_goals (first | refine AtT.kpass ?_ | refine AtT.kpassU ?_ | ((first | refine AtT.kmul ?_ | refine AtT.kmulW ?_)))
    all_goals (first | refine AtT.kpass ?_ | refine AtT.kpassU ?_ | ((refine AtT.kgtr ?_)))
    all_goals (refine AtT.setF (d := 104) rfl (by omega) ?_)
    all_goals (refine AtT.kpick ?_)
    all_goals (refine AtT.kmove ?_)
    all_goals (first | refine AtT.kL 106 ?_ | refine AtT.pcase (d := 106) rfl (fun hg106 => ?_) (fun hg106 => ?_) | refine AtT.bcase (d := 106) rfl (fun hg106 => ?_) (fun hg106 => ?_))
    all_goals (first | refine AtT.kpass ?_ | refine AtT.kpassU ?_ | ((first | refine AtT.kloadOA tk31 ?_ | refine AtT.kloadA tk31 ?_ | refine AtT.kloadOP tk31 ?_)))
    all_goals (first | refine AtT.kpass ?_ | refine AtT.kpassU ?_ | ((first | refine AtT.kloadOA tk31 ?_ | refine AtT.kloadA tk31 ?_ | refine AtT.kloadOP tk31 ?_)))
    all_goals (first | refine AtT.kpassN ?_ | refine AtT.kpassNU ?_ | ((refine AtT.kcallP rfl rfl ok45 (rless_f (bestV L) (coreOf L (linedV L one two)) _ (sm_fit hbs hls) (sm_fit hls hbs)) ?_) ; (rintro _ rfl)))
    all_goals (refine AtT.setB (d := 109) rfl (less_not hbs.can hls.can hcb) ?_)
    all_goals (refine AtT.kpick ?_)
    all_goals refine AtT.done ?_
    all_goals (refine At.nrm ?_)
    refine At.condF rfl rfl ?_
    refine At.nrm ?_
    refine At.ktext (.q 0 (.q 1 .done)) ?_
    refine AtT.kmove ?_
    refine AtT.kneI ?_
    refine AtT.done ?_
    refine At.nrm ?_
    refine At.condT rfl rfl ?_
    refine At.nrm ?_
    refine At.ktext (.q 0 (.q 1 (.q 2 (.n false 3 (.q 4 (.q 5 .done)))))) ?_
    refine AtT.kmove ?_
    refine AtT.keqI ?_
    refine AtT.kmove ?_
    all_goals (first | refine AtT.kL 115 ?_ | refine AtT.pcase (d := 115) rfl (fun hg115 => ?_) (fun hg115 => ?_) | refine AtT.bcase (d := 115) rfl (fun hg115 => ?_) (fun hg115 => ?_))
    all_goals (first | refine AtT.kpassN ?_ | refine AtT.kpassNU ?_ | ((refine AtT.kcallP rfl rfl ok19 (works_f _) ?_) ; (rintro _ rfl)))
    all_goals (refine AtT.kpick ?_)
    all_goals (refine AtT.kassign ?_)
    all_goals refine AtT.done ?_
    all_goals (refine At.nrm ?_)
    exact At.ret1 rfl (.tmp rfl) rfl
  · have hps := prov_sm hL hP
    have hpb := best_prov hL hP
    have hpc : (coreOf L (linedV L one two)).q ≤ (provV L P).q := Rat.le_trans hcb hpb
    refine At.ktext (.q 0 (.q 1 (.n false 2 (.q 3 (.q 4 (.q 5 (.n false 6 (.n true 7 (.q 8 .done))))))))) ?_
    first | refine AtT.kloadOA tk25 ?_ | refine AtT.kloadA tk25 ?_ | refine AtT.kloadOP tk25 ?_
    first | refine AtT.kloadOA tk45 ?_ | refine AtT.kloadA tk45 ?_ | refine AtT.kloadOP tk45 ?_
    refine AtT.kcallP rfl rfl ok31 (check_p L P _ _ hv') ?_
    rintro _ rfl; rw [hch]
    refine AtT.kmove ?_
    refine AtT.kextract ?_
    refine AtT.kextract ?_
    refine AtT.kalloc z31 ?_
    intro b21
    refine AtT.kstoreA tk31 ?_
    refine AtT.kassign ?_
    refine AtT.done ?_
    refine At.nrm ?_
    refine At.ktext (.q 0 (.q 1 (.q 2 (.q 3 (.q 4 (.q 5 (.q 6 (.q 7 (.q 8 (.q 9 (.q 10 (.q 11 (.q 12 (.q 13 (.q 14 (.q 15 (.q 16 (.q 17 (.q 18 (.q 19 (.q 20 (.q 21 (.q 22 (.q 23 (.q 24 (.q 25 (.q 26 (.q 27 (.q 28 (.q 29 (.q 30 (.q 31 (.q 32 (.q 33 (.q 34 (.n false 35 (.q 36 .done))))))))))))))))))))))))))))))))))))) ?_
    refine AtT.kmove ?_
    refine AtT.knot ?_
    refine AtT.kmove ?_
    all_goals (first | refine AtT.kL 76 ?_ | refine AtT.pcase (d := 76) rfl (fun hg76 => ?_) (fun hg76 => ?_) | refine AtT.bcase (d := 76) rfl (fun hg76 => ?_) (fun hg76 => ?_))
    all_goals (first | refine AtT.kpass ?_ | refine AtT.kpassU ?_ | ((refine AtT.kmove ?_)))
    all_goals (first | refine AtT.kpass ?_ | refine AtT.kpassU ?_ | ((refine AtT.kneI ?_)))
    all_goals (refine AtT.kpick ?_)
    all_goals (refine AtT.kmove ?_)
    all_goals (first | refine AtT.kL 80 ?_ | refine AtT.pcase (d := 80) rfl (fun hg80 => ?_) (fun hg80 => ?_) | refine AtT.bcase (d := 80) rfl (fun hg80 => ?_) (fun hg80 => ?_))
    all_goals (first | refine AtT.kpass ?_ | refine AtT.kpassU ?_ | ((first | refine AtT.kfieldO fo31_1 ?_ | with_reducible refine AtT.kfield2 fo31_1 ?_ | refine AtT.kfield fo31_1 ?_)))
    all_goals (first | refine AtT.kpass ?_ | refine AtT.kpassU ?_ | ((first | refine AtT.kloadO tk2 ?_ | refine AtT.kload tk2 ?_)))
    all_goals (first | refine AtT.kpass ?_ | refine AtT.kpassU ?_ | ((refine AtT.klss ?_)))
    all_goals (refine AtT.setF (d := 83) rfl (by omega) ?_)
    all_goals (refine AtT.kpick ?_)
    all_goals (refine AtT.kmove ?_)
    all_goals (first | refine AtT.kL 85 ?_ | refine AtT.pcase (d := 85) rfl (fun hg85 => ?_) (fun hg85 => ?_) | refine AtT.bcase (d := 85) rfl (fun hg85 => ?_) (fun hg85 => ?_))
    all_goals (first | refine AtT.kpass ?_ | refine AtT.kpassU ?_ | ((first | refine AtT.kfieldO fo31_1 ?_ | with_reducible refine AtT.kfield2 fo31_1 ?_ | refine AtT.kfield fo31_1 ?_)))
    all_goals (first | refine AtT.kpass ?_ | refine AtT.kpassU ?_ | ((first | refine AtT.kloadO tk2 ?_ | refine AtT.kload tk2 ?_)))
    all_goals (first | refine AtT.kpass ?_ | refine AtT.kpassU ?_ | ((refine AtT.kgtr ?_)))
    all_goals (refine AtT.setF (d := 88) rfl (by omega) ?_)
    all_goals (refine AtT.kpick ?_)
    all_goals (refine AtT.kmove ?_)
    all_goals (first | refine AtT.kL 90 ?_ | refine AtT.pcase (d := 90) rfl (fun hg90 => ?_) (fun hg90 => ?_) | refine AtT.bcase (d := 90) rfl (fun hg90 => ?_) (fun hg90 => ?_))
    all_goals (first | refine AtT.kpass ?_ | refine AtT.kpassU ?_ | ((first | refine AtT.kfieldO fo31_0 ?_ | with_reducible refine AtT.kfield2 fo31_0 ?_ | refine AtT.kfield fo31_0 ?_)))
    all_goals (first | refine AtT.kpass ?_ | refine AtT.kpassU ?_ | ((first | refine AtT.kloadO tk2 ?_ | refine AtT.kload tk2 ?_)))
    all_goals (first | refine AtT.kpass ?_ | refine AtT.kpassU ?_ | ((first | refine AtT.kfieldO fo31_1 ?_ | with_reducible refine AtT.kfield2 fo31_1 ?_ | refine AtT.kfield fo31_1 ?_)))
    all_goals (first | refine AtT.kpass ?_ | refine AtT.kpassU ?_ | ((first | refine AtT.kloadO tk2 ?_ | refine AtT.kload tk2 ?_)))
    all_goals (first | refine AtT.kpass ?_ | refine AtT.kpassU ?_ | ((first | refine AtT.kmul ?_ | refine AtT.kmulW ?_)))
    all_goals (first | refine AtT.kpass ?_ | refine AtT.kpassU ?_ | ((refine AtT.klss ?_)))
    all_goals (refine AtT.setF (d := 96) rfl (by omega) ?_)
    all_goals (refine AtT.kpick ?_)
    all_goals (refine AtT.kmove ?_)
    all_goals (first | refine AtT.kL 98 ?_ | refine AtT.pcase (d := 98) rfl (fun hg98 => ?_) (fun hg98 => ?_) | refine AtT.bcase (d := 98) rfl (fun hg98 => ?_) (fun hg98 => ?_))
    all_goals (first | refine AtT.kpass ?_ | refine AtT.kpassU ?_ | ((first | refine AtT.kfieldO fo31_0 ?_ | with_reducible refine AtT.kfield2 fo31_0 ?_ | refine AtT.kfield fo31_0 ?_)))
    all_goals (first | refine AtT.kpass ?_ | refine AtT.kpassU ?_ | ((first | refine AtT.kloadO tk2 ?_ | refine AtT.kload tk2 ?_)))
    all_goals (first | refine AtT.kpass ?_ | refine AtT.kpassU ?_ | ((first | refine AtT.kfieldO fo31_1 ?_ | with_reducible refine AtT.kfield2 fo31_1 ?_ | refine AtT.kfield fo31_1 ?_)))
    all_goals (first | refine AtT.kpass ?_ | refine AtT.kpassU ?_ | ((first | refine AtT.kloadO tk2 ?_ | refine AtT.kload tk2 ?_)))
    all_goals (first | refine AtT.kpass ?_ | refine AtT.kpassU ?_ | ((first | refine AtT.kmul ?_ | refine AtT.kmulW ?_)))
    all_goals (first | refine AtT.kpass ?_ | refine AtT.kpassU ?_ | ((refine AtT.kgtr ?_)))
    all_goals (refine AtT.setF (d := 104) rfl (by omega) ?_)
    all_goals (refine AtT.kpick ?_)
    all_goals (refine AtT.kmove ?_)
    all_goals (first | refine AtT.kL 106 ?_ | refine AtT.pcase (d := 106) rfl (fun hg106 => ?_) (fun hg106 => ?_) | refine AtT.bcase (d := 106) rfl (fun hg106 => ?_) (fun hg106 => ?_))
    all_goals (first | refine AtT.kpass ?_ | refine AtT.kpassU ?_ | ((first | refine AtT.kloadOA tk31 ?_ | refine AtT.kloadA tk31 ?_ | refine AtT.kloadOP tk31 ?_)))
    all_goals (first | refine AtT.kpass ?_ | refine AtT.kpassU ?_ | ((first | refine AtT.kloadOA tk31 ?_ | refine AtT.kloadA tk31 ?_ | refine AtT.kloadOP tk31 ?_)))
    all_goals (first | refine AtT.kpassN ?_ | refine AtT.kpassNU ?_ | ((refine AtT.kcallP rfl rfl ok45 (rless_f (bestV L) (coreOf L (linedV L one two)) _ (sm_fit hbs hls) (sm_fit hls hbs)) ?_) ; (rintro _ rfl)))
    all_goals (refine AtT.setB (d := 109) rfl (less_not hbs.can hls.can hcb) ?_)
    all_goals (refine AtT.kpick ?_)
    all_goals refine AtT.done ?_
    all_goals (refine At.nrm ?_)
    refine At.condF rfl rfl ?_
    refine At.nrm ?_
    refine At.ktext (.q 0 (.q 1 .done)) ?_
    refine AtT.kmove ?_
    refine AtT.kneI ?_
    refine AtT.done ?_
    refine At.nrm ?_
    refine At.condF rfl rfl ?_
    refine At.nrm ?_
    refine At.ktext (.q 0 (.n false 1 (.q 2 (.q 3 (.q 4 (.n false 5 (.q 6 (.q 7 (.q 8 (.q 9 (.q 10 (.n false 11 (.q 12 (.q 13 (.q 14 (.n false 15 (.q 16 (.q 17 .done)))))))))))))))))) ?_
    first | refine AtT.kloadOA tk31 ?_ | refine AtT.kloadA tk31 ?_ | refine AtT.kloadOP tk31 ?_
    refine AtT.kcallP rfl rfl ok46 (small_f (provV L P) hps _) ?_
    rintro _ rfl
    refine AtT.kmove ?_
    all_goals (first | refine AtT.kL 120 ?_ | refine AtT.pcase (d := 120) rfl (fun hg120 => ?_) (fun hg120 => ?_) | refine AtT.bcase (d := 120) rfl (fun hg120 => ?_) (fun hg120 => ?_))
    all_goals (first | refine AtT.kpass ?_ | refine AtT.kpassU ?_ | ((first | refine AtT.kloadOA tk31 ?_ | refine AtT.kloadA tk31 ?_ | refine AtT.kloadOP tk31 ?_)))
    all_goals (first | refine AtT.kpass ?_ | refine AtT.kpassU ?_ | ((first | refine AtT.kloadOA tk31 ?_ | refine AtT.kloadA tk31 ?_ | refine AtT.kloadOP tk31 ?_)))
    all_goals (first | refine AtT.kpassN ?_ | refine AtT.kpassNU ?_ | ((refine AtT.kcallP rfl rfl ok45 (rless_f (provV L P) (bestV L) _ (sm_fit hps hbs) (sm_fit hbs hps)) ?_) ; (rintro _ rfl)))
    all_goals (refine AtT.setB (d := 123) rfl (less_not hps.can hbs.can hpb) ?_)
    all_goals (first | refine AtT.kpass ?_ | refine AtT.kpassU ?_ | ((refine AtT.knot ?_)))
    all_goals (refine AtT.kpick ?_)
    all_goals (refine AtT.kmove ?_)
    all_goals (first | refine AtT.kL 126 ?_ | refine AtT.pcase (d := 126) rfl (fun hg126 => ?_) (fun hg126 => ?_) | refine AtT.bcase (d := 126) rfl (fun hg126 => ?_) (fun hg126 => ?_))
    all_goals (first | refine AtT.kpass ?_ | refine AtT.kpassU ?_ | ((first | refine AtT.kloadOA tk31 ?_ | refine AtT.kloadA tk31 ?_ | refine AtT.kloadOP tk31 ?_)))
    all_goals (first | refine AtT.kpass ?_ | refine AtT.kpassU ?_ | ((first | refine AtT.kloadOA tk31 ?_ | refine AtT.kloadA tk31 ?_ | refine AtT.kloadOP tk31 ?_)))
    all_goals (first | refine AtT.kpassN ?_ | refine AtT.kpassNU ?_ | ((refine AtT.kcallP rfl rfl ok45 (rless_f (provV L P) (coreOf L (linedV L one two)) _ (sm_fit hps hls) (sm_fit hls hps)) ?_) ; (rintro _ rfl)))
    all_goals (refine AtT.setB (d := 129) rfl (less_not hps.can hls.can hpc) ?_)
    all_goals (first | refine AtT.kpass ?_ | refine AtT.kpassU ?_ | ((refine AtT.knot ?_)))
    all_goals (refine AtT.kpick ?_)
    all_goals (refine AtT.kmove ?_)
    all_goals (first | refine AtT.kL 132 ?_ | refine AtT.pcase (d := 132) rfl (fun hg132 => ?_) (fun hg132 => ?_) | refine AtT.bcase (d := 132) rfl (fun hg132 => ?_) (fun hg132 => ?_))
    all_goals (first | refine AtT.kpassN ?_ | refine AtT.kpassNU ?_ | ((refine AtT.kcallP rfl rfl ok19 (works_f _) ?_) ; (rintro _ rfl)))
    all_goals (refine AtT.kpick ?_)
    all_goals (refine AtT.kassign ?_)
    all_goals refine AtT.done ?_
    all_goals (refine At.nrm ?_)
    exact At.ret1 rfl (.tmp rfl) rfl
end Go.Proofs.Ytnionkopmncopaa
set_option linter.unusedVariables false
namespace Go.Proofs.Ytnionkopmncopaa.c6
open Go.Lw Go.Pl Go.RowKit Go.ChangeShapes Go.WideShapes Go.ChangeAt

set_option maxRecDepth 100000 in
theorem lifted (os : Os) (started : os.Started) (H : Type) (enc : TypeId × Value → H) :
    ReturnsInHanded {} Try.checked os 8 .any (Rows.peelProvedSpec.pre6 enc Try.prog Try.f8 Rows.peelProvedRow.domain false) (Rows.peelProvedSpec.post enc Try.prog Try.f8 false true false false) := by
  refine law_lift (tb := 4) (fun ds hd => by match ds, hd with | [d0, d1, d2, d3, d4, d5, d6], _ => rfl) rfl (by kernel_rfl) Try.underlying4 laidOut (by kernel_rfl) own started (by kernel_rfl) Try.func8
    (ChangeSpec.witness6 (enc := enc) (C := Try.checked) false ⟨#[], #[.agg #[.slice none 0 0, .slice none 0 0], .int .i16 0, .int .i16 0, .int .u8 0, .int .u8 0, .int .u8 0, .bool false], []⟩ 8 (by kernel_rfl) (by kernel_rfl) (by kernel_rfl) (by kernel_rfl)) ?_
  intro W base args ds ps hval hA
  rw [Try.params8] at hA hval
  obtain ⟨v0, vs0, d0, ds0, p0, q0, hargs, rfl, rfl, h0, r0⟩ := trodAll_cons hA
  obtain ⟨v1, vs1, d1, ds1, p1, q1, rfl, rfl, rfl, h1, r1⟩ := trodAll_cons r0
  obtain ⟨v2, vs2, d2, ds2, p2, q2, rfl, rfl, rfl, h2, r2⟩ := trodAll_cons r1
  obtain ⟨v3, vs3, d3, ds3, p3, q3, rfl, rfl, rfl, h3, r3⟩ := trodAll_cons r2
  obtain ⟨v4, vs4, d4, ds4, p4, q4, rfl, rfl, rfl, h4, r4⟩ := trodAll_cons r3
  obtain ⟨v5, vs5, d5, ds5, p5, q5, rfl, rfl, rfl, h5, r5⟩ := trodAll_cons r4
  obtain ⟨v6, vs6, d6, ds6, p6, q6, rfl, rfl, rfl, h6, r6⟩ := trodAll_cons r5
  obtain ⟨rfl, rfl, rfl⟩ := trodAll_nil r6
  obtain rfl : args = #[v0, v1, v2, v3, v4, v5, v6] := by cases args; simp_all
  obtain ⟨L0, hL0⟩ := open_log (hval 0 25 v0 rfl rfl) h0
  obtain ⟨x1, rfl, _, _, w1⟩ := open_int Try.underlying57 (hval 1 57 v1 rfl rfl) h1
  have b1 := bounds_i16 w1
  obtain ⟨x2, rfl, _, _, w2⟩ := open_int Try.underlying57 (hval 2 57 v2 rfl rfl) h2
  have b2 := bounds_i16 w2
  obtain ⟨x3, rfl, _, _, w3⟩ := open_int Try.underlying5 (hval 3 5 v3 rfl rfl) h3
  have b3 := bounds_u8 w3
  obtain ⟨x4, rfl, _, _, w4⟩ := open_int Try.underlying5 (hval 4 5 v4 rfl rfl) h4
  have b4 := bounds_u8 w4
  obtain ⟨x5, rfl, _, _, w5⟩ := open_int Try.underlying5 (hval 5 5 v5 rfl rfl) h5
  have b5 := bounds_u8 w5
  obtain ⟨x6, rfl, _, _⟩ := open_bool Try.underlying4 (hval 6 4 v6 rfl rfl) h6
  exact ⟨[v0, .int .i16 x1, .int .i16 x2, .int .u8 x3, .int .u8 x4, .int .u8 x5, .bool x6], rfl, peelProved_f L0 x1 x2 x3 x4 x5 x6 _ _ hL0 b1 b2 b3 b4 b5⟩

theorem over : Rows.peelProvedRow.holds Try.pinned (OpenSpec.ofChange Rows.peelProvedSpec) :=
  OpenClaim.holds_of_wide 8 Try.f8 rfl rfl rfl rfl rfl rfl rfl ⟨rfl, rfl, rfl, rfl, rfl⟩ rfl rfl rfl rfl rfl (by kernel_rfl) Try.func8 (by kernel_rfl)
    (of_decide_eq_true (by kernel_rfl)) (by unfold Func.isWrapper; first | (rw [if_pos (by decide +kernel)]; kernel_rfl) | (rw [if_neg (by decide +kernel)]; exact ⟨rfl, rfl⟩))
    (fun os started H enc _ => lifted os started H enc)

theorem proved : Rows.PeelProvedSaid := over
#print axioms proved
end Go.Proofs.Ytnionkopmncopaa.c6
