/- Texts that the last one of this claim imports. -/
import Derived.Test.YtnionkopmncopaaB5
set_option linter.unusedVariables false
set_option linter.unusedSimpArgs false
set_option linter.unusedSectionVars false
namespace Go.Pl

structure Bd where
  den : Int
  start : Int
  slope : Int
  deriving DecidableEq
abbrev bde (b : Bd) : List Value := [iv b.den, iv b.start, iv b.slope]
theorem bde_len (b : Bd) : (bde b).length = 3 := rfl

def leastO (L : Lg) (core x : Int) (i : Nat) : List Bd :=
  if 0 < plP L i - x then [⟨plP L i - x, (edP L i).lo + core, -1⟩] else if plP L i - x < 0 then [⟨-(plP L i - x), -((edP L i).hi - core), 1⟩] else []
def mostO (L : Lg) (core x : Int) (i : Nat) : List Bd :=
  if 0 < plP L i - x then [⟨plP L i - x, (edP L i).hi - core, -1⟩] else if plP L i - x < 0 then [⟨-(plP L i - x), -((edP L i).lo + core), 1⟩] else []
def leastK (L : Lg) (core x : Int) : Nat → List Bd
  | 0 => []
  | k + 1 => leastK L core x k ++ leastO L core x k
def mostK (L : Lg) (core x : Int) : Nat → List Bd
  | 0 => []
  | k + 1 => mostK L core x k ++ mostO L core x k
theorem leastK_len (L : Lg) (core x : Int) : ∀ k, (leastK L core x k).length ≤ k
  | 0 => Nat.le_refl _
  | k + 1 => by
    have := leastK_len L core x k
    have : (leastO L core x k).length ≤ 1 := by unfold leastO; split <;> (try split) <;> simp
    simp only [leastK, List.length_append]; omega
theorem mostK_len (L : Lg) (core x : Int) : ∀ k, (mostK L core x k).length ≤ k
  | 0 => Nat.le_refl _
  | k + 1 => by
    have := mostK_len L core x k
    have : (mostO L core x k).length ≤ 1 := by unfold mostO; split <;> (try split) <;> simp
    simp only [mostK, List.length_append]; omega
theorem leastK_of {L : Lg} {core x : Int} : ∀ {k : Nat} {b : Bd}, b ∈ leastK L core x k → ∃ i, i < k ∧ b ∈ leastO L core x i
  | 0, b, h => by cases h
  | k + 1, b, h => by
    rcases List.mem_append.1 h with h | h
    · obtain ⟨i, h1, h2⟩ := leastK_of h; exact ⟨i, by omega, h2⟩
    · exact ⟨k, by omega, h⟩
theorem mostK_of {L : Lg} {core x : Int} : ∀ {k : Nat} {b : Bd}, b ∈ mostK L core x k → ∃ i, i < k ∧ b ∈ mostO L core x i
  | 0, b, h => by cases h
  | k + 1, b, h => by
    rcases List.mem_append.1 h with h | h
    · obtain ⟨i, h1, h2⟩ := mostK_of h; exact ⟨i, by omega, h2⟩
    · exact ⟨k, by omega, h⟩
theorem leastK_has {L : Lg} {core x : Int} {i : Nat} {b : Bd} (h : b ∈ leastO L core x i) : ∀ {k : Nat}, i < k → b ∈ leastK L core x k
  | k + 1, hk => by
    by_cases c : i = k
    · subst c; exact List.mem_append_right _ h
    · exact List.mem_append_left _ (leastK_has h (by omega))
theorem mostK_has {L : Lg} {core x : Int} {i : Nat} {b : Bd} (h : b ∈ mostO L core x i) : ∀ {k : Nat}, i < k → b ∈ mostK L core x k
  | k + 1, hk => by
    by_cases c : i = k
    · subst c; exact List.mem_append_right _ h
    · exact List.mem_append_left _ (mostK_has h (by omega))

/-- A bound whose numbers are small. -/
def BdB (b : Bd) : Prop := 0 < b.den ∧ b.den ≤ 100 ∧ -3000 ≤ b.start ∧ b.start ≤ 3000 ∧ (b.slope = 1 ∨ b.slope = -1)
theorem leastO_bd {L : Lg} (hL : LgOk L) {core x : Int} (hc : -2000 ≤ core ∧ core ≤ 2000) (hx : 0 ≤ x ∧ x ≤ 100) {i : Nat} (hi : i < L.pl.length) {b : Bd} (h : b ∈ leastO L core x i) : BdB b := by
  have p := hL.plB (i := (i : Int)) (by omega) (by omega)
  have e := hL.edB (i := (i : Int)) (by omega) (by omega)
  unfold leastO at h
  split at h
  · simp at h; subst h; unfold BdB; dsimp only; omega
  · split at h
    · simp at h; subst h; unfold BdB; dsimp only; omega
    · cases h
theorem mostO_bd {L : Lg} (hL : LgOk L) {core x : Int} (hc : -2000 ≤ core ∧ core ≤ 2000) (hx : 0 ≤ x ∧ x ≤ 100) {i : Nat} (hi : i < L.pl.length) {b : Bd} (h : b ∈ mostO L core x i) : BdB b := by
  have p := hL.plB (i := (i : Int)) (by omega) (by omega)
  have e := hL.edB (i := (i : Int)) (by omega) (by omega)
  unfold mostO at h
  split at h
  · simp at h; subst h; unfold BdB; dsimp only; omega
  · split at h
    · simp at h; subst h; unfold BdB; dsimp only; omega
    · cases h
theorem leastK_bd {L : Lg} (hL : LgOk L) {core x : Int} (hc : -2000 ≤ core ∧ core ≤ 2000) (hx : 0 ≤ x ∧ x ≤ 100) {b : Bd} (h : b ∈ leastK L core x L.pl.length) : BdB b := by
  obtain ⟨i, h1, h2⟩ := leastK_of h; exact leastO_bd hL hc hx h1 h2
theorem mostK_bd {L : Lg} (hL : LgOk L) {core x : Int} (hc : -2000 ≤ core ∧ core ≤ 2000) (hx : 0 ≤ x ∧ x ≤ 100) {b : Bd} (h : b ∈ mostK L core x L.pl.length) : BdB b := by
  obtain ⟨i, h1, h2⟩ := mostK_of h; exact mostO_bd hL hc hx h1 h2

/-- h times a is at most b: of a least and a most step. -/
def prA (p q : Bd) : Int := p.slope * q.den - q.slope * p.den
def prB (p q : Bd) : Int := q.start * p.den - p.start * q.den
/-- What is known of the least and of the greatest height behind one more pair. -/
def stepH (p q : Bd) (s : Rt × Rt) : Rt × Rt :=
  (if prA p q < 0 ∧ (s.1.den = 0 ∨ lessB s.1 (rat (-prB p q) (-prA p q)) = true) then rat (-prB p q) (-prA p q) else s.1,
   if 0 < prA p q ∧ (s.2.den = 0 ∨ lessB (rat (prB p q) (prA p q)) s.2 = true) then rat (prB p q) (prA p q) else s.2)
def rowH (p : Bd) : List Bd → Rt × Rt → Rt × Rt
  | [], s => s
  | q :: l, s => rowH p l (stepH p q s)
def allR (qs : List Bd) : List Bd → Rt × Rt → Rt × Rt
  | [], s => s
  | p :: l, s => allR qs l (rowH p qs s)
/-- What places that lie there say. -/
def zeroK (L : Lg) (core x : Int) : Nat → Rt × Rt
  | 0 => (⟨0, 0⟩, ⟨0, 0⟩)
  | k + 1 => if plP L k = x then (rat ((edP L k).lo + core) 1, rat ((edP L k).hi - core) 1) else zeroK L core x k
def defH (L : Lg) (core x : Int) : Rt × Rt := allR (mostK L core x L.pl.length) (leastK L core x L.pl.length) (zeroK L core x L.pl.length)
theorem rowH_snoc (p : Bd) : ∀ (l : List Bd) (q : Bd) (s : Rt × Rt), rowH p (l ++ [q]) s = stepH p q (rowH p l s)
  | [], _, _ => rfl
  | r :: l, q, s => rowH_snoc p l q (stepH p r s)
theorem allR_snoc (qs : List Bd) : ∀ (l : List Bd) (p : Bd) (s : Rt × Rt), allR qs (l ++ [p]) s = rowH p qs (allR qs l s)
  | [], _, _ => rfl
  | r :: l, p, s => allR_snoc qs l p (rowH r qs s)

/-- A height whose numbers are small, or none. -/
def HgB (r : Rt) : Prop := -1000000 ≤ r.num ∧ r.num ≤ 1000000 ∧ 0 ≤ r.den ∧ r.den ≤ 200
theorem pr_bd {p q : Bd} (hp : BdB p) (hq : BdB q) : -200 ≤ prA p q ∧ prA p q ≤ 200 ∧ -600000 ≤ prB p q ∧ prB p q ≤ 600000 ∧ (-300000 ≤ q.start * p.den ∧ q.start * p.den ≤ 300000) ∧ (-300000 ≤ p.start * q.den ∧ p.start * q.den ≤ 300000) := by
  obtain ⟨p1, p2, p3, p4, p5⟩ := hp
  obtain ⟨q1, q2, q3, q4, q5⟩ := hq
  have m1 := mul_bd (a := q.start) (b := p.den) (A := 3000) (B := 100) (by decide) (by decide) (by omega) (by omega) (by omega) (by omega)
  have m2 := mul_bd (a := p.start) (b := q.den) (A := 3000) (B := 100) (by decide) (by decide) (by omega) (by omega) (by omega) (by omega)
  unfold prA prB
  rcases p5 with e | e <;> rcases q5 with e' | e' <;> rw [e, e'] <;> omega
theorem rat_hg {n d : Int} (h1 : -1000000 ≤ n) (h2 : n ≤ 1000000) (h3 : 0 < d) (h4 : d ≤ 200) : HgB (rat n d) ∧ 0 < (rat n d).den := by
  have := rat_bd n d h3
  unfold HgB; omega
theorem stepH_bd {p q : Bd} (hp : BdB p) (hq : BdB q) {s : Rt × Rt} (h1 : HgB s.1) (h2 : HgB s.2) : HgB (stepH p q s).1 ∧ HgB (stepH p q s).2 := by
  have b := pr_bd hp hq
  unfold stepH
  constructor
  · dsimp only; split
    · rename_i c; exact (rat_hg (by omega) (by omega) (by omega) (by omega)).1
    · exact h1
  · dsimp only; split
    · rename_i c; exact (rat_hg (by omega) (by omega) (by omega) (by omega)).1
    · exact h2
theorem rowH_bd {p : Bd} (hp : BdB p) : ∀ {l : List Bd}, (∀ q ∈ l, BdB q) → ∀ {s : Rt × Rt}, HgB s.1 → HgB s.2 → HgB (rowH p l s).1 ∧ HgB (rowH p l s).2
  | [], _, _, h1, h2 => ⟨h1, h2⟩
  | q :: l, hl, s, h1, h2 => by
    have := stepH_bd hp (hl q (by simp)) h1 h2
    exact rowH_bd hp (fun r hr => hl r (List.mem_cons_of_mem _ hr)) this.1 this.2
theorem allR_bd {qs : List Bd} (hq : ∀ q ∈ qs, BdB q) : ∀ {l : List Bd}, (∀ q ∈ l, BdB q) → ∀ {s : Rt × Rt}, HgB s.1 → HgB s.2 → HgB (allR qs l s).1 ∧ HgB (allR qs l s).2
  | [], _, _, h1, h2 => ⟨h1, h2⟩
  | p :: l, hl, s, h1, h2 => by
    have := rowH_bd (hl p (by simp)) hq h1 h2
    exact allR_bd hq (fun r hr => hl r (List.mem_cons_of_mem _ hr)) this.1 this.2
theorem hg_zero : HgB ⟨0, 0⟩ := ⟨by decide, by decide, by decide, by decide⟩
theorem zeroK_bd {L : Lg} (hL : LgOk L) {core x : Int} (hc : -2000 ≤ core ∧ core ≤ 2000) : ∀ k, k ≤ L.pl.length → HgB (zeroK L core x k).1 ∧ HgB (zeroK L core x k).2
  | 0, _ => ⟨hg_zero, hg_zero⟩
  | k + 1, hk => by
    have e := hL.edB (i := (k : Int)) (by omega) (by omega)
    unfold zeroK
    split
    · exact ⟨(rat_hg (by omega) (by omega) (by omega) (by omega)).1, (rat_hg (by omega) (by omega) (by omega) (by omega)).1⟩
    · exact zeroK_bd hL hc k (by omega)
theorem hg_fit {a b : Rt} (ha : HgB a) (hb : HgB b) : Go.Lw.Fit (a.num * b.den) := by
  unfold HgB at *
  have m := mul_bd (a := a.num) (b := b.den) (A := 1000000) (B := 200) (by decide) (by decide) (by omega) (by omega) (by omega) (by omega)
  exact ⟨by omega, by omega⟩
end Go.Pl
set_option linter.unusedVariables false
namespace Go.Proofs.Ytnionkopmncopaa
open Go.Lw Go.Pl Go.RowKit

theorem bounds_f (L : Lg) (core x : Int) (V : View) (v : Value) (hv : LogV V v L) (hL : LgOk L) (hcb : -2000 ≤ core ∧ core ≤ 2000) (hxb : 0 ≤ x ∧ x ≤ 100) :
    Fnc Try.prog 72 [v, iv core, iv x] V fun r V' => ∃ v1 v2, r = .tuple #[v1, v2] ∧ Sl V' bde 3 v1 (leastK L core x L.pl.length) ∧ Sl V' bde 3 v2 (mostK L core x L.pl.length) := by
  obtain ⟨a, c, a', c', rfl, h2, h3⟩ := hv
  have hn8 := hL.n8
  have el := hL.el
  refine fn_of Try.func72 rfl Try.ntmps72 (Nat.le_of_ble_eq_true rfl) ?_
  intro w0 hw0
  refine At.nrm ?_
  refine At.text (.n false 0 (.q 1 (.q 2 .done))) (by kernel_rfl) ?_
  refine AtT.box rfl trivial rfl rfl (by decide) ?_
  intro b3
  refine AtT.assign rfl trivial rfl (by decide) ?_
  refine AtT.assign rfl trivial rfl (by decide) ?_
  refine AtT.done ?_
  refine At.nrm ?_
  refine At.text (.q 0 (.q 1 .done)) (by kernel_rfl) ?_
  refine AtT.assign rfl trivial rfl (by decide) ?_
  refine AtT.assign rfl trivial rfl (by decide) ?_
  refine AtT.done ?_
  refine At.nrm ?_
  refine At.text (.q 0 .done) (by kernel_rfl) ?_
  refine AtT.assign rfl trivial rfl (by decide) ?_
  refine AtT.done ?_
  refine At.nrm ?_
  refine At.newRow 104 3 ?_
  refine At.newRow 104 3 ?_
  refine At.lp (ι := Nat × (Option Addr × Nat) × (Option Addr × Nat)) (KS := fun g => [(1, iv core), (2, iv x), (3, .pointer (some ⟨b3, 0, none⟩)), (8, .slice g.2.1.1 (leastK L core x g.1).length g.2.1.2), (9, .slice g.2.2.1 (mostK L core x g.1).length g.2.2.2), (10, iv g.1)])
    (OS := fun g => [.blk b3 (LC [.slice a L.pl.length c, .slice a' L.ed.length c'] 25), .row (.slice g.2.1.1 (leastK L core x g.1).length g.2.1.2) 104 3 (leastK L core x g.1).length (flat bde (leastK L core x g.1)), .row (.slice g.2.2.1 (mostK L core x g.1).length g.2.2.2) 104 3 (mostK L core x g.1).length (flat bde (mostK L core x g.1))])
    (VS := fun g V' => Le V V' ∧ g.1 ≤ L.pl.length) (μ := fun g => L.pl.length - g.1) (0, (none, 0), (none, 0)) ?_ ?_ ?_ ?_
  · exact ⟨rfl, rfl, rfl, rfl, rfl, rfl, trivial⟩
  · repeat (first | exact Pt.nil | refine Pt.cons (by repeat (first | exact Pick.here | apply Pick.there)) ?_)
  · exact ⟨Le.refl _, Nat.zero_le _⟩
  · rintro ⟨k, ⟨ao, co⟩, ⟨ao', co'⟩⟩ V' ks' O' ⟨hVV, hkl⟩ hk hO hl2
    dsimp only at hkl hk hO
    subst hk hO
    have h2' := h2.le hVV
    have h3' := h3.le hVV
    have hll := leastK_len L core x k
    have hml := mostK_len L core x k
    refine At.nrm ?_
    refine At.text (.q 0 (.q 1 (.q 2 (.q 3 (.q 4 .done))))) (by kernel_rfl) ?_
    refine AtT.move rfl trivial rfl (by decide) ?_
    first | refine AtT.fieldO rfl trivial rfl fo25_0 (by decide) ?_ | with_reducible refine AtT.field2 rfl trivial rfl fo25_0 (by decide) ?_ | refine AtT.field rfl trivial rfl fo25_0 (by decide) ?_
    first | refine AtT.loadO rfl trivial rfl tk22 (by repeat (first | exact Pick.here | apply Pick.there)) (by rfl) (by decide) ?_ | refine AtT.load rfl trivial rfl tk22 (by first | exact vcell_of (by assumption) (by rfl) | exact vcell_of0 (by assumption) (by rfl) | exact vcell_of (Cells.le (by assumption) (by assumption)) (by rfl) | exact vcell_of0 (Cells.le (by assumption) (by assumption)) (by rfl)) (by decide) ?_
    first | refine AtT.lenS rfl trivial Try.underlying22 rfl (by first | assumption | exact Sl.le (by assumption) (by assumption)) (by decide) ?_ | refine AtT.lenR rfl trivial Try.underlying22 rfl (by decide) ?_
    refine AtT.lss rfl trivial rfl rfl (by decide) ?_
    refine AtT.done ?_
    refine At.nrm ?_
    refine At.condP rfl (fun hb => ?_) (fun hb => ?_)
    · have hkn : k < L.pl.length := by omega
      have pb := hL.plB (i := (k : Int)) (by omega) (by omega)
      have eb := hL.edB (i := (k : Int)) (by omega) (by omega)
      refine At.nrm ?_
      refine At.draw (.q 0 (.q 1 (.q 2 (.q 3 (.q 4 (.q 5 (.q 6 (.q 7 (.q 8 (.q 9 (.q 10 (.q 11 (.q 12 (.q 13 (.q 14 (.q 15 (.q 16 (.q 17 (.q 18 (.q 19 (.q 20 (.q 21 (.q 22 (.q 23 (.q 24 (.q 25 .done)))))))))))))))))))))))))) ffm (by kernel_rfl) ?_
      first | refine AtT.fieldO rfl trivial rfl fo25_0 (by decide) ?_ | with_reducible refine AtT.field2 rfl trivial rfl fo25_0 (by decide) ?_ | refine AtT.field rfl trivial rfl fo25_0 (by decide) ?_
      first | refine AtT.loadO rfl trivial rfl tk22 (by repeat (first | exact Pick.here | apply Pick.there)) (by rfl) (by decide) ?_ | refine AtT.load rfl trivial rfl tk22 (by first | exact vcell_of (by assumption) (by rfl) | exact vcell_of0 (by assumption) (by rfl) | exact vcell_of (Cells.le (by assumption) (by assumption)) (by rfl) | exact vcell_of0 (Cells.le (by assumption) (by assumption)) (by rfl)) (by decide) ?_
      refine AtT.move rfl trivial rfl (by decide) ?_
      refine AtT.idx rfl trivial Try.underlying22 tk2 rfl (by first | assumption | exact Sl.le (by assumption) (by assumption)) rfl (by omega) (by omega) (by decide) ?_
      intro p24 e24 he24 hc24
      obtain rfl : e24 = plP L k := plP_some he24
      first | refine AtT.loadO rfl trivial rfl tk2 (by repeat (first | exact Pick.here | apply Pick.there)) (by rfl) (by decide) ?_ | refine AtT.load rfl trivial rfl tk2 (by first | exact vcell_of (by assumption) (by rfl) | exact vcell_of0 (by assumption) (by rfl) | exact vcell_of (Cells.le (by assumption) (by assumption)) (by rfl) | exact vcell_of0 (Cells.le (by assumption) (by assumption)) (by rfl)) (by decide) ?_
      refine AtT.move rfl trivial rfl (by decide) ?_
      first | refine AtT.subt rfl trivial rfl rfl (by decide) (by first | assumption | exact Fit.of (by omega) (by omega)) ?_ | refine AtT.subW rfl trivial rfl rfl (by decide) ?_
      first | refine AtT.fieldO rfl trivial rfl fo25_1 (by decide) ?_ | with_reducible refine AtT.field2 rfl trivial rfl fo25_1 (by decide) ?_ | refine AtT.field rfl trivial rfl fo25_1 (by decide) ?_
      first | refine AtT.loadO rfl trivial rfl tk23 (by repeat (first | exact Pick.here | apply Pick.there)) (by rfl) (by decide) ?_ | refine AtT.load rfl trivial rfl tk23 (by first | exact vcell_of (by assumption) (by rfl) | exact vcell_of0 (by assumption) (by rfl) | exact vcell_of (Cells.le (by assumption) (by assumption)) (by rfl) | exact vcell_of0 (Cells.le (by assumption) (by assumption)) (by rfl)) (by decide) ?_
      refine AtT.move rfl trivial rfl (by decide) ?_
      refine AtT.idx rfl trivial Try.underlying23 tk69 rfl (by first | assumption | exact Sl.le (by assumption) (by assumption)) rfl (by omega) (by omega) (by decide) ?_
      intro p31 e31 he31 hc31
      obtain rfl : e31 = edP L k := edP_some he31
      first | refine AtT.fieldO rfl trivial rfl fo69_0 (by decide) ?_ | with_reducible refine AtT.field2 rfl trivial rfl fo69_0 (by decide) ?_ | refine AtT.field rfl trivial rfl fo69_0 (by decide) ?_
      first | refine AtT.loadO rfl trivial rfl tk2 (by repeat (first | exact Pick.here | apply Pick.there)) (by rfl) (by decide) ?_ | refine AtT.load rfl trivial rfl tk2 (by first | exact vcell_of (by assumption) (by rfl) | exact vcell_of0 (by assumption) (by rfl) | exact vcell_of (Cells.le (by assumption) (by assumption)) (by rfl) | exact vcell_of0 (Cells.le (by assumption) (by assumption)) (by rfl)) (by decide) ?_
      refine AtT.move rfl trivial rfl (by decide) ?_
      first | refine AtT.add rfl trivial rfl rfl (by decide) (by first | assumption | exact Fit.of (by omega) (by omega)) ?_ | refine AtT.addW rfl trivial rfl rfl (by decide) ?_
      first | refine AtT.fieldO rfl trivial rfl fo25_1 (by decide) ?_ | with_reducible refine AtT.field2 rfl trivial rfl fo25_1 (by decide) ?_ | refine AtT.field rfl trivial rfl fo25_1 (by decide) ?_
      first | refine AtT.loadO rfl trivial rfl tk23 (by repeat (first | exact Pick.here | apply Pick.there)) (by rfl) (by decide) ?_ | refine AtT.load rfl trivial rfl tk23 (by first | exact vcell_of (by assumption) (by rfl) | exact vcell_of0 (by assumption) (by rfl) | exact vcell_of (Cells.le (by assumption) (by assumption)) (by rfl) | exact vcell_of0 (Cells.le (by assumption) (by assumption)) (by rfl)) (by decide) ?_
      refine AtT.move rfl trivial rfl (by decide) ?_
      refine AtT.idx rfl trivial Try.underlying23 tk69 rfl (by first | assumption | exact Sl.le (by assumption) (by assumption)) rfl (by omega) (by omega) (by decide) ?_
      intro p39 e39 he39 hc39
      obtain rfl : e39 = edP L k := edP_some he39
      first | refine AtT.fieldO rfl trivial rfl fo69_1 (by decide) ?_ | with_reducible refine AtT.field2 rfl trivial rfl fo69_1 (by decide) ?_ | refine AtT.field rfl trivial rfl fo69_1 (by decide) ?_
      first | refine AtT.loadO rfl trivial rfl tk2 (by repeat (first | exact Pick.here | apply Pick.there)) (by rfl) (by decide) ?_ | refine AtT.load rfl trivial rfl tk2 (by first | exact vcell_of (by assumption) (by rfl) | exact vcell_of0 (by assumption) (by rfl) | exact vcell_of (Cells.le (by assumption) (by assumption)) (by rfl) | exact vcell_of0 (Cells.le (by assumption) (by assumption)) (by rfl)) (by decide) ?_
      refine AtT.move rfl trivial rfl (by decide) ?_
      first | refine AtT.subt rfl trivial rfl rfl (by decide) (by first | assumption | exact Fit.of (by omega) (by omega)) ?_ | refine AtT.subW rfl trivial rfl rfl (by decide) ?_
      refine AtT.assign rfl trivial rfl (by decide) ?_
      refine AtT.assign rfl trivial rfl (by decide) ?_
      refine AtT.assign rfl trivial rfl (by decide) ?_
      refine AtT.done ?_
      refine At.nrm ?_
      refine At.text (.q 0 (.q 1 .done)) (by kernel_rfl) ?_
      refine AtT.move rfl trivial rfl (by decide) ?_
      refine AtT.gtr rfl trivial rfl rfl (by decide) ?_
      refine AtT.done ?_
      refine At.nrm ?_
      refine At.condP rfl (fun hd => ?_) (fun hd => ?_)
      · have e1 : leastK L core x (k + 1) = leastK L core x k ++ [⟨plP L k - x, (edP L k).lo + core, -1⟩] := by simp only [leastK, leastO, if_pos hd]
        have e2 : mostK L core x (k + 1) = mostK L core x k ++ [⟨plP L k - x, (edP L k).hi - core, -1⟩] := by simp only [mostK, mostO, if_pos hd]
        refine At.nrm ?_
        refine At.text (.q 0 (.q 1 (.q 2 (.q 3 (.n false 4 (.n true 5 (.q 6 (.q 7 (.q 8 (.q 9 (.n false 10 (.n true 11 (.q 12 (.q 13 .done)))))))))))))) (by kernel_rfl) ?_
        refine AtT.move rfl trivial rfl (by decide) ?_
        refine AtT.move rfl trivial rfl (by decide) ?_
        refine AtT.move rfl trivial rfl (by decide) ?_
        refine AtT.build rfl trivial rfl (bd104_0_1_2 _ _ _) (by decide) ?_
        refine AtT.bsliceG rfl trivial rfl (bs100_1_0 _ _ _) (by decide) ?_
        intro q50 V50 hV50 hq50
        have g50 : Le V V50 := by first | exact hV50 | exact Le.trans (by assumption) hV50
        first | refine AtT.append rfl trivial Try.underlying100 rw104 rfl (by decide) rfl rfl (by repeat (first | exact Pick.here | apply Pick.there)) (by first | assumption | exact Cells.le (by assumption) (by assumption)) (by rfl) (by rfl) (by first | omega | (unfold maxLen; omega)) (by omega) (by decide) ?_
        intro a51 c51
        refine AtT.move rfl trivial rfl (by decide) ?_
        refine AtT.move rfl trivial rfl (by decide) ?_
        refine AtT.move rfl trivial rfl (by decide) ?_
        refine AtT.build rfl trivial rfl (bd104_0_1_2 _ _ _) (by decide) ?_
        refine AtT.bsliceG rfl trivial rfl (bs100_1_0 _ _ _) (by decide) ?_
        intro q56 V56 hV56 hq56
        have g56 : Le V V56 := by first | exact hV56 | exact Le.trans (by assumption) hV56
        first | refine AtT.append rfl trivial Try.underlying100 rw104 rfl (by decide) rfl rfl (by repeat (first | exact Pick.here | apply Pick.there)) (by first | assumption | exact Cells.le (by assumption) (by assumption)) (by rfl) (by rfl) (by first | omega | (unfold maxLen; omega)) (by omega) (by decide) ?_
        intro a57 c57
        refine AtT.assign rfl trivial rfl (by decide) ?_
        refine AtT.assign rfl trivial rfl (by decide) ?_
        refine AtT.done ?_
        refine At.nrm ?_
        refine At.text (.q 0 (.q 1 .done)) (by kernel_rfl) ?_
        refine AtT.move rfl trivial rfl (by decide) ?_
        refine AtT.lss rfl trivial rfl rfl (by decide) ?_
        refine AtT.done ?_
        refine At.nrm ?_
        refine At.condF rfl (decide_eq_false (by omega)) ?_
        refine At.nrm ?_
        refine At.text (.q 0 (.q 1 (.q 2 .done))) (by kernel_rfl) ?_
        refine AtT.move rfl trivial rfl (by decide) ?_
        first | refine AtT.add rfl trivial rfl rfl (by decide) (by first | assumption | exact Fit.of (by omega) (by omega)) ?_ | refine AtT.addW rfl trivial rfl rfl (by decide) ?_
        refine AtT.assign rfl trivial rfl (by decide) ?_
        refine AtT.done ?_
        refine At.nrm ?_
        refine At.round (k + 1, (a51, c51), (a57, c57)) ?_ ?_ ?_ ?_
        · show L.pl.length - (k + 1) < L.pl.length - k; omega
        · exact ⟨(hVV.trans hV50).trans hV56, by dsimp only; omega⟩
        · exact ⟨rfl, rfl, rfl, slv (by dsimp only; rw [e1, List.length_append]; rfl), slv (by dsimp only; rw [e2, List.length_append]; rfl), ivs (by dsimp only; omega), trivial⟩
        dsimp only
        rw [e1, e2, flat_snoc, flat_snoc, List.length_append, List.length_append]
        · repeat (first | exact Pt.nil | refine Pt.cons (by repeat (first | exact Pick.here | apply Pick.there)) ?_)
      · by_cases hd2 : plP L k - x < 0
        · have e1 : leastK L core x (k + 1) = leastK L core x k ++ [⟨-(plP L k - x), -((edP L k).hi - core), 1⟩] := by simp only [leastK, leastO, if_neg hd, if_pos hd2]
          have e2 : mostK L core x (k + 1) = mostK L core x k ++ [⟨-(plP L k - x), -((edP L k).lo + core), 1⟩] := by simp only [mostK, mostO, if_neg hd, if_pos hd2]
          refine At.nrm ?_
          refine At.text (.q 0 (.q 1 .done)) (by kernel_rfl) ?_
          refine AtT.move rfl trivial rfl (by decide) ?_
          refine AtT.lss rfl trivial rfl rfl (by decide) ?_
          refine AtT.done ?_
          refine At.nrm ?_
          refine At.condT rfl (decide_eq_true hd2) ?_
          refine At.nrm ?_
          refine At.text (.q 0 (.q 1 (.q 2 (.q 3 (.q 4 (.q 5 (.n false 6 (.n true 7 (.q 8 (.q 9 (.q 10 (.q 11 (.q 12 (.q 13 (.n false 14 (.n true 15 (.q 16 (.q 17 .done)))))))))))))))))) (by kernel_rfl) ?_
          refine AtT.move rfl trivial rfl (by decide) ?_
          refine AtT.move rfl trivial rfl (by decide) ?_
          first | refine AtT.neg rfl trivial rfl (by decide) (by first | assumption | exact Fit.of (by omega) (by omega)) ?_ | refine AtT.negW rfl trivial rfl (by decide) ?_
          refine AtT.move rfl trivial rfl (by decide) ?_
          first | refine AtT.neg rfl trivial rfl (by decide) (by first | assumption | exact Fit.of (by omega) (by omega)) ?_ | refine AtT.negW rfl trivial rfl (by decide) ?_
          refine AtT.build rfl trivial rfl (bd104_0_1_2 _ _ _) (by decide) ?_
          refine AtT.bsliceG rfl trivial rfl (bs100_1_0 _ _ _) (by decide) ?_
          intro q66 V66 hV66 hq66
          have g66 : Le V V66 := by first | exact hV66 | exact Le.trans (by assumption) hV66
          first | refine AtT.append rfl trivial Try.underlying100 rw104 rfl (by decide) rfl rfl (by repeat (first | exact Pick.here | apply Pick.there)) (by first | assumption | exact Cells.le (by assumption) (by assumption)) (by rfl) (by rfl) (by first | omega | (unfold maxLen; omega)) (by omega) (by decide) ?_
          intro a67 c67
          refine AtT.move rfl trivial rfl (by decide) ?_
          refine AtT.move rfl trivial rfl (by decide) ?_
          first | refine AtT.neg rfl trivial rfl (by decide) (by first | assumption | exact Fit.of (by omega) (by omega)) ?_ | refine AtT.negW rfl trivial rfl (by decide) ?_
          refine AtT.move rfl trivial rfl (by decide) ?_
          first | refine AtT.neg rfl trivial rfl (by decide) (by first | assumption | exact Fit.of (by omega) (by omega)) ?_ | refine AtT.negW rfl trivial rfl (by decide) ?_
          refine AtT.build rfl trivial rfl (bd104_0_1_2 _ _ _) (by decide) ?_
          refine AtT.bsliceG rfl trivial rfl (bs100_1_0 _ _ _) (by decide) ?_
          intro q74 V74 hV74 hq74
          have g74 : Le V V74 := by first | exact hV74 | exact Le.trans (by assumption) hV74
          first | refine AtT.append rfl trivial Try.underlying100 rw104 rfl (by decide) rfl rfl (by repeat (first | exact Pick.here | apply Pick.there)) (by first | assumption | exact Cells.le (by assumption) (by assumption)) (by rfl) (by rfl) (by first | omega | (unfold maxLen; omega)) (by omega) (by decide) ?_
          intro a75 c75
          refine AtT.assign rfl trivial rfl (by decide) ?_
          refine AtT.assign rfl trivial rfl (by decide) ?_
          refine AtT.done ?_
          refine At.nrm ?_
          refine At.text (.q 0 (.q 1 (.q 2 .done))) (by kernel_rfl) ?_
          refine AtT.move rfl trivial rfl (by decide) ?_
          first | refine AtT.add rfl trivial rfl rfl (by decide) (by first | assumption | exact Fit.of (by omega) (by omega)) ?_ | refine AtT.addW rfl trivial rfl rfl (by decide) ?_
          refine AtT.assign rfl trivial rfl (by decide) ?_
          refine AtT.done ?_
          refine At.nrm ?_
          refine At.round (k + 1, (a67, c67), (a75, c75)) ?_ ?_ ?_ ?_
          · show L.pl.length - (k + 1) < L.pl.length - k; omega
          · exact ⟨(hVV.trans hV66).trans hV74, by dsimp only; omega⟩
          · exact ⟨rfl, rfl, rfl, slv (by dsimp only; rw [e1, List.length_append]; rfl), slv (by dsimp only; rw [e2, List.length_append]; rfl), ivs (by dsimp only; omega), trivial⟩
          dsimp only
          rw [e1, e2, flat_snoc, flat_snoc, List.length_append, List.length_append]
          · repeat (first | exact Pt.nil | refine Pt.cons (by repeat (first | exact Pick.here | apply Pick.there)) ?_)
        · have e1 : leastK L core x (k + 1) = leastK L core x k := by simp only [leastK, leastO, if_neg hd, if_neg hd2, List.append_nil]
          have e2 : mostK L core x (k + 1) = mostK L core x k := by simp only [mostK, mostO, if_neg hd, if_neg hd2, List.append_nil]
          refine At.nrm ?_
          refine At.text (.q 0 (.q 1 .done)) (by kernel_rfl) ?_
          refine AtT.move rfl trivial rfl (by decide) ?_
          refine AtT.lss rfl trivial rfl rfl (by decide) ?_
          refine AtT.done ?_
          refine At.nrm ?_
          refine At.condF rfl (decide_eq_false hd2) ?_
          refine At.nrm ?_
          refine At.text (.q 0 (.q 1 (.q 2 .done))) (by kernel_rfl) ?_
          refine AtT.move rfl trivial rfl (by decide) ?_
          first | refine AtT.add rfl trivial rfl rfl (by decide) (by first | assumption | exact Fit.of (by omega) (by omega)) ?_ | refine AtT.addW rfl trivial rfl rfl (by decide) ?_
          refine AtT.assign rfl trivial rfl (by decide) ?_
          refine AtT.done ?_
          refine At.nrm ?_
          refine At.round (k + 1, (ao, co), (ao', co')) ?_ ?_ ?_ ?_
          · show L.pl.length - (k + 1) < L.pl.length - k; omega
          · exact ⟨hVV, by dsimp only; omega⟩
          · exact ⟨rfl, rfl, rfl, slv (by dsimp only; rw [e1]), slv (by dsimp only; rw [e2]), ivs (by dsimp only; omega), trivial⟩
          dsimp only
          rw [e1, e2]
          · repeat (first | exact Pt.nil | refine Pt.cons (by repeat (first | exact Pick.here | apply Pick.there)) ?_)
    · obtain rfl : k = L.pl.length := by omega
      refine At.nrm ?_
      refine At.text (.q 0 (.q 1 (.q 2 (.q 3 .done)))) (by kernel_rfl) ?_
      refine AtT.move rfl trivial rfl (by decide) ?_
      refine AtT.move rfl trivial rfl (by decide) ?_
      refine AtT.assign rfl trivial rfl (by decide) ?_
      refine AtT.assign rfl trivial rfl (by decide) ?_
      refine AtT.done ?_
      refine At.nrm ?_
      refine At.giveSl bde_len rfl rfl (l := leastK L core x L.pl.length) (by repeat (first | exact Pick.here | apply Pick.there)) (fun V4 hV4 hs4 => ?_)
      refine At.giveSl bde_len rfl rfl (l := mostK L core x L.pl.length) (by repeat (first | exact Pick.here | apply Pick.there)) (fun V5 hV5 hs5 => ?_)
      exact At.ret2 rfl (.tmp rfl) (.tmp rfl) ⟨_, _, rfl, hs4.le hV5, hs5⟩
end Go.Proofs.Ytnionkopmncopaa
set_option linter.unusedVariables false
namespace Go.Proofs.Ytnionkopmncopaa
open Go.Lw Go.Pl Go.RowKit

def defR (L : Lg) (core x : Int) : Rt × Rt × Int :=
  if logE L ≠ 0 then (⟨0, 0⟩, ⟨0, 0⟩, logE L) else if ¬ (-2000 ≤ core ∧ core ≤ 2000 ∧ 0 ≤ x ∧ x ≤ 100) then (⟨0, 0⟩, ⟨0, 0⟩, 3)
  else if lessB (bestV L) (rat core 1) = true then (⟨0, 0⟩, ⟨0, 0⟩, 17) else ((defH L core x).1, (defH L core x).2, 0)

theorem aggv {a b : Int} {c d : Int} (h1 : a = c) (h2 : b = d) : [iv a, iv b] = [iv c, iv d] := by rw [h1, h2]
theorem stepA {p q : Bd} {s : Rt × Rt} (h : 0 < prA p q) (hc : s.2.den = 0 ∨ lessB (rat (prB p q) (prA p q)) s.2 = true) : stepH p q s = (s.1, rat (prB p q) (prA p q)) := by
  unfold stepH; rw [if_neg (by omega), if_pos ⟨h, hc⟩]
theorem stepB {p q : Bd} {s : Rt × Rt} (h : 0 < prA p q) (h1 : s.2.den ≠ 0) (h2 : lessB (rat (prB p q) (prA p q)) s.2 = false) : stepH p q s = s := by
  unfold stepH; rw [if_neg (by omega), if_neg (by rintro ⟨_, h | h⟩; exact h1 h; rw [h2] at h; cases h)]
theorem stepC {p q : Bd} {s : Rt × Rt} (h : prA p q < 0) (hc : s.1.den = 0 ∨ lessB s.1 (rat (-prB p q) (-prA p q)) = true) : stepH p q s = (rat (-prB p q) (-prA p q), s.2) := by
  unfold stepH; rw [if_pos ⟨h, hc⟩, if_neg (by omega)]
theorem stepD {p q : Bd} {s : Rt × Rt} (h : prA p q < 0) (h1 : s.1.den ≠ 0) (h2 : lessB s.1 (rat (-prB p q) (-prA p q)) = false) : stepH p q s = s := by
  unfold stepH; rw [if_neg (by rintro ⟨_, h | h⟩; exact h1 h; rw [h2] at h; cases h), if_neg (by omega)]
theorem stepE {p q : Bd} {s : Rt × Rt} (h1 : ¬ 0 < prA p q) (h2 : ¬ prA p q < 0) : stepH p q s = s := by
  unfold stepH; rw [if_neg (by omega), if_neg (by omega)]

theorem heights_q (L : Lg) (core x : Int) (V : View) (v : Value) (hv : LogV V v L) : Fnc Try.prog 35 [v, iv core, iv x] V fun r _ => r = .tuple #[rtv (defR L core x).1, rtv (defR L core x).2.1, iv (defR L core x).2.2] := by
  have hv' := hv
  obtain ⟨a, c, a', c', rfl, h2, h3⟩ := hv
  refine fn_of Try.func35 rfl Try.ntmps35 (Nat.le_of_ble_eq_true rfl) ?_
  intro w0 hw0
  refine At.nrm ?_
  refine At.text (.n false 0 (.n false 1 (.n false 2 (.q 3 .done)))) (by kernel_rfl) ?_
  refine AtT.box rfl trivial rfl rfl (by decide) ?_
  intro b3
  refine AtT.alloc rfl trivial z31 rfl (by decide) ?_
  intro b6
  refine AtT.alloc rfl trivial z31 rfl (by decide) ?_
  intro b7
  refine AtT.assign rfl trivial rfl (by decide) ?_
  refine AtT.done ?_
  refine At.nrm ?_
  refine At.text (.q 0 (.n false 1 (.q 2 .done))) (by kernel_rfl) ?_
  first | refine AtT.loadOA rfl trivial rfl tk25 (by repeat (first | exact Pick.here | apply Pick.there)) (by rfl) (by decide) ?_ | refine AtT.loadA rfl trivial rfl tk25 (by first | assumption | exact Cells.le (by assumption) (by assumption)) (by rfl) (by decide) ?_ | refine AtT.loadOP rfl trivial rfl tk25 (by repeat (first | exact Pick.here | apply Pick.there)) (by rfl) (by rfl) (by decide) ?_
  refine AtT.callP rfl trivial rfl ok23 (by decide) (rcheckLog_f L _ _ hv') ?_
  rintro _ rfl
  refine AtT.neI rfl trivial rfl rfl (by decide) ?_
  refine AtT.done ?_
  refine At.nrm ?_
  refine At.condP rfl (fun he => ?_) (fun he => ?_)
  · refine At.nrm ?_
    refine At.text (.q 0 (.q 1 (.q 2 (.n false 3 (.n true 4 (.n true 5 (.q 6 .done))))))) (by kernel_rfl) ?_
    refine AtT.build rfl trivial rfl (bd31) (by decide) ?_
    refine AtT.build rfl trivial rfl (bd31) (by decide) ?_
    first | refine AtT.loadOA rfl trivial rfl tk25 (by repeat (first | exact Pick.here | apply Pick.there)) (by rfl) (by decide) ?_ | refine AtT.loadA rfl trivial rfl tk25 (by first | assumption | exact Cells.le (by assumption) (by assumption)) (by rfl) (by decide) ?_ | refine AtT.loadOP rfl trivial rfl tk25 (by repeat (first | exact Pick.here | apply Pick.there)) (by rfl) (by rfl) (by decide) ?_
    refine AtT.callP rfl trivial rfl ok23 (by decide) (rcheckLog_f L _ _ hv') ?_
    rintro _ rfl
    refine AtT.storeA rfl trivial rfl rfl tk31 rfl rfl (by rfl) (by repeat (first | exact Upd.here | apply Upd.there)) ?_
    refine AtT.storeA rfl trivial rfl rfl tk31 rfl rfl (by rfl) (by repeat (first | exact Upd.here | apply Upd.there)) ?_
    refine AtT.assign rfl trivial rfl (by decide) ?_
    refine AtT.done ?_
    refine At.nrm ?_
    refine At.ret3 rfl (.agg rfl tk31 (by repeat (first | exact Pick.here | apply Pick.there)) rfl) (.agg rfl tk31 (by repeat (first | exact Pick.here | apply Pick.there)) rfl) (.tmp rfl) ?_
    rw [defR, if_pos he]
  have he0 : logE L = 0 := by omega
  have hL := logE_ok he0
  have hn8 := hL.n8
  have el := hL.el
  refine At.nrm ?_
  refine At.cutG (ι := Unit) (fun _ => [(1, iv core), (2, iv x), (3, .pointer (some ⟨b3, 0, none⟩)), (6, .pointer (some ⟨b6, 0, none⟩)), (7, .pointer (some ⟨b7, 0, none⟩)), (38, .bool (decide ¬ (-2000 ≤ core ∧ core ≤ 2000 ∧ 0 ≤ x ∧ x ≤ 100)))]) (fun _ => [.blk b3 (LC [.slice a L.pl.length c, .slice a' L.ed.length c'] 25), .blk b6 (LC [iv 0, iv 0] 31), .blk b7 (LC [iv 0, iv 0] 31)]) (fun _ V' => Le V V') ?_ ?_
  · refine At.text (.q 0 (.q 1 (.q 2 (.q 3 (.q 4 (.q 5 (.q 6 (.q 7 (.q 8 (.q 9 (.q 10 (.q 11 (.q 12 (.q 13 .done)))))))))))))) (by kernel_rfl) ?_
    refine AtT.move rfl trivial rfl (by decide) ?_
    refine AtT.lss rfl trivial rfl rfl (by decide) ?_
    refine AtT.move rfl trivial rfl (by decide) ?_
    all_goals (first | refine AtT.litT (d := 27) rfl ?_ | refine AtT.litF (d := 27) rfl ?_ | refine AtT.litU (d := 27) rfl ?_ | refine AtT.pcase (d := 27) rfl (fun hg27 => ?_) (fun hg27 => ?_) | refine AtT.bcase (d := 27) rfl (fun hg27 => ?_) (fun hg27 => ?_))
    all_goals (first | refine AtT.pass rfl rfl rfl rfl rfl rfl (by decide) ?_ | refine AtT.passU rfl rfl rfl rfl rfl rfl (by decide) ?_ | ((refine AtT.move rfl ⟨_, _, rfl, rfl, rfl⟩ rfl (by decide) ?_)))
    all_goals (first | refine AtT.pass rfl rfl rfl rfl rfl rfl (by decide) ?_ | refine AtT.passU rfl rfl rfl rfl rfl rfl (by decide) ?_ | ((refine AtT.gtr rfl ⟨_, _, rfl, rfl, rfl⟩ rfl rfl (by decide) ?_)))
    all_goals (refine AtT.pick rfl trivial rfl rfl rfl (by decide) ?_)
    all_goals (refine AtT.move rfl trivial rfl (by decide) ?_)
    all_goals (first | refine AtT.litT (d := 31) rfl ?_ | refine AtT.litF (d := 31) rfl ?_ | refine AtT.litU (d := 31) rfl ?_ | refine AtT.pcase (d := 31) rfl (fun hg31 => ?_) (fun hg31 => ?_) | refine AtT.bcase (d := 31) rfl (fun hg31 => ?_) (fun hg31 => ?_))
    all_goals (first | refine AtT.pass rfl rfl rfl rfl rfl rfl (by decide) ?_ | refine AtT.passU rfl rfl rfl rfl rfl rfl (by decide) ?_ | ((refine AtT.move rfl ⟨_, _, rfl, rfl, rfl⟩ rfl (by decide) ?_)))
    all_goals (first | refine AtT.pass rfl rfl rfl rfl rfl rfl (by decide) ?_ | refine AtT.passU rfl rfl rfl rfl rfl rfl (by decide) ?_ | ((refine AtT.lss rfl ⟨_, _, rfl, rfl, rfl⟩ rfl rfl (by decide) ?_)))
    all_goals (refine AtT.pick rfl trivial rfl rfl rfl (by decide) ?_)
    all_goals (refine AtT.move rfl trivial rfl (by decide) ?_)
    all_goals (first | refine AtT.litT (d := 35) rfl ?_ | refine AtT.litF (d := 35) rfl ?_ | refine AtT.litU (d := 35) rfl ?_ | refine AtT.pcase (d := 35) rfl (fun hg35 => ?_) (fun hg35 => ?_) | refine AtT.bcase (d := 35) rfl (fun hg35 => ?_) (fun hg35 => ?_))
    all_goals (first | refine AtT.pass rfl rfl rfl rfl rfl rfl (by decide) ?_ | refine AtT.passU rfl rfl rfl rfl rfl rfl (by decide) ?_ | ((refine AtT.move rfl ⟨_, _, rfl, rfl, rfl⟩ rfl (by decide) ?_)))
    all_goals (first | refine AtT.pass rfl rfl rfl rfl rfl rfl (by decide) ?_ | refine AtT.passU rfl rfl rfl rfl rfl rfl (by decide) ?_ | ((refine AtT.gtr rfl ⟨_, _, rfl, rfl, rfl⟩ rfl rfl (by decide) ?_)))
    all_goals (refine AtT.pick rfl trivial rfl rfl rfl (by decide) ?_)
    all_goals refine AtT.done ?_
    all_goals (refine At.nrm ?_)
    all_goals (refine At.meetG () (Le.refl _) ⟨rfl, rfl, rfl, rfl, rfl, bsome ?_, trivial⟩ (by repeat (first | exact Pt.nil | refine Pt.cons (by repeat (first | exact Pick.here | apply Pick.there)) ?_)))
    all_goals (rw [Bool.eq_iff_iff]; simp [*]; try omega)
  rintro _ V2 ks' O' hV2 hk hO hl
  subst hk hO
  have hv2 := hv'.le hV2
  have h2' := h2.le hV2
  have h3' := h3.le hV2
  refine At.condP rfl (fun hb => ?_) (fun hb => ?_)
  · refine At.nrm ?_
    refine At.text (.q 0 (.q 1 (.n true 2 (.n true 3 (.q 4 .done))))) (by kernel_rfl) ?_
    refine AtT.build rfl trivial rfl (bd31) (by decide) ?_
    refine AtT.build rfl trivial rfl (bd31) (by decide) ?_
    refine AtT.storeA rfl trivial rfl rfl tk31 rfl rfl (by rfl) (by repeat (first | exact Upd.here | apply Upd.there)) ?_
    refine AtT.storeA rfl trivial rfl rfl tk31 rfl rfl (by rfl) (by repeat (first | exact Upd.here | apply Upd.there)) ?_
    refine AtT.assign rfl trivial rfl (by decide) ?_
    refine AtT.done ?_
    refine At.nrm ?_
    refine At.ret3 rfl (.agg rfl tk31 (by repeat (first | exact Pick.here | apply Pick.there)) rfl) (.agg rfl tk31 (by repeat (first | exact Pick.here | apply Pick.there)) rfl) (.tmp rfl) ?_
    rw [defR, if_neg (by simp [he0]), if_pos hb]
  have hb0 := hb
  have hr : -2000 ≤ core ∧ core ≤ 2000 ∧ 0 ≤ x ∧ x ≤ 100 := Decidable.not_not.1 hb
  have hcb : -2000 ≤ core ∧ core ≤ 2000 := ⟨hr.1, hr.2.1⟩
  have hxb : 0 ≤ x ∧ x ≤ 100 := hr.2.2
  have bb := best_bd hL
  have rb := rat_bd core 1 (by decide)
  have m1 := mul_bd (a := (bestV L).num) (b := (rat core 1).den) (A := 400000) (B := 1) (by decide) (by decide) (by omega) (by omega) (by omega) (by omega)
  have m2 := mul_bd (a := (rat core 1).num) (b := (bestV L).den) (A := 2000) (B := 400) (by decide) (by decide) (by omega) (by omega) (by omega) (by omega)
  refine At.nrm ?_
  refine At.text (.q 0 (.n false 1 (.q 2 (.n false 3 (.n false 4 .done))))) (by kernel_rfl) ?_
  first | refine AtT.loadOA rfl trivial rfl tk25 (by repeat (first | exact Pick.here | apply Pick.there)) (by rfl) (by decide) ?_ | refine AtT.loadA rfl trivial rfl tk25 (by first | assumption | exact Cells.le (by assumption) (by assumption)) (by rfl) (by decide) ?_ | refine AtT.loadOP rfl trivial rfl tk25 (by repeat (first | exact Pick.here | apply Pick.there)) (by rfl) (by rfl) (by decide) ?_
  refine AtT.callP rfl trivial rfl ok65 (by decide) (bestOf_f L _ _ hv2 hL) ?_
  rintro _ rfl
  refine AtT.move rfl trivial rfl (by decide) ?_
  refine AtT.callP rfl trivial rfl ok51 (by decide) (by_r core 1 _ (by omega) (by omega) (by omega) (by omega)) ?_
  rintro _ rfl
  refine AtT.callP rfl trivial rfl ok45 (by decide) (rless_f (bestV L) (rat core 1) _ (Fit.of (by omega) (by omega)) (Fit.of (by omega) (by omega))) ?_
  rintro _ rfl
  refine AtT.done ?_
  refine At.nrm ?_
  refine At.cond rfl (fun hlt => ?_) (fun hlt => ?_)
  · refine At.nrm ?_
    refine At.text (.q 0 (.q 1 (.n true 2 (.n true 3 (.q 4 .done))))) (by kernel_rfl) ?_
    refine AtT.build rfl trivial rfl (bd31) (by decide) ?_
    refine AtT.build rfl trivial rfl (bd31) (by decide) ?_
    refine AtT.storeA rfl trivial rfl rfl tk31 rfl rfl (by rfl) (by repeat (first | exact Upd.here | apply Upd.there)) ?_
    refine AtT.storeA rfl trivial rfl rfl tk31 rfl rfl (by rfl) (by repeat (first | exact Upd.here | apply Upd.there)) ?_
    refine AtT.assign rfl trivial rfl (by decide) ?_
    refine AtT.done ?_
    refine At.nrm ?_
    refine At.ret3 rfl (.agg rfl tk31 (by repeat (first | exact Pick.here | apply Pick.there)) rfl) (.agg rfl tk31 (by repeat (first | exact Pick.here | apply Pick.there)) rfl) (.tmp rfl) ?_
    rw [defR, if_neg (by simp [he0]), if_neg hb, if_pos hlt]
  refine At.nrm ?_
  refine At.text (.q 0 (.q 1 (.n false 2 (.n false 3 (.n true 4 (.n true 5 .done)))))) (by kernel_rfl) ?_
  refine AtT.build rfl trivial rfl (bd31) (by decide) ?_
  refine AtT.build rfl trivial rfl (bd31) (by decide) ?_
  refine AtT.alloc rfl trivial z31 rfl (by decide) ?_
  intro b9
  refine AtT.alloc rfl trivial z31 rfl (by decide) ?_
  intro b10
  refine AtT.storeA rfl trivial rfl rfl tk31 rfl rfl (by rfl) (by repeat (first | exact Upd.here | apply Upd.there)) ?_
  refine AtT.storeA rfl trivial rfl rfl tk31 rfl rfl (by rfl) (by repeat (first | exact Upd.here | apply Upd.there)) ?_
  refine AtT.done ?_
  refine At.nrm ?_
  refine At.text (.q 0 (.q 1 (.q 2 (.n false 3 (.q 4 (.q 5 (.q 6 (.q 7 (.q 8 .done))))))))) (by kernel_rfl) ?_
  first | refine AtT.loadOA rfl trivial rfl tk25 (by repeat (first | exact Pick.here | apply Pick.there)) (by rfl) (by decide) ?_ | refine AtT.loadA rfl trivial rfl tk25 (by first | assumption | exact Cells.le (by assumption) (by assumption)) (by rfl) (by decide) ?_ | refine AtT.loadOP rfl trivial rfl tk25 (by repeat (first | exact Pick.here | apply Pick.there)) (by rfl) (by rfl) (by decide) ?_
  refine AtT.move rfl trivial rfl (by decide) ?_
  refine AtT.move rfl trivial rfl (by decide) ?_
  refine AtT.call rfl trivial rfl ok72 (by decide) (bounds_f L core x _ _ hv2 hL hcb hxb) ?_
  rintro _ V3 hV3 ⟨v1, v2, rfl, hs1, hs2⟩; obtain ⟨a1, c1, rfl⟩ := hs1.form; obtain ⟨a2, c2, rfl⟩ := hs2.form
  refine AtT.move rfl trivial rfl (by decide) ?_
  refine AtT.extract rfl trivial rfl (by rfl) (by decide) ?_
  refine AtT.extract rfl trivial rfl (by rfl) (by decide) ?_
  refine AtT.assign rfl trivial rfl (by decide) ?_
  refine AtT.assign rfl trivial rfl (by decide) ?_
  refine AtT.done ?_
  refine At.nrm ?_
  refine At.text (.q 0 .done) (by kernel_rfl) ?_
  refine AtT.assign rfl trivial rfl (by decide) ?_
  refine AtT.done ?_
  refine At.nrm ?_
  have hps : ∀ q ∈ leastK L core x L.pl.length, BdB q := fun q hq => leastK_bd hL hcb hxb hq
  have hqs : ∀ q ∈ mostK L core x L.pl.length, BdB q := fun q hq => mostK_bd hL hcb hxb hq
  have hll := leastK_len L core x L.pl.length
  have hml := mostK_len L core x L.pl.length
  refine At.lp (ι := Nat) (KS := fun k => [(1, iv core), (2, iv x), (3, .pointer (some ⟨b3, 0, none⟩)), (6, .pointer (some ⟨b6, 0, none⟩)), (7, .pointer (some ⟨b7, 0, none⟩)), (9, .pointer (some ⟨b9, 0, none⟩)), (10, .pointer (some ⟨b10, 0, none⟩)), (11, .slice a1 (leastK L core x L.pl.length).length c1), (12, .slice a2 (mostK L core x L.pl.length).length c2), (13, iv k)])
    (OS := fun k => [.blk b3 (LC [.slice a L.pl.length c, .slice a' L.ed.length c'] 25), .blk b6 (LC [iv 0, iv 0] 31), .blk b7 (LC [iv 0, iv 0] 31), .blk b9 (LC (rte (zeroK L core x k).1) 31), .blk b10 (LC (rte (zeroK L core x k).2) 31)])
    (VS := fun k V' => V3 = V' ∧ k ≤ L.pl.length) (μ := fun k => L.pl.length - k) 0 ?_ ?_ ?_ ?_
  · exact ⟨rfl, rfl, rfl, rfl, rfl, rfl, rfl, rfl, rfl, rfl, trivial⟩
  · repeat (first | exact Pt.nil | refine Pt.cons (by repeat (first | exact Pick.here | apply Pick.there)) ?_)
  · exact ⟨rfl, Nat.zero_le _⟩
  · rintro k V' ks' O' ⟨rfl, hkl⟩ hk hO hl2
    try dsimp only at hkl hk hO
    subst hk hO
    have h2'' := h2'.le hV3
    have h3'' := h3'.le hV3
    refine At.nrm ?_
    refine At.text (.q 0 (.q 1 (.q 2 (.q 3 (.q 4 .done))))) (by kernel_rfl) ?_
    refine AtT.move rfl trivial rfl (by decide) ?_
    first | refine AtT.fieldO rfl trivial rfl fo25_0 (by decide) ?_ | with_reducible refine AtT.field2 rfl trivial rfl fo25_0 (by decide) ?_ | refine AtT.field rfl trivial rfl fo25_0 (by decide) ?_
    first | refine AtT.loadO rfl trivial rfl tk22 (by repeat (first | exact Pick.here | apply Pick.there)) (by rfl) (by decide) ?_ | refine AtT.load rfl trivial rfl tk22 (by first | exact vcell_of (by assumption) (by rfl) | exact vcell_of0 (by assumption) (by rfl) | exact vcell_of (Cells.le (by assumption) (by assumption)) (by rfl) | exact vcell_of0 (Cells.le (by assumption) (by assumption)) (by rfl)) (by decide) ?_
    first | refine AtT.lenS rfl trivial Try.underlying22 rfl (by first | assumption | exact Sl.le (by assumption) (by assumption)) (by decide) ?_ | refine AtT.lenR rfl trivial Try.underlying22 rfl (by decide) ?_
    refine AtT.lss rfl trivial rfl rfl (by decide) ?_
    refine AtT.done ?_
    refine At.nrm ?_
    refine At.condP rfl (fun hb => ?_) (fun hb => ?_)
    · have pb := hL.plB (i := (k : Int)) (by omega) (by omega)
      have eb := hL.edB (i := (k : Int)) (by omega) (by omega)
      refine At.nrm ?_
      refine At.text (.q 0 (.q 1 (.q 2 (.q 3 (.q 4 (.q 5 (.q 6 .done))))))) (by kernel_rfl) ?_
      first | refine AtT.fieldO rfl trivial rfl fo25_0 (by decide) ?_ | with_reducible refine AtT.field2 rfl trivial rfl fo25_0 (by decide) ?_ | refine AtT.field rfl trivial rfl fo25_0 (by decide) ?_
      first | refine AtT.loadO rfl trivial rfl tk22 (by repeat (first | exact Pick.here | apply Pick.there)) (by rfl) (by decide) ?_ | refine AtT.load rfl trivial rfl tk22 (by first | exact vcell_of (by assumption) (by rfl) | exact vcell_of0 (by assumption) (by rfl) | exact vcell_of (Cells.le (by assumption) (by assumption)) (by rfl) | exact vcell_of0 (Cells.le (by assumption) (by assumption)) (by rfl)) (by decide) ?_
      refine AtT.move rfl trivial rfl (by decide) ?_
      refine AtT.idx rfl trivial Try.underlying22 tk2 rfl (by first | assumption | exact Sl.le (by assumption) (by assumption)) rfl (by omega) (by omega) (by decide) ?_
      intro p67 e67 he67 hc67
      obtain rfl : e67 = plP L k := plP_some he67
      first | refine AtT.loadO rfl trivial rfl tk2 (by repeat (first | exact Pick.here | apply Pick.there)) (by rfl) (by decide) ?_ | refine AtT.load rfl trivial rfl tk2 (by first | exact vcell_of (by assumption) (by rfl) | exact vcell_of0 (by assumption) (by rfl) | exact vcell_of (Cells.le (by assumption) (by assumption)) (by rfl) | exact vcell_of0 (Cells.le (by assumption) (by assumption)) (by rfl)) (by decide) ?_
      refine AtT.move rfl trivial rfl (by decide) ?_
      refine AtT.eqI rfl trivial rfl rfl (by decide) ?_
      refine AtT.done ?_
      refine At.nrm ?_
      refine At.condP rfl (fun hx => ?_) (fun hx => ?_)
      · have ez : zeroK L core x (k + 1) = (rat ((edP L k).lo + core) 1, rat ((edP L k).hi - core) 1) := by simp only [zeroK, if_pos hx]
        refine At.nrm ?_
        refine At.cutG (ι := Unit) (fun _ => [(1, iv core), (2, iv x), (3, .pointer (some ⟨b3, 0, none⟩)), (6, .pointer (some ⟨b6, 0, none⟩)), (7, .pointer (some ⟨b7, 0, none⟩)), (9, .pointer (some ⟨b9, 0, none⟩)), (10, .pointer (some ⟨b10, 0, none⟩)), (11, .slice a1 (leastK L core x L.pl.length).length c1), (12, .slice a2 (mostK L core x L.pl.length).length c2), (13, iv k)])
          (fun _ => [.blk b3 (LC [.slice a L.pl.length c, .slice a' L.ed.length c'] 25), .blk b6 (LC [iv 0, iv 0] 31), .blk b7 (LC [iv 0, iv 0] 31), .blk b9 (LC (rte (rat ((edP L k).lo + core) 1)) 31), .blk b10 (LC (rte (rat ((edP L k).hi - core) 1)) 31)]) (fun _ V' => V3 = V') ?_ ?_
        · refine At.draw (.q 0 (.q 1 (.q 2 (.q 3 (.q 4 (.q 5 (.q 6 (.q 7 (.q 9 (.q 10 (.q 11 (.q 12 (.q 13 (.q 14 (.q 15 (.q 16 (.n false 8 (.n false 17 (.n true 18 (.n true 19 .done)))))))))))))))))))) ffm (by kernel_rfl) ?_
          first | refine AtT.fieldO rfl trivial rfl fo25_1 (by decide) ?_ | with_reducible refine AtT.field2 rfl trivial rfl fo25_1 (by decide) ?_ | refine AtT.field rfl trivial rfl fo25_1 (by decide) ?_
          first | refine AtT.loadO rfl trivial rfl tk23 (by repeat (first | exact Pick.here | apply Pick.there)) (by rfl) (by decide) ?_ | refine AtT.load rfl trivial rfl tk23 (by first | exact vcell_of (by assumption) (by rfl) | exact vcell_of0 (by assumption) (by rfl) | exact vcell_of (Cells.le (by assumption) (by assumption)) (by rfl) | exact vcell_of0 (Cells.le (by assumption) (by assumption)) (by rfl)) (by decide) ?_
          refine AtT.move rfl trivial rfl (by decide) ?_
          refine AtT.idx rfl trivial Try.underlying23 tk69 rfl (by first | assumption | exact Sl.le (by assumption) (by assumption)) rfl (by omega) (by omega) (by decide) ?_
          intro p74 e74 he74 hc74
          obtain rfl : e74 = edP L k := edP_some he74
          first | refine AtT.fieldO rfl trivial rfl fo69_0 (by decide) ?_ | with_reducible refine AtT.field2 rfl trivial rfl fo69_0 (by decide) ?_ | refine AtT.field rfl trivial rfl fo69_0 (by decide) ?_
          first | refine AtT.loadO rfl trivial rfl tk2 (by repeat (first | exact Pick.here | apply Pick.there)) (by rfl) (by decide) ?_ | refine AtT.load rfl trivial rfl tk2 (by first | exact vcell_of (by assumption) (by rfl) | exact vcell_of0 (by assumption) (by rfl) | exact vcell_of (Cells.le (by assumption) (by assumption)) (by rfl) | exact vcell_of0 (Cells.le (by assumption) (by assumption)) (by rfl)) (by decide) ?_
          refine AtT.move rfl trivial rfl (by decide) ?_
          first | refine AtT.add rfl trivial rfl rfl (by decide) (by first | assumption | exact Fit.of (by omega) (by omega)) ?_ | refine AtT.addW rfl trivial rfl rfl (by decide) ?_
          first | refine AtT.fieldO rfl trivial rfl fo25_1 (by decide) ?_ | with_reducible refine AtT.field2 rfl trivial rfl fo25_1 (by decide) ?_ | refine AtT.field rfl trivial rfl fo25_1 (by decide) ?_
          first | refine AtT.loadO rfl trivial rfl tk23 (by repeat (first | exact Pick.here | apply Pick.there)) (by rfl) (by decide) ?_ | refine AtT.load rfl trivial rfl tk23 (by first | exact vcell_of (by assumption) (by rfl) | exact vcell_of0 (by assumption) (by rfl) | exact vcell_of (Cells.le (by assumption) (by assumption)) (by rfl) | exact vcell_of0 (Cells.le (by assumption) (by assumption)) (by rfl)) (by decide) ?_
          refine AtT.move rfl trivial rfl (by decide) ?_
          refine AtT.idx rfl trivial Try.underlying23 tk69 rfl (by first | assumption | exact Sl.le (by assumption) (by assumption)) rfl (by omega) (by omega) (by decide) ?_
          intro p83 e83 he83 hc83
          obtain rfl : e83 = edP L k := edP_some he83
          first | refine AtT.fieldO rfl trivial rfl fo69_1 (by decide) ?_ | with_reducible refine AtT.field2 rfl trivial rfl fo69_1 (by decide) ?_ | refine AtT.field rfl trivial rfl fo69_1 (by decide) ?_
          first | refine AtT.loadO rfl trivial rfl tk2 (by repeat (first | exact Pick.here | apply Pick.there)) (by rfl) (by decide) ?_ | refine AtT.load rfl trivial rfl tk2 (by first | exact vcell_of (by assumption) (by rfl) | exact vcell_of0 (by assumption) (by rfl) | exact vcell_of (Cells.le (by assumption) (by assumption)) (by rfl) | exact vcell_of0 (Cells.le (by assumption) (by assumption)) (by rfl)) (by decide) ?_
          refine AtT.move rfl trivial rfl (by decide) ?_
          first | refine AtT.subt rfl trivial rfl rfl (by decide) (by first | assumption | exact Fit.of (by omega) (by omega)) ?_ | refine AtT.subW rfl trivial rfl rfl (by decide) ?_
          refine AtT.callP rfl trivial rfl ok51 (by decide) (by_r ((edP L k).lo + core) 1 _ (by omega) (by omega) (by omega) (by omega)) ?_
          rintro _ rfl
          refine AtT.callP rfl trivial rfl ok51 (by decide) (by_r ((edP L k).hi - core) 1 _ (by omega) (by omega) (by omega) (by omega)) ?_
          rintro _ rfl
          refine AtT.storeA rfl trivial rfl rfl tk31 rfl rfl (by rfl) (by repeat (first | exact Upd.here | apply Upd.there)) ?_
          refine AtT.storeA rfl trivial rfl rfl tk31 rfl rfl (by rfl) (by repeat (first | exact Upd.here | apply Upd.there)) ?_
          refine AtT.done ?_
          refine At.nrm ?_
          all_goals (refine At.meetG () rfl ⟨rfl, rfl, rfl, rfl, rfl, rfl, rfl, rfl, rfl, rfl, trivial⟩ (by repeat (first | exact Pt.nil | refine Pt.cons (by repeat (first | exact Pick.here | apply Pick.there)) ?_)))
        rintro _ V' ks' O' rfl hk hO hl3
        subst hk hO
        refine At.nrm ?_
        refine At.text (.q 0 (.q 1 (.q 2 .done))) (by kernel_rfl) ?_
        refine AtT.move rfl trivial rfl (by decide) ?_
        first | refine AtT.add rfl trivial rfl rfl (by decide) (by first | assumption | exact Fit.of (by omega) (by omega)) ?_ | refine AtT.addW rfl trivial rfl rfl (by decide) ?_
        refine AtT.assign rfl trivial rfl (by decide) ?_
        refine AtT.done ?_
        refine At.nrm ?_
        refine At.round (k + 1) (by first | omega | (dsimp only; omega)) ⟨rfl, by first | omega | (dsimp only; omega)⟩ ⟨rfl, rfl, rfl, rfl, rfl, rfl, rfl, rfl, rfl, ivs (by first | omega | (dsimp only; omega)), trivial⟩ ?_
        try dsimp only
        rw [ez]
        · repeat (first | exact Pt.nil | refine Pt.cons (by repeat (first | exact Pick.here | apply Pick.there)) ?_)
      · have ez : zeroK L core x (k + 1) = zeroK L core x k := by simp only [zeroK, if_neg hx]
        refine At.nrm ?_
        refine At.text (.q 0 (.q 1 (.q 2 .done))) (by kernel_rfl) ?_
        refine AtT.move rfl trivial rfl (by decide) ?_
        first | refine AtT.add rfl trivial rfl rfl (by decide) (by first | assumption | exact Fit.of (by omega) (by omega)) ?_ | refine AtT.addW rfl trivial rfl rfl (by decide) ?_
        refine AtT.assign rfl trivial rfl (by decide) ?_
        refine AtT.done ?_
        refine At.nrm ?_
        refine At.round (k + 1) (by first | omega | (dsimp only; omega)) ⟨rfl, by first | omega | (dsimp only; omega)⟩ ⟨rfl, rfl, rfl, rfl, rfl, rfl, rfl, rfl, rfl, ivs (by first | omega | (dsimp only; omega)), trivial⟩ ?_
        try dsimp only
        rw [ez]
        · repeat (first | exact Pt.nil | refine Pt.cons (by repeat (first | exact Pick.here | apply Pick.there)) ?_)
    · obtain rfl : k = L.pl.length := by omega
      have zb := zeroK_bd hL hcb (core := core) (x := x) L.pl.length (Nat.le_refl _)
      refine At.nrm ?_
      refine At.text (.q 0 .done) (by kernel_rfl) ?_
      refine AtT.assign rfl trivial rfl (by decide) ?_
      refine AtT.done ?_
      refine At.nrm ?_
      refine At.lp (ι := Nat) (KS := fun i => [(1, iv core), (2, iv x), (3, .pointer (some ⟨b3, 0, none⟩)), (6, .pointer (some ⟨b6, 0, none⟩)), (7, .pointer (some ⟨b7, 0, none⟩)), (9, .pointer (some ⟨b9, 0, none⟩)), (10, .pointer (some ⟨b10, 0, none⟩)), (11, .slice a1 (leastK L core x L.pl.length).length c1), (12, .slice a2 (mostK L core x L.pl.length).length c2), (14, iv i)])
        (OS := fun i => [.blk b3 (LC [.slice a L.pl.length c, .slice a' L.ed.length c'] 25), .blk b6 (LC [iv 0, iv 0] 31), .blk b7 (LC [iv 0, iv 0] 31), .blk b9 (LC (rte (allR (mostK L core x L.pl.length) ((leastK L core x L.pl.length).take i) (zeroK L core x L.pl.length)).1) 31), .blk b10 (LC (rte (allR (mostK L core x L.pl.length) ((leastK L core x L.pl.length).take i) (zeroK L core x L.pl.length)).2) 31)])
        (VS := fun i V' => V3 = V' ∧ i ≤ (leastK L core x L.pl.length).length) (μ := fun i => (leastK L core x L.pl.length).length - i) 0 ?_ ?_ ?_ ?_
      · exact ⟨rfl, rfl, rfl, rfl, rfl, rfl, rfl, rfl, rfl, rfl, trivial⟩
      · repeat (first | exact Pt.nil | refine Pt.cons (by repeat (first | exact Pick.here | apply Pick.there)) ?_)
      · exact ⟨rfl, Nat.zero_le _⟩
      · rintro i V' ks' O' ⟨rfl, hil⟩ hk hO hl2
        try dsimp only at hil hk hO
        subst hk hO
        refine At.nrm ?_
        refine At.text (.q 0 (.q 1 (.q 2 (.q 3 .done)))) (by kernel_rfl) ?_
        refine AtT.move rfl trivial rfl (by decide) ?_
        refine AtT.move rfl trivial rfl (by decide) ?_
        first | refine AtT.lenS rfl trivial Try.underlying100 rfl (by first | assumption | exact Sl.le (by assumption) (by assumption)) (by decide) ?_ | refine AtT.lenR rfl trivial Try.underlying100 rfl (by decide) ?_
        refine AtT.lss rfl trivial rfl rfl (by decide) ?_
        refine AtT.done ?_
        refine At.nrm ?_
        refine At.condP rfl (fun hb => ?_) (fun hb => ?_)
        · obtain ⟨p, hp⟩ : ∃ p, (leastK L core x L.pl.length)[i]? = some p := ⟨_, List.getElem?_eq_getElem (by omega)⟩
          have hpB := hps p (List.mem_of_getElem? hp)
          have htk := take_snoc' hp
          have sb := allR_bd hqs (l := (leastK L core x L.pl.length).take i) (fun q hq => hps q (List.mem_of_mem_take hq)) zb.1 zb.2
          generalize hS : allR (mostK L core x L.pl.length) ((leastK L core x L.pl.length).take i) (zeroK L core x L.pl.length) = S at sb
          refine At.nrm ?_
          refine At.text (.q 0 .done) (by kernel_rfl) ?_
          refine AtT.assign rfl trivial rfl (by decide) ?_
          refine AtT.done ?_
          refine At.nrm ?_
          refine At.lp (ι := Nat) (KS := fun k => [(1, iv core), (2, iv x), (3, .pointer (some ⟨b3, 0, none⟩)), (6, .pointer (some ⟨b6, 0, none⟩)), (7, .pointer (some ⟨b7, 0, none⟩)), (9, .pointer (some ⟨b9, 0, none⟩)), (10, .pointer (some ⟨b10, 0, none⟩)), (11, .slice a1 (leastK L core x L.pl.length).length c1), (12, .slice a2 (mostK L core x L.pl.length).length c2), (14, iv i), (15, iv k)])
            (OS := fun k => [.blk b3 (LC [.slice a L.pl.length c, .slice a' L.ed.length c'] 25), .blk b6 (LC [iv 0, iv 0] 31), .blk b7 (LC [iv 0, iv 0] 31), .blk b9 (LC (rte (rowH p ((mostK L core x L.pl.length).take k) S).1) 31), .blk b10 (LC (rte (rowH p ((mostK L core x L.pl.length).take k) S).2) 31)])
            (VS := fun k V' => V3 = V' ∧ k ≤ (mostK L core x L.pl.length).length) (μ := fun k => (mostK L core x L.pl.length).length - k) 0 ?_ ?_ ?_ ?_
          · exact ⟨rfl, rfl, rfl, rfl, rfl, rfl, rfl, rfl, rfl, rfl, rfl, trivial⟩
          · repeat (first | exact Pt.nil | refine Pt.cons (by repeat (first | exact Pick.here | apply Pick.there)) ?_)
          · exact ⟨rfl, Nat.zero_le _⟩
          · rintro k V' ks' O' ⟨rfl, hkl2⟩ hk hO hl3
            try dsimp only at hkl2 hk hO
            subst hk hO
            refine At.nrm ?_
            refine At.text (.q 0 (.q 1 (.q 2 (.q 3 .done)))) (by kernel_rfl) ?_
            refine AtT.move rfl trivial rfl (by decide) ?_
            refine AtT.move rfl trivial rfl (by decide) ?_
            first | refine AtT.lenS rfl trivial Try.underlying100 rfl (by first | assumption | exact Sl.le (by assumption) (by assumption)) (by decide) ?_ | refine AtT.lenR rfl trivial Try.underlying100 rfl (by decide) ?_
            refine AtT.lss rfl trivial rfl rfl (by decide) ?_
            refine AtT.done ?_
            refine At.nrm ?_
            refine At.condP rfl (fun hb2 => ?_) (fun hb2 => ?_)
            · obtain ⟨q, hq⟩ : ∃ q, (mostK L core x L.pl.length)[k]? = some q := ⟨_, List.getElem?_eq_getElem (by omega)⟩
              have hqB := hqs q (List.mem_of_getElem? hq)
              have htq := take_snoc' hq
              have tb := rowH_bd hpB (l := (mostK L core x L.pl.length).take k) (fun q hq => hqs q (List.mem_of_mem_take hq)) sb.1 sb.2
              have pb := pr_bd hpB hqB
              have ps : (-100 ≤ p.slope * q.den ∧ p.slope * q.den ≤ 100) ∧ (-100 ≤ q.slope * p.den ∧ q.slope * p.den ≤ 100) := by
                obtain ⟨p1, p2, p3, p4, p5⟩ := hpB
                obtain ⟨q1, q2, q3, q4, q5⟩ := hqB
                rcases p5 with e | e <;> rcases q5 with e' | e' <;> rw [e, e'] <;> omega
              generalize hT : rowH p ((mostK L core x L.pl.length).take k) S = T at tb
              have hstep : rowH p ((mostK L core x L.pl.length).take (k + 1)) S = stepH p q T := by rw [htq, rowH_snoc, hT]
              refine At.nrm ?_
              refine At.draw (.q 0 (.q 1 (.q 2 (.q 3 (.q 4 (.q 5 (.q 6 (.q 7 (.q 8 (.q 9 (.q 10 (.q 11 (.q 12 (.q 13 (.q 14 (.q 15 (.q 16 (.q 17 (.q 18 (.q 19 (.q 20 (.q 21 (.q 22 (.q 23 .done)))))))))))))))))))))))) ffm (by kernel_rfl) ?_
              refine AtT.move rfl trivial rfl (by decide) ?_
              refine AtT.move rfl trivial rfl (by decide) ?_
              refine AtT.idx rfl trivial Try.underlying100 tk104 rfl (by first | assumption | exact Sl.le (by assumption) (by assumption)) rfl (by omega) (by omega) (by decide) ?_
              intro p103 e103 he103 hc103
              obtain rfl : p = e103 := by rw [Int.toNat_natCast, hp] at he103; exact Option.some.inj he103
              first | refine AtT.fieldO rfl trivial rfl fo104_2 (by decide) ?_ | with_reducible refine AtT.field2 rfl trivial rfl fo104_2 (by decide) ?_ | refine AtT.field rfl trivial rfl fo104_2 (by decide) ?_
              first | refine AtT.loadO rfl trivial rfl tk2 (by repeat (first | exact Pick.here | apply Pick.there)) (by rfl) (by decide) ?_ | refine AtT.load rfl trivial rfl tk2 (by first | exact vcell_of (by assumption) (by rfl) | exact vcell_of0 (by assumption) (by rfl) | exact vcell_of (Cells.le (by assumption) (by assumption)) (by rfl) | exact vcell_of0 (Cells.le (by assumption) (by assumption)) (by rfl)) (by decide) ?_
              refine AtT.move rfl trivial rfl (by decide) ?_
              refine AtT.move rfl trivial rfl (by decide) ?_
              refine AtT.idx rfl trivial Try.underlying100 tk104 rfl (by first | assumption | exact Sl.le (by assumption) (by assumption)) rfl (by omega) (by omega) (by decide) ?_
              intro p108 e108 he108 hc108
              obtain rfl : q = e108 := by rw [Int.toNat_natCast, hq] at he108; exact Option.some.inj he108
              first | refine AtT.fieldO rfl trivial rfl fo104_0 (by decide) ?_ | with_reducible refine AtT.field2 rfl trivial rfl fo104_0 (by decide) ?_ | refine AtT.field rfl trivial rfl fo104_0 (by decide) ?_
              first | refine AtT.loadO rfl trivial rfl tk2 (by repeat (first | exact Pick.here | apply Pick.there)) (by rfl) (by decide) ?_ | refine AtT.load rfl trivial rfl tk2 (by first | exact vcell_of (by assumption) (by rfl) | exact vcell_of0 (by assumption) (by rfl) | exact vcell_of (Cells.le (by assumption) (by assumption)) (by rfl) | exact vcell_of0 (Cells.le (by assumption) (by assumption)) (by rfl)) (by decide) ?_
              first | refine AtT.mul rfl trivial rfl rfl (by decide) (by first | assumption | exact Fit.of (by omega) (by omega)) ?_ | refine AtT.mulW rfl trivial rfl rfl (by decide) ?_
              refine AtT.move rfl trivial rfl (by decide) ?_
              refine AtT.move rfl trivial rfl (by decide) ?_
              refine AtT.idx rfl trivial Try.underlying100 tk104 rfl (by first | assumption | exact Sl.le (by assumption) (by assumption)) rfl (by omega) (by omega) (by decide) ?_
              intro p114 e114 he114 hc114
              obtain rfl : q = e114 := by rw [Int.toNat_natCast, hq] at he114; exact Option.some.inj he114
              first | refine AtT.fieldO rfl trivial rfl fo104_2 (by decide) ?_ | with_reducible refine AtT.field2 rfl trivial rfl fo104_2 (by decide) ?_ | refine AtT.field rfl trivial rfl fo104_2 (by decide) ?_
              first | refine AtT.loadO rfl trivial rfl tk2 (by repeat (first | exact Pick.here | apply Pick.there)) (by rfl) (by decide) ?_ | refine AtT.load rfl trivial rfl tk2 (by first | exact vcell_of (by assumption) (by rfl) | exact vcell_of0 (by assumption) (by rfl) | exact vcell_of (Cells.le (by assumption) (by assumption)) (by rfl) | exact vcell_of0 (Cells.le (by assumption) (by assumption)) (by rfl)) (by decide) ?_
              refine AtT.move rfl trivial rfl (by decide) ?_
              refine AtT.move rfl trivial rfl (by decide) ?_
              refine AtT.idx rfl trivial Try.underlying100 tk104 rfl (by first | assumption | exact Sl.le (by assumption) (by assumption)) rfl (by omega) (by omega) (by decide) ?_
              intro p119 e119 he119 hc119
              obtain rfl : p = e119 := by rw [Int.toNat_natCast, hp] at he119; exact Option.some.inj he119
              first | refine AtT.fieldO rfl trivial rfl fo104_0 (by decide) ?_ | with_reducible refine AtT.field2 rfl trivial rfl fo104_0 (by decide) ?_ | refine AtT.field rfl trivial rfl fo104_0 (by decide) ?_
              first | refine AtT.loadO rfl trivial rfl tk2 (by repeat (first | exact Pick.here | apply Pick.there)) (by rfl) (by decide) ?_ | refine AtT.load rfl trivial rfl tk2 (by first | exact vcell_of (by assumption) (by rfl) | exact vcell_of0 (by assumption) (by rfl) | exact vcell_of (Cells.le (by assumption) (by assumption)) (by rfl) | exact vcell_of0 (Cells.le (by assumption) (by assumption)) (by rfl)) (by decide) ?_
              first | refine AtT.mul rfl trivial rfl rfl (by decide) (by first | assumption | exact Fit.of (by omega) (by omega)) ?_ | refine AtT.mulW rfl trivial rfl rfl (by decide) ?_
              first | refine AtT.subt rfl trivial rfl rfl (by decide) (by first | assumption | exact Fit.of (by omega) (by omega)) ?_ | refine AtT.subW rfl trivial rfl rfl (by decide) ?_
              refine AtT.assign rfl trivial rfl (by decide) ?_
              refine AtT.done ?_
              refine At.nrm ?_
              refine At.re (d := 16) rfl (show iv (p.slope * q.den - q.slope * p.den) = iv (prA p q) from rfl) ?_
              refine At.draw (.q 0 (.q 1 (.q 2 (.q 3 (.q 4 (.q 5 (.q 6 (.q 7 (.q 8 (.q 9 (.q 10 (.q 11 (.q 12 (.q 13 (.q 14 (.q 15 (.q 16 (.q 17 (.q 18 (.q 19 (.q 20 (.q 21 (.q 22 (.q 23 .done)))))))))))))))))))))))) ffm (by kernel_rfl) ?_
              refine AtT.move rfl trivial rfl (by decide) ?_
              refine AtT.move rfl trivial rfl (by decide) ?_
              refine AtT.idx rfl trivial Try.underlying100 tk104 rfl (by first | assumption | exact Sl.le (by assumption) (by assumption)) rfl (by omega) (by omega) (by decide) ?_
              intro p126 e126 he126 hc126
              obtain rfl : q = e126 := by rw [Int.toNat_natCast, hq] at he126; exact Option.some.inj he126
              first | refine AtT.fieldO rfl trivial rfl fo104_1 (by decide) ?_ | with_reducible refine AtT.field2 rfl trivial rfl fo104_1 (by decide) ?_ | refine AtT.field rfl trivial rfl fo104_1 (by decide) ?_
              first | refine AtT.loadO rfl trivial rfl tk2 (by repeat (first | exact Pick.here | apply Pick.there)) (by rfl) (by decide) ?_ | refine AtT.load rfl trivial rfl tk2 (by first | exact vcell_of (by assumption) (by rfl) | exact vcell_of0 (by assumption) (by rfl) | exact vcell_of (Cells.le (by assumption) (by assumption)) (by rfl) | exact vcell_of0 (Cells.le (by assumption) (by assumption)) (by rfl)) (by decide) ?_
              refine AtT.move rfl trivial rfl (by decide) ?_
              refine AtT.move rfl trivial rfl (by decide) ?_
              refine AtT.idx rfl trivial Try.underlying100 tk104 rfl (by first | assumption | exact Sl.le (by assumption) (by assumption)) rfl (by omega) (by omega) (by decide) ?_
              intro p131 e131 he131 hc131
              obtain rfl : p = e131 := by rw [Int.toNat_natCast, hp] at he131; exact Option.some.inj he131
              first | refine AtT.fieldO rfl trivial rfl fo104_0 (by decide) ?_ | with_reducible refine AtT.field2 rfl trivial rfl fo104_0 (by decide) ?_ | refine AtT.field rfl trivial rfl fo104_0 (by decide) ?_
              first | refine AtT.loadO rfl trivial rfl tk2 (by repeat (first | exact Pick.here | apply Pick.there)) (by rfl) (by decide) ?_ | refine AtT.load rfl trivial rfl tk2 (by first | exact vcell_of (by assumption) (by rfl) | exact vcell_of0 (by assumption) (by rfl) | exact vcell_of (Cells.le (by assumption) (by assumption)) (by rfl) | exact vcell_of0 (Cells.le (by assumption) (by assumption)) (by rfl)) (by decide) ?_
              first | refine AtT.mul rfl trivial rfl rfl (by decide) (by first | assumption | exact Fit.of (by omega) (by omega)) ?_ | refine AtT.mulW rfl trivial rfl rfl (by decide) ?_
              refine AtT.move rfl trivial rfl (by decide) ?_
              refine AtT.move rfl trivial rfl (by decide) ?_
              refine AtT.idx rfl trivial Try.underlying100 tk104 rfl (by first | assumption | exact Sl.le (by assumption) (by assumption)) rfl (by omega) (by omega) (by decide) ?_
              intro p137 e137 he137 hc137
              obtain rfl : p = e137 := by rw [Int.toNat_natCast, hp] at he137; exact Option.some.inj he137
              first | refine AtT.fieldO rfl trivial rfl fo104_1 (by decide) ?_ | with_reducible refine AtT.field2 rfl trivial rfl fo104_1 (by decide) ?_ | refine AtT.field rfl trivial rfl fo104_1 (by decide) ?_
              first | refine AtT.loadO rfl trivial rfl tk2 (by repeat (first | exact Pick.here | apply Pick.there)) (by rfl) (by decide) ?_ | refine AtT.load rfl trivial rfl tk2 (by first | exact vcell_of (by assumption) (by rfl) | exact vcell_of0 (by assumption) (by rfl) | exact vcell_of (Cells.le (by assumption) (by assumption)) (by rfl) | exact vcell_of0 (Cells.le (by assumption) (by assumption)) (by rfl)) (by decide) ?_
              refine AtT.move rfl trivial rfl (by decide) ?_
              refine AtT.move rfl trivial rfl (by decide) ?_
              refine AtT.idx rfl trivial Try.underlying100 tk104 rfl (by first | assumption | exact Sl.le (by assumption) (by assumption)) rfl (by omega) (by omega) (by decide) ?_
              intro p142 e142 he142 hc142
              obtain rfl : q = e142 := by rw [Int.toNat_natCast, hq] at he142; exact Option.some.inj he142
              first | refine AtT.fieldO rfl trivial rfl fo104_0 (by decide) ?_ | with_reducible refine AtT.field2 rfl trivial rfl fo104_0 (by decide) ?_ | refine AtT.field rfl trivial rfl fo104_0 (by decide) ?_
              first | refine AtT.loadO rfl trivial rfl tk2 (by repeat (first | exact Pick.here | apply Pick.there)) (by rfl) (by decide) ?_ | refine AtT.load rfl trivial rfl tk2 (by first | exact vcell_of (by assumption) (by rfl) | exact vcell_of0 (by assumption) (by rfl) | exact vcell_of (Cells.le (by assumption) (by assumption)) (by rfl) | exact vcell_of0 (Cells.le (by assumption) (by assumption)) (by rfl)) (by decide) ?_
              first | refine AtT.mul rfl trivial rfl rfl (by decide) (by first | assumption | exact Fit.of (by omega) (by omega)) ?_ | refine AtT.mulW rfl trivial rfl rfl (by decide) ?_
              first | refine AtT.subt rfl trivial rfl rfl (by decide) (by first | assumption | exact Fit.of (by omega) (by omega)) ?_ | refine AtT.subW rfl trivial rfl rfl (by decide) ?_
              refine AtT.assign rfl trivial rfl (by decide) ?_
              refine AtT.done ?_
              refine At.nrm ?_
              refine At.re (d := 17) rfl (show iv (q.start * p.den - p.start * q.den) = iv (prB p q) from rfl) ?_
              refine At.cutG (ι := Unit) (fun _ => [(1, iv core), (2, iv x), (3, .pointer (some ⟨b3, 0, none⟩)), (6, .pointer (some ⟨b6, 0, none⟩)), (7, .pointer (some ⟨b7, 0, none⟩)), (9, .pointer (some ⟨b9, 0, none⟩)), (10, .pointer (some ⟨b10, 0, none⟩)), (11, .slice a1 (leastK L core x L.pl.length).length c1), (12, .slice a2 (mostK L core x L.pl.length).length c2), (14, iv i), (15, iv k), (16, iv (prA p q)), (17, iv (prB p q)), (160, .bool (decide (0 < prA p q ∧ (T.2.den = 0 ∨ lessB (rat (prB p q) (prA p q)) T.2 = true))))]) (fun _ => [.blk b3 (LC [.slice a L.pl.length c, .slice a' L.ed.length c'] 25), .blk b6 (LC [iv 0, iv 0] 31), .blk b7 (LC [iv 0, iv 0] 31), .blk b9 (LC (rte T.1) 31), .blk b10 (LC (rte T.2) 31)]) (fun _ V' => V3 = V') ?_ ?_
              · refine At.draw (.q 0 (.q 1 (.q 2 (.q 3 (.q 4 (.q 5 (.q 6 (.q 7 (.q 8 (.q 10 (.n false 9 (.n false 11 (.q 12 (.q 13 .done)))))))))))))) ffm (by kernel_rfl) ?_
                refine AtT.move rfl trivial rfl (by decide) ?_
                refine AtT.gtr rfl trivial rfl rfl (by decide) ?_
                refine AtT.move rfl trivial rfl (by decide) ?_
                all_goals (first | refine AtT.litT (d := 149) rfl ?_ | refine AtT.litF (d := 149) rfl ?_ | refine AtT.litU (d := 149) rfl ?_ | refine AtT.pcase (d := 149) rfl (fun hg149 => ?_) (fun hg149 => ?_) | refine AtT.bcase (d := 149) rfl (fun hg149 => ?_) (fun hg149 => ?_))
                all_goals (first | refine AtT.pass rfl rfl rfl rfl rfl rfl (by decide) ?_ | refine AtT.passU rfl rfl rfl rfl rfl rfl (by decide) ?_ | ((first | refine AtT.fieldO rfl ⟨_, _, rfl, rfl, rfl⟩ rfl fo31_1 (by decide) ?_ | with_reducible refine AtT.field2 rfl ⟨_, _, rfl, rfl, rfl⟩ rfl fo31_1 (by decide) ?_ | refine AtT.field rfl ⟨_, _, rfl, rfl, rfl⟩ rfl fo31_1 (by decide) ?_)))
                all_goals (first | refine AtT.pass rfl rfl rfl rfl rfl rfl (by decide) ?_ | refine AtT.passU rfl rfl rfl rfl rfl rfl (by decide) ?_ | ((first | refine AtT.loadO rfl ⟨_, _, rfl, rfl, rfl⟩ rfl tk2 (by repeat (first | exact Pick.here | apply Pick.there)) (by rfl) (by decide) ?_ | refine AtT.load rfl ⟨_, _, rfl, rfl, rfl⟩ rfl tk2 (by first | exact vcell_of (by assumption) (by rfl) | exact vcell_of0 (by assumption) (by rfl) | exact vcell_of (Cells.le (by assumption) (by assumption)) (by rfl) | exact vcell_of0 (Cells.le (by assumption) (by assumption)) (by rfl)) (by decide) ?_)))
                all_goals (first | refine AtT.pass rfl rfl rfl rfl rfl rfl (by decide) ?_ | refine AtT.passU rfl rfl rfl rfl rfl rfl (by decide) ?_ | ((refine AtT.eqI rfl ⟨_, _, rfl, rfl, rfl⟩ rfl rfl (by decide) ?_)))
                all_goals (first | refine AtT.pass rfl rfl rfl rfl rfl rfl (by decide) ?_ | refine AtT.passU rfl rfl rfl rfl rfl rfl (by decide) ?_ | ((refine AtT.move rfl ⟨_, _, rfl, rfl, rfl⟩ rfl (by decide) ?_)))
                all_goals (first | refine AtT.litT (d := 153) rfl ?_ | refine AtT.litF (d := 153) rfl ?_ | refine AtT.litU (d := 153) rfl ?_ | refine AtT.pcase (d := 153) rfl (fun hg153 => ?_) (fun hg153 => ?_) | refine AtT.bcase (d := 153) rfl (fun hg153 => ?_) (fun hg153 => ?_))
                all_goals (first | refine AtT.pass rfl rfl rfl rfl rfl rfl (by decide) ?_ | refine AtT.passU rfl rfl rfl rfl rfl rfl (by decide) ?_ | ((refine AtT.move rfl ⟨_, _, rfl, rfl, rfl⟩ rfl (by decide) ?_)))
                all_goals (first | refine AtT.pass rfl rfl rfl rfl rfl rfl (by decide) ?_ | refine AtT.passU rfl rfl rfl rfl rfl rfl (by decide) ?_ | ((refine AtT.move rfl ⟨_, _, rfl, rfl, rfl⟩ rfl (by decide) ?_)))
                all_goals (first | refine AtT.pass rfl rfl rfl rfl rfl rfl (by decide) ?_ | refine AtT.passU rfl rfl rfl rfl rfl rfl (by decide) ?_ | ((first | refine AtT.loadOA rfl ⟨_, _, rfl, rfl, rfl⟩ rfl tk31 (by repeat (first | exact Pick.here | apply Pick.there)) (by rfl) (by decide) ?_ | refine AtT.loadA rfl ⟨_, _, rfl, rfl, rfl⟩ rfl tk31 (by first | assumption | exact Cells.le (by assumption) (by assumption)) (by rfl) (by decide) ?_ | refine AtT.loadOP rfl ⟨_, _, rfl, rfl, rfl⟩ rfl tk31 (by repeat (first | exact Pick.here | apply Pick.there)) (by rfl) (by rfl) (by decide) ?_)))
                all_goals (first | refine AtT.passN rfl rfl rfl rfl rfl rfl (by decide) ?_ | refine AtT.passNU rfl rfl rfl rfl rfl rfl (by decide) ?_ | ((refine AtT.callP rfl ⟨_, _, rfl, rfl, rfl⟩ rfl ok51 (by decide) (by_r (prB p q) (prA p q) _ (by omega) (by omega) hg149 (by omega)) ?_) ; (rintro _ rfl)))
                all_goals (first | refine AtT.passN rfl rfl rfl rfl rfl rfl (by decide) ?_ | refine AtT.passNU rfl rfl rfl rfl rfl rfl (by decide) ?_ | ((refine AtT.callP rfl ⟨_, _, rfl, rfl, rfl⟩ rfl ok45 (by decide) (rless_f (rat (prB p q) (prA p q)) T.2 _ (hg_fit (rat_hg (by omega) (by omega) hg149 (by omega)).1 tb.2) (hg_fit tb.2 (rat_hg (by omega) (by omega) hg149 (by omega)).1)) ?_) ; (rintro _ rfl)))
                all_goals (first | refine AtT.pass rfl rfl rfl rfl rfl rfl (by decide) ?_ | refine AtT.passU rfl rfl rfl rfl rfl rfl (by decide) ?_ | ((refine AtT.pick rfl ⟨_, _, rfl, rfl, rfl⟩ rfl rfl rfl (by decide) ?_)))
                all_goals (refine AtT.pick rfl trivial rfl rfl rfl (by decide) ?_)
                all_goals refine AtT.done ?_
                all_goals (refine At.nrm ?_)
                all_goals (refine At.meetG () rfl ⟨rfl, rfl, rfl, rfl, rfl, rfl, rfl, rfl, rfl, rfl, rfl, rfl, rfl, bsome ?_, trivial⟩ (by repeat (first | exact Pt.nil | refine Pt.cons (by repeat (first | exact Pick.here | apply Pick.there)) ?_)))
                all_goals (rw [Bool.eq_iff_iff]; simp [*])
              rintro _ V' ks' O' rfl hk hO hl4
              subst hk hO
              refine At.nrm ?_
              refine At.cutG (ι := Unit) (fun _ => [(1, iv core), (2, iv x), (3, .pointer (some ⟨b3, 0, none⟩)), (6, .pointer (some ⟨b6, 0, none⟩)), (7, .pointer (some ⟨b7, 0, none⟩)), (9, .pointer (some ⟨b9, 0, none⟩)), (10, .pointer (some ⟨b10, 0, none⟩)), (11, .slice a1 (leastK L core x L.pl.length).length c1), (12, .slice a2 (mostK L core x L.pl.length).length c2), (14, iv i), (15, iv k), (16, iv (prA p q)), (17, iv (prB p q))]) (fun _ => [.blk b3 (LC [.slice a L.pl.length c, .slice a' L.ed.length c'] 25), .blk b6 (LC [iv 0, iv 0] 31), .blk b7 (LC [iv 0, iv 0] 31), .blk b9 (LC (rte T.1) 31), .blk b10 (LC (rte (stepH p q T).2) 31)]) (fun _ V' => V3 = V') ?_ ?_
              · refine At.condP rfl (fun hc => ?_) (fun hc => ?_)
                · have e2 : (stepH p q T).2 = rat (prB p q) (prA p q) := by unfold stepH; exact if_pos hc
                  refine At.nrm ?_
                  refine At.text (.q 0 (.q 1 (.n false 2 (.n true 3 .done)))) (by kernel_rfl) ?_
                  refine AtT.move rfl trivial rfl (by decide) ?_
                  refine AtT.move rfl trivial rfl (by decide) ?_
                  refine AtT.callP rfl trivial rfl ok51 (by decide) (by_r (prB p q) (prA p q) _ (by omega) (by omega) hc.1 (by omega)) ?_
                  rintro _ rfl
                  refine AtT.storeA rfl trivial rfl rfl tk31 rfl rfl (by rfl) (by repeat (first | exact Upd.here | apply Upd.there)) ?_
                  refine AtT.done ?_
                  refine At.nrm ?_
                  refine At.meetG () rfl ⟨rfl, rfl, rfl, rfl, rfl, rfl, rfl, rfl, rfl, rfl, rfl, rfl, rfl, trivial⟩ ?_
                  rw [e2]
                  · repeat (first | exact Pt.nil | refine Pt.cons (by repeat (first | exact Pick.here | apply Pick.there)) ?_)
                · have e2 : (stepH p q T).2 = T.2 := by unfold stepH; exact if_neg hc
                  refine At.nrm ?_
                  refine At.meetG () rfl ⟨rfl, rfl, rfl, rfl, rfl, rfl, rfl, rfl, rfl, rfl, rfl, rfl, rfl, trivial⟩ ?_
                  rw [e2]
                  · repeat (first | exact Pt.nil | refine Pt.cons (by repeat (first | exact Pick.here | apply Pick.there)) ?_)
              rintro _ V' ks' O' rfl hk hO hl5
              subst hk hO
              refine At.nrm ?_
              refine At.cutG (ι := Unit) (fun _ => [(1, iv core), (2, iv x), (3, .pointer (some ⟨b3, 0, none⟩)), (6, .pointer (some ⟨b6, 0, none⟩)), (7, .pointer (some ⟨b7, 0, none⟩)), (9, .pointer (some ⟨b9, 0, none⟩)), (10, .pointer (some ⟨b10, 0, none⟩)), (11, .slice a1 (leastK L core x L.pl.length).length c1), (12, .slice a2 (mostK L core x L.pl.length).length c2), (14, iv i), (15, iv k), (16, iv (prA p q)), (17, iv (prB p q)), (179, .bool (decide (prA p q < 0 ∧ (T.1.den = 0 ∨ lessB T.1 (rat (-prB p q) (-prA p q)) = true))))]) (fun _ => [.blk b3 (LC [.slice a L.pl.length c, .slice a' L.ed.length c'] 25), .blk b6 (LC [iv 0, iv 0] 31), .blk b7 (LC [iv 0, iv 0] 31), .blk b9 (LC (rte T.1) 31), .blk b10 (LC (rte (stepH p q T).2) 31)]) (fun _ V' => V3 = V') ?_ ?_
              · refine At.draw (.q 0 (.q 1 (.q 2 (.q 3 (.q 4 (.q 5 (.q 6 (.q 7 (.q 8 (.q 9 (.q 10 (.q 11 (.n false 12 (.n false 13 (.q 14 (.q 15 .done)))))))))))))))) ffm (by kernel_rfl) ?_
                refine AtT.move rfl trivial rfl (by decide) ?_
                refine AtT.lss rfl trivial rfl rfl (by decide) ?_
                refine AtT.move rfl trivial rfl (by decide) ?_
                all_goals (first | refine AtT.litT (d := 166) rfl ?_ | refine AtT.litF (d := 166) rfl ?_ | refine AtT.litU (d := 166) rfl ?_ | refine AtT.pcase (d := 166) rfl (fun hg166 => ?_) (fun hg166 => ?_) | refine AtT.bcase (d := 166) rfl (fun hg166 => ?_) (fun hg166 => ?_))
                all_goals (first | refine AtT.pass rfl rfl rfl rfl rfl rfl (by decide) ?_ | refine AtT.passU rfl rfl rfl rfl rfl rfl (by decide) ?_ | ((first | refine AtT.fieldO rfl ⟨_, _, rfl, rfl, rfl⟩ rfl fo31_1 (by decide) ?_ | with_reducible refine AtT.field2 rfl ⟨_, _, rfl, rfl, rfl⟩ rfl fo31_1 (by decide) ?_ | refine AtT.field rfl ⟨_, _, rfl, rfl, rfl⟩ rfl fo31_1 (by decide) ?_)))
                all_goals (first | refine AtT.pass rfl rfl rfl rfl rfl rfl (by decide) ?_ | refine AtT.passU rfl rfl rfl rfl rfl rfl (by decide) ?_ | ((first | refine AtT.loadO rfl ⟨_, _, rfl, rfl, rfl⟩ rfl tk2 (by repeat (first | exact Pick.here | apply Pick.there)) (by rfl) (by decide) ?_ | refine AtT.load rfl ⟨_, _, rfl, rfl, rfl⟩ rfl tk2 (by first | exact vcell_of (by assumption) (by rfl) | exact vcell_of0 (by assumption) (by rfl) | exact vcell_of (Cells.le (by assumption) (by assumption)) (by rfl) | exact vcell_of0 (Cells.le (by assumption) (by assumption)) (by rfl)) (by decide) ?_)))
                all_goals (first | refine AtT.pass rfl rfl rfl rfl rfl rfl (by decide) ?_ | refine AtT.passU rfl rfl rfl rfl rfl rfl (by decide) ?_ | ((refine AtT.eqI rfl ⟨_, _, rfl, rfl, rfl⟩ rfl rfl (by decide) ?_)))
                all_goals (first | refine AtT.pass rfl rfl rfl rfl rfl rfl (by decide) ?_ | refine AtT.passU rfl rfl rfl rfl rfl rfl (by decide) ?_ | ((refine AtT.move rfl ⟨_, _, rfl, rfl, rfl⟩ rfl (by decide) ?_)))
                all_goals (first | refine AtT.litT (d := 170) rfl ?_ | refine AtT.litF (d := 170) rfl ?_ | refine AtT.litU (d := 170) rfl ?_ | refine AtT.pcase (d := 170) rfl (fun hg170 => ?_) (fun hg170 => ?_) | refine AtT.bcase (d := 170) rfl (fun hg170 => ?_) (fun hg170 => ?_))
                all_goals (first | refine AtT.pass rfl rfl rfl rfl rfl rfl (by decide) ?_ | refine AtT.passU rfl rfl rfl rfl rfl rfl (by decide) ?_ | ((first | refine AtT.loadOA rfl ⟨_, _, rfl, rfl, rfl⟩ rfl tk31 (by repeat (first | exact Pick.here | apply Pick.there)) (by rfl) (by decide) ?_ | refine AtT.loadA rfl ⟨_, _, rfl, rfl, rfl⟩ rfl tk31 (by first | assumption | exact Cells.le (by assumption) (by assumption)) (by rfl) (by decide) ?_ | refine AtT.loadOP rfl ⟨_, _, rfl, rfl, rfl⟩ rfl tk31 (by repeat (first | exact Pick.here | apply Pick.there)) (by rfl) (by rfl) (by decide) ?_)))
                all_goals (first | refine AtT.pass rfl rfl rfl rfl rfl rfl (by decide) ?_ | refine AtT.passU rfl rfl rfl rfl rfl rfl (by decide) ?_ | ((refine AtT.move rfl ⟨_, _, rfl, rfl, rfl⟩ rfl (by decide) ?_)))
                all_goals (first | refine AtT.pass rfl rfl rfl rfl rfl rfl (by decide) ?_ | refine AtT.passU rfl rfl rfl rfl rfl rfl (by decide) ?_ | ((first | refine AtT.neg rfl ⟨_, _, rfl, rfl, rfl⟩ rfl (by decide) (by first | assumption | exact Fit.of (by omega) (by omega)) ?_ | refine AtT.negW rfl ⟨_, _, rfl, rfl, rfl⟩ rfl (by decide) ?_)))
                all_goals (first | refine AtT.pass rfl rfl rfl rfl rfl rfl (by decide) ?_ | refine AtT.passU rfl rfl rfl rfl rfl rfl (by decide) ?_ | ((refine AtT.move rfl ⟨_, _, rfl, rfl, rfl⟩ rfl (by decide) ?_)))
                all_goals (first | refine AtT.pass rfl rfl rfl rfl rfl rfl (by decide) ?_ | refine AtT.passU rfl rfl rfl rfl rfl rfl (by decide) ?_ | ((first | refine AtT.neg rfl ⟨_, _, rfl, rfl, rfl⟩ rfl (by decide) (by first | assumption | exact Fit.of (by omega) (by omega)) ?_ | refine AtT.negW rfl ⟨_, _, rfl, rfl, rfl⟩ rfl (by decide) ?_)))
                all_goals (first | refine AtT.passN rfl rfl rfl rfl rfl rfl (by decide) ?_ | refine AtT.passNU rfl rfl rfl rfl rfl rfl (by decide) ?_ | ((refine AtT.callP rfl ⟨_, _, rfl, rfl, rfl⟩ rfl ok51 (by decide) (by_r (-prB p q) (-prA p q) _ (by omega) (by omega) (by omega) (by omega)) ?_) ; (rintro _ rfl)))
                all_goals (first | refine AtT.passN rfl rfl rfl rfl rfl rfl (by decide) ?_ | refine AtT.passNU rfl rfl rfl rfl rfl rfl (by decide) ?_ | ((refine AtT.callP rfl ⟨_, _, rfl, rfl, rfl⟩ rfl ok45 (by decide) (rless_f T.1 (rat (-prB p q) (-prA p q)) _ (hg_fit tb.1 (rat_hg (by omega) (by omega) (by omega) (by omega)).1) (hg_fit (rat_hg (by omega) (by omega) (by omega) (by omega)).1 tb.1)) ?_) ; (rintro _ rfl)))
                all_goals (first | refine AtT.pass rfl rfl rfl rfl rfl rfl (by decide) ?_ | refine AtT.passU rfl rfl rfl rfl rfl rfl (by decide) ?_ | ((refine AtT.pick rfl ⟨_, _, rfl, rfl, rfl⟩ rfl rfl rfl (by decide) ?_)))
                all_goals (refine AtT.pick rfl trivial rfl rfl rfl (by decide) ?_)
                all_goals refine AtT.done ?_
                all_goals (refine At.nrm ?_)
                all_goals (refine At.meetG () rfl ⟨rfl, rfl, rfl, rfl, rfl, rfl, rfl, rfl, rfl, rfl, rfl, rfl, rfl, bsome ?_, trivial⟩ (by repeat (first | exact Pt.nil | refine Pt.cons (by repeat (first | exact Pick.here | apply Pick.there)) ?_)))
                all_goals (rw [Bool.eq_iff_iff]; simp [*])
              rintro _ V' ks' O' rfl hk hO hl6
              subst hk hO
              refine At.nrm ?_
              refine At.cutG (ι := Unit) (fun _ => [(1, iv core), (2, iv x), (3, .pointer (some ⟨b3, 0, none⟩)), (6, .pointer (some ⟨b6, 0, none⟩)), (7, .pointer (some ⟨b7, 0, none⟩)), (9, .pointer (some ⟨b9, 0, none⟩)), (10, .pointer (some ⟨b10, 0, none⟩)), (11, .slice a1 (leastK L core x L.pl.length).length c1), (12, .slice a2 (mostK L core x L.pl.length).length c2), (14, iv i), (15, iv k), (16, iv (prA p q)), (17, iv (prB p q))]) (fun _ => [.blk b3 (LC [.slice a L.pl.length c, .slice a' L.ed.length c'] 25), .blk b6 (LC [iv 0, iv 0] 31), .blk b7 (LC [iv 0, iv 0] 31), .blk b9 (LC (rte (stepH p q T).1) 31), .blk b10 (LC (rte (stepH p q T).2) 31)]) (fun _ V' => V3 = V') ?_ ?_
              · refine At.condP rfl (fun hc => ?_) (fun hc => ?_)
                · have e1 : (stepH p q T).1 = rat (-prB p q) (-prA p q) := by unfold stepH; exact if_pos hc
                  refine At.nrm ?_
                  refine At.text (.q 0 (.q 1 (.q 2 (.q 3 (.n false 4 (.n true 5 .done)))))) (by kernel_rfl) ?_
                  refine AtT.move rfl trivial rfl (by decide) ?_
                  first | refine AtT.neg rfl trivial rfl (by decide) (by first | assumption | exact Fit.of (by omega) (by omega)) ?_ | refine AtT.negW rfl trivial rfl (by decide) ?_
                  refine AtT.move rfl trivial rfl (by decide) ?_
                  first | refine AtT.neg rfl trivial rfl (by decide) (by first | assumption | exact Fit.of (by omega) (by omega)) ?_ | refine AtT.negW rfl trivial rfl (by decide) ?_
                  refine AtT.callP rfl trivial rfl ok51 (by decide) (by_r (-prB p q) (-prA p q) _ (by omega) (by omega) (by omega) (by omega)) ?_
                  rintro _ rfl
                  refine AtT.storeA rfl trivial rfl rfl tk31 rfl rfl (by rfl) (by repeat (first | exact Upd.here | apply Upd.there)) ?_
                  refine AtT.done ?_
                  refine At.nrm ?_
                  refine At.meetG () rfl ⟨rfl, rfl, rfl, rfl, rfl, rfl, rfl, rfl, rfl, rfl, rfl, rfl, rfl, trivial⟩ ?_
                  rw [e1]
                  · repeat (first | exact Pt.nil | refine Pt.cons (by repeat (first | exact Pick.here | apply Pick.there)) ?_)
                · have e1 : (stepH p q T).1 = T.1 := by unfold stepH; exact if_neg hc
                  refine At.nrm ?_
                  refine At.meetG () rfl ⟨rfl, rfl, rfl, rfl, rfl, rfl, rfl, rfl, rfl, rfl, rfl, rfl, rfl, trivial⟩ ?_
                  rw [e1]
                  · repeat (first | exact Pt.nil | refine Pt.cons (by repeat (first | exact Pick.here | apply Pick.there)) ?_)
              rintro _ V' ks' O' rfl hk hO hl7
              subst hk hO
              refine At.nrm ?_
              refine At.text (.q 0 (.q 1 (.q 2 .done))) (by kernel_rfl) ?_
              refine AtT.move rfl trivial rfl (by decide) ?_
              first | refine AtT.add rfl trivial rfl rfl (by decide) (by first | assumption | exact Fit.of (by omega) (by omega)) ?_ | refine AtT.addW rfl trivial rfl rfl (by decide) ?_
              refine AtT.assign rfl trivial rfl (by decide) ?_
              refine AtT.done ?_
              refine At.nrm ?_
              refine At.round (k + 1) (by first | omega | (dsimp only; omega)) ⟨rfl, by first | omega | (dsimp only; omega)⟩ ⟨rfl, rfl, rfl, rfl, rfl, rfl, rfl, rfl, rfl, rfl, ivs (by first | omega | (dsimp only; omega)), trivial⟩ ?_
              try dsimp only
              rw [hstep]
              · repeat (first | exact Pt.nil | refine Pt.cons (by repeat (first | exact Pick.here | apply Pick.there)) ?_)
            · obtain rfl : k = (mostK L core x L.pl.length).length := by omega
              have hstep : allR (mostK L core x L.pl.length) ((leastK L core x L.pl.length).take (i + 1)) (zeroK L core x L.pl.length) = rowH p (mostK L core x L.pl.length) S := by rw [htk, allR_snoc, hS]
              rw [List.take_length]
              refine At.nrm ?_
              refine At.text (.q 0 (.q 1 (.q 2 .done))) (by kernel_rfl) ?_
              refine AtT.move rfl trivial rfl (by decide) ?_
              first | refine AtT.add rfl trivial rfl rfl (by decide) (by first | assumption | exact Fit.of (by omega) (by omega)) ?_ | refine AtT.addW rfl trivial rfl rfl (by decide) ?_
              refine AtT.assign rfl trivial rfl (by decide) ?_
              refine AtT.done ?_
              refine At.nrm ?_
              refine At.round (i + 1) (by first | omega | (dsimp only; omega)) ⟨rfl, by first | omega | (dsimp only; omega)⟩ ⟨rfl, rfl, rfl, rfl, rfl, rfl, rfl, rfl, rfl, ivs (by first | omega | (dsimp only; omega)), trivial⟩ ?_
              try dsimp only
              rw [hstep]
              · repeat (first | exact Pt.nil | refine Pt.cons (by repeat (first | exact Pick.here | apply Pick.there)) ?_)
        · obtain rfl : i = (leastK L core x L.pl.length).length := by omega
          rw [List.take_length]
          refine At.nrm ?_
          refine At.drawC [.blk b9 (LC (rte (allR (mostK L core x L.pl.length) (leastK L core x L.pl.length) (zeroK L core x L.pl.length)).1) 31), .blk b10 (LC (rte (allR (mostK L core x L.pl.length) (leastK L core x L.pl.length) (zeroK L core x L.pl.length)).2) 31)] (.q 0 (.q 1 (.n false 2 (.n false 3 (.q 4 .done))))) ffm (by kernel_rfl) (by repeat (first | exact Pt.nil | refine Pt.cons (by repeat (first | exact Pick.here | apply Pick.there)) ?_)) ?_
          refine AtC.pre (fun hle0 => ?_)
          apply AtC.q
          · first | refine AtT.loadOA rfl trivial rfl tk31 (by repeat (first | exact Pick.here | apply Pick.there)) (by rfl) (by decide) ?_ | refine AtT.loadA rfl trivial rfl tk31 (by first | assumption | exact Cells.le (by assumption) (by assumption)) (by rfl) (by decide) ?_ | refine AtT.loadOP rfl trivial rfl tk31 (by repeat (first | exact Pick.here | apply Pick.there)) (by rfl) (by rfl) (by decide) ?_
            exact At.knows
          · exact AtC.sub1 (by repeat (first | exact Pt.nil | refine Pt.cons (by repeat (first | exact Pick.here | apply Pick.there)) ?_)) (by first | exact Le.refl _ | assumption | exact Le.trans (by assumption) (by assumption)) (by assumption)
          apply AtC.q
          · first | refine AtT.loadOA rfl trivial rfl tk31 (by repeat (first | exact Pick.here | apply Pick.there)) (by rfl) (by decide) ?_ | refine AtT.loadA rfl trivial rfl tk31 (by first | assumption | exact Cells.le (by assumption) (by assumption)) (by rfl) (by decide) ?_ | refine AtT.loadOP rfl trivial rfl tk31 (by repeat (first | exact Pick.here | apply Pick.there)) (by rfl) (by rfl) (by decide) ?_
            exact At.knows
          · exact AtC.sub1 (by repeat (first | exact Pt.nil | refine Pt.cons (by repeat (first | exact Pick.here | apply Pick.there)) ?_)) (by first | exact Le.refl _ | assumption | exact Le.trans (by assumption) (by assumption)) (by assumption)
          refine AtC.nz ?_
          refine AtT.storeA rfl trivial rfl rfl tk31 rfl rfl (by rfl) (by repeat (first | exact Upd.here | apply Upd.there)) ?_
          refine AtC.go (by repeat (first | exact Pt.nil | refine Pt.cons (by repeat (first | exact Pick.here | apply Pick.there)) ?_)) (by first | exact Le.refl _ | assumption | exact Le.trans (by assumption) (by assumption)) ?_
          refine AtC.nz ?_
          refine AtT.storeA rfl trivial rfl rfl tk31 rfl rfl (by rfl) (by repeat (first | exact Upd.here | apply Upd.there)) ?_
          refine AtC.go (by repeat (first | exact Pt.nil | refine Pt.cons (by repeat (first | exact Pick.here | apply Pick.there)) ?_)) (by first | exact Le.refl _ | assumption | exact Le.trans (by assumption) (by assumption)) ?_
          apply AtC.q
          · refine AtT.assign rfl trivial rfl (by decide) ?_
            exact At.knows
          · exact AtC.sub1 (by repeat (first | exact Pt.nil | refine Pt.cons (by repeat (first | exact Pick.here | apply Pick.there)) ?_)) (by first | exact Le.refl _ | assumption | exact Le.trans (by assumption) (by assumption)) (by assumption)
          refine AtC.done ?_
          refine At.nrm ?_
          refine At.ret3 rfl (.agg rfl tk31 (by repeat (first | exact Pick.here | apply Pick.there)) rfl) (.agg rfl tk31 (by repeat (first | exact Pick.here | apply Pick.there)) rfl) (.tmp rfl) ?_
          rw [defR, if_neg (by simp [he0]), if_neg hb0, if_neg (by simp [hlt])]
          rfl
end Go.Proofs.Ytnionkopmncopaa
set_option linter.unusedVariables false
namespace Go.Proofs.Ytnionkopmncopaa
open Go.Pl

theorem keeps_le {L : Lg} {c d h s : Rat} (hk : Keeps L c h s) (hd : d ≤ c) : Keeps L d h s := fun m hm => by
  have := hk m hm
  simp only [loq, hiq] at this ⊢
  exact ⟨by grind, by grind⟩

/-! ### What the program looks at -/
theorem gate_lo {L : Lg} (hL : LgOk L) (core : Int) {j : Nat} (hj : j < L.pl.length) : gate (gK L core L.pl.length) j = gateE core (edP L j) := by
  have := gK_at (core := core) hj (edP_at (L := L) (i := j) (by have := hL.el; omega))
  simp [gate, List.getD, this]
/-- The end of a gate, as a rational number. -/
theorem gEnd_q {L : Lg} (hL : LgOk L) (core : Int) {j : Nat} (hj : j < L.pl.length) (s : Nat) : ((gEnd L core j s : Int) : Rat) = if s = 0 then loq L core j else hiq L core j := by
  unfold gEnd
  rw [gate_lo hL core hj]
  split
  · simp only [gateE, loq]; push_cast; rfl
  · simp only [gateE, hiq]; push_cast; rfl
theorem wi_one (lo hi n : Int) : wi lo hi [n] = true ↔ lo ≤ n ∧ n ≤ hi := by
  simp [wi, outB]
theorem thru_iff {L : Lg} (hL : LgOk L) (core : Int) (wide : Int) (hf : Int → Int) : thruB L (gK L core L.pl.length) wide hf = true ↔ ∀ j : Nat, j < L.pl.length → ((edP L j).lo + core) * wide ≤ hf (plP L j) ∧ hf (plP L j) ≤ ((edP L j).hi - core) * wide := by
  unfold thruB
  rw [List.all_eq_true]
  constructor
  · intro h j hj
    have := h j (by simpa using hj)
    unfold testH at this
    rw [gate_lo hL core hj, wi_one] at this
    exact this
  · intro h j hj
    have hj' : j < L.pl.length := by simpa using hj
    unfold testH
    rw [gate_lo hL core hj', wi_one]
    exact h j hj'

/-- The heights of lines through two ends that keep the core. -/
def HAt (L : Lg) (core x : Int) (i k s t : Nat) (r : Rt) : Prop :=
  thruB L (gK L core L.pl.length) (plP L k - plP L i) (hgt L i k (gEnd L core i s) (gEnd L core k t)) = true ∧ r = rat (hgt L i k (gEnd L core i s) (gEnd L core k t) x) (plP L k - plP L i)
theorem hB_mem {L : Lg} {core x : Int} {i k s t : Nat} {r : Rt} : r ∈ hB L core x i k s t ↔ HAt L core x i k s t r := by
  unfold hB HAt
  split <;> rename_i h
  · simp [h]
  · simp [h]
theorem hT_mem {L : Lg} {core x : Int} {i k s : Nat} {r : Rt} : ∀ {m : Nat}, r ∈ hT L core x i k s m ↔ ∃ t, t < m ∧ HAt L core x i k s t r
  | 0 => by simp [hT]
  | m + 1 => by
    simp only [hT, List.mem_append, hT_mem (m := m), hB_mem]
    constructor
    · rintro (⟨t, h1, h2⟩ | h)
      · exact ⟨t, by omega, h2⟩
      · exact ⟨m, by omega, h⟩
    · rintro ⟨t, h1, h2⟩
      by_cases e : t = m
      · subst e; exact .inr h2
      · exact .inl ⟨t, by omega, h2⟩
theorem hS_mem {L : Lg} {core x : Int} {i k : Nat} {r : Rt} : ∀ {m : Nat}, r ∈ hS L core x i k m ↔ ∃ s t, s < m ∧ t < 2 ∧ HAt L core x i k s t r
  | 0 => by simp [hS]
  | m + 1 => by
    simp only [hS, List.mem_append, hS_mem (m := m), hT_mem]
    constructor
    · rintro (⟨s, t, h1, h2⟩ | ⟨t, h1, h2⟩)
      · exact ⟨s, t, by omega, h2⟩
      · exact ⟨m, t, by omega, h1, h2⟩
    · rintro ⟨s, t, h1, h2, h3⟩
      by_cases e : s = m
      · subst e; exact .inr ⟨t, h2, h3⟩
      · exact .inl ⟨s, t, by omega, h2, h3⟩
theorem hK_mem {L : Lg} {core x : Int} {i : Nat} {r : Rt} : ∀ {m : Nat}, r ∈ hK L core x i m ↔ ∃ k s t, i < k ∧ k < i + 1 + m ∧ s < 2 ∧ t < 2 ∧ HAt L core x i k s t r
  | 0 => by
    simp only [hK, List.not_mem_nil, false_iff]
    rintro ⟨k, s, t, h1, h2, _⟩; omega
  | m + 1 => by
    simp only [hK, List.mem_append, hK_mem (m := m), hS_mem]
    constructor
    · rintro (⟨k, s, t, h1, h2, h3⟩ | ⟨s, t, h1, h2, h3⟩)
      · exact ⟨k, s, t, h1, by omega, h3⟩
      · exact ⟨i + 1 + m, s, t, by omega, by omega, h1, h2, h3⟩
    · rintro ⟨k, s, t, h1, h2, h3⟩
      by_cases e : k = i + 1 + m
      · subst e; exact .inr ⟨s, t, h3⟩
      · exact .inl ⟨k, s, t, h1, by omega, h3⟩
theorem hI_mem {L : Lg} {core x : Int} {r : Rt} : ∀ {m : Nat}, m ≤ L.pl.length → (r ∈ hI L core x m ↔ ∃ i k s t, i < m ∧ i < k ∧ k < L.pl.length ∧ s < 2 ∧ t < 2 ∧ HAt L core x i k s t r)
  | 0, _ => by simp [hI]
  | m + 1, hm => by
    simp only [hI, List.mem_append, hI_mem (L := L) (core := core) (x := x) (m := m) (by omega), hK_mem]
    constructor
    · rintro (⟨i, k, s, t, h1, h2⟩ | ⟨k, s, t, h1, h2, h3⟩)
      · exact ⟨i, k, s, t, by omega, h2⟩
      · exact ⟨m, k, s, t, by omega, h1, by omega, h3⟩
    · rintro ⟨i, k, s, t, h1, h2, h3, h4⟩
      by_cases e : i = m
      · subst e; exact .inr ⟨k, s, t, h2, by omega, h4⟩
      · exact .inl ⟨i, k, s, t, by omega, h2, h3, h4⟩
theorem allH_mem {L : Lg} {core x : Int} {r : Rt} : r ∈ allH L core x ↔ ∃ i k s t, i < k ∧ k < L.pl.length ∧ s < 2 ∧ t < 2 ∧ HAt L core x i k s t r := by
  rw [show allH L core x = hI L core x L.pl.length from rfl, hI_mem (Nat.le_refl _)]
  constructor
  · rintro ⟨i, k, s, t, h1, h2⟩; exact ⟨i, k, s, t, h2⟩
  · rintro ⟨i, k, s, t, h1, h2, h3⟩; exact ⟨i, k, s, t, by omega, h1, h2, h3⟩

/-- Of each height a line is known that keeps the core. -/
theorem allH_line {L : Lg} (hL : LgOk L) {core x : Int} {r : Rt} (hr : r ∈ allH L core x) : Go.Pl.Can r ∧ ∃ h s, Keeps L core h s ∧ r.q = h + s * (x : Rat) := by
  obtain ⟨i, k, s, t, hik, hk, _, _, ht, rfl⟩ := allH_mem.1 hr
  have hlt := hL.plL (i := (i : Int)) (j := (k : Int)) (by omega) (by omega) (by omega)
  have hw : 0 < plP L k - plP L i := by omega
  refine ⟨rat_can hw, ?_⟩
  rw [thru_iff hL] at ht
  have hwp := cpos hw
  have hwn := cne hw
  let A : Rat := (gEnd L core i s : Int)
  let B : Rat := (gEnd L core k t : Int)
  let W : Rat := (plP L k - plP L i : Int)
  have hWd : W = (plP L k : Rat) - plP L i := by simp only [W]; push_cast; rfl
  have hW0 : W ≠ 0 := hwn
  have hg : ∀ y : Int, ((hgt L i k (gEnd L core i s) (gEnd L core k t) y : Int) : Rat) = ((A - (B - A) / W * plP L i) + (B - A) / W * y) * W := fun y => by
    have e : (B - A) / W * W = B - A := by grind
    have e2 : ((hgt L i k (gEnd L core i s) (gEnd L core k t) y : Int) : Rat) = A * ((plP L k : Rat) - y) + B * ((y : Rat) - plP L i) := by unfold hgt; push_cast; rfl
    rw [e2]; grind
  refine ⟨A - (B - A) / W * plP L i, (B - A) / W, fun j hj => ?_, ?_⟩
  · have h1 := ht j hj
    have h1a : ((((edP L j).lo + core) * (plP L k - plP L i) : Int) : Rat) ≤ ((hgt L i k (gEnd L core i s) (gEnd L core k t) (plP L j) : Int) : Rat) := by exact_mod_cast h1.1
    have h1b : ((hgt L i k (gEnd L core i s) (gEnd L core k t) (plP L j) : Int) : Rat) ≤ ((((edP L j).hi - core) * (plP L k - plP L i) : Int) : Rat) := by exact_mod_cast h1.2
    rw [hg] at h1a h1b
    constructor
    · refine rle_of (c := W) ?_ hwp
      simp only [loq, Xq]
      have : ((((edP L j).lo + core) * (plP L k - plP L i) : Int) : Rat) = (((edP L j).lo : Rat) + core) * W := by simp only [W]; push_cast; rfl
      rw [← this]; exact h1a
    · refine rle_of (c := W) ?_ hwp
      simp only [hiq, Xq]
      have : ((((edP L j).hi - core) * (plP L k - plP L i) : Int) : Rat) = (((edP L j).hi : Rat) - core) * W := by simp only [W]; push_cast; rfl
      rw [← this]; exact h1b
  · rw [rat_q hw, hg]
    show _ * W / W = _
    grind
/-- A line through two ends that keeps the core is looked at. -/
theorem line_allH {L : Lg} (hL : LgOk L) {core x : Int} {h s : Rat} {i k : Nat} (hik : i < k) (hk : k < L.pl.length) (hkeep : Keeps L core h s)
    (ei : EndL (Xq L) (loq L core) (hiq L core) h s i) (ek : EndL (Xq L) (loq L core) (hiq L core) h s k) : ∃ r ∈ allH L core x, r.q = h + s * (x : Rat) := by
  have hlt := hL.plL (i := (i : Int)) (j := (k : Int)) (by omega) (by omega) (by omega)
  have hw : 0 < plP L k - plP L i := by omega
  have hwp := cpos hw
  have hwn := cne hw
  have hend : ∀ j : Nat, j < L.pl.length → EndL (Xq L) (loq L core) (hiq L core) h s j → ∃ t : Nat, t < 2 ∧ ((gEnd L core j t : Int) : Rat) = h + s * Xq L j := fun j hj hi => by
    rcases hi with e | e
    · exact ⟨0, by omega, by rw [e, gEnd_q hL core hj]; rfl⟩
    · exact ⟨1, by omega, by rw [e, gEnd_q hL core hj]; rfl⟩
  obtain ⟨a, ha, ea⟩ := hend i (by omega) ei
  obtain ⟨b, hb, eb⟩ := hend k hk ek
  have hWd : ((plP L k - plP L i : Int) : Rat) = (plP L k : Rat) - plP L i := by push_cast; rfl
  have hg : ∀ y : Int, ((hgt L i k (gEnd L core i a) (gEnd L core k b) y : Int) : Rat) = (h + s * (y : Rat)) * ((plP L k - plP L i : Int) : Rat) := fun y => by
    have e2 : ((hgt L i k (gEnd L core i a) (gEnd L core k b) y : Int) : Rat) = ((gEnd L core i a : Int) : Rat) * ((plP L k : Rat) - y) + ((gEnd L core k b : Int) : Rat) * ((y : Rat) - plP L i) := by unfold hgt; push_cast; rfl
    rw [e2, ea, eb, hWd]
    simp only [Xq]
    grind
  refine ⟨_, allH_mem.2 ⟨i, k, a, b, hik, hk, ha, hb, ?_, rfl⟩, ?_⟩
  · rw [thru_iff hL]
    intro j hj
    have hj' := hkeep j hj
    simp only [loq, hiq, Xq] at hj'
    have k1 := rmul_le hj'.1 (c := ((plP L k - plP L i : Int) : Rat)) (by grind)
    have k2 := rmul_le hj'.2 (c := ((plP L k - plP L i : Int) : Rat)) (by grind)
    rw [← hg] at k1 k2
    exact ⟨by exact_mod_cast k1, by exact_mod_cast k2⟩
  · rw [rat_q hw, hg]
    grind
end Go.Proofs.Ytnionkopmncopaa
set_option linter.unusedVariables false
namespace Go.Proofs.Ytnionkopmncopaa
open Go.Pl

/-! ### The greatest, or the least, of what was met -/
def MaxOf (C : Rat → Prop) (r : Rt) : Prop := (r.den = 0 ∧ r.num = 0 ∧ ∀ z, ¬ C z) ∨ (Go.Pl.Can r ∧ C r.q ∧ ∀ z, C z → z ≤ r.q)
def MinOf (C : Rat → Prop) (r : Rt) : Prop := (r.den = 0 ∧ r.num = 0 ∧ ∀ z, ¬ C z) ∨ (Go.Pl.Can r ∧ C r.q ∧ ∀ z, C z → r.q ≤ z)
theorem MaxOf.iff {C D : Rat → Prop} {r : Rt} (h : MaxOf C r) (e : ∀ z, C z ↔ D z) : MaxOf D r := by
  obtain rfl : C = D := funext fun z => propext (e z); exact h
theorem MinOf.iff {C D : Rat → Prop} {r : Rt} (h : MinOf C r) (e : ∀ z, C z ↔ D z) : MinOf D r := by
  obtain rfl : C = D := funext fun z => propext (e z); exact h

/-- What a pair says. -/
def pz (p q : Bd) : Rat := (prB p q : Rat) / (prA p q : Rat)
theorem neg_q {p q : Bd} (h : prA p q < 0) : (rat (-prB p q) (-prA p q)).q = pz p q := by
  rw [rat_q (by omega)]
  unfold pz
  have : ((prA p q : Int) : Rat) ≠ 0 := by
    have := cne (d := -prA p q) (by omega)
    push_cast at this; grind
  push_cast
  grind
theorem step_max {p q : Bd} {s : Rt × Rt} {C : Rat → Prop} (h : MaxOf C s.1) : MaxOf (fun z => C z ∨ (prA p q < 0 ∧ z = pz p q)) (stepH p q s).1 := by
  by_cases c : prA p q < 0
  · have hn := neg_q c
    have hc := rat_can (n := -prB p q) (d := -prA p q) (by omega)
    rcases h with ⟨h1, h1', h2⟩ | ⟨h1, h2, h3⟩
    · have e : (stepH p q s).1 = rat (-prB p q) (-prA p q) := by unfold stepH; exact if_pos ⟨c, .inl h1⟩
      rw [e]
      refine .inr ⟨hc, .inr ⟨c, hn⟩, fun z hz => ?_⟩
      rcases hz with hz | hz
      · exact absurd hz (h2 z)
      · rw [hn, hz.2]; exact Rat.le_refl
    · have hl := lessB_q h1.pos hc.pos
      by_cases d : lessB s.1 (rat (-prB p q) (-prA p q)) = true
      · have e : (stepH p q s).1 = rat (-prB p q) (-prA p q) := by unfold stepH; exact if_pos ⟨c, .inr d⟩
        rw [e]
        have := hl.1 d
        refine .inr ⟨hc, .inr ⟨c, hn⟩, fun z hz => ?_⟩
        rcases hz with hz | hz
        · have := h3 z hz; grind
        · rw [hn, hz.2]; exact Rat.le_refl
      · have e : (stepH p q s).1 = s.1 := by
          unfold stepH
          refine if_neg ?_
          rintro ⟨_, h | h⟩
          · have := h1.pos; omega
          · exact d h
        rw [e]
        have : ¬ s.1.q < (rat (-prB p q) (-prA p q)).q := fun k => d (hl.2 k)
        refine .inr ⟨h1, .inl h2, fun z hz => ?_⟩
        rcases hz with hz | hz
        · exact h3 z hz
        · rw [hz.2, ← hn]; grind
  · have e : (stepH p q s).1 = s.1 := by unfold stepH; exact if_neg fun h => c h.1
    rw [e]
    exact h.iff fun z => ⟨.inl, fun h => h.elim id fun h => absurd h.1 c⟩
theorem step_min {p q : Bd} {s : Rt × Rt} {C : Rat → Prop} (h : MinOf C s.2) : MinOf (fun z => C z ∨ (0 < prA p q ∧ z = pz p q)) (stepH p q s).2 := by
  by_cases c : 0 < prA p q
  · have hn : (rat (prB p q) (prA p q)).q = pz p q := rat_q c
    have hc := rat_can (n := prB p q) c
    rcases h with ⟨h1, h1', h2⟩ | ⟨h1, h2, h3⟩
    · have e : (stepH p q s).2 = rat (prB p q) (prA p q) := by unfold stepH; exact if_pos ⟨c, .inl h1⟩
      rw [e]
      refine .inr ⟨hc, .inr ⟨c, hn⟩, fun z hz => ?_⟩
      rcases hz with hz | hz
      · exact absurd hz (h2 z)
      · rw [hn, hz.2]; exact Rat.le_refl
    · have hl := lessB_q hc.pos h1.pos
      by_cases d : lessB (rat (prB p q) (prA p q)) s.2 = true
      · have e : (stepH p q s).2 = rat (prB p q) (prA p q) := by unfold stepH; exact if_pos ⟨c, .inr d⟩
        rw [e]
        have := hl.1 d
        refine .inr ⟨hc, .inr ⟨c, hn⟩, fun z hz => ?_⟩
        rcases hz with hz | hz
        · have := h3 z hz; grind
        · rw [hn, hz.2]; exact Rat.le_refl
      · have e : (stepH p q s).2 = s.2 := by
          unfold stepH
          refine if_neg ?_
          rintro ⟨_, h | h⟩
          · have := h1.pos; omega
          · exact d h
        rw [e]
        have : ¬ (rat (prB p q) (prA p q)).q < s.2.q := fun k => d (hl.2 k)
        refine .inr ⟨h1, .inl h2, fun z hz => ?_⟩
        rcases hz with hz | hz
        · exact h3 z hz
        · rw [hz.2, ← hn]; grind
  · have e : (stepH p q s).2 = s.2 := by unfold stepH; exact if_neg fun h => c h.1
    rw [e]
    exact h.iff fun z => ⟨.inl, fun h => h.elim id fun h => absurd h.1 c⟩
theorem row_max {p : Bd} : ∀ {l : List Bd} {s : Rt × Rt} {C : Rat → Prop}, MaxOf C s.1 → MaxOf (fun z => C z ∨ ∃ q ∈ l, prA p q < 0 ∧ z = pz p q) (rowH p l s).1
  | [], s, C, h => h.iff fun z => by simp
  | q :: l, s, C, h => (row_max (l := l) (step_max (p := p) (q := q) h)).iff fun z => by simp [or_assoc]
theorem row_min {p : Bd} : ∀ {l : List Bd} {s : Rt × Rt} {C : Rat → Prop}, MinOf C s.2 → MinOf (fun z => C z ∨ ∃ q ∈ l, 0 < prA p q ∧ z = pz p q) (rowH p l s).2
  | [], s, C, h => h.iff fun z => by simp
  | q :: l, s, C, h => (row_min (l := l) (step_min (p := p) (q := q) h)).iff fun z => by simp [or_assoc]
theorem all_max {qs : List Bd} : ∀ {l : List Bd} {s : Rt × Rt} {C : Rat → Prop}, MaxOf C s.1 → MaxOf (fun z => C z ∨ ∃ p ∈ l, ∃ q ∈ qs, prA p q < 0 ∧ z = pz p q) (allR qs l s).1
  | [], s, C, h => h.iff fun z => by simp
  | p :: l, s, C, h => (all_max (l := l) (row_max (p := p) (l := qs) h)).iff fun z => by simp [or_assoc]
theorem all_min {qs : List Bd} : ∀ {l : List Bd} {s : Rt × Rt} {C : Rat → Prop}, MinOf C s.2 → MinOf (fun z => C z ∨ ∃ p ∈ l, ∃ q ∈ qs, 0 < prA p q ∧ z = pz p q) (allR qs l s).2
  | [], s, C, h => h.iff fun z => by simp
  | p :: l, s, C, h => (all_min (l := l) (row_min (p := p) (l := qs) h)).iff fun z => by simp [or_assoc]

theorem zero_max {L : Lg} (hL : LgOk L) {core x : Int} : ∀ k, k ≤ L.pl.length → MaxOf (fun z => ∃ i : Nat, i < k ∧ plP L i = x ∧ z = loq L core i) (zeroK L core x k).1 ∧ MinOf (fun z => ∃ i : Nat, i < k ∧ plP L i = x ∧ z = hiq L core i) (zeroK L core x k).2
  | 0, _ => ⟨.inl ⟨rfl, rfl, fun z ⟨i, h, _⟩ => by omega⟩, .inl ⟨rfl, rfl, fun z ⟨i, h, _⟩ => by omega⟩⟩
  | k + 1, hk => by
    by_cases c : plP L k = x
    · have one : ∀ i : Nat, i < k + 1 → plP L i = x → i = k := fun i h1 h2 => by
        by_cases e : i = k
        · exact e
        · have := hL.plL (i := (i : Int)) (j := (k : Int)) (by omega) (by omega) (by omega)
          omega
      have q1 : (rat ((edP L k).lo + core) 1).q = loq L core k := by rw [rat_q (by decide)]; simp only [loq]; push_cast; grind
      have q2 : (rat ((edP L k).hi - core) 1).q = hiq L core k := by rw [rat_q (by decide)]; simp only [hiq]; push_cast; grind
      simp only [zeroK, if_pos c]
      refine ⟨.inr ⟨rat_can (by decide), ⟨k, by omega, c, q1⟩, ?_⟩, .inr ⟨rat_can (by decide), ⟨k, by omega, c, q2⟩, ?_⟩⟩
      · rintro z ⟨i, h1, h2, rfl⟩
        obtain rfl := one i h1 h2
        rw [q1]; exact Rat.le_refl
      · rintro z ⟨i, h1, h2, rfl⟩
        obtain rfl := one i h1 h2
        rw [q2]; exact Rat.le_refl
    · have ih := zero_max hL (core := core) (x := x) k (by omega)
      simp only [zeroK, if_neg c]
      have e : ∀ (f : Nat → Rat) (z : Rat), (∃ i : Nat, i < k ∧ plP L i = x ∧ z = f i) ↔ ∃ i : Nat, i < k + 1 ∧ plP L i = x ∧ z = f i := fun f z => by
        constructor
        · rintro ⟨i, h1, h2⟩; exact ⟨i, by omega, h2⟩
        · rintro ⟨i, h1, h2, h3⟩
          by_cases e : i = k
          · subst e; exact absurd h2 c
          · exact ⟨i, by omega, h2, h3⟩
      exact ⟨ih.1.iff (e _), ih.2.iff (e _)⟩

/-! ### Lines as heights at a number, and steps -/
def LeC (p : Bd) (y s : Rat) : Prop := (p.start : Rat) + p.slope * y ≤ p.den * s
def MoC (q : Bd) (y s : Rat) : Prop := (q.den : Rat) * s ≤ q.start + q.slope * y
theorem dq {L : Lg} {x : Int} (i : Nat) : ((plP L i - x : Int) : Rat) = Xq L i - x := by simp only [Xq]; push_cast; rfl
theorem cpos' {d : Int} (h : d < 0) : (d : Rat) < 0 := by have := cpos (d := -d) (by omega); push_cast at this; grind

theorem least_iff {L : Lg} {core x : Int} {i : Nat} {p : Bd} (hp : p ∈ leastO L core x i) (y s : Rat) :
    (0 < plP L i - x ∧ p = ⟨plP L i - x, (edP L i).lo + core, -1⟩ ∧ (LeC p y s ↔ loq L core i ≤ y + s * (Xq L i - x)) ∧ ((p.start : Rat) + p.slope * y = p.den * s → y + s * (Xq L i - x) = loq L core i)) ∨
    (plP L i - x < 0 ∧ p = ⟨-(plP L i - x), -((edP L i).hi - core), 1⟩ ∧ (LeC p y s ↔ y + s * (Xq L i - x) ≤ hiq L core i) ∧ ((p.start : Rat) + p.slope * y = p.den * s → y + s * (Xq L i - x) = hiq L core i)) := by
  unfold leastO at hp
  split at hp
  · rename_i c
    simp at hp; subst hp
    refine .inl ⟨c, rfl, ?_, ?_⟩
    · simp only [LeC, loq, dq]; push_cast
      constructor <;> intro h <;> grind
    · simp only [loq, dq]; push_cast; intro h; grind
  · split at hp
    · rename_i c
      simp at hp; subst hp
      refine .inr ⟨c, rfl, ?_, ?_⟩
      · have e : ((-(plP L i - x) : Int) : Rat) = -(Xq L i - x) := by rw [Rat.intCast_neg, dq]
        simp only [LeC, hiq]; rw [e]; push_cast
        constructor <;> intro h <;> grind
      · have e : ((-(plP L i - x) : Int) : Rat) = -(Xq L i - x) := by rw [Rat.intCast_neg, dq]
        simp only [hiq]; rw [e]; push_cast; intro h; grind
    · cases hp
theorem most_iff {L : Lg} {core x : Int} {i : Nat} {p : Bd} (hp : p ∈ mostO L core x i) (y s : Rat) :
    (0 < plP L i - x ∧ p = ⟨plP L i - x, (edP L i).hi - core, -1⟩ ∧ (MoC p y s ↔ y + s * (Xq L i - x) ≤ hiq L core i) ∧ ((p.start : Rat) + p.slope * y = p.den * s → y + s * (Xq L i - x) = hiq L core i)) ∨
    (plP L i - x < 0 ∧ p = ⟨-(plP L i - x), -((edP L i).lo + core), 1⟩ ∧ (MoC p y s ↔ loq L core i ≤ y + s * (Xq L i - x)) ∧ ((p.start : Rat) + p.slope * y = p.den * s → y + s * (Xq L i - x) = loq L core i)) := by
  unfold mostO at hp
  split at hp
  · rename_i c
    simp at hp; subst hp
    refine .inl ⟨c, rfl, ?_, ?_⟩
    · simp only [MoC, hiq, dq]; push_cast
      constructor <;> intro h <;> grind
    · simp only [hiq, dq]; push_cast; intro h; grind
  · split at hp
    · rename_i c
      simp at hp; subst hp
      refine .inr ⟨c, rfl, ?_, ?_⟩
      · have e : ((-(plP L i - x) : Int) : Rat) = -(Xq L i - x) := by rw [Rat.intCast_neg, dq]
        simp only [MoC, loq]; rw [e]; push_cast
        constructor <;> intro h <;> grind
      · have e : ((-(plP L i - x) : Int) : Rat) = -(Xq L i - x) := by rw [Rat.intCast_neg, dq]
        simp only [loq]; rw [e]; push_cast; intro h; grind
    · cases hp
theorem leastO_ex {L : Lg} {core x : Int} {i : Nat} (h : plP L i - x ≠ 0) : (∃ p, p ∈ leastO L core x i) ∧ ∃ p, p ∈ mostO L core x i := by
  unfold leastO mostO
  by_cases c : 0 < plP L i - x
  · rw [if_pos c, if_pos c]; exact ⟨⟨_, List.mem_singleton.2 rfl⟩, ⟨_, List.mem_singleton.2 rfl⟩⟩
  · rw [if_neg c, if_neg c, if_pos (by omega), if_pos (by omega)]; exact ⟨⟨_, List.mem_singleton.2 rfl⟩, ⟨_, List.mem_singleton.2 rfl⟩⟩

/-- A line keeps the core just if it meets all that is asked. -/
theorem keeps_cons {L : Lg} {core x : Int} (y s : Rat) : Keeps L core (y - s * x) s ↔ (∀ p ∈ leastK L core x L.pl.length, LeC p y s) ∧ (∀ q ∈ mostK L core x L.pl.length, MoC q y s) ∧ ∀ i : Nat, i < L.pl.length → plP L i = x → loq L core i ≤ y ∧ y ≤ hiq L core i := by
  have ev : ∀ i, y - s * (x : Rat) + s * Xq L i = y + s * (Xq L i - x) := fun i => by grind
  constructor
  · intro h
    refine ⟨fun p hp => ?_, fun p hp => ?_, fun i hi hx => ?_⟩
    · obtain ⟨i, hi, hp⟩ := leastK_of hp
      have := h i hi
      rw [ev] at this
      rcases least_iff hp y s with ⟨_, _, h1, _⟩ | ⟨_, _, h1, _⟩
      · exact h1.2 this.1
      · exact h1.2 this.2
    · obtain ⟨i, hi, hp⟩ := mostK_of hp
      have := h i hi
      rw [ev] at this
      rcases most_iff hp y s with ⟨_, _, h1, _⟩ | ⟨_, _, h1, _⟩
      · exact h1.2 this.2
      · exact h1.2 this.1
    · have := h i hi
      have e : Xq L i = (x : Rat) := by simp only [Xq]; rw [hx]
      rw [e] at this
      have e2 : y - s * (x : Rat) + s * (x : Rat) = y := by grind
      rw [e2] at this
      exact this
  · rintro ⟨h1, h2, h3⟩ i hi
    rw [ev]
    by_cases c : plP L i - x = 0
    · have hx : plP L i = x := by omega
      have := h3 i hi hx
      have e : Xq L i - (x : Rat) = 0 := by simp only [Xq]; rw [hx]; grind
      rw [e]
      have e2 : y + s * 0 = y := by grind
      rw [e2]; exact this
    · obtain ⟨⟨p, hp⟩, q, hq⟩ := leastO_ex (L := L) (core := core) c
      have a := h1 p (leastK_has hp hi)
      have b := h2 q (mostK_has hq hi)
      rcases least_iff hp y s with ⟨c1, _, g1, _⟩ | ⟨c1, _, g1, _⟩ <;> rcases most_iff hq y s with ⟨c2, _, g2, _⟩ | ⟨c2, _, g2, _⟩
      · exact ⟨g1.1 a, g2.1 b⟩
      · omega
      · omega
      · exact ⟨g2.1 b, g1.1 a⟩
theorem keeps_cons' {L : Lg} {core x : Int} (h s : Rat) : Keeps L core h s → (∀ p ∈ leastK L core x L.pl.length, LeC p (h + s * x) s) ∧ (∀ q ∈ mostK L core x L.pl.length, MoC q (h + s * x) s) ∧ ∀ i : Nat, i < L.pl.length → plP L i = x → loq L core i ≤ h + s * x ∧ h + s * x ≤ hiq L core i := fun hk => by
  rw [← keeps_cons]
  have : h + s * (x : Rat) - s * x = h := by grind
  rw [this]; exact hk

/-! ### Pairs -/
def PairC (p q : Bd) (y : Rat) : Prop := (prA p q : Rat) * y ≤ (prB p q : Rat)
theorem prA_q (p q : Bd) : ((prA p q : Int) : Rat) = (p.slope : Rat) * q.den - q.slope * p.den := by unfold prA; push_cast; rfl
theorem prB_q (p q : Bd) : ((prB p q : Int) : Rat) = (q.start : Rat) * p.den - p.start * q.den := by unfold prB; push_cast; rfl
theorem pair_of {p q : Bd} (hp : 0 < p.den) (hq : 0 < q.den) {y s : Rat} (h1 : LeC p y s) (h2 : MoC q y s) : PairC p q y := by
  unfold LeC MoC at *
  unfold PairC
  rw [prA_q, prB_q]
  have k1 := rmul_le h1 (c := (q.den : Rat)) (by have := cpos hq; grind)
  have k2 := rmul_le h2 (c := (p.den : Rat)) (by have := cpos hp; grind)
  grind
theorem pair_lt {p q : Bd} (h : prA p q < 0) (y : Rat) : PairC p q y ↔ pz p q ≤ y := by
  have hn := cpos' h
  have h0 : (prA p q : Rat) ≠ 0 := by grind
  have e : pz p q * (prA p q : Rat) = prB p q := by unfold pz; grind
  unfold PairC
  constructor
  · intro k
    refine rle_of (c := -(prA p q : Rat)) ?_ (by grind)
    grind
  · intro k
    have := rmul_le k (c := -(prA p q : Rat)) (by grind)
    grind
theorem pair_gt {p q : Bd} (h : 0 < prA p q) (y : Rat) : PairC p q y ↔ y ≤ pz p q := by
  have hn := cpos h
  have h0 : (prA p q : Rat) ≠ 0 := by grind
  have e : pz p q * (prA p q : Rat) = prB p q := by unfold pz; grind
  unfold PairC
  constructor
  · intro k
    refine rle_of (c := (prA p q : Rat)) ?_ hn
    grind
  · intro k
    have := rmul_le k (c := (prA p q : Rat)) (by grind)
    grind
theorem pair_eq {p q : Bd} (h : prA p q = 0) {y y' : Rat} (k : PairC p q y) : PairC p q y' := by
  unfold PairC at *
  rw [h] at *
  grind
end Go.Proofs.Ytnionkopmncopaa
set_option linter.unusedVariables false
namespace Go.Proofs.Ytnionkopmncopaa
open Go.Pl

theorem list_max {α : Type} (f : α → Rat) : ∀ (l : List α), l ≠ [] → ∃ a ∈ l, ∀ b ∈ l, f b ≤ f a
  | [], h => absurd rfl h
  | [a], _ => ⟨a, by simp, fun b hb => by simp at hb; subst hb; exact Rat.le_refl⟩
  | a :: b :: l, _ => by
    obtain ⟨c, hc, hm⟩ := list_max f (b :: l) (by simp)
    by_cases h : f c ≤ f a
    · refine ⟨a, by simp, fun d hd => ?_⟩
      rcases List.mem_cons.1 hd with rfl | hd
      · exact Rat.le_refl
      · exact Rat.le_trans (hm d hd) h
    · refine ⟨c, List.mem_cons_of_mem _ hc, fun d hd => ?_⟩
      rcases List.mem_cons.1 hd with rfl | hd
      · grind
      · exact hm d hd

theorem pl1 {a b d e f g y s : Rat} (h : (b * g - f * d) * y ≤ e * d - a * g) (hs : g * s = e + f * y) : (a + b * y) * g ≤ d * s * g := by
  have e1 : d * s * g = d * (e + f * y) := by rw [← hs]; grind
  rw [e1]; grind
theorem pl2 {a b d e f g y s : Rat} (h : (b * g - f * d) * y ≤ e * d - a * g) (hs : d * s = a + b * y) : (g * s) * d ≤ (e + f * y) * d := by
  have e1 : g * s * d = g * (a + b * y) := by rw [← hs]; grind
  rw [e1]; grind

/-- A height at which nothing speaks against it, and something is tight, is that of a line that is looked at. -/
theorem attain {L : Lg} (hL : LgOk L) {core x : Int} (hcb : -2000 ≤ core ∧ core ≤ 2000) (hxb : 0 ≤ x ∧ x ≤ 100) {y : Rat}
    (hpair : ∀ p ∈ leastK L core x L.pl.length, ∀ q ∈ mostK L core x L.pl.length, PairC p q y) (hz : ∀ i : Nat, i < L.pl.length → plP L i = x → loq L core i ≤ y ∧ y ≤ hiq L core i)
    (ht : (∃ p ∈ leastK L core x L.pl.length, ∃ q ∈ mostK L core x L.pl.length, prA p q ≠ 0 ∧ y = pz p q) ∨ ∃ i : Nat, i < L.pl.length ∧ plP L i = x ∧ (y = loq L core i ∨ y = hiq L core i)) :
    ∃ r ∈ allH L core x, r.q = y := by
  have hn2 := hL.n2
  have fin : ∀ (s : Rat) (i k : Nat), i ≠ k → i < L.pl.length → k < L.pl.length → Keeps L core (y - s * x) s → EndL (Xq L) (loq L core) (hiq L core) (y - s * x) s i → EndL (Xq L) (loq L core) (hiq L core) (y - s * x) s k → ∃ r ∈ allH L core x, r.q = y := by
    intro s i k hne hi hk hkeep ei ek
    have e : y - s * (x : Rat) + s * x = y := by grind
    rcases Nat.lt_or_gt_of_ne hne with c | c
    · obtain ⟨r, h1, h2⟩ := line_allH hL (x := x) c hk hkeep ei ek
      exact ⟨r, h1, by rw [h2, e]⟩
    · obtain ⟨r, h1, h2⟩ := line_allH hL (x := x) c hi hkeep ek ei
      exact ⟨r, h1, by rw [h2, e]⟩
  have ev : ∀ (s : Rat) (i : Nat), y - s * (x : Rat) + s * Xq L i = y + s * (Xq L i - x) := fun s i => by grind
  rcases ht with ⟨p, hp, q, hq, hA, hy⟩ | ⟨z, hzn, hzx, hy⟩
  · have pB := leastK_bd hL hcb hxb hp
    have qB := mostK_bd hL hcb hxb hq
    have pd := cpos pB.1
    have qd := cpos qB.1
    have hA0 : (prA p q : Rat) ≠ 0 := by exact_mod_cast hA
    have hAy : (prA p q : Rat) * y = prB p q := by rw [hy]; unfold pz; grind
    rw [prA_q, prB_q] at hAy
    obtain ⟨s, hs⟩ : ∃ s : Rat, (p.den : Rat) * s = p.start + p.slope * y := ⟨((p.start : Rat) + p.slope * y) / p.den, by grind⟩
    have hs2 : (q.den : Rat) * s = q.start + q.slope * y := by
      have : ((q.den : Rat) * s) * p.den = (q.start + q.slope * y) * p.den := by grind
      have k1 := rle_of (a := (q.den : Rat) * s) (b := q.start + q.slope * y) (by rw [this]; exact Rat.le_refl) pd
      have k2 := rle_of (a := q.start + q.slope * y) (b := (q.den : Rat) * s) (by rw [this]; exact Rat.le_refl) pd
      grind
    have hkeep : Keeps L core (y - s * x) s := by
      rw [keeps_cons]
      refine ⟨fun p' hp' => ?_, fun q' hq' => ?_, hz⟩
      · have := hpair p' hp' q hq
        unfold PairC at this
        rw [prA_q, prB_q] at this
        exact rle_of (pl1 this hs2) qd
      · have := hpair p hp q' hq'
        unfold PairC at this
        rw [prA_q, prB_q] at this
        exact rle_of (pl2 this hs) pd
    obtain ⟨i, hi, hpi⟩ := leastK_of hp
    obtain ⟨k, hk, hqk⟩ := mostK_of hq
    have hne : i ≠ k := by
      rintro rfl
      rcases least_iff hpi y s with ⟨c1, rfl, _⟩ | ⟨c1, rfl, _⟩ <;> rcases most_iff hqk y s with ⟨c2, rfl, _⟩ | ⟨c2, rfl, _⟩
      · exact hA (by unfold prA; dsimp only; omega)
      · omega
      · omega
      · exact hA (by unfold prA; dsimp only; omega)
    refine fin s i k hne hi hk hkeep ?_ ?_
    · rcases least_iff hpi y s with ⟨_, _, _, h⟩ | ⟨_, _, _, h⟩
      · exact .inl (by rw [ev]; exact h hs.symm)
      · exact .inr (by rw [ev]; exact h hs.symm)
    · rcases most_iff hqk y s with ⟨_, _, _, h⟩ | ⟨_, _, _, h⟩
      · exact .inr (by rw [ev]; exact h hs2.symm)
      · exact .inl (by rw [ev]; exact h hs2.symm)
  · have hother : ∃ j : Nat, j < L.pl.length ∧ plP L j - x ≠ 0 := by
      by_cases c : z = 0
      · subst c
        refine ⟨1, by omega, ?_⟩
        have := hL.plL (i := ((0 : Nat) : Int)) (j := ((1 : Nat) : Int)) (by omega) (by omega) (by omega)
        omega
      · refine ⟨0, by omega, ?_⟩
        have := hL.plL (i := ((0 : Nat) : Int)) (j := (z : Int)) (by omega) (by omega) (by omega)
        omega
    obtain ⟨j, hj, hjx⟩ := hother
    obtain ⟨⟨pj, hpj⟩, _⟩ := leastO_ex (L := L) (core := core) hjx
    obtain ⟨p, hp, hmax⟩ := list_max (fun p : Bd => ((p.start : Rat) + p.slope * y) / p.den) (leastK L core x L.pl.length) (fun e => by have := leastK_has hpj hj; rw [e] at this; cases this)
    have pB := leastK_bd hL hcb hxb hp
    have pd := cpos pB.1
    obtain ⟨s, hs⟩ : ∃ s : Rat, s = ((p.start : Rat) + p.slope * y) / p.den := ⟨_, rfl⟩
    have hs1 : (p.den : Rat) * s = p.start + p.slope * y := by rw [hs]; grind
    have hkeep : Keeps L core (y - s * x) s := by
      rw [keeps_cons]
      refine ⟨fun p' hp' => ?_, fun q' hq' => ?_, hz⟩
      · have h1 := hmax p' hp'
        have pd' := cpos (leastK_bd hL hcb hxb hp').1
        have h2 := rmul_le h1 (c := (p'.den : Rat)) (by grind)
        have e : ((p'.start : Rat) + p'.slope * y) / p'.den * p'.den = p'.start + p'.slope * y := by grind
        unfold LeC
        rw [← hs] at h2
        grind
      · have := hpair p hp q' hq'
        unfold PairC at this
        rw [prA_q, prB_q] at this
        exact rle_of (pl2 this hs1) pd
    obtain ⟨i, hi, hpi⟩ := leastK_of hp
    refine fin s i z ?_ hi hzn hkeep ?_ ?_
    · rintro rfl
      rcases least_iff hpi y s with ⟨c1, _⟩ | ⟨c1, _⟩ <;> omega
    · rcases least_iff hpi y s with ⟨_, _, _, h⟩ | ⟨_, _, _, h⟩
      · exact .inl (by rw [ev]; exact h hs1.symm)
      · exact .inr (by rw [ev]; exact h hs1.symm)
    · have e : Xq L z - (x : Rat) = 0 := by simp only [Xq]; rw [hzx]; grind
      unfold EndL
      rw [ev, e]
      have e2 : y + s * 0 = y := by grind
      rw [e2]; exact hy

/-- Something is always asked. -/
theorem asked {L : Lg} (hL : LgOk L) (core x : Int) : (∃ z, (∃ i : Nat, i < L.pl.length ∧ plP L i = x ∧ z = loq L core i) ∨ ∃ p ∈ leastK L core x L.pl.length, ∃ q ∈ mostK L core x L.pl.length, prA p q < 0 ∧ z = pz p q) ∧
    (∃ z, (∃ i : Nat, i < L.pl.length ∧ plP L i = x ∧ z = hiq L core i) ∨ ∃ p ∈ leastK L core x L.pl.length, ∃ q ∈ mostK L core x L.pl.length, 0 < prA p q ∧ z = pz p q) := by
  have hn2 := hL.n2
  have hlt := hL.plL (i := ((0 : Nat) : Int)) (j := ((1 : Nat) : Int)) (by omega) (by omega) (by omega)
  by_cases c0 : plP L ((0 : Nat) : Int) = x
  · exact ⟨⟨_, .inl ⟨0, by omega, c0, rfl⟩⟩, ⟨_, .inl ⟨0, by omega, c0, rfl⟩⟩⟩
  by_cases c1 : plP L ((1 : Nat) : Int) = x
  · exact ⟨⟨_, .inl ⟨1, by omega, c1, rfl⟩⟩, ⟨_, .inl ⟨1, by omega, c1, rfl⟩⟩⟩
  obtain ⟨⟨p0, hp0⟩, q0, hq0⟩ := leastO_ex (L := L) (core := core) (x := x) (i := 0) (by omega)
  obtain ⟨⟨p1, hp1⟩, q1, hq1⟩ := leastO_ex (L := L) (core := core) (x := x) (i := 1) (by omega)
  have mp0 := leastK_has hp0 (k := L.pl.length) (by omega)
  have mp1 := leastK_has hp1 (k := L.pl.length) (by omega)
  have mq0 := mostK_has hq0 (k := L.pl.length) (by omega)
  have mq1 := mostK_has hq1 (k := L.pl.length) (by omega)
  have a := least_iff hp0 0 0
  have b := most_iff hq0 0 0
  have c := least_iff hp1 0 0
  have d := most_iff hq1 0 0
  have a' : (0 < plP L ((0 : Nat) : Int) - x ∧ p0.den = plP L ((0 : Nat) : Int) - x ∧ p0.slope = -1) ∨ (plP L ((0 : Nat) : Int) - x < 0 ∧ p0.den = -(plP L ((0 : Nat) : Int) - x) ∧ p0.slope = 1) := by
    rcases a with ⟨h, rfl, _⟩ | ⟨h, rfl, _⟩
    · exact .inl ⟨h, rfl, rfl⟩
    · exact .inr ⟨h, rfl, rfl⟩
  have b' : (0 < plP L ((0 : Nat) : Int) - x ∧ q0.den = plP L ((0 : Nat) : Int) - x ∧ q0.slope = -1) ∨ (plP L ((0 : Nat) : Int) - x < 0 ∧ q0.den = -(plP L ((0 : Nat) : Int) - x) ∧ q0.slope = 1) := by
    rcases b with ⟨h, rfl, _⟩ | ⟨h, rfl, _⟩
    · exact .inl ⟨h, rfl, rfl⟩
    · exact .inr ⟨h, rfl, rfl⟩
  have c' : (0 < plP L ((1 : Nat) : Int) - x ∧ p1.den = plP L ((1 : Nat) : Int) - x ∧ p1.slope = -1) ∨ (plP L ((1 : Nat) : Int) - x < 0 ∧ p1.den = -(plP L ((1 : Nat) : Int) - x) ∧ p1.slope = 1) := by
    rcases c with ⟨h, rfl, _⟩ | ⟨h, rfl, _⟩
    · exact .inl ⟨h, rfl, rfl⟩
    · exact .inr ⟨h, rfl, rfl⟩
  have d' : (0 < plP L ((1 : Nat) : Int) - x ∧ q1.den = plP L ((1 : Nat) : Int) - x ∧ q1.slope = -1) ∨ (plP L ((1 : Nat) : Int) - x < 0 ∧ q1.den = -(plP L ((1 : Nat) : Int) - x) ∧ q1.slope = 1) := by
    rcases d with ⟨h, rfl, _⟩ | ⟨h, rfl, _⟩
    · exact .inl ⟨h, rfl, rfl⟩
    · exact .inr ⟨h, rfl, rfl⟩
  have hA : ∀ (p q : Bd), prA p q = p.slope * q.den - q.slope * p.den := fun _ _ => rfl
  rcases a' with ⟨a1, a2, a3⟩ | ⟨a1, a2, a3⟩ <;> rcases b' with ⟨b1, b2, b3⟩ | ⟨b1, b2, b3⟩ <;> rcases c' with ⟨c1', c2, c3⟩ | ⟨c1', c2, c3⟩ <;> rcases d' with ⟨d1, d2, d3⟩ | ⟨d1, d2, d3⟩ <;> first | omega | skip
  · exact ⟨⟨_, .inr ⟨p0, mp0, q1, mq1, by rw [hA, a3, d3]; omega, rfl⟩⟩, ⟨_, .inr ⟨p1, mp1, q0, mq0, by rw [hA, c3, b3]; omega, rfl⟩⟩⟩
  · exact ⟨⟨_, .inr ⟨p1, mp1, q0, mq0, by rw [hA, c3, b3]; omega, rfl⟩⟩, ⟨_, .inr ⟨p0, mp0, q1, mq1, by rw [hA, a3, d3]; omega, rfl⟩⟩⟩
  · exact ⟨⟨_, .inr ⟨p0, mp0, q1, mq1, by rw [hA, a3, d3]; omega, rfl⟩⟩, ⟨_, .inr ⟨p1, mp1, q0, mq0, by rw [hA, c3, b3]; omega, rfl⟩⟩⟩

theorem best_ge {l : List Rt} (hl : ∀ r ∈ l, 0 < r.den) : ∀ (o : Rt), 0 < o.den → (o.q ≤ (bestOf (fun a b => lessB b a) o l).q ∧ ∀ r ∈ l, r.q ≤ (bestOf (fun a b => lessB b a) o l).q) := by
  induction l with
  | nil => intro o ho; exact ⟨Rat.le_refl, fun r h => by cases h⟩
  | cons x l ih =>
    intro o ho
    have hx := hl x (by simp)
    have e : bestOf (fun a b => lessB b a) o (x :: l) = bestOf (fun a b => lessB b a) (if lessB o x then x else o) l := rfl
    rw [e]
    have h0 : 0 < (if lessB o x then x else o).den := by split <;> assumption
    obtain ⟨h1, h2⟩ := ih (fun r hr => hl r (List.mem_cons_of_mem _ hr)) _ h0
    have h3 : x.q ≤ (if lessB o x then x else o).q ∧ o.q ≤ (if lessB o x then x else o).q := by
      have := lessB_q ho hx
      by_cases c : lessB o x = true
      · rw [if_pos c]; have := this.1 c; exact ⟨Rat.le_refl, by grind⟩
      · rw [if_neg c]
        have : ¬ o.q < x.q := fun k => c (this.2 k)
        exact ⟨by grind, Rat.le_refl⟩
    refine ⟨Rat.le_trans h3.2 h1, fun d hd => ?_⟩
    rcases List.mem_cons.1 hd with rfl | hd
    · exact Rat.le_trans h3.1 h1
    · exact h2 d hd

theorem ratq_one (core : Int) : (rat core 1).q = (core : Rat) := by rw [rat_q (by decide)]; push_cast; grind

/-- What the definition's heights are. -/
theorem defH_spec {L : Lg} (hL : LgOk L) {core x : Int} (hcb : -2000 ≤ core ∧ core ≤ 2000) (hxb : 0 ≤ x ∧ x ≤ 100) (hv : (core : Rat) ≤ (bestV L).q) :
    (Go.Pl.Can (defH L core x).1 ∧ (∃ r ∈ allH L core x, r.q = (defH L core x).1.q) ∧ ∀ h s : Rat, Keeps L core h s → (defH L core x).1.q ≤ h + s * x) ∧
    (Go.Pl.Can (defH L core x).2 ∧ (∃ r ∈ allH L core x, r.q = (defH L core x).2.q) ∧ ∀ h s : Rat, Keeps L core h s → h + s * x ≤ (defH L core x).2.q) := by
  obtain ⟨ia, ka, h0, s0, _, _, hk0, _, _⟩ := best_line hL
  have hf := keeps_le hk0 hv
  obtain ⟨hz1, hz2⟩ := zero_max hL (core := core) (x := x) L.pl.length (Nat.le_refl _)
  have hM := all_max (qs := mostK L core x L.pl.length) (l := leastK L core x L.pl.length) hz1
  have hm := all_min (qs := mostK L core x L.pl.length) (l := leastK L core x L.pl.length) hz2
  change MaxOf _ (defH L core x).1 at hM
  change MinOf _ (defH L core x).2 at hm
  obtain ⟨⟨za, hza⟩, zb, hzb⟩ := asked hL core x
  have pB : ∀ p ∈ leastK L core x L.pl.length, 0 < p.den := fun p hp => (leastK_bd hL hcb hxb hp).1
  have qB : ∀ p ∈ mostK L core x L.pl.length, 0 < p.den := fun p hp => (mostK_bd hL hcb hxb hp).1
  have low : ∀ z h s, ((∃ i : Nat, i < L.pl.length ∧ plP L i = x ∧ z = loq L core i) ∨ ∃ p ∈ leastK L core x L.pl.length, ∃ q ∈ mostK L core x L.pl.length, prA p q < 0 ∧ z = pz p q) → Keeps L core h s → z ≤ h + s * x := by
    intro z h s hz hk
    obtain ⟨k1, k2, k3⟩ := keeps_cons' (x := x) h s hk
    rcases hz with ⟨i, hi, hx, rfl⟩ | ⟨p, hp, q, hq, hA, rfl⟩
    · exact (k3 i hi hx).1
    · exact (pair_lt hA _).1 (pair_of (pB p hp) (qB q hq) (k1 p hp) (k2 q hq))
  have upp : ∀ z h s, ((∃ i : Nat, i < L.pl.length ∧ plP L i = x ∧ z = hiq L core i) ∨ ∃ p ∈ leastK L core x L.pl.length, ∃ q ∈ mostK L core x L.pl.length, 0 < prA p q ∧ z = pz p q) → Keeps L core h s → h + s * x ≤ z := by
    intro z h s hz hk
    obtain ⟨k1, k2, k3⟩ := keeps_cons' (x := x) h s hk
    rcases hz with ⟨i, hi, hx, rfl⟩ | ⟨p, hp, q, hq, hA, rfl⟩
    · exact (k3 i hi hx).2
    · exact (pair_gt hA _).1 (pair_of (pB p hp) (qB q hq) (k1 p hp) (k2 q hq))
  obtain ⟨f1, f2, f3⟩ := keeps_cons' (x := x) h0 s0 hf
  have fp : ∀ p ∈ leastK L core x L.pl.length, ∀ q ∈ mostK L core x L.pl.length, PairC p q (h0 + s0 * x) := fun p hp q hq => pair_of (pB p hp) (qB q hq) (f1 p hp) (f2 q hq)
  constructor
  · rcases hM with ⟨_, _, hno⟩ | ⟨hc, hin, hmax⟩
    · exact absurd hza (hno za)
    · have hle := low _ h0 s0 hin hf
      refine ⟨hc, attain hL hcb hxb (fun p hp q hq => ?_) (fun i hi hx => ⟨hmax _ (.inl ⟨i, hi, hx, rfl⟩), Rat.le_trans hle (f3 i hi hx).2⟩) ?_, fun h s hk => low _ h s hin hk⟩
      · rcases Int.lt_trichotomy (prA p q) 0 with c | c | c
        · exact (pair_lt c _).2 (hmax _ (.inr ⟨p, hp, q, hq, c, rfl⟩))
        · exact pair_eq c (fp p hp q hq)
        · exact (pair_gt c _).2 (Rat.le_trans hle ((pair_gt c _).1 (fp p hp q hq)))
      · rcases hin with ⟨i, hi, hx, e⟩ | ⟨p, hp, q, hq, hA, e⟩
        · exact .inr ⟨i, hi, hx, .inl e⟩
        · exact .inl ⟨p, hp, q, hq, by omega, e⟩
  · rcases hm with ⟨_, _, hno⟩ | ⟨hc, hin, hmin⟩
    · exact absurd hzb (hno zb)
    · have hle := upp _ h0 s0 hin hf
      refine ⟨hc, attain hL hcb hxb (fun p hp q hq => ?_) (fun i hi hx => ⟨Rat.le_trans (f3 i hi hx).1 hle, hmin _ (.inl ⟨i, hi, hx, rfl⟩)⟩) ?_, fun h s hk => upp _ h s hin hk⟩
      · rcases Int.lt_trichotomy (prA p q) 0 with c | c | c
        · exact (pair_lt c _).2 (Rat.le_trans ((pair_lt c _).1 (fp p hp q hq)) hle)
        · exact pair_eq c (fp p hp q hq)
        · exact (pair_gt c _).2 (hmin _ (.inr ⟨p, hp, q, hq, c, rfl⟩))
      · rcases hin with ⟨i, hi, hx, e⟩ | ⟨p, hp, q, hq, hA, e⟩
        · exact .inr ⟨i, hi, hx, .inr e⟩
        · exact .inl ⟨p, hp, q, hq, by omega, e⟩

/-- No line keeps the core, or the heights are the definition's. -/
theorem allH_none {L : Lg} (hL : LgOk L) {core x : Int} (hv : ¬ (core : Rat) ≤ (bestV L).q) : allH L core x = [] := by
  cases h : allH L core x with
  | nil => rfl
  | cons r l =>
    obtain ⟨_, h0, s0, hk, _⟩ := allH_line hL (r := r) (x := x) (core := core) (by rw [h]; simp)
    exact absurd (keeps_best hL hk) hv
theorem allH_some {L : Lg} (hL : LgOk L) {core x : Int} (hcb : -2000 ≤ core ∧ core ≤ 2000) (hxb : 0 ≤ x ∧ x ≤ 100) (hv : (core : Rat) ≤ (bestV L).q) :
    ∃ h0 hs, allH L core x = h0 :: hs ∧ bestOf lessB h0 hs = (defH L core x).1 ∧ bestOf (fun a b => lessB b a) h0 hs = (defH L core x).2 := by
  obtain ⟨⟨c1, ⟨r1, hr1, e1⟩, m1⟩, c2, ⟨r2, hr2, e2⟩, m2⟩ := defH_spec hL hcb hxb hv
  cases h : allH L core x with
  | nil => rw [h] at hr1; cases hr1
  | cons h0 hs =>
    have hall : ∀ r ∈ h0 :: hs, Go.Pl.Can r ∧ (defH L core x).1.q ≤ r.q ∧ r.q ≤ (defH L core x).2.q := fun r hr => by
      obtain ⟨hc, h', s', hk, e⟩ := allH_line hL (r := r) (x := x) (core := core) (by rw [h]; exact hr)
      rw [e]
      exact ⟨hc, m1 _ _ hk, m2 _ _ hk⟩
    have hd : ∀ r ∈ hs, 0 < r.den := fun r hr => (hall r (List.mem_cons_of_mem _ hr)).1.pos
    have hd0 := (hall h0 (by simp)).1.pos
    refine ⟨h0, hs, rfl, ?_, ?_⟩
    · have hb := best_le hd h0 hd0
      have hm := bestOf_mem lessB h0 hs hs.length
      rw [List.take_length] at hm
      have ha := hall _ hm
      refine can_ext ha.1 c1 ?_
      have : (bestOf lessB h0 hs).q ≤ r1.q := by
        rw [h] at hr1
        rcases List.mem_cons.1 hr1 with rfl | hr
        · exact hb.1
        · exact hb.2 r1 hr
      grind
    · have hb := best_ge hd h0 hd0
      have hm := bestOf_mem (fun a b => lessB b a) h0 hs hs.length
      rw [List.take_length] at hm
      have ha := hall _ hm
      refine can_ext ha.1 c2 ?_
      have : r2.q ≤ (bestOf (fun a b => lessB b a) h0 hs).q := by
        rw [h] at hr2
        rcases List.mem_cons.1 hr2 with rfl | hr
        · exact hb.1
        · exact hb.2 r2 hr
      grind
theorem less_core {L : Lg} (hL : LgOk L) (core : Int) : lessB (bestV L) (rat core 1) = true ↔ ¬ (core : Rat) ≤ (bestV L).q := by
  rw [lessB_q (best_can hL).pos (rat_can (by decide)).pos, ratq_one]
  constructor
  · intro h k; grind
  · intro h; grind
theorem heights_eq (L : Lg) (core x : Int) : hghR L core x = defR L core x := by
  unfold hghR defR
  by_cases he : logE L ≠ 0
  · rw [if_pos he, if_pos he]
  rw [if_neg he, if_neg he]
  by_cases hr : ¬ (-2000 ≤ core ∧ core ≤ 2000 ∧ 0 ≤ x ∧ x ≤ 100)
  · rw [if_pos hr, if_pos hr]
  rw [if_neg hr, if_neg hr]
  have hr' := Decidable.not_not.1 hr
  have hL := logE_ok (L := L) (by omega)
  by_cases hv : (core : Rat) ≤ (bestV L).q
  · rw [if_neg (fun h => (less_core hL core).1 h hv)]
    obtain ⟨h0, hs, h1, h2, h3⟩ := allH_some hL ⟨hr'.1, hr'.2.1⟩ hr'.2.2 hv
    rw [h1]
    dsimp only
    rw [h2, h3]
  · rw [if_pos ((less_core hL core).2 hv), allH_none hL hv]
end Go.Proofs.Ytnionkopmncopaa
