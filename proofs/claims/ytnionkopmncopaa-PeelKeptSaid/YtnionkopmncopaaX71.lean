/- Two given lines that keep a core have, half and half, one that keeps it; and their heights at a number are among those of it: for every log, four heights and a number. No condition. -/
import Derived.Test.YtnionkopmncopaaB5
set_option linter.unusedVariables false
set_option linter.unusedSimpArgs false
set_option linter.unusedSectionVars false
set_option linter.unusedVariables false
namespace Go.Proofs.Ytnionkopmncopaa.c7
open Go.Lw Go.Pl Go.RowKit Go.ChangeShapes Go.WideShapes Go.ChangeAt

set_option maxRecDepth 100000 in
theorem lifted (os : Os) (started : os.Started) (H : Type) (enc : TypeId × Value → H) :
    ReturnsInHanded {} Try.checked os 9 .any (Rows.peelKeptSpec.pre6 enc Try.prog Try.f9 Rows.peelKeptRow.domain false) (Rows.peelKeptSpec.post enc Try.prog Try.f9 false true false false) := by
  refine law_lift (tb := 4) (fun ds hd => by match ds, hd with | [d0, d1, d2, d3, d4, d5], _ => rfl) rfl (by kernel_rfl) Try.underlying4 laidOut (by kernel_rfl) own started (by kernel_rfl) Try.func9
    (ChangeSpec.witness6 (enc := enc) (C := Try.checked) false ⟨#[], #[.agg #[.slice none 0 0, .slice none 0 0], .int .i16 0, .int .i16 0, .int .i16 0, .int .i16 0, .int .u8 0], []⟩ 8 (by kernel_rfl) (by kernel_rfl) (by kernel_rfl) (by kernel_rfl)) ?_
  intro W base args ds ps hval hA
  rw [Try.params9] at hA hval
  obtain ⟨v0, vs0, d0, ds0, p0, q0, hargs, rfl, rfl, h0, r0⟩ := trodAll_cons hA
  obtain ⟨v1, vs1, d1, ds1, p1, q1, rfl, rfl, rfl, h1, r1⟩ := trodAll_cons r0
  obtain ⟨v2, vs2, d2, ds2, p2, q2, rfl, rfl, rfl, h2, r2⟩ := trodAll_cons r1
  obtain ⟨v3, vs3, d3, ds3, p3, q3, rfl, rfl, rfl, h3, r3⟩ := trodAll_cons r2
  obtain ⟨v4, vs4, d4, ds4, p4, q4, rfl, rfl, rfl, h4, r4⟩ := trodAll_cons r3
  obtain ⟨v5, vs5, d5, ds5, p5, q5, rfl, rfl, rfl, h5, r5⟩ := trodAll_cons r4
  obtain ⟨rfl, rfl, rfl⟩ := trodAll_nil r5
  obtain rfl : args = #[v0, v1, v2, v3, v4, v5] := by cases args; simp_all
  obtain ⟨L0, hL0⟩ := open_log (hval 0 25 v0 rfl rfl) h0
  obtain ⟨x1, rfl, _, _, w1⟩ := open_int Try.underlying57 (hval 1 57 v1 rfl rfl) h1
  have b1 := bounds_i16 w1
  obtain ⟨x2, rfl, _, _, w2⟩ := open_int Try.underlying57 (hval 2 57 v2 rfl rfl) h2
  have b2 := bounds_i16 w2
  obtain ⟨x3, rfl, _, _, w3⟩ := open_int Try.underlying57 (hval 3 57 v3 rfl rfl) h3
  have b3 := bounds_i16 w3
  obtain ⟨x4, rfl, _, _, w4⟩ := open_int Try.underlying57 (hval 4 57 v4 rfl rfl) h4
  have b4 := bounds_i16 w4
  obtain ⟨x5, rfl, _, _, w5⟩ := open_int Try.underlying5 (hval 5 5 v5 rfl rfl) h5
  have b5 := bounds_u8 w5
  exact ⟨[v0, .int .i16 x1, .int .i16 x2, .int .i16 x3, .int .i16 x4, .int .u8 x5], rfl, peelKept_f L0 x1 x2 x3 x4 x5 _ _ hL0 b1 b2 b3 b4 b5⟩

theorem over : Rows.peelKeptRow.holds Try.pinned (OpenSpec.ofChange Rows.peelKeptSpec) :=
  OpenClaim.holds_of_wide 9 Try.f9 rfl rfl rfl rfl rfl rfl rfl ⟨rfl, rfl, rfl, rfl, rfl⟩ rfl rfl rfl rfl rfl (by kernel_rfl) Try.func9 (by kernel_rfl)
    (of_decide_eq_true (by kernel_rfl)) (by unfold Func.isWrapper; first | (rw [if_pos (by decide +kernel)]; kernel_rfl) | (rw [if_neg (by decide +kernel)]; exact ⟨rfl, rfl⟩))
    (fun os started H enc _ => lifted os started H enc)

theorem proved : Rows.PeelKeptSaid := over
#print axioms proved
end Go.Proofs.Ytnionkopmncopaa.c7
