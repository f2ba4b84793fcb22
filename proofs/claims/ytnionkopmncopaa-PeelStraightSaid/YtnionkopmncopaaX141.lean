/- A log of two places keeps half of what lies between the edges of the narrower one; one whose edges all lie on two straight lines keeps half of what lies between them where it is narrowest: for all seven numbers. No condition. -/
import Derived.Test.YtnionkopmncopaaB6
set_option linter.unusedVariables false
set_option linter.unusedSimpArgs false
set_option linter.unusedSectionVars false
set_option linter.unusedVariables false
namespace Go.Proofs.Ytnionkopmncopaa.c14
open Go.Lw Go.Pl Go.RowKit Go.ChangeShapes Go.WideShapes Go.ChangeAt

set_option maxRecDepth 100000 in
theorem lifted (os : Os) (started : os.Started) (H : Type) (enc : TypeId × Value → H) :
    ReturnsInHanded {} Try.checked os 16 .any (Rows.peelStraightSpec.pre6 enc Try.prog Try.f16 Rows.peelStraightRow.domain false) (Rows.peelStraightSpec.post enc Try.prog Try.f16 false true false false) := by
  refine law_lift (tb := 4) (fun ds hd => by match ds, hd with | [d0, d1, d2, d3, d4, d5, d6], _ => rfl) rfl (by kernel_rfl) Try.underlying4 laidOut (by kernel_rfl) own started (by kernel_rfl) Try.func16
    (ChangeSpec.witness6 (enc := enc) (C := Try.checked) false ⟨#[], #[.int .u8 0, .int .u8 0, .int .u16 0, .int .u16 0, .int .u16 0, .int .u16 0, .int .u8 0], []⟩ 8 (by kernel_rfl) (by kernel_rfl) (by kernel_rfl) (by kernel_rfl)) ?_
  intro W base args ds ps hval hA
  rw [Try.params16] at hA hval
  obtain ⟨v0, vs0, d0, ds0, p0, q0, hargs, rfl, rfl, h0, r0⟩ := trodAll_cons hA
  obtain ⟨v1, vs1, d1, ds1, p1, q1, rfl, rfl, rfl, h1, r1⟩ := trodAll_cons r0
  obtain ⟨v2, vs2, d2, ds2, p2, q2, rfl, rfl, rfl, h2, r2⟩ := trodAll_cons r1
  obtain ⟨v3, vs3, d3, ds3, p3, q3, rfl, rfl, rfl, h3, r3⟩ := trodAll_cons r2
  obtain ⟨v4, vs4, d4, ds4, p4, q4, rfl, rfl, rfl, h4, r4⟩ := trodAll_cons r3
  obtain ⟨v5, vs5, d5, ds5, p5, q5, rfl, rfl, rfl, h5, r5⟩ := trodAll_cons r4
  obtain ⟨v6, vs6, d6, ds6, p6, q6, rfl, rfl, rfl, h6, r6⟩ := trodAll_cons r5
  obtain ⟨rfl, rfl, rfl⟩ := trodAll_nil r6
  obtain rfl : args = #[v0, v1, v2, v3, v4, v5, v6] := by cases args; simp_all
  obtain ⟨x0, rfl, _, _, w0⟩ := open_int Try.underlying5 (hval 0 5 v0 rfl rfl) h0
  have b0 := bounds_u8 w0
  obtain ⟨x1, rfl, _, _, w1⟩ := open_int Try.underlying5 (hval 1 5 v1 rfl rfl) h1
  have b1 := bounds_u8 w1
  obtain ⟨x2, rfl, _, _, w2⟩ := open_int Try.underlying81 (hval 2 81 v2 rfl rfl) h2
  have b2 := bounds_u16 w2
  obtain ⟨x3, rfl, _, _, w3⟩ := open_int Try.underlying81 (hval 3 81 v3 rfl rfl) h3
  have b3 := bounds_u16 w3
  obtain ⟨x4, rfl, _, _, w4⟩ := open_int Try.underlying81 (hval 4 81 v4 rfl rfl) h4
  have b4 := bounds_u16 w4
  obtain ⟨x5, rfl, _, _, w5⟩ := open_int Try.underlying81 (hval 5 81 v5 rfl rfl) h5
  have b5 := bounds_u16 w5
  obtain ⟨x6, rfl, _, _, w6⟩ := open_int Try.underlying5 (hval 6 5 v6 rfl rfl) h6
  have b6 := bounds_u8 w6
  exact ⟨[.int .u8 x0, .int .u8 x1, .int .u16 x2, .int .u16 x3, .int .u16 x4, .int .u16 x5, .int .u8 x6], rfl, peelStraight_f x0 x1 x2 x3 x4 x5 x6 _ b0 b1 b2 b3 b4 b5 b6⟩

theorem over : Rows.peelStraightRow.holds Try.pinned (OpenSpec.ofChange Rows.peelStraightSpec) :=
  OpenClaim.holds_of_wide 16 Try.f16 rfl rfl rfl rfl rfl rfl rfl ⟨rfl, rfl, rfl, rfl, rfl⟩ rfl rfl rfl rfl rfl (by kernel_rfl) Try.func16 (by kernel_rfl)
    (of_decide_eq_true (by kernel_rfl)) (by unfold Func.isWrapper; first | (rw [if_pos (by decide +kernel)]; kernel_rfl) | (rw [if_neg (by decide +kernel)]; exact ⟨rfl, rfl⟩))
    (fun os started H enc _ => lifted os started H enc)

theorem proved : Rows.PeelStraightSaid := over
#print axioms proved
end Go.Proofs.Ytnionkopmncopaa.c14
