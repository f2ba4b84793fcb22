/- The least and the greatest height of a number are what the definition says, or the error: for every log, core and number. No condition. -/
import Derived.Test.YtnionkopmncopaaB6
set_option linter.unusedVariables false
set_option linter.unusedSimpArgs false
set_option linter.unusedSectionVars false
set_option linter.unusedVariables false
namespace Go.Proofs.Ytnionkopmncopaa
open Go.Lw Go.Pl Go.RowKit

theorem peelHeights_f (L : Lg) (core x : Int) (V : View) (v : Value) (hv : LogV V v L) : Fnc Try.prog 6 [v, iv core, iv x] V fun r _ => r = .bool true := by
  have hv' := hv
  obtain ⟨a, c, a', c', rfl, h2, h3⟩ := hv
  refine fn_of Try.func6 rfl Try.ntmps6 (Nat.le_of_ble_eq_true rfl) ?_
  intro w0 hw0
  refine At.nrm ?_
  refine At.text (.n false 0 (.q 1 .done)) (by kernel_rfl) ?_
  refine AtT.box rfl trivial rfl rfl (by decide) ?_
  intro b3
  refine AtT.assign rfl trivial rfl (by decide) ?_
  refine AtT.done ?_
  refine At.nrm ?_
  refine At.text (.q 0 (.n false 1 .done)) (by kernel_rfl) ?_
  first | refine AtT.loadOA rfl trivial rfl tk25 (by repeat (first | exact Pick.here | apply Pick.there)) (by rfl) (by decide) ?_ | refine AtT.loadA rfl trivial rfl tk25 (by first | assumption | exact Cells.le (by assumption) (by assumption)) (by rfl) (by decide) ?_ | refine AtT.loadOP rfl trivial rfl tk25 (by repeat (first | exact Pick.here | apply Pick.there)) (by rfl) (by rfl) (by decide) ?_
  refine AtT.callP rfl trivial rfl ok18 (by decide) (great_f L _ _ hv') ?_
  rintro _ rfl
  refine AtT.done ?_
  refine At.nrm ?_
  refine At.condP rfl (fun hb => ?_) (fun hb => ?_)
  · refine At.nrm ?_
    refine At.text (.n false 0 (.q 1 .done)) (by kernel_rfl) ?_
    refine AtT.callP rfl trivial rfl ok19 (by decide) (works_f _) ?_
    rintro _ rfl
    refine AtT.assign rfl trivial rfl (by decide) ?_
    refine AtT.done ?_
    refine At.nrm ?_
    exact At.ret1 rfl (.tmp rfl) rfl
  · refine At.nrm ?_
    refine At.text (.q 0 (.q 1 (.q 2 (.n false 3 (.q 4 (.q 5 (.q 6 (.q 7 (.n false 8 (.n false 9 (.n true 10 (.n true 11 (.q 12 .done))))))))))))) (by kernel_rfl) ?_
    first | refine AtT.loadOA rfl trivial rfl tk25 (by repeat (first | exact Pick.here | apply Pick.there)) (by rfl) (by decide) ?_ | refine AtT.loadA rfl trivial rfl tk25 (by first | assumption | exact Cells.le (by assumption) (by assumption)) (by rfl) (by decide) ?_ | refine AtT.loadOP rfl trivial rfl tk25 (by repeat (first | exact Pick.here | apply Pick.there)) (by rfl) (by rfl) (by decide) ?_
    refine AtT.move rfl trivial rfl (by decide) ?_
    refine AtT.move rfl trivial rfl (by decide) ?_
    refine AtT.callP rfl trivial rfl ok34 (by decide) (heights_p L core x _ _ hv') ?_
    rintro _ rfl
    refine AtT.move rfl trivial rfl (by decide) ?_
    refine AtT.extract rfl trivial rfl (by rfl) (by decide) ?_
    refine AtT.extract rfl trivial rfl (by rfl) (by decide) ?_
    refine AtT.extract rfl trivial rfl (by rfl) (by decide) ?_
    refine AtT.alloc rfl trivial z31 rfl (by decide) ?_
    intro b7
    refine AtT.alloc rfl trivial z31 rfl (by decide) ?_
    intro b8
    refine AtT.storeA rfl trivial rfl rfl tk31 rfl rfl (by rfl) (by repeat (first | exact Upd.here | apply Upd.there)) ?_
    refine AtT.storeA rfl trivial rfl rfl tk31 rfl rfl (by rfl) (by repeat (first | exact Upd.here | apply Upd.there)) ?_
    refine AtT.assign rfl trivial rfl (by decide) ?_
    refine AtT.done ?_
    refine At.nrm ?_
    refine At.text (.q 0 (.q 1 (.q 2 (.n false 3 (.q 4 (.q 5 (.q 6 (.q 7 (.n false 8 (.n false 9 (.n true 10 (.n true 11 (.q 12 .done))))))))))))) (by kernel_rfl) ?_
    first | refine AtT.loadOA rfl trivial rfl tk25 (by repeat (first | exact Pick.here | apply Pick.there)) (by rfl) (by decide) ?_ | refine AtT.loadA rfl trivial rfl tk25 (by first | assumption | exact Cells.le (by assumption) (by assumption)) (by rfl) (by decide) ?_ | refine AtT.loadOP rfl trivial rfl tk25 (by repeat (first | exact Pick.here | apply Pick.there)) (by rfl) (by rfl) (by decide) ?_
    refine AtT.move rfl trivial rfl (by decide) ?_
    refine AtT.move rfl trivial rfl (by decide) ?_
    refine AtT.callP rfl trivial rfl ok35 (by decide) (heights_q L core x _ _ hv') ?_
    rintro _ rfl; rw [← heights_eq]
    refine AtT.move rfl trivial rfl (by decide) ?_
    refine AtT.extract rfl trivial rfl (by rfl) (by decide) ?_
    refine AtT.extract rfl trivial rfl (by rfl) (by decide) ?_
    refine AtT.extract rfl trivial rfl (by rfl) (by decide) ?_
    refine AtT.alloc rfl trivial z31 rfl (by decide) ?_
    intro b10
    refine AtT.alloc rfl trivial z31 rfl (by decide) ?_
    intro b11
    refine AtT.storeA rfl trivial rfl rfl tk31 rfl rfl (by rfl) (by repeat (first | exact Upd.here | apply Upd.there)) ?_
    refine AtT.storeA rfl trivial rfl rfl tk31 rfl rfl (by rfl) (by repeat (first | exact Upd.here | apply Upd.there)) ?_
    refine AtT.assign rfl trivial rfl (by decide) ?_
    refine AtT.done ?_
    refine At.nrm ?_
    refine At.text (.q 0 (.q 1 (.q 2 (.q 3 (.q 4 (.q 5 (.q 6 (.q 7 (.q 8 (.q 9 (.q 10 (.q 11 (.q 12 (.q 13 (.n false 14 (.q 15 (.q 16 .done))))))))))))))))) (by kernel_rfl) ?_
    first | refine AtT.loadOA rfl trivial rfl tk31 (by repeat (first | exact Pick.here | apply Pick.there)) (by rfl) (by decide) ?_ | refine AtT.loadA rfl trivial rfl tk31 (by first | assumption | exact Cells.le (by assumption) (by assumption)) (by rfl) (by decide) ?_ | refine AtT.loadOP rfl trivial rfl tk31 (by repeat (first | exact Pick.here | apply Pick.there)) (by rfl) (by rfl) (by decide) ?_
    first | refine AtT.loadOA rfl trivial rfl tk31 (by repeat (first | exact Pick.here | apply Pick.there)) (by rfl) (by decide) ?_ | refine AtT.loadA rfl trivial rfl tk31 (by first | assumption | exact Cells.le (by assumption) (by assumption)) (by rfl) (by decide) ?_ | refine AtT.loadOP rfl trivial rfl tk31 (by repeat (first | exact Pick.here | apply Pick.there)) (by rfl) (by rfl) (by decide) ?_
    refine AtT.eqS rfl trivial rfl rfl (eqS31 _ _ _ _) (by decide) ?_
    rw [eqR]
    refine AtT.move rfl trivial rfl (by decide) ?_
    all_goals (first | refine AtT.litT (d := 35) rfl ?_ | refine AtT.litF (d := 35) rfl ?_ | refine AtT.litU (d := 35) rfl ?_ | refine AtT.pcase (d := 35) rfl (fun hg35 => ?_) (fun hg35 => ?_) | refine AtT.bcase (d := 35) rfl (fun hg35 => ?_) (fun hg35 => ?_))
    all_goals (first | refine AtT.pass rfl rfl rfl rfl rfl rfl (by decide) ?_ | refine AtT.passU rfl rfl rfl rfl rfl rfl (by decide) ?_ | ((first | refine AtT.loadOA rfl ⟨_, _, rfl, rfl, rfl⟩ rfl tk31 (by repeat (first | exact Pick.here | apply Pick.there)) (by rfl) (by decide) ?_ | refine AtT.loadA rfl ⟨_, _, rfl, rfl, rfl⟩ rfl tk31 (by first | assumption | exact Cells.le (by assumption) (by assumption)) (by rfl) (by decide) ?_ | refine AtT.loadOP rfl ⟨_, _, rfl, rfl, rfl⟩ rfl tk31 (by repeat (first | exact Pick.here | apply Pick.there)) (by rfl) (by rfl) (by decide) ?_)))
    all_goals (first | refine AtT.pass rfl rfl rfl rfl rfl rfl (by decide) ?_ | refine AtT.passU rfl rfl rfl rfl rfl rfl (by decide) ?_ | ((first | refine AtT.loadOA rfl ⟨_, _, rfl, rfl, rfl⟩ rfl tk31 (by repeat (first | exact Pick.here | apply Pick.there)) (by rfl) (by decide) ?_ | refine AtT.loadA rfl ⟨_, _, rfl, rfl, rfl⟩ rfl tk31 (by first | assumption | exact Cells.le (by assumption) (by assumption)) (by rfl) (by decide) ?_ | refine AtT.loadOP rfl ⟨_, _, rfl, rfl, rfl⟩ rfl tk31 (by repeat (first | exact Pick.here | apply Pick.there)) (by rfl) (by rfl) (by decide) ?_)))
    all_goals (first | refine AtT.pass rfl rfl rfl rfl rfl rfl (by decide) ?_ | refine AtT.passU rfl rfl rfl rfl rfl rfl (by decide) ?_ | ((refine AtT.eqS rfl ⟨_, _, rfl, rfl, rfl⟩ rfl rfl (eqS31 _ _ _ _) (by decide) ?_)))
    all_goals (rw [eqR])
    all_goals (refine AtT.pick rfl trivial rfl rfl rfl (by decide) ?_)
    all_goals (refine AtT.move rfl trivial rfl (by decide) ?_)
    all_goals (first | refine AtT.litT (d := 40) rfl ?_ | refine AtT.litF (d := 40) rfl ?_ | refine AtT.litU (d := 40) rfl ?_ | refine AtT.pcase (d := 40) rfl (fun hg40 => ?_) (fun hg40 => ?_) | refine AtT.bcase (d := 40) rfl (fun hg40 => ?_) (fun hg40 => ?_))
    all_goals (first | refine AtT.pass rfl rfl rfl rfl rfl rfl (by decide) ?_ | refine AtT.passU rfl rfl rfl rfl rfl rfl (by decide) ?_ | ((refine AtT.move rfl ⟨_, _, rfl, rfl, rfl⟩ rfl (by decide) ?_)))
    all_goals (first | refine AtT.pass rfl rfl rfl rfl rfl rfl (by decide) ?_ | refine AtT.passU rfl rfl rfl rfl rfl rfl (by decide) ?_ | ((refine AtT.move rfl ⟨_, _, rfl, rfl, rfl⟩ rfl (by decide) ?_)))
    all_goals (first | refine AtT.pass rfl rfl rfl rfl rfl rfl (by decide) ?_ | refine AtT.passU rfl rfl rfl rfl rfl rfl (by decide) ?_ | ((refine AtT.eqI rfl ⟨_, _, rfl, rfl, rfl⟩ rfl rfl (by decide) ?_)))
    all_goals (rw [eqI])
    all_goals (refine AtT.pick rfl trivial rfl rfl rfl (by decide) ?_)
    all_goals (refine AtT.move rfl trivial rfl (by decide) ?_)
    all_goals (first | refine AtT.litT (d := 45) rfl ?_ | refine AtT.litF (d := 45) rfl ?_ | refine AtT.litU (d := 45) rfl ?_ | refine AtT.pcase (d := 45) rfl (fun hg45 => ?_) (fun hg45 => ?_) | refine AtT.bcase (d := 45) rfl (fun hg45 => ?_) (fun hg45 => ?_))
    all_goals (first | refine AtT.passN rfl rfl rfl rfl rfl rfl (by decide) ?_ | refine AtT.passNU rfl rfl rfl rfl rfl rfl (by decide) ?_ | ((refine AtT.callP rfl ⟨_, _, rfl, rfl, rfl⟩ rfl ok19 (by decide) (works_f _) ?_) ; (rintro _ rfl)))
    all_goals (refine AtT.pick rfl trivial rfl rfl rfl (by decide) ?_)
    all_goals (refine AtT.assign rfl trivial rfl (by decide) ?_)
    all_goals refine AtT.done ?_
    all_goals (refine At.nrm ?_)
    exact At.ret1 rfl (.tmp rfl) rfl
end Go.Proofs.Ytnionkopmncopaa
set_option linter.unusedVariables false
namespace Go.Proofs.Ytnionkopmncopaa.c4
open Go.Lw Go.Pl Go.RowKit Go.ChangeShapes Go.WideShapes Go.ChangeAt

set_option maxRecDepth 100000 in
theorem lifted (os : Os) (started : os.Started) (H : Type) (enc : TypeId × Value → H) :
    ReturnsInHanded {} Try.checked os 6 .any (Rows.peelHeightsSpec.pre6 enc Try.prog Try.f6 Rows.peelHeightsRow.domain false) (Rows.peelHeightsSpec.post enc Try.prog Try.f6 false true false false) := by
  refine law_lift (tb := 4) (fun ds hd => by match ds, hd with | [d0, d1, d2], _ => rfl) rfl (by kernel_rfl) Try.underlying4 laidOut (by kernel_rfl) own started (by kernel_rfl) Try.func6
    (ChangeSpec.witness6 (enc := enc) (C := Try.checked) false ⟨#[], #[.agg #[.slice none 0 0, .slice none 0 0], .int .i64 0, .int .i64 0], []⟩ 8 (by kernel_rfl) (by kernel_rfl) (by kernel_rfl) (by kernel_rfl)) ?_
  intro W base args ds ps hval hA
  rw [Try.params6] at hA hval
  obtain ⟨v0, vs0, d0, ds0, p0, q0, hargs, rfl, rfl, h0, r0⟩ := trodAll_cons hA
  obtain ⟨v1, vs1, d1, ds1, p1, q1, rfl, rfl, rfl, h1, r1⟩ := trodAll_cons r0
  obtain ⟨v2, vs2, d2, ds2, p2, q2, rfl, rfl, rfl, h2, r2⟩ := trodAll_cons r1
  obtain ⟨rfl, rfl, rfl⟩ := trodAll_nil r2
  obtain rfl : args = #[v0, v1, v2] := by cases args; simp_all
  obtain ⟨L0, hL0⟩ := open_log (hval 0 25 v0 rfl rfl) h0
  obtain ⟨x1, rfl, _, _, w1⟩ := open_int Try.underlying2 (hval 1 2 v1 rfl rfl) h1
  obtain ⟨x2, rfl, _, _, w2⟩ := open_int Try.underlying2 (hval 2 2 v2 rfl rfl) h2
  exact ⟨[v0, .int .i64 x1, .int .i64 x2], rfl, peelHeights_f L0 x1 x2 _ _ hL0⟩

theorem over : Rows.peelHeightsRow.holds Try.pinned (OpenSpec.ofChange Rows.peelHeightsSpec) :=
  OpenClaim.holds_of_wide 6 Try.f6 rfl rfl rfl rfl rfl rfl rfl ⟨rfl, rfl, rfl, rfl, rfl⟩ rfl rfl rfl rfl rfl (by kernel_rfl) Try.func6 (by kernel_rfl)
    (of_decide_eq_true (by kernel_rfl)) (by unfold Func.isWrapper; first | (rw [if_pos (by decide +kernel)]; kernel_rfl) | (rw [if_neg (by decide +kernel)]; exact ⟨rfl, rfl⟩))
    (fun os started H enc _ => lifted os started H enc)

theorem proved : Rows.PeelHeightsSaid := over
#print axioms proved
end Go.Proofs.Ytnionkopmncopaa.c4
