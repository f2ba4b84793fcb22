/- Which logs and lines are valid, and the core of a line, are what the definitions say, or the error: for every log and every line. No condition. -/
import Derived.Test.YtnionkopmncopaaL5
set_option linter.unusedVariables false
namespace Go.Proofs.Ytnionkopmncopaa
open Go.Lw Go.Pl Go.RowKit

theorem peelLogs_f (L : Lg) (x : Ln) (V : View) (v : Value) (hv : LogV V v L) : Fnc Try.prog 3 [v, lnv x] V fun r _ => r = .bool true := by
  have hv' := hv
  obtain ⟨a, c, a', c', rfl, h2, h3⟩ := hv
  refine fn_of Try.func3 rfl Try.ntmps3 (Nat.le_of_ble_eq_true rfl) ?_
  intro w0 hw0
  refine At.nrm ?_
  refine At.text (.n false 0 (.n false 1 (.q 2 .done))) (by kernel_rfl) ?_
  refine AtT.box rfl trivial rfl rfl (by decide) ?_
  intro b2
  refine AtT.box rfl trivial rfl rfl (by decide) ?_
  intro b3
  refine AtT.assign rfl trivial rfl (by decide) ?_
  refine AtT.done ?_
  refine At.nrm ?_
  refine At.text (.q 0 (.n false 1 .done)) (by kernel_rfl) ?_
  first | refine AtT.loadOA rfl trivial rfl tk25 (by repeat (first | exact Pick.here | apply Pick.there)) (by rfl) (by decide) ?_ | refine AtT.loadA rfl trivial rfl tk25 (by first | assumption | exact Cells.le (by assumption) (by assumption)) (by rfl) (by decide) ?_ | refine AtT.loadOP rfl trivial rfl tk25 (by repeat (first | exact Pick.here | apply Pick.there)) (by rfl) (by rfl) (by decide) ?_
  refine AtT.callP rfl trivial rfl ok18 (by decide) (great_f L _ _ hv') ?_
  rintro _ rfl
  refine AtT.done ?_
  refine At.nrm ?_
  refine At.condP rfl (fun hb => ?_) (fun hb => ?_)
  · refine At.nrm ?_
    refine At.text (.n false 0 (.q 1 .done)) (by kernel_rfl) ?_
    refine AtT.callP rfl trivial rfl ok19 (by decide) (works_f _) ?_
    rintro _ rfl
    refine AtT.assign rfl trivial rfl (by decide) ?_
    refine AtT.done ?_
    refine At.nrm ?_
    exact At.ret1 rfl (.tmp rfl) rfl
  · refine At.nrm ?_
    refine At.text (.q 0 (.q 1 (.n false 2 (.q 3 (.q 4 (.q 5 (.n false 6 (.n true 7 (.q 8 .done))))))))) (by kernel_rfl) ?_
    first | refine AtT.loadOA rfl trivial rfl tk25 (by repeat (first | exact Pick.here | apply Pick.there)) (by rfl) (by decide) ?_ | refine AtT.loadA rfl trivial rfl tk25 (by first | assumption | exact Cells.le (by assumption) (by assumption)) (by rfl) (by decide) ?_ | refine AtT.loadOP rfl trivial rfl tk25 (by repeat (first | exact Pick.here | apply Pick.there)) (by rfl) (by rfl) (by decide) ?_
    first | refine AtT.loadOA rfl trivial rfl tk27 (by repeat (first | exact Pick.here | apply Pick.there)) (by rfl) (by decide) ?_ | refine AtT.loadA rfl trivial rfl tk27 (by first | assumption | exact Cells.le (by assumption) (by assumption)) (by rfl) (by decide) ?_ | refine AtT.loadOP rfl trivial rfl tk27 (by repeat (first | exact Pick.here | apply Pick.there)) (by rfl) (by rfl) (by decide) ?_
    refine AtT.callP rfl trivial rfl ok20 (by decide) (core_p L x _ _ hv') ?_
    rintro _ rfl
    refine AtT.move rfl trivial rfl (by decide) ?_
    refine AtT.extract rfl trivial rfl (by rfl) (by decide) ?_
    refine AtT.extract rfl trivial rfl (by rfl) (by decide) ?_
    refine AtT.alloc rfl trivial z31 rfl (by decide) ?_
    intro b5
    refine AtT.storeA rfl trivial rfl rfl tk31 rfl rfl (by rfl) (by repeat (first | exact Upd.here | apply Upd.there)) ?_
    refine AtT.assign rfl trivial rfl (by decide) ?_
    refine AtT.done ?_
    refine At.nrm ?_
    refine At.text (.q 0 (.q 1 (.n false 2 (.q 3 (.q 4 (.q 5 (.n false 6 (.n true 7 (.q 8 .done))))))))) (by kernel_rfl) ?_
    first | refine AtT.loadOA rfl trivial rfl tk25 (by repeat (first | exact Pick.here | apply Pick.there)) (by rfl) (by decide) ?_ | refine AtT.loadA rfl trivial rfl tk25 (by first | assumption | exact Cells.le (by assumption) (by assumption)) (by rfl) (by decide) ?_ | refine AtT.loadOP rfl trivial rfl tk25 (by repeat (first | exact Pick.here | apply Pick.there)) (by rfl) (by rfl) (by decide) ?_
    first | refine AtT.loadOA rfl trivial rfl tk27 (by repeat (first | exact Pick.here | apply Pick.there)) (by rfl) (by decide) ?_ | refine AtT.loadA rfl trivial rfl tk27 (by first | assumption | exact Cells.le (by assumption) (by assumption)) (by rfl) (by decide) ?_ | refine AtT.loadOP rfl trivial rfl tk27 (by repeat (first | exact Pick.here | apply Pick.there)) (by rfl) (by rfl) (by decide) ?_
    refine AtT.callP rfl trivial rfl ok21 (by decide) (core_q L x _ _ hv') ?_
    rintro _ rfl
    refine AtT.move rfl trivial rfl (by decide) ?_
    refine AtT.extract rfl trivial rfl (by rfl) (by decide) ?_
    refine AtT.extract rfl trivial rfl (by rfl) (by decide) ?_
    refine AtT.alloc rfl trivial z31 rfl (by decide) ?_
    intro b7
    refine AtT.storeA rfl trivial rfl rfl tk31 rfl rfl (by rfl) (by repeat (first | exact Upd.here | apply Upd.there)) ?_
    refine AtT.assign rfl trivial rfl (by decide) ?_
    refine AtT.done ?_
    refine At.nrm ?_
    apply At.draw0 (.q 0 (.q 2 (.n false 1 (.n false 3 (.q 4 (.q 5 (.q 6 (.q 8 (.n false 7 (.n false 9 (.q 10 (.q 11 (.q 12 (.q 13 (.q 14 (.q 15 (.q 16 (.q 17 (.q 18 (.q 19 (.q 20 (.q 21 (.q 22 (.n false 23 (.q 24 (.q 25 .done)))))))))))))))))))))))))) ffm (by kernel_rfl)
    · first | refine AtT.loadOA rfl trivial rfl tk25 (by repeat (first | exact Pick.here | apply Pick.there)) (by rfl) (by decide) ?_ | refine AtT.loadA rfl trivial rfl tk25 (by first | assumption | exact Cells.le (by assumption) (by assumption)) (by rfl) (by decide) ?_ | refine AtT.loadOP rfl trivial rfl tk25 (by repeat (first | exact Pick.here | apply Pick.there)) (by rfl) (by rfl) (by decide) ?_
      first | refine AtT.loadOA rfl trivial rfl tk25 (by repeat (first | exact Pick.here | apply Pick.there)) (by rfl) (by decide) ?_ | refine AtT.loadA rfl trivial rfl tk25 (by first | assumption | exact Cells.le (by assumption) (by assumption)) (by rfl) (by decide) ?_ | refine AtT.loadOP rfl trivial rfl tk25 (by repeat (first | exact Pick.here | apply Pick.there)) (by rfl) (by rfl) (by decide) ?_
      refine AtT.callP rfl trivial rfl ok22 (by decide) (checkLog_f L _ _ hv') ?_
      rintro _ rfl
      refine AtT.callP rfl trivial rfl ok23 (by decide) (rcheckLog_f L _ _ hv') ?_
      rintro _ rfl
      refine AtT.eqI rfl trivial rfl rfl (by decide) ?_
      rw [decide_eq_true (rfl : logE L = logE L)]
      refine AtT.move rfl trivial rfl (by decide) ?_
      all_goals (first | refine AtT.litT (d := 29) rfl ?_ | refine AtT.litF (d := 29) rfl ?_ | refine AtT.litU (d := 29) rfl ?_ | refine AtT.pcase (d := 29) rfl (fun hg29 => ?_) (fun hg29 => ?_) | refine AtT.bcase (d := 29) rfl (fun hg29 => ?_) (fun hg29 => ?_))
      all_goals (first | refine AtT.pass rfl rfl rfl rfl rfl rfl (by decide) ?_ | refine AtT.passU rfl rfl rfl rfl rfl rfl (by decide) ?_ | ((first | refine AtT.loadOA rfl ⟨_, _, rfl, rfl, rfl⟩ rfl tk27 (by repeat (first | exact Pick.here | apply Pick.there)) (by rfl) (by decide) ?_ | refine AtT.loadA rfl ⟨_, _, rfl, rfl, rfl⟩ rfl tk27 (by first | assumption | exact Cells.le (by assumption) (by assumption)) (by rfl) (by decide) ?_ | refine AtT.loadOP rfl ⟨_, _, rfl, rfl, rfl⟩ rfl tk27 (by repeat (first | exact Pick.here | apply Pick.there)) (by rfl) (by rfl) (by decide) ?_)))
      all_goals (first | refine AtT.pass rfl rfl rfl rfl rfl rfl (by decide) ?_ | refine AtT.passU rfl rfl rfl rfl rfl rfl (by decide) ?_ | ((first | refine AtT.loadOA rfl ⟨_, _, rfl, rfl, rfl⟩ rfl tk27 (by repeat (first | exact Pick.here | apply Pick.there)) (by rfl) (by decide) ?_ | refine AtT.loadA rfl ⟨_, _, rfl, rfl, rfl⟩ rfl tk27 (by first | assumption | exact Cells.le (by assumption) (by assumption)) (by rfl) (by decide) ?_ | refine AtT.loadOP rfl ⟨_, _, rfl, rfl, rfl⟩ rfl tk27 (by repeat (first | exact Pick.here | apply Pick.there)) (by rfl) (by rfl) (by decide) ?_)))
      all_goals (first | refine AtT.passN rfl rfl rfl rfl rfl rfl (by decide) ?_ | refine AtT.passNU rfl rfl rfl rfl rfl rfl (by decide) ?_ | ((refine AtT.callP rfl ⟨_, _, rfl, rfl, rfl⟩ rfl ok24 (by decide) (checkLine_f x _) ?_) ; (rintro _ rfl)))
      all_goals (first | refine AtT.passN rfl rfl rfl rfl rfl rfl (by decide) ?_ | refine AtT.passNU rfl rfl rfl rfl rfl rfl (by decide) ?_ | ((refine AtT.callP rfl ⟨_, _, rfl, rfl, rfl⟩ rfl ok25 (by decide) (rcheckLine_f x _) ?_) ; (rintro _ rfl)))
      all_goals (first | refine AtT.pass rfl rfl rfl rfl rfl rfl (by decide) ?_ | refine AtT.passU rfl rfl rfl rfl rfl rfl (by decide) ?_ | ((refine AtT.eqI rfl ⟨_, _, rfl, rfl, rfl⟩ rfl rfl (by decide) ?_)))
      all_goals (rw [decide_eq_true (rfl : lineE x = lineE x)])
      all_goals (refine AtT.pick rfl trivial rfl rfl rfl (by decide) ?_)
      all_goals (refine AtT.move rfl trivial rfl (by decide) ?_)
      all_goals (first | refine AtT.litT (d := 36) rfl ?_ | refine AtT.litF (d := 36) rfl ?_ | refine AtT.litU (d := 36) rfl ?_ | refine AtT.pcase (d := 36) rfl (fun hg36 => ?_) (fun hg36 => ?_) | refine AtT.bcase (d := 36) rfl (fun hg36 => ?_) (fun hg36 => ?_))
      all_goals (first | refine AtT.pass rfl rfl rfl rfl rfl rfl (by decide) ?_ | refine AtT.passU rfl rfl rfl rfl rfl rfl (by decide) ?_ | ((first | refine AtT.loadOA rfl ⟨_, _, rfl, rfl, rfl⟩ rfl tk31 (by repeat (first | exact Pick.here | apply Pick.there)) (by rfl) (by decide) ?_ | refine AtT.loadA rfl ⟨_, _, rfl, rfl, rfl⟩ rfl tk31 (by first | assumption | exact Cells.le (by assumption) (by assumption)) (by rfl) (by decide) ?_ | refine AtT.loadOP rfl ⟨_, _, rfl, rfl, rfl⟩ rfl tk31 (by repeat (first | exact Pick.here | apply Pick.there)) (by rfl) (by rfl) (by decide) ?_)))
      all_goals (first | refine AtT.pass rfl rfl rfl rfl rfl rfl (by decide) ?_ | refine AtT.passU rfl rfl rfl rfl rfl rfl (by decide) ?_ | ((first | refine AtT.loadOA rfl ⟨_, _, rfl, rfl, rfl⟩ rfl tk31 (by repeat (first | exact Pick.here | apply Pick.there)) (by rfl) (by decide) ?_ | refine AtT.loadA rfl ⟨_, _, rfl, rfl, rfl⟩ rfl tk31 (by first | assumption | exact Cells.le (by assumption) (by assumption)) (by rfl) (by decide) ?_ | refine AtT.loadOP rfl ⟨_, _, rfl, rfl, rfl⟩ rfl tk31 (by repeat (first | exact Pick.here | apply Pick.there)) (by rfl) (by rfl) (by decide) ?_)))
      all_goals (first | refine AtT.pass rfl rfl rfl rfl rfl rfl (by decide) ?_ | refine AtT.passU rfl rfl rfl rfl rfl rfl (by decide) ?_ | ((refine AtT.eqS rfl ⟨_, _, rfl, rfl, rfl⟩ rfl rfl (eqS31 _ _ _ _) (by decide) ?_)))
      all_goals (rw [decide_eq_true (⟨rfl, rfl⟩ : (coreR L x).1.num = (coreR L x).1.num ∧ (coreR L x).1.den = (coreR L x).1.den)])
      all_goals (refine AtT.pick rfl trivial rfl rfl rfl (by decide) ?_)
      all_goals (refine AtT.move rfl trivial rfl (by decide) ?_)
      all_goals (first | refine AtT.litT (d := 41) rfl ?_ | refine AtT.litF (d := 41) rfl ?_ | refine AtT.litU (d := 41) rfl ?_ | refine AtT.pcase (d := 41) rfl (fun hg41 => ?_) (fun hg41 => ?_) | refine AtT.bcase (d := 41) rfl (fun hg41 => ?_) (fun hg41 => ?_))
      all_goals (first | refine AtT.pass rfl rfl rfl rfl rfl rfl (by decide) ?_ | refine AtT.passU rfl rfl rfl rfl rfl rfl (by decide) ?_ | ((refine AtT.move rfl ⟨_, _, rfl, rfl, rfl⟩ rfl (by decide) ?_)))
      all_goals (first | refine AtT.pass rfl rfl rfl rfl rfl rfl (by decide) ?_ | refine AtT.passU rfl rfl rfl rfl rfl rfl (by decide) ?_ | ((refine AtT.move rfl ⟨_, _, rfl, rfl, rfl⟩ rfl (by decide) ?_)))
      all_goals (first | refine AtT.pass rfl rfl rfl rfl rfl rfl (by decide) ?_ | refine AtT.passU rfl rfl rfl rfl rfl rfl (by decide) ?_ | ((refine AtT.eqI rfl ⟨_, _, rfl, rfl, rfl⟩ rfl rfl (by decide) ?_)))
      all_goals (rw [decide_eq_true (rfl : (coreR L x).2 = (coreR L x).2)])
      all_goals (refine AtT.pick rfl trivial rfl rfl rfl (by decide) ?_)
      all_goals (refine AtT.move rfl trivial rfl (by decide) ?_)
      all_goals (first | refine AtT.litT (d := 46) rfl ?_ | refine AtT.litF (d := 46) rfl ?_ | refine AtT.litU (d := 46) rfl ?_ | refine AtT.pcase (d := 46) rfl (fun hg46 => ?_) (fun hg46 => ?_) | refine AtT.bcase (d := 46) rfl (fun hg46 => ?_) (fun hg46 => ?_))
      all_goals (first | refine AtT.passN rfl rfl rfl rfl rfl rfl (by decide) ?_ | refine AtT.passNU rfl rfl rfl rfl rfl rfl (by decide) ?_ | ((refine AtT.callP rfl ⟨_, _, rfl, rfl, rfl⟩ rfl ok19 (by decide) (works_f _) ?_) ; (rintro _ rfl)))
      all_goals (refine AtT.pick rfl trivial rfl rfl rfl (by decide) ?_)
      all_goals (refine AtT.assign rfl trivial rfl (by decide) ?_)
      exact AtT.done (fun a w hk hm => ⟨hk, hm⟩)
    refine At.nrm ?_
    exact At.ret1 rfl (.tmp rfl) rfl
end Go.Proofs.Ytnionkopmncopaa
set_option linter.unusedVariables false
namespace Go.Proofs.Ytnionkopmncopaa.c1
open Go.Lw Go.Pl Go.RowKit Go.ChangeShapes Go.WideShapes Go.ChangeAt

set_option maxRecDepth 100000 in
theorem lifted (os : Os) (started : os.Started) (H : Type) (enc : TypeId × Value → H) :
    ReturnsInHanded {} Try.checked os 3 .any (Rows.peelLogsSpec.pre6 enc Try.prog Try.f3 Rows.peelLogsRow.domain false) (Rows.peelLogsSpec.post enc Try.prog Try.f3 false true false false) := by
  refine law_lift (tb := 4) (fun ds hd => by match ds, hd with | [d1, d2], _ => rfl) rfl (by kernel_rfl) Try.underlying4 laidOut (by kernel_rfl) own started (by kernel_rfl) Try.func3
    (ChangeSpec.witness6 (enc := enc) (C := Try.checked) false ⟨#[], #[.agg #[.slice none 0 0, .slice none 0 0], .agg #[.int .i64 0, .int .i64 0, .int .i64 0]], []⟩ 8 (by kernel_rfl) (by kernel_rfl) (by kernel_rfl) (by kernel_rfl)) ?_
  intro W base args ds ps hval hA
  rw [Try.params3] at hA hval
  obtain ⟨v0, vs0, d0, ds0, p0, q0, hargs, rfl, rfl, h0, r0⟩ := trodAll_cons hA
  obtain ⟨v1, vs1, d1, ds1, p1, q1, rfl, rfl, rfl, h1, r1⟩ := trodAll_cons r0
  obtain ⟨rfl, rfl, rfl⟩ := trodAll_nil r1
  obtain rfl : args = #[v0, v1] := by cases args; simp_all
  obtain ⟨L, hL⟩ := open_log (hval 0 25 v0 rfl rfl) h0
  obtain ⟨x, rfl⟩ := open_line (hval 1 27 v1 rfl rfl) h1
  exact ⟨[v0, lnv x], rfl, peelLogs_f L x _ _ hL⟩

theorem over : Rows.peelLogsRow.holds Try.pinned (OpenSpec.ofChange Rows.peelLogsSpec) :=
  OpenClaim.holds_of_wide 3 Try.f3 rfl rfl rfl rfl rfl rfl rfl ⟨rfl, rfl, rfl, rfl, rfl⟩ rfl rfl rfl rfl rfl (by kernel_rfl) Try.func3 (by kernel_rfl)
    (of_decide_eq_true (by kernel_rfl)) (by unfold Func.isWrapper; first | (rw [if_pos (by decide +kernel)]; kernel_rfl) | (rw [if_neg (by decide +kernel)]; exact ⟨rfl, rfl⟩))
    (fun os started H enc _ => lifted os started H enc)

theorem proved : Rows.PeelLogsSaid := over
#print axioms proved
end Go.Proofs.Ytnionkopmncopaa.c1
