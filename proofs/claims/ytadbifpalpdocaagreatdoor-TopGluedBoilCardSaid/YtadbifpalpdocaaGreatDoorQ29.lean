/- Texts that the last one of this claim imports. -/
import Derived.Test.YtadbifpalpdocaaGreatDoorCards
import Derived.JoinedOf
import Derived.Test.YtadbifpalpdocaaGreatDoorQ1
set_option linter.unusedVariables false
set_option linter.unusedSimpArgs false
set_option linter.unusedSectionVars false
set_option maxRecDepth 100000
namespace Go.Proofs.YtadbifpalpdocaaGreatDoor
open Go Go.ChangeShapes Go.WideShapes
theorem zNamed : Tryz.prog.funcNamed "crossband/crossbandtop.TopGluedBoil" = some 3 := by kernel_rfl
theorem zInst : Tryz.f3.isInstance Tryz.pinned.checked.prog Rows.topGluedBoilRow.origin Rows.topGluedBoilRow.targs := of_decide_eq_true (by kernel_rfl)
theorem zWrap : Tryz.f3.isWrapper Tryz.pinned.checked.prog Rows.topGluedBoilRow.wrapper Rows.topGluedBoilRow.mainSum := by
 unfold Func.isWrapper; first | (rw [if_pos (by decide +kernel)]; kernel_rfl) | (rw [if_neg (by decide +kernel)]; exact ⟨rfl, rfl⟩)
theorem zMain : Tryz.pinned.checked.prog.mainIs = some (true, "a95f30f56192ed96c871a3b3ef6ec848ae00548d3d4aaf08f61e0fb5011d5065".toList) := by kernel_rfl
theorem zLook : false = Tryz.pinned.checked.prog.looks [] := by kernel_rfl
theorem zStand : ([25, 26, 27, 5].all fun u => !Tryz.prog.wantsStandIn u) = true := by kernel_rfl
theorem zText : Rows.topGluedBoilRow.wfByText (OpenSpec.ofChange Rows.topGluedBoilSpec) = true := by kernel_rfl
end Go.Proofs.YtadbifpalpdocaaGreatDoor
