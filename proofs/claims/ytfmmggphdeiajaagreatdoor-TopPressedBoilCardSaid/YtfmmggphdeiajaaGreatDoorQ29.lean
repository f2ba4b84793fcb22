/- Texts that the last one of this claim imports. -/
import Derived.Test.YtfmmggphdeiajaaGreatDoorCards
import Derived.JoinedOf
import Derived.Test.YtfmmggphdeiajaaGreatDoorQ1
set_option linter.unusedVariables false
set_option linter.unusedSimpArgs false
set_option linter.unusedSectionVars false
set_option maxRecDepth 100000
namespace Go.Proofs.YtfmmggphdeiajaaGreatDoor
open Go Go.ChangeShapes Go.WideShapes
theorem zNamed:Tryz.prog.funcNamed "crossband/crossbandtop.TopPressedBoil" = some 3:=by kernel_rfl
theorem zInst:Tryz.f3.isInstance Tryz.pinned.checked.prog Rows.topPressedBoilRow.origin Rows.topPressedBoilRow.targs:=of_decide_eq_true (by kernel_rfl)
theorem zWrap:Tryz.f3.isWrapper Tryz.pinned.checked.prog Rows.topPressedBoilRow.wrapper Rows.topPressedBoilRow.mainSum:=by
 unfold Func.isWrapper; first | (rw[if_pos (by decide +kernel)]; kernel_rfl) | (rw[if_neg (by decide +kernel)]; exact⟨rfl,rfl⟩)
theorem zMain:Tryz.pinned.checked.prog.mainIs=some (true,"462175c55c907d5730da30248d005355cfaab3b5991281594385fb901d386600".toList):=by kernel_rfl
theorem zLook:false=Tryz.pinned.checked.prog.looks []:=by kernel_rfl
theorem zStand:([24,25,26,5].all fun u=>!Tryz.prog.wantsStandIn u)=true:=by kernel_rfl
theorem zText:Rows.topPressedBoilRow.wfByText (OpenSpec.ofChange Rows.topPressedBoilSpec)=true:=by kernel_rfl
end Go.Proofs.YtfmmggphdeiajaaGreatDoor
