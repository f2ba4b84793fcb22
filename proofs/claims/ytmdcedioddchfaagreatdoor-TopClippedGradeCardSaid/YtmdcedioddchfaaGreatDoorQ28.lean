/- Texts that the last one of this claim imports. -/
import Derived.Test.YtmdcedioddchfaaGreatDoorCards
import Derived.JoinedOf
import Derived.Test.YtmdcedioddchfaaGreatDoorQ1
set_option linter.unusedVariables false
set_option linter.unusedSimpArgs false
set_option linter.unusedSectionVars false
set_option maxRecDepth 100000
namespace Go.Proofs.YtmdcedioddchfaaGreatDoor
open Go Go.ChangeShapes Go.WideShapes
theorem zNamed:Tryz.prog.funcNamed "crossband/crossbandtop.TopClippedGrade" = some 3:=by kernel_rfl
theorem zInst:Tryz.f3.isInstance Tryz.pinned.checked.prog Rows.topClippedGradeRow.origin Rows.topClippedGradeRow.targs:=of_decide_eq_true (by kernel_rfl)
theorem zWrap:Tryz.f3.isWrapper Tryz.pinned.checked.prog Rows.topClippedGradeRow.wrapper Rows.topClippedGradeRow.mainSum:=by
 unfold Func.isWrapper; first | (rw[if_pos (by decide +kernel)]; kernel_rfl) | (rw[if_neg (by decide +kernel)]; exact⟨rfl,rfl⟩)
theorem zMain:Tryz.pinned.checked.prog.mainIs=some (true,"c85c305bf4dfde18f612df8672bf9c551ed5e5f4f268eb1b73728f0bcbac9acb".toList):=by kernel_rfl
theorem zLook:false=Tryz.pinned.checked.prog.looks []:=by kernel_rfl
theorem zStand:([24,25].all fun u=>!Tryz.prog.wantsStandIn u)=true:=by kernel_rfl
theorem zText:Rows.topClippedGradeRow.wfByText (OpenSpec.ofChange Rows.topClippedGradeSpec)=true:=by kernel_rfl
end Go.Proofs.YtmdcedioddchfaaGreatDoor
