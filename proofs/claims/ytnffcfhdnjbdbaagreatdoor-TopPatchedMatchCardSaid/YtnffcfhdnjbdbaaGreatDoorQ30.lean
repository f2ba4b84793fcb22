/- A part. -/
import Derived.Test.YtnffcfhdnjbdbaaGreatDoorCards
import Derived.JoinedOf
import Derived.Test.YtnffcfhdnjbdbaaGreatDoorQ1
set_option maxRecDepth 100000
namespace Go.Proofs.YtnffcfhdnjbdbaaGreatDoor
open Go Go.ChangeShapes Go.WideShapes
theorem zNamed:Tryz.prog.funcNamed "crossband/crossbandtop.TopPatchedMatch" = some 3:=by kernel_rfl
theorem zInst:Tryz.f3.isInstance Tryz.pinned.checked.prog Rows.topPatchedMatchRow.origin Rows.topPatchedMatchRow.targs:=of_decide_eq_true (by kernel_rfl)
theorem zWrap:Tryz.f3.isWrapper Tryz.pinned.checked.prog Rows.topPatchedMatchRow.wrapper Rows.topPatchedMatchRow.mainSum:=by unfold Func.isWrapper;first | (rw[if_pos (by decide +kernel)];kernel_rfl) | (rw[if_neg (by decide +kernel)];exact⟨rfl,rfl⟩)
theorem zMain:Tryz.pinned.checked.prog.mainIs=some (true,"08ded36494b620ac30ff35131ac963f95bd8458a1b3f90a730157ee4eaff14b1".toList):=by kernel_rfl
theorem zLook:false=Tryz.pinned.checked.prog.looks []:=by kernel_rfl
theorem zStand:([24].all λu=>!Tryz.prog.wantsStandIn u)=true:=by kernel_rfl
theorem zText:Rows.topPatchedMatchRow.wfByText (OpenSpec.ofChange Rows.topPatchedMatchSpec)=true:=by kernel_rfl
end Go.Proofs.YtnffcfhdnjbdbaaGreatDoor
