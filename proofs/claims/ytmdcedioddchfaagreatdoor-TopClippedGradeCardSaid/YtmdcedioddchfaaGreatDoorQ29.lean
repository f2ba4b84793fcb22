/- Texts that the last one of this claim imports. -/
import Derived.Test.YtmdcedioddchfaaGreatDoorQ1
set_option linter.unusedVariables false
set_option linter.unusedSimpArgs false
set_option linter.unusedSectionVars false
set_option maxRecDepth 100000
namespace Go.Proofs.YtmdcedioddchfaaGreatDoor
open Go Go.Clo
theorem le0:(cl0.all fun x=>eqL (leads Tryz.prog x.1) x.2)=true:=by kernel_rfl
theorem ip0:(cl0.map (·.1)).filterMap inpF=[]:=by kernel_rfl
theorem gn0:(cl0.map (·.1)).flatMap gnF=[]:=by kernel_rfl
theorem er0:(cl0.map (·.1)).filterMap erF=[]:=by kernel_rfl
theorem le1:(cl1.all fun x=>eqL (leads Tryz.prog x.1) x.2)=true:=by kernel_rfl
theorem ip1:(cl1.map (·.1)).filterMap inpF=["internal/abi.NoEscape","internal/bytealg.MakeNoZero"]:=by kernel_rfl
theorem gn1:(cl1.map (·.1)).flatMap gnF=[]:=by kernel_rfl
theorem er1:(cl1.map (·.1)).filterMap erF=[]:=by kernel_rfl
end Go.Proofs.YtmdcedioddchfaaGreatDoor
