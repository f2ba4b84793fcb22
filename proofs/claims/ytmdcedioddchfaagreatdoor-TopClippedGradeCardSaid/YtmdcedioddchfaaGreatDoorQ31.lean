/- Texts that the last one of this claim imports. -/
import Derived.Test.YtmdcedioddchfaaGreatDoorQ1
set_option linter.unusedVariables false
set_option linter.unusedSimpArgs false
set_option linter.unusedSectionVars false
set_option maxRecDepth 100000
namespace Go.Proofs.YtmdcedioddchfaaGreatDoor
open Go Go.Clo
theorem le4:(cl4.all fun x=>eqL (leads Tryz.prog x.1) x.2)=true:=by kernel_rfl
theorem ip4:(cl4.map (·.1)).filterMap inpF=[]:=by kernel_rfl
theorem gn4:(cl4.map (·.1)).flatMap gnF=[]:=by kernel_rfl
theorem er4:(cl4.map (·.1)).filterMap erF=[]:=by kernel_rfl
theorem le5:(cl5.all fun x=>eqL (leads Tryz.prog x.1) x.2)=true:=by kernel_rfl
theorem ip5:(cl5.map (·.1)).filterMap inpF=[]:=by kernel_rfl
theorem gn5:(cl5.map (·.1)).flatMap gnF=[]:=by kernel_rfl
theorem er5:(cl5.map (·.1)).filterMap erF=[]:=by kernel_rfl
end Go.Proofs.YtmdcedioddchfaaGreatDoor
