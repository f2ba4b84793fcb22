/- A part. -/
import Derived.Test.YtnffcfhdnjbdbaaGreatDoorQ1
set_option maxRecDepth 100000
namespace Go.Proofs.YtnffcfhdnjbdbaaGreatDoor
open Go Go.Clo
theorem le0:(cl0.all λx=>eqL (leads Tryz.prog x.1) x.2)=true:=by kernel_rfl
theorem ip0:(cl0.map (·.1)).filterMap inpF=[]:=by kernel_rfl
theorem gn0:(cl0.map (·.1)).flatMap gnF=[]:=by kernel_rfl
theorem er0:(cl0.map (·.1)).filterMap erF=[]:=by kernel_rfl
theorem le1:(cl1.all λx=>eqL (leads Tryz.prog x.1) x.2)=true:=by kernel_rfl
theorem ip1:(cl1.map (·.1)).filterMap inpF=["internal/abi.NoEscape"]:=by kernel_rfl
theorem gn1:(cl1.map (·.1)).flatMap gnF=[]:=by kernel_rfl
theorem er1:(cl1.map (·.1)).filterMap erF=[]:=by kernel_rfl
end Go.Proofs.YtnffcfhdnjbdbaaGreatDoor
