/- A part. -/
import Derived.Test.YtnffcfhdnjbdbaaGreatDoorQ1
set_option maxRecDepth 100000
namespace Go.Proofs.YtnffcfhdnjbdbaaGreatDoor
open Go Go.Clo
theorem le6:(cl6.all λx=>eqL (leads Tryz.prog x.1) x.2)=true:=by kernel_rfl
theorem ip6:(cl6.map (·.1)).filterMap inpF=[]:=by kernel_rfl
theorem gn6:(cl6.map (·.1)).flatMap gnF=[]:=by kernel_rfl
theorem er6:(cl6.map (·.1)).filterMap erF=[]:=by kernel_rfl
theorem le7:(cl7.all λx=>eqL (leads Tryz.prog x.1) x.2)=true:=by kernel_rfl
theorem ip7:(cl7.map (·.1)).filterMap inpF=[]:=by kernel_rfl
theorem gn7:(cl7.map (·.1)).flatMap gnF=[]:=by kernel_rfl
theorem er7:(cl7.map (·.1)).filterMap erF=[]:=by kernel_rfl
end Go.Proofs.YtnffcfhdnjbdbaaGreatDoor
