/- A part. -/
import Derived.Test.YtnffcfhdnjbdbaaGreatDoorQ1
set_option maxRecDepth 100000
namespace Go.Proofs.YtnffcfhdnjbdbaaGreatDoor
open Go Go.Clo
theorem le4:(cl4.all λx=>eqL (leads Tryz.prog x.1) x.2)=true:=by kernel_rfl
theorem ip4:(cl4.map (·.1)).filterMap inpF=[]:=by kernel_rfl
theorem gn4:(cl4.map (·.1)).flatMap gnF=[]:=by kernel_rfl
theorem er4:(cl4.map (·.1)).filterMap erF=[]:=by kernel_rfl
theorem le5:(cl5.all λx=>eqL (leads Tryz.prog x.1) x.2)=true:=by kernel_rfl
theorem ip5:(cl5.map (·.1)).filterMap inpF=[]:=by kernel_rfl
theorem gn5:(cl5.map (·.1)).flatMap gnF=[]:=by kernel_rfl
theorem er5:(cl5.map (·.1)).filterMap erF=[]:=by kernel_rfl
end Go.Proofs.YtnffcfhdnjbdbaaGreatDoor
