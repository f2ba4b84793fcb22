/- A part. -/
import Derived.Test.YtnffcfhdnjbdbaaGreatDoorQ1
set_option maxRecDepth 100000
namespace Go.Proofs.YtnffcfhdnjbdbaaGreatDoor
open Go Go.Clo
theorem le2:(cl2.all λx=>eqL (leads Tryz.prog x.1) x.2)=true:=by kernel_rfl
theorem ip2:(cl2.map (·.1)).filterMap inpF=["internal/bytealg.MakeNoZero","internal/bytealg.IndexByteString","internal/bytealg.IndexString","internal/bytealg.CountString"]:=by kernel_rfl
theorem gn2:(cl2.map (·.1)).flatMap gnF=[1,2,0,0,0]:=by kernel_rfl
theorem er2:(cl2.map (·.1)).filterMap erF=["internal/bytealg.MaxLen"]:=by kernel_rfl
theorem le3:(cl3.all λx=>eqL (leads Tryz.prog x.1) x.2)=true:=by kernel_rfl
theorem ip3:(cl3.map (·.1)).filterMap inpF=[]:=by kernel_rfl
theorem gn3:(cl3.map (·.1)).flatMap gnF=[]:=by kernel_rfl
theorem er3:(cl3.map (·.1)).filterMap erF=[]:=by kernel_rfl
end Go.Proofs.YtnffcfhdnjbdbaaGreatDoor
