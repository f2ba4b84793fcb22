/- A part. -/
import Derived.Test.YtnffcfhdnjbdbaaGreatDoorQ1
namespace Go.Proofs.YtnffcfhdnjbdbaaGreatDoor
open Go
theorem ta1:Tryz.prog.worded (varsWordLater true)=true:=by kernel_rfl
theorem ta2:Tryz.prog.worded (varsWordLater false)=false:=by kernel_rfl
theorem ta3:Tryz.prog.worded rootWordLater=true:=by kernel_rfl
theorem ta4:L0.map (λx=>Tryz.prog.kindOfLater x.1)=([LaidKind.data].map some):=by kernel_rfl
theorem ta5:(Tryz.prog.funcNamed "gosem.cut.vars").isSome=true:=by kernel_rfl
end Go.Proofs.YtnffcfhdnjbdbaaGreatDoor
