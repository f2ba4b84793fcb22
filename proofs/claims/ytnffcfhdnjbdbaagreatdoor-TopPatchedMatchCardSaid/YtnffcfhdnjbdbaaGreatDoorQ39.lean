/- A part. -/
import Derived.Test.YtnffcfhdnjbdbaaGreatDoorQ21
import Derived.Test.YtnffcfhdnjbdbaaGreatDoorQ22
import Derived.Test.YtnffcfhdnjbdbaaGreatDoorQ23
set_option maxRecDepth 100000
namespace Go.Proofs.YtnffcfhdnjbdbaaGreatDoor
open Go
theorem own:ownKnob Tryz.prog.godebug=none:=by kernel_rfl
theorem laidOut0:Tryz.prog.types.size=819:=by kernel_rfl
theorem laidOut1:Tryz.prog.globals.all (λg=>decide (g.type<Tryz.prog.types.size))=true:=by kernel_rfl
theorem laidOut2:Tryz.prog.funcs.all (λf=>f.params.all λt=>decide (t<Tryz.prog.types.size))=true:=by kernel_rfl
theorem laidOut:laidOutB Tryz.prog=true:=by
 unfold laidOutB;rw[laidOut1,laidOut2,Bool.and_true,Bool.and_true,laidOut0,List.all_eq_true];intro t ht;rw[List.mem_range]at ht;rcases Nat.lt_or_ge t 250 with h | h
 ·exact List.all_eq_true.1 fine0 t (List.mem_range'_1.2 ⟨Nat.zero_le _,by omega⟩)
 rcases Nat.lt_or_ge t 500 with h' | h'
 ·exact List.all_eq_true.1 fine250 t (List.mem_range'_1.2 ⟨h,by omega⟩)
 ·exact List.all_eq_true.1 fine500 t (List.mem_range'_1.2 ⟨h',by omega⟩)
end Go.Proofs.YtnffcfhdnjbdbaaGreatDoor
