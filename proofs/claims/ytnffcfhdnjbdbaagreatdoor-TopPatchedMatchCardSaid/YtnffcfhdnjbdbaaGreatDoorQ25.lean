/- A part. -/
import Derived.Test.YtnffcfhdnjbdbaaGreatDoorQ1
namespace Go.Proofs.YtnffcfhdnjbdbaaGreatDoor
open Go
theorem tb:varsNamedLaterB Tryz.prog (varsId Tryz.prog) L0=true:=by kernel_rfl
end Go.Proofs.YtnffcfhdnjbdbaaGreatDoor
