/- A part. -/
import Derived.Test.YtnffcfhdnjbdbaaGreatDoorQ1
set_option maxRecDepth 100000
namespace Go.Proofs.YtnffcfhdnjbdbaaGreatDoor
open Go
theorem fine0:(List.range' 0 250).all (rowFine Tryz.prog)=true:=by kernel_rfl
end Go.Proofs.YtnffcfhdnjbdbaaGreatDoor
