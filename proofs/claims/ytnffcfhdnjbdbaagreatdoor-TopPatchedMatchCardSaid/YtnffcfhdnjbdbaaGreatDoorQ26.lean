/- A part. -/
import Derived.Test.YtnffcfhdnjbdbaaGreatDoorQ1
namespace Go.Proofs.YtnffcfhdnjbdbaaGreatDoor
open Go
theorem tc:∀ os tape,varsDone Tryz.prog 400 (varsId Tryz.prog) os tape=true:=λ_ _=>by kernel_rfl
end Go.Proofs.YtnffcfhdnjbdbaaGreatDoor
