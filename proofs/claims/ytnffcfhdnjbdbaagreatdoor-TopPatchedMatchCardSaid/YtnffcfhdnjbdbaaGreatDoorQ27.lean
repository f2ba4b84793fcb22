/- A part. -/
import Derived.Test.YtnffcfhdnjbdbaaGreatDoorQ1
namespace Go.Proofs.YtnffcfhdnjbdbaaGreatDoor
open Go
theorem td:∀ os tape,(DataW.laidRun Tryz.prog (varsWorld Tryz.prog 400 (varsId Tryz.prog) os tape).memory 8 (L0.map (·.1))).map (·.1)=some L0:=λ_ _=>by kernel_rfl
end Go.Proofs.YtnffcfhdnjbdbaaGreatDoor
