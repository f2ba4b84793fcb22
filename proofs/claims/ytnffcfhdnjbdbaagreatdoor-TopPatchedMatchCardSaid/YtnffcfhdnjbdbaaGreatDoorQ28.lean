/- A part. -/
import Derived.Test.YtnffcfhdnjbdbaaGreatDoorQ1
namespace Go.Proofs.YtnffcfhdnjbdbaaGreatDoor
open Go
theorem te:∀ os tape,(DataW.laidRun Tryz.prog (varsWorld Tryz.prog 400 (varsId Tryz.prog) os tape).memory 8 (L0.map (·.1))).map (λx=>decide x.2.Nodup && laidRowsB Tryz.prog (varsWorld Tryz.prog 400 (varsId Tryz.prog) os tape).memory x.2)=some true:=λ_ _=>by kernel_rfl
end Go.Proofs.YtnffcfhdnjbdbaaGreatDoor
