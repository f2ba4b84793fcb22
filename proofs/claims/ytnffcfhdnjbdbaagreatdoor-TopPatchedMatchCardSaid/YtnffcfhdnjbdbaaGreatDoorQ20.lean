/- A part. -/
import Derived.Test.YtnffcfhdnjbdbaaGreatDoorQ1
set_option maxRecDepth 100000
namespace Go.Proofs.YtnffcfhdnjbdbaaGreatDoor
open Go
theorem laid_fits (os:Os):(World.holding Tryz.prog os ⟨#[],#[],[]⟩).layFits Tryz.prog kz []=true:=by kernel_rfl
end Go.Proofs.YtnffcfhdnjbdbaaGreatDoor
