/- Texts that the last one of this claim imports. -/
import Derived.Test.YtmdcedioddchfaaGreatDoorQ1
set_option linter.unusedVariables false
set_option linter.unusedSimpArgs false
set_option linter.unusedSectionVars false
namespace Go.Proofs.YtmdcedioddchfaaGreatDoor
open Go
theorem td:∀ os tape,(DataW.laidRun Tryz.prog (varsWorld Tryz.prog 400 (varsId Tryz.prog) os tape).memory 8 (L0.map (·.1))).map (·.1)=some L0:=fun _ _=>by kernel_rfl
end Go.Proofs.YtmdcedioddchfaaGreatDoor
