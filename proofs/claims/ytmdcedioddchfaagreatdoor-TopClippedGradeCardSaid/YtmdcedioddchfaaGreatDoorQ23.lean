/- Texts that the last one of this claim imports. -/
import Derived.Test.YtmdcedioddchfaaGreatDoorQ1
set_option linter.unusedVariables false
set_option linter.unusedSimpArgs false
set_option linter.unusedSectionVars false
namespace Go.Proofs.YtmdcedioddchfaaGreatDoor
open Go
theorem tb:varsNamedLaterB Tryz.prog (varsId Tryz.prog) L0=true:=by kernel_rfl
end Go.Proofs.YtmdcedioddchfaaGreatDoor
