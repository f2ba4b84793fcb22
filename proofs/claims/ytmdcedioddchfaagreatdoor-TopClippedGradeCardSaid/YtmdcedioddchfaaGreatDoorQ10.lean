/- Texts that the last one of this claim imports. -/
import Derived.Test.YtmdcedioddchfaaGreatDoorQ5
set_option linter.unusedVariables false
set_option linter.unusedSimpArgs false
set_option linter.unusedSectionVars false
namespace Go.Ev
theorem u04a:isT (cutE (fuel O1 1000) (fun τ h=>gd (leS 276 τ h τ286_12 h286_12) (some [])) 12 (qO 219) L3.e H.e)=true:=by decide +kernel
end Go.Ev
