/- Texts that the last one of this claim imports. -/
import Derived.Test.YtmdcedioddchfaaGreatDoorQ5
set_option linter.unusedVariables false
set_option linter.unusedSimpArgs false
set_option linter.unusedSectionVars false
namespace Go.Ev
theorem u04b:isT (cutE (fuel O1 1000) (fun τ h=>gd (leS 276 τ h τ286_13 h286_13) (some [])) 1 (drpC 12 (qO 219)) τ286_12 h286_12)=true:=by decide +kernel
end Go.Ev
