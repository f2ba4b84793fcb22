/- Texts that the last one of this claim imports. -/
import Derived.Test.YtmdcedioddchfaaGreatDoorQ5
set_option linter.unusedVariables false
set_option linter.unusedSimpArgs false
set_option linter.unusedSectionVars false
namespace Go.Ev
theorem u02a:isT (cutE (fuel O0 1000) (fun τ h=>gd (leS 290 τ h τ355_11 h355_11) (some [])) 11 (qO 290) L3.e H.e)=true:=by decide +kernel
end Go.Ev
