/- Texts that the last one of this claim imports. -/
import Derived.Test.YtmdcedioddchfaaGreatDoorQ5
set_option linter.unusedVariables false
set_option linter.unusedSimpArgs false
set_option linter.unusedSectionVars false
namespace Go.Ev
theorem u04c:isT ((codeE (drpC 13 (qO 219))).g (fuel O1 1000) 100000 τ286_13 h286_13 (endT (resOf 219)))=true:=by decide +kernel
end Go.Ev
