/- Texts that the last one of this claim imports. -/
import Derived.Test.YtmdcedioddchfaaGreatDoorQ5
set_option linter.unusedVariables false
set_option linter.unusedSimpArgs false
set_option linter.unusedSectionVars false
namespace Go.Ev
theorem u02b:isT ((codeE (drpC 11 (qO 290))).g (fuel O0 1000) 100000 τ355_11 h355_11 (endT (resOf 290)))=true:=by decide +kernel
end Go.Ev
