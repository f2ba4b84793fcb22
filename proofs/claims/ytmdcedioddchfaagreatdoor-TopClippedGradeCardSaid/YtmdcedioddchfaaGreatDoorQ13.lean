/- Texts that the last one of this claim imports. -/
import Derived.Test.YtmdcedioddchfaaGreatDoorQ5
set_option linter.unusedVariables false
set_option linter.unusedSimpArgs false
set_option linter.unusedSectionVars false
namespace Go.Ev
open Go.Lw Go.RowKit
theorem w05:runs O0 157=true:=by decide +kernel
theorem works05 (w:World):Calls Pr 157 #[] w fun en w'=>en=.returned (.bool true)∧Below w.heap.size w w':=kX w05 w (o0_ok w)
end Go.Ev
