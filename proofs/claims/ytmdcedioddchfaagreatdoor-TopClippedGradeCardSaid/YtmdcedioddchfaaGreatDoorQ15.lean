/- Texts that the last one of this claim imports. -/
import Derived.Test.YtmdcedioddchfaaGreatDoorQ6
set_option linter.unusedVariables false
set_option linter.unusedSimpArgs false
set_option linter.unusedSectionVars false
namespace Go.Ev
open Go.Lw Go.RowKit
theorem w07:runs O2 58=true:=by decide +kernel
theorem works07 (w:World):Calls Pr 58 #[] w fun en w'=>en=.returned (.bool true)∧Below w.heap.size w w':=kX w07 w (oc2 w)
end Go.Ev
