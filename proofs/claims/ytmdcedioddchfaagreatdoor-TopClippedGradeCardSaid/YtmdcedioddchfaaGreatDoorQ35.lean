/- Texts that the last one of this claim imports. -/
import Derived.Test.YtmdcedioddchfaaGreatDoorQ34
set_option linter.unusedVariables false
set_option linter.unusedSimpArgs false
set_option linter.unusedSectionVars false
namespace Go.Ev
open Go.Lw Go.RowKit
theorem w03:runs O3 291=true:=by decide +kernel
theorem works03 (w:World):Calls Pr 291 #[] w fun en w'=>en=.returned (.bool true)∧Below w.heap.size w w':=kX w03 w (oc3 w)
end Go.Ev
