/- Texts that the last one of this claim imports. -/
import Derived.Test.YtmdcedioddchfaaGreatDoorQ5
set_option linter.unusedVariables false
set_option linter.unusedSimpArgs false
set_option linter.unusedSectionVars false
namespace Go.Ev
open Go.Lw Go.RowKit
theorem w01:runs O0 289=true:=by decide +kernel
theorem works01 (w:World):Calls Pr 289 #[] w fun en w'=>en=.returned (.bool true)∧Below w.heap.size w w':=kX w01 w (o0_ok w)
end Go.Ev
