/- Texts that the last one of this claim imports. -/
import Derived.Test.YtfmmggphdeiajaaGreatDoorQ6
set_option linter.unusedVariables false
set_option linter.unusedSimpArgs false
set_option linter.unusedSectionVars false
namespace Go.Ev
open Go.Lw Go.RowKit
theorem w01:runs O0 351=true:=by decide +kernel
theorem works01 (w:World):Calls Pr 351 #[] w fun en w'=>en=.returned (.bool true)∧Below w.heap.size w w':=jO w01 w (o0_ok w)
end Go.Ev
