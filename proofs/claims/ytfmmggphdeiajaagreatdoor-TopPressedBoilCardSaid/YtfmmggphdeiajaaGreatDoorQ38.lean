/- Texts that the last one of this claim imports. -/
import Derived.Test.YtfmmggphdeiajaaGreatDoorQ35
set_option linter.unusedVariables false
set_option linter.unusedSimpArgs false
set_option linter.unusedSectionVars false
namespace Go.Ev
open Go.Lw Go.RowKit
theorem w10:runs O4 19=true:=by decide +kernel
theorem works10 (w:World):Calls Pr 19 #[] w fun en w'=>en=.returned (.bool true)∧Below w.heap.size w w':=jO w10 w (oc4 w)
end Go.Ev
