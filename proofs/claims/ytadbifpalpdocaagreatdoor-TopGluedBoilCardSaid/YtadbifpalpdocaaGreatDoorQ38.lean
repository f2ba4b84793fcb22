/- Texts that the last one of this claim imports. -/
import Derived.Test.YtadbifpalpdocaaGreatDoorQ35
set_option linter.unusedVariables false
set_option linter.unusedSimpArgs false
set_option linter.unusedSectionVars false
namespace Go.Ev
open Go.Lw Go.RowKit
theorem w10 : runs O4 15 = true := by decide +kernel
theorem works10 (w : World) : Calls Pr 15 #[] w fun en w' => en = .returned (.bool true) ∧ Below w.heap.size w w' := jH w10 w (oc4 w)
end Go.Ev
