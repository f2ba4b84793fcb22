/- A part. -/
import Derived.Test.YtnffcfhdnjbdbaaGreatDoorQ6
namespace Go.Ev
open Go.Lw Go.RowKit
theorem w05:runs O0 350=true:=by decide +kernel
theorem works05 (w:World):Calls Pr 350 #[] w λen w'=>en=.returned (.bool true)/\Below w.heap.size w w':=ji w05 w (o0_ok w)
end Go.Ev
