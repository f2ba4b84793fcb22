/- A part. -/
import Derived.Test.YtnffcfhdnjbdbaaGreatDoorQ6
namespace Go.Ev
open Go.Lw Go.RowKit
theorem w11:runs O6 12=true:=by decide +kernel
theorem works11 (w:World):Calls Pr 12 #[] w λen w'=>en=.returned (.bool true)/\Below w.heap.size w w':=ji w11 w (oc6 w)
end Go.Ev
