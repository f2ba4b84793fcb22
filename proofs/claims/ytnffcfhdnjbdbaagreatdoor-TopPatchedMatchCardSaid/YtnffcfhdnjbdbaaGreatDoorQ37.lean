/- A part. -/
import Derived.Test.YtnffcfhdnjbdbaaGreatDoorQ36
namespace Go.Ev
open Go.Lw Go.RowKit
theorem w03:runs O3 486=true:=by decide +kernel
theorem works03 (w:World):Calls Pr 486 #[] w λen w'=>en=.returned (.bool true)/\Below w.heap.size w w':=ji w03 w (oc3 w)
end Go.Ev
