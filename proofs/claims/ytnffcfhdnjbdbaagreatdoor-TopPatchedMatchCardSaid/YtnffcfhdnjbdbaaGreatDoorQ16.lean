/- A part. -/
import Derived.Test.YtnffcfhdnjbdbaaGreatDoorQ6
namespace Go.Ev
open Go.Lw Go.RowKit
theorem w07:runs O2 213=true:=by decide +kernel
theorem works07 (w:World):Calls Pr 213 #[] w λen w'=>en=.returned (.bool true)/\Below w.heap.size w w':=ji w07 w (oc2 w)
end Go.Ev
