/- A part. -/
import Derived.Test.YtnffcfhdnjbdbaaGreatDoorQ6
namespace Go.Ev
open Go.Lw Go.RowKit
theorem w06:runs O0 288=true:=by decide +kernel
theorem works06 (w:World):Calls Pr 288 #[] w λen w'=>en=.returned (.bool true)/\Below w.heap.size w w':=ji w06 w (o0_ok w)
end Go.Ev
