/- A part. -/
import Derived.Test.YtnffcfhdnjbdbaaGreatDoorQ6
namespace Go.Ev
open Go.Lw Go.RowKit
theorem w08:runs O0 130=true:=by decide +kernel
theorem works08 (w:World):Calls Pr 130 #[] w λen w'=>en=.returned (.bool true)/\Below w.heap.size w w':=ji w08 w (o0_ok w)
end Go.Ev
