/- A part. -/
import Derived.Test.YtnffcfhdnjbdbaaGreatDoorQ36
namespace Go.Ev
open Go.Lw Go.RowKit
theorem w10:runs O4 27=true:=by decide +kernel
theorem works10 (w:World):Calls Pr 27 #[] w λen w'=>en=.returned (.bool true)/\Below w.heap.size w w':=ji w10 w (oc4 w)
end Go.Ev
