/- A part. -/
import Derived.Test.YtnffcfhdnjbdbaaGreatDoorQ6
namespace Go.Ev
open Go.Lw Go.RowKit
theorem w09:runs O0 74=true:=by decide +kernel
theorem works09 (w:World):Calls Pr 74 #[] w λen w'=>en=.returned (.bool true)/\Below w.heap.size w w':=ji w09 w (o0_ok w)
end Go.Ev
