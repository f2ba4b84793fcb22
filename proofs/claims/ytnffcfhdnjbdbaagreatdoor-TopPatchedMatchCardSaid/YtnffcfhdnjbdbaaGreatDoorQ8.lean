/- A part. -/
import Derived.Test.YtnffcfhdnjbdbaaGreatDoorQ6
namespace Go.Ev
open Go.Lw Go.RowKit
theorem w01:runs O0 484=true:=by decide +kernel
theorem works01 (w:World):Calls Pr 484 #[] w λen w'=>en=.returned (.bool true)/\Below w.heap.size w w':=ji w01 w (o0_ok w)
end Go.Ev
