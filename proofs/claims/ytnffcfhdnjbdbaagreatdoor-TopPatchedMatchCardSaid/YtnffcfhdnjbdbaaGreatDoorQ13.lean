/- A part. -/
import Derived.Test.YtnffcfhdnjbdbaaGreatDoorQ6
namespace Go.Ev
theorem u04c:isT ((codeE (drpC 13 (qA 414))).g (fuel O1 1000) 100000 τ286_13 h286_13 (endT (resOf 414)))=true:=by decide +kernel
end Go.Ev
