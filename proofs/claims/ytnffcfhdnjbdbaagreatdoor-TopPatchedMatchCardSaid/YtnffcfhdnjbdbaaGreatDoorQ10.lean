/- A part. -/
import Derived.Test.YtnffcfhdnjbdbaaGreatDoorQ6
namespace Go.Ev
theorem u02b:isT ((codeE (drpC 11 (qA 485))).g (fuel O0 1000) 100000 τ355_11 h355_11 (endT (resOf 485)))=true:=by decide +kernel
end Go.Ev
