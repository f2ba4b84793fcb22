/- A part. -/
import Derived.Test.YtnffcfhdnjbdbaaGreatDoorQ6
namespace Go.Ev
theorem u02a:isT (cutE (fuel O0 1000) (λτ h=>gd (leS 290 τ h τ355_11 h355_11) (some [])) 11 (qA 485) L3.e H.e)=true:=by decide +kernel
end Go.Ev
