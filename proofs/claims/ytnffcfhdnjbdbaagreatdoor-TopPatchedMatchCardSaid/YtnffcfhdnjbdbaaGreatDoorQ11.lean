/- A part. -/
import Derived.Test.YtnffcfhdnjbdbaaGreatDoorQ6
namespace Go.Ev
theorem u04a:isT (cutE (fuel O1 1000) (λτ h=>gd (leS 276 τ h τ286_12 h286_12) (some [])) 12 (qA 414) L3.e H.e)=true:=by decide +kernel
end Go.Ev
