/- A part. -/
import Derived.Test.YtnffcfhdnjbdbaaGreatDoorQ6
namespace Go.Ev
theorem u04b:isT (cutE (fuel O1 1000) (λτ h=>gd (leS 276 τ h τ286_13 h286_13) (some [])) 1 (drpC 12 (qA 414)) τ286_12 h286_12)=true:=by decide +kernel
end Go.Ev
