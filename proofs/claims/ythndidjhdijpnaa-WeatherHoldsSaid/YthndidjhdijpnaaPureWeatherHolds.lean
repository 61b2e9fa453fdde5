/- The pure statement of the law WeatherHolds: its value is true (the invariant stands in the walk). -/
import Derived.Test.YthndidjhdijpnaaHolds
import Derived.Test.YthndidjhdijpnaaOpen
namespace Go.Proofs.Ythndidjhdijpnaa.Pure
open Go.Proofs.Ythndidjhdijpnaa.P Go.Proofs.Ythndidjhdijpnaa.Open
set_option linter.unusedVariables false

theorem WeatherHolds (x : S39) (hz : wf39 x) (l : List S45) (hl : ∀ p ∈ l, wf45 p) : skiarealaw12_WeatherHolds.f x.f0 x.f1 x.f2 x.f3 x.f4 l = some true := rfl
end Go.Proofs.Ythndidjhdijpnaa.Pure
