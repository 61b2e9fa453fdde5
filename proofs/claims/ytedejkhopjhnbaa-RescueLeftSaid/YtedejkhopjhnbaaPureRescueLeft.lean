/- The pure statement of the law RescueLeft: its value is true (the facts stand in the walk). -/
import Derived.Test.YtedejkhopjhnbaaLeft9
import Derived.Test.YtedejkhopjhnbaaOpen
namespace Go.Proofs.Ytedejkhopjhnbaa.Pure
open Go.Proofs.Ytedejkhopjhnbaa.P Go.Proofs.Ytedejkhopjhnbaa.Open
set_option linter.unusedVariables false

theorem RescueLeft (l : List S33) (hz : ∀ p ∈ l, wf33 p) (a1 : Int) (w1 : is_i64 a1) (t0 : Int) (w2 : is_i64 t0) (t1 : Int) (w3 : is_i64 t1) : skiarealaw21_RescueLeft.f l a1 t0 t1 = some true := rfl
end Go.Proofs.Ytedejkhopjhnbaa.Pure
