/- Pure facts on the laws' guard. -/
import Derived.Test.YtedejkhopjhnbaaPureX
import Derived.Test.YtedejkhopjhnbaaPx23
namespace Go.Proofs.Ytedejkhopjhnbaa.Pure
open Go.RowKit Go.Proofs.YtedejkhopjhnbaaW.PrintWords Go.Proofs.YtedejkhopjhnbaaW.PrintLast Go.Proofs.YtedejkhopjhnbaaW.PrintMore Go.Proofs.Ytedejkhopjhnbaa.P
set_option linter.unusedVariables false
set_option linter.unusedSimpArgs false

theorem right_ev (l : List S33) : Ev (fun k => skiarealaw21_right.f k l) (rightP l == 0) := by
  unfold skiarealaw21_right.f
  exact Ev.bind (ref_Right l) (Ev.now _)
end Go.Proofs.Ytedejkhopjhnbaa.Pure
