/- The pure statement of the law RescueRights. -/
import Derived.Test.YtedejkhopjhnbaaPureB
import Derived.Test.YtedejkhopjhnbaaPx23
import Derived.Test.YtedejkhopjhnbaaOpen
namespace Go.Proofs.Ytedejkhopjhnbaa.Pure
open Go.RowKit Go.Proofs.YtedejkhopjhnbaaW.PrintWords Go.Proofs.YtedejkhopjhnbaaW.PrintLast Go.Proofs.YtedejkhopjhnbaaW.PrintMore Go.Proofs.Ytedejkhopjhnbaa.P Go.Proofs.Ytedejkhopjhnbaa.Open
set_option linter.unusedVariables false
set_option linter.unusedSimpArgs false

theorem RescueRights (l : List S33) (hz : ∀ p ∈ l, wf33 p) : ∃ k, skiarealaw21_RescueRights.f k l = some true := by
  refine Ev.rounds ?_
  by_cases h : (l.length : Int) > 40
  · exact Ev.congr (f := fun k => some true) (fun k => by unfold skiarealaw21_RescueRights.f skiarealaw21_alive.f; rw [Option.bind_some, if_pos rfl, if_pos h]) (Ev.now _)
  · refine Ev.congr (f := fun k => (skiarearef21_Right.f k l).bind fun t => some (rightP l == t)) (fun k => by unfold skiarealaw21_RescueRights.f skiarealaw21_alive.f; rw [Option.bind_some, if_pos rfl, if_neg h]; rfl) ?_
    exact Ev.bind (ref_Right l) (Ev.congr (f := fun _ => some true) (fun k => by simp) (Ev.now _))
end Go.Proofs.Ytedejkhopjhnbaa.Pure
