/- The pure statement of the law RescueCounts. -/
import Derived.Test.YtedejkhopjhnbaaPureB
import Derived.Test.YtedejkhopjhnbaaPureC
import Derived.Test.YtedejkhopjhnbaaPx33
import Derived.Test.YtedejkhopjhnbaaOpen
namespace Go.Proofs.Ytedejkhopjhnbaa.Pure
open Go.RowKit Go.Proofs.YtedejkhopjhnbaaW.PrintWords Go.Proofs.YtedejkhopjhnbaaW.PrintLast Go.Proofs.YtedejkhopjhnbaaW.PrintMore Go.Proofs.Ytedejkhopjhnbaa.P Go.Proofs.Ytedejkhopjhnbaa.Open
set_option linter.unusedVariables false
set_option linter.unusedSimpArgs false

theorem RescueCounts (l : List S33) (hz : ∀ p ∈ l, wf33 p) (js : List S35) (hj : ∀ p ∈ js, wf35 p) (a2 : Int) (w1 : is_i64 a2) : ∃ k, skiarealaw21_RescueCounts.f k l js a2 = some true := by
  refine Ev.rounds ?_
  refine Ev.congr (fun k => by unfold skiarealaw21_RescueCounts.f skiarealaw21_alive.f; rw [Option.bind_some, if_pos rfl]) (Ev.bind (right_ev l) ?_)
  by_cases hr : rightP l = 0
  · have hg := good_of hr
    rw [show (rightP l == 0) = true by simp [hr]]
    by_cases h : (js.length : Int) > 40
    · exact Ev.congr (f := fun k => some true) (fun k => by rw [if_pos rfl, if_pos h]) (Ev.now _)
    · refine Ev.congr (fun k => by rw [if_pos rfl, if_neg h]; unfold rescue_Left.f; rw [Option.bind_some]) (Ev.bind (ref_Left l hg.len js (by omega) a2) ?_)
      refine Ev.congr (fun k => by rw [if_pos rfl]) (Ev.bind (prog_Bound l hg.len a2) (Ev.bind (ref_Bound l hg.len a2) ?_))
      exact Ev.congr (f := fun _ => some true) (fun k => by simp) (Ev.now _)
  · rw [show (rightP l == 0) = false by simpa using hr]
    exact Ev.congr (f := fun k => some true) (fun k => by rw [if_neg (by simp)]) (Ev.now _)
end Go.Proofs.Ytedejkhopjhnbaa.Pure
