/- The pure statement of the law RescueValid. -/
import Derived.Test.YtedejkhopjhnbaaPureB
import Derived.Test.YtedejkhopjhnbaaPureV
import Derived.Test.YtedejkhopjhnbaaPx30
import Derived.Test.YtedejkhopjhnbaaOpen
namespace Go.Proofs.Ytedejkhopjhnbaa.Pure
open Go.RowKit Go.Proofs.YtedejkhopjhnbaaW.PrintWords Go.Proofs.YtedejkhopjhnbaaW.PrintLast Go.Proofs.YtedejkhopjhnbaaW.PrintMore Go.Proofs.Ytedejkhopjhnbaa.P Go.Proofs.Ytedejkhopjhnbaa.Open
set_option linter.unusedVariables false
set_option linter.unusedSimpArgs false

theorem RescueValid (l : List S33) (hz : ∀ p ∈ l, wf33 p) (a1 : Int) (w1 : is_i64 a1) (js : List S35) (hj : ∀ p ∈ js, wf35 p) : ∃ k, skiarealaw21_RescueValid.f k l a1 js = some true := by
  refine Ev.rounds ?_
  refine Ev.congr (fun k => by unfold skiarealaw21_RescueValid.f skiarealaw21_alive.f; rw [Option.bind_some, if_pos rfl]) (Ev.bind (right_ev l) ?_)
  by_cases hr : rightP l = 0
  · have hg := good_of hr
    rw [show (rightP l == 0) = true by simp [hr]]
    by_cases h : (js.length : Int) > 40
    · exact Ev.congr (f := fun k => some true) (fun k => by rw [if_pos rfl, if_pos h]) (Ev.now _)
    · refine Ev.congr (f := fun k => (skiarearef21_Valid.f k l a1 js).bind fun t => some (validP (td l) a1 js == t)) (fun k => by rw [if_pos rfl, if_neg h]; unfold rescue_Valid.f; rw [needing_f l hg.len]; rfl) ?_
      exact Ev.bind (ref_Valid l hg.len a1 js (by omega)) (Ev.congr (f := fun _ => some true) (fun k => by simp) (Ev.now _))
  · rw [show (rightP l == 0) = false by simpa using hr]
    exact Ev.congr (f := fun k => some true) (fun k => by rw [if_neg (by simp)]) (Ev.now _)
end Go.Proofs.Ytedejkhopjhnbaa.Pure
