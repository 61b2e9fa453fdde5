/- The pure statement of the law WeatherRight. -/
import Derived.Test.YthndidjhdijpnaaPureA
import Derived.Test.YthndidjhdijpnaaPx15
import Derived.Test.YthndidjhdijpnaaOpen
namespace Go.Proofs.Ythndidjhdijpnaa.Pure
open Go.RowKit Go.Proofs.YthndidjhdijpnaaW.PrintWords Go.Proofs.YthndidjhdijpnaaW.PrintLast Go.Proofs.YthndidjhdijpnaaW.PrintMore Go.Proofs.Ythndidjhdijpnaa.P Go.Proofs.Ythndidjhdijpnaa.Open
set_option linter.unusedVariables false
set_option linter.unusedSimpArgs false

theorem WeatherRight (l : List S30) (hz : ∀ p ∈ l, wf30 p) : ∃ k, skiarealaw12_WeatherRight.f k l = some true := by
  refine Ev.rounds ?_
  have fin : ∀ b, Ev (fun k => skiarealaw12_WeatherRight.j0 k l b) true := by
    intro b
    cases b with
    | true => exact Ev.step (f := fun k => some true) (fun k => by simp only [skiarealaw12_WeatherRight.j0, if_true]) (Ev.now _)
    | false =>
      refine Ev.step (f := fun k => (skiarearef12_Right.f k l).bind fun t126 => some (rightP l == t126)) (fun k => by simp only [skiarealaw12_WeatherRight.j0]; rw [if_neg (by simp)]; rfl) ?_
      refine Ev.bind (ref_Right l) ?_
      exact Ev.congr (f := fun k => some true) (fun k => by simp) (Ev.now _)
  by_cases h : (l.length : Int) > 300
  · exact Ev.congr (fun k => by unfold skiarealaw12_WeatherRight.f skiarealaw12_alive.f; rw [Option.bind_some, if_pos rfl, if_pos h]) (fin _)
  · exact Ev.congr (fun k => by unfold skiarealaw12_WeatherRight.f skiarealaw12_alive.f; rw [Option.bind_some, if_pos rfl, if_neg h]) (fin _)
end Go.Proofs.Ythndidjhdijpnaa.Pure
