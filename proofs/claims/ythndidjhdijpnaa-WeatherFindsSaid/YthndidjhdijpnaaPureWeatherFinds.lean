/- The pure statement of the law WeatherFinds. -/
import Derived.Test.YthndidjhdijpnaaPureB
import Derived.Test.YthndidjhdijpnaaPx5
import Derived.Test.YthndidjhdijpnaaPx19
import Derived.Test.YthndidjhdijpnaaOpen
namespace Go.Proofs.Ythndidjhdijpnaa.Pure
open Go.RowKit Go.Proofs.YthndidjhdijpnaaW.PrintWords Go.Proofs.YthndidjhdijpnaaW.PrintLast Go.Proofs.YthndidjhdijpnaaW.PrintMore Go.Proofs.Ythndidjhdijpnaa.P Go.Proofs.Ythndidjhdijpnaa.Open
set_option linter.unusedVariables false
set_option linter.unusedSimpArgs false

theorem WeatherFinds (l : List S30) (hz : ∀ p ∈ l, wf30 p) (s : Int) (w1 : is_i64 s) (t : Int) (w2 : is_i64 t) (span : S28) (hz3 : wf28 span) : ∃ k, skiarealaw12_WeatherFinds.f k l s t span.f0 span.f1 = some true := by
  refine Ev.rounds ?_
  by_cases h : (l.length : Int) > 200
  · exact Ev.congr (f := fun k => some true) (fun k => by unfold skiarealaw12_WeatherFinds.f skiarealaw12_alive.f; rw [Option.bind_some, if_pos rfl, if_pos h]) (Ev.now _)
  · refine Ev.congr (fun k => by unfold skiarealaw12_WeatherFinds.f skiarealaw12_alive.f weather_Last.f; rw [Option.bind_some, if_pos rfl, if_neg h, Option.bind_some]) (Ev.bind (ref_Last l (by omega) s t) ?_)
    refine Ev.congr (fun k => by rw [if_pos (by simp), if_pos (by simp)]) (Ev.bind (prog_Peak l (by omega) s span.f0 span.f1) ?_)
    refine Ev.bind (ref_Peak l (by omega) s span.f0 span.f1) ?_
    exact Ev.congr (f := fun k => some true) (fun k => by simp) (Ev.now _)
end Go.Proofs.Ythndidjhdijpnaa.Pure
