/- The pure statement of the law WeatherWet. -/
import Derived.Test.YthndidjhdijpnaaPureW
import Derived.Test.YthndidjhdijpnaaPx23
import Derived.Test.YthndidjhdijpnaaOpen
namespace Go.Proofs.Ythndidjhdijpnaa.Pure
open Go.RowKit Go.Proofs.YthndidjhdijpnaaW.PrintWords Go.Proofs.YthndidjhdijpnaaW.PrintLast Go.Proofs.YthndidjhdijpnaaW.PrintMore Go.Proofs.Ythndidjhdijpnaa.P Go.Proofs.Ythndidjhdijpnaa.Open
set_option linter.unusedVariables false
set_option linter.unusedSimpArgs false

theorem WeatherWet (t : Int) (w0 : is_i64 t) (h : Int) (w1 : is_i64 h) : ∃ k, skiarealaw12_WeatherWet.f k t h = some true := by
  refine Ev.rounds ?_
  refine Ev.congr (fun k => by unfold skiarealaw12_WeatherWet.f skiarealaw12_alive.f; rw [Option.bind_some, if_pos rfl, prog_Wet, Option.bind_some]) (Ev.bind (ref_Wet t h) ?_)
  exact Ev.congr (f := fun k => some true) (fun k => by simp) (Ev.now _)
end Go.Proofs.Ythndidjhdijpnaa.Pure
