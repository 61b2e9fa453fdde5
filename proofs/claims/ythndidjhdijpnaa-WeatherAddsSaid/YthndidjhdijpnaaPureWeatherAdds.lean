/- The pure statement of the law WeatherAdds. -/
import Derived.Test.YthndidjhdijpnaaPureA
import Derived.Test.YthndidjhdijpnaaPx27
import Derived.Test.YthndidjhdijpnaaPx28
import Derived.Test.YthndidjhdijpnaaPx29
import Derived.Test.YthndidjhdijpnaaPx6
import Derived.Test.YthndidjhdijpnaaPx4
import Derived.Test.YthndidjhdijpnaaPx30
import Derived.Test.YthndidjhdijpnaaOpen
namespace Go.Proofs.Ythndidjhdijpnaa.Pure
open Go.RowKit Go.Proofs.YthndidjhdijpnaaW.PrintWords Go.Proofs.YthndidjhdijpnaaW.PrintLast Go.Proofs.YthndidjhdijpnaaW.PrintMore Go.Proofs.Ythndidjhdijpnaa.P Go.Proofs.Ythndidjhdijpnaa.Open
set_option linter.unusedVariables false
set_option linter.unusedSimpArgs false

theorem same_l0 (a : List S30) (hl : a.length ≤ 100000) : ∀ (n i : Nat), i + n = a.length → Ev (fun k => skiarearef12_Same.l0 k a a (i : Int)) true := by
  intro n
  induction n with
  | zero =>
    intro i hi
    exact Ev.step (f := fun k => some true) (fun k => by simp only [skiarearef12_Same.l0]; rw [if_neg (by omega)]) (Ev.now _)
  | succ n ih =>
    intro i hi
    have hw : wrap64 ((i : Int) + 1) = ((i + 1 : Nat) : Int) := by rw [wrap_id (by omega) (by omega)]; omega
    refine Ev.step (fun k => ?_) (ih (i + 1) (by omega))
    simp only [skiarearef12_Same.l0, hw]
    rw [if_pos (by omega), if_pos (by omega), if_pos (by omega), if_neg (by simp)]
theorem same_ev (a : List S30) (hl : a.length ≤ 100000) : Ev (fun k => skiarearef12_Same.f k a a) true := by
  have := same_l0 a hl a.length 0 (by omega)
  exact Ev.congr (fun k => by unfold skiarearef12_Same.f; rw [if_pos rfl]; rfl) this
def addR (l : List S30) (o : S30) : List S30 × Int := if rightP l = 0 then (if rightP (l ++ [o]) = 0 then (l ++ [o], 0) else ([], rightP (l ++ [o]))) else ([], rightP l)
theorem prog_Add (l : List S30) (hl : l.length ≤ 1000) (o : S30) : weather_Add.f l o.f0 o.f1 o.f2 o.f3 o.f4 o.f5 = some (addR l o) := by
  unfold weather_Add.f weather_Right.f api_Obs_32.f addR
  rw [Option.bind_some, if_pos (show l.length < 2932031007402 by omega)]
  by_cases h1 : rightP l = 0
  · rw [if_pos h1, if_pos h1, Option.bind_some, Option.bind_some, if_pos (by simp; omega), Option.bind_some, Option.bind_some]
    by_cases h2 : rightP (l ++ [o]) = 0
    · rw [if_pos h2]; show some (l ++ [o], (0 : Int)) = some (if _ then _ else _); rw [if_pos h2]
    · rw [if_neg h2]; show some (([] : List S30), rightP (l ++ [o])) = some (if _ then _ else _); rw [if_neg h2]
  · rw [if_neg h1, if_neg h1]
theorem ref_Add (l : List S30) (hl : l.length ≤ 1000) (o : S30) : Ev (fun k => skiarearef12_Add.f k l o.f0 o.f1 o.f2 o.f3 o.f4 o.f5) (addR l o) := by
  refine Ev.bind (ref_Right l) ?_
  unfold addR nilApp
  by_cases h1 : rightP l = 0
  · rw [if_pos h1]
    refine Ev.congr (fun k => by rw [if_pos h1, if_pos (show l.length < 2932031007402 by omega), Option.bind_some, Option.bind_some, if_pos (by simp; omega), Option.bind_some]) (Ev.bind (ref_Right (l ++ [o])) ?_)
    by_cases h2 : rightP (l ++ [o]) = 0
    · rw [if_pos h2]
      exact Ev.congr (fun k => by rw [if_pos h2]) (Ev.now _)
    · rw [if_neg h2]
      exact Ev.congr (fun k => by rw [if_neg h2]) (Ev.now _)
  · rw [if_neg h1]
    exact Ev.congr (fun k => by rw [if_neg h1]) (Ev.now _)
theorem WeatherAdds (l : List S30) (hz : ∀ p ∈ l, wf30 p) (o : S30) (hz1 : wf30 o) : ∃ k, skiarealaw12_WeatherAdds.f k l o.f0 o.f1 o.f2 o.f3 o.f4 o.f5 = some true := by
  refine Ev.rounds ?_
  by_cases h : (l.length : Int) > 200
  · exact Ev.congr (f := fun k => some true) (fun k => by unfold skiarealaw12_WeatherAdds.f skiarealaw12_alive.f; rw [Option.bind_some, if_pos rfl, if_pos h]) (Ev.now _)
  · refine Ev.congr (fun k => by unfold skiarealaw12_WeatherAdds.f skiarealaw12_alive.f; rw [Option.bind_some, if_pos rfl, if_neg h, prog_Add l (by omega) o, Option.bind_some]) (Ev.bind (ref_Add l (by omega) o) ?_)
    refine Ev.congr (fun k => by rw [if_pos rfl]) (Ev.bind (same_ev (addR l o).1 ?_) (Ev.now _))
    unfold addR
    split
    · split
      · simp; omega
      · simp
    · simp
end Go.Proofs.Ythndidjhdijpnaa.Pure
