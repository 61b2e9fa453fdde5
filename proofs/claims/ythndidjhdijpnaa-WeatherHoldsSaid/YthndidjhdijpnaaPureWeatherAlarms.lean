/- The pure statement of the law WeatherAlarms: what program and reference make of an alarm. -/
import Derived.Test.YthndidjhdijpnaaPureA
import Derived.Test.YthndidjhdijpnaaPx11
import Derived.Test.YthndidjhdijpnaaPx24
import Derived.Test.YthndidjhdijpnaaPx25
import Derived.Test.YthndidjhdijpnaaOpen
namespace Go.Proofs.Ythndidjhdijpnaa.Pure
open Go.RowKit Go.Proofs.YthndidjhdijpnaaW.PrintWords Go.Proofs.YthndidjhdijpnaaW.PrintLast Go.Proofs.YthndidjhdijpnaaW.PrintMore Go.Proofs.Ythndidjhdijpnaa.P Go.Proofs.Ythndidjhdijpnaa.Open
set_option linter.unusedVariables false
set_option linter.unusedSimpArgs false

def updJ (v t : Int) (b : Bool) (on off hold : Int) (act : Bool) (low : Int) : Int × Int × Int × Bool × Int × Int :=
  if b = true then (on, off, hold, act, low, 2) else if v ≥ on then (on, off, hold, true, -1, 0) else if v ≥ off then (on, off, hold, act, -1, 0) else
    if low < 0 then (if wrap64 (t - t) ≥ hold then (on, off, hold, false, t, 0) else (on, off, hold, act, t, 0)) else if wrap64 (t - low) ≥ hold then (on, off, hold, false, low, 0) else (on, off, hold, act, low, 0)
theorem prog_j0 (v t : Int) (b : Bool) (on off hold : Int) (act : Bool) (low : Int) : Ev (fun k => weather_Update.j0 k v t b on off hold act low) (updJ v t b on off hold act low) :=
  Ev.step (f := fun k => some (updJ v t b on off hold act low)) (fun k => by simp only [weather_Update.j0, updJ, apply_ite some]) (Ev.now _)
theorem ref_j0 (v t : Int) (b : Bool) (on off hold : Int) (act : Bool) (low : Int) : Ev (fun k => skiarearef12_Update.j0 k v t b on off hold act low) (updJ v t b on off hold act low) :=
  Ev.step (f := fun k => some (updJ v t b on off hold act low)) (fun k => by simp only [skiarearef12_Update.j0, updJ, apply_ite some]) (Ev.now _)
def updBad (v t on off hold low : Int) : Bool := decide (off < 0) || decide (on < off) || decide (hold < 0) || decide (hold > 86400) || decide (v < 0) || decide (t < 0) || decide (t > 20000000) || decide (low > t)
def updR (v t on off hold : Int) (act : Bool) (low : Int) : Int × Int × Int × Bool × Int × Int := updJ v t (updBad v t on off hold low) on off hold act low
theorem prog_Update (on off hold : Int) (act : Bool) (low v t : Int) : Ev (fun k => weather_Update.f k on off hold act low v t) (updR v t on off hold act low) := by
  have hb : ∀ b, updBad v t on off hold low = b → Ev (fun k => weather_Update.j0 k v t b on off hold act low) (updR v t on off hold act low) := fun b e => by unfold updR; rw [e]; exact prog_j0 v t b on off hold act low
  unfold weather_Update.f weather_within.f
  by_cases h1 : off < 0
  · exact Ev.congr (fun k => by rw [if_pos h1]) (hb true (by simp [updBad, h1]))
  by_cases h2 : on < off
  · exact Ev.congr (fun k => by rw [if_neg h1, if_pos h2]) (hb true (by simp [updBad, h2]))
  by_cases h3 : hold ≥ 0
  · by_cases h4 : hold ≤ 86400
    · by_cases h5 : v < 0
      · exact Ev.congr (fun k => by rw [if_neg h1, if_neg h2, if_pos h3, Option.bind_some, show decide (hold ≤ 86400) = true from decide_eq_true h4, if_pos rfl, if_pos h5]) (hb true (by simp [updBad, h5]))
      · by_cases h6 : t ≥ 0
        · by_cases h7 : t ≤ 20000000
          · refine Ev.congr (fun k => by rw [if_neg h1, if_neg h2, if_pos h3, Option.bind_some, show decide (hold ≤ 86400) = true from decide_eq_true h4, if_pos rfl, if_neg h5, if_pos h6, Option.bind_some, show decide (t ≤ 20000000) = true from decide_eq_true h7, if_pos rfl]) (hb _ ?_)
            simp [updBad, h1, h2, show ¬ hold < 0 by omega, show ¬ 86400 < hold by omega, h5, show ¬ t < 0 by omega, show ¬ 20000000 < t by omega]
          · exact Ev.congr (fun k => by rw [if_neg h1, if_neg h2, if_pos h3, Option.bind_some, show decide (hold ≤ 86400) = true from decide_eq_true h4, if_pos rfl, if_neg h5, if_pos h6, Option.bind_some, show decide (t ≤ 20000000) = false from decide_eq_false h7, if_neg (by simp)]) (hb true (by simp [updBad, show 20000000 < t by omega]))
        · exact Ev.congr (fun k => by rw [if_neg h1, if_neg h2, if_pos h3, Option.bind_some, show decide (hold ≤ 86400) = true from decide_eq_true h4, if_pos rfl, if_neg h5, if_neg h6, Option.bind_some, if_neg (by simp)]) (hb true (by simp [updBad, show t < 0 by omega]))
    · exact Ev.congr (fun k => by rw [if_neg h1, if_neg h2, if_pos h3, Option.bind_some, show decide (hold ≤ 86400) = false from decide_eq_false h4, if_neg (by simp)]) (hb true (by simp [updBad, show 86400 < hold by omega]))
  · exact Ev.congr (fun k => by rw [if_neg h1, if_neg h2, if_neg h3, Option.bind_some, if_neg (by simp)]) (hb true (by simp [updBad, show hold < 0 by omega]))
theorem ref_Update (on off hold : Int) (act : Bool) (low v t : Int) : Ev (fun k => skiarearef12_Update.f k on off hold act low v t) (updR v t on off hold act low) := by
  have hb : ∀ b, updBad v t on off hold low = b → Ev (fun k => skiarearef12_Update.j0 k v t b on off hold act low) (updR v t on off hold act low) := fun b e => by unfold updR; rw [e]; exact ref_j0 v t b on off hold act low
  unfold skiarearef12_Update.f
  by_cases h1 : off < 0
  · exact Ev.congr (fun k => by rw [if_pos h1]) (hb true (by simp [updBad, h1]))
  by_cases h2 : on < off
  · exact Ev.congr (fun k => by rw [if_neg h1, if_pos h2]) (hb true (by simp [updBad, h2]))
  by_cases h3 : hold < 0
  · exact Ev.congr (fun k => by rw [if_neg h1, if_neg h2, if_pos h3]) (hb true (by simp [updBad, h3]))
  by_cases h4 : hold > 86400
  · exact Ev.congr (fun k => by rw [if_neg h1, if_neg h2, if_neg h3, if_pos h4]) (hb true (by simp [updBad, show 86400 < hold by omega]))
  by_cases h5 : v < 0
  · exact Ev.congr (fun k => by rw [if_neg h1, if_neg h2, if_neg h3, if_neg h4, if_pos h5]) (hb true (by simp [updBad, h5]))
  by_cases h6 : t < 0
  · exact Ev.congr (fun k => by rw [if_neg h1, if_neg h2, if_neg h3, if_neg h4, if_neg h5, if_pos h6]) (hb true (by simp [updBad, h6]))
  by_cases h7 : t > 20000000
  · exact Ev.congr (fun k => by rw [if_neg h1, if_neg h2, if_neg h3, if_neg h4, if_neg h5, if_neg h6, if_pos h7]) (hb true (by simp [updBad, show 20000000 < t by omega]))
  · refine Ev.congr (fun k => by rw [if_neg h1, if_neg h2, if_neg h3, if_neg h4, if_neg h5, if_neg h6, if_neg h7]) (hb _ ?_)
    simp [updBad, h1, h2, h3, show ¬ 86400 < hold by omega, h5, h6, show ¬ 20000000 < t by omega]
theorem WeatherAlarms (a : S39) (hz : wf39 a) (v : Int) (w1 : is_i64 v) (t : Int) (w2 : is_i64 t) : ∃ k, skiarealaw12_WeatherAlarms.f k a.f0 a.f1 a.f2 a.f3 a.f4 v t = some true := by
  refine Ev.rounds ?_
  refine Ev.congr (fun k => by unfold skiarealaw12_WeatherAlarms.f skiarealaw12_alive.f; rw [Option.bind_some, if_pos rfl]) (Ev.bind (prog_Update a.f0 a.f1 a.f2 a.f3 a.f4 v t) ?_)
  refine Ev.bind (ref_Update a.f0 a.f1 a.f2 a.f3 a.f4 v t) ?_
  exact Ev.congr (f := fun k => some true) (fun k => by simp) (Ev.now _)
end Go.Proofs.Ythndidjhdijpnaa.Pure
