/- The wet-bulb temperature: what program and reference reckon, and how it turns with temperature and humidity. -/
import Derived.Test.YthndidjhdijpnaaPx10
import Derived.Test.YthndidjhdijpnaaPx22
import Derived.Test.YthndidjhdijpnaaPureA
namespace Go.Proofs.Ythndidjhdijpnaa.Pure
open Go.RowKit Go.Proofs.YthndidjhdijpnaaW.PrintWords Go.Proofs.YthndidjhdijpnaaW.PrintLast Go.Proofs.YthndidjhdijpnaaW.PrintMore Go.Proofs.Ythndidjhdijpnaa.P
set_option linter.unusedVariables false
set_option linter.unusedSimpArgs false

def wetM (t : Int) : Int := if 0 < t + 300 then t + 300 else 0
def wetV (t h : Int) : Int := t - (1000 - h) * wetM t / 6000
def wetOk (t h : Int) : Prop := -600 ≤ t ∧ t ≤ 600 ∧ 0 ≤ h ∧ h ≤ 1000
instance (t h : Int) : Decidable (wetOk t h) := by unfold wetOk; infer_instance
def wetR (t h : Int) : Int × Int := if wetOk t h then (wetV t h, 0) else (0, 2)
theorem wetM_bd {t : Int} (h1 : -600 ≤ t) (h2 : t ≤ 600) : 0 ≤ wetM t ∧ wetM t ≤ 900 := by unfold wetM; split <;> omega
theorem wetP_bd {t h : Int} (hk : wetOk t h) : 0 ≤ (1000 - h) * wetM t ∧ (1000 - h) * wetM t ≤ 900000 := by
  obtain ⟨h1, h2, h3, h4⟩ := hk
  obtain ⟨m1, m2⟩ := wetM_bd h1 h2
  refine ⟨Int.mul_nonneg (by omega) m1, ?_⟩
  calc (1000 - h) * wetM t ≤ 1000 * wetM t := Int.mul_le_mul_of_nonneg_right (by omega) m1
    _ ≤ 900000 := by omega
theorem wet_calc {t h : Int} (hk : wetOk t h) : wrap64 (t - wrap64 (Int.tdiv (wrap64 (wrap64 (1000 - h) * wetM t)) 6000)) = wetV t h := by
  obtain ⟨p1, p2⟩ := wetP_bd hk
  obtain ⟨h1, h2, h3, h4⟩ := hk
  rw [wrap_id (x := 1000 - h) (by omega) (by omega), wrap_id (x := (1000 - h) * wetM t) (by omega) (by omega), Int.tdiv_eq_ediv_of_nonneg p1]
  unfold wetV
  generalize (1000 - h) * wetM t = P at *
  rw [wrap_id (x := P / 6000) (by omega) (by omega), wrap_id (by omega) (by omega)]
theorem prog_Wet (t h : Int) : weather_Wet.f t h = some (wetR t h) := by
  unfold weather_Wet.f weather_within.f wetR
  by_cases h1 : -600 ≤ t
  · rw [if_pos (show t ≥ -600 from h1)]
    by_cases h2 : t ≤ 600
    · rw [show decide (t ≤ 600) = true from decide_eq_true h2]
      simp only [Option.bind_some, if_true]
      by_cases h3 : 0 ≤ h
      · rw [if_pos (show h ≥ 0 from h3)]
        by_cases h4 : h ≤ 1000
        · rw [show decide (h ≤ 1000) = true from decide_eq_true h4, if_pos (show wetOk t h from ⟨h1, h2, h3, h4⟩)]
          simp only [Option.bind_some, if_true]
          rw [show mx 0 (wrap64 (t + 300)) = wetM t by rw [wrap_id (by omega) (by omega)]; rfl, wet_calc ⟨h1, h2, h3, h4⟩]
        · rw [show decide (h ≤ 1000) = false from decide_eq_false h4, if_neg (fun hk : wetOk t h => h4 hk.2.2.2)]
          simp
      · rw [if_neg (show ¬ h ≥ 0 from h3), if_neg (fun hk : wetOk t h => h3 hk.2.2.1)]
        simp
    · rw [show decide (t ≤ 600) = false from decide_eq_false h2, if_neg (fun hk : wetOk t h => h2 hk.2.1)]
      simp
  · rw [if_neg (show ¬ t ≥ -600 from h1), if_neg (fun hk : wetOk t h => h1 hk.1)]
    simp
theorem ref_Wet (t h : Int) : Ev (fun k => skiarearef12_Wet.f k t h) (wetR t h) := by
  have hbad : ¬ wetOk t h → Ev (fun k => skiarearef12_Wet.j0 k t h true) (wetR t h) := fun hk => by
    unfold wetR
    rw [if_neg hk]
    exact Ev.step (f := fun k => some (0, 2)) (fun k => by simp only [skiarearef12_Wet.j0, if_true]) (Ev.now _)
  by_cases h1 : t < -600
  · exact Ev.congr (fun k => by unfold skiarearef12_Wet.f; rw [if_pos h1]) (hbad (fun hk => by have := hk.1; omega))
  by_cases h2 : t > 600
  · exact Ev.congr (fun k => by unfold skiarearef12_Wet.f; rw [if_neg h1, if_pos h2]) (hbad (fun hk => by have := hk.2.1; omega))
  by_cases h3 : h < 0
  · exact Ev.congr (fun k => by unfold skiarearef12_Wet.f; rw [if_neg h1, if_neg h2, if_pos h3]) (hbad (fun hk => by have := hk.2.2.1; omega))
  by_cases h4 : h > 1000
  · exact Ev.congr (fun k => by unfold skiarearef12_Wet.f; rw [if_neg h1, if_neg h2, if_neg h3, show decide (h > 1000) = true from decide_eq_true h4]) (hbad (fun hk => by have := hk.2.2.2; omega))
  have hk : wetOk t h := ⟨by omega, by omega, by omega, by omega⟩
  refine Ev.congr (fun k => by unfold skiarearef12_Wet.f; rw [if_neg h1, if_neg h2, if_neg h3, show decide (h > 1000) = false from decide_eq_false h4]) (Ev.step (f := fun k => some (wetR t h)) (fun k => ?_) (Ev.now _))
  have hc := wet_calc hk
  simp only [skiarearef12_Wet.j0]
  rw [if_neg (by simp), wrap_id (x := t + 300) (by omega) (by omega)]
  unfold wetR
  rw [if_pos hk]
  by_cases h5 : t + 300 < 0
  · rw [if_pos h5]
    rw [show wetM t = 0 from by unfold wetM; rw [if_neg (by omega)]] at hc
    rw [hc]
  · rw [if_neg h5]
    have e : wetM t = t + 300 := by unfold wetM; split <;> omega
    rw [e] at hc
    rw [hc]
end Go.Proofs.Ythndidjhdijpnaa.Pure
