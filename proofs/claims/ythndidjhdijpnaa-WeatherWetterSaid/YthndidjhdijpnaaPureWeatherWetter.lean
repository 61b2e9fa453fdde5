/- The pure statement of the law WeatherWetter. -/
import Derived.Test.YthndidjhdijpnaaPureW
import Derived.Test.YthndidjhdijpnaaPx26
import Derived.Test.YthndidjhdijpnaaOpen
namespace Go.Proofs.Ythndidjhdijpnaa.Pure
open Go.RowKit Go.Proofs.YthndidjhdijpnaaW.PrintWords Go.Proofs.YthndidjhdijpnaaW.PrintLast Go.Proofs.YthndidjhdijpnaaW.PrintMore Go.Proofs.Ythndidjhdijpnaa.P Go.Proofs.Ythndidjhdijpnaa.Open
set_option linter.unusedVariables false
set_option linter.unusedSimpArgs false

theorem mono_t {t w h : Int} (hk : wetOk t h) (hk2 : wetOk (t + w) h) (hw : 0 ≤ w) : wetV t h ≤ wetV (t + w) h := by
  obtain ⟨p1, p2⟩ := wetP_bd hk
  obtain ⟨q1, q2⟩ := wetP_bd hk2
  obtain ⟨h1, h2, h3, h4⟩ := hk
  have hm : wetM (t + w) ≤ wetM t + w := by unfold wetM; split <;> split <;> omega
  have e1 : (1000 - h) * wetM (t + w) ≤ (1000 - h) * (wetM t + w) := Int.mul_le_mul_of_nonneg_left hm (by omega)
  have e2 : (1000 - h) * w ≤ 1000 * w := Int.mul_le_mul_of_nonneg_right (by omega) hw
  rw [Int.mul_add] at e1
  unfold wetV
  generalize (1000 - h) * wetM (t + w) = Q at *
  generalize (1000 - h) * wetM t = P at *
  generalize (1000 - h) * w = D at *
  omega
theorem mono_h {t v h : Int} (hk : wetOk t h) (hk2 : wetOk t (h + v)) (hw : 0 ≤ v) : wetV t h ≤ wetV t (h + v) := by
  obtain ⟨p1, p2⟩ := wetP_bd hk
  obtain ⟨q1, q2⟩ := wetP_bd hk2
  obtain ⟨h1, h2, h3, h4⟩ := hk
  have hm := (wetM_bd h1 h2).1
  have e1 : (1000 - (h + v)) * wetM t ≤ (1000 - h) * wetM t := Int.mul_le_mul_of_nonneg_right (by omega) hm
  unfold wetV
  generalize (1000 - (h + v)) * wetM t = Q at *
  generalize (1000 - h) * wetM t = P at *
  omega
theorem WeatherWetter (t : Int) (w0 : is_i64 t) (h : Int) (w1 : is_i64 h) (w : Int) (w2 : is_u8 w) (v : Int) (w3 : is_u8 v) : ∃ k, skiarealaw12_WeatherWetter.f k t h w v = some true := by
  refine Ev.rounds ?_
  have hu1 := w2.1
  have hu2 := w2.2
  have hu3 := w3.1
  have hu4 := w3.2
  refine Ev.congr (fun k => by unfold skiarealaw12_WeatherWetter.f skiarealaw12_alive.f; rw [Option.bind_some, if_pos rfl, prog_Wet, Option.bind_some]) ?_
  by_cases hk : wetOk t h
  · have hr : wetR t h = (wetV t h, 0) := if_pos hk
    rw [hr]
    have hP := wetP_bd hk
    have hx : wetV t h ≤ t := by unfold wetV; generalize (1000 - h) * wetM t = P at *; omega
    have hkk := hk
    obtain ⟨h1, h2, h3, h4⟩ := hk
    have fin : Ev (fun k => skiarealaw12_WeatherWetter.j0 k t h w v (wetV t h) false) true := by
      refine Ev.step (f := fun k => some true) (fun k => ?_) (Ev.now _)
      simp only [skiarealaw12_WeatherWetter.j0]
      rw [if_neg (by simp), prog_Wet, prog_Wet, Option.bind_some, Option.bind_some]
      rw [wrap_id (x := w) (by omega) (by omega), wrap_id (x := v) (by omega) (by omega), wrap_id (x := t + w) (by omega) (by omega), wrap_id (x := h + v) (by omega) (by omega)]
      have ez : (if (wetR t (h + v)).2 = 0 then some (decide ((wetR t (h + v)).1 ≥ wetV t h)) else some true) = some true := by
        unfold wetR
        by_cases hk3 : wetOk t (h + v)
        · rw [if_pos hk3]
          simp [mono_h hkk hk3 hu3]
        · rw [if_neg hk3]; simp
      rw [ez]
      unfold wetR
      by_cases hk2 : wetOk (t + w) h
      · rw [if_pos hk2]
        simp [mono_t hkk hk2 hu1]
      · rw [if_neg hk2]; simp
    by_cases hh : h = 1000
    · have hxe : wetV t h = t := by unfold wetV; rw [hh]; simp
      refine Ev.congr (fun k => ?_) fin
      show (if (0 : Int) = 0 then _ else _) = _
      rw [if_pos rfl, if_neg (by show ¬ wetV t h > t; omega), if_pos hh]
      have : (wetV t h != t) = false := by rw [hxe]; simp
      rw [this]
    · refine Ev.congr (fun k => ?_) fin
      show (if (0 : Int) = 0 then _ else _) = _
      rw [if_pos rfl, if_neg (by show ¬ wetV t h > t; omega), if_neg hh]
  · have hr : wetR t h = (0, 2) := if_neg hk
    rw [hr]
    exact Ev.congr (f := fun k => some true) (fun k => by simp) (Ev.now _)
end Go.Proofs.Ythndidjhdijpnaa.Pure
