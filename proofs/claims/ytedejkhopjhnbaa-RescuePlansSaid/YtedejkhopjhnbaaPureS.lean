/- Pure facts on equal lists of jobs. -/
import Derived.Test.YtedejkhopjhnbaaPureP
import Derived.Test.YtedejkhopjhnbaaPx20
namespace Go.Proofs.Ytedejkhopjhnbaa.Pure
open Go.RowKit Go.Proofs.YtedejkhopjhnbaaW.PrintWords Go.Proofs.YtedejkhopjhnbaaW.PrintLast Go.Proofs.YtedejkhopjhnbaaW.PrintMore Go.Proofs.Ytedejkhopjhnbaa.P
set_option linter.unusedVariables false
set_option linter.unusedSimpArgs false

theorem same_l0 (xs : List S35) (h : xs.length ≤ 1000) : ∀ (d i : Nat), i + d = xs.length → Ev (fun k => skiarearef21_Same.l0 k xs xs (i : Int)) true := by
  intro d
  induction d with
  | zero =>
    intro i hi
    exact Ev.step (f := fun k => some true) (fun k => by simp only [skiarearef21_Same.l0]; rw [if_neg (by omega)]) (Ev.now true)
  | succ d ih =>
    intro i hi
    have hw := wrap_succ i (by omega)
    refine Ev.step (f := fun k => skiarearef21_Same.l0 k xs xs ((i + 1 : Nat) : Int)) (fun k => ?_) (ih (i + 1) (by omega))
    simp only [skiarearef21_Same.l0, hw]
    rw [if_pos (by omega), if_pos (by omega), if_pos (by omega), if_neg (by simp)]
theorem same_ev (xs : List S35) (h : xs.length ≤ 1000) : Ev (fun k => skiarearef21_Same.f k xs xs) true := by
  refine Ev.congr (f := fun k => skiarearef21_Same.l0 k xs xs 0) (fun k => by unfold skiarearef21_Same.f; rw [if_pos rfl]) ?_
  simpa using same_l0 xs h xs.length 0 (by omega)
theorem jobsL_length : ∀ (t : List S33) (a : List Int) (e : Int → Int), a.length = t.length → (jobsL e t a).length = t.length
  | [], a, e, h => by cases a <;> rfl
  | x :: xs, [], e, h => by simp at h
  | x :: xs, u :: us, e, h => by simp only [jobsL, List.length_cons]; rw [jobsL_length xs us _ (by simpa using h)]
theorem plan_out_f (l : List S33) (m : Int) (h : m < 1 ∨ 3 < m) : rescue_Plan.f l m = some ([], 0, 2) := by unfold rescue_Plan.f; rw [if_pos h]
end Go.Proofs.Ytedejkhopjhnbaa.Pure
