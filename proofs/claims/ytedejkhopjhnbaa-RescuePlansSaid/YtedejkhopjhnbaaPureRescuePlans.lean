/- The pure statement of the law RescuePlans. -/
import Derived.Test.YtedejkhopjhnbaaPureB
import Derived.Test.YtedejkhopjhnbaaPureS
import Derived.Test.YtedejkhopjhnbaaPx27
import Derived.Test.YtedejkhopjhnbaaOpen
namespace Go.Proofs.Ytedejkhopjhnbaa.Pure
open Go.RowKit Go.Proofs.YtedejkhopjhnbaaW.PrintWords Go.Proofs.YtedejkhopjhnbaaW.PrintLast Go.Proofs.YtedejkhopjhnbaaW.PrintMore Go.Proofs.Ytedejkhopjhnbaa.P Go.Proofs.Ytedejkhopjhnbaa.Open
set_option linter.unusedVariables false
set_option linter.unusedSimpArgs false

theorem RescuePlans (l : List S33) (hz : ∀ p ∈ l, wf33 p) (a1 : Int) (w1 : is_i64 a1) : ∃ k, skiarealaw21_RescuePlans.f k l a1 = some true := by
  refine Ev.rounds ?_
  refine Ev.congr (fun k => by unfold skiarealaw21_RescuePlans.f skiarealaw21_alive.f; rw [Option.bind_some, if_pos rfl]) (Ev.bind (right_ev l) ?_)
  by_cases hr : rightP l = 0
  · have hg := good_of hr
    rw [show (rightP l == 0) = true by simp [hr]]
    by_cases h : a1 < 1 ∨ 3 < a1
    · have hp : Ev (fun k => skiarearef21_Plan.f k l a1) ([], 0, 2) := by
        have h1 : Ev (fun k => skiarearef21_Plan.j0 k l a1 true) ([], 0, 2) := Ev.step (f := fun k => some ([], 0, 2)) (fun k => by simp only [skiarearef21_Plan.j0, if_true]) (Ev.now _)
        by_cases h2 : a1 < 1
        · exact Ev.congr (fun k => by unfold skiarearef21_Plan.f; rw [if_pos h2]) h1
        · exact Ev.congr (fun k => by unfold skiarearef21_Plan.f; rw [if_neg h2, show decide (a1 > 3) = true from decide_eq_true (by omega)]) h1
      refine Ev.congr (fun k => by rw [if_pos rfl, plan_out_f l a1 h, Option.bind_some]) (Ev.bind hp (Ev.bind (same_ev [] (by simp)) ?_))
      exact Ev.congr (f := fun _ => some true) (fun k => by simp) (Ev.now _)
    · obtain ⟨m, rfl⟩ : ∃ m : Nat, a1 = m := ⟨a1.toNat, by omega⟩
      obtain ⟨a, h1, h2⟩ := ref_Plan l hg m (by omega) (by omega)
      obtain ⟨a', q1, q2, q3, q4⟩ := plan_spec l hg m (by omega) (by omega)
      have hl : (jobsL zeroE (td l) a).length ≤ 1000 := by
        have e : jobsL zeroE (td l) a = jobsL zeroE (td l) a' := by
          rw [h1] at q4
          exact congrArg Prod.fst (Option.some.inj q4)
        rw [e, jobsL_length _ _ _ (mem_leaves.1 q2).1]
        have := td_len l
        have := hg.len
        omega
      refine Ev.congr (fun k => by rw [if_pos rfl, h1, Option.bind_some]) (Ev.bind h2 (Ev.bind (same_ev _ hl) ?_))
      exact Ev.congr (f := fun _ => some true) (fun k => by simp) (Ev.now _)
  · rw [show (rightP l == 0) = false by simpa using hr]
    exact Ev.congr (f := fun k => some true) (fun k => by rw [if_neg (by simp)]) (Ev.now _)
end Go.Proofs.Ytedejkhopjhnbaa.Pure
