/- The pure statement of the law RescueLeast. -/
import Derived.Test.YtedejkhopjhnbaaPureB
import Derived.Test.YtedejkhopjhnbaaPureY
import Derived.Test.YtedejkhopjhnbaaPx35
import Derived.Test.YtedejkhopjhnbaaOpen
namespace Go.Proofs.Ytedejkhopjhnbaa.Pure
open Go.RowKit Go.Proofs.YtedejkhopjhnbaaW.PrintWords Go.Proofs.YtedejkhopjhnbaaW.PrintLast Go.Proofs.YtedejkhopjhnbaaW.PrintMore Go.Proofs.Ytedejkhopjhnbaa.P Go.Proofs.Ytedejkhopjhnbaa.Open
set_option linter.unusedVariables false
set_option linter.unusedSimpArgs false

theorem RescueLeast (l : List S33) (hz : ∀ p ∈ l, wf33 p) (a1 : Int) (w1 : is_i64 a1) (js : List S35) (hj : ∀ p ∈ js, wf35 p) : ∃ k, skiarealaw21_RescueLeast.f k l a1 js = some true := by
  refine Ev.rounds ?_
  refine Ev.congr (fun k => by unfold skiarealaw21_RescueLeast.f skiarealaw21_alive.f; rw [Option.bind_some, if_pos rfl]) (Ev.bind (right_ev l) ?_)
  have jt : Ev (fun k => skiarealaw21_RescueLeast.j0 k l a1 js true) true := Ev.step (f := fun k => some true) (fun k => by simp only [skiarealaw21_RescueLeast.j0, if_true]) (Ev.now _)
  by_cases hr : rightP l = 0
  · have hg := good_of hr
    rw [show (rightP l == 0) = true by simp [hr]]
    refine Ev.congr (f := fun k => skiarealaw21_RescueLeast.j0 k l a1 js (decide ((js.length : Int) > 40))) (fun k => by rw [if_pos rfl]) ?_
    by_cases h40 : (js.length : Int) > 40
    · rw [decide_eq_true h40]; exact jt
    · rw [decide_eq_false h40]
      by_cases h : a1 < 1 ∨ 3 < a1
      · refine Ev.step (f := fun k => some true) (fun k => ?_) (Ev.now _)
        simp only [skiarealaw21_RescueLeast.j0]
        rw [if_neg (by simp), plan_out_f l a1 h, Option.bind_some, if_neg (by decide), if_pos rfl]
        by_cases h1 : a1 < 1
        · rw [if_pos h1]; simp
        · rw [if_neg h1, if_pos (by omega)]; simp
      · obtain ⟨m, rfl⟩ : ∃ m : Nat, a1 = m := ⟨a1.toNat, by omega⟩
        have hm : 1 ≤ m := by omega
        have hm3 : m ≤ 3 := by omega
        obtain ⟨a, q1, q2, q3, q4⟩ := plan_spec l hg m hm hm3
        have ht8 : (td l).length ≤ 8 := Nat.le_trans (td_len l) hg.len
        have ho := own_td hg
        obtain ⟨hal, ha3⟩ := mem_leaves.1 q2
        have hjl := jobsL_length (td l) a zeroE hal
        have hv := plan_valid (td l) ho ht8 (td_secs hg) m hm3 a q2
        have hla := lastP_jobs (td l) a (fun x hx => by have := td_secs hg x hx; omega) (fun u hu => by have := ha3 u hu; omega)
        have hb := bound_le (td l) ht8 (td_secs hg) m hm hm3 a q2
        have fin : Ev (fun k => skiarealaw21_RescueLeast.j1 k l (m : Int) js (endOf (td l) a) false) true := by
          cases hv2 : validP (td l) (m : Int) js with
          | false =>
            refine Ev.step (f := fun k => some true) (fun k => ?_) (Ev.now _)
            simp only [skiarealaw21_RescueLeast.j1]
            rw [if_neg (by simp)]
            unfold rescue_Valid.f
            rw [needing_f l hg.len, Option.bind_some, Option.bind_some, hv2, if_neg (by simp)]
          | true =>
            refine Ev.step (f := fun k => (skiarealaw21_last.f k js).bind fun t => some (decide (endOf (td l) a ≤ t))) (fun k => ?_) ?_
            · simp only [skiarealaw21_RescueLeast.j1]
              rw [if_neg (by simp)]
              unfold rescue_Valid.f
              rw [needing_f l hg.len, Option.bind_some, Option.bind_some, hv2, if_pos rfl]
            · refine Ev.bind (last_ev js (by omega)) ?_
              obtain ⟨e1, e2⟩ := vp_end ho hm3 ((validP_iff _ _ _).1 hv2) (fun j hjj => (hj j hjj).2.2.2)
              have := q3 _ e1
              rw [decide_eq_true (show endOf (td l) a ≤ lastP js by omega)]
              exact Ev.now true
        refine Ev.step (f := fun k => (skiarealaw21_last.f k (jobsL zeroE (td l) a)).bind fun t274 => (if t274 = endOf (td l) a then ((rescue_Bound.f k l m).bind fun t275 => (skiarealaw21_RescueLeast.j1 k l m js (endOf (td l) a) (decide (endOf (td l) a < t275)))) else (skiarealaw21_RescueLeast.j1 k l m js (endOf (td l) a) true))) (fun k => ?_) ?_
        · simp only [skiarealaw21_RescueLeast.j0]
          rw [if_neg (by simp), q4, Option.bind_some, if_pos rfl, if_neg (by omega), if_neg (by omega)]
          unfold rescue_Valid.f
          rw [needing_f l hg.len, Option.bind_some, Option.bind_some, hv, if_pos rfl]
        · refine Ev.bind (last_ev _ (by omega)) ?_
          rw [hla]
          refine Ev.congr (fun k => by rw [if_pos rfl]) (Ev.bind (prog_Bound l hg.len m) ?_)
          rw [decide_eq_false (by omega)]
          exact fin
  · rw [show (rightP l == 0) = false by simpa using hr]
    exact Ev.congr (f := fun k => skiarealaw21_RescueLeast.j0 k l a1 js true) (fun k => by rw [if_neg (by simp)]) jt
end Go.Proofs.Ytedejkhopjhnbaa.Pure
