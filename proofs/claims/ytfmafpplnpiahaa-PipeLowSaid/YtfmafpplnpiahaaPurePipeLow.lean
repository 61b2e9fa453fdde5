/- The pure statement of the law PipeLow: the program and the reference tell the same ways and the same needs that are not met, at most 100 needs. -/
import Derived.Test.YtfmafpplnpiahaaPureD
import Derived.Test.YtfmafpplnpiahaaPx21
import Derived.Test.YtfmafpplnpiahaaOpen
namespace Go.Proofs.Ytfmafpplnpiahaa.Pure
open Go.RowKit Go.Proofs.YtfmafpplnpiahaaW.PrintWords Go.Proofs.YtfmafpplnpiahaaW.PrintLast Go.Proofs.YtfmafpplnpiahaaW.PrintMore Go.Proofs.Ytfmafpplnpiahaa.P Go.Proofs.Ytfmafpplnpiahaa.Open
set_option linter.unusedVariables false
set_option linter.unusedSimpArgs false

theorem PipeLow (l : List S45) (hz : ∀ p ∈ l, wf45 p) (ds : List S42) (hz1 : ∀ p ∈ ds, wf42 p) (need : List S42) (hz2 : ∀ p ∈ need, wf42 p) (root : Int) (w3 : is_i64 root) (node : Int) (w4 : is_i64 node) : ∃ k, skiarealaw40_PipeLow.f k l ds need root node = some true := by
  refine Ev.rounds ?_
  obtain ⟨b, hb, hacc⟩ := accepted_ev l ds root
  refine Ev.congr (fun k => by unfold skiarealaw40_PipeLow.f skiarealaw40_alive.f; rw [Option.bind_some, if_pos rfl]) (Ev.bind hb ?_)
  have hout : Ev (fun k => skiarealaw40_PipeLow.j0 k l ds need root node true) true := Ev.step (f := fun k => some true) (fun k => by simp only [skiarealaw40_PipeLow.j0, if_true]) (Ev.now _)
  cases b with
  | false => exact Ev.congr (fun k => by rw [if_neg (by simp)]) hout
  | true =>
    obtain ⟨hv, hd, hl, hr1, hr2⟩ := hacc rfl
    refine Ev.congr (fun k => by rw [if_pos rfl]) ?_
    by_cases hn : (need.length : Int) > 100
    · rw [show decide ((need.length : Int) > 100) = true from decide_eq_true hn]
      exact hout
    · rw [show decide ((need.length : Int) > 100) = false from decide_eq_false hn]
      obtain ⟨fl, hF, hfl, hP⟩ := prog_Pressure l hv ds hd
      refine Ev.step (fun k => by simp only [skiarealaw40_PipeLow.j0]; rw [if_neg (by simp)]) (Ev.bind (prog_Path l hv node) ?_)
      refine Ev.bind (ref_Path l hv node) ?_
      refine Ev.bind (prog_Low l hv ds hd fl hF hfl root (by omega) (by omega) need (by omega)) ?_
      refine Ev.bind (ref_Low l hv ds hd (by omega) fl hF root (by omega) (by omega) need (by omega)) ?_
      have hlow := lowL_len l fl root need
      refine Ev.bind (same_ev _ (by omega)) ?_
      have hp : (pathL l node).length ≤ 100 := by
        have := up_len l l.length node
        have := hv.len
        simp [pathL]; omega
      refine Ev.congr (fun k => by rw [if_pos rfl]) (Ev.bind (same_ev _ (by show (pathL l node).length ≤ _; omega)) ?_)
      exact Ev.congr (f := fun k => some true) (fun k => by simp) (Ev.now _)
end Go.Proofs.Ytfmafpplnpiahaa.Pure
