/- The pure statement of the law PipePressures: the program and the reference reckon the same pressure at any node of any pipes that the reference accepts. -/
import Derived.Test.YtfmafpplnpiahaaPureD
import Derived.Test.YtfmafpplnpiahaaPx18
import Derived.Test.YtfmafpplnpiahaaOpen
namespace Go.Proofs.Ytfmafpplnpiahaa.Pure
open Go.RowKit Go.Proofs.YtfmafpplnpiahaaW.PrintWords Go.Proofs.YtfmafpplnpiahaaW.PrintLast Go.Proofs.YtfmafpplnpiahaaW.PrintMore Go.Proofs.Ytfmafpplnpiahaa.P Go.Proofs.Ytfmafpplnpiahaa.Open
set_option linter.unusedVariables false
set_option linter.unusedSimpArgs false

theorem PipePressures (l : List S45) (hz : ∀ p ∈ l, wf45 p) (ds : List S42) (hz1 : ∀ p ∈ ds, wf42 p) (root : Int) (w2 : is_i64 root) (node : Int) (w3 : is_i64 node) : ∃ k, skiarealaw40_PipePressures.f k l ds root node = some true := by
  refine Ev.rounds ?_
  obtain ⟨b, hb, hacc⟩ := accepted_ev l ds root
  refine Ev.congr (fun k => by unfold skiarealaw40_PipePressures.f skiarealaw40_alive.f; rw [Option.bind_some, if_pos rfl]) (Ev.bind hb ?_)
  cases b with
  | false => exact Ev.congr (fun k => by rw [if_neg (by simp)]) (Ev.now _)
  | true =>
    obtain ⟨hv, hd, hl, hr1, hr2⟩ := hacc rfl
    obtain ⟨fl, hF, _, hP⟩ := prog_Pressure l hv ds hd
    refine Ev.congr (fun k => by rw [if_pos rfl]) (Ev.bind (hP root node (by omega) (by omega)) ?_)
    refine Ev.bind (ref_Pressure l hv ds hd (by omega) fl hF root node (by omega) (by omega)) ?_
    exact Ev.congr (f := fun k => some true) (fun k => by simp) (Ev.now _)
end Go.Proofs.Ytfmafpplnpiahaa.Pure
