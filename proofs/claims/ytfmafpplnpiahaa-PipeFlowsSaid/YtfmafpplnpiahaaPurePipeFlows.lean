/- The pure statement of the law PipeFlows: the program and the reference reckon the same flows of any pipes that the reference accepts. -/
import Derived.Test.YtfmafpplnpiahaaPureD
import Derived.Test.YtfmafpplnpiahaaPx16
import Derived.Test.YtfmafpplnpiahaaOpen
namespace Go.Proofs.Ytfmafpplnpiahaa.Pure
open Go.RowKit Go.Proofs.YtfmafpplnpiahaaW.PrintWords Go.Proofs.YtfmafpplnpiahaaW.PrintLast Go.Proofs.YtfmafpplnpiahaaW.PrintMore Go.Proofs.Ytfmafpplnpiahaa.P Go.Proofs.Ytfmafpplnpiahaa.Open
set_option linter.unusedVariables false
set_option linter.unusedSimpArgs false

theorem PipeFlows (l : List S45) (hz : ∀ p ∈ l, wf45 p) (ds : List S42) (hz1 : ∀ p ∈ ds, wf42 p) : ∃ k, skiarealaw40_PipeFlows.f k l ds = some true := by
  refine Ev.rounds ?_
  obtain ⟨b, hb, hacc⟩ := accepted_ev l ds 0
  refine Ev.congr (fun k => by unfold skiarealaw40_PipeFlows.f skiarealaw40_alive.f; rw [Option.bind_some, if_pos rfl]) (Ev.bind hb ?_)
  cases b with
  | false => exact Ev.congr (fun k => by rw [if_neg (by simp)]) (Ev.now _)
  | true =>
    obtain ⟨hv, hd, hl, _, _⟩ := hacc rfl
    obtain ⟨R, hR, hF⟩ := prog_Flows l hv ds hd
    obtain ⟨R2, hR2, hF2⟩ := ref_Flows l hv ds hd (by omega)
    obtain rfl := isF_eq hF hF2
    have hlen := hv.len
    have := hF.1
    refine Ev.congr (fun k => by rw [if_pos rfl]) (Ev.bind hR ?_)
    refine Ev.bind hR2 ?_
    exact Ev.bind (same_ev R (by omega)) (Ev.now _)
end Go.Proofs.Ytfmafpplnpiahaa.Pure
