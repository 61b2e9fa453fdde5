/- The pure statement of the law PipeRight: the program and the reference tell the same first error of any pipes, at most 200. -/
import Derived.Test.YtfmafpplnpiahaaPx11
import Derived.Test.YtfmafpplnpiahaaPureA
import Derived.Test.YtfmafpplnpiahaaOpen
namespace Go.Proofs.Ytfmafpplnpiahaa.Pure
open Go.RowKit Go.Proofs.YtfmafpplnpiahaaW.PrintWords Go.Proofs.YtfmafpplnpiahaaW.PrintLast Go.Proofs.YtfmafpplnpiahaaW.PrintMore Go.Proofs.Ytfmafpplnpiahaa.P Go.Proofs.Ytfmafpplnpiahaa.Open
set_option linter.unusedVariables false
set_option linter.unusedSimpArgs false

theorem PipeRight (l : List S45) (hz : ∀ p ∈ l, wf45 p) : ∃ k, skiarealaw40_PipeRight.f k l = some true := by
  obtain ⟨k, hk⟩ := (ref_Right l).rounds
  refine ⟨k, ?_⟩
  unfold skiarealaw40_PipeRight.f skiarealaw40_alive.f pipe_Right.f
  simp only [Option.bind_some, if_true, hk, beq_self_eq_true]
  split <;> rfl
end Go.Proofs.Ytfmafpplnpiahaa.Pure
