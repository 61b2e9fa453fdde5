/-
  No cell of these rows narrows 'for every input' (looked for: loops, veiled, ifaces, maps, wideKeys, modest, calm, conditions, laid).
  DERIVED. THE GIVEN ROWS OF THIS SEAT. 7 by the template 'for every input the law returns true; each argument reads behind the call as it read before'; 0 by the template 'total and deterministic' (their statements: YtfmafpplnpiahaaTotals.lean).
  GIVEN WITH THE SEED: the statements are not yours to turn. If you find one false, say at which input.
  Laid BY PROGRAM, IN A SANDBOX (cutbox-rows.mjs): the forced cells as the released guide's own fill.sh prints them over the translation 37c68e2c539d2e28… (all of the seat's roots in one cut). By AI agents, Wed Nov 11 2026. No macro, syntax, notation, axiom, sorry.
-/
import Derived.Test.YtfmafpplnpiahaaChecked
import GoSem.Claim
import GoSem.ClaimJoined
import GoSem.ClaimMapViews
import Derived.JoinedTies
import Derived.KernelRfl
namespace Go.Proofs.Ytfmafpplnpiahaa
/- THE CELL 'sum', in the pinned program and in every row, IS THE sha256 OF THE DUMP (.gsa) THAT YtfmafpplnpiahaaProg.lean LOADS. Nothing in Lean hashes anything: it is a label: what it is worth is what the hold of that sum in a sandbox is worth. -/
noncomputable def Try.pinned : Pinned := { name := "ytfmafpplnpiahaa", sum := "37c68e2c539d2e28466e001e04b0292e3970dfbc9a7994e85ec61f0b3ebce01b", checked := Try.checked }
namespace Rows
def none {H : Type} : Left H := { results := [], args := [] }

/-- 'skiarealaw40.PipeRight': WHATEVER THE INPUT: true; the input reads as it did. -/
def pipeRightSpec : ChangeSpec := { name := "pipeRight", fn := fun _ => fun
  | [d] => { results := [.lit (.bool true)], args := [d] }
  | _ => none }
def pipeRightRow : OpenClaim := { program := "ytfmafpplnpiahaa", sum := "37c68e2c539d2e28466e001e04b0292e3970dfbc9a7994e85ec61f0b3ebce01b", func := "skiarea/skiarealaw40.PipeRight", spec := "pipeRight", unfollowed := true, recurses := true, apart := false }
def PipeRightSaid : Prop := pipeRightRow.holds Try.pinned (OpenSpec.ofChange pipeRightSpec)

/-- ITS FALSE NEIGHBOUR: 'it returns false'. Refute it at one input. -/
def pipeRightWrong : ChangeSpec := { name := "pipeRight", fn := fun _ => fun
  | [d] => { results := [.lit (.bool false)], args := [d] }
  | _ => none }
def PipeRightWrongFalsely : Prop := pipeRightRow.holds Try.pinned (OpenSpec.ofChange pipeRightWrong)

/-- 'skiarealaw40.PipeFlows': WHATEVER THE INPUT: true; the input reads as it did. -/
def pipeFlowsSpec : ChangeSpec := { name := "pipeFlows", fn := fun _ => fun
  | [d1, d2] => { results := [.lit (.bool true)], args := [d1, d2] }
  | _ => none }
def pipeFlowsRow : OpenClaim := { program := "ytfmafpplnpiahaa", sum := "37c68e2c539d2e28466e001e04b0292e3970dfbc9a7994e85ec61f0b3ebce01b", func := "skiarea/skiarealaw40.PipeFlows", spec := "pipeFlows", unfollowed := true, recurses := true, apart := false }
def PipeFlowsSaid : Prop := pipeFlowsRow.holds Try.pinned (OpenSpec.ofChange pipeFlowsSpec)

/-- ITS FALSE NEIGHBOUR: 'it returns false'. Refute it at one input. -/
def pipeFlowsWrong : ChangeSpec := { name := "pipeFlows", fn := fun _ => fun
  | [d1, d2] => { results := [.lit (.bool false)], args := [d1, d2] }
  | _ => none }
def PipeFlowsWrongFalsely : Prop := pipeFlowsRow.holds Try.pinned (OpenSpec.ofChange pipeFlowsWrong)

/-- 'skiarealaw40.PipePressures': WHATEVER THE INPUT: true; the input reads as it did. -/
def pipePressuresSpec : ChangeSpec := { name := "pipePressures", fn := fun _ => fun
  | [d1, d2, d3, d4] => { results := [.lit (.bool true)], args := [d1, d2, d3, d4] }
  | _ => none }
def pipePressuresRow : OpenClaim := { program := "ytfmafpplnpiahaa", sum := "37c68e2c539d2e28466e001e04b0292e3970dfbc9a7994e85ec61f0b3ebce01b", func := "skiarea/skiarealaw40.PipePressures", spec := "pipePressures", unfollowed := true, recurses := true, apart := false }
def PipePressuresSaid : Prop := pipePressuresRow.holds Try.pinned (OpenSpec.ofChange pipePressuresSpec)

/-- ITS FALSE NEIGHBOUR: 'it returns false'. Refute it at one input. -/
def pipePressuresWrong : ChangeSpec := { name := "pipePressures", fn := fun _ => fun
  | [d1, d2, d3, d4] => { results := [.lit (.bool false)], args := [d1, d2, d3, d4] }
  | _ => none }
def PipePressuresWrongFalsely : Prop := pipePressuresRow.holds Try.pinned (OpenSpec.ofChange pipePressuresWrong)

/-- 'skiarealaw40.PipeLow': WHATEVER THE INPUT: true; the input reads as it did. -/
def pipeLowSpec : ChangeSpec := { name := "pipeLow", fn := fun _ => fun
  | [d1, d2, d3, d4, d5] => { results := [.lit (.bool true)], args := [d1, d2, d3, d4, d5] }
  | _ => none }
def pipeLowRow : OpenClaim := { program := "ytfmafpplnpiahaa", sum := "37c68e2c539d2e28466e001e04b0292e3970dfbc9a7994e85ec61f0b3ebce01b", func := "skiarea/skiarealaw40.PipeLow", spec := "pipeLow", unfollowed := true, recurses := true, apart := false }
def PipeLowSaid : Prop := pipeLowRow.holds Try.pinned (OpenSpec.ofChange pipeLowSpec)

/-- ITS FALSE NEIGHBOUR: 'it returns false'. Refute it at one input. -/
def pipeLowWrong : ChangeSpec := { name := "pipeLow", fn := fun _ => fun
  | [d1, d2, d3, d4, d5] => { results := [.lit (.bool false)], args := [d1, d2, d3, d4, d5] }
  | _ => none }
def PipeLowWrongFalsely : Prop := pipeLowRow.holds Try.pinned (OpenSpec.ofChange pipeLowWrong)

/-- 'skiarealaw40.PipeMonotone': WHATEVER THE INPUT: true; the input reads as it did. -/
def pipeMonotoneSpec : ChangeSpec := { name := "pipeMonotone", fn := fun _ => fun
  | [d1, d2, d3, d4, d5] => { results := [.lit (.bool true)], args := [d1, d2, d3, d4, d5] }
  | _ => none }
def pipeMonotoneRow : OpenClaim := { program := "ytfmafpplnpiahaa", sum := "37c68e2c539d2e28466e001e04b0292e3970dfbc9a7994e85ec61f0b3ebce01b", func := "skiarea/skiarealaw40.PipeMonotone", spec := "pipeMonotone", unfollowed := true, recurses := true, apart := false }
def PipeMonotoneSaid : Prop := pipeMonotoneRow.holds Try.pinned (OpenSpec.ofChange pipeMonotoneSpec)

/-- ITS FALSE NEIGHBOUR: 'it returns false'. Refute it at one input. -/
def pipeMonotoneWrong : ChangeSpec := { name := "pipeMonotone", fn := fun _ => fun
  | [d1, d2, d3, d4, d5] => { results := [.lit (.bool false)], args := [d1, d2, d3, d4, d5] }
  | _ => none }
def PipeMonotoneWrongFalsely : Prop := pipeMonotoneRow.holds Try.pinned (OpenSpec.ofChange pipeMonotoneWrong)

/-- 'skiarealaw40.PipeAdds': WHATEVER THE INPUT: true; the input reads as it did. -/
def pipeAddsSpec : ChangeSpec := { name := "pipeAdds", fn := fun _ => fun
  | [d1, d2] => { results := [.lit (.bool true)], args := [d1, d2] }
  | _ => none }
def pipeAddsRow : OpenClaim := { program := "ytfmafpplnpiahaa", sum := "37c68e2c539d2e28466e001e04b0292e3970dfbc9a7994e85ec61f0b3ebce01b", func := "skiarea/skiarealaw40.PipeAdds", spec := "pipeAdds", unfollowed := true, recurses := true, apart := false }
def PipeAddsSaid : Prop := pipeAddsRow.holds Try.pinned (OpenSpec.ofChange pipeAddsSpec)

/-- ITS FALSE NEIGHBOUR: 'it returns false'. Refute it at one input. -/
def pipeAddsWrong : ChangeSpec := { name := "pipeAdds", fn := fun _ => fun
  | [d1, d2] => { results := [.lit (.bool false)], args := [d1, d2] }
  | _ => none }
def PipeAddsWrongFalsely : Prop := pipeAddsRow.holds Try.pinned (OpenSpec.ofChange pipeAddsWrong)

/-- 'skiarealaw40.PipeRoots': WHATEVER THE INPUT: true; the input reads as it did. -/
def pipeRootsSpec : ChangeSpec := { name := "pipeRoots", fn := fun _ => fun
  | [d1, d2, d3, d4] => { results := [.lit (.bool true)], args := [d1, d2, d3, d4] }
  | _ => none }
def pipeRootsRow : OpenClaim := { program := "ytfmafpplnpiahaa", sum := "37c68e2c539d2e28466e001e04b0292e3970dfbc9a7994e85ec61f0b3ebce01b", func := "skiarea/skiarealaw40.PipeRoots", spec := "pipeRoots", unfollowed := true, recurses := true, apart := false }
def PipeRootsSaid : Prop := pipeRootsRow.holds Try.pinned (OpenSpec.ofChange pipeRootsSpec)

/-- ITS FALSE NEIGHBOUR: 'it returns false'. Refute it at one input. -/
def pipeRootsWrong : ChangeSpec := { name := "pipeRoots", fn := fun _ => fun
  | [d1, d2, d3, d4] => { results := [.lit (.bool false)], args := [d1, d2, d3, d4] }
  | _ => none }
def PipeRootsWrongFalsely : Prop := pipeRootsRow.holds Try.pinned (OpenSpec.ofChange pipeRootsWrong)

/- THE SECOND FORM. 'bulk': how many values and letters a reading holds, each counted each time it is reached (what is shared counts as often as it is met; a slice's spare places count too). A statement '..UptoSaid' is the law's where the arguments, and the package variables that the reading takes, are together of bulk at most 1048576: NARROWER than '..Said'. Prove '..Said' where nothing that the law and all that it calls make is longer than what came in: it says more and counts as full. Else prove '..UptoSaid'. A law counts once. -/
mutual
def uptoBulk {H : Type} : DataW H → Nat
  | .lit (.string bytes) => bytes.length + 1
  | .lit _ => 1
  | .nil => 1
  | .ptr d => uptoBulk d + 1
  | .slice elems spare => uptoBulkAll elems + uptoBulkAll spare + 1
  | .agg parts => uptoBulkAll parts + 1
  | .iface _ d => uptoBulk d + 1
  | .map entries => uptoBulkEntries entries + 1
  | .held _ => 1
def uptoBulkAll {H : Type} : List (DataW H) → Nat
  | [] => 0
  | d :: r => uptoBulk d + uptoBulkAll r
def uptoBulkEntries {H : Type} : List (Lit × DataW H) → Nat
  | [] => 0
  | x :: r => uptoBulkEntry x + uptoBulkEntries r
def uptoBulkEntry {H : Type} : Lit × DataW H → Nat
  | (.string bytes, d) => bytes.length + uptoBulk d + 1
  | (_, d) => uptoBulk d + 1
 end
def uptoSmall : (H : Type) → List (DataW H) → Bool := fun _ ds => decide (uptoBulkAll ds ≤ 1048576)
def OpenSpec.upto (s : _root_.Go.ChangeSpec) : _root_.Go.OpenSpec := { _root_.Go.OpenSpec.ofChange s with cond := some uptoSmall }

/-- 'skiarealaw40.PipeRight', WHERE WHAT IT READS IS OF BULK AT MOST 1048576: true; the input reads as it did. -/
def pipeRightUptoRow : OpenClaim := { program := "ytfmafpplnpiahaa", sum := "37c68e2c539d2e28466e001e04b0292e3970dfbc9a7994e85ec61f0b3ebce01b", func := "skiarea/skiarealaw40.PipeRight", spec := "pipeRight", unfollowed := true, recurses := true, apart := false, narrowed := true }
def PipeRightUptoSaid : Prop := pipeRightUptoRow.holds Try.pinned (OpenSpec.upto pipeRightSpec)

/-- 'skiarealaw40.PipeFlows', WHERE WHAT IT READS IS OF BULK AT MOST 1048576: true; the input reads as it did. -/
def pipeFlowsUptoRow : OpenClaim := { program := "ytfmafpplnpiahaa", sum := "37c68e2c539d2e28466e001e04b0292e3970dfbc9a7994e85ec61f0b3ebce01b", func := "skiarea/skiarealaw40.PipeFlows", spec := "pipeFlows", unfollowed := true, recurses := true, apart := false, narrowed := true }
def PipeFlowsUptoSaid : Prop := pipeFlowsUptoRow.holds Try.pinned (OpenSpec.upto pipeFlowsSpec)

/-- 'skiarealaw40.PipePressures', WHERE WHAT IT READS IS OF BULK AT MOST 1048576: true; the input reads as it did. -/
def pipePressuresUptoRow : OpenClaim := { program := "ytfmafpplnpiahaa", sum := "37c68e2c539d2e28466e001e04b0292e3970dfbc9a7994e85ec61f0b3ebce01b", func := "skiarea/skiarealaw40.PipePressures", spec := "pipePressures", unfollowed := true, recurses := true, apart := false, narrowed := true }
def PipePressuresUptoSaid : Prop := pipePressuresUptoRow.holds Try.pinned (OpenSpec.upto pipePressuresSpec)

/-- 'skiarealaw40.PipeLow', WHERE WHAT IT READS IS OF BULK AT MOST 1048576: true; the input reads as it did. -/
def pipeLowUptoRow : OpenClaim := { program := "ytfmafpplnpiahaa", sum := "37c68e2c539d2e28466e001e04b0292e3970dfbc9a7994e85ec61f0b3ebce01b", func := "skiarea/skiarealaw40.PipeLow", spec := "pipeLow", unfollowed := true, recurses := true, apart := false, narrowed := true }
def PipeLowUptoSaid : Prop := pipeLowUptoRow.holds Try.pinned (OpenSpec.upto pipeLowSpec)

/-- 'skiarealaw40.PipeMonotone', WHERE WHAT IT READS IS OF BULK AT MOST 1048576: true; the input reads as it did. -/
def pipeMonotoneUptoRow : OpenClaim := { program := "ytfmafpplnpiahaa", sum := "37c68e2c539d2e28466e001e04b0292e3970dfbc9a7994e85ec61f0b3ebce01b", func := "skiarea/skiarealaw40.PipeMonotone", spec := "pipeMonotone", unfollowed := true, recurses := true, apart := false, narrowed := true }
def PipeMonotoneUptoSaid : Prop := pipeMonotoneUptoRow.holds Try.pinned (OpenSpec.upto pipeMonotoneSpec)

/-- 'skiarealaw40.PipeAdds', WHERE WHAT IT READS IS OF BULK AT MOST 1048576: true; the input reads as it did. -/
def pipeAddsUptoRow : OpenClaim := { program := "ytfmafpplnpiahaa", sum := "37c68e2c539d2e28466e001e04b0292e3970dfbc9a7994e85ec61f0b3ebce01b", func := "skiarea/skiarealaw40.PipeAdds", spec := "pipeAdds", unfollowed := true, recurses := true, apart := false, narrowed := true }
def PipeAddsUptoSaid : Prop := pipeAddsUptoRow.holds Try.pinned (OpenSpec.upto pipeAddsSpec)

/-- 'skiarealaw40.PipeRoots', WHERE WHAT IT READS IS OF BULK AT MOST 1048576: true; the input reads as it did. -/
def pipeRootsUptoRow : OpenClaim := { program := "ytfmafpplnpiahaa", sum := "37c68e2c539d2e28466e001e04b0292e3970dfbc9a7994e85ec61f0b3ebce01b", func := "skiarea/skiarealaw40.PipeRoots", spec := "pipeRoots", unfollowed := true, recurses := true, apart := false, narrowed := true }
def PipeRootsUptoSaid : Prop := pipeRootsUptoRow.holds Try.pinned (OpenSpec.upto pipeRootsSpec)

end Rows
end Go.Proofs.Ytfmafpplnpiahaa
