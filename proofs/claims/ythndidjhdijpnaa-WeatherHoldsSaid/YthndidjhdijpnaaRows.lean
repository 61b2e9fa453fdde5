/-
  No cell of these rows narrows 'for every input' (looked for: loops, veiled, ifaces, maps, wideKeys, modest, calm, conditions, laid).
  DERIVED. THE GIVEN ROWS OF THIS SEAT. 8 by the template 'for every input the law returns true; each argument reads behind the call as it read before'; 0 by the template 'total and deterministic' (their statements: YthndidjhdijpnaaTotals.lean).
  GIVEN WITH THE SEED: the statements are not yours to turn. If you find one false, say at which input.
  Laid BY PROGRAM, IN A SANDBOX (cutbox-rows.mjs): the forced cells as the released guide's own fill.sh prints them over the translation 99262d5464758a41… (all of the seat's roots in one cut). By AI agents, Wed Nov 11 2026. No macro, syntax, notation, axiom, sorry.
-/
import Derived.Test.YthndidjhdijpnaaChecked
import GoSem.Claim
import GoSem.ClaimJoined
import GoSem.ClaimMapViews
import Derived.JoinedTies
import Derived.KernelRfl
namespace Go.Proofs.Ythndidjhdijpnaa
/- THE CELL 'sum', in the pinned program and in every row, IS THE sha256 OF THE DUMP (.gsa) THAT YthndidjhdijpnaaProg.lean LOADS. Nothing in Lean hashes anything: it is a label: what it is worth is what the hold of that sum in a sandbox is worth. -/
noncomputable def Try.pinned : Pinned := { name := "ythndidjhdijpnaa", sum := "99262d5464758a4166d8263be64590d753253a744c7adaa2512437339e2be281", checked := Try.checked }
namespace Rows
def none {H : Type} : Left H := { results := [], args := [] }

/-- 'skiarealaw12.WeatherRight': WHATEVER THE INPUT: true; the input reads as it did. -/
def weatherRightSpec : ChangeSpec := { name := "weatherRight", fn := fun _ => fun
  | [d] => { results := [.lit (.bool true)], args := [d] }
  | _ => none }
def weatherRightRow : OpenClaim := { program := "ythndidjhdijpnaa", sum := "99262d5464758a4166d8263be64590d753253a744c7adaa2512437339e2be281", func := "skiarea/skiarealaw12.WeatherRight", spec := "weatherRight", unfollowed := true, recurses := true, plainKeys := false, apart := false }
def WeatherRightSaid : Prop := weatherRightRow.holds Try.pinned (OpenSpec.ofChange weatherRightSpec)

/-- ITS FALSE NEIGHBOUR: 'it returns false'. Refute it at one input. -/
def weatherRightWrong : ChangeSpec := { name := "weatherRight", fn := fun _ => fun
  | [d] => { results := [.lit (.bool false)], args := [d] }
  | _ => none }
def WeatherRightWrongFalsely : Prop := weatherRightRow.holds Try.pinned (OpenSpec.ofChange weatherRightWrong)

/-- 'skiarealaw12.WeatherFinds': WHATEVER THE INPUT: true; the input reads as it did. -/
def weatherFindsSpec : ChangeSpec := { name := "weatherFinds", fn := fun _ => fun
  | [d1, d2, d3, d4] => { results := [.lit (.bool true)], args := [d1, d2, d3, d4] }
  | _ => none }
def weatherFindsRow : OpenClaim := { program := "ythndidjhdijpnaa", sum := "99262d5464758a4166d8263be64590d753253a744c7adaa2512437339e2be281", func := "skiarea/skiarealaw12.WeatherFinds", spec := "weatherFinds", unfollowed := true, recurses := true, plainKeys := false, apart := false }
def WeatherFindsSaid : Prop := weatherFindsRow.holds Try.pinned (OpenSpec.ofChange weatherFindsSpec)

/-- ITS FALSE NEIGHBOUR: 'it returns false'. Refute it at one input. -/
def weatherFindsWrong : ChangeSpec := { name := "weatherFinds", fn := fun _ => fun
  | [d1, d2, d3, d4] => { results := [.lit (.bool false)], args := [d1, d2, d3, d4] }
  | _ => none }
def WeatherFindsWrongFalsely : Prop := weatherFindsRow.holds Try.pinned (OpenSpec.ofChange weatherFindsWrong)

/-- 'skiarealaw12.WeatherSnow': WHATEVER THE INPUT: true; the input reads as it did. -/
def weatherSnowSpec : ChangeSpec := { name := "weatherSnow", fn := fun _ => fun
  | [d1, d2, d3, d4] => { results := [.lit (.bool true)], args := [d1, d2, d3, d4] }
  | _ => none }
def weatherSnowRow : OpenClaim := { program := "ythndidjhdijpnaa", sum := "99262d5464758a4166d8263be64590d753253a744c7adaa2512437339e2be281", func := "skiarea/skiarealaw12.WeatherSnow", spec := "weatherSnow", unfollowed := true, recurses := true, plainKeys := false, apart := false }
def WeatherSnowSaid : Prop := weatherSnowRow.holds Try.pinned (OpenSpec.ofChange weatherSnowSpec)

/-- ITS FALSE NEIGHBOUR: 'it returns false'. Refute it at one input. -/
def weatherSnowWrong : ChangeSpec := { name := "weatherSnow", fn := fun _ => fun
  | [d1, d2, d3, d4] => { results := [.lit (.bool false)], args := [d1, d2, d3, d4] }
  | _ => none }
def WeatherSnowWrongFalsely : Prop := weatherSnowRow.holds Try.pinned (OpenSpec.ofChange weatherSnowWrong)

/-- 'skiarealaw12.WeatherWet': WHATEVER THE INPUT: true; the input reads as it did. -/
def weatherWetSpec : ChangeSpec := { name := "weatherWet", fn := fun _ => fun
  | [d1, d2] => { results := [.lit (.bool true)], args := [d1, d2] }
  | _ => none }
def weatherWetRow : OpenClaim := { program := "ythndidjhdijpnaa", sum := "99262d5464758a4166d8263be64590d753253a744c7adaa2512437339e2be281", func := "skiarea/skiarealaw12.WeatherWet", spec := "weatherWet", unfollowed := true, recurses := true, plainKeys := false, apart := false }
def WeatherWetSaid : Prop := weatherWetRow.holds Try.pinned (OpenSpec.ofChange weatherWetSpec)

/-- ITS FALSE NEIGHBOUR: 'it returns false'. Refute it at one input. -/
def weatherWetWrong : ChangeSpec := { name := "weatherWet", fn := fun _ => fun
  | [d1, d2] => { results := [.lit (.bool false)], args := [d1, d2] }
  | _ => none }
def WeatherWetWrongFalsely : Prop := weatherWetRow.holds Try.pinned (OpenSpec.ofChange weatherWetWrong)

/-- 'skiarealaw12.WeatherAlarms': WHATEVER THE INPUT: true; the input reads as it did. -/
def weatherAlarmsSpec : ChangeSpec := { name := "weatherAlarms", fn := fun _ => fun
  | [d1, d2, d3] => { results := [.lit (.bool true)], args := [d1, d2, d3] }
  | _ => none }
def weatherAlarmsRow : OpenClaim := { program := "ythndidjhdijpnaa", sum := "99262d5464758a4166d8263be64590d753253a744c7adaa2512437339e2be281", func := "skiarea/skiarealaw12.WeatherAlarms", spec := "weatherAlarms", unfollowed := true, recurses := true, plainKeys := false, apart := false }
def WeatherAlarmsSaid : Prop := weatherAlarmsRow.holds Try.pinned (OpenSpec.ofChange weatherAlarmsSpec)

/-- ITS FALSE NEIGHBOUR: 'it returns false'. Refute it at one input. -/
def weatherAlarmsWrong : ChangeSpec := { name := "weatherAlarms", fn := fun _ => fun
  | [d1, d2, d3] => { results := [.lit (.bool false)], args := [d1, d2, d3] }
  | _ => none }
def WeatherAlarmsWrongFalsely : Prop := weatherAlarmsRow.holds Try.pinned (OpenSpec.ofChange weatherAlarmsWrong)

/-- 'skiarealaw12.WeatherHolds': WHATEVER THE INPUT: true; the input reads as it did. -/
def weatherHoldsSpec : ChangeSpec := { name := "weatherHolds", fn := fun _ => fun
  | [d1, d2] => { results := [.lit (.bool true)], args := [d1, d2] }
  | _ => none }
def weatherHoldsRow : OpenClaim := { program := "ythndidjhdijpnaa", sum := "99262d5464758a4166d8263be64590d753253a744c7adaa2512437339e2be281", func := "skiarea/skiarealaw12.WeatherHolds", spec := "weatherHolds", unfollowed := true, recurses := true, plainKeys := false, apart := false }
def WeatherHoldsSaid : Prop := weatherHoldsRow.holds Try.pinned (OpenSpec.ofChange weatherHoldsSpec)

/-- ITS FALSE NEIGHBOUR: 'it returns false'. Refute it at one input. -/
def weatherHoldsWrong : ChangeSpec := { name := "weatherHolds", fn := fun _ => fun
  | [d1, d2] => { results := [.lit (.bool false)], args := [d1, d2] }
  | _ => none }
def WeatherHoldsWrongFalsely : Prop := weatherHoldsRow.holds Try.pinned (OpenSpec.ofChange weatherHoldsWrong)

/-- 'skiarealaw12.WeatherWetter': WHATEVER THE INPUT: true; the input reads as it did. -/
def weatherWetterSpec : ChangeSpec := { name := "weatherWetter", fn := fun _ => fun
  | [d1, d2, d3, d4] => { results := [.lit (.bool true)], args := [d1, d2, d3, d4] }
  | _ => none }
def weatherWetterRow : OpenClaim := { program := "ythndidjhdijpnaa", sum := "99262d5464758a4166d8263be64590d753253a744c7adaa2512437339e2be281", func := "skiarea/skiarealaw12.WeatherWetter", spec := "weatherWetter", unfollowed := true, recurses := true, plainKeys := false, apart := false }
def WeatherWetterSaid : Prop := weatherWetterRow.holds Try.pinned (OpenSpec.ofChange weatherWetterSpec)

/-- ITS FALSE NEIGHBOUR: 'it returns false'. Refute it at one input. -/
def weatherWetterWrong : ChangeSpec := { name := "weatherWetter", fn := fun _ => fun
  | [d1, d2, d3, d4] => { results := [.lit (.bool false)], args := [d1, d2, d3, d4] }
  | _ => none }
def WeatherWetterWrongFalsely : Prop := weatherWetterRow.holds Try.pinned (OpenSpec.ofChange weatherWetterWrong)

/-- 'skiarealaw12.WeatherAdds': WHATEVER THE INPUT: true; the input reads as it did. -/
def weatherAddsSpec : ChangeSpec := { name := "weatherAdds", fn := fun _ => fun
  | [d1, d2] => { results := [.lit (.bool true)], args := [d1, d2] }
  | _ => none }
def weatherAddsRow : OpenClaim := { program := "ythndidjhdijpnaa", sum := "99262d5464758a4166d8263be64590d753253a744c7adaa2512437339e2be281", func := "skiarea/skiarealaw12.WeatherAdds", spec := "weatherAdds", unfollowed := true, recurses := true, plainKeys := false, apart := false }
def WeatherAddsSaid : Prop := weatherAddsRow.holds Try.pinned (OpenSpec.ofChange weatherAddsSpec)

/-- ITS FALSE NEIGHBOUR: 'it returns false'. Refute it at one input. -/
def weatherAddsWrong : ChangeSpec := { name := "weatherAdds", fn := fun _ => fun
  | [d1, d2] => { results := [.lit (.bool false)], args := [d1, d2] }
  | _ => none }
def WeatherAddsWrongFalsely : Prop := weatherAddsRow.holds Try.pinned (OpenSpec.ofChange weatherAddsWrong)

/- THE SECOND FORM. 'bulk': how many values and letters a reading holds, each counted each time it is reached (what is shared counts as often as it is met; a slice's spare places count too). A statement '..UptoSaid' is the law's where the arguments, and the package variables that the reading takes, are together of bulk at most 1048576: NARROWER than '..Said'. Prove '..Said' where nothing that the law and all that it calls make is longer than what came in: it says more and counts as full. Else prove '..UptoSaid'. A law counts once. -/
mutual
def uptoBulk {H : Type} : DataW H → Nat
  | .lit (.string bytes) => bytes.length + 1
  | .lit _ => 1
  | .nil => 1
  | .ptr d => uptoBulk d + 1
  | .slice elems spare => uptoBulkAll elems + uptoBulkAll spare + 1
  | .agg parts => uptoBulkAll parts + 1
  | .iface _ d => uptoBulk d + 1
  | .map entries => uptoBulkEntries entries + 1
  | .held _ => 1
def uptoBulkAll {H : Type} : List (DataW H) → Nat
  | [] => 0
  | d :: r => uptoBulk d + uptoBulkAll r
def uptoBulkEntries {H : Type} : List (Lit × DataW H) → Nat
  | [] => 0
  | x :: r => uptoBulkEntry x + uptoBulkEntries r
def uptoBulkEntry {H : Type} : Lit × DataW H → Nat
  | (.string bytes, d) => bytes.length + uptoBulk d + 1
  | (_, d) => uptoBulk d + 1
 end
def uptoSmall : (H : Type) → List (DataW H) → Bool := fun _ ds => decide (uptoBulkAll ds ≤ 1048576)
def OpenSpec.upto (s : _root_.Go.ChangeSpec) : _root_.Go.OpenSpec := { _root_.Go.OpenSpec.ofChange s with cond := some uptoSmall }

/-- 'skiarealaw12.WeatherRight', WHERE WHAT IT READS IS OF BULK AT MOST 1048576: true; the input reads as it did. -/
def weatherRightUptoRow : OpenClaim := { program := "ythndidjhdijpnaa", sum := "99262d5464758a4166d8263be64590d753253a744c7adaa2512437339e2be281", func := "skiarea/skiarealaw12.WeatherRight", spec := "weatherRight", unfollowed := true, recurses := true, plainKeys := false, apart := false, narrowed := true }
def WeatherRightUptoSaid : Prop := weatherRightUptoRow.holds Try.pinned (OpenSpec.upto weatherRightSpec)

/-- 'skiarealaw12.WeatherFinds', WHERE WHAT IT READS IS OF BULK AT MOST 1048576: true; the input reads as it did. -/
def weatherFindsUptoRow : OpenClaim := { program := "ythndidjhdijpnaa", sum := "99262d5464758a4166d8263be64590d753253a744c7adaa2512437339e2be281", func := "skiarea/skiarealaw12.WeatherFinds", spec := "weatherFinds", unfollowed := true, recurses := true, plainKeys := false, apart := false, narrowed := true }
def WeatherFindsUptoSaid : Prop := weatherFindsUptoRow.holds Try.pinned (OpenSpec.upto weatherFindsSpec)

/-- 'skiarealaw12.WeatherSnow', WHERE WHAT IT READS IS OF BULK AT MOST 1048576: true; the input reads as it did. -/
def weatherSnowUptoRow : OpenClaim := { program := "ythndidjhdijpnaa", sum := "99262d5464758a4166d8263be64590d753253a744c7adaa2512437339e2be281", func := "skiarea/skiarealaw12.WeatherSnow", spec := "weatherSnow", unfollowed := true, recurses := true, plainKeys := false, apart := false, narrowed := true }
def WeatherSnowUptoSaid : Prop := weatherSnowUptoRow.holds Try.pinned (OpenSpec.upto weatherSnowSpec)

/-- 'skiarealaw12.WeatherWet', WHERE WHAT IT READS IS OF BULK AT MOST 1048576: true; the input reads as it did. -/
def weatherWetUptoRow : OpenClaim := { program := "ythndidjhdijpnaa", sum := "99262d5464758a4166d8263be64590d753253a744c7adaa2512437339e2be281", func := "skiarea/skiarealaw12.WeatherWet", spec := "weatherWet", unfollowed := true, recurses := true, plainKeys := false, apart := false, narrowed := true }
def WeatherWetUptoSaid : Prop := weatherWetUptoRow.holds Try.pinned (OpenSpec.upto weatherWetSpec)

/-- 'skiarealaw12.WeatherAlarms', WHERE WHAT IT READS IS OF BULK AT MOST 1048576: true; the input reads as it did. -/
def weatherAlarmsUptoRow : OpenClaim := { program := "ythndidjhdijpnaa", sum := "99262d5464758a4166d8263be64590d753253a744c7adaa2512437339e2be281", func := "skiarea/skiarealaw12.WeatherAlarms", spec := "weatherAlarms", unfollowed := true, recurses := true, plainKeys := false, apart := false, narrowed := true }
def WeatherAlarmsUptoSaid : Prop := weatherAlarmsUptoRow.holds Try.pinned (OpenSpec.upto weatherAlarmsSpec)

/-- 'skiarealaw12.WeatherHolds', WHERE WHAT IT READS IS OF BULK AT MOST 1048576: true; the input reads as it did. -/
def weatherHoldsUptoRow : OpenClaim := { program := "ythndidjhdijpnaa", sum := "99262d5464758a4166d8263be64590d753253a744c7adaa2512437339e2be281", func := "skiarea/skiarealaw12.WeatherHolds", spec := "weatherHolds", unfollowed := true, recurses := true, plainKeys := false, apart := false, narrowed := true }
def WeatherHoldsUptoSaid : Prop := weatherHoldsUptoRow.holds Try.pinned (OpenSpec.upto weatherHoldsSpec)

/-- 'skiarealaw12.WeatherWetter', WHERE WHAT IT READS IS OF BULK AT MOST 1048576: true; the input reads as it did. -/
def weatherWetterUptoRow : OpenClaim := { program := "ythndidjhdijpnaa", sum := "99262d5464758a4166d8263be64590d753253a744c7adaa2512437339e2be281", func := "skiarea/skiarealaw12.WeatherWetter", spec := "weatherWetter", unfollowed := true, recurses := true, plainKeys := false, apart := false, narrowed := true }
def WeatherWetterUptoSaid : Prop := weatherWetterUptoRow.holds Try.pinned (OpenSpec.upto weatherWetterSpec)

/-- 'skiarealaw12.WeatherAdds', WHERE WHAT IT READS IS OF BULK AT MOST 1048576: true; the input reads as it did. -/
def weatherAddsUptoRow : OpenClaim := { program := "ythndidjhdijpnaa", sum := "99262d5464758a4166d8263be64590d753253a744c7adaa2512437339e2be281", func := "skiarea/skiarealaw12.WeatherAdds", spec := "weatherAdds", unfollowed := true, recurses := true, plainKeys := false, apart := false, narrowed := true }
def WeatherAddsUptoSaid : Prop := weatherAddsUptoRow.holds Try.pinned (OpenSpec.upto weatherAddsSpec)

end Rows
end Go.Proofs.Ythndidjhdijpnaa
