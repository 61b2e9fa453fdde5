/- The law RescueLeft: for every input the Go function returns true, and each argument reads afterwards as it read before. No condition. -/
import Derived.Test.YtedejkhopjhnbaaRows
import Derived.Test.YtedejkhopjhnbaaLeft9
import Derived.Test.YtedejkhopjhnbaaPureRescueLeft
import Derived.Test.YtedejkhopjhnbaaOpen
import Derived.WalkKit
import Derived.ProofKit
import Derived.OpenShut
import Derived.ChangeOld
import Derived.Below
import Derived.SizedLaws
namespace Go.Proofs.Ytedejkhopjhnbaa.rescueLeft
open Go.ChangeShapes Go.WideShapes Go.ChangeAt Go.RowKit Go.Proofs.Ytedejkhopjhnbaa.Open
set_option linter.unusedVariables false
set_option linter.unusedSimpArgs false

theorem own : ownKnob Try.prog.godebug = none := by kernel_rfl
theorem laidOut : laidOutB Try.prog = true := by kernel_rfl
theorem cells_41 (cs : Array Value) (h : cs.size = 2) : ∃ c0 c1, cs = #[c0, c1] := by
  obtain ⟨l⟩ := cs
  match l, h with
  | [c0, c1], _ => exact ⟨c0, c1, rfl⟩
theorem arr_41 {H : Type} {enc : TypeId × Value → H} {w : World} {base : Nat} {spare : Nat → Bool} {held : Bool} {n : Nat} {cs : Array Value} {y : DataW H × List MemPlace} (hs : cs.size = 2) (h : DataW.trod enc Try.prog w base spare held n 41 (Value.agg cs).cells.toList = some y) :
    ∃ a0 a1 : Int, cs = #[.int .i64 a0, .int .i64 a1] ∧ (Lit.int .i64 a0).wf = true ∧ (Lit.int .i64 a1).wf = true := by
  obtain ⟨c0, c1, rfl⟩ := cells_41 cs hs
  obtain ⟨ys, m, _, _, _, hy, ha⟩ := DataW.trod_array Try.underlying41 h
  have hc : Try.prog.cellsOf 3 = 1 := by kernel_rfl
  have hb0 := ha 0 (by omega)
  obtain ⟨y0, hy0⟩ : ∃ y, ys[0]? = some y := ⟨ys[0]'(by omega), List.getElem?_eq_getElem (by omega)⟩
  rw [hy0, hc] at hb0
  simp [Value.cells] at hb0
  obtain ⟨a0, e0, _, w0⟩ := DataW.trod_int Try.underlying3 hb0
  have hb1 := ha 1 (by omega)
  obtain ⟨y1, hy1⟩ : ∃ y, ys[1]? = some y := ⟨ys[1]'(by omega), List.getElem?_eq_getElem (by omega)⟩
  rw [hy1, hc] at hb1
  simp [Value.cells] at hb1
  obtain ⟨a1, e1, _, w1⟩ := DataW.trod_int Try.underlying3 hb1
  simp at e0 e1
  subst e0 e1
  exact ⟨a0, a1, rfl, w0, w1⟩
set_option maxRecDepth 100000 in
set_option maxHeartbeats 1000000 in
theorem lifted (os : Os) (started : os.Started) (H : Type) (enc : TypeId × Value → H) :
    ReturnsInHanded {} Try.checked os 9 .any (Rows.rescueLeftSpec.pre6 enc Try.prog Try.f9 Rows.rescueLeftRow.domain false) (Rows.rescueLeftSpec.post enc Try.prog Try.f9 false true false false) := by
  refine returnsInHanded_of_change_sized (C := Try.checked) own started (by kernel_rfl) Try.func9
    (ChangeSpec.witness6 (enc := enc) (C := Try.checked) false ⟨#[], #[.slice none 0 0, .int .i64 0, .agg #[.int .i64 0, .int .i64 0]], []⟩ 8 (by kernel_rfl) (by kernel_rfl) (by kernel_rfl) (by kernel_rfl)) ?_
  intro W base args ds gs before hval0 hW hcnd hsz0 _
  have hval : ∀ (j : Nat) t v, Try.f9.params[j]? = some t → args[j]? = some v → Value.okWide Try.prog W .any base t v := hval0
  have hW' := hW
  obtain ⟨p, q, hA0, hV, rfl, hfz, hnd⟩ := hW
  have hA : DataW.TrodAll enc Try.prog W 0 (fun _ => true) true Try.f9.params.toList args.toList ds p := hA0
  rw [Try.params9] at hA hval
  obtain ⟨v0, vs0, d0, ds0, p0, q0, hargs, rfl, rfl, h0, r0⟩ := trodAll_cons hA
  obtain ⟨v1, vs1, d1, ds1, p1, q1, rfl, rfl, rfl, h1, r1⟩ := trodAll_cons r0
  obtain ⟨v2, vs2, d2, ds2, p2, q2, rfl, rfl, rfl, h2, r2⟩ := trodAll_cons r1
  obtain ⟨rfl, rfl, rfl⟩ := trodAll_nil r2
  obtain rfl : args = #[v0, v1, v2] := by cases args; simp_all
  obtain ⟨rfl, rfl⟩ := trodVars_none hV
  have k0 := h0
  have lt0 : ∀ x ∈ p0, x.block < W.heap.size := by obtain ⟨m, hm⟩ := k0; exact DataW.trod_lt m _ _ _ hm
  obtain ⟨a0, len0, cap0, rfl⟩ := okWide_slice Try.underlying22 (hval 0 22 v0 rfl rfl)
  obtain ⟨fuel0, hf0⟩ := h0
  obtain ⟨l0, e0, hc0, hz0, hr0⟩ := open_rows (sz := 3) Try.underlying22 (by kernel_rfl) el33 hf0
  subst e0
  obtain ⟨a1, rfl, rfl, rfl, w1⟩ := open_int Try.underlying3 (hval 1 3 v1 rfl rfl) h1
  have k2 := h2
  have lt2 : ∀ x ∈ p2, x.block < W.heap.size := by obtain ⟨m, hm⟩ := k2; exact DataW.trod_lt m _ _ _ hm
  obtain ⟨cs2, rfl, hs2⟩ : ∃ cs, v2 = .agg cs ∧ cs.size = Try.prog.cellsOf 41 := by
    have h := (hval 2 41 v2 rfl rfl)
    simp only [Value.okWide, Try.underlying41] at h
    obtain ⟨cs, h1, h2, _⟩ := h
    exact ⟨cs, h1, h2⟩
  rw [show Try.prog.cellsOf 41 = 2 from by kernel_rfl] at hs2
  obtain ⟨fuel2, hf2⟩ := h2
  obtain ⟨x2_0, x2_1, rfl, wx2_0, wx2_1⟩ := arr_41 hs2 hf2
  clear hA0 hval0 hsz0
  have hk := Pure.RescueLeft l0 hz0 a1 (is_i64_of w1) x2_0 (is_i64_of wx2_0) x2_1 (is_i64_of wx2_1)
  refine (P.skiarealaw21_RescueLeft.calls _ _ l0 a1 x2_0 x2_1 true W hr0 hc0 hk).mono fun e W' ⟨he, bel⟩ => ?_
  subst he
  exact ⟨_, rfl, _, _, _, [], _, [], hW', trodAll_mk1 (shut_bool Try.underlying4 _), (trodAll_cons_mk (Below.trod laidOut (by kernel_rfl) (of_decide_eq_true (by kernel_rfl)) k0 bel lt0) (trodAll_cons_mk (shut_int Try.underlying3 w1) (trodAll_cons_mk (Below.trod laidOut (by kernel_rfl) (of_decide_eq_true (by kernel_rfl)) k2 bel lt2) trodAll_mk0))), rfl, bel.frame _, fun h => by cases h⟩
theorem over : Rows.rescueLeftRow.holds Try.pinned (OpenSpec.ofChange Rows.rescueLeftSpec) :=
  OpenClaim.holds_of_wide 9 Try.f9 rfl rfl rfl rfl rfl rfl rfl ⟨rfl, rfl, rfl, rfl, rfl⟩ rfl rfl rfl rfl rfl (by kernel_rfl) Try.func9 (by kernel_rfl)
    (of_decide_eq_true (by kernel_rfl)) (by unfold Func.isWrapper; first | (rw [if_pos (by decide +kernel)]; kernel_rfl) | (rw [if_neg (by decide +kernel)]; exact ⟨rfl, rfl⟩))
    (fun os started H enc _ => lifted os started H enc)
theorem proved : Rows.RescueLeftSaid := over
#print axioms proved
end Go.Proofs.Ytedejkhopjhnbaa.rescueLeft
namespace Go.Proofs.Ytedejkhopjhnbaa
/-- The law RescueLeft holds of the program, for every input. -/
theorem rescueLeft_holds : Rows.RescueLeftSaid := rescueLeft.proved
end Go.Proofs.Ytedejkhopjhnbaa
