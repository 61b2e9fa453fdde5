-- Printed for this claim by a program of the session, out of Lean's own print of the translation.
import Derived.Test.YtfmafpplnpiahaaPx0
import Derived.Test.YtfmafpplnpiahaaPx2
import Derived.Test.YtfmafpplnpiahaaPx3
import Derived.Test.YtfmafpplnpiahaaPx5
import Derived.Test.YtfmafpplnpiahaaPx6
import Derived.Test.YtfmafpplnpiahaaPx7
import Derived.Test.YtfmafpplnpiahaaPx8
namespace Go.Proofs.Ytfmafpplnpiahaa.P
open Go.RowKit Go.Proofs.YtfmafpplnpiahaaW.PrintWords Go.Proofs.YtfmafpplnpiahaaW.PrintLast Go.Proofs.YtfmafpplnpiahaaW.PrintMore
attribute [local go_sem] max2_int min2_int max_two min_two max_three min_three max_four min_four   -- for this text's walks alone
set_option linter.unusedVariables false
set_option linter.unusedSimpArgs false

/-! ### skiarealaw40_alive: function 10 -/
theorem C_block {α : Type} (d : Kd α) {W : World} {g e : Nat} {cs : List Value} {xs : List α} (hb : W.heap[g]? = some (.cells cs.toArray e (0, 0))) (hn : xs.length ≤ 9223372036854775807) (h : Reps (d.K W) d.sz xs cs) : d.C W (some ⟨g, 0, none⟩) xs.length xs := by
  refine ⟨rfl, hn, fun _ => ⟨_, rfl, fun j p hj => ⟨_, ?_, h.2 j p hj, fun i u hu => ?_⟩⟩⟩
  · exact d.K_len (h.2 j p hj)
  · have hlt : i < d.sz := by
      have := d.K_len (h.2 j p hj)
      have h2 := (List.getElem?_eq_some_iff.1 hu).1
      omega
    rw [List.getElem?_take_of_lt hlt, List.getElem?_drop] at hu
    rw [add_plain]
    exact (blk_cell hb _).trans (by simpa using hu)
theorem reps_int (W : World) (xs : List Int) : Reps ((Kd.int .i64).K W) (Kd.int .i64).sz xs (xs.map (Value.int .i64)) := by
  refine ⟨by simp [Kd.int, Kd.scalar], fun j p h => ?_⟩
  show ((xs.map (Value.int .i64)).drop (j * 1)).take 1 = [Value.int .i64 p]
  have hj := (List.getElem?_eq_some_iff.1 h).1
  rw [Nat.mul_one, List.drop_eq_getElem_cons (by simpa using hj)]
  simp [(List.getElem?_eq_some_iff.1 h).2]
theorem lit_ints (W : World) (xs : List Int) (hn : xs.length ≤ 9223372036854775807) : Kd.C (Kd.int .i64) (W.alloc (.cells (xs.map (Value.int .i64)).toArray 3)) (some ⟨W.heap.size, 0, none⟩) xs.length xs :=
  C_block _ (blk_new W _) hn (reps_int _ xs)
theorem reps_draws (W : World) (xs : List S42) : Reps (k42.K W) k42.sz xs (xs.flatMap fun x => [.int .i64 x.f0, .int .i64 x.f1]) := by
  have hs : k42.sz = 2 := rfl
  rw [hs]
  induction xs with
  | nil => exact ⟨rfl, fun j p h => by simp at h⟩
  | cons x t ih =>
    refine ⟨by have := ih.1; simp at this ⊢; omega, fun j p h => ?_⟩
    cases j with
    | zero =>
      simp at h
      subst h
      simp
      exact k42_mk W x
    | succ j =>
      have := ih.2 j p (by simpa using h)
      rw [Nat.succ_mul]
      simpa using this
theorem lit_draws (W : World) (xs : List S42) (hn : xs.length ≤ 9223372036854775807) : Kd.C k42 (W.alloc (.cells (xs.flatMap fun x => [.int .i64 x.f0, .int .i64 x.f1]).toArray 42)) (some ⟨W.heap.size, 0, none⟩) xs.length xs :=
  C_block _ (blk_new W _) hn (reps_draws _ xs)
def L3 : List S45 := [⟨1, 0, 10, 500, 100⟩, ⟨2, 10, 20, 1000, 200⟩, ⟨3, 10, 30, 0, (-50)⟩]
def D2 : List S42 := [⟨20, 300⟩, ⟨30, 101⟩]
def N3 : List S42 := [⟨20, 4201⟩, ⟨30, 4750⟩, ⟨40, 1⟩]
theorem press_10 : pipe_Pressure.f 10 L3 D2 5000 10 = some (4700, true) := by kernel_rfl
theorem press_20 : pipe_Pressure.f 10 L3 D2 5000 20 = some (4200, true) := by kernel_rfl
theorem press_30 : pipe_Pressure.f 10 L3 D2 5000 30 = some (4750, true) := by kernel_rfl
theorem press_0 : pipe_Pressure.f 10 L3 D2 5000 0 = some (5000, true) := by kernel_rfl
theorem press_40 : pipe_Pressure.f 10 L3 D2 5000 40 = some (0, false) := by kernel_rfl
theorem path_20 : pipe_Path.f 10 L3 20 = some ([1, 2], true) := by kernel_rfl
theorem right_3 : pipe_Right.f L3 = some 0 := by kernel_rfl
theorem flows_3 : pipe_Flows.f 10 L3 D2 = some [401, 300, 101] := by kernel_rfl
theorem low_3 : pipe_Low.f 10 L3 D2 5000 N3 = some [20, 40] := by kernel_rfl
theorem same_1 : skiarearef40_Same.f 10 [401, 300, 101] [401, 300, 101] = some true := by kernel_rfl
theorem same_2 : skiarearef40_Same.f 10 [20, 40] [20, 40] = some true := by kernel_rfl
theorem same_3 : skiarearef40_Same.f 10 [1, 2] [1, 2] = some true := by kernel_rfl

def skiarealaw40_alive.f : Option Bool := some true
set_option maxHeartbeats 8000000 in
set_option maxRecDepth 100000 in
theorem alive_calls (w : World) : Calls Try.prog 10 #[] w fun e w' => e = .returned (.bool true) ∧ Below w.heap.size w w' := by
  have hu42 := Try.underlying42
  go_enter Try.func10, Try.ntmps10
  go_wp2_with (fail)
  refine (skiarealaw40_three.calls L3 _ rfl).mono ?_
  rintro e w1 ⟨v1, rfl, hR1, hB1⟩
  obtain ⟨A1, c1, rfl, hc1, hC1⟩ := Kd.R_reads hR1
  have HB1 := Aside0.mk hB1
  have HC1 := Aside0.mk hc1
  have HL1 : Aside0 (∀ W, Below w1.heap.size w1 W → Kd.C k45 W A1 L3.length L3) := ⟨fun W h => Kd.C_below hC1 h⟩
  clear hR1 hB1 hC1 hc1
  go_wp2_with (fail)
  refine (skiarealaw40_two.calls D2 _ rfl).mono ?_
  rintro e w2 ⟨v2, rfl, hR2, hB2⟩
  obtain ⟨A2, c2, rfl, hc2, hC2⟩ := Kd.R_reads hR2
  have HB2 := Aside0.mk (below_then HB1.out HB1.out.size hB2)
  have HC2 := Aside0.mk hc2
  have HL : Aside0 (∀ W, Below w2.heap.size w2 W → Kd.C k45 W A1 L3.length L3) := ⟨fun W h => HL1.out W (below_then hB2 hB2.size h)⟩
  have HD : Aside0 (∀ W, Below w2.heap.size w2 W → Kd.C k42 W A2 D2.length D2) := ⟨fun W h => Kd.C_below hC2 h⟩
  clear hR2 hB2 hC2 hc2 HL1 HB1
  have HP : Aside0 (∀ (nd r1 : Int) (r2 : Bool), pipe_Pressure.f 10 L3 D2 5000 nd = some (r1, r2) → ∀ W, Below w2.heap.size w2 W → Calls Try.prog 17 #[.slice A1 L3.length c1, .slice A2 D2.length c2, .int .i64 5000, .int .i64 nd] W fun e w' => e = .returned (.tuple #[.int .i64 r1, .bool r2]) ∧ Below w2.heap.size w2 w') := ⟨fun nd r1 r2 h W hW =>
    (pipe_Pressure.calls 10 A1 c1 L3 A2 c2 D2 5000 nd r1 r2 W (HL.out W hW) HC1.out (HD.out W hW) HC2.out h).mono fun e w' ⟨he, hb⟩ => ⟨he, below_then hW hW.size hb⟩⟩
  go_wp2_with (fail)
  refine (HP.out _ _ _ press_10 _ (Below.refl _ _)).mono ?_
  rintro e x0 ⟨rfl, hb0⟩
  have HW0 := Aside0.mk hb0
  clear hb0
  go_wp2_with (fail)
  refine (HP.out _ _ _ press_20 _ HW0.out).mono ?_
  rintro e x1 ⟨rfl, hb1⟩
  have HW1 := Aside0.mk hb1
  clear hb1
  go_wp2_with (fail)
  refine (HP.out _ _ _ press_30 _ HW1.out).mono ?_
  rintro e x2 ⟨rfl, hb2⟩
  have HW2 := Aside0.mk hb2
  clear hb2
  go_wp2_with (fail)
  refine (HP.out _ _ _ press_0 _ HW2.out).mono ?_
  rintro e x3 ⟨rfl, hb3⟩
  have HW3 := Aside0.mk hb3
  clear hb3
  go_wp2_with (fail)
  refine (HP.out _ _ _ press_40 _ HW3.out).mono ?_
  rintro e x4 ⟨rfl, hb4⟩
  have HW4 := Aside0.mk hb4
  clear hb4
  go_wp2_with (fail)
  refine (pipe_Path.calls 10 A1 c1 L3 20 [1, 2] true _ (HL.out _ HW4.out) HC1.out path_20).mono ?_
  rintro e x5 ⟨v5, rfl, hR5, hb5⟩
  obtain ⟨A5, c5, rfl, hc5, hC5⟩ := Kd.R_reads hR5
  have HC5 := Aside0.mk hc5
  have H5 : Aside0 (∀ W, Below x5.heap.size x5 W → Kd.C (Kd.int .i64) W A5 [1, 2].length [1, 2]) := ⟨fun W h => Kd.C_below hC5 h⟩
  have HW5 := Aside0.mk (below_then HW4.out HW4.out.size hb5)
  clear hR5 hb5 hc5 hC5
  go_wp2_with (fail)
  refine (pipe_Right.calls A1 c1 L3 0 _ (HL.out _ HW5.out) HC1.out right_3).mono ?_
  rintro e x6 ⟨rfl, hb6⟩
  have HX6 := Aside0.mk hb6
  have HW6 := Aside0.mk (below_then HW5.out HW5.out.size hb6)
  clear hb6
  go_wp2_with (fail)
  refine (pipe_Flows.calls 10 A1 c1 L3 A2 c2 D2 [401, 300, 101] _ (HL.out _ HW6.out) HC1.out (HD.out _ HW6.out) HC2.out flows_3).mono ?_
  rintro e x7 ⟨v7, rfl, hR7, hb7⟩
  obtain ⟨A7, c7, rfl, hc7, hC7⟩ := Kd.R_reads hR7
  have HC7 := Aside0.mk hc7
  have HR7 := Aside0.mk hC7
  have HX7 := Aside0.mk (below_then HX6.out HX6.out.size hb7)
  have HW7 := Aside0.mk (below_then HW6.out HW6.out.size hb7)
  clear hb7 hc7 hC7 hR7 HX6 HW6
  go_wp2_with (fail)
  refine (skiarearef40_Same.calls 10 A7 c7 [401, 300, 101] (some ⟨x7.heap.size, 0, none⟩) 3 [401, 300, 101] true _ (Kd.C_alloc HR7.out _) HC7.out (lit_ints x7 [401, 300, 101] (by decide)) (by decide) same_1).mono ?_
  rintro e x8 ⟨rfl, hb8⟩
  have HX8 := Aside0.mk (below_then (below_alloc HX7.out _) (below_alloc HX7.out _).size hb8.below)
  have HW8 := Aside0.mk (below_then (below_alloc HW7.out _) (below_alloc HW7.out _).size hb8.below)
  clear hb8 HX7 HW7 HR7
  go_wp2_with (fail)
  refine (pipe_Low.calls 10 A1 c1 L3 A2 c2 D2 5000 (some ⟨x8.heap.size, 0, none⟩) 3 N3 [20, 40] _ (HL.out _ (below_alloc HW8.out _)) HC1.out (HD.out _ (below_alloc HW8.out _)) HC2.out (lit_draws x8 N3 (by decide)) (by decide) low_3).mono ?_
  rintro e x9 ⟨v9, rfl, hR9, hb9⟩
  obtain ⟨A9, c9, rfl, hc9, hC9⟩ := Kd.R_reads hR9
  have HC9 := Aside0.mk hc9
  have HR9 := Aside0.mk hC9
  have HX9 := Aside0.mk (below_then (below_alloc HX8.out _) (below_alloc HX8.out _).size hb9)
  have HW9 := Aside0.mk (below_then (below_alloc HW8.out _) (below_alloc HW8.out _).size hb9)
  clear hb9 hc9 hC9 hR9 HX8 HW8
  go_wp2_with (fail)
  refine (skiarearef40_Same.calls 10 A9 c9 [20, 40] (some ⟨x9.heap.size, 0, none⟩) 2 [20, 40] true _ (Kd.C_alloc HR9.out _) HC9.out (lit_ints x9 [20, 40] (by decide)) (by decide) same_2).mono ?_
  rintro e x10 ⟨rfl, hb10⟩
  have HX10 := Aside0.mk (below_then (below_alloc HX9.out _) (below_alloc HX9.out _).size hb10.below)
  have HW10 := Aside0.mk (below_then (below_alloc HW9.out _) (below_alloc HW9.out _).size hb10.below)
  clear hb10 HX9 HW9 HR9
  go_wp2_with (fail)
  refine (skiarearef40_Same.calls 10 A5 c5 [1, 2] (some ⟨x10.heap.size, 0, none⟩) 2 [1, 2] true _ (H5.out _ (below_alloc HX10.out _)) HC5.out (lit_ints x10 [1, 2] (by decide)) (by decide) same_3).mono ?_
  rintro e x11 ⟨rfl, hb11⟩
  have HW11 := Aside0.mk (below_then (below_alloc HW10.out _) (below_alloc HW10.out _).size hb11.below)
  clear hb11
  go_wp2
  go_ret
  exact ⟨rfl, below_then HB2.out HB2.out.size HW11.out⟩
theorem skiarealaw40_alive.calls (r : Bool) (w : World) (h : skiarealaw40_alive.f = some r) :
    Calls Try.prog 10 #[] w fun e w' => e = .returned (.bool r) ∧ Below w.heap.size w w' := by
  obtain rfl := Option.some.inj h
  exact alive_calls w

end Go.Proofs.Ytfmafpplnpiahaa.P
