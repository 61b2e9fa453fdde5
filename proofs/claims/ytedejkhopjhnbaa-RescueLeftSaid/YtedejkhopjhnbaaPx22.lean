-- Printed for this claim by a program of the session, out of Lean's own print of the translation.
import Derived.Test.YtedejkhopjhnbaaPx0
import Derived.Test.YtedejkhopjhnbaaPx6
import Derived.Test.YtedejkhopjhnbaaPx16
import Derived.Test.YtedejkhopjhnbaaPx17
import Derived.Test.YtedejkhopjhnbaaPx18
import Derived.Test.YtedejkhopjhnbaaPx19
import Derived.Test.YtedejkhopjhnbaaPx20
namespace Go.Proofs.Ytedejkhopjhnbaa.P
open Go.RowKit Go.Proofs.YtedejkhopjhnbaaW.PrintWords Go.Proofs.YtedejkhopjhnbaaW.PrintLast Go.Proofs.YtedejkhopjhnbaaW.PrintMore
attribute [local go_sem] max2_int min2_int max_two min_two max_three min_three max_four min_four   -- for this text's walks alone
set_option linter.unusedVariables false
set_option linter.unusedSimpArgs false

/-! ### skiarealaw21_alive: function 17 -/
theorem C_block2 {α : Type} (d : Kd α) {W : World} {g e : Nat} {cs : List Value} {ex : Array Value} {xs : List α} (hb : W.heap[g]? = some (.cells (cs.toArray ++ ex) e (0, 0))) (hn : xs.length ≤ 9223372036854775807) (h : Reps (d.K W) d.sz xs cs) : d.C W (some ⟨g, 0, none⟩) xs.length xs := by
  refine ⟨rfl, hn, fun _ => ⟨_, rfl, fun j p hj => ⟨_, ?_, h.2 j p hj, fun i u hu => ?_⟩⟩⟩
  · exact d.K_len (h.2 j p hj)
  · have hlt : i < d.sz := by
      have := d.K_len (h.2 j p hj)
      have h2 := (List.getElem?_eq_some_iff.1 hu).1
      omega
    rw [List.getElem?_take_of_lt hlt, List.getElem?_drop] at hu
    have hlt2 := (List.getElem?_eq_some_iff.1 hu).1
    rw [add_plain]
    refine (blk_cell hb _).trans ?_
    have e0 : 0 + (j * d.sz + i) = j * d.sz + i := Nat.zero_add _
    first
      | (rw [e0, Array.getElem?_append_left (by simpa using hlt2)]; simpa using hu)
      | (rw [Array.getElem?_append_left (by simpa using hlt2)]; simpa using hu)
theorem reps_secs (W : World) (xs : List S33) : Reps (k33.K W) k33.sz xs (xs.flatMap fun x => [.int .i64 x.f0, .int .i64 x.f1, .int .i64 x.f2]) := by
  have hs : k33.sz = 3 := rfl
  rw [hs]
  induction xs with
  | nil => exact ⟨rfl, fun j p h => by simp at h⟩
  | cons x t ih =>
    refine ⟨by have := ih.1; simp at this ⊢; omega, fun j p h => ?_⟩
    cases j with
    | zero =>
      simp at h
      subst h
      simp
      exact k33_mk W x
    | succ j =>
      have := ih.2 j p (by simpa using h)
      rw [Nat.succ_mul]
      simpa using this
theorem reps_jobs (W : World) (xs : List S35) : Reps (k35.K W) k35.sz xs (xs.flatMap fun x => [.int .i64 x.f0, .int .i64 x.f1, .int .i64 x.f2, .int .i64 x.f3]) := by
  have hs : k35.sz = 4 := rfl
  rw [hs]
  induction xs with
  | nil => exact ⟨rfl, fun j p h => by simp at h⟩
  | cons x t ih =>
    refine ⟨by have := ih.1; simp at this ⊢; omega, fun j p h => ?_⟩
    cases j with
    | zero =>
      simp at h
      subst h
      simp
      exact k35_mk W x
    | succ j =>
      have := ih.2 j p (by simpa using h)
      rw [Nat.succ_mul]
      simpa using this
def SL : List S33 := [⟨1, 20, 300⟩, ⟨2, 0, 500⟩, ⟨3, 10, 200⟩, ⟨4, 15, 400⟩, ⟨5, 5, 100⟩]
def SL6 : List S33 := [⟨1, 20, 300⟩, ⟨2, 0, 500⟩, ⟨3, 10, 200⟩, ⟨4, 15, 400⟩, ⟨5, 5, 100⟩, ⟨1, 20, 300⟩]
def JL : List S35 := [⟨1, 1, 0, 300⟩, ⟨1, 3, 300, 500⟩, ⟨2, 4, 0, 400⟩, ⟨2, 5, 400, 500⟩]
theorem plan_1 : ∃ r, rescue_Plan.f SL 2 = some (r, 500, 0) ∧ skiarearef21_Same.f 10 r JL = some true := ⟨JL, by kernel_rfl, by kernel_rfl⟩
theorem plan_of (n : Int) (x : Int × Int) (h : (rescue_Plan.f SL n).map (fun r => r.2) = some x) : ∃ r, rescue_Plan.f SL n = some (r, x.1, x.2) := by
  obtain ⟨r, h1, h2⟩ := Option.map_eq_some_iff.1 h
  exact ⟨r.1, by rw [h1, ← h2]⟩
theorem plan_2 : ∃ r, rescue_Plan.f SL 3 = some (r, 400, 0) := plan_of 3 (400, 0) (by kernel_rfl)
theorem plan_3 : ∃ r, rescue_Plan.f SL 1 = some (r, 1000, 0) := plan_of 1 (1000, 0) (by kernel_rfl)
theorem plan_4 : ∃ r, rescue_Plan.f SL 4 = some (r, 0, 2) := plan_of 4 (0, 2) (by kernel_rfl)
theorem right_1 : rescue_Right.f SL = some 0 := by kernel_rfl
theorem right_2 : rescue_Right.f SL6 = some 7 := by kernel_rfl
theorem valid_1 : rescue_Valid.f SL 2 JL = some true := by kernel_rfl
theorem valid_2 : rescue_Valid.f SL 1 JL = some false := by kernel_rfl
theorem left_1 : rescue_Left.f SL JL 300 = some 30 := by kernel_rfl
theorem left_2 : rescue_Left.f SL JL 400 = some 15 := by kernel_rfl
theorem left_3 : rescue_Left.f SL JL 500 = some 0 := by kernel_rfl
theorem bound_1 : rescue_Bound.f 10 SL 2 = some 500 := by kernel_rfl
theorem bound_2 : rescue_Bound.f 10 SL 3 = some 400 := by kernel_rfl
theorem bound_3 : rescue_Bound.f 10 SL 0 = some 0 := by kernel_rfl
theorem lit_secs (W : World) (xs : List S33) (hn : xs.length ≤ 9223372036854775807) : Kd.C k33 (W.alloc (.cells (xs.flatMap fun x => [.int .i64 x.f0, .int .i64 x.f1, .int .i64 x.f2]).toArray 33)) (some ⟨W.heap.size, 0, none⟩) xs.length xs :=
  C_block _ (blk_new W _) hn (reps_secs _ xs)
theorem lit_jobs (W : World) (xs : List S35) (hn : xs.length ≤ 9223372036854775807) : Kd.C k35 (W.alloc (.cells (xs.flatMap fun x => [.int .i64 x.f0, .int .i64 x.f1, .int .i64 x.f2, .int .i64 x.f3]).toArray 35)) (some ⟨W.heap.size, 0, none⟩) xs.length xs :=
  C_block _ (blk_new W _) hn (reps_jobs _ xs)
theorem sample_exact (w : World) : Calls Try.prog 36 #[] w fun e w' => ∃ b, e = .returned (.slice (some ⟨b, 0, none⟩) 5 5) ∧ Kd.C k33 w' (some ⟨b, 0, none⟩) 5 SL ∧ Below w.heap.size w w' := by
  go_enter Try.func36, Try.ntmps36
  go_wp2
  go_ret
  exact ⟨_, rfl, lit_secs w SL (by decide), below_alloc (Below.refl _ _) _⟩
theorem append_full {ops : Array Oper} {rest : List Oper} {o : Oper} {a : Act} {Q : Exit → Act → World → Prop} {W : World} (hgd : o.guard = none) (s x : Operand) (ho : o.op = .call { callee := .builtin .append, args := #[s, x], argTypes := #[22, 22] }) (b : Nat)
    (hs : a.eval s = .slice (some ⟨b, 0, none⟩) 5 5) (hx : a.eval x = .slice (some ⟨W.heap.size, 0, none⟩) 1 1) (HL : Kd.C k33 W (some ⟨b, 0, none⟩) 5 SL)
    (h : ∀ A1 c1 w1, Kd.C k33 w1 A1 6 SL6 → 6 ≤ c1 → Below W.heap.size W w1 → wpList Try.prog ops Q rest (a.put o.dst (.slice A1 6 c1)) w1) :
    wpList Try.prog ops Q (o :: rest) a (W.alloc (.cells #[.int .i64 1, .int .i64 20, .int .i64 300] 33)) := by
  obtain ⟨i0, hi, hz0, hs0, hb0⟩ := info_parts info33
  have e : ∀ X : Obj, ((W.alloc (.cells #[.int .i64 1, .int .i64 20, .int .i64 300] 33)).drew.alloc X).heap[W.heap.size + 1]? = some X := fun X => by
    have := blk_new (W.alloc (.cells #[.int .i64 1, .int .i64 20, .int .i64 300] 33)).drew X
    simpa using this
  have hbl := blk_new W (.cells #[.int .i64 1, .int .i64 20, .int .i64 300] 33)
  have hr := run_append_grow (P := Try.prog) (W.alloc (.cells #[.int .i64 1, .int .i64 20, .int .i64 300] 33)) 22 o.type 33 i0 _ Try.underlying22 hi hz0 ⟨b, 0, none⟩ 5 5 (SL.flatMap fun x => [.int .i64 x.f0, .int .i64 x.f1, .int .i64 x.f2]) (by rw [hs0]; rfl) (fun j v hj => ?_)
    ⟨W.heap.size, 0, none⟩ 1 1 [.int .i64 1, .int .i64 20, .int .i64 300] (by rw [hs0]; rfl) (fun j v hj => ?_) (by omega) (by omega) (growslice_fits (by omega) (by rw [hb0]; omega))
  · refine wpList_plain hgd fun K hK => ?_
    unfold Oper.wp
    simp [execOp, ho, hs, hx, resolve, invoke, builtin, hr, Result.andThen]
    refine hK _ _ (h _ _ _ ?_ (grownCap_ge _ _ _ _) ?_)
    · exact C_block2 k33 (cs := SL6.flatMap fun x => [.int .i64 x.f0, .int .i64 x.f1, .int .i64 x.f2]) (e _) (by decide) (reps_secs _ SL6)
    · exact below_alloc (below_drew1 (below_alloc (Below.refl _ _) _)) _
  · have hc := Kd.C_alloc HL (.cells #[.int .i64 1, .int .i64 20, .int .i64 300] 33)
    rw [add_plain]
    have hj15 : j < 15 := (List.getElem?_eq_some_iff.1 hj).1
    have f0 := sec_cells hc 0 (by decide)
    have f1 := sec_cells hc 1 (by decide)
    have f2 := sec_cells hc 2 (by decide)
    have f3 := sec_cells hc 3 (by decide)
    have f4 := sec_cells hc 4 (by decide)
    have e0 : ∀ n : Nat, (⟨b, 0 + n, none⟩ : Addr) = ⟨b, n, none⟩ := fun n => by rw [Nat.zero_add]
    first
      | (rw [e0])
      | skip
    match j, hj15, hj with
    | 0, _, hj => obtain rfl : _ = v := Option.some.inj hj; exact f0.1
    | 1, _, hj => obtain rfl : _ = v := Option.some.inj hj; exact f0.2.1
    | 2, _, hj => obtain rfl : _ = v := Option.some.inj hj; exact f0.2.2
    | 3, _, hj => obtain rfl : _ = v := Option.some.inj hj; exact f1.1
    | 4, _, hj => obtain rfl : _ = v := Option.some.inj hj; exact f1.2.1
    | 5, _, hj => obtain rfl : _ = v := Option.some.inj hj; exact f1.2.2
    | 6, _, hj => obtain rfl : _ = v := Option.some.inj hj; exact f2.1
    | 7, _, hj => obtain rfl : _ = v := Option.some.inj hj; exact f2.2.1
    | 8, _, hj => obtain rfl : _ = v := Option.some.inj hj; exact f2.2.2
    | 9, _, hj => obtain rfl : _ = v := Option.some.inj hj; exact f3.1
    | 10, _, hj => obtain rfl : _ = v := Option.some.inj hj; exact f3.2.1
    | 11, _, hj => obtain rfl : _ = v := Option.some.inj hj; exact f3.2.2
    | 12, _, hj => obtain rfl : _ = v := Option.some.inj hj; exact f4.1
    | 13, _, hj => obtain rfl : _ = v := Option.some.inj hj; exact f4.2.1
    | 14, _, hj => obtain rfl : _ = v := Option.some.inj hj; exact f4.2.2
  · rw [add_plain]
    refine (blk_cell hbl _).trans ?_
    first | simpa using hj | (rw [Nat.zero_add]; simpa using hj)
def skiarealaw21_alive.f : Option Bool := some true
set_option maxHeartbeats 8000000 in
set_option maxRecDepth 100000 in
theorem alive_calls (w : World) : Calls Try.prog 17 #[] w fun e w' => e = .returned (.bool true) ∧ Below w.heap.size w w' := by
  have hu33 := Try.underlying33
  have hu22 := Try.underlying22
  have hu35 := Try.underlying35
  have hu23 := Try.underlying23
  obtain ⟨r1, pl1, sm1⟩ := plan_1
  obtain ⟨r2, pl2⟩ := plan_2
  obtain ⟨r3, pl3⟩ := plan_3
  obtain ⟨r4, pl4⟩ := plan_4
  go_enter Try.func17, Try.ntmps17
  go_wp2_with (fail)
  refine (sample_exact _).mono ?_
  rintro e w1 ⟨b, rfl, hC1, hB1⟩
  have HB1 := Aside0.mk hB1
  have HS1 := Aside0.mk hC1
  have HJ1 := Aside0.mk (lit_jobs w1 JL (by decide))
  have HW2 := Aside0.mk (below_alloc (Below.refl w1.heap.size w1) (.cells (JL.flatMap fun x => [.int .i64 x.f0, .int .i64 x.f1, .int .i64 x.f2, .int .i64 x.f3]).toArray 35))
  obtain ⟨w2, hw2⟩ : ∃ w2, w1.alloc (.cells (JL.flatMap fun x => [.int .i64 x.f0, .int .i64 x.f1, .int .i64 x.f2, .int .i64 x.f3]).toArray 35) = w2 := ⟨_, rfl⟩
  rw [hw2] at HJ1 HW2
  have HS : Aside0 (∀ W, Below w2.heap.size w2 W → Kd.C k33 W (some ⟨b, 0, none⟩) 5 SL) := ⟨fun W h => Kd.C_below HS1.out (below_then HW2.out HW2.out.size h)⟩
  have HJ : Aside0 (∀ W, Below w2.heap.size w2 W → Kd.C k35 W (some ⟨w1.heap.size, 0, none⟩) 4 JL) := ⟨fun W h => Kd.C_below HJ1.out h⟩
  have HBB : Aside0 (∀ W, Below w2.heap.size w2 W → Below w.heap.size w W) := ⟨fun W h => below_then HB1.out HB1.out.size (below_then HW2.out HW2.out.size h)⟩
  have PL : Aside0 (∀ (n : Int) (r : List S35) (m f : Int), rescue_Plan.f SL n = some (r, m, f) → ∀ W, Below w2.heap.size w2 W → Calls Try.prog 13 #[.slice (some ⟨b, 0, none⟩) 5 5, .int .i64 n] W fun e w' => ∃ v0_ : Value, e = .returned (.tuple #[v0_, .int .i64 m, .int .i64 f]) ∧ Kd.R k35 35 w' W.heap.size (fun _ => True) v0_ r ∧ Below W.heap.size W w') := ⟨fun n r m f h W hW => rescue_Plan.calls (some ⟨b, 0, none⟩) 5 SL n r m f W (HS.out W hW) (by decide) h⟩
  have VL : Aside0 (∀ (n : Int) (r : Bool), rescue_Valid.f SL n JL = some r → ∀ W, Below w2.heap.size w2 W → Calls Try.prog 14 #[.slice (some ⟨b, 0, none⟩) 5 5, .int .i64 n, .slice (some ⟨w1.heap.size, 0, none⟩) 4 4] W fun e w' => e = .returned (.bool r) ∧ Below w2.heap.size w2 w') := ⟨fun n r h W hW =>
    (rescue_Valid.calls (some ⟨b, 0, none⟩) 5 SL n (some ⟨w1.heap.size, 0, none⟩) 4 JL r W (HS.out W hW) (by decide) (HJ.out W hW) (by decide) h).mono fun e w' ⟨he, hb⟩ => ⟨he, below_then hW hW.size hb⟩⟩
  have LF : Aside0 (∀ (n r : Int), rescue_Left.f SL JL n = some r → ∀ W, Below w2.heap.size w2 W → Calls Try.prog 15 #[.slice (some ⟨b, 0, none⟩) 5 5, .slice (some ⟨w1.heap.size, 0, none⟩) 4 4, .int .i64 n] W fun e w' => e = .returned (.int .i64 r) ∧ Below w2.heap.size w2 w') := ⟨fun n r h W hW =>
    (rescue_Left.calls (some ⟨b, 0, none⟩) 5 SL (some ⟨w1.heap.size, 0, none⟩) 4 JL n r W (HS.out W hW) (by decide) (HJ.out W hW) (by decide) h).mono fun e w' ⟨he, hb⟩ => ⟨he, below_then hW hW.size hb⟩⟩
  have BD : Aside0 (∀ (n r : Int), rescue_Bound.f 10 SL n = some r → ∀ W, Below w2.heap.size w2 W → Calls Try.prog 16 #[.slice (some ⟨b, 0, none⟩) 5 5, .int .i64 n] W fun e w' => e = .returned (.int .i64 r) ∧ Below w2.heap.size w2 w') := ⟨fun n r h W hW =>
    (rescue_Bound.calls 10 (some ⟨b, 0, none⟩) 5 SL n r W (HS.out W hW) (by decide) h).mono fun e w' ⟨he, hb⟩ => ⟨he, below_then hW hW.size hb⟩⟩
  have hnn : w1.alloc (.cells #[.int .i64 1, .int .i64 1, .int .i64 0, .int .i64 300, .int .i64 1, .int .i64 3, .int .i64 300, .int .i64 500, .int .i64 2, .int .i64 4, .int .i64 0, .int .i64 400, .int .i64 2, .int .i64 5, .int .i64 400, .int .i64 500] 35) = w2 := hw2
  clear hC1 hB1 HS1 HJ1 HW2 HB1 hw2
  go_wp2_with (fail)
  try rw [hnn]
  clear hnn
  refine (PL.out _ _ _ _ pl1 _ (Below.refl _ _)).mono ?_
  rintro e x1 ⟨v1, rfl, hR1, hb1⟩
  obtain ⟨A1, c1, rfl, hc1, hC1⟩ := Kd.R_reads hR1
  have HX1 := Aside0.mk hb1
  have HP1 : Aside0 (∀ W, Below x1.heap.size x1 W → Kd.C k35 W A1 r1.length r1) := ⟨fun W h => Kd.C_below hC1 h⟩
  have HC1 := Aside0.mk hc1
  clear hR1 hb1 hc1 hC1
  go_wp2_with (fail)
  refine (PL.out _ _ _ _ pl2 _ HX1.out).mono ?_
  rintro e x2 ⟨v2, rfl, hR2, hb2⟩
  have HX2 := Aside0.mk (below_then HX1.out HX1.out.size hb2)
  have HY2 := Aside0.mk hb2
  clear hR2 hb2
  go_wp2_with (fail)
  refine (PL.out _ _ _ _ pl3 _ HX2.out).mono ?_
  rintro e x3 ⟨v3, rfl, hR3, hb3⟩
  have HX3 := Aside0.mk (below_then HX2.out HX2.out.size hb3)
  have HY3 := Aside0.mk (below_then HY2.out HY2.out.size hb3)
  clear hR3 hb3
  go_wp2_with (fail)
  refine (PL.out _ _ _ _ pl4 _ HX3.out).mono ?_
  rintro e x4 ⟨v4, rfl, hR4, hb4⟩
  have HX4 := Aside0.mk (below_then HX3.out HX3.out.size hb4)
  have HY4 := Aside0.mk (below_then HY3.out HY3.out.size hb4)
  clear hR4 hb4 HX1 HX2 HX3 HY2 HY3
  go_wp2_with (fail)
  refine (skiarearef21_Same.calls 10 A1 c1 r1 (some ⟨w1.heap.size, 0, none⟩) 4 JL true _ (HP1.out _ HY4.out) HC1.out (HJ.out _ HX4.out) (by decide) sm1).mono ?_
  rintro e x5 ⟨rfl, hb5⟩
  have HX5 := Aside0.mk (below_then HX4.out HX4.out.size hb5.below)
  clear hb5 HX4 HY4 HP1 HC1
  go_wp2_with (fail)
  refine (rescue_Right.calls (some ⟨b, 0, none⟩) 5 SL 0 _ (HS.out _ HX5.out) (by decide) right_1).mono ?_
  rintro e x6 ⟨rfl, hb6⟩
  have HX6 := Aside0.mk (below_then HX5.out HX5.out.size hb6)
  clear hb6 HX5
  obtain ⟨g0, g1, g2⟩ := sec_cells (HS.out _ HX6.out) 0 (by decide)
  have g0' : x6.cell? ⟨b, 0, none⟩ = some (.int .i64 1) := g0
  have g1' : x6.cell? ⟨b, 1, none⟩ = some (.int .i64 20) := g1
  have g2' : x6.cell? ⟨b, 2, none⟩ = some (.int .i64 300) := g2
  clear g0 g1 g2
  go_wp2_with ((with_reducible refine gate_builtin (b := .append) (xs := #[.tmp 83, .tmp 87]) rfl ?_); (try (refine gate_guard (by rfl) ?_; dsimp only)); at_builtin; refine append_full rfl (.tmp 83) (.tmp 87) rfl b rfl rfl (HS.out _ HX6.out) ?_; intro A7 c7 x7 hC7 hc7 hb7; have HX7 := Aside0.mk (below_then HX6.out HX6.out.size hb7); have HC7 := Aside0.mk hC7; have HD7 := Aside0.mk hc7; clear hC7 hc7 hb7 g0' g1' g2' HX6)
  refine (rescue_Right.calls A7 c7 SL6 7 _ HC7.out HD7.out right_2).mono ?_
  rintro e x8 ⟨rfl, hb8⟩
  have HX8 := Aside0.mk (below_then HX7.out HX7.out.size hb8)
  clear hb8 HX7 HC7 HD7
  go_wp2_with (fail)
  refine (VL.out _ _ valid_1 _ HX8.out).mono ?_
  rintro e x9 ⟨rfl, hb⟩
  have HX9 := Aside0.mk hb
  clear hb HX8
  go_wp2_with (fail)
  refine (VL.out _ _ valid_2 _ HX9.out).mono ?_
  rintro e x10 ⟨rfl, hb⟩
  have HX10 := Aside0.mk hb
  clear hb HX9
  go_wp2_with (fail)
  refine (LF.out _ _ left_1 _ HX10.out).mono ?_
  rintro e x11 ⟨rfl, hb⟩
  have HX11 := Aside0.mk hb
  clear hb HX10
  go_wp2_with (fail)
  refine (LF.out _ _ left_2 _ HX11.out).mono ?_
  rintro e x12 ⟨rfl, hb⟩
  have HX12 := Aside0.mk hb
  clear hb HX11
  go_wp2_with (fail)
  refine (LF.out _ _ left_3 _ HX12.out).mono ?_
  rintro e x13 ⟨rfl, hb⟩
  have HX13 := Aside0.mk hb
  clear hb HX12
  go_wp2_with (fail)
  refine (BD.out _ _ bound_1 _ HX13.out).mono ?_
  rintro e x14 ⟨rfl, hb⟩
  have HX14 := Aside0.mk hb
  clear hb HX13
  go_wp2_with (fail)
  refine (BD.out _ _ bound_2 _ HX14.out).mono ?_
  rintro e x15 ⟨rfl, hb⟩
  have HX15 := Aside0.mk hb
  clear hb HX14
  go_wp2_with (fail)
  refine (BD.out _ _ bound_3 _ HX15.out).mono ?_
  rintro e x16 ⟨rfl, hb⟩
  have HX16 := Aside0.mk hb
  clear hb HX15
  go_wp2_with (fail)
  go_ret
  exact ⟨rfl, HBB.out _ HX16.out⟩
theorem skiarealaw21_alive.calls (r : Bool) (w : World) (h : skiarealaw21_alive.f = some r) :
    Calls Try.prog 17 #[] w fun e w' => e = .returned (.bool r) ∧ Below w.heap.size w w' := by
  obtain rfl := Option.some.inj h
  exact alive_calls w

end Go.Proofs.Ytedejkhopjhnbaa.P
