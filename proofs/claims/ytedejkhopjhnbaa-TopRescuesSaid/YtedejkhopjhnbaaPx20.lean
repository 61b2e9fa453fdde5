-- Printed for this claim by a program of the session, out of Lean's own print of the translation.
import Derived.Test.YtedejkhopjhnbaaPx0
import Derived.Test.YtedejkhopjhnbaaPx2
namespace Go.Proofs.Ytedejkhopjhnbaa.P
open Go.RowKit Go.Proofs.YtedejkhopjhnbaaW.PrintWords Go.Proofs.YtedejkhopjhnbaaW.PrintLast Go.Proofs.YtedejkhopjhnbaaW.PrintMore
attribute [local go_sem] max2_int min2_int max_two min_two max_three min_three max_four min_four   -- for this text's walks alone
set_option linter.unusedVariables false
set_option linter.unusedSimpArgs false

/-! ### rescue_Left: function 15 -/
def doneP (s t : Int) (x : S35) : Bool := x.f1 == s && decide (x.f3 ≤ t)
set_option maxHeartbeats 2000000 in
theorem done_lit (B1 B2 : Nat) (s t : Int) (W : World) (x : S35) (h1 : W.cell? ⟨B1, 0, none⟩ = some (.int .i64 s)) (h2 : W.cell? ⟨B2, 0, none⟩ = some (.int .i64 t)) :
    Calls Try.prog 35 (#[encP35 x] ++ #[.pointer (some ⟨B1, 0, none⟩), .pointer (some ⟨B2, 0, none⟩)]) W fun e w' => e = .returned (.bool (doneP s t x)) ∧ Below W.heap.size W w' := by
  have hu35 := Try.underlying35
  have hu33 := Try.underlying33
  have hB1 : B1 < W.heap.size := World.block_lt_of_cell? W _ h1
  have hB2 : B2 < W.heap.size := World.block_lt_of_cell? W _ h2
  unfold encP35
  cases b1 : (x.f1 == s) with
  | false =>
    have e : Aside0 (doneP s t x = false) := ⟨by simp [doneP, b1]⟩
    go_enter Try.func35, Try.ntmps35
    go_wp2
    go_ret
    exact ⟨by rw [e.out]; rfl, (Below.refl _ _).alloc (Nat.le_refl _) _⟩
  | true =>
    by_cases b2 : x.f3 ≤ t
    · have e : Aside0 (doneP s t x = true) := ⟨by simp [doneP, b1, b2]⟩
      go_enter Try.func35, Try.ntmps35
      go_wp2
      go_ret
      exact ⟨by rw [e.out]; rfl, (Below.refl _ _).alloc (Nat.le_refl _) _⟩
    · have e : Aside0 (doneP s t x = false) := ⟨by simp [doneP, b2]⟩
      go_enter Try.func35, Try.ntmps35
      go_wp2
      go_ret
      exact ⟨by rw [e.out]; rfl, (Below.refl _ _).alloc (Nat.le_refl _) _⟩
def leftGo (l : List S33) (jobs : List S35) (t : Int) : Nat → Nat → Int → Int
  | 0, _, n => n
  | k + 1, i, n => leftGo l jobs t k (i + 1) (if jobs.any (doneP (rd_T33 l (i : Int)).f0 t) then n else wrap64 (n + (rd_T33 l (i : Int)).f1))
def leftP (l : List S33) (jobs : List S35) (t : Int) : Int := leftGo l jobs t l.length 0 0
set_option maxHeartbeats 8000000 in
set_option maxRecDepth 100000 in
theorem left_calls (A0 : Option Addr) (c0 : Nat) (l0 : List S33) (A1 : Option Addr) (c1 : Nat) (l1 : List S35) (t : Int) (w : World) (hr0 : Kd.C k33 w A0 l0.length l0) (hc0 : l0.length ≤ c0) (hr1 : Kd.C k35 w A1 l1.length l1) (hc1 : l1.length ≤ c1) :
    Calls Try.prog 15 #[.slice A0 l0.length c0, .slice A1 l1.length c1, .int .i64 t] w fun e w' => e = .returned (.int .i64 (leftP l0 l1 t)) ∧ Below w.heap.size w w' := by
  have hu33 := Try.underlying33
  have hu22 := Try.underlying22
  have hu35 := Try.underlying35
  have hu23 := Try.underlying23
  have E : Aside0 (leftP l0 l1 t = leftGo l0 l1 t (l0.length - 0) 0 0) := ⟨by simp [leftP]⟩
  have HR0 := Aside0.mk hr0
  have HC0 := Aside0.mk hc0
  have HR1 := Aside0.mk hr1
  have hn := hr0.2.1
  clear hr0 hr1
  obtain ⟨W0, hW0⟩ : ∃ W0, w.alloc (.cells #[.int .i64 t] 3) = W0 := ⟨_, rfl⟩
  have HT : Aside0 (W0.cell? ⟨w.heap.size, 0, none⟩ = some (.int .i64 t)) := ⟨by rw [← hW0]; exact (blk_cell (blk_new w (.cells #[.int .i64 t] 3)) 0).trans rfl⟩
  have HS0 : Aside0 (W0.heap.size = w.heap.size + 1) := ⟨by rw [← hW0]; simp⟩
  have HB0 : Aside0 (Below w.heap.size w W0) := ⟨by rw [← hW0]; exact below_alloc (Below.refl _ _) _⟩
  go_enter Try.func15, Try.ntmps15
  go_wp2
  clear hW0
  go_loopg [7, 9, 12] l0.length (fun gg s7 _ s12 wr => ∃ (kk : Nat) (n : Int), kk ≤ l0.length ∧ l0.length - kk ≤ gg ∧ s7 = .int .i64 n ∧ s12 = .int .i64 kk ∧ Aside0 (Below W0.heap.size W0 wr) ∧ Aside0 (leftP l0 l1 t = leftGo l0 l1 t (l0.length - kk) kk n))
  case atStart => exact ⟨0, 0, Nat.zero_le _, by omega, rfl, rfl, ⟨Below.refl _ _⟩, E⟩
  case round =>
    clear E
    obtain ⟨kk, n, hkk, hg, rfl, rfl, BW0, A⟩ := hrel
    have BW : Aside0 (Below w.heap.size w wr) := ⟨below_then HB0.out HB0.out.size BW0.out⟩
    by_cases hlt : kk < l0.length
    · have hltz : (kk : Int) < (l0.length : Int) := by omega
      have d1 : decide (kk < l0.length) = true := decide_eq_true hlt
      obtain ⟨ad1, e1, h0, h1, h2⟩ := at_T33 HR0.out (kk : Int) (by omega) hltz
      cases e1
      simp only [Int.toNat_natCast] at h0 h1 h2
      replace h0 := (BW.out.cell (World.block_lt_of_cell? w _ h0)).trans h0
      replace h1 := (BW.out.cell (World.block_lt_of_cell? w _ h1)).trans h1
      replace h2 := (BW.out.cell (World.block_lt_of_cell? w _ h2)).trans h2
      rw [show l0.length - kk = (l0.length - (kk + 1)) + 1 by omega] at A
      have AL1 : Aside0 (leftP l0 l1 t = leftGo l0 l1 t (l0.length - (kk + 1)) (kk + 1) (if l1.any (doneP (rd_T33 l0 (kk : Int)).f0 t) then n else wrap64 (n + (rd_T33 l0 (kk : Int)).f1))) := ⟨A.out⟩
      clear A
      generalize rd_T33 l0 (kk : Int) = y at *
      have HBW : Aside0 (Below W0.heap.size W0 (wr.alloc (.cells #[.int .i64 y.f0, .int .i64 y.f1, .int .i64 y.f2] 33))) := ⟨below_alloc BW0.out _⟩
      have HX : Aside0 (Calls Try.prog 34 #[.slice A1 l1.length c1, .func (.func 35) #[] #[.pointer (some ⟨wr.heap.size, 0, none⟩), .pointer (some ⟨w.heap.size, 0, none⟩)]] (wr.alloc (.cells #[.int .i64 y.f0, .int .i64 y.f1, .int .i64 y.f2] 33)) fun e w' => e = .returned (.bool (l1.any (doneP y.f0 t))) ∧ Below (wr.alloc (.cells #[.int .i64 y.f0, .int .i64 y.f1, .int .i64 y.f2] 33)).heap.size (wr.alloc (.cells #[.int .i64 y.f0, .int .i64 y.f1, .int .i64 y.f2] 33)) w') := ⟨by
        refine containsFunc35_calls 35 #[.pointer (some ⟨wr.heap.size, 0, none⟩), .pointer (some ⟨w.heap.size, 0, none⟩)] (doneP y.f0 t) (enters_of Try.func35 (by kernel_rfl) rfl) A1 c1 l1 (wr.alloc (.cells #[.int .i64 y.f0, .int .i64 y.f1, .int .i64 y.f2] 33))
          (fun W x hb => done_lit wr.heap.size w.heap.size y.f0 t W x ((hb.cell (p := ⟨wr.heap.size, 0, none⟩) (by simp)).trans ((blk_cell (blk_new wr (.cells #[.int .i64 y.f0, .int .i64 y.f1, .int .i64 y.f2] 33)) 0).trans rfl)) ?_)
          (Kd.C_below HR1.out (below_alloc BW.out _))
        have hb2 := below_then HBW.out HBW.out.size hb
        exact (hb2.cell (p := ⟨w.heap.size, 0, none⟩) (by rw [HS0.out]; show w.heap.size < _; omega)).trans HT.out⟩
      generalize l1.any (doneP y.f0 t) = q at *
      cases q with
      | true =>
        have A3 : Aside0 (leftP l0 l1 t = leftGo l0 l1 t (l0.length - (kk + 1)) (kk + 1) n) := ⟨by rw [AL1.out]; rfl⟩
        clear AL1
        go_wp2_with (go_at_call 34; refine HX.out.mono ?_; rintro e w' ⟨rfl, hb'⟩; have HB' := Aside0.mk hb'; clear hb')
        go_roundg (l0.length - (kk + 1))
        case measure => omega
        case rel => exact ⟨kk + 1, n, by omega, by omega, rfl, by go_num, ⟨below_then HBW.out HBW.out.size HB'.out⟩, A3⟩
      | false =>
        have A3 : Aside0 (leftP l0 l1 t = leftGo l0 l1 t (l0.length - (kk + 1)) (kk + 1) (wrap64 (n + y.f1))) := ⟨by rw [AL1.out]; rfl⟩
        clear AL1
        go_wp2_with (go_at_call 34; refine HX.out.mono ?_; rintro e w' ⟨rfl, hb'⟩; have g0 := (hb'.cell (p := ⟨wr.heap.size, 1, none⟩) (by simp)).trans ((blk_cell (blk_new wr (.cells #[.int .i64 y.f0, .int .i64 y.f1, .int .i64 y.f2] 33)) 1).trans rfl); have HB' := Aside0.mk hb'; clear hb')
        go_roundg (l0.length - (kk + 1))
        case measure => omega
        case rel => exact ⟨kk + 1, wrap64 (n + y.f1), by omega, by omega, by first | rfl | go_num, by go_num, ⟨below_then HBW.out HBW.out.size HB'.out⟩, A3⟩
    · have d1 : decide (kk < l0.length) = false := decide_eq_false hlt
      have hltz : ¬ (kk : Int) < (l0.length : Int) := by omega
      have R : Aside0 (leftP l0 l1 t = n) := ⟨by rw [A.out, show l0.length - kk = 0 by omega]; rfl⟩
      clear A
      go_wp2
      go_ret
      exact ⟨by rw [R.out]; rfl, BW.out⟩
def rescue_Left.f (l0 : List S33) (l1 : List S35) (a2 : Int) : Option Int := some (leftP l0 l1 a2)
theorem rescue_Left.calls (A0 : Option Addr) (c0 : Nat) (l0 : List S33) (A1 : Option Addr) (c1 : Nat) (l1 : List S35) (a2 : Int) (r : Int) (w : World) (hr0 : Kd.C k33 w A0 l0.length l0) (hc0 : l0.length ≤ c0) (hr1 : Kd.C k35 w A1 l1.length l1) (hc1 : l1.length ≤ c1) (h : rescue_Left.f l0 l1 a2 = some r) :
    Calls Try.prog 15 #[.slice A0 l0.length c0, .slice A1 l1.length c1, .int .i64 a2] w fun e w' => e = .returned (.int .i64 r) ∧ Below w.heap.size w w' := by
  obtain rfl := Option.some.inj h
  exact left_calls A0 c0 l0 A1 c1 l1 a2 w hr0 hc0 hr1 hc1

end Go.Proofs.Ytedejkhopjhnbaa.P
