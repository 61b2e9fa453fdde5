-- Printed for this claim by a program of the session, out of Lean's own print of the translation.
import Derived.Test.YtedejkhopjhnbaaPx0
import Derived.Test.YtedejkhopjhnbaaPx2
namespace Go.Proofs.Ytedejkhopjhnbaa.P
open Go.RowKit Go.Proofs.YtedejkhopjhnbaaW.PrintWords Go.Proofs.YtedejkhopjhnbaaW.PrintLast Go.Proofs.YtedejkhopjhnbaaW.PrintMore
attribute [local go_sem] max2_int min2_int max_two min_two max_three min_three max_four min_four   -- for this text's walks alone
set_option linter.unusedVariables false
set_option linter.unusedSimpArgs false

/-! ### rescue_Right: function 18 -/
def idP (i : Int) (x : S33) : Bool := x.f0 == i
set_option maxHeartbeats 2000000 in
theorem id_lit (B : Nat) (i : Int) (W : World) (x : S33) (h1 : W.cell? ⟨B, 0, none⟩ = some (.int .i64 i)) :
    Calls Try.prog 38 (#[encP33 x] ++ #[.pointer (some ⟨B, 0, none⟩)]) W fun e w' => e = .returned (.bool (idP i x)) ∧ Below W.heap.size W w' := by
  have hu33 := Try.underlying33
  have hB : B < W.heap.size := World.block_lt_of_cell? W _ h1
  unfold encP33
  cases b1 : (x.f0 == i) with
  | false =>
    have e : Aside0 (idP i x = false) := ⟨by simp [idP, b1]⟩
    go_enter Try.func38, Try.ntmps38
    go_wp2
    go_ret
    exact ⟨by rw [e.out]; rfl, (Below.refl _ _).alloc (Nat.le_refl _) _⟩
  | true =>
    have e : Aside0 (idP i x = true) := ⟨by simp [idP, b1]⟩
    go_enter Try.func38, Try.ntmps38
    go_wp2
    go_ret
    exact ⟨by rw [e.out]; rfl, (Below.refl _ _).alloc (Nat.le_refl _) _⟩
def secBad (y : S33) : Bool := decide (y.f0 < 1) || decide (9999 < y.f0) || decide (y.f1 < 0) || decide (1000 < y.f1) || decide (y.f2 < 1) || decide (86400 < y.f2)
def rightGo (l : List S33) : Nat → Nat → Int
  | 0, _ => 0
  | n + 1, i => if secBad (rd_T33 l (i : Int)) then 2 else if (l.take i).any (idP (rd_T33 l (i : Int)).f0) then 7 else rightGo l n (i + 1)
def rightP (l : List S33) : Int := if 8 < l.length then 4 else rightGo l l.length 0
set_option maxHeartbeats 8000000 in
set_option maxRecDepth 100000 in
theorem right_calls (A0 : Option Addr) (c0 : Nat) (l0 : List S33) (w : World) (hr0 : Kd.C k33 w A0 l0.length l0) (hc0 : l0.length ≤ c0) :
    Calls Try.prog 18 #[.slice A0 l0.length c0] w fun e w' => e = .returned (.int .i64 (rightP l0)) ∧ Below w.heap.size w w' := by
  have hu33 := Try.underlying33
  have hu22 := Try.underlying22
  by_cases hbig : 8 < l0.length
  · have e : Aside0 (rightP l0 = 4) := ⟨by simp [rightP, hbig]⟩
    have hbz : (8 : Int) < (l0.length : Int) := by omega
    go_enter Try.func18, Try.ntmps18
    go_wp2
    go_ret
    exact ⟨by rw [e.out]; rfl, Below.refl _ _⟩
  have E : Aside0 (rightP l0 = rightGo l0 (l0.length - 0) 0) := ⟨by simp [rightP, hbig]⟩
  have HR0 := Aside0.mk hr0
  have HC0 := Aside0.mk hc0
  clear hr0
  go_enter Try.func18, Try.ntmps18
  go_wp2
  go_loopg [3, 4, 10] l0.length (fun gg _ _ s10 wr => ∃ kk : Nat, kk ≤ l0.length ∧ l0.length - kk ≤ gg ∧ s10 = .int .i64 kk ∧ Aside0 (Below w.heap.size w wr) ∧ Aside0 (rightP l0 = rightGo l0 (l0.length - kk) kk))
  case atStart => exact ⟨0, Nat.zero_le _, by omega, rfl, ⟨Below.refl _ w⟩, E⟩
  case round =>
    clear E
    obtain ⟨kk, hkk, hg, rfl, BW, A⟩ := hrel
    by_cases hlt : kk < l0.length
    · have hltz : (kk : Int) < (l0.length : Int) := by omega
      have d1 : decide (kk < l0.length) = true := decide_eq_true hlt
      obtain ⟨ad1, e1, h0, h1, h2⟩ := at_T33 HR0.out (kk : Int) (by omega) hltz
      cases e1
      simp only [Int.toNat_natCast] at h0 h1 h2
      replace h0 := (BW.out.cell (World.block_lt_of_cell? w _ h0)).trans h0
      replace h1 := (BW.out.cell (World.block_lt_of_cell? w _ h1)).trans h1
      replace h2 := (BW.out.cell (World.block_lt_of_cell? w _ h2)).trans h2
      rw [show l0.length - kk = (l0.length - (kk + 1)) + 1 by omega] at A
      have A1 : Aside0 (rightP l0 = if secBad (rd_T33 l0 (kk : Int)) then 2 else if (l0.take kk).any (idP (rd_T33 l0 (kk : Int)).f0) then 7 else rightGo l0 (l0.length - (kk + 1)) (kk + 1)) := ⟨A.out⟩
      clear A
      have HTL : (l0.take kk).length = kk := by rw [List.length_take]; omega
      have HT : Aside0 (Kd.C k33 w (some ad1) (l0.take kk).length (l0.take kk)) := ⟨Kd.C_take HR0.out (by omega)⟩
      generalize rd_T33 l0 (kk : Int) = y at *
      have HB1 : Aside0 (Below w.heap.size w (wr.alloc (.cells #[.int .i64 y.f0, .int .i64 y.f1, .int .i64 y.f2] 33))) := ⟨below_alloc BW.out _⟩
      have BAD : Aside0 (secBad y = true → rightP l0 = 2) := ⟨fun hb => by rw [A1.out]; simp [hb]⟩
      by_cases i0 : y.f0 < 1
      · have R := Aside0.mk (BAD.out (by simp [secBad, i0]))
        clear A1 BAD
        go_wp2
        go_ret
        exact ⟨by rw [R.out]; rfl, HB1.out⟩
      by_cases i1 : 9999 < y.f0
      · have R := Aside0.mk (BAD.out (by simp [secBad, i1]))
        clear A1 BAD
        go_wp2
        go_ret
        exact ⟨by rw [R.out]; rfl, HB1.out⟩
      by_cases i2 : y.f1 < 0
      · have R := Aside0.mk (BAD.out (by simp [secBad, i2]))
        clear A1 BAD
        go_wp2
        go_ret
        exact ⟨by rw [R.out]; rfl, HB1.out⟩
      by_cases i3 : 1000 < y.f1
      · have R := Aside0.mk (BAD.out (by simp [secBad, i3]))
        clear A1 BAD
        go_wp2
        go_ret
        exact ⟨by rw [R.out]; rfl, HB1.out⟩
      by_cases i4 : y.f2 < 1
      · have R := Aside0.mk (BAD.out (by simp [secBad, i4]))
        clear A1 BAD
        go_wp2
        go_ret
        exact ⟨by rw [R.out]; rfl, HB1.out⟩
      by_cases i5 : 86400 < y.f2
      · have R := Aside0.mk (BAD.out (by simp [secBad, i5]))
        clear A1 BAD
        go_wp2
        go_ret
        exact ⟨by rw [R.out]; rfl, HB1.out⟩
      have A2 : Aside0 (rightP l0 = if (l0.take kk).any (idP y.f0) then 7 else rightGo l0 (l0.length - (kk + 1)) (kk + 1)) := ⟨by rw [A1.out, show secBad y = false by simp [secBad, i0, i1, i2, i3, i4, i5]]; rfl⟩
      clear A1 BAD
      have HX : Aside0 (Calls Try.prog 37 #[.slice (some ad1) kk c0, .func (.func 38) #[] #[.pointer (some ⟨wr.heap.size, 0, none⟩)]] (wr.alloc (.cells #[.int .i64 y.f0, .int .i64 y.f1, .int .i64 y.f2] 33)) fun e w' => e = .returned (.bool ((l0.take kk).any (idP y.f0))) ∧ Below (wr.alloc (.cells #[.int .i64 y.f0, .int .i64 y.f1, .int .i64 y.f2] 33)).heap.size (wr.alloc (.cells #[.int .i64 y.f0, .int .i64 y.f1, .int .i64 y.f2] 33)) w') := ⟨by
        have h := containsFunc33_calls 38 #[.pointer (some ⟨wr.heap.size, 0, none⟩)] (idP y.f0) (enters_of Try.func38 (by kernel_rfl) rfl) (some ad1) c0 (l0.take kk) (wr.alloc (.cells #[.int .i64 y.f0, .int .i64 y.f1, .int .i64 y.f2] 33))
          (fun W x hb => id_lit wr.heap.size y.f0 W x ((hb.cell (p := ⟨wr.heap.size, 0, none⟩) (by simp)).trans ((blk_cell (blk_new wr (.cells #[.int .i64 y.f0, .int .i64 y.f1, .int .i64 y.f2] 33)) 0).trans rfl)))
          (Kd.C_below HT.out HB1.out)
        rwa [HTL] at h⟩
      have hkc : kk ≤ c0 := by omega
      have hkcz : (kk : Int) ≤ (c0 : Int) := by omega
      clear HTL
      generalize (l0.take kk).any (idP y.f0) = q at *
      cases q with
      | true =>
        have R : Aside0 (rightP l0 = 7) := ⟨by rw [A2.out]; rfl⟩
        clear A2
        go_wp2_with (go_at_call 37; refine HX.out.mono ?_; rintro e w' ⟨rfl, hb'⟩; have HB' := Aside0.mk hb'; clear hb')
        go_ret
        exact ⟨by rw [R.out]; rfl, below_then HB1.out HB1.out.size HB'.out⟩
      | false =>
        have A3 : Aside0 (rightP l0 = rightGo l0 (l0.length - (kk + 1)) (kk + 1)) := ⟨by rw [A2.out]; rfl⟩
        clear A2
        go_wp2_with (go_at_call 37; refine HX.out.mono ?_; rintro e w' ⟨rfl, hb'⟩; have HB' := Aside0.mk hb'; clear hb')
        go_roundg (l0.length - (kk + 1))
        case measure => omega
        case rel => exact ⟨kk + 1, by omega, by omega, by go_num, ⟨below_then HB1.out HB1.out.size HB'.out⟩, A3⟩
    · have d1 : decide (kk < l0.length) = false := decide_eq_false hlt
      have hltz : ¬ (kk : Int) < (l0.length : Int) := by omega
      have R : Aside0 (rightP l0 = 0) := ⟨by rw [A.out, show l0.length - kk = 0 by omega]; rfl⟩
      clear A
      go_wp2
      go_ret
      exact ⟨by rw [R.out]; rfl, BW.out⟩
def rescue_Right.f (l0 : List S33) : Option Int := some (rightP l0)
theorem rescue_Right.calls (A0 : Option Addr) (c0 : Nat) (l0 : List S33) (r : Int) (w : World) (hr0 : Kd.C k33 w A0 l0.length l0) (hc0 : l0.length ≤ c0) (h : rescue_Right.f l0 = some r) :
    Calls Try.prog 18 #[.slice A0 l0.length c0] w fun e w' => e = .returned (.int .i64 r) ∧ Below w.heap.size w w' := by
  obtain rfl := Option.some.inj h
  exact right_calls A0 c0 l0 w hr0 hc0

end Go.Proofs.Ytedejkhopjhnbaa.P
