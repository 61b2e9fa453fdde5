-- Printed for this claim by a program of the session, out of Lean's own print of the translation.
import Derived.Test.YtfmafpplnpiahaaPx0
import Derived.Test.YtfmafpplnpiahaaPx1
namespace Go.Proofs.Ytfmafpplnpiahaa.P
open Go.RowKit Go.Proofs.YtfmafpplnpiahaaW.PrintWords Go.Proofs.YtfmafpplnpiahaaW.PrintLast Go.Proofs.YtfmafpplnpiahaaW.PrintMore
attribute [local go_sem] max2_int min2_int max_two min_two max_three min_three max_four min_four   -- for this text's walks alone
set_option linter.unusedVariables false
set_option linter.unusedSimpArgs false

/-! ### pipe_Right: function 11 -/
def idB (n : Int) : Bool := decide (1 ≤ n) && decide (n ≤ 9999)
theorem id_any (n : Int) (w : World) : Calls Try.prog 26 #[.int .i64 n] w fun e w' => e = .returned (.bool (idB n)) ∧ w = w' := by
  by_cases h1 : 1 ≤ n
  · by_cases h2 : n ≤ 9999
    · have e : Aside0 (idB n = true) := ⟨by simp [idB, h1, h2]⟩
      go_enter Try.func26, Try.ntmps26
      go_wp2
      go_ret
      exact ⟨by rw [e.out]; rfl, rfl⟩
    · have e : Aside0 (idB n = false) := ⟨by simp [idB, h2]⟩
      go_enter Try.func26, Try.ntmps26
      go_wp2
      go_ret
      exact ⟨by rw [e.out]; rfl, rfl⟩
  · have e : Aside0 (idB n = false) := ⟨by simp [idB, h1]⟩
    go_enter Try.func26, Try.ntmps26
    go_wp2
    go_ret
    exact ⟨by rw [e.out]; rfl, rfl⟩

def twiceP (p q : S45) : Bool := q.f0 == p.f0 || q.f2 == p.f2
theorem twice_lit (B : Nat) (p : S45) (W : World) (x : S45) (hc0 : W.cell? ⟨B, 0, none⟩ = some (.int .i64 p.f0)) (hc2 : W.cell? ⟨B, 2, none⟩ = some (.int .i64 p.f2)) :
    Calls Try.prog 27 #[encP x, .pointer (some ⟨B, 0, none⟩)] W fun e w' => e = .returned (.bool (twiceP p x)) ∧ Below W.heap.size W w' := by
  have hu45 := Try.underlying45
  have hB : B < W.heap.size := World.block_lt_of_cell? W _ hc0
  unfold encP
  cases h1 : (x.f0 == p.f0) with
  | true =>
    have e : Aside0 (twiceP p x = true) := ⟨by simp [twiceP, h1]⟩
    go_enter Try.func27, Try.ntmps27
    go_wp2
    go_ret
    exact ⟨by rw [e.out]; rfl, (Below.refl _ _).alloc (Nat.le_refl _) _⟩
  | false =>
    have e : Aside0 (twiceP p x = (x.f2 == p.f2)) := ⟨by simp [twiceP, h1]⟩
    go_enter Try.func27, Try.ntmps27
    go_wp2
    go_ret
    exact ⟨by rw [e.out]; rfl, (Below.refl _ _).alloc (Nat.le_refl _) _⟩

def badP (p : S45) : Bool := !idB p.f0 || !idB p.f2 || decide (p.f3 < 0) || decide (100000 < p.f3) || decide (p.f4 < -100000) || decide (100000 < p.f4)
def noneP (pre : List S45) (p : S45) : Bool := p.f1 != 0 && decide (toIdx pre p.f1 < 0)
def rightGo : List S45 → List S45 → Int
  | _, [] => 0
  | pre, p :: t => if badP p then 2 else if pre.any (twiceP p) then 7 else if noneP pre p then 8 else rightGo (pre ++ [p]) t
def rightP (l : List S45) : Int := if 64 < l.length then 4 else rightGo [] l
theorem rightGo_at (l : List S45) (k : Nat) (h : k < l.length) : rightGo (l.take k) (l.drop k) =
    if badP (l.getD k z45) then 2 else if (l.take k).any (twiceP (l.getD k z45)) then 7 else if noneP (l.take k) (l.getD k z45) then 8 else rightGo (l.take (k + 1)) (l.drop (k + 1)) := by
  rw [List.drop_eq_getElem_cons h]
  have e : l.getD k z45 = l[k] := by simp [List.getD_eq_getElem?_getD, List.getElem?_eq_getElem h]
  rw [e, List.take_succ_eq_append_getElem h]
  rfl
theorem rightGo_end (l : List S45) (k : Nat) (h : k = l.length) : rightGo (l.take k) (l.drop k) = 0 := by
  subst h; simp [rightGo]

set_option maxHeartbeats 4000000 in
set_option maxRecDepth 100000 in
theorem pipe_Right_calls (A0 : Option Addr) (c0 : Nat) (l0 : List S45) (w : World) (hr0 : Kd.C k45 w A0 l0.length l0) (hc0 : l0.length ≤ c0) :
    Calls Try.prog 11 #[.slice A0 l0.length c0] w fun e w' => e = .returned (.int .i64 (rightP l0)) ∧ Below w.heap.size w w' := by
  have hu45 := Try.underlying45
  by_cases hbig : 64 < l0.length
  · have e : Aside0 (rightP l0 = 4) := ⟨by simp [rightP, hbig]⟩
    go_enter Try.func11, Try.ntmps11
    go_wp2
    go_ret
    exact ⟨by rw [e.out]; rfl, Below.refl _ _⟩
  have E : Aside0 (rightP l0 = rightGo (l0.take 0) (l0.drop 0)) := ⟨by simp [rightP, hbig]⟩
  have HR0 := Aside0.mk hr0
  clear hr0
  go_enter Try.func11, Try.ntmps11
  go_wp2
  go_loopg [4, 5, 6, 12] l0.length (fun gg _ _ _ s12 wr => ∃ kk : Nat, kk ≤ l0.length ∧ l0.length - kk ≤ gg ∧ s12 = .int .i64 kk ∧ Aside0 (Below w.heap.size w wr) ∧ Aside0 (rightP l0 = rightGo (l0.take kk) (l0.drop kk)))
  case atStart => exact ⟨0, Nat.zero_le _, by omega, rfl, ⟨Below.refl _ w⟩, E⟩
  case round =>
    clear E
    obtain ⟨kk, hkk, hg, rfl, BW, A⟩ := hrel
    by_cases hlt : kk < l0.length
    · have hltz : (kk : Int) < (l0.length : Int) := by omega
      obtain ⟨ad1, e1, h0, h1, h2, h3, h4⟩ := at_T45 HR0.out (kk : Int) (by omega) hltz
      cases e1
      have d1 : decide (kk < l0.length) = true := decide_eq_true hlt
      simp only [Int.toNat_natCast] at h0 h1 h2 h3 h4
      replace h0 := (BW.out.cell (World.block_lt_of_cell? w _ h0)).trans h0
      replace h1 := (BW.out.cell (World.block_lt_of_cell? w _ h1)).trans h1
      replace h2 := (BW.out.cell (World.block_lt_of_cell? w _ h2)).trans h2
      replace h3 := (BW.out.cell (World.block_lt_of_cell? w _ h3)).trans h3
      replace h4 := (BW.out.cell (World.block_lt_of_cell? w _ h4)).trans h4
      rw [rightGo_at l0 kk hlt] at A
      rw [show l0.getD kk z45 = rd_T45 l0 (kk : Int) from by simp [rd_T45]] at A
      have hlk : (l0.take kk).length = kk := by rw [List.length_take]; omega
      have HT : Aside0 (Kd.C k45 wr (some ad1) (l0.take kk).length (l0.take kk)) := ⟨Kd.C_take (Kd.C_below HR0.out BW.out) (by omega)⟩
      generalize rd_T45 l0 (kk : Int) = y at *
      have HB1 : Aside0 (∀ W, Below wr.heap.size wr W → Below w.heap.size w W) := ⟨fun W h => below_then BW.out BW.out.size h⟩
      have bad : ∀ (hb : badP y = true), rightP l0 = 2 := fun hb => by rw [A.out]; simp [hb]
      have BAD := Aside0.mk bad
      clear bad
      have HC : Aside0 (Calls Try.prog 28 #[.slice (some ad1) kk c0, .func (.func 27) #[] #[.pointer (some ⟨wr.heap.size, 0, none⟩)]] (wr.alloc (.cells #[.int .i64 y.f0, .int .i64 y.f1, .int .i64 y.f2, .int .i64 y.f3, .int .i64 y.f4] 45))
          fun e w' => e = .returned (.bool ((l0.take kk).any (twiceP y))) ∧ Below (wr.alloc (.cells #[.int .i64 y.f0, .int .i64 y.f1, .int .i64 y.f2, .int .i64 y.f3, .int .i64 y.f4] 45)).heap.size (wr.alloc (.cells #[.int .i64 y.f0, .int .i64 y.f1, .int .i64 y.f2, .int .i64 y.f3, .int .i64 y.f4] 45)) w') := ⟨by
        have := containsFunc_calls 27 #[.pointer (some ⟨wr.heap.size, 0, none⟩)] (twiceP y) (enters_of Try.func27 (by kernel_rfl) rfl) (some ad1) c0 (l0.take kk) (wr.alloc (.cells #[.int .i64 y.f0, .int .i64 y.f1, .int .i64 y.f2, .int .i64 y.f3, .int .i64 y.f4] 45))
          (fun W x hb => twice_lit wr.heap.size y W x ((hb.cell (p := ⟨wr.heap.size, 0, none⟩) (by simp)).trans (by simp)) ((hb.cell (p := ⟨wr.heap.size, 2, none⟩) (by simp)).trans (by simp)))
          (Kd.C_alloc HT.out _)
        rwa [hlk] at this⟩
      have HT2 : Aside0 (∀ W, Below wr.heap.size wr W → Kd.C k45 W (some ad1) kk (l0.take kk)) := ⟨fun W h => by have := Kd.C_below HT.out h; rwa [hlk] at this⟩
      clear hlk
      cases i0 : idB y.f0 with
      | false =>
        have R := Aside0.mk (BAD.out (by simp [badP, i0]))
        clear A BAD
        go_wp2_with (go_at_call 26; refine (id_any _ _).mono ?_; rintro e w' ⟨rfl, rfl⟩)
        go_ret
        exact ⟨by rw [R.out]; rfl, HB1.out _ ((Below.refl _ _).alloc (Nat.le_refl _) _)⟩
      | true =>
      cases i2 : idB y.f2 with
      | false =>
        have R := Aside0.mk (BAD.out (by simp [badP, i2]))
        clear A BAD
        go_wp2_with (go_at_call 26; refine (id_any _ _).mono ?_; rintro e w' ⟨rfl, rfl⟩)
        go_ret
        exact ⟨by rw [R.out]; rfl, HB1.out _ ((Below.refl _ _).alloc (Nat.le_refl _) _)⟩
      | true =>
      by_cases i3 : y.f3 < 0
      · have R := Aside0.mk (BAD.out (by simp [badP, i3]))
        clear A BAD
        go_wp2_with (go_at_call 26; refine (id_any _ _).mono ?_; rintro e w' ⟨rfl, rfl⟩)
        go_ret
        exact ⟨by rw [R.out]; rfl, HB1.out _ ((Below.refl _ _).alloc (Nat.le_refl _) _)⟩
      by_cases i4 : 100000 < y.f3
      · have R := Aside0.mk (BAD.out (by simp [badP, i4]))
        clear A BAD
        go_wp2_with (go_at_call 26; refine (id_any _ _).mono ?_; rintro e w' ⟨rfl, rfl⟩)
        go_ret
        exact ⟨by rw [R.out]; rfl, HB1.out _ ((Below.refl _ _).alloc (Nat.le_refl _) _)⟩
      by_cases i5 : y.f4 < -100000
      · have R := Aside0.mk (BAD.out (by simp [badP, i5]))
        clear A BAD
        go_wp2_with (go_at_call 26; refine (id_any _ _).mono ?_; rintro e w' ⟨rfl, rfl⟩)
        go_ret
        exact ⟨by rw [R.out]; rfl, HB1.out _ ((Below.refl _ _).alloc (Nat.le_refl _) _)⟩
      by_cases i6 : 100000 < y.f4
      · have R := Aside0.mk (BAD.out (by simp [badP, i6]))
        clear A BAD
        go_wp2_with (go_at_call 26; refine (id_any _ _).mono ?_; rintro e w' ⟨rfl, rfl⟩)
        go_ret
        exact ⟨by rw [R.out]; rfl, HB1.out _ ((Below.refl _ _).alloc (Nat.le_refl _) _)⟩
      have good : badP y = false := by simp [badP, i0, i2, i3, i4, i5, i6]
      have A2 : Aside0 (rightP l0 = if (l0.take kk).any (twiceP y) then 7 else if noneP (l0.take kk) y then 8 else rightGo (l0.take (kk + 1)) (l0.drop (kk + 1))) := ⟨by rw [A.out, good]; rfl⟩
      clear A BAD good
      cases ia : (l0.take kk).any (twiceP y) with
      | true =>
        have R : Aside0 (rightP l0 = 7) := ⟨by rw [A2.out, ia]; rfl⟩
        clear A2
        rw [ia] at HC
        clear ia
        go_wp2_with (first | (go_at_call 26; refine (id_any _ _).mono ?_; rintro e w' ⟨rfl, rfl⟩) | (go_at_call 28; refine HC.out.mono ?_; rintro e w' ⟨rfl, hb'⟩; have HB' := Aside0.mk hb'; clear hb'))
        go_ret
        exact ⟨by rw [R.out]; rfl, HB1.out _ (below_then ((Below.refl _ _).alloc (Nat.le_refl _) _) (by simp) HB'.out)⟩
      | false =>
        have A3 : Aside0 (rightP l0 = if noneP (l0.take kk) y then 8 else rightGo (l0.take (kk + 1)) (l0.drop (kk + 1))) := ⟨by rw [A2.out, ia]; rfl⟩
        clear A2
        rw [ia] at HC
        clear ia
        go_wp2_with (first | (go_at_call 26; refine (id_any _ _).mono ?_; rintro e w' ⟨rfl, rfl⟩) | (go_at_call 28; refine HC.out.mono ?_; rintro e w' ⟨rfl, hb'⟩; have HB' := Aside0.mk (below_then ((Below.refl _ _).alloc (Nat.le_refl _) _) (by simp) hb'); have hx0 := (hb'.cell (p := ⟨wr.heap.size, 1, none⟩) (by simp)).trans (show _ = some (Value.int .i64 y.f1) from by simp); clear hb'))
        by_cases iz : y.f1 = 0
        · have z1 : (y.f1 != 0) = false := by simp [iz]
          have z2 : (y.f1 == 0) = true := by simp [iz]
          have R : Aside0 (rightP l0 = rightGo (l0.take (kk + 1)) (l0.drop (kk + 1))) := ⟨by rw [A3.out]; simp [noneP, iz]⟩
          clear A3 iz
          go_quiet (fail)
          go_wp2
          go_roundg (l0.length - (kk + 1))
          case measure => omega
          case rel => exact ⟨kk + 1, by omega, by omega, by go_num, ⟨HB1.out _ (by repeat (first | exact HB'.out | apply pw_below_drewN))⟩, R⟩
        · have z1 : (y.f1 != 0) = true := by simp [iz]
          have z2 : (y.f1 == 0) = false := by simp [iz]
          have A4 : Aside0 (rightP l0 = if toIdx (l0.take kk) y.f1 < 0 then 8 else rightGo (l0.take (kk + 1)) (l0.drop (kk + 1))) := ⟨by rw [A3.out]; simp [noneP, iz]⟩
          clear A3 iz
          have HTO : Aside0 (∀ W, Below wr.heap.size wr W → Calls Try.prog 29 #[.slice (some ad1) kk c0, .int .i64 y.f1] W fun e w' => e = .returned (.int .i64 (toIdx (l0.take kk) y.f1)) ∧ Below W.heap.size W w') := ⟨fun W h => by
            have h1 := HT2.out W h
            have h2 := h1.1
            have := pipe_to_calls (some ad1) c0 (l0.take kk) y.f1 W (by rw [h2]; exact h1)
            rwa [h2] at this⟩
          by_cases hx : toIdx (l0.take kk) y.f1 < 0
          · have R : Aside0 (rightP l0 = 8) := ⟨by rw [A4.out, if_pos hx]⟩
            clear A4
            go_region_with (go_at_call 29; refine (HTO.out _ (by first | exact HB'.out | exact below_drew HB'.out | exact pw_below_drewN HB'.out _)).mono ?_; rintro e w2 ⟨rfl, hb2⟩)
            all_goals
              have HB2 := Aside0.mk (below_then (below_drew HB'.out) (below_drew HB'.out).size hb2)
              clear hb2
              go_wp2
              go_ret
              exact ⟨by rw [R.out]; rfl, HB1.out _ HB2.out⟩
          · have R : Aside0 (rightP l0 = rightGo (l0.take (kk + 1)) (l0.drop (kk + 1))) := ⟨by rw [A4.out, if_neg hx]⟩
            clear A4
            go_region_with (go_at_call 29; refine (HTO.out _ (by first | exact HB'.out | exact below_drew HB'.out | exact pw_below_drewN HB'.out _)).mono ?_; rintro e w2 ⟨rfl, hb2⟩)
            all_goals
              have HB2 := Aside0.mk (below_then (below_drew HB'.out) (below_drew HB'.out).size hb2)
              clear hb2
              go_wp2
              go_roundg (l0.length - (kk + 1))
              case measure => omega
              case rel => exact ⟨kk + 1, by omega, by omega, by go_num, ⟨HB1.out _ HB2.out⟩, R⟩
    · have d1 : decide (kk < l0.length) = false := decide_eq_false hlt
      have R : Aside0 (rightP l0 = 0) := ⟨by rw [A.out]; exact rightGo_end l0 kk (by omega)⟩
      clear A
      go_wp2
      go_ret
      exact ⟨by rw [R.out]; rfl, BW.out⟩

def pipe_Right.f (l0 : List S45) : Option Int := some (rightP l0)
theorem pipe_Right.calls (A0 : Option Addr) (c0 : Nat) (l0 : List S45) (r : Int) (w : World) (hr0 : Kd.C k45 w A0 l0.length l0) (hc0 : l0.length ≤ c0) (h : pipe_Right.f l0 = some r) :
    Calls Try.prog 11 #[.slice A0 l0.length c0] w fun e w' => e = .returned (.int .i64 r) ∧ Below w.heap.size w w' := by
  obtain rfl := Option.some.inj h
  exact pipe_Right_calls A0 c0 l0 w hr0 hc0

end Go.Proofs.Ytfmafpplnpiahaa.P
