-- Printed for this claim by a program of the session, out of Lean's own print of the translation.
import Derived.Test.YtedejkhopjhnbaaPx0
import Derived.Test.YtedejkhopjhnbaaPx2
import Derived.Test.YtedejkhopjhnbaaPx4
import Derived.Test.YtedejkhopjhnbaaPx18
namespace Go.Proofs.Ytedejkhopjhnbaa.P
open Go.RowKit Go.Proofs.YtedejkhopjhnbaaW.PrintWords Go.Proofs.YtedejkhopjhnbaaW.PrintLast Go.Proofs.YtedejkhopjhnbaaW.PrintMore
attribute [local go_sem] max2_int min2_int max_two min_two max_three min_three max_four min_four   -- for this text's walks alone
set_option linter.unusedVariables false
set_option linter.unusedSimpArgs false

/-! ### rescue_Valid: function 14 -/
set_option maxHeartbeats 2000000 in
theorem val_lit (B : Nat) (i : Int) (W : World) (x : S33) (h1 : W.cell? ⟨B, 1, none⟩ = some (.int .i64 i)) :
    Calls Try.prog 32 (#[encP33 x] ++ #[.pointer (some ⟨B, 0, none⟩)]) W fun e w' => e = .returned (.bool (x.f0 == i)) ∧ Below W.heap.size W w' := by
  have hu33 := Try.underlying33
  have hu35 := Try.underlying35
  have hB : B < W.heap.size := World.block_lt_of_cell? W _ h1
  unfold encP33
  cases b1 : (x.f0 == i) with
  | false =>
    go_enter Try.func32, Try.ntmps32
    go_wp2
    go_ret
    exact ⟨rfl, (Below.refl _ _).alloc (Nat.le_refl _) _⟩
  | true =>
    go_enter Try.func32, Try.ntmps32
    go_wp2
    go_ret
    exact ⟨rfl, (Below.refl _ _).alloc (Nat.le_refl _) _⟩
def apB (y x : S35) : Bool := y.f0 != x.f0 || (decide (y.f3 ≤ x.f2) || decide (x.f3 ≤ y.f2))
theorem apB_f (y x : S35) : rescue_apart.f y.f0 y.f1 y.f2 y.f3 x.f0 x.f1 x.f2 x.f3 = some (apB y x) := by
  unfold rescue_apart.f apB
  by_cases h : y.f0 = x.f0
  · rw [if_pos h]
    by_cases h2 : y.f3 ≤ x.f2
    · rw [if_pos h2]; simp [h2]
    · rw [if_neg h2]; simp [h, h2]
  · rw [if_neg h]; simp [h]
def hitB (x y : S35) : Bool := y.f1 == x.f1 || !apB y x
def secK (todo : List S33) (x : S35) : Int := fidx (fun s => s.f0 == x.f1) todo
def jobBad (todo : List S33) (teams : Int) (x : S35) : Bool :=
  decide (secK todo x < 0) || (decide (x.f0 < 1) || (decide (teams < x.f0) || (decide (x.f2 < 0) || (decide (x.f3 < x.f2) || wrap64 (x.f3 - x.f2) != (rd_T33 todo (secK todo x)).f2))))
def validGo (todo : List S33) (teams : Int) (jobs : List S35) : Nat → Nat → Bool
  | 0, _ => true
  | n + 1, i => if jobBad todo teams (rd_T35 jobs (i : Int)) then false else if (jobs.take i).any (hitB (rd_T35 jobs (i : Int))) then false else validGo todo teams jobs n (i + 1)
def validP (todo : List S33) (teams : Int) (jobs : List S35) : Bool := if jobs.length = todo.length then validGo todo teams jobs jobs.length 0 else false
theorem any_take_succ {α : Type} (p : α → Bool) (l : List α) (d : α) (j : Nat) (hj : j < l.length) : (l.take (j + 1)).any p = ((l.take j).any p || p (l.getD j d)) := by
  rw [List.take_succ_eq_append_getElem hj, List.any_append]
  simp [List.getD_eq_getElem?_getD, List.getElem?_eq_getElem hj]
theorem any_take_of {α : Type} (p : α → Bool) (l : List α) (d : α) (j k : Nat) (hjk : j < k) (hk : k ≤ l.length) (h : p (l.getD j d) = true) : (l.take k).any p = true := by
  rw [List.any_eq_true]
  have hj : j < l.length := by omega
  have e : l.getD j d = l[j] := by simp [List.getD_eq_getElem?_getD, List.getElem?_eq_getElem hj]
  refine ⟨l[j], ?_, by rw [← e]; exact h⟩
  rw [List.mem_take_iff_getElem]
  exact ⟨j, by omega, rfl⟩
set_option maxHeartbeats 16000000 in
set_option maxRecDepth 100000 in
theorem valid_calls (A0 : Option Addr) (c0 : Nat) (l0 : List S33) (tm : Int) (A1 : Option Addr) (c1 : Nat) (l1 : List S35) (td : List S33) (w : World) (hr0 : Kd.C k33 w A0 l0.length l0) (hc0 : l0.length ≤ c0) (hr1 : Kd.C k35 w A1 l1.length l1) (hc1 : l1.length ≤ c1) (hf : rescue_needing.f l0 = some td) :
    Calls Try.prog 14 #[.slice A0 l0.length c0, .int .i64 tm, .slice A1 l1.length c1] w fun e w' => e = .returned (.bool (validP td tm l1)) ∧ Below w.heap.size w w' := by
  have hu33 := Try.underlying33
  have hu22 := Try.underlying22
  have hu35 := Try.underlying35
  have hu23 := Try.underlying23
  have NEED := Aside0.mk (rescue_needing.calls A0 c0 l0 td w hr0 hc0 hf)
  have HR1 := Aside0.mk hr1
  have hn := hr1.2.1
  clear hr0 hr1 hf
  by_cases hlen : l1.length = td.length
  case neg =>
    have R : Aside0 (validP td tm l1 = false) := ⟨by simp [validP, hlen]⟩
    have hq : ((l1.length : Int) == (td.length : Int)) = false := beq_eq_false_iff_ne.2 (by omega)
    have hq2 : ((l1.length : Int) != (td.length : Int)) = true := by simp [bne, hq]
    have HL := Aside0.mk hlen
    clear hlen
    go_enter Try.func14, Try.ntmps14
    go_wp2_with (go_at_call 29; refine NEED.out.mono ?_; rintro e w1 ⟨v1, rfl, hR1, hB1⟩; obtain ⟨A2, c2, rfl, hc2, hC2⟩ := Kd.R_reads hR1; have hn2 := hC2.2.1; have HB1 := Aside0.mk hB1; clear hR1 hB1 hC2)
    go_ret
    exact ⟨by rw [R.out]; rfl, HB1.out⟩
  have E : Aside0 (validP td tm l1 = validGo td tm l1 (l1.length - 0) 0) := ⟨by simp [validP, hlen]⟩
  have hq2 : ((l1.length : Int) != (td.length : Int)) = false := by simp [bne, hlen]
  have HL := Aside0.mk hlen
  clear hlen
  go_enter Try.func14, Try.ntmps14
  go_wp2_with (go_at_call 29; refine NEED.out.mono ?_; rintro e w1 ⟨v1, rfl, hR1, hB1⟩; obtain ⟨A2, c2, rfl, hc2, hC2⟩ := Kd.R_reads hR1; have hn2 := hC2.2.1; have HB1 := Aside0.mk hB1; have HT := Aside0.mk hC2; clear hR1 hB1 hC2)
  go_loopg [8, 9, 10, 12, 22] l1.length (fun gg _ _ _ _ s22 wr => ∃ kk : Nat, kk ≤ l1.length ∧ l1.length - kk ≤ gg ∧ s22 = .int .i64 kk ∧ Aside0 (Below w1.heap.size w1 wr) ∧ Aside0 (validP td tm l1 = validGo td tm l1 (l1.length - kk) kk))
  case atStart => exact ⟨0, Nat.zero_le _, by omega, rfl, ⟨Below.refl _ _⟩, E⟩
  case round =>
    clear E NEED
    obtain ⟨kk, hkk, hg, rfl, BW0, A⟩ := hrel
    have BW : Aside0 (Below w.heap.size w wr) := ⟨below_then HB1.out HB1.out.size BW0.out⟩
    by_cases hlt : kk < l1.length
    · have hltz : (kk : Int) < (l1.length : Int) := by omega
      have d1 : decide (kk < l1.length) = true := decide_eq_true hlt
      obtain ⟨ad1, e1, h0, h1, h2, h3⟩ := at_T35 HR1.out (kk : Int) (by omega) hltz
      cases e1
      simp only [Int.toNat_natCast] at h0 h1 h2 h3
      replace h0 := (BW.out.cell (World.block_lt_of_cell? w _ h0)).trans h0
      replace h1 := (BW.out.cell (World.block_lt_of_cell? w _ h1)).trans h1
      replace h2 := (BW.out.cell (World.block_lt_of_cell? w _ h2)).trans h2
      replace h3 := (BW.out.cell (World.block_lt_of_cell? w _ h3)).trans h3
      rw [show l1.length - kk = (l1.length - (kk + 1)) + 1 by omega] at A
      have AL1 : Aside0 (validP td tm l1 = if jobBad td tm (rd_T35 l1 (kk : Int)) then false else if (l1.take kk).any (hitB (rd_T35 l1 (kk : Int))) then false else validGo td tm l1 (l1.length - (kk + 1)) (kk + 1)) := ⟨A.out⟩
      clear A
      generalize rd_T35 l1 (kk : Int) = y at *
      have HBW : Aside0 (Below w1.heap.size w1 (wr.alloc (.cells #[.int .i64 y.f0, .int .i64 y.f1, .int .i64 y.f2, .int .i64 y.f3] 35))) := ⟨below_alloc BW0.out _⟩
      have HIX : Aside0 (Calls Try.prog 31 #[.slice A2 td.length c2, .func (.func 32) #[] #[.pointer (some ⟨wr.heap.size, 0, none⟩)]] (wr.alloc (.cells #[.int .i64 y.f0, .int .i64 y.f1, .int .i64 y.f2, .int .i64 y.f3] 35)) fun e w' => e = .returned (.int .i64 (secK td y)) ∧ Below (wr.alloc (.cells #[.int .i64 y.f0, .int .i64 y.f1, .int .i64 y.f2, .int .i64 y.f3] 35)).heap.size (wr.alloc (.cells #[.int .i64 y.f0, .int .i64 y.f1, .int .i64 y.f2, .int .i64 y.f3] 35)) w') := ⟨by
        refine indexFunc33_calls 32 #[.pointer (some ⟨wr.heap.size, 0, none⟩)] (fun s => s.f0 == y.f1) (enters_of Try.func32 (by kernel_rfl) rfl) A2 c2 td (wr.alloc (.cells #[.int .i64 y.f0, .int .i64 y.f1, .int .i64 y.f2, .int .i64 y.f3] 35))
          (fun W x hb => val_lit wr.heap.size y.f1 W x ((hb.cell (p := ⟨wr.heap.size, 1, none⟩) (by simp)).trans ((blk_cell (blk_new wr (.cells #[.int .i64 y.f0, .int .i64 y.f1, .int .i64 y.f2, .int .i64 y.f3] 35)) 1).trans rfl)))
          (Kd.C_below HT.out HBW.out)⟩
      have BOX : Aside0 (∀ W, Below (wr.alloc (.cells #[.int .i64 y.f0, .int .i64 y.f1, .int .i64 y.f2, .int .i64 y.f3] 35)).heap.size (wr.alloc (.cells #[.int .i64 y.f0, .int .i64 y.f1, .int .i64 y.f2, .int .i64 y.f3] 35)) W →
          W.cell? ⟨wr.heap.size, 0, none⟩ = some (.int .i64 y.f0) ∧ W.cell? ⟨wr.heap.size, 1, none⟩ = some (.int .i64 y.f1) ∧ W.cell? ⟨wr.heap.size, 2, none⟩ = some (.int .i64 y.f2) ∧ W.cell? ⟨wr.heap.size, 3, none⟩ = some (.int .i64 y.f3)) := ⟨fun W hb =>
        ⟨(hb.cell (p := ⟨wr.heap.size, 0, none⟩) (by simp)).trans ((blk_cell (blk_new wr (.cells #[.int .i64 y.f0, .int .i64 y.f1, .int .i64 y.f2, .int .i64 y.f3] 35)) 0).trans rfl),
         (hb.cell (p := ⟨wr.heap.size, 1, none⟩) (by simp)).trans ((blk_cell (blk_new wr (.cells #[.int .i64 y.f0, .int .i64 y.f1, .int .i64 y.f2, .int .i64 y.f3] 35)) 1).trans rfl),
         (hb.cell (p := ⟨wr.heap.size, 2, none⟩) (by simp)).trans ((blk_cell (blk_new wr (.cells #[.int .i64 y.f0, .int .i64 y.f1, .int .i64 y.f2, .int .i64 y.f3] 35)) 2).trans rfl),
         (hb.cell (p := ⟨wr.heap.size, 3, none⟩) (by simp)).trans ((blk_cell (blk_new wr (.cells #[.int .i64 y.f0, .int .i64 y.f1, .int .i64 y.f2, .int .i64 y.f3] 35)) 3).trans rfl)⟩⟩
      have BAD : Aside0 (jobBad td tm y = true → validP td tm l1 = false) := ⟨fun hb => by rw [AL1.out]; simp [hb]⟩
      have SK : Aside0 (jobBad td tm y = (decide (secK td y < 0) || (decide (y.f0 < 1) || (decide (tm < y.f0) || (decide (y.f2 < 0) || (decide (y.f3 < y.f2) || wrap64 (y.f3 - y.f2) != (rd_T33 td (secK td y)).f2)))))) := ⟨rfl⟩
      have SR : Aside0 (-1 ≤ secK td y ∧ secK td y < td.length) := ⟨fidx_range _ _⟩
      have GO : Aside0 (∀ W, Below (wr.alloc (.cells #[.int .i64 y.f0, .int .i64 y.f1, .int .i64 y.f2, .int .i64 y.f3] 35)).heap.size (wr.alloc (.cells #[.int .i64 y.f0, .int .i64 y.f1, .int .i64 y.f2, .int .i64 y.f3] 35)) W → Below w1.heap.size w1 W) := ⟨fun W hb => below_then HBW.out HBW.out.size hb⟩
      have GOW : Aside0 (∀ W, Below w1.heap.size w1 W → Below w.heap.size w W) := ⟨fun W hb => below_then HB1.out HB1.out.size hb⟩
      have HJ : Aside0 (∀ W, Below w1.heap.size w1 W → Kd.C k35 W (some ad1) l1.length l1) := ⟨fun W hb => Kd.C_below HR1.out (GOW.out W hb)⟩
      have HTD : Aside0 (∀ W, Below w1.heap.size w1 W → Kd.C k33 W A2 td.length td) := ⟨fun W hb => Kd.C_below HT.out hb⟩
      generalize secK td y = k at *
      have HKC : Aside0 (0 ≤ k → ∀ W, Below w1.heap.size w1 W → ∃ ad, A2 = some ad ∧ W.cell? ⟨(ad.add (k.toNat * 3)).block, (ad.add (k.toNat * 3)).off + 2, none⟩ = some (.int .i64 (rd_T33 td k).f2)) := ⟨fun h W hb => by
        obtain ⟨ad, ea, _, _, h2⟩ := at_T33 (HTD.out W hb) k h SR.out.2
        exact ⟨ad, ea, h2⟩⟩
      by_cases k0 : k < 0
      · have R := Aside0.mk (BAD.out (by rw [SK.out]; simp [k0]))
        clear AL1 BAD SK
        go_wp2_with (go_at_call 31; refine HIX.out.mono ?_; rintro e w2 ⟨rfl, hb2⟩; obtain ⟨b0, b1, b2, b3⟩ := BOX.out w2 hb2; have HB2 := Aside0.mk hb2; clear hb2)
        go_quiet (fail)
        go_wp2
        go_ret
        exact ⟨by rw [R.out]; rfl, pw_below_drewN (GOW.out _ (GO.out _ HB2.out)) _⟩
      have q0 : decide (k < 0) = false := decide_eq_false k0
      have hk0 : 0 ≤ k := by omega
      have hk1 := SR.out.2
      obtain ⟨ad2, e2, _⟩ := HKC.out hk0 w1 (Below.refl _ _)
      subst e2
      have HK2 : Aside0 (∀ W, Below w1.heap.size w1 W → W.cell? ⟨(ad2.add (k.toNat * 3)).block, (ad2.add (k.toNat * 3)).off + 2, none⟩ = some (.int .i64 (rd_T33 td k).f2)) := ⟨fun W hb => by
        obtain ⟨ad, ea, h2⟩ := HKC.out hk0 W hb
        cases ea
        exact h2⟩
      generalize (rd_T33 td k).f2 = sec at *
      clear HKC
      by_cases i0 : y.f0 < 1
      · have R := Aside0.mk (BAD.out (by rw [SK.out]; simp [i0]))
        clear AL1 BAD SK
        go_wp2_with (go_at_call 31; refine HIX.out.mono ?_; rintro e w2 ⟨rfl, hb2⟩; obtain ⟨b0, b1, b2, b3⟩ := BOX.out w2 hb2; have hk2 := HK2.out w2 (GO.out w2 hb2); have HB2 := Aside0.mk hb2; clear hb2)
        go_quiet (fail)
        go_wp2
        go_ret
        exact ⟨by rw [R.out]; rfl, pw_below_drewN (GOW.out _ (GO.out _ HB2.out)) _⟩
      have p0 : decide (y.f0 < 1) = false := decide_eq_false i0
      by_cases i1 : tm < y.f0
      · have R := Aside0.mk (BAD.out (by rw [SK.out]; simp [i1]))
        clear AL1 BAD SK
        go_wp2_with (go_at_call 31; refine HIX.out.mono ?_; rintro e w2 ⟨rfl, hb2⟩; obtain ⟨b0, b1, b2, b3⟩ := BOX.out w2 hb2; have hk2 := HK2.out w2 (GO.out w2 hb2); have HB2 := Aside0.mk hb2; clear hb2)
        go_quiet (fail)
        go_wp2
        go_ret
        exact ⟨by rw [R.out]; rfl, pw_below_drewN (GOW.out _ (GO.out _ HB2.out)) _⟩
      have p1 : decide (tm < y.f0) = false := decide_eq_false i1
      by_cases i2 : y.f2 < 0
      · have R := Aside0.mk (BAD.out (by rw [SK.out]; simp [i2]))
        clear AL1 BAD SK
        go_wp2_with (go_at_call 31; refine HIX.out.mono ?_; rintro e w2 ⟨rfl, hb2⟩; obtain ⟨b0, b1, b2, b3⟩ := BOX.out w2 hb2; have hk2 := HK2.out w2 (GO.out w2 hb2); have HB2 := Aside0.mk hb2; clear hb2)
        go_quiet (fail)
        go_wp2
        go_ret
        exact ⟨by rw [R.out]; rfl, pw_below_drewN (GOW.out _ (GO.out _ HB2.out)) _⟩
      have p2 : decide (y.f2 < 0) = false := decide_eq_false i2
      by_cases i3 : y.f3 < y.f2
      · have R := Aside0.mk (BAD.out (by rw [SK.out]; simp [i3]))
        clear AL1 BAD SK
        go_wp2_with (go_at_call 31; refine HIX.out.mono ?_; rintro e w2 ⟨rfl, hb2⟩; obtain ⟨b0, b1, b2, b3⟩ := BOX.out w2 hb2; have hk2 := HK2.out w2 (GO.out w2 hb2); have HB2 := Aside0.mk hb2; clear hb2)
        go_quiet (fail)
        go_wp2
        go_ret
        exact ⟨by rw [R.out]; rfl, pw_below_drewN (GOW.out _ (GO.out _ HB2.out)) _⟩
      have p3 : decide (y.f3 < y.f2) = false := decide_eq_false i3
      cases i4 : (wrap64 (y.f3 - y.f2) != sec) with
      | true =>
        have R := Aside0.mk (BAD.out (by rw [SK.out]; simp [i4]))
        clear AL1 BAD SK
        go_wp2_with (go_at_call 31; refine HIX.out.mono ?_; rintro e w2 ⟨rfl, hb2⟩; obtain ⟨b0, b1, b2, b3⟩ := BOX.out w2 hb2; have hk2 := HK2.out w2 (GO.out w2 hb2); have HB2 := Aside0.mk hb2; clear hb2)
        go_quiet (fail)
        go_wp2
        go_ret
        exact ⟨by rw [R.out]; rfl, pw_below_drewN (GOW.out _ (GO.out _ HB2.out)) _⟩
      | false =>
        have AL2 : Aside0 (validP td tm l1 = if (l1.take kk).any (hitB y) then false else validGo td tm l1 (l1.length - (kk + 1)) (kk + 1)) := ⟨by rw [AL1.out, show jobBad td tm y = false by rw [SK.out]; simp [k0, i0, i1, i2, i3, i4]]; rfl⟩
        clear AL1 BAD SK
        have hkc : kk ≤ c1 := by omega
        have hkcz : (kk : Int) ≤ (c1 : Int) := by omega
        go_wp2_with (go_at_call 31; refine HIX.out.mono ?_; rintro e w2 ⟨rfl, hb2⟩; obtain ⟨b0, b1, b2, b3⟩ := BOX.out w2 hb2; have hk2 := HK2.out w2 (GO.out w2 hb2); have HB2 := Aside0.mk hb2; clear hb2)
        go_quiet (fail)
        go_wp2
        go_loopg [12, 72] kk (fun gg _ s72 wq => ∃ jj : Nat, jj ≤ kk ∧ kk - jj ≤ gg ∧ s72 = .int .i64 jj ∧ Aside0 (Below (wr.alloc (.cells #[.int .i64 y.f0, .int .i64 y.f1, .int .i64 y.f2, .int .i64 y.f3] 35)).heap.size (wr.alloc (.cells #[.int .i64 y.f0, .int .i64 y.f1, .int .i64 y.f2, .int .i64 y.f3] 35)) wq) ∧ Aside0 ((l1.take jj).any (hitB y) = false))
        case atStart => exact ⟨0, Nat.zero_le _, by omega, rfl, ⟨pw_below_drewN HB2.out _⟩, ⟨by simp⟩⟩
        case round =>
          clear b0 b1 b2 b3 hk2 HB2
          obtain ⟨jj, hjj, hgj, rfl, BQ, NO⟩ := hrel
          by_cases hjt : jj < kk
          · have d2 : decide (jj < kk) = true := decide_eq_true hjt
            have hjz : (jj : Int) < (kk : Int) := by omega
            have hjl : (jj : Int) < (l1.length : Int) := by omega
            obtain ⟨ad3, e3, j0, j1, j2, j3⟩ := at_T35 (HJ.out _ (GO.out _ BQ.out)) (jj : Int) (by omega) hjl
            cases e3
            simp only [Int.toNat_natCast] at j0 j1 j2 j3
            have HTK : Aside0 ((l1.take (jj + 1)).any (hitB y) = ((l1.take jj).any (hitB y) || hitB y (rd_T35 l1 (jj : Int)))) := ⟨by
              rw [any_take_succ (hitB y) l1 z35 jj (by omega)]
              simp [rd_T35]⟩
            have HOF : Aside0 (hitB y (rd_T35 l1 (jj : Int)) = true → validP td tm l1 = false) := ⟨fun hh => by
              rw [AL2.out, any_take_of (hitB y) l1 z35 jj kk hjt hkk (by simpa [rd_T35] using hh)]; rfl⟩
            have HDEF : Aside0 (hitB y (rd_T35 l1 (jj : Int)) = ((rd_T35 l1 (jj : Int)).f1 == y.f1 || !apB (rd_T35 l1 (jj : Int)) y)) := ⟨rfl⟩
            generalize rd_T35 l1 (jj : Int) = z at *
            have HBQ := Aside0.mk (below_alloc BQ.out (.cells #[.int .i64 z.f0, .int .i64 z.f1, .int .i64 z.f2, .int .i64 z.f3] 35))
            obtain ⟨b0, b1, b2, b3⟩ := BOX.out _ HBQ.out
            cases s0 : (z.f1 == y.f1) with
            | true =>
              have R := Aside0.mk (HOF.out (by rw [HDEF.out, s0]; rfl))
              clear HOF HDEF HTK
              go_wp2
              go_ret
              exact ⟨by rw [R.out]; rfl, GOW.out _ (GO.out _ HBQ.out)⟩
            | false =>
              have AP := Aside0.mk (rescue_apart.calls z.f0 z.f1 z.f2 z.f3 y.f0 y.f1 y.f2 y.f3 (apB z y) (wr.alloc (.cells #[.int .i64 z.f0, .int .i64 z.f1, .int .i64 z.f2, .int .i64 z.f3] 35)) (apB_f z y))
              rw [s0, Bool.false_or] at HDEF
              generalize apB z y = ap at *
              cases ap with
              | false =>
                have R := Aside0.mk (HOF.out (by rw [HDEF.out]; rfl))
                clear HOF HDEF HTK
                go_wp2_with (go_at_call 33; refine AP.out.mono ?_; rintro e w3 ⟨rfl, hb3⟩; have HB3 := Aside0.mk hb3; clear hb3)
                go_ret
                exact ⟨by rw [R.out]; rfl, GOW.out _ (GO.out _ (below_then HBQ.out HBQ.out.size HB3.out))⟩
              | true =>
                have NO2 : Aside0 ((l1.take (jj + 1)).any (hitB y) = false) := ⟨by rw [HTK.out, NO.out, HDEF.out]; rfl⟩
                clear HOF HDEF HTK NO
                go_wp2_with (go_at_call 33; refine AP.out.mono ?_; rintro e w3 ⟨rfl, hb3⟩; have HB3 := Aside0.mk hb3; clear hb3)
                go_roundg (kk - (jj + 1))
                case measure => omega
                case rel => exact ⟨jj + 1, by omega, by omega, by go_num, ⟨below_then HBQ.out HBQ.out.size HB3.out⟩, NO2⟩
          · have d2 : decide (jj < kk) = false := decide_eq_false hjt
            have hjz : ¬ (jj : Int) < (kk : Int) := by omega
            obtain rfl : jj = kk := by omega
            have A3 : Aside0 (validP td tm l1 = validGo td tm l1 (l1.length - (jj + 1)) (jj + 1)) := ⟨by rw [AL2.out, NO.out]; rfl⟩
            clear AL2
            go_wp2
            go_roundg (l1.length - (jj + 1))
            case measure => omega
            case rel => exact ⟨jj + 1, by omega, by omega, by go_num, ⟨GO.out _ BQ.out⟩, A3⟩
    · have d1 : decide (kk < l1.length) = false := decide_eq_false hlt
      have hltz : ¬ (kk : Int) < (l1.length : Int) := by omega
      have R : Aside0 (validP td tm l1 = true) := ⟨by rw [A.out, show l1.length - kk = 0 by omega]; rfl⟩
      clear A
      go_wp2
      go_ret
      exact ⟨by rw [R.out]; rfl, BW.out⟩
def rescue_Valid.f (l0 : List S33) (a1 : Int) (l2 : List S35) : Option Bool := (rescue_needing.f l0).bind fun td => some (validP td a1 l2)
theorem rescue_Valid.calls (A0 : Option Addr) (c0 : Nat) (l0 : List S33) (a1 : Int) (A2 : Option Addr) (c2 : Nat) (l2 : List S35) (r : Bool) (w : World) (hr0 : Kd.C k33 w A0 l0.length l0) (hc0 : l0.length ≤ c0) (hr2 : Kd.C k35 w A2 l2.length l2) (hc2 : l2.length ≤ c2) (h : rescue_Valid.f l0 a1 l2 = some r) :
    Calls Try.prog 14 #[.slice A0 l0.length c0, .int .i64 a1, .slice A2 l2.length c2] w fun e w' => e = .returned (.bool r) ∧ Below w.heap.size w w' := by
  unfold rescue_Valid.f at h
  cases hf : rescue_needing.f l0 with
  | none => rw [hf] at h; cases h
  | some td =>
    rw [hf, Option.bind_some] at h
    obtain rfl := Option.some.inj h
    exact valid_calls A0 c0 l0 a1 A2 c2 l2 td w hr0 hc0 hr2 hc2 hf

end Go.Proofs.Ytedejkhopjhnbaa.P
