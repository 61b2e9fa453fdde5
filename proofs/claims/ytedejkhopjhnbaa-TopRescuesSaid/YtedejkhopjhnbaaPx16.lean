-- Printed for this claim by a program of the session, out of Lean's own print of the translation.
import Derived.Test.YtedejkhopjhnbaaPx0
import Derived.Test.YtedejkhopjhnbaaPx6
import Derived.Test.YtedejkhopjhnbaaPx10
import Derived.Test.YtedejkhopjhnbaaPx14
import Derived.Test.YtedejkhopjhnbaaPx15
namespace Go.Proofs.Ytedejkhopjhnbaa.P
open Go.RowKit Go.Proofs.YtedejkhopjhnbaaW.PrintWords Go.Proofs.YtedejkhopjhnbaaW.PrintLast Go.Proofs.YtedejkhopjhnbaaW.PrintMore
attribute [local go_sem] max2_int min2_int max_two min_two max_three min_three max_four min_four   -- for this text's walks alone
set_option linter.unusedVariables false
set_option linter.unusedSimpArgs false

/-! ### route_Least: function 28 -/
def route_Least.f (k : Nat) (l0 : List (S45)) (l1 : List Bool) : Option (Int) := (route_Best.f l0 l1).bind fun t119 => ((route_End.f k t119).bind fun t122 => (some t122))
theorem route_Least.mono : ∀ a0 a1 k, LeO (route_Least.f k a0 a1) (route_Least.f (k + 1) a0 a1) := by
  intro a0 a1 k
  unfold route_Least.f
  repeat' first
      | (with_reducible exact route_End.mono _ _)
      | (with_reducible exact LeO.refl _)
      | (with_reducible exact LeO.none _)
      | (with_reducible refine LeO.ite ?_ ?_)
      | (with_reducible refine LeO.bind ?_ (fun _ => ?_))
      | exact route_End.mono _ _
      | exact LeO.none _
      | refine LeO.ite ?_ ?_
      | refine LeO.bind ?_ (fun _ => ?_)
set_option maxHeartbeats 8000000 in
set_option maxRecDepth 100000 in
theorem route_Least.calls (k : Nat) (A0 : Option Addr) (c0 : Nat) (l0 : List (S45)) (A1 : Option Addr) (c1 : Nat) (l1 : List Bool) (r : Int) (w : World) (hr0 : Kd.C k45 w A0 l0.length l0) (hc0 : l0.length ≤ c0) (hr1 : Kd.C Kd.bool w A1 l1.length l1) (hc1 : l1.length ≤ c1) (h : route_Least.f k l0 l1 = some r) :
    Calls Try.prog 28 #[.slice A0 l0.length c0, .slice A1 l1.length c1] w fun e w' => e = .returned (.int .i64 r) ∧ Below w.heap.size w w' := by
  have HR0 := Aside0.mk hr0
  have HC0 := Aside0.mk hc0
  clear hr0 hc0
  have HR1 := Aside0.mk hr1
  have HC1 := Aside0.mk hc1
  clear hr1 hc1
  have HB := Aside0.mk (Below.refl w.heap.size w)
  have H : ((route_Best.f l0 l1).bind fun t119 => ((route_End.f k t119).bind fun t122 => (some t122))) = some r := h
  clear h
  replace H := Option.bind_eq_some_iff.mp H
  obtain ⟨t119, A30, H⟩ := H
  replace H : ((route_End.f k t119).bind fun t122 => (some t122)) = some r := H
  have A3 := Aside0.mk A30
  clear A30
  replace H := Option.bind_eq_some_iff.mp H
  obtain ⟨t122, A40, H⟩ := H
  replace H : (some t122) = some r := H
  have A4 := Aside0.mk A40
  clear A40
  obtain rfl := Option.some.inj H
  go_enter Try.func28, Try.ntmps28
  go_wp2_with (first | ((with_reducible refine gate_callee (f := 26) rfl ?_); refine goesL_ (some 7) rfl rfl Try.func26 (by kernel_rfl) rfl #[.slice A0 l0.length c0, .slice A1 l1.length c1] rfl (by (try simp only [List.map_toArray, List.map_cons, List.map_nil]); first | done | rfl | (simp only [List.length_drop, List.length_take]; rfl)) ?_; (with_reducible refine (route_Best.calls _ _ l0 _ _ l1 t119 _ ?side1 ?side2 ?side3 ?side4 A3.out).mono ?_); (case side1 => repeat (first | exact HR0.out | (with_reducible refine Kd.C_alloc ?_ _) | (with_reducible refine Kd.C_drewN ?_ _) | (with_reducible refine Kd.C_drew ?_))); (case side2 => exact HC0.out); (case side3 => repeat (first | exact HR1.out | (with_reducible refine Kd.C_alloc ?_ _) | (with_reducible refine Kd.C_drewN ?_ _) | (with_reducible refine Kd.C_drew ?_))); (case side4 => exact HC1.out); rintro e w5 ⟨v120, rfl, ho0, hb⟩; refine ⟨_, rfl, ?_⟩; have n0_ := Aside0.mk (Kd.R_lower ho0 (below_size (by repeat (first | (with_reducible first | exact HB.out | apply below_alloc | apply pw_below_drewN | apply below_drew1) | exact HB.out)))); have n1_ := Aside0.mk (below_step (by repeat (first | (with_reducible first | exact HB.out | apply below_alloc | apply pw_below_drewN | apply below_drew1) | exact HB.out)) hb); clear HB; have HO121 := n0_; have HB := n1_; clear n0_ n1_; (try clear hb); (try clear hb2); (try clear hk); (try clear hi); (try clear ho0); obtain ⟨Ao6, co6, eo6⟩ := Kd.R_slice HO121.out; subst eo6) | ((with_reducible refine gate_callee (f := 45) rfl ?_); refine goesL_ (some 8) rfl rfl Try.func45 (by kernel_rfl) rfl #[.slice Ao6 t119.length co6] rfl (by (try simp only [List.map_toArray, List.map_cons, List.map_nil]); first | done | rfl | (simp only [List.length_drop, List.length_take]; rfl)) ?_; (with_reducible refine (route_End.calls k _ _ t119 t122 _ ?side1 ?side2 A4.out).mono ?_); (case side1 => repeat (first | exact (Kd.R_reads' HO121.out).2.2 | (with_reducible refine Kd.C_alloc ?_ _) | (with_reducible refine Kd.C_drewN ?_ _) | (with_reducible refine Kd.C_drew ?_))); (case side2 => exact (Kd.R_reads' HO121.out).2.1); rintro e w7 ⟨rfl, hb⟩; refine ⟨_, rfl, ?_⟩; have n0_ := Aside0.mk (Kd.R_below (by (with_reducible repeat (first | apply Kd.R_alloc | apply Kd.R_drewN | apply Kd.R_drew)); exact HO121.out) hb); have n1_ := Aside0.mk (below_step (by repeat (first | (with_reducible first | exact HB.out | apply below_alloc | apply pw_below_drewN | apply below_drew1) | exact HB.out)) hb); clear HO121; clear HB; have HO121 := n0_; have HB := n1_; clear n0_ n1_; (try clear hb); (try clear hb2); (try clear hk); (try clear hi)))
  go_ret
  exact ⟨by first | rfl | (simp [errW_none, errW_some] <;> rfl) | (simp [*, errW_none, errW_some] <;> rfl), by repeat (first | (with_reducible first | exact HB.out | apply below_alloc | apply pw_below_drewN | apply below_drew1) | exact HB.out)⟩

/-! ### skiareatop_plansAlive: function 11 -/
def TL2 : List S45 := [⟨1, 10, false, []⟩, ⟨2, 20, false, []⟩]
def SE2 : List S33 := [⟨1, 3, 10⟩, ⟨2, 1, 15⟩]
theorem reps_tasks (W : World) : Reps (k45.K W) k45.sz TL2 [.int .i64 1, .int .i64 10, .bool false, .slice none 0 0, .int .i64 2, .int .i64 20, .bool false, .slice none 0 0] := by
  refine ⟨rfl, fun j p h => ?_⟩
  have g0 : Kd.C (Kd.int .i64) W none ([] : List Int).length [] := ⟨rfl, by simp, fun h => absurd h (by simp)⟩
  match j, h with
  | 0, h =>
    obtain rfl : (⟨1, 10, false, []⟩ : S45) = p := Option.some.inj h
    exact k45_mk W ⟨1, 10, false, []⟩ (A3 := none) (c3 := 0) (Nat.le_refl _) g0
  | 1, h =>
    obtain rfl : (⟨2, 20, false, []⟩ : S45) = p := Option.some.inj h
    exact k45_mk W ⟨2, 20, false, []⟩ (A3 := none) (c3 := 0) (Nat.le_refl _) g0
theorem reps_secs2 (W : World) : Reps (k33.K W) k33.sz SE2 [.int .i64 1, .int .i64 3, .int .i64 10, .int .i64 2, .int .i64 1, .int .i64 15] := by
  refine ⟨rfl, fun j p h => ?_⟩
  match j, h with
  | 0, h =>
    obtain rfl : (⟨1, 3, 10⟩ : S33) = p := Option.some.inj h
    exact k33_mk W ⟨1, 3, 10⟩
  | 1, h =>
    obtain rfl : (⟨2, 1, 15⟩ : S33) = p := Option.some.inj h
    exact k33_mk W ⟨2, 1, 15⟩
theorem reps_bools (W : World) : Reps (Kd.bool.K W) Kd.bool.sz [false, false] [.bool false, .bool false] := by
  refine ⟨rfl, fun j p h => ?_⟩
  match j, h with
  | 0, h => obtain rfl : false = p := Option.some.inj h; rfl
  | 1, h => obtain rfl : false = p := Option.some.inj h; rfl
theorem reps_rows (W : World) (b1 b2 : Nat) (h1 : Kd.C (Kd.int .i64) W (some ⟨b1, 0, none⟩) [5, 1].length [5, 1]) (h2 : Kd.C (Kd.int .i64) W (some ⟨b2, 0, none⟩) [1, 5].length [1, 5]) :
    Reps ((Kd.slice 3 (Kd.int .i64)).K W) (Kd.slice 3 (Kd.int .i64)).sz [[5, 1], [1, 5]] [.slice (some ⟨b1, 0, none⟩) 2 2, .slice (some ⟨b2, 0, none⟩) 2 2] := by
  refine ⟨rfl, fun j p h => ?_⟩
  match j, h with
  | 0, h => obtain rfl : [5, 1] = p := Option.some.inj h; exact ⟨_, _, rfl, Nat.le_refl _, h1⟩
  | 1, h => obtain rfl : [1, 5] = p := Option.some.inj h; exact ⟨_, _, rfl, Nat.le_refl _, h2⟩
theorem best_1 : ∃ r, route_Best.f TL2 [false, false] = some r ∧ r.length = 2 := by
  have h : (route_Best.f TL2 [false, false]).map List.length = some 2 := by kernel_rfl
  obtain ⟨r, h1, h2⟩ := Option.map_eq_some_iff.1 h
  exact ⟨r, h1, h2⟩
theorem plan_1' : ∃ r, rescue_Plan.f SE2 2 = some (r, 15, 0) ∧ r.length = 2 := by
  have h : (rescue_Plan.f SE2 2).map (fun x => (x.1.length, x.2)) = some (2, 15, 0) := by kernel_rfl
  obtain ⟨x, h1, h2⟩ := Option.map_eq_some_iff.1 h
  have e1 := congrArg Prod.fst h2
  have e2 : x.2 = (15, 0) := congrArg Prod.snd h2
  exact ⟨x.1, by rw [h1, ← e2], e1⟩
theorem asg_1 : ∃ r, assign_Best.f 300 [[5, 1], [1, 5]] = some (r, 2, 0) := by
  have h : (assign_Best.f 300 [[5, 1], [1, 5]]).map (fun x => x.2) = some (2, 0) := by kernel_rfl
  obtain ⟨x, h1, h2⟩ := Option.map_eq_some_iff.1 h
  exact ⟨x.1, by rw [h1, ← h2]⟩
theorem least_1 : route_Least.f 300 TL2 [false, false] = some 20 := by kernel_rfl
def skiareatop_plansAlive.f : Option Bool := some true
set_option maxHeartbeats 8000000 in
set_option maxRecDepth 100000 in
theorem plans_calls (w : World) : Calls Try.prog 11 #[] w fun e w' => e = .returned (.bool true) ∧ Below w.heap.size w w' := by
  have hu33 := Try.underlying33
  have hu22 := Try.underlying22
  obtain ⟨rb, hrb, lrb⟩ := best_1
  obtain ⟨rp, hrp, lrp⟩ := plan_1'
  obtain ⟨ra, hra⟩ := asg_1
  have T1 := Aside0.mk (C_block k45 (blk_new w (.cells #[.int .i64 1, .int .i64 10, .bool false, .slice none 0 0, .int .i64 2, .int .i64 20, .bool false, .slice none 0 0] 45)) (xs := TL2) (by decide) (reps_tasks _))
  have B1 := Aside0.mk (below_alloc (Below.refl w.heap.size w) (.cells #[.int .i64 1, .int .i64 10, .bool false, .slice none 0 0, .int .i64 2, .int .i64 20, .bool false, .slice none 0 0] 45))
  obtain ⟨w1, hw1⟩ : ∃ w1, w.alloc (.cells #[.int .i64 1, .int .i64 10, .bool false, .slice none 0 0, .int .i64 2, .int .i64 20, .bool false, .slice none 0 0] 45) = w1 := ⟨_, rfl⟩
  rw [hw1] at T1 B1
  have HT : Aside0 (∀ W, Below w1.heap.size w1 W → Kd.C k45 W (some ⟨w.heap.size, 0, none⟩) TL2.length TL2) := ⟨fun W h => Kd.C_below T1.out h⟩
  have BLIT : Aside0 (∀ W : World, Kd.C Kd.bool (W.alloc (.cells #[.bool false, .bool false] 4)) (some ⟨W.heap.size, 0, none⟩) [false, false].length [false, false]) := ⟨fun W => C_block Kd.bool (blk_new W _) (by decide) (reps_bools _)⟩
  clear T1
  go_enter Try.func11, Try.ntmps11
  go_wp2_with (fail)
  try rw [hw1]
  clear hw1
  refine (route_Best.calls (some ⟨w.heap.size, 0, none⟩) 2 TL2 (some ⟨w1.heap.size, 0, none⟩) 2 [false, false] rb _ (HT.out _ (below_alloc (Below.refl _ _) _)) (by decide) (BLIT.out w1) (by decide) hrb).mono ?_
  rintro e w2 ⟨v2, rfl, hR2, hb2⟩
  obtain ⟨A2, c2, rfl, hc2, hC2⟩ := Kd.R_reads hR2
  rw [lrb]
  have X2 := Aside0.mk (below_then (below_alloc (Below.refl w1.heap.size w1) _) (below_alloc (Below.refl w1.heap.size w1) _).size hb2)
  clear hR2 hb2 hc2 hC2 hrb
  go_wp2_with (fail)
  refine (rescue_Plan.calls (some ⟨w2.heap.size, 0, none⟩) 2 SE2 2 rp 15 0 _ (C_block k33 (blk_new w2 _) (xs := SE2) (by decide) (reps_secs2 _)) (by decide) hrp).mono ?_
  rintro e w3 ⟨v3, rfl, hR3, hb3⟩
  obtain ⟨A3, c3, rfl, hc3, hC3⟩ := Kd.R_reads hR3
  rw [lrp]
  have X3 := Aside0.mk (below_then (below_alloc X2.out _) (below_alloc X2.out _).size hb3)
  clear hR3 hb3 hc3 hC3 hrp X2
  have R1 := Aside0.mk (Kd.C_alloc (Kd.C_alloc (lit_ints w3 [5, 1] (by decide)) (.cells #[.int .i64 1, .int .i64 5] 3)) (.cells #[.slice (some ⟨w3.heap.size, 0, none⟩) 2 2, .slice (some ⟨w3.heap.size + 1, 0, none⟩) 2 2] 43))
  have e1 : (w3.alloc (.cells #[.int .i64 5, .int .i64 1] 3)).heap.size = w3.heap.size + 1 := by simp
  have R2 := Aside0.mk (Kd.C_alloc (lit_ints (w3.alloc (.cells #[.int .i64 5, .int .i64 1] 3)) [1, 5] (by decide)) (.cells #[.slice (some ⟨w3.heap.size, 0, none⟩) 2 2, .slice (some ⟨w3.heap.size + 1, 0, none⟩) 2 2] 43))
  rw [e1] at R2
  have e2 : ((w3.alloc (.cells #[.int .i64 5, .int .i64 1] 3)).alloc (.cells #[.int .i64 1, .int .i64 5] 3)).heap.size = w3.heap.size + 2 := by simp
  have R3 := Aside0.mk (blk_new ((w3.alloc (.cells #[.int .i64 5, .int .i64 1] 3)).alloc (.cells #[.int .i64 1, .int .i64 5] 3)) (.cells #[.slice (some ⟨w3.heap.size, 0, none⟩) 2 2, .slice (some ⟨w3.heap.size + 1, 0, none⟩) 2 2] 43))
  rw [e2] at R3
  have RC := Aside0.mk (C_block (Kd.slice 3 (Kd.int .i64)) R3.out (xs := [[5, 1], [1, 5]]) (by decide) (reps_rows _ w3.heap.size (w3.heap.size + 1) R1.out R2.out))
  clear R1 R2 R3 e1 e2
  go_wp2_with (fail)
  refine (assign_Best.calls 300 (some ⟨w3.heap.size + 2, 0, none⟩) 2 [[5, 1], [1, 5]] ra 2 0 _ RC.out (by decide) hra).mono ?_
  rintro e w4 ⟨v4, rfl, hR4, hb4⟩
  have X4 := Aside0.mk (below_then (below_alloc (below_alloc (below_alloc X3.out _) _) _) (below_alloc (below_alloc (below_alloc X3.out _) _) _).size hb4)
  clear hR4 hb4 hra X3 RC
  go_wp2_with (fail)
  refine (route_Least.calls 300 (some ⟨w.heap.size, 0, none⟩) 2 TL2 (some ⟨w4.heap.size, 0, none⟩) 2 [false, false] 20 _ (HT.out _ (below_alloc X4.out _)) (by decide) (BLIT.out w4) (by decide) least_1).mono ?_
  rintro e w5 ⟨rfl, hb5⟩
  have X5 := Aside0.mk (below_then (below_alloc X4.out _) (below_alloc X4.out _).size hb5)
  clear hb5 X4
  go_wp2_with (fail)
  go_ret
  exact ⟨rfl, below_then B1.out B1.out.size X5.out⟩
theorem skiareatop_plansAlive.calls (r : Bool) (w : World) (h : skiareatop_plansAlive.f = some r) :
    Calls Try.prog 11 #[] w fun e w' => e = .returned (.bool r) ∧ Below w.heap.size w w' := by
  obtain rfl := Option.some.inj h
  exact plans_calls w

end Go.Proofs.Ytedejkhopjhnbaa.P
