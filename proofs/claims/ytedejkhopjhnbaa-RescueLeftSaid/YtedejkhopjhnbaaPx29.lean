-- Printed for this claim by a program of the session, out of Lean's own print of the translation.
import Derived.Test.YtedejkhopjhnbaaPx0
import Derived.Test.YtedejkhopjhnbaaPx24
import Derived.Test.YtedejkhopjhnbaaPx28
namespace Go.Proofs.Ytedejkhopjhnbaa.P
open Go.RowKit Go.Proofs.YtedejkhopjhnbaaW.PrintWords Go.Proofs.YtedejkhopjhnbaaW.PrintLast Go.Proofs.YtedejkhopjhnbaaW.PrintMore
attribute [local go_sem] max2_int min2_int max_two min_two max_three min_three max_four min_four   -- for this text's walks alone
set_option linter.unusedVariables false
set_option linter.unusedSimpArgs false

/-! ### skiarearef21_Valid: function 22 -/
mutual
def skiarearef21_Valid.l0 : Nat → List (S33) → Int → List (S35) → Int → Option (Bool)
  | 0, _, _, _, _ => none
  | k + 1, x0, x1, x2, x7 => if x7 < (x2.length : Int) then (if 0 ≤ x7 then ((skiarearef21_find.f k x0 ((rd_T35 x2 x7).f1)).bind fun bt239 => (if bt239.2.2.2 = true then (if ((rd_T35 x2 x7).f0) < 1 then (skiarearef21_Valid.j1 k x0 x1 x2 x7 true ((rd_T35 x2 x7).f0) ((rd_T35 x2 x7).f1) ((rd_T35 x2 x7).f2) ((rd_T35 x2 x7).f3)) else (if ((rd_T35 x2 x7).f0) > x1 then (skiarearef21_Valid.j1 k x0 x1 x2 x7 true ((rd_T35 x2 x7).f0) ((rd_T35 x2 x7).f1) ((rd_T35 x2 x7).f2) ((rd_T35 x2 x7).f3)) else (if ((rd_T35 x2 x7).f2) < 0 then (skiarearef21_Valid.j1 k x0 x1 x2 x7 true ((rd_T35 x2 x7).f0) ((rd_T35 x2 x7).f1) ((rd_T35 x2 x7).f2) ((rd_T35 x2 x7).f3)) else (if ((rd_T35 x2 x7).f3) < ((rd_T35 x2 x7).f2) then (skiarearef21_Valid.j1 k x0 x1 x2 x7 true ((rd_T35 x2 x7).f0) ((rd_T35 x2 x7).f1) ((rd_T35 x2 x7).f2) ((rd_T35 x2 x7).f3)) else (skiarearef21_Valid.j1 k x0 x1 x2 x7 ((wrap64 (((rd_T35 x2 x7).f3) - ((rd_T35 x2 x7).f2))) != bt239.2.2.1) ((rd_T35 x2 x7).f0) ((rd_T35 x2 x7).f1) ((rd_T35 x2 x7).f2) ((rd_T35 x2 x7).f3)))))) else (skiarearef21_Valid.j1 k x0 x1 x2 x7 true ((rd_T35 x2 x7).f0) ((rd_T35 x2 x7).f1) ((rd_T35 x2 x7).f2) ((rd_T35 x2 x7).f3)))) else (none)) else (some true)
def skiarearef21_Valid.j1 : Nat → List (S33) → Int → List (S35) → Int → Bool → Int → Int → Int → Int → Option (Bool)
  | 0, _, _, _, _, _, _, _, _, _ => none
  | k + 1, x0, x1, x2, x7, x70, x239000, x239001, x239002, x239003 => if x70 = true then (some false) else (skiarearef21_Valid.l1 k x0 x1 x2 x7 0 x239000 x239001 x239002 x239003)
def skiarearef21_Valid.l1 : Nat → List (S33) → Int → List (S35) → Int → Int → Int → Int → Int → Int → Option (Bool)
  | 0, _, _, _, _, _, _, _, _, _ => none
  | k + 1, x0, x1, x2, x7, x11, x239000, x239001, x239002, x239003 => if x11 < x7 then (if 0 ≤ x11 then (if x11 < (x2.length : Int) then (if ((rd_T35 x2 x11).f1) = x239001 then (some false) else (if ((rd_T35 x2 x11).f0) = x239000 then (if ((rd_T35 x2 x11).f2) < x239003 then (if x239002 < ((rd_T35 x2 x11).f3) then (some false) else (skiarearef21_Valid.l1 k x0 x1 x2 x7 (wrap64 (x11 + 1)) x239000 x239001 x239002 x239003)) else (skiarearef21_Valid.l1 k x0 x1 x2 x7 (wrap64 (x11 + 1)) x239000 x239001 x239002 x239003)) else (skiarearef21_Valid.l1 k x0 x1 x2 x7 (wrap64 (x11 + 1)) x239000 x239001 x239002 x239003))) else (none)) else (none)) else (skiarearef21_Valid.l0 k x0 x1 x2 (wrap64 (x7 + 1)))
end
def skiarearef21_Valid.f (k : Nat) (l0 : List (S33)) (a1 : Int) (l2 : List (S35)) : Option (Bool) := (skiarearef21_need.f k l0).bind fun t234 => (if (l2.length : Int) = (t234.length : Int) then (skiarearef21_Valid.l0 k l0 a1 l2 0) else (some false))
theorem skiarearef21_Valid.mono_l : ∀ k, (∀ y0 y1 y2 y3, LeO (skiarearef21_Valid.l0 k y0 y1 y2 y3) (skiarearef21_Valid.l0 (k + 1) y0 y1 y2 y3)) ∧ (∀ y0 y1 y2 y3 y4 y5 y6 y7 y8, LeO (skiarearef21_Valid.j1 k y0 y1 y2 y3 y4 y5 y6 y7 y8) (skiarearef21_Valid.j1 (k + 1) y0 y1 y2 y3 y4 y5 y6 y7 y8)) ∧ (∀ y0 y1 y2 y3 y4 y5 y6 y7 y8, LeO (skiarearef21_Valid.l1 k y0 y1 y2 y3 y4 y5 y6 y7 y8) (skiarearef21_Valid.l1 (k + 1) y0 y1 y2 y3 y4 y5 y6 y7 y8))
  | 0 => ⟨fun _ _ _ _ r h => by simp [skiarearef21_Valid.l0] at h, fun _ _ _ _ _ _ _ _ _ r h => by simp [skiarearef21_Valid.j1] at h, fun _ _ _ _ _ _ _ _ _ r h => by simp [skiarearef21_Valid.l1] at h⟩
  | k + 1 => by
    obtain ⟨ih0, ih1, ih2⟩ := skiarearef21_Valid.mono_l k
    refine ⟨?_, ?_, ?_⟩
    · intro y0 y1 y2 y3
      unfold skiarearef21_Valid.l0
      repeat' first
      | (with_reducible exact ih0 _ _ _ _)
      | (with_reducible exact ih1 _ _ _ _ _ _ _ _ _)
      | (with_reducible exact ih2 _ _ _ _ _ _ _ _ _)
      | (with_reducible exact skiarearef21_find.mono _ _ _)
      | (with_reducible exact skiarearef21_need.mono _ _)
      | (with_reducible exact LeO.refl _)
      | (with_reducible exact LeO.none _)
      | (with_reducible refine LeO.ite ?_ ?_)
      | (with_reducible refine LeO.bind ?_ (fun _ => ?_))
      | exact ih0 _ _ _ _
      | exact ih1 _ _ _ _ _ _ _ _ _
      | exact ih2 _ _ _ _ _ _ _ _ _
      | exact skiarearef21_find.mono _ _ _
      | exact skiarearef21_need.mono _ _
      | exact LeO.none _
      | refine LeO.ite ?_ ?_
      | refine LeO.bind ?_ (fun _ => ?_)
    · intro y0 y1 y2 y3 y4 y5 y6 y7 y8
      unfold skiarearef21_Valid.j1
      repeat' first
      | (with_reducible exact ih0 _ _ _ _)
      | (with_reducible exact ih1 _ _ _ _ _ _ _ _ _)
      | (with_reducible exact ih2 _ _ _ _ _ _ _ _ _)
      | (with_reducible exact skiarearef21_find.mono _ _ _)
      | (with_reducible exact skiarearef21_need.mono _ _)
      | (with_reducible exact LeO.refl _)
      | (with_reducible exact LeO.none _)
      | (with_reducible refine LeO.ite ?_ ?_)
      | (with_reducible refine LeO.bind ?_ (fun _ => ?_))
      | exact ih0 _ _ _ _
      | exact ih1 _ _ _ _ _ _ _ _ _
      | exact ih2 _ _ _ _ _ _ _ _ _
      | exact skiarearef21_find.mono _ _ _
      | exact skiarearef21_need.mono _ _
      | exact LeO.none _
      | refine LeO.ite ?_ ?_
      | refine LeO.bind ?_ (fun _ => ?_)
    · intro y0 y1 y2 y3 y4 y5 y6 y7 y8
      unfold skiarearef21_Valid.l1
      repeat' first
      | (with_reducible exact ih0 _ _ _ _)
      | (with_reducible exact ih1 _ _ _ _ _ _ _ _ _)
      | (with_reducible exact ih2 _ _ _ _ _ _ _ _ _)
      | (with_reducible exact skiarearef21_find.mono _ _ _)
      | (with_reducible exact skiarearef21_need.mono _ _)
      | (with_reducible exact LeO.refl _)
      | (with_reducible exact LeO.none _)
      | (with_reducible refine LeO.ite ?_ ?_)
      | (with_reducible refine LeO.bind ?_ (fun _ => ?_))
      | exact ih0 _ _ _ _
      | exact ih1 _ _ _ _ _ _ _ _ _
      | exact ih2 _ _ _ _ _ _ _ _ _
      | exact skiarearef21_find.mono _ _ _
      | exact skiarearef21_need.mono _ _
      | exact LeO.none _
      | refine LeO.ite ?_ ?_
      | refine LeO.bind ?_ (fun _ => ?_)
theorem skiarearef21_Valid.mono : ∀ a0 a1 a2 k, LeO (skiarearef21_Valid.f k a0 a1 a2) (skiarearef21_Valid.f (k + 1) a0 a1 a2) := by
  intro a0 a1 a2 k
  obtain ⟨ih0, ih1, ih2⟩ := skiarearef21_Valid.mono_l k
  unfold skiarearef21_Valid.f
  repeat' first
      | (with_reducible exact ih0 _ _ _ _)
      | (with_reducible exact ih1 _ _ _ _ _ _ _ _ _)
      | (with_reducible exact ih2 _ _ _ _ _ _ _ _ _)
      | (with_reducible exact skiarearef21_find.mono _ _ _)
      | (with_reducible exact skiarearef21_need.mono _ _)
      | (with_reducible exact LeO.refl _)
      | (with_reducible exact LeO.none _)
      | (with_reducible refine LeO.ite ?_ ?_)
      | (with_reducible refine LeO.bind ?_ (fun _ => ?_))
      | exact ih0 _ _ _ _
      | exact ih1 _ _ _ _ _ _ _ _ _
      | exact ih2 _ _ _ _ _ _ _ _ _
      | exact skiarearef21_find.mono _ _ _
      | exact skiarearef21_need.mono _ _
      | exact LeO.none _
      | refine LeO.ite ?_ ?_
      | refine LeO.bind ?_ (fun _ => ?_)
set_option maxHeartbeats 8000000 in
set_option maxRecDepth 100000 in
theorem skiarearef21_Valid.calls (k : Nat) (A0 : Option Addr) (c0 : Nat) (l0 : List (S33)) (a1 : Int) (A2 : Option Addr) (c2 : Nat) (l2 : List (S35)) (r : Bool) (w : World) (hr0 : Kd.C k33 w A0 l0.length l0) (hc0 : l0.length ≤ c0) (hr2 : Kd.C k35 w A2 l2.length l2) (hc2 : l2.length ≤ c2) (h : skiarearef21_Valid.f k l0 a1 l2 = some r) :
    Calls Try.prog 22 #[.slice A0 l0.length c0, .int .i64 a1, .slice A2 l2.length c2] w fun e w' => e = .returned (.bool r) ∧ Below w.heap.size w w' := by
  have hu35 := Try.underlying35
  have hu33 := Try.underlying33
  have HR0 := Aside0.mk hr0
  have HC0 := Aside0.mk hc0
  clear hr0 hc0
  have HR2 := Aside0.mk hr2
  have HC2 := Aside0.mk hc2
  clear hr2 hc2
  have HB := Aside0.mk (Below.refl w.heap.size w)
  have H : ((skiarearef21_need.f k l0).bind fun t234 => (if (l2.length : Int) = (t234.length : Int) then (skiarearef21_Valid.l0 k l0 a1 l2 0) else (some false))) = some r := h
  clear h
  replace H := Option.bind_eq_some_iff.mp H
  obtain ⟨t234, A40, H⟩ := H
  replace H : (if (l2.length : Int) = (t234.length : Int) then (skiarearef21_Valid.l0 k l0 a1 l2 0) else (some false)) = some r := H
  have A4 := Aside0.mk A40
  clear A40
  by_cases c5 : (l2.length : Int) = (t234.length : Int)
  · rw [if_pos c5] at H
    have c5b0 : ((l2.length : Int) == (t234.length : Int)) = true := beq_iff_eq.mpr c5
    have c5b1 : ((l2.length : Int) != (t234.length : Int)) = false := bne_eq_false_iff_eq.mpr c5
    have c5b2 : (l2.length == t234.length) = true := by first | simpa using c5 | (simp at c5 ⊢; omega)
    clear c5
    have H' := Aside0.mk H
    clear H
    go_enter Try.func22, Try.ntmps22
    go_wp2_with (first | ((with_reducible refine gate_callee (f := 39) rfl ?_); refine goesL_ (some 16) rfl rfl Try.func39 (by kernel_rfl) rfl #[.slice A0 l0.length c0] rfl (by (try simp only [List.map_toArray, List.map_cons, List.map_nil]); first | done | rfl | (simp only [List.length_drop, List.length_take]; rfl)) ?_; (with_reducible refine (skiarearef21_need.calls k _ _ l0 t234 _ ?side1 ?side2 A4.out).mono ?_); (case side1 => repeat (first | exact HR0.out | (with_reducible refine Kd.C_alloc ?_ _) | (with_reducible refine Kd.C_drewN ?_ _) | (with_reducible refine Kd.C_drew ?_))); (case side2 => exact HC0.out); rintro e w6 ⟨v235, rfl, ho0, hb⟩; refine ⟨_, rfl, ?_⟩; have n0_ := Aside0.mk (Kd.R_lower ho0 (below_size (by repeat (first | (with_reducible first | exact HB.out | apply below_alloc | apply pw_below_drewN | apply below_drew1) | exact HB.out)))); have n1_ := Aside0.mk (below_step (by repeat (first | (with_reducible first | exact HB.out | apply below_alloc | apply pw_below_drewN | apply below_drew1) | exact HB.out)) hb); clear HB; have HO236 := n0_; have HB := n1_; clear n0_ n1_; (try clear hb); (try clear hb2); (try clear hk); (try clear hi); (try clear ho0); obtain ⟨Ao7, co7, eo7⟩ := Kd.R_slice HO236.out; subst eo7))
    go_loopg [7] k (fun kq v7 w' => ∃ (x7_1 : Int), v7 = .int .i64 x7_1 ∧ Aside0 (skiarearef21_Valid.l0 kq l0 a1 l2 x7_1 = some r) ∧ Aside0 (kq ≤ k) ∧ Aside0 (Below w.heap.size w w'))
    case atStart => exact ⟨(0), (by first | rfl | (simp; done) | (simp [*]; done)), H', ⟨Nat.le_refl _⟩, ⟨by repeat (first | (with_reducible first | exact HB.out | apply below_alloc | apply pw_below_drewN | apply below_drew1) | exact HB.out)⟩⟩
    case round =>
      clear H'
      try clear c2
      try clear p2
      try clear c3
      try clear c5
      try clear c5b0
      try clear c5b1
      try clear c5b2
      obtain ⟨x7_1, rfl, HA, HK1, HB⟩ := hrel
      cases gk with
      | zero => exact absurd HA.out (by simp [skiarearef21_Valid.l0])
      | succ k1 =>
        have H := HA.out
        clear HA
        simp only [skiarearef21_Valid.l0] at H
        by_cases c8 : x7_1 < (l2.length : Int)
        · rw [if_pos c8] at H
          have c8b0 : decide (x7_1 < (l2.length : Int)) = true := decide_eq_true c8
          clear c8
          by_cases c9 : 0 ≤ x7_1
          · rw [if_pos c9] at H
            have c9b0 : decide (0 ≤ x7_1) = true := decide_eq_true c9
            clear c9
            replace H := Option.bind_eq_some_iff.mp H
            obtain ⟨⟨t239, t240, t241, t242⟩, A100, H⟩ := H
            replace H : (if t242 = true then (if ((rd_T35 l2 x7_1).f0) < 1 then (skiarearef21_Valid.j1 k1 l0 a1 l2 x7_1 true ((rd_T35 l2 x7_1).f0) ((rd_T35 l2 x7_1).f1) ((rd_T35 l2 x7_1).f2) ((rd_T35 l2 x7_1).f3)) else (if ((rd_T35 l2 x7_1).f0) > a1 then (skiarearef21_Valid.j1 k1 l0 a1 l2 x7_1 true ((rd_T35 l2 x7_1).f0) ((rd_T35 l2 x7_1).f1) ((rd_T35 l2 x7_1).f2) ((rd_T35 l2 x7_1).f3)) else (if ((rd_T35 l2 x7_1).f2) < 0 then (skiarearef21_Valid.j1 k1 l0 a1 l2 x7_1 true ((rd_T35 l2 x7_1).f0) ((rd_T35 l2 x7_1).f1) ((rd_T35 l2 x7_1).f2) ((rd_T35 l2 x7_1).f3)) else (if ((rd_T35 l2 x7_1).f3) < ((rd_T35 l2 x7_1).f2) then (skiarearef21_Valid.j1 k1 l0 a1 l2 x7_1 true ((rd_T35 l2 x7_1).f0) ((rd_T35 l2 x7_1).f1) ((rd_T35 l2 x7_1).f2) ((rd_T35 l2 x7_1).f3)) else (skiarearef21_Valid.j1 k1 l0 a1 l2 x7_1 ((wrap64 (((rd_T35 l2 x7_1).f3) - ((rd_T35 l2 x7_1).f2))) != t241) ((rd_T35 l2 x7_1).f0) ((rd_T35 l2 x7_1).f1) ((rd_T35 l2 x7_1).f2) ((rd_T35 l2 x7_1).f3)))))) else (skiarearef21_Valid.j1 k1 l0 a1 l2 x7_1 true ((rd_T35 l2 x7_1).f0) ((rd_T35 l2 x7_1).f1) ((rd_T35 l2 x7_1).f2) ((rd_T35 l2 x7_1).f3))) = some r := H
            have A10 := Aside0.mk A100
            clear A100
            have HC11 := Aside0.mk H
            clear H
            have p237 : 0 ≤ (x7_1 : Int) := of_decide_eq_true (by first | (with_reducible assumption) | assumption)
            have q237 : x7_1 < (l2.length : Int) := of_decide_eq_true (by first | (with_reducible assumption) | assumption)
            obtain ⟨ad237, e237, hx237_0, hx237_1, hx237_2, hx237_3⟩ := at_T35 HR2.out x7_1 p237 q237
            cases e237
            replace hx237_0 := (HB.out.cell (World.block_lt_of_cell? w _ hx237_0)).trans hx237_0
            replace hx237_1 := (HB.out.cell (World.block_lt_of_cell? w _ hx237_1)).trans hx237_1
            replace hx237_2 := (HB.out.cell (World.block_lt_of_cell? w _ hx237_2)).trans hx237_2
            replace hx237_3 := (HB.out.cell (World.block_lt_of_cell? w _ hx237_3)).trans hx237_3
            replace p237 := eq_true p237
            replace q237 := eq_true q237
            go_upto_region 8 with (first | ((with_reducible refine gate_dst (N := 8) rfl ?_); refine box_event ?hg (N := 8) ?hd (cs := #[.int .i64 0, .int .i64 0, .int .i64 0, .int .i64 0]) (t := 35) ?hr ?_; (case hd => rfl); (case hg => rfl); (case hr => first | (go_simp; done) | (go_simp; rfl)); intro gb238 hg w12 hbox hb; have n0_ := Aside0.mk (below_step (by repeat (first | (with_reducible first | exact HB.out | apply below_alloc | apply pw_below_drewN | apply below_drew1) | exact HB.out)) hb); have n1_ := Aside0.mk (hbox); have n2_ := Aside0.mk ((by rw [hg]; exact (below_size (by repeat (first | (with_reducible first | exact HB.out | apply below_alloc | apply pw_below_drewN | apply below_drew1) | exact HB.out))) : w.heap.size ≤ gb238)); have n3_ := Aside0.mk ((by rw [hg]; exact (below_size (by repeat (first | (with_reducible first | exact HB.out | apply below_alloc | apply pw_below_drewN | apply below_drew1) | exact HB.out))) : w.heap.size ≤ gb238)); clear HB; have HB := n0_; have BK238 := n1_; have GW238 := n2_; have GE238 := n3_; clear n0_ n1_ n2_ n3_; clear hb hbox hg; have hcz13_0 : w12.cell? ⟨gb238, 0, none⟩ = some (.int .i64 0) := (blk_cell BK238.out 0).trans rfl; have hcz13_1 : w12.cell? ⟨gb238, 1, none⟩ = some (.int .i64 0) := (blk_cell BK238.out 1).trans rfl; have hcz13_2 : w12.cell? ⟨gb238, 2, none⟩ = some (.int .i64 0) := (blk_cell BK238.out 2).trans rfl; have hcz13_3 : w12.cell? ⟨gb238, 3, none⟩ = some (.int .i64 0) := (blk_cell BK238.out 3).trans rfl; have hfz13_0 := blk_frozen BK238.out 0; have hfz13_1 := blk_frozen BK238.out 1; have hfz13_2 := blk_frozen BK238.out 2; have hfz13_3 := blk_frozen BK238.out 3) | ((with_reducible refine gate_callee (f := 41) rfl ?_); refine goesL_ (some 33) rfl rfl Try.func41 (by kernel_rfl) rfl #[.slice A0 l0.length c0, .int .i64 ((rd_T35 l2 x7_1).f1)] rfl (by (try simp only [List.map_toArray, List.map_cons, List.map_nil]); first | done | rfl | (simp only [List.length_drop, List.length_take]; rfl)) ?_; (with_reducible refine (skiarearef21_find.calls k1 _ _ l0 ((rd_T35 l2 x7_1).f1) t239 t240 t241 t242 _ ?side1 ?side2 A10.out).mono ?_); (case side1 => exact Kd.C_below HR0.out (by repeat (first | (with_reducible first | exact HB.out | apply below_alloc | apply pw_below_drewN | apply below_drew1 | refine below_set ?_ GE238.out) | exact HB.out))); (case side2 => exact HC0.out); rintro e w14 ⟨rfl, hb⟩; refine ⟨_, rfl, ?_⟩; have n0_ := Aside0.mk (blk_below (g := gb238) (o := .cells #[.int .i64 ((rd_T35 l2 x7_1).f0), .int .i64 ((rd_T35 l2 x7_1).f1), .int .i64 ((rd_T35 l2 x7_1).f2), .int .i64 ((rd_T35 l2 x7_1).f3)] 35 (0, 0)) (by (with_reducible repeat (first | refine blk_drewN ?_ _ | refine blk_drew ?_ | refine blk_alloc ?_ _)); refine blk_put (cs := #[.int .i64 ((rd_T35 l2 x7_1).f0), .int .i64 ((rd_T35 l2 x7_1).f1), .int .i64 ((rd_T35 l2 x7_1).f2), .int .i64 0]) ?_ 3 _ rfl; (with_reducible repeat (first | refine blk_drewN ?_ _ | refine blk_drew ?_ | refine blk_alloc ?_ _)); refine blk_put (cs := #[.int .i64 ((rd_T35 l2 x7_1).f0), .int .i64 ((rd_T35 l2 x7_1).f1), .int .i64 0, .int .i64 0]) ?_ 2 _ rfl; (with_reducible repeat (first | refine blk_drewN ?_ _ | refine blk_drew ?_ | refine blk_alloc ?_ _)); refine blk_put (cs := #[.int .i64 ((rd_T35 l2 x7_1).f0), .int .i64 0, .int .i64 0, .int .i64 0]) ?_ 1 _ rfl; (with_reducible repeat (first | refine blk_drewN ?_ _ | refine blk_drew ?_ | refine blk_alloc ?_ _)); refine blk_put (cs := #[.int .i64 0, .int .i64 0, .int .i64 0, .int .i64 0]) ?_ 0 _ rfl; (with_reducible repeat (first | refine blk_drewN ?_ _ | refine blk_drew ?_ | refine blk_alloc ?_ _)); exact BK238.out) hb); have n1_ := Aside0.mk (below_step (by repeat (first | (with_reducible first | exact HB.out | apply below_alloc | apply pw_below_drewN | apply below_drew1 | refine below_set ?_ GE238.out) | exact HB.out)) hb); clear BK238; clear HB; have BK238 := n0_; have HB := n1_; clear n0_ n1_; (try clear hb); (try clear hb2); (try clear hk); (try clear hi)) | ((with_reducible refine gate_dst (N := 9) rfl ?_); refine box_event ?hg (N := 9) ?hd (cs := #[.int .i64 0, .int .i64 0, .int .i64 0]) (t := 33) ?hr ?_; (case hd => rfl); (case hg => rfl); (case hr => first | (go_simp; done) | (go_simp; rfl)); intro gb243 hg w15 hbox hb; have n0_ := Aside0.mk (blk_below (g := gb238) (o := .cells #[.int .i64 ((rd_T35 l2 x7_1).f0), .int .i64 ((rd_T35 l2 x7_1).f1), .int .i64 ((rd_T35 l2 x7_1).f2), .int .i64 ((rd_T35 l2 x7_1).f3)] 35 (0, 0)) (by (with_reducible repeat (first | refine blk_drewN ?_ _ | refine blk_drew ?_ | refine blk_alloc ?_ _)); exact BK238.out) hb); have n1_ := Aside0.mk (below_step (by repeat (first | (with_reducible first | exact HB.out | apply below_alloc | apply pw_below_drewN | apply below_drew1 | refine below_set ?_ GE238.out) | exact HB.out)) hb); have n2_ := Aside0.mk (hbox); have n3_ := Aside0.mk ((by rw [hg]; exact (below_size (by repeat (first | (with_reducible first | exact HB.out | apply below_alloc | apply pw_below_drewN | apply below_drew1 | refine below_set ?_ GE238.out) | exact HB.out))) : w.heap.size ≤ gb243)); have n4_ := Aside0.mk ((by rw [hg]; exact (below_size (by repeat (first | (with_reducible first | exact HB.out | apply below_alloc | apply pw_below_drewN | apply below_drew1 | refine below_set ?_ GE238.out) | exact HB.out))) : w.heap.size ≤ gb243)); have n5_ := Aside0.mk ((by rw [hg]; exact Nat.ne_of_lt (blk_lt (g := gb238) (o := .cells #[.int .i64 ((rd_T35 l2 x7_1).f0), .int .i64 ((rd_T35 l2 x7_1).f1), .int .i64 ((rd_T35 l2 x7_1).f2), .int .i64 ((rd_T35 l2 x7_1).f3)] 35 (0, 0)) (by (with_reducible repeat (first | refine blk_drewN ?_ _ | refine blk_drew ?_ | refine blk_alloc ?_ _)); exact BK238.out)) : gb238 ≠ gb243)); have n6_ := Aside0.mk ((by rw [hg]; exact Nat.ne_of_gt (blk_lt (g := gb238) (o := .cells #[.int .i64 ((rd_T35 l2 x7_1).f0), .int .i64 ((rd_T35 l2 x7_1).f1), .int .i64 ((rd_T35 l2 x7_1).f2), .int .i64 ((rd_T35 l2 x7_1).f3)] 35 (0, 0)) (by (with_reducible repeat (first | refine blk_drewN ?_ _ | refine blk_drew ?_ | refine blk_alloc ?_ _)); exact BK238.out)) : gb243 ≠ gb238)); clear BK238; clear HB; have BK238 := n0_; have HB := n1_; have BK243 := n2_; have GW243 := n3_; have GE243 := n4_; have NB238_243 := n5_; have NB243_238 := n6_; clear n0_ n1_ n2_ n3_ n4_ n5_ n6_; clear hb hbox hg; have hnb16 := NB243_238.out; have hnc16 := NB238_243.out; have hcz17_0 : w15.cell? ⟨gb243, 0, none⟩ = some (.int .i64 0) := (blk_cell BK243.out 0).trans rfl; have hcz17_1 : w15.cell? ⟨gb243, 1, none⟩ = some (.int .i64 0) := (blk_cell BK243.out 1).trans rfl; have hcz17_2 : w15.cell? ⟨gb243, 2, none⟩ = some (.int .i64 0) := (blk_cell BK243.out 2).trans rfl; have hfz17_0 := blk_frozen BK243.out 0; have hfz17_1 := blk_frozen BK243.out 1; have hfz17_2 := blk_frozen BK243.out 2))
            (try simp only [Act.put, List.setIfInBounds_toArray, List.set_cons_zero, List.set_cons_succ])
            go_cut [70] (fun v70 wc => ∃ (kq : Nat) (x70_10 : Bool), v70 = .bool x70_10 ∧ Aside0 (skiarearef21_Valid.j1 kq l0 a1 l2 x7_1 x70_10 ((rd_T35 l2 x7_1).f0) ((rd_T35 l2 x7_1).f1) ((rd_T35 l2 x7_1).f2) ((rd_T35 l2 x7_1).f3) = some r) ∧ Aside0 (kq ≤ k1) ∧ Aside0 (wc.heap[gb238]? = some (.cells #[.int .i64 ((rd_T35 l2 x7_1).f0), .int .i64 ((rd_T35 l2 x7_1).f1), .int .i64 ((rd_T35 l2 x7_1).f2), .int .i64 ((rd_T35 l2 x7_1).f3)] 35 (0, 0))) ∧ Aside0 (wc.heap[gb243]? = some (.cells #[.int .i64 t239, .int .i64 t240, .int .i64 t241] 33 (0, 0))) ∧ Aside0 (Below w.heap.size w wc))
            case first =>
              have H := HC11.out
              clear HC11
              by_cases c18 : t242 = true
              · subst c18
                have H1 : (if ((rd_T35 l2 x7_1).f0) < 1 then (skiarearef21_Valid.j1 k1 l0 a1 l2 x7_1 true ((rd_T35 l2 x7_1).f0) ((rd_T35 l2 x7_1).f1) ((rd_T35 l2 x7_1).f2) ((rd_T35 l2 x7_1).f3)) else (if ((rd_T35 l2 x7_1).f0) > a1 then (skiarearef21_Valid.j1 k1 l0 a1 l2 x7_1 true ((rd_T35 l2 x7_1).f0) ((rd_T35 l2 x7_1).f1) ((rd_T35 l2 x7_1).f2) ((rd_T35 l2 x7_1).f3)) else (if ((rd_T35 l2 x7_1).f2) < 0 then (skiarearef21_Valid.j1 k1 l0 a1 l2 x7_1 true ((rd_T35 l2 x7_1).f0) ((rd_T35 l2 x7_1).f1) ((rd_T35 l2 x7_1).f2) ((rd_T35 l2 x7_1).f3)) else (if ((rd_T35 l2 x7_1).f3) < ((rd_T35 l2 x7_1).f2) then (skiarearef21_Valid.j1 k1 l0 a1 l2 x7_1 true ((rd_T35 l2 x7_1).f0) ((rd_T35 l2 x7_1).f1) ((rd_T35 l2 x7_1).f2) ((rd_T35 l2 x7_1).f3)) else (skiarearef21_Valid.j1 k1 l0 a1 l2 x7_1 ((wrap64 (((rd_T35 l2 x7_1).f3) - ((rd_T35 l2 x7_1).f2))) != t241) ((rd_T35 l2 x7_1).f0) ((rd_T35 l2 x7_1).f1) ((rd_T35 l2 x7_1).f2) ((rd_T35 l2 x7_1).f3)))))) = some r := by rw [if_pos rfl] at H; exact H
                clear H
                have H := H1
                clear H1
                by_cases c19 : ((rd_T35 l2 x7_1).f0) < 1
                · rw [if_pos c19] at H
                  have c19b0 : decide (((rd_T35 l2 x7_1).f0) < 1) = true := decide_eq_true c19
                  clear c19
                  (first | rw [c19b0] | (simp only [i64_w, i32_w]; rw [c19b0]) | skip)
                  have H' := Aside0.mk H
                  clear H
                  have hnb20 := NB238_243.out
                  have hnc20 := NB243_238.out
                  have hcz21_0 : w15.cell? ⟨gb238, 0, none⟩ = some (.int .i64 ((rd_T35 l2 x7_1).f0)) := (blk_cell BK238.out 0).trans rfl
                  have hcz21_1 : w15.cell? ⟨gb238, 1, none⟩ = some (.int .i64 ((rd_T35 l2 x7_1).f1)) := (blk_cell BK238.out 1).trans rfl
                  have hcz21_2 : w15.cell? ⟨gb238, 2, none⟩ = some (.int .i64 ((rd_T35 l2 x7_1).f2)) := (blk_cell BK238.out 2).trans rfl
                  have hcz21_3 : w15.cell? ⟨gb238, 3, none⟩ = some (.int .i64 ((rd_T35 l2 x7_1).f3)) := (blk_cell BK238.out 3).trans rfl
                  have hfz21_0 := blk_frozen BK238.out 0
                  have hfz21_1 := blk_frozen BK238.out 1
                  have hfz21_2 := blk_frozen BK238.out 2
                  have hfz21_3 := blk_frozen BK238.out 3
                  go_wp2
                  go_meet
                  case rel => exact ⟨_, (true), (by first | rfl | (simp; done) | (simp [*]; done)), H', ⟨by have := HK1.out; first | omega | exact Nat.le_refl _⟩, ⟨by (with_reducible repeat (first | refine blk_drewN ?_ _ | refine blk_drew ?_ | refine blk_alloc ?_ _)); refine blk_far ?_ NB238_243.out _; (with_reducible repeat (first | refine blk_drewN ?_ _ | refine blk_drew ?_ | refine blk_alloc ?_ _)); refine blk_far ?_ NB238_243.out _; (with_reducible repeat (first | refine blk_drewN ?_ _ | refine blk_drew ?_ | refine blk_alloc ?_ _)); refine blk_far ?_ NB238_243.out _; (with_reducible repeat (first | refine blk_drewN ?_ _ | refine blk_drew ?_ | refine blk_alloc ?_ _)); exact BK238.out⟩, ⟨by (with_reducible repeat (first | refine blk_drewN ?_ _ | refine blk_drew ?_ | refine blk_alloc ?_ _)); refine blk_put (cs := #[.int .i64 t239, .int .i64 t240, .int .i64 0]) ?_ 2 _ rfl; (with_reducible repeat (first | refine blk_drewN ?_ _ | refine blk_drew ?_ | refine blk_alloc ?_ _)); refine blk_put (cs := #[.int .i64 t239, .int .i64 0, .int .i64 0]) ?_ 1 _ rfl; (with_reducible repeat (first | refine blk_drewN ?_ _ | refine blk_drew ?_ | refine blk_alloc ?_ _)); refine blk_put (cs := #[.int .i64 0, .int .i64 0, .int .i64 0]) ?_ 0 _ rfl; (with_reducible repeat (first | refine blk_drewN ?_ _ | refine blk_drew ?_ | refine blk_alloc ?_ _)); exact BK243.out⟩, ⟨by repeat (first | (with_reducible first | exact HB.out | apply below_alloc | apply pw_below_drewN | apply below_drew1 | refine below_set ?_ GE238.out | refine below_set ?_ GE243.out) | exact HB.out)⟩⟩
                · rw [if_neg c19] at H
                  have c19b0 : decide (((rd_T35 l2 x7_1).f0) < 1) = false := decide_eq_false c19
                  clear c19
                  (first | rw [c19b0] | (simp only [i64_w, i32_w]; rw [c19b0]) | skip)
                  by_cases c22 : ((rd_T35 l2 x7_1).f0) > a1
                  · rw [if_pos c22] at H
                    have c22b0 : decide (a1 < ((rd_T35 l2 x7_1).f0)) = true := decide_eq_true c22
                    clear c22
                    have H' := Aside0.mk H
                    clear H
                    have hnb23 := NB238_243.out
                    have hnc23 := NB243_238.out
                    have hcz24_0 : w15.cell? ⟨gb238, 0, none⟩ = some (.int .i64 ((rd_T35 l2 x7_1).f0)) := (blk_cell BK238.out 0).trans rfl
                    have hcz24_1 : w15.cell? ⟨gb238, 1, none⟩ = some (.int .i64 ((rd_T35 l2 x7_1).f1)) := (blk_cell BK238.out 1).trans rfl
                    have hcz24_2 : w15.cell? ⟨gb238, 2, none⟩ = some (.int .i64 ((rd_T35 l2 x7_1).f2)) := (blk_cell BK238.out 2).trans rfl
                    have hcz24_3 : w15.cell? ⟨gb238, 3, none⟩ = some (.int .i64 ((rd_T35 l2 x7_1).f3)) := (blk_cell BK238.out 3).trans rfl
                    have hfz24_0 := blk_frozen BK238.out 0
                    have hfz24_1 := blk_frozen BK238.out 1
                    have hfz24_2 := blk_frozen BK238.out 2
                    have hfz24_3 := blk_frozen BK238.out 3
                    go_wp2
                    go_meet
                    case rel => exact ⟨_, (true), (by first | rfl | (simp; done) | (simp [*]; done)), H', ⟨by have := HK1.out; first | omega | exact Nat.le_refl _⟩, ⟨by (with_reducible repeat (first | refine blk_drewN ?_ _ | refine blk_drew ?_ | refine blk_alloc ?_ _)); refine blk_far ?_ NB238_243.out _; (with_reducible repeat (first | refine blk_drewN ?_ _ | refine blk_drew ?_ | refine blk_alloc ?_ _)); refine blk_far ?_ NB238_243.out _; (with_reducible repeat (first | refine blk_drewN ?_ _ | refine blk_drew ?_ | refine blk_alloc ?_ _)); refine blk_far ?_ NB238_243.out _; (with_reducible repeat (first | refine blk_drewN ?_ _ | refine blk_drew ?_ | refine blk_alloc ?_ _)); exact BK238.out⟩, ⟨by (with_reducible repeat (first | refine blk_drewN ?_ _ | refine blk_drew ?_ | refine blk_alloc ?_ _)); refine blk_put (cs := #[.int .i64 t239, .int .i64 t240, .int .i64 0]) ?_ 2 _ rfl; (with_reducible repeat (first | refine blk_drewN ?_ _ | refine blk_drew ?_ | refine blk_alloc ?_ _)); refine blk_put (cs := #[.int .i64 t239, .int .i64 0, .int .i64 0]) ?_ 1 _ rfl; (with_reducible repeat (first | refine blk_drewN ?_ _ | refine blk_drew ?_ | refine blk_alloc ?_ _)); refine blk_put (cs := #[.int .i64 0, .int .i64 0, .int .i64 0]) ?_ 0 _ rfl; (with_reducible repeat (first | refine blk_drewN ?_ _ | refine blk_drew ?_ | refine blk_alloc ?_ _)); exact BK243.out⟩, ⟨by repeat (first | (with_reducible first | exact HB.out | apply below_alloc | apply pw_below_drewN | apply below_drew1 | refine below_set ?_ GE238.out | refine below_set ?_ GE243.out) | exact HB.out)⟩⟩
                  · rw [if_neg c22] at H
                    have c22b0 : decide (a1 < ((rd_T35 l2 x7_1).f0)) = false := decide_eq_false c22
                    clear c22
                    by_cases c25 : ((rd_T35 l2 x7_1).f2) < 0
                    · rw [if_pos c25] at H
                      have c25b0 : decide (((rd_T35 l2 x7_1).f2) < 0) = true := decide_eq_true c25
                      clear c25
                      have H' := Aside0.mk H
                      clear H
                      have hnb26 := NB238_243.out
                      have hnc26 := NB243_238.out
                      have hcz27_0 : w15.cell? ⟨gb238, 0, none⟩ = some (.int .i64 ((rd_T35 l2 x7_1).f0)) := (blk_cell BK238.out 0).trans rfl
                      have hcz27_1 : w15.cell? ⟨gb238, 1, none⟩ = some (.int .i64 ((rd_T35 l2 x7_1).f1)) := (blk_cell BK238.out 1).trans rfl
                      have hcz27_2 : w15.cell? ⟨gb238, 2, none⟩ = some (.int .i64 ((rd_T35 l2 x7_1).f2)) := (blk_cell BK238.out 2).trans rfl
                      have hcz27_3 : w15.cell? ⟨gb238, 3, none⟩ = some (.int .i64 ((rd_T35 l2 x7_1).f3)) := (blk_cell BK238.out 3).trans rfl
                      have hfz27_0 := blk_frozen BK238.out 0
                      have hfz27_1 := blk_frozen BK238.out 1
                      have hfz27_2 := blk_frozen BK238.out 2
                      have hfz27_3 := blk_frozen BK238.out 3
                      go_wp2
                      go_meet
                      case rel => exact ⟨_, (true), (by first | rfl | (simp; done) | (simp [*]; done)), H', ⟨by have := HK1.out; first | omega | exact Nat.le_refl _⟩, ⟨by (with_reducible repeat (first | refine blk_drewN ?_ _ | refine blk_drew ?_ | refine blk_alloc ?_ _)); refine blk_far ?_ NB238_243.out _; (with_reducible repeat (first | refine blk_drewN ?_ _ | refine blk_drew ?_ | refine blk_alloc ?_ _)); refine blk_far ?_ NB238_243.out _; (with_reducible repeat (first | refine blk_drewN ?_ _ | refine blk_drew ?_ | refine blk_alloc ?_ _)); refine blk_far ?_ NB238_243.out _; (with_reducible repeat (first | refine blk_drewN ?_ _ | refine blk_drew ?_ | refine blk_alloc ?_ _)); exact BK238.out⟩, ⟨by (with_reducible repeat (first | refine blk_drewN ?_ _ | refine blk_drew ?_ | refine blk_alloc ?_ _)); refine blk_put (cs := #[.int .i64 t239, .int .i64 t240, .int .i64 0]) ?_ 2 _ rfl; (with_reducible repeat (first | refine blk_drewN ?_ _ | refine blk_drew ?_ | refine blk_alloc ?_ _)); refine blk_put (cs := #[.int .i64 t239, .int .i64 0, .int .i64 0]) ?_ 1 _ rfl; (with_reducible repeat (first | refine blk_drewN ?_ _ | refine blk_drew ?_ | refine blk_alloc ?_ _)); refine blk_put (cs := #[.int .i64 0, .int .i64 0, .int .i64 0]) ?_ 0 _ rfl; (with_reducible repeat (first | refine blk_drewN ?_ _ | refine blk_drew ?_ | refine blk_alloc ?_ _)); exact BK243.out⟩, ⟨by repeat (first | (with_reducible first | exact HB.out | apply below_alloc | apply pw_below_drewN | apply below_drew1 | refine below_set ?_ GE238.out | refine below_set ?_ GE243.out) | exact HB.out)⟩⟩
                    · rw [if_neg c25] at H
                      have c25b0 : decide (((rd_T35 l2 x7_1).f2) < 0) = false := decide_eq_false c25
                      clear c25
                      by_cases c28 : ((rd_T35 l2 x7_1).f3) < ((rd_T35 l2 x7_1).f2)
                      · rw [if_pos c28] at H
                        have c28b0 : decide (((rd_T35 l2 x7_1).f3) < ((rd_T35 l2 x7_1).f2)) = true := decide_eq_true c28
                        clear c28
                        have H' := Aside0.mk H
                        clear H
                        have hnb29 := NB238_243.out
                        have hnc29 := NB243_238.out
                        have hcz30_0 : w15.cell? ⟨gb238, 0, none⟩ = some (.int .i64 ((rd_T35 l2 x7_1).f0)) := (blk_cell BK238.out 0).trans rfl
                        have hcz30_1 : w15.cell? ⟨gb238, 1, none⟩ = some (.int .i64 ((rd_T35 l2 x7_1).f1)) := (blk_cell BK238.out 1).trans rfl
                        have hcz30_2 : w15.cell? ⟨gb238, 2, none⟩ = some (.int .i64 ((rd_T35 l2 x7_1).f2)) := (blk_cell BK238.out 2).trans rfl
                        have hcz30_3 : w15.cell? ⟨gb238, 3, none⟩ = some (.int .i64 ((rd_T35 l2 x7_1).f3)) := (blk_cell BK238.out 3).trans rfl
                        have hfz30_0 := blk_frozen BK238.out 0
                        have hfz30_1 := blk_frozen BK238.out 1
                        have hfz30_2 := blk_frozen BK238.out 2
                        have hfz30_3 := blk_frozen BK238.out 3
                        go_wp2
                        go_meet
                        case rel => exact ⟨_, (true), (by first | rfl | (simp; done) | (simp [*]; done)), H', ⟨by have := HK1.out; first | omega | exact Nat.le_refl _⟩, ⟨by (with_reducible repeat (first | refine blk_drewN ?_ _ | refine blk_drew ?_ | refine blk_alloc ?_ _)); refine blk_far ?_ NB238_243.out _; (with_reducible repeat (first | refine blk_drewN ?_ _ | refine blk_drew ?_ | refine blk_alloc ?_ _)); refine blk_far ?_ NB238_243.out _; (with_reducible repeat (first | refine blk_drewN ?_ _ | refine blk_drew ?_ | refine blk_alloc ?_ _)); refine blk_far ?_ NB238_243.out _; (with_reducible repeat (first | refine blk_drewN ?_ _ | refine blk_drew ?_ | refine blk_alloc ?_ _)); exact BK238.out⟩, ⟨by (with_reducible repeat (first | refine blk_drewN ?_ _ | refine blk_drew ?_ | refine blk_alloc ?_ _)); refine blk_put (cs := #[.int .i64 t239, .int .i64 t240, .int .i64 0]) ?_ 2 _ rfl; (with_reducible repeat (first | refine blk_drewN ?_ _ | refine blk_drew ?_ | refine blk_alloc ?_ _)); refine blk_put (cs := #[.int .i64 t239, .int .i64 0, .int .i64 0]) ?_ 1 _ rfl; (with_reducible repeat (first | refine blk_drewN ?_ _ | refine blk_drew ?_ | refine blk_alloc ?_ _)); refine blk_put (cs := #[.int .i64 0, .int .i64 0, .int .i64 0]) ?_ 0 _ rfl; (with_reducible repeat (first | refine blk_drewN ?_ _ | refine blk_drew ?_ | refine blk_alloc ?_ _)); exact BK243.out⟩, ⟨by repeat (first | (with_reducible first | exact HB.out | apply below_alloc | apply pw_below_drewN | apply below_drew1 | refine below_set ?_ GE238.out | refine below_set ?_ GE243.out) | exact HB.out)⟩⟩
                      · rw [if_neg c28] at H
                        have c28b0 : decide (((rd_T35 l2 x7_1).f3) < ((rd_T35 l2 x7_1).f2)) = false := decide_eq_false c28
                        clear c28
                        have H' := Aside0.mk H
                        clear H
                        have hnb31 := NB238_243.out
                        have hnc31 := NB243_238.out
                        have hcz32_0 : w15.cell? ⟨gb238, 0, none⟩ = some (.int .i64 ((rd_T35 l2 x7_1).f0)) := (blk_cell BK238.out 0).trans rfl
                        have hcz32_1 : w15.cell? ⟨gb238, 1, none⟩ = some (.int .i64 ((rd_T35 l2 x7_1).f1)) := (blk_cell BK238.out 1).trans rfl
                        have hcz32_2 : w15.cell? ⟨gb238, 2, none⟩ = some (.int .i64 ((rd_T35 l2 x7_1).f2)) := (blk_cell BK238.out 2).trans rfl
                        have hcz32_3 : w15.cell? ⟨gb238, 3, none⟩ = some (.int .i64 ((rd_T35 l2 x7_1).f3)) := (blk_cell BK238.out 3).trans rfl
                        have hfz32_0 := blk_frozen BK238.out 0
                        have hfz32_1 := blk_frozen BK238.out 1
                        have hfz32_2 := blk_frozen BK238.out 2
                        have hfz32_3 := blk_frozen BK238.out 3
                        have hcz33_0 : w15.cell? ⟨gb243, 0, none⟩ = some (.int .i64 0) := (blk_cell BK243.out 0).trans rfl
                        have hcz33_1 : w15.cell? ⟨gb243, 1, none⟩ = some (.int .i64 0) := (blk_cell BK243.out 1).trans rfl
                        have hcz33_2 : w15.cell? ⟨gb243, 2, none⟩ = some (.int .i64 0) := (blk_cell BK243.out 2).trans rfl
                        have hfz33_0 := blk_frozen BK243.out 0
                        have hfz33_1 := blk_frozen BK243.out 1
                        have hfz33_2 := blk_frozen BK243.out 2
                        go_wp2
                        go_meet
                        case rel => exact ⟨_, (((wrap64 (((rd_T35 l2 x7_1).f3) - ((rd_T35 l2 x7_1).f2))) != t241)), (by first | rfl | (simp; done) | (simp [*]; done)), H', ⟨by have := HK1.out; first | omega | exact Nat.le_refl _⟩, ⟨by (with_reducible repeat (first | refine blk_drewN ?_ _ | refine blk_drew ?_ | refine blk_alloc ?_ _)); refine blk_far ?_ NB238_243.out _; (with_reducible repeat (first | refine blk_drewN ?_ _ | refine blk_drew ?_ | refine blk_alloc ?_ _)); refine blk_far ?_ NB238_243.out _; (with_reducible repeat (first | refine blk_drewN ?_ _ | refine blk_drew ?_ | refine blk_alloc ?_ _)); refine blk_far ?_ NB238_243.out _; (with_reducible repeat (first | refine blk_drewN ?_ _ | refine blk_drew ?_ | refine blk_alloc ?_ _)); exact BK238.out⟩, ⟨by (with_reducible repeat (first | refine blk_drewN ?_ _ | refine blk_drew ?_ | refine blk_alloc ?_ _)); refine blk_put (cs := #[.int .i64 t239, .int .i64 t240, .int .i64 0]) ?_ 2 _ rfl; (with_reducible repeat (first | refine blk_drewN ?_ _ | refine blk_drew ?_ | refine blk_alloc ?_ _)); refine blk_put (cs := #[.int .i64 t239, .int .i64 0, .int .i64 0]) ?_ 1 _ rfl; (with_reducible repeat (first | refine blk_drewN ?_ _ | refine blk_drew ?_ | refine blk_alloc ?_ _)); refine blk_put (cs := #[.int .i64 0, .int .i64 0, .int .i64 0]) ?_ 0 _ rfl; (with_reducible repeat (first | refine blk_drewN ?_ _ | refine blk_drew ?_ | refine blk_alloc ?_ _)); exact BK243.out⟩, ⟨by repeat (first | (with_reducible first | exact HB.out | apply below_alloc | apply pw_below_drewN | apply below_drew1 | refine below_set ?_ GE238.out | refine below_set ?_ GE243.out) | exact HB.out)⟩⟩
              · replace c18 := Bool.eq_false_iff.mpr c18
                subst c18
                have H1 : (skiarearef21_Valid.j1 k1 l0 a1 l2 x7_1 true ((rd_T35 l2 x7_1).f0) ((rd_T35 l2 x7_1).f1) ((rd_T35 l2 x7_1).f2) ((rd_T35 l2 x7_1).f3)) = some r := by rw [if_neg (show ¬ (false = true) by decide)] at H; exact H
                clear H
                have H := H1
                clear H1
                have H' := Aside0.mk H
                clear H
                go_wp2
                go_meet
                case rel => exact ⟨_, (true), (by first | rfl | (simp; done) | (simp [*]; done)), H', ⟨by have := HK1.out; first | omega | exact Nat.le_refl _⟩, ⟨by (with_reducible repeat (first | refine blk_drewN ?_ _ | refine blk_drew ?_ | refine blk_alloc ?_ _)); refine blk_far ?_ NB238_243.out _; (with_reducible repeat (first | refine blk_drewN ?_ _ | refine blk_drew ?_ | refine blk_alloc ?_ _)); refine blk_far ?_ NB238_243.out _; (with_reducible repeat (first | refine blk_drewN ?_ _ | refine blk_drew ?_ | refine blk_alloc ?_ _)); refine blk_far ?_ NB238_243.out _; (with_reducible repeat (first | refine blk_drewN ?_ _ | refine blk_drew ?_ | refine blk_alloc ?_ _)); exact BK238.out⟩, ⟨by (with_reducible repeat (first | refine blk_drewN ?_ _ | refine blk_drew ?_ | refine blk_alloc ?_ _)); refine blk_put (cs := #[.int .i64 t239, .int .i64 t240, .int .i64 0]) ?_ 2 _ rfl; (with_reducible repeat (first | refine blk_drewN ?_ _ | refine blk_drew ?_ | refine blk_alloc ?_ _)); refine blk_put (cs := #[.int .i64 t239, .int .i64 0, .int .i64 0]) ?_ 1 _ rfl; (with_reducible repeat (first | refine blk_drewN ?_ _ | refine blk_drew ?_ | refine blk_alloc ?_ _)); refine blk_put (cs := #[.int .i64 0, .int .i64 0, .int .i64 0]) ?_ 0 _ rfl; (with_reducible repeat (first | refine blk_drewN ?_ _ | refine blk_drew ?_ | refine blk_alloc ?_ _)); exact BK243.out⟩, ⟨by repeat (first | (with_reducible first | exact HB.out | apply below_alloc | apply pw_below_drewN | apply below_drew1 | refine below_set ?_ GE238.out | refine below_set ?_ GE243.out) | exact HB.out)⟩⟩
            case rest =>
              clear HC11
              try clear c1
              try clear c2
              try clear p2
              try clear q2
              try clear hx2
              try clear c3
              try clear c4
              try clear c5
              try clear c5b0
              try clear c5b1
              try clear c5b2
              try clear p6
              try clear c8
              try clear c8b0
              try clear c9
              try clear c9b0
              try clear c16
              try clear c18
              try clear c19
              try clear c19b0
              try clear c20
              try clear c22
              try clear c22b0
              try clear c23
              try clear p23
              try clear q23
              try clear hx23
              try clear c25
              try clear c25b0
              try clear c26
              try clear c28
              try clear c28b0
              try clear c29
              try clear c31
              try clear hcz13_0
              try clear hcz13_1
              try clear hcz13_2
              try clear hcz13_3
              try clear hcz17_0
              try clear hcz17_1
              try clear hcz17_2
              try clear hcz21_0
              try clear hcz21_1
              try clear hcz21_2
              try clear hcz21_3
              try clear hcz24_0
              try clear hcz24_1
              try clear hcz24_2
              try clear hcz24_3
              try clear hcz27_0
              try clear hcz27_1
              try clear hcz27_2
              try clear hcz27_3
              try clear hcz30_0
              try clear hcz30_1
              try clear hcz30_2
              try clear hcz30_3
              try clear hcz32_0
              try clear hcz32_1
              try clear hcz32_2
              try clear hcz32_3
              try clear hcz33_0
              try clear hcz33_1
              try clear hcz33_2
              try clear hfz13_0
              try clear hfz13_1
              try clear hfz13_2
              try clear hfz13_3
              try clear hfz17_0
              try clear hfz17_1
              try clear hfz17_2
              try clear hfz21_0
              try clear hfz21_1
              try clear hfz21_2
              try clear hfz21_3
              try clear hfz24_0
              try clear hfz24_1
              try clear hfz24_2
              try clear hfz24_3
              try clear hfz27_0
              try clear hfz27_1
              try clear hfz27_2
              try clear hfz27_3
              try clear hfz30_0
              try clear hfz30_1
              try clear hfz30_2
              try clear hfz30_3
              try clear hfz32_0
              try clear hfz32_1
              try clear hfz32_2
              try clear hfz32_3
              try clear hfz33_0
              try clear hfz33_1
              try clear hfz33_2
              try clear hx237_0
              try clear hx237_1
              try clear hx237_2
              try clear hx237_3
              try clear p2
              try clear p237
              try clear q237
              obtain ⟨kq, x70_10, rfl, HA, HJ10, BK238, BK243, HB⟩ := hcut
              cases kq with
              | zero => exact absurd HA.out (by simp [skiarearef21_Valid.j1])
              | succ kj10 =>
                have H := HA.out
                clear HA
                simp only [skiarearef21_Valid.j1] at H
                by_cases c34 : x70_10 = true
                · subst c34
                  have H1 : (some false) = some r := by rw [if_pos rfl] at H; exact H
                  clear H
                  have H := H1
                  clear H1
                  obtain rfl := Option.some.inj H
                  go_wp2
                  go_ret
                  exact ⟨by first | rfl | (simp [errW_none, errW_some] <;> rfl) | (simp [*, errW_none, errW_some] <;> rfl), by repeat (first | (with_reducible first | exact HB.out | apply below_alloc | apply pw_below_drewN | apply below_drew1 | refine below_set ?_ GE238.out | refine below_set ?_ GE243.out) | exact HB.out)⟩
                · replace c34 := Bool.eq_false_iff.mpr c34
                  subst c34
                  have H1 : (skiarearef21_Valid.l1 kj10 l0 a1 l2 x7_1 0 ((rd_T35 l2 x7_1).f0) ((rd_T35 l2 x7_1).f1) ((rd_T35 l2 x7_1).f2) ((rd_T35 l2 x7_1).f3)) = some r := by rw [if_neg (show ¬ (false = true) by decide)] at H; exact H
                  clear H
                  have H := H1
                  clear H1
                  have H' := Aside0.mk H
                  clear H
                  go_wp2
                  go_loopg [11] kj10 (fun kq v11 w' => ∃ (x11_3 : Int), v11 = .int .i64 x11_3 ∧ Aside0 (skiarearef21_Valid.l1 kq l0 a1 l2 x7_1 x11_3 ((rd_T35 l2 x7_1).f0) ((rd_T35 l2 x7_1).f1) ((rd_T35 l2 x7_1).f2) ((rd_T35 l2 x7_1).f3) = some r) ∧ Aside0 (kq ≤ kj10) ∧ Aside0 (w'.heap[gb238]? = some (.cells #[.int .i64 ((rd_T35 l2 x7_1).f0), .int .i64 ((rd_T35 l2 x7_1).f1), .int .i64 ((rd_T35 l2 x7_1).f2), .int .i64 ((rd_T35 l2 x7_1).f3)] 35 (0, 0))) ∧ Aside0 (w'.heap[gb243]? = some (.cells #[.int .i64 t239, .int .i64 t240, .int .i64 t241] 33 (0, 0))) ∧ Aside0 (Below w.heap.size w w'))
                  case atStart => exact ⟨(0), (by first | rfl | (simp; done) | (simp [*]; done)), H', ⟨Nat.le_refl _⟩, ⟨by (with_reducible repeat (first | refine blk_drewN ?_ _ | refine blk_drew ?_ | refine blk_alloc ?_ _)); exact BK238.out⟩, ⟨by (with_reducible repeat (first | refine blk_drewN ?_ _ | refine blk_drew ?_ | refine blk_alloc ?_ _)); exact BK243.out⟩, ⟨by repeat (first | (with_reducible first | exact HB.out | apply below_alloc | apply pw_below_drewN | apply below_drew1 | refine below_set ?_ GE238.out | refine below_set ?_ GE243.out) | exact HB.out)⟩⟩
                  case round =>
                    clear H'
                    try clear c1
                    try clear c2
                    try clear p2
                    try clear q2
                    try clear hx2
                    try clear c3
                    try clear c4
                    try clear c5
                    try clear c5b0
                    try clear c5b1
                    try clear c5b2
                    try clear p6
                    try clear c8
                    try clear c8b0
                    try clear c9
                    try clear c9b0
                    try clear c16
                    try clear c18
                    try clear c19
                    try clear c19b0
                    try clear c20
                    try clear c22
                    try clear c22b0
                    try clear c23
                    try clear p23
                    try clear q23
                    try clear hx23
                    try clear c25
                    try clear c25b0
                    try clear c26
                    try clear c28
                    try clear c28b0
                    try clear c29
                    try clear c31
                    try clear c34
                    try clear hcz13_0
                    try clear hcz13_1
                    try clear hcz13_2
                    try clear hcz13_3
                    try clear hcz17_0
                    try clear hcz17_1
                    try clear hcz17_2
                    try clear hcz21_0
                    try clear hcz21_1
                    try clear hcz21_2
                    try clear hcz21_3
                    try clear hcz24_0
                    try clear hcz24_1
                    try clear hcz24_2
                    try clear hcz24_3
                    try clear hcz27_0
                    try clear hcz27_1
                    try clear hcz27_2
                    try clear hcz27_3
                    try clear hcz30_0
                    try clear hcz30_1
                    try clear hcz30_2
                    try clear hcz30_3
                    try clear hcz32_0
                    try clear hcz32_1
                    try clear hcz32_2
                    try clear hcz32_3
                    try clear hcz33_0
                    try clear hcz33_1
                    try clear hcz33_2
                    try clear hfz13_0
                    try clear hfz13_1
                    try clear hfz13_2
                    try clear hfz13_3
                    try clear hfz17_0
                    try clear hfz17_1
                    try clear hfz17_2
                    try clear hfz21_0
                    try clear hfz21_1
                    try clear hfz21_2
                    try clear hfz21_3
                    try clear hfz24_0
                    try clear hfz24_1
                    try clear hfz24_2
                    try clear hfz24_3
                    try clear hfz27_0
                    try clear hfz27_1
                    try clear hfz27_2
                    try clear hfz27_3
                    try clear hfz30_0
                    try clear hfz30_1
                    try clear hfz30_2
                    try clear hfz30_3
                    try clear hfz32_0
                    try clear hfz32_1
                    try clear hfz32_2
                    try clear hfz32_3
                    try clear hfz33_0
                    try clear hfz33_1
                    try clear hfz33_2
                    try clear hx237_0
                    try clear hx237_1
                    try clear hx237_2
                    try clear hx237_3
                    try clear p2
                    try clear p23
                    try clear p237
                    try clear p6
                    try clear q2
                    try clear q23
                    try clear q237
                    obtain ⟨x11_3, rfl, HA, HK3, BK238, BK243, HB⟩ := hrel
                    cases gk with
                    | zero => exact absurd HA.out (by simp [skiarearef21_Valid.l1])
                    | succ k3 =>
                      have H := HA.out
                      clear HA
                      simp only [skiarearef21_Valid.l1] at H
                      by_cases c35 : x11_3 < x7_1
                      · rw [if_pos c35] at H
                        have c35b0 : decide (x11_3 < x7_1) = true := decide_eq_true c35
                        clear c35
                        by_cases c36 : 0 ≤ x11_3
                        · rw [if_pos c36] at H
                          have c36b0 : decide (0 ≤ x11_3) = true := decide_eq_true c36
                          clear c36
                          by_cases c37 : x11_3 < (l2.length : Int)
                          · rw [if_pos c37] at H
                            have c37b0 : decide (x11_3 < (l2.length : Int)) = true := decide_eq_true c37
                            clear c37
                            by_cases c38 : ((rd_T35 l2 x11_3).f1) = ((rd_T35 l2 x7_1).f1)
                            · rw [if_pos c38] at H
                              have c38b0 : (((rd_T35 l2 x11_3).f1) == ((rd_T35 l2 x7_1).f1)) = true := beq_iff_eq.mpr c38
                              have c38b1 : (((rd_T35 l2 x11_3).f1) != ((rd_T35 l2 x7_1).f1)) = false := bne_eq_false_iff_eq.mpr c38
                              clear c38
                              obtain rfl := Option.some.inj H
                              have p244 : 0 ≤ (x11_3 : Int) := of_decide_eq_true (by first | (with_reducible assumption) | assumption)
                              have q244 : x11_3 < (l2.length : Int) := of_decide_eq_true (by first | (with_reducible assumption) | assumption)
                              obtain ⟨ad244, e244, hx244_0, hx244_1, hx244_2, hx244_3⟩ := at_T35 HR2.out x11_3 p244 q244
                              obtain rfl : ad237 = ad244 := (by injection e244)
                              replace hx244_0 := (HB.out.cell (World.block_lt_of_cell? w _ hx244_0)).trans hx244_0
                              replace hx244_1 := (HB.out.cell (World.block_lt_of_cell? w _ hx244_1)).trans hx244_1
                              replace hx244_2 := (HB.out.cell (World.block_lt_of_cell? w _ hx244_2)).trans hx244_2
                              replace hx244_3 := (HB.out.cell (World.block_lt_of_cell? w _ hx244_3)).trans hx244_3
                              replace p244 := eq_true p244
                              replace q244 := eq_true q244
                              go_wp2_with (first | ((with_reducible refine gate_dst (N := 12) rfl ?_); refine box_event ?hg (N := 12) ?hd (cs := #[.int .i64 0, .int .i64 0, .int .i64 0, .int .i64 0]) (t := 35) ?hr ?_; (case hd => rfl); (case hg => rfl); (case hr => first | (go_simp; done) | (go_simp; rfl)); intro gb245 hg w39 hbox hb; have n0_ := Aside0.mk (blk_below (g := gb238) (o := .cells #[.int .i64 ((rd_T35 l2 x7_1).f0), .int .i64 ((rd_T35 l2 x7_1).f1), .int .i64 ((rd_T35 l2 x7_1).f2), .int .i64 ((rd_T35 l2 x7_1).f3)] 35 (0, 0)) (by (with_reducible repeat (first | refine blk_drewN ?_ _ | refine blk_drew ?_ | refine blk_alloc ?_ _)); exact BK238.out) hb); have n1_ := Aside0.mk (blk_below (g := gb243) (o := .cells #[.int .i64 t239, .int .i64 t240, .int .i64 t241] 33 (0, 0)) (by (with_reducible repeat (first | refine blk_drewN ?_ _ | refine blk_drew ?_ | refine blk_alloc ?_ _)); exact BK243.out) hb); have n2_ := Aside0.mk (below_step (by repeat (first | (with_reducible first | exact HB.out | apply below_alloc | apply pw_below_drewN | apply below_drew1 | refine below_set ?_ GE238.out | refine below_set ?_ GE243.out) | exact HB.out)) hb); have n3_ := Aside0.mk (hbox); have n4_ := Aside0.mk ((by rw [hg]; exact (below_size (by repeat (first | (with_reducible first | exact HB.out | apply below_alloc | apply pw_below_drewN | apply below_drew1 | refine below_set ?_ GE238.out | refine below_set ?_ GE243.out) | exact HB.out))) : w.heap.size ≤ gb245)); have n5_ := Aside0.mk ((by rw [hg]; exact (below_size (by repeat (first | (with_reducible first | exact HB.out | apply below_alloc | apply pw_below_drewN | apply below_drew1 | refine below_set ?_ GE238.out | refine below_set ?_ GE243.out) | exact HB.out))) : w.heap.size ≤ gb245)); have n6_ := Aside0.mk ((by rw [hg]; exact Nat.ne_of_lt (blk_lt (g := gb238) (o := .cells #[.int .i64 ((rd_T35 l2 x7_1).f0), .int .i64 ((rd_T35 l2 x7_1).f1), .int .i64 ((rd_T35 l2 x7_1).f2), .int .i64 ((rd_T35 l2 x7_1).f3)] 35 (0, 0)) (by (with_reducible repeat (first | refine blk_drewN ?_ _ | refine blk_drew ?_ | refine blk_alloc ?_ _)); exact BK238.out)) : gb238 ≠ gb245)); have n7_ := Aside0.mk ((by rw [hg]; exact Nat.ne_of_gt (blk_lt (g := gb238) (o := .cells #[.int .i64 ((rd_T35 l2 x7_1).f0), .int .i64 ((rd_T35 l2 x7_1).f1), .int .i64 ((rd_T35 l2 x7_1).f2), .int .i64 ((rd_T35 l2 x7_1).f3)] 35 (0, 0)) (by (with_reducible repeat (first | refine blk_drewN ?_ _ | refine blk_drew ?_ | refine blk_alloc ?_ _)); exact BK238.out)) : gb245 ≠ gb238)); have n8_ := Aside0.mk ((by rw [hg]; exact Nat.ne_of_lt (blk_lt (g := gb243) (o := .cells #[.int .i64 t239, .int .i64 t240, .int .i64 t241] 33 (0, 0)) (by (with_reducible repeat (first | refine blk_drewN ?_ _ | refine blk_drew ?_ | refine blk_alloc ?_ _)); exact BK243.out)) : gb243 ≠ gb245)); have n9_ := Aside0.mk ((by rw [hg]; exact Nat.ne_of_gt (blk_lt (g := gb243) (o := .cells #[.int .i64 t239, .int .i64 t240, .int .i64 t241] 33 (0, 0)) (by (with_reducible repeat (first | refine blk_drewN ?_ _ | refine blk_drew ?_ | refine blk_alloc ?_ _)); exact BK243.out)) : gb245 ≠ gb243)); clear BK238; clear BK243; clear HB; have BK238 := n0_; have BK243 := n1_; have HB := n2_; have BK245 := n3_; have GW245 := n4_; have GE245 := n5_; have NB238_245 := n6_; have NB245_238 := n7_; have NB243_245 := n8_; have NB245_243 := n9_; clear n0_ n1_ n2_ n3_ n4_ n5_ n6_ n7_ n8_ n9_; clear hb hbox hg; have hnb40 := NB245_238.out; have hnc40 := NB238_245.out; have hnb41 := NB245_243.out; have hnc41 := NB243_245.out; have hcz42_0 : w39.cell? ⟨gb245, 0, none⟩ = some (.int .i64 0) := (blk_cell BK245.out 0).trans rfl; have hcz42_1 : w39.cell? ⟨gb245, 1, none⟩ = some (.int .i64 0) := (blk_cell BK245.out 1).trans rfl; have hcz42_2 : w39.cell? ⟨gb245, 2, none⟩ = some (.int .i64 0) := (blk_cell BK245.out 2).trans rfl; have hcz42_3 : w39.cell? ⟨gb245, 3, none⟩ = some (.int .i64 0) := (blk_cell BK245.out 3).trans rfl; have hfz42_0 := blk_frozen BK245.out 0; have hfz42_1 := blk_frozen BK245.out 1; have hfz42_2 := blk_frozen BK245.out 2; have hfz42_3 := blk_frozen BK245.out 3; have hnb43 := NB238_243.out; have hnc43 := NB243_238.out; have hcz44_0 : w39.cell? ⟨gb238, 0, none⟩ = some (.int .i64 ((rd_T35 l2 x7_1).f0)) := (blk_cell BK238.out 0).trans rfl; have hcz44_1 : w39.cell? ⟨gb238, 1, none⟩ = some (.int .i64 ((rd_T35 l2 x7_1).f1)) := (blk_cell BK238.out 1).trans rfl; have hcz44_2 : w39.cell? ⟨gb238, 2, none⟩ = some (.int .i64 ((rd_T35 l2 x7_1).f2)) := (blk_cell BK238.out 2).trans rfl; have hcz44_3 : w39.cell? ⟨gb238, 3, none⟩ = some (.int .i64 ((rd_T35 l2 x7_1).f3)) := (blk_cell BK238.out 3).trans rfl; have hfz44_0 := blk_frozen BK238.out 0; have hfz44_1 := blk_frozen BK238.out 1; have hfz44_2 := blk_frozen BK238.out 2; have hfz44_3 := blk_frozen BK238.out 3))
                              go_ret
                              exact ⟨by first | rfl | (simp [errW_none, errW_some] <;> rfl) | (simp [*, errW_none, errW_some] <;> rfl), by repeat (first | (with_reducible first | exact HB.out | apply below_alloc | apply pw_below_drewN | apply below_drew1 | refine below_set ?_ GE238.out | refine below_set ?_ GE243.out | refine below_set ?_ GE245.out) | exact HB.out)⟩
                            · rw [if_neg c38] at H
                              have c38b0 : (((rd_T35 l2 x11_3).f1) == ((rd_T35 l2 x7_1).f1)) = false := beq_eq_false_iff_ne.mpr c38
                              have c38b1 : (((rd_T35 l2 x11_3).f1) != ((rd_T35 l2 x7_1).f1)) = true := bne_iff_ne.mpr c38
                              by_cases c45 : ((rd_T35 l2 x11_3).f0) = ((rd_T35 l2 x7_1).f0)
                              · rw [if_pos c45] at H
                                have c45b0 : (((rd_T35 l2 x11_3).f0) == ((rd_T35 l2 x7_1).f0)) = true := beq_iff_eq.mpr c45
                                have c45b1 : (((rd_T35 l2 x11_3).f0) != ((rd_T35 l2 x7_1).f0)) = false := bne_eq_false_iff_eq.mpr c45
                                clear c45
                                by_cases c46 : ((rd_T35 l2 x11_3).f2) < ((rd_T35 l2 x7_1).f3)
                                · rw [if_pos c46] at H
                                  have c46b0 : decide (((rd_T35 l2 x11_3).f2) < ((rd_T35 l2 x7_1).f3)) = true := decide_eq_true c46
                                  clear c46
                                  by_cases c47 : ((rd_T35 l2 x7_1).f2) < ((rd_T35 l2 x11_3).f3)
                                  · rw [if_pos c47] at H
                                    have c47b0 : decide (((rd_T35 l2 x7_1).f2) < ((rd_T35 l2 x11_3).f3)) = true := decide_eq_true c47
                                    clear c47
                                    obtain rfl := Option.some.inj H
                                    have p244 : 0 ≤ (x11_3 : Int) := of_decide_eq_true (by first | (with_reducible assumption) | assumption)
                                    have q244 : x11_3 < (l2.length : Int) := of_decide_eq_true (by first | (with_reducible assumption) | assumption)
                                    obtain ⟨ad244, e244, hx244_0, hx244_1, hx244_2, hx244_3⟩ := at_T35 HR2.out x11_3 p244 q244
                                    obtain rfl : ad237 = ad244 := (by injection e244)
                                    replace hx244_0 := (HB.out.cell (World.block_lt_of_cell? w _ hx244_0)).trans hx244_0
                                    replace hx244_1 := (HB.out.cell (World.block_lt_of_cell? w _ hx244_1)).trans hx244_1
                                    replace hx244_2 := (HB.out.cell (World.block_lt_of_cell? w _ hx244_2)).trans hx244_2
                                    replace hx244_3 := (HB.out.cell (World.block_lt_of_cell? w _ hx244_3)).trans hx244_3
                                    replace p244 := eq_true p244
                                    replace q244 := eq_true q244
                                    go_wp2_with (first | ((with_reducible refine gate_dst (N := 12) rfl ?_); refine box_event ?hg (N := 12) ?hd (cs := #[.int .i64 0, .int .i64 0, .int .i64 0, .int .i64 0]) (t := 35) ?hr ?_; (case hd => rfl); (case hg => rfl); (case hr => first | (go_simp; done) | (go_simp; rfl)); intro gb245 hg w48 hbox hb; have n0_ := Aside0.mk (blk_below (g := gb238) (o := .cells #[.int .i64 ((rd_T35 l2 x7_1).f0), .int .i64 ((rd_T35 l2 x7_1).f1), .int .i64 ((rd_T35 l2 x7_1).f2), .int .i64 ((rd_T35 l2 x7_1).f3)] 35 (0, 0)) (by (with_reducible repeat (first | refine blk_drewN ?_ _ | refine blk_drew ?_ | refine blk_alloc ?_ _)); exact BK238.out) hb); have n1_ := Aside0.mk (blk_below (g := gb243) (o := .cells #[.int .i64 t239, .int .i64 t240, .int .i64 t241] 33 (0, 0)) (by (with_reducible repeat (first | refine blk_drewN ?_ _ | refine blk_drew ?_ | refine blk_alloc ?_ _)); exact BK243.out) hb); have n2_ := Aside0.mk (below_step (by repeat (first | (with_reducible first | exact HB.out | apply below_alloc | apply pw_below_drewN | apply below_drew1 | refine below_set ?_ GE238.out | refine below_set ?_ GE243.out) | exact HB.out)) hb); have n3_ := Aside0.mk (hbox); have n4_ := Aside0.mk ((by rw [hg]; exact (below_size (by repeat (first | (with_reducible first | exact HB.out | apply below_alloc | apply pw_below_drewN | apply below_drew1 | refine below_set ?_ GE238.out | refine below_set ?_ GE243.out) | exact HB.out))) : w.heap.size ≤ gb245)); have n5_ := Aside0.mk ((by rw [hg]; exact (below_size (by repeat (first | (with_reducible first | exact HB.out | apply below_alloc | apply pw_below_drewN | apply below_drew1 | refine below_set ?_ GE238.out | refine below_set ?_ GE243.out) | exact HB.out))) : w.heap.size ≤ gb245)); have n6_ := Aside0.mk ((by rw [hg]; exact Nat.ne_of_lt (blk_lt (g := gb238) (o := .cells #[.int .i64 ((rd_T35 l2 x7_1).f0), .int .i64 ((rd_T35 l2 x7_1).f1), .int .i64 ((rd_T35 l2 x7_1).f2), .int .i64 ((rd_T35 l2 x7_1).f3)] 35 (0, 0)) (by (with_reducible repeat (first | refine blk_drewN ?_ _ | refine blk_drew ?_ | refine blk_alloc ?_ _)); exact BK238.out)) : gb238 ≠ gb245)); have n7_ := Aside0.mk ((by rw [hg]; exact Nat.ne_of_gt (blk_lt (g := gb238) (o := .cells #[.int .i64 ((rd_T35 l2 x7_1).f0), .int .i64 ((rd_T35 l2 x7_1).f1), .int .i64 ((rd_T35 l2 x7_1).f2), .int .i64 ((rd_T35 l2 x7_1).f3)] 35 (0, 0)) (by (with_reducible repeat (first | refine blk_drewN ?_ _ | refine blk_drew ?_ | refine blk_alloc ?_ _)); exact BK238.out)) : gb245 ≠ gb238)); have n8_ := Aside0.mk ((by rw [hg]; exact Nat.ne_of_lt (blk_lt (g := gb243) (o := .cells #[.int .i64 t239, .int .i64 t240, .int .i64 t241] 33 (0, 0)) (by (with_reducible repeat (first | refine blk_drewN ?_ _ | refine blk_drew ?_ | refine blk_alloc ?_ _)); exact BK243.out)) : gb243 ≠ gb245)); have n9_ := Aside0.mk ((by rw [hg]; exact Nat.ne_of_gt (blk_lt (g := gb243) (o := .cells #[.int .i64 t239, .int .i64 t240, .int .i64 t241] 33 (0, 0)) (by (with_reducible repeat (first | refine blk_drewN ?_ _ | refine blk_drew ?_ | refine blk_alloc ?_ _)); exact BK243.out)) : gb245 ≠ gb243)); clear BK238; clear BK243; clear HB; have BK238 := n0_; have BK243 := n1_; have HB := n2_; have BK245 := n3_; have GW245 := n4_; have GE245 := n5_; have NB238_245 := n6_; have NB245_238 := n7_; have NB243_245 := n8_; have NB245_243 := n9_; clear n0_ n1_ n2_ n3_ n4_ n5_ n6_ n7_ n8_ n9_; clear hb hbox hg; have hnb49 := NB245_238.out; have hnc49 := NB238_245.out; have hnb50 := NB245_243.out; have hnc50 := NB243_245.out; have hcz51_0 : w48.cell? ⟨gb245, 0, none⟩ = some (.int .i64 0) := (blk_cell BK245.out 0).trans rfl; have hcz51_1 : w48.cell? ⟨gb245, 1, none⟩ = some (.int .i64 0) := (blk_cell BK245.out 1).trans rfl; have hcz51_2 : w48.cell? ⟨gb245, 2, none⟩ = some (.int .i64 0) := (blk_cell BK245.out 2).trans rfl; have hcz51_3 : w48.cell? ⟨gb245, 3, none⟩ = some (.int .i64 0) := (blk_cell BK245.out 3).trans rfl; have hfz51_0 := blk_frozen BK245.out 0; have hfz51_1 := blk_frozen BK245.out 1; have hfz51_2 := blk_frozen BK245.out 2; have hfz51_3 := blk_frozen BK245.out 3; have hnb52 := NB238_243.out; have hnc52 := NB243_238.out; have hcz53_0 : w48.cell? ⟨gb238, 0, none⟩ = some (.int .i64 ((rd_T35 l2 x7_1).f0)) := (blk_cell BK238.out 0).trans rfl; have hcz53_1 : w48.cell? ⟨gb238, 1, none⟩ = some (.int .i64 ((rd_T35 l2 x7_1).f1)) := (blk_cell BK238.out 1).trans rfl; have hcz53_2 : w48.cell? ⟨gb238, 2, none⟩ = some (.int .i64 ((rd_T35 l2 x7_1).f2)) := (blk_cell BK238.out 2).trans rfl; have hcz53_3 : w48.cell? ⟨gb238, 3, none⟩ = some (.int .i64 ((rd_T35 l2 x7_1).f3)) := (blk_cell BK238.out 3).trans rfl; have hfz53_0 := blk_frozen BK238.out 0; have hfz53_1 := blk_frozen BK238.out 1; have hfz53_2 := blk_frozen BK238.out 2; have hfz53_3 := blk_frozen BK238.out 3))
                                    go_ret
                                    exact ⟨by first | rfl | (simp [errW_none, errW_some] <;> rfl) | (simp [*, errW_none, errW_some] <;> rfl), by repeat (first | (with_reducible first | exact HB.out | apply below_alloc | apply pw_below_drewN | apply below_drew1 | refine below_set ?_ GE238.out | refine below_set ?_ GE243.out | refine below_set ?_ GE245.out) | exact HB.out)⟩
                                  · rw [if_neg c47] at H
                                    have c47b0 : decide (((rd_T35 l2 x7_1).f2) < ((rd_T35 l2 x11_3).f3)) = false := decide_eq_false c47
                                    clear c47
                                    have H' := Aside0.mk H
                                    clear H
                                    have p244 : 0 ≤ (x11_3 : Int) := of_decide_eq_true (by first | (with_reducible assumption) | assumption)
                                    have q244 : x11_3 < (l2.length : Int) := of_decide_eq_true (by first | (with_reducible assumption) | assumption)
                                    obtain ⟨ad244, e244, hx244_0, hx244_1, hx244_2, hx244_3⟩ := at_T35 HR2.out x11_3 p244 q244
                                    obtain rfl : ad237 = ad244 := (by injection e244)
                                    replace hx244_0 := (HB.out.cell (World.block_lt_of_cell? w _ hx244_0)).trans hx244_0
                                    replace hx244_1 := (HB.out.cell (World.block_lt_of_cell? w _ hx244_1)).trans hx244_1
                                    replace hx244_2 := (HB.out.cell (World.block_lt_of_cell? w _ hx244_2)).trans hx244_2
                                    replace hx244_3 := (HB.out.cell (World.block_lt_of_cell? w _ hx244_3)).trans hx244_3
                                    replace p244 := eq_true p244
                                    replace q244 := eq_true q244
                                    go_wp2_with (first | ((with_reducible refine gate_dst (N := 12) rfl ?_); refine box_event ?hg (N := 12) ?hd (cs := #[.int .i64 0, .int .i64 0, .int .i64 0, .int .i64 0]) (t := 35) ?hr ?_; (case hd => rfl); (case hg => rfl); (case hr => first | (go_simp; done) | (go_simp; rfl)); intro gb245 hg w54 hbox hb; have n0_ := Aside0.mk (blk_below (g := gb238) (o := .cells #[.int .i64 ((rd_T35 l2 x7_1).f0), .int .i64 ((rd_T35 l2 x7_1).f1), .int .i64 ((rd_T35 l2 x7_1).f2), .int .i64 ((rd_T35 l2 x7_1).f3)] 35 (0, 0)) (by (with_reducible repeat (first | refine blk_drewN ?_ _ | refine blk_drew ?_ | refine blk_alloc ?_ _)); exact BK238.out) hb); have n1_ := Aside0.mk (blk_below (g := gb243) (o := .cells #[.int .i64 t239, .int .i64 t240, .int .i64 t241] 33 (0, 0)) (by (with_reducible repeat (first | refine blk_drewN ?_ _ | refine blk_drew ?_ | refine blk_alloc ?_ _)); exact BK243.out) hb); have n2_ := Aside0.mk (below_step (by repeat (first | (with_reducible first | exact HB.out | apply below_alloc | apply pw_below_drewN | apply below_drew1 | refine below_set ?_ GE238.out | refine below_set ?_ GE243.out) | exact HB.out)) hb); have n3_ := Aside0.mk (hbox); have n4_ := Aside0.mk ((by rw [hg]; exact (below_size (by repeat (first | (with_reducible first | exact HB.out | apply below_alloc | apply pw_below_drewN | apply below_drew1 | refine below_set ?_ GE238.out | refine below_set ?_ GE243.out) | exact HB.out))) : w.heap.size ≤ gb245)); have n5_ := Aside0.mk ((by rw [hg]; exact (below_size (by repeat (first | (with_reducible first | exact HB.out | apply below_alloc | apply pw_below_drewN | apply below_drew1 | refine below_set ?_ GE238.out | refine below_set ?_ GE243.out) | exact HB.out))) : w.heap.size ≤ gb245)); have n6_ := Aside0.mk ((by rw [hg]; exact Nat.ne_of_lt (blk_lt (g := gb238) (o := .cells #[.int .i64 ((rd_T35 l2 x7_1).f0), .int .i64 ((rd_T35 l2 x7_1).f1), .int .i64 ((rd_T35 l2 x7_1).f2), .int .i64 ((rd_T35 l2 x7_1).f3)] 35 (0, 0)) (by (with_reducible repeat (first | refine blk_drewN ?_ _ | refine blk_drew ?_ | refine blk_alloc ?_ _)); exact BK238.out)) : gb238 ≠ gb245)); have n7_ := Aside0.mk ((by rw [hg]; exact Nat.ne_of_gt (blk_lt (g := gb238) (o := .cells #[.int .i64 ((rd_T35 l2 x7_1).f0), .int .i64 ((rd_T35 l2 x7_1).f1), .int .i64 ((rd_T35 l2 x7_1).f2), .int .i64 ((rd_T35 l2 x7_1).f3)] 35 (0, 0)) (by (with_reducible repeat (first | refine blk_drewN ?_ _ | refine blk_drew ?_ | refine blk_alloc ?_ _)); exact BK238.out)) : gb245 ≠ gb238)); have n8_ := Aside0.mk ((by rw [hg]; exact Nat.ne_of_lt (blk_lt (g := gb243) (o := .cells #[.int .i64 t239, .int .i64 t240, .int .i64 t241] 33 (0, 0)) (by (with_reducible repeat (first | refine blk_drewN ?_ _ | refine blk_drew ?_ | refine blk_alloc ?_ _)); exact BK243.out)) : gb243 ≠ gb245)); have n9_ := Aside0.mk ((by rw [hg]; exact Nat.ne_of_gt (blk_lt (g := gb243) (o := .cells #[.int .i64 t239, .int .i64 t240, .int .i64 t241] 33 (0, 0)) (by (with_reducible repeat (first | refine blk_drewN ?_ _ | refine blk_drew ?_ | refine blk_alloc ?_ _)); exact BK243.out)) : gb245 ≠ gb243)); clear BK238; clear BK243; clear HB; have BK238 := n0_; have BK243 := n1_; have HB := n2_; have BK245 := n3_; have GW245 := n4_; have GE245 := n5_; have NB238_245 := n6_; have NB245_238 := n7_; have NB243_245 := n8_; have NB245_243 := n9_; clear n0_ n1_ n2_ n3_ n4_ n5_ n6_ n7_ n8_ n9_; clear hb hbox hg; have hnb55 := NB245_238.out; have hnc55 := NB238_245.out; have hnb56 := NB245_243.out; have hnc56 := NB243_245.out; have hcz57_0 : w54.cell? ⟨gb245, 0, none⟩ = some (.int .i64 0) := (blk_cell BK245.out 0).trans rfl; have hcz57_1 : w54.cell? ⟨gb245, 1, none⟩ = some (.int .i64 0) := (blk_cell BK245.out 1).trans rfl; have hcz57_2 : w54.cell? ⟨gb245, 2, none⟩ = some (.int .i64 0) := (blk_cell BK245.out 2).trans rfl; have hcz57_3 : w54.cell? ⟨gb245, 3, none⟩ = some (.int .i64 0) := (blk_cell BK245.out 3).trans rfl; have hfz57_0 := blk_frozen BK245.out 0; have hfz57_1 := blk_frozen BK245.out 1; have hfz57_2 := blk_frozen BK245.out 2; have hfz57_3 := blk_frozen BK245.out 3; have hnb58 := NB238_243.out; have hnc58 := NB243_238.out; have hcz59_0 : w54.cell? ⟨gb238, 0, none⟩ = some (.int .i64 ((rd_T35 l2 x7_1).f0)) := (blk_cell BK238.out 0).trans rfl; have hcz59_1 : w54.cell? ⟨gb238, 1, none⟩ = some (.int .i64 ((rd_T35 l2 x7_1).f1)) := (blk_cell BK238.out 1).trans rfl; have hcz59_2 : w54.cell? ⟨gb238, 2, none⟩ = some (.int .i64 ((rd_T35 l2 x7_1).f2)) := (blk_cell BK238.out 2).trans rfl; have hcz59_3 : w54.cell? ⟨gb238, 3, none⟩ = some (.int .i64 ((rd_T35 l2 x7_1).f3)) := (blk_cell BK238.out 3).trans rfl; have hfz59_0 := blk_frozen BK238.out 0; have hfz59_1 := blk_frozen BK238.out 1; have hfz59_2 := blk_frozen BK238.out 2; have hfz59_3 := blk_frozen BK238.out 3))
                                    go_roundg k3
                                    case measure => have := HK1.out; have := HJ10.out; have := HK3.out; omega
                                    case rel => exact ⟨(wrap64 (x11_3 + 1)), (by first | rfl | (simp; done) | (simp [*]; done)), H', ⟨by have := HK1.out; have := HJ10.out; have := HK3.out; omega⟩, ⟨by (with_reducible repeat (first | refine blk_drewN ?_ _ | refine blk_drew ?_ | refine blk_alloc ?_ _)); refine blk_far ?_ NB238_245.out _; (with_reducible repeat (first | refine blk_drewN ?_ _ | refine blk_drew ?_ | refine blk_alloc ?_ _)); refine blk_far ?_ NB238_245.out _; (with_reducible repeat (first | refine blk_drewN ?_ _ | refine blk_drew ?_ | refine blk_alloc ?_ _)); refine blk_far ?_ NB238_245.out _; (with_reducible repeat (first | refine blk_drewN ?_ _ | refine blk_drew ?_ | refine blk_alloc ?_ _)); refine blk_far ?_ NB238_245.out _; (with_reducible repeat (first | refine blk_drewN ?_ _ | refine blk_drew ?_ | refine blk_alloc ?_ _)); exact BK238.out⟩, ⟨by (with_reducible repeat (first | refine blk_drewN ?_ _ | refine blk_drew ?_ | refine blk_alloc ?_ _)); refine blk_far ?_ NB243_245.out _; (with_reducible repeat (first | refine blk_drewN ?_ _ | refine blk_drew ?_ | refine blk_alloc ?_ _)); refine blk_far ?_ NB243_245.out _; (with_reducible repeat (first | refine blk_drewN ?_ _ | refine blk_drew ?_ | refine blk_alloc ?_ _)); refine blk_far ?_ NB243_245.out _; (with_reducible repeat (first | refine blk_drewN ?_ _ | refine blk_drew ?_ | refine blk_alloc ?_ _)); refine blk_far ?_ NB243_245.out _; (with_reducible repeat (first | refine blk_drewN ?_ _ | refine blk_drew ?_ | refine blk_alloc ?_ _)); exact BK243.out⟩, ⟨by repeat (first | (with_reducible first | exact HB.out | apply below_alloc | apply pw_below_drewN | apply below_drew1 | refine below_set ?_ GE238.out | refine below_set ?_ GE243.out | refine below_set ?_ GE245.out) | exact HB.out)⟩⟩
                                · rw [if_neg c46] at H
                                  have c46b0 : decide (((rd_T35 l2 x11_3).f2) < ((rd_T35 l2 x7_1).f3)) = false := decide_eq_false c46
                                  clear c46
                                  have H' := Aside0.mk H
                                  clear H
                                  have p244 : 0 ≤ (x11_3 : Int) := of_decide_eq_true (by first | (with_reducible assumption) | assumption)
                                  have q244 : x11_3 < (l2.length : Int) := of_decide_eq_true (by first | (with_reducible assumption) | assumption)
                                  obtain ⟨ad244, e244, hx244_0, hx244_1, hx244_2, hx244_3⟩ := at_T35 HR2.out x11_3 p244 q244
                                  obtain rfl : ad237 = ad244 := (by injection e244)
                                  replace hx244_0 := (HB.out.cell (World.block_lt_of_cell? w _ hx244_0)).trans hx244_0
                                  replace hx244_1 := (HB.out.cell (World.block_lt_of_cell? w _ hx244_1)).trans hx244_1
                                  replace hx244_2 := (HB.out.cell (World.block_lt_of_cell? w _ hx244_2)).trans hx244_2
                                  replace hx244_3 := (HB.out.cell (World.block_lt_of_cell? w _ hx244_3)).trans hx244_3
                                  replace p244 := eq_true p244
                                  replace q244 := eq_true q244
                                  go_wp2_with (first | ((with_reducible refine gate_dst (N := 12) rfl ?_); refine box_event ?hg (N := 12) ?hd (cs := #[.int .i64 0, .int .i64 0, .int .i64 0, .int .i64 0]) (t := 35) ?hr ?_; (case hd => rfl); (case hg => rfl); (case hr => first | (go_simp; done) | (go_simp; rfl)); intro gb245 hg w60 hbox hb; have n0_ := Aside0.mk (blk_below (g := gb238) (o := .cells #[.int .i64 ((rd_T35 l2 x7_1).f0), .int .i64 ((rd_T35 l2 x7_1).f1), .int .i64 ((rd_T35 l2 x7_1).f2), .int .i64 ((rd_T35 l2 x7_1).f3)] 35 (0, 0)) (by (with_reducible repeat (first | refine blk_drewN ?_ _ | refine blk_drew ?_ | refine blk_alloc ?_ _)); exact BK238.out) hb); have n1_ := Aside0.mk (blk_below (g := gb243) (o := .cells #[.int .i64 t239, .int .i64 t240, .int .i64 t241] 33 (0, 0)) (by (with_reducible repeat (first | refine blk_drewN ?_ _ | refine blk_drew ?_ | refine blk_alloc ?_ _)); exact BK243.out) hb); have n2_ := Aside0.mk (below_step (by repeat (first | (with_reducible first | exact HB.out | apply below_alloc | apply pw_below_drewN | apply below_drew1 | refine below_set ?_ GE238.out | refine below_set ?_ GE243.out) | exact HB.out)) hb); have n3_ := Aside0.mk (hbox); have n4_ := Aside0.mk ((by rw [hg]; exact (below_size (by repeat (first | (with_reducible first | exact HB.out | apply below_alloc | apply pw_below_drewN | apply below_drew1 | refine below_set ?_ GE238.out | refine below_set ?_ GE243.out) | exact HB.out))) : w.heap.size ≤ gb245)); have n5_ := Aside0.mk ((by rw [hg]; exact (below_size (by repeat (first | (with_reducible first | exact HB.out | apply below_alloc | apply pw_below_drewN | apply below_drew1 | refine below_set ?_ GE238.out | refine below_set ?_ GE243.out) | exact HB.out))) : w.heap.size ≤ gb245)); have n6_ := Aside0.mk ((by rw [hg]; exact Nat.ne_of_lt (blk_lt (g := gb238) (o := .cells #[.int .i64 ((rd_T35 l2 x7_1).f0), .int .i64 ((rd_T35 l2 x7_1).f1), .int .i64 ((rd_T35 l2 x7_1).f2), .int .i64 ((rd_T35 l2 x7_1).f3)] 35 (0, 0)) (by (with_reducible repeat (first | refine blk_drewN ?_ _ | refine blk_drew ?_ | refine blk_alloc ?_ _)); exact BK238.out)) : gb238 ≠ gb245)); have n7_ := Aside0.mk ((by rw [hg]; exact Nat.ne_of_gt (blk_lt (g := gb238) (o := .cells #[.int .i64 ((rd_T35 l2 x7_1).f0), .int .i64 ((rd_T35 l2 x7_1).f1), .int .i64 ((rd_T35 l2 x7_1).f2), .int .i64 ((rd_T35 l2 x7_1).f3)] 35 (0, 0)) (by (with_reducible repeat (first | refine blk_drewN ?_ _ | refine blk_drew ?_ | refine blk_alloc ?_ _)); exact BK238.out)) : gb245 ≠ gb238)); have n8_ := Aside0.mk ((by rw [hg]; exact Nat.ne_of_lt (blk_lt (g := gb243) (o := .cells #[.int .i64 t239, .int .i64 t240, .int .i64 t241] 33 (0, 0)) (by (with_reducible repeat (first | refine blk_drewN ?_ _ | refine blk_drew ?_ | refine blk_alloc ?_ _)); exact BK243.out)) : gb243 ≠ gb245)); have n9_ := Aside0.mk ((by rw [hg]; exact Nat.ne_of_gt (blk_lt (g := gb243) (o := .cells #[.int .i64 t239, .int .i64 t240, .int .i64 t241] 33 (0, 0)) (by (with_reducible repeat (first | refine blk_drewN ?_ _ | refine blk_drew ?_ | refine blk_alloc ?_ _)); exact BK243.out)) : gb245 ≠ gb243)); clear BK238; clear BK243; clear HB; have BK238 := n0_; have BK243 := n1_; have HB := n2_; have BK245 := n3_; have GW245 := n4_; have GE245 := n5_; have NB238_245 := n6_; have NB245_238 := n7_; have NB243_245 := n8_; have NB245_243 := n9_; clear n0_ n1_ n2_ n3_ n4_ n5_ n6_ n7_ n8_ n9_; clear hb hbox hg; have hnb61 := NB245_238.out; have hnc61 := NB238_245.out; have hnb62 := NB245_243.out; have hnc62 := NB243_245.out; have hcz63_0 : w60.cell? ⟨gb245, 0, none⟩ = some (.int .i64 0) := (blk_cell BK245.out 0).trans rfl; have hcz63_1 : w60.cell? ⟨gb245, 1, none⟩ = some (.int .i64 0) := (blk_cell BK245.out 1).trans rfl; have hcz63_2 : w60.cell? ⟨gb245, 2, none⟩ = some (.int .i64 0) := (blk_cell BK245.out 2).trans rfl; have hcz63_3 : w60.cell? ⟨gb245, 3, none⟩ = some (.int .i64 0) := (blk_cell BK245.out 3).trans rfl; have hfz63_0 := blk_frozen BK245.out 0; have hfz63_1 := blk_frozen BK245.out 1; have hfz63_2 := blk_frozen BK245.out 2; have hfz63_3 := blk_frozen BK245.out 3; have hnb64 := NB238_243.out; have hnc64 := NB243_238.out; have hcz65_0 : w60.cell? ⟨gb238, 0, none⟩ = some (.int .i64 ((rd_T35 l2 x7_1).f0)) := (blk_cell BK238.out 0).trans rfl; have hcz65_1 : w60.cell? ⟨gb238, 1, none⟩ = some (.int .i64 ((rd_T35 l2 x7_1).f1)) := (blk_cell BK238.out 1).trans rfl; have hcz65_2 : w60.cell? ⟨gb238, 2, none⟩ = some (.int .i64 ((rd_T35 l2 x7_1).f2)) := (blk_cell BK238.out 2).trans rfl; have hcz65_3 : w60.cell? ⟨gb238, 3, none⟩ = some (.int .i64 ((rd_T35 l2 x7_1).f3)) := (blk_cell BK238.out 3).trans rfl; have hfz65_0 := blk_frozen BK238.out 0; have hfz65_1 := blk_frozen BK238.out 1; have hfz65_2 := blk_frozen BK238.out 2; have hfz65_3 := blk_frozen BK238.out 3))
                                  go_roundg k3
                                  case measure => have := HK1.out; have := HJ10.out; have := HK3.out; omega
                                  case rel => exact ⟨(wrap64 (x11_3 + 1)), (by first | rfl | (simp; done) | (simp [*]; done)), H', ⟨by have := HK1.out; have := HJ10.out; have := HK3.out; omega⟩, ⟨by (with_reducible repeat (first | refine blk_drewN ?_ _ | refine blk_drew ?_ | refine blk_alloc ?_ _)); refine blk_far ?_ NB238_245.out _; (with_reducible repeat (first | refine blk_drewN ?_ _ | refine blk_drew ?_ | refine blk_alloc ?_ _)); refine blk_far ?_ NB238_245.out _; (with_reducible repeat (first | refine blk_drewN ?_ _ | refine blk_drew ?_ | refine blk_alloc ?_ _)); refine blk_far ?_ NB238_245.out _; (with_reducible repeat (first | refine blk_drewN ?_ _ | refine blk_drew ?_ | refine blk_alloc ?_ _)); refine blk_far ?_ NB238_245.out _; (with_reducible repeat (first | refine blk_drewN ?_ _ | refine blk_drew ?_ | refine blk_alloc ?_ _)); exact BK238.out⟩, ⟨by (with_reducible repeat (first | refine blk_drewN ?_ _ | refine blk_drew ?_ | refine blk_alloc ?_ _)); refine blk_far ?_ NB243_245.out _; (with_reducible repeat (first | refine blk_drewN ?_ _ | refine blk_drew ?_ | refine blk_alloc ?_ _)); refine blk_far ?_ NB243_245.out _; (with_reducible repeat (first | refine blk_drewN ?_ _ | refine blk_drew ?_ | refine blk_alloc ?_ _)); refine blk_far ?_ NB243_245.out _; (with_reducible repeat (first | refine blk_drewN ?_ _ | refine blk_drew ?_ | refine blk_alloc ?_ _)); refine blk_far ?_ NB243_245.out _; (with_reducible repeat (first | refine blk_drewN ?_ _ | refine blk_drew ?_ | refine blk_alloc ?_ _)); exact BK243.out⟩, ⟨by repeat (first | (with_reducible first | exact HB.out | apply below_alloc | apply pw_below_drewN | apply below_drew1 | refine below_set ?_ GE238.out | refine below_set ?_ GE243.out | refine below_set ?_ GE245.out) | exact HB.out)⟩⟩
                              · rw [if_neg c45] at H
                                have c45b0 : (((rd_T35 l2 x11_3).f0) == ((rd_T35 l2 x7_1).f0)) = false := beq_eq_false_iff_ne.mpr c45
                                have c45b1 : (((rd_T35 l2 x11_3).f0) != ((rd_T35 l2 x7_1).f0)) = true := bne_iff_ne.mpr c45
                                have H' := Aside0.mk H
                                clear H
                                have p244 : 0 ≤ (x11_3 : Int) := of_decide_eq_true (by first | (with_reducible assumption) | assumption)
                                have q244 : x11_3 < (l2.length : Int) := of_decide_eq_true (by first | (with_reducible assumption) | assumption)
                                obtain ⟨ad244, e244, hx244_0, hx244_1, hx244_2, hx244_3⟩ := at_T35 HR2.out x11_3 p244 q244
                                obtain rfl : ad237 = ad244 := (by injection e244)
                                replace hx244_0 := (HB.out.cell (World.block_lt_of_cell? w _ hx244_0)).trans hx244_0
                                replace hx244_1 := (HB.out.cell (World.block_lt_of_cell? w _ hx244_1)).trans hx244_1
                                replace hx244_2 := (HB.out.cell (World.block_lt_of_cell? w _ hx244_2)).trans hx244_2
                                replace hx244_3 := (HB.out.cell (World.block_lt_of_cell? w _ hx244_3)).trans hx244_3
                                replace p244 := eq_true p244
                                replace q244 := eq_true q244
                                go_wp2_with (first | ((with_reducible refine gate_dst (N := 12) rfl ?_); refine box_event ?hg (N := 12) ?hd (cs := #[.int .i64 0, .int .i64 0, .int .i64 0, .int .i64 0]) (t := 35) ?hr ?_; (case hd => rfl); (case hg => rfl); (case hr => first | (go_simp; done) | (go_simp; rfl)); intro gb245 hg w66 hbox hb; have n0_ := Aside0.mk (blk_below (g := gb238) (o := .cells #[.int .i64 ((rd_T35 l2 x7_1).f0), .int .i64 ((rd_T35 l2 x7_1).f1), .int .i64 ((rd_T35 l2 x7_1).f2), .int .i64 ((rd_T35 l2 x7_1).f3)] 35 (0, 0)) (by (with_reducible repeat (first | refine blk_drewN ?_ _ | refine blk_drew ?_ | refine blk_alloc ?_ _)); exact BK238.out) hb); have n1_ := Aside0.mk (blk_below (g := gb243) (o := .cells #[.int .i64 t239, .int .i64 t240, .int .i64 t241] 33 (0, 0)) (by (with_reducible repeat (first | refine blk_drewN ?_ _ | refine blk_drew ?_ | refine blk_alloc ?_ _)); exact BK243.out) hb); have n2_ := Aside0.mk (below_step (by repeat (first | (with_reducible first | exact HB.out | apply below_alloc | apply pw_below_drewN | apply below_drew1 | refine below_set ?_ GE238.out | refine below_set ?_ GE243.out) | exact HB.out)) hb); have n3_ := Aside0.mk (hbox); have n4_ := Aside0.mk ((by rw [hg]; exact (below_size (by repeat (first | (with_reducible first | exact HB.out | apply below_alloc | apply pw_below_drewN | apply below_drew1 | refine below_set ?_ GE238.out | refine below_set ?_ GE243.out) | exact HB.out))) : w.heap.size ≤ gb245)); have n5_ := Aside0.mk ((by rw [hg]; exact (below_size (by repeat (first | (with_reducible first | exact HB.out | apply below_alloc | apply pw_below_drewN | apply below_drew1 | refine below_set ?_ GE238.out | refine below_set ?_ GE243.out) | exact HB.out))) : w.heap.size ≤ gb245)); have n6_ := Aside0.mk ((by rw [hg]; exact Nat.ne_of_lt (blk_lt (g := gb238) (o := .cells #[.int .i64 ((rd_T35 l2 x7_1).f0), .int .i64 ((rd_T35 l2 x7_1).f1), .int .i64 ((rd_T35 l2 x7_1).f2), .int .i64 ((rd_T35 l2 x7_1).f3)] 35 (0, 0)) (by (with_reducible repeat (first | refine blk_drewN ?_ _ | refine blk_drew ?_ | refine blk_alloc ?_ _)); exact BK238.out)) : gb238 ≠ gb245)); have n7_ := Aside0.mk ((by rw [hg]; exact Nat.ne_of_gt (blk_lt (g := gb238) (o := .cells #[.int .i64 ((rd_T35 l2 x7_1).f0), .int .i64 ((rd_T35 l2 x7_1).f1), .int .i64 ((rd_T35 l2 x7_1).f2), .int .i64 ((rd_T35 l2 x7_1).f3)] 35 (0, 0)) (by (with_reducible repeat (first | refine blk_drewN ?_ _ | refine blk_drew ?_ | refine blk_alloc ?_ _)); exact BK238.out)) : gb245 ≠ gb238)); have n8_ := Aside0.mk ((by rw [hg]; exact Nat.ne_of_lt (blk_lt (g := gb243) (o := .cells #[.int .i64 t239, .int .i64 t240, .int .i64 t241] 33 (0, 0)) (by (with_reducible repeat (first | refine blk_drewN ?_ _ | refine blk_drew ?_ | refine blk_alloc ?_ _)); exact BK243.out)) : gb243 ≠ gb245)); have n9_ := Aside0.mk ((by rw [hg]; exact Nat.ne_of_gt (blk_lt (g := gb243) (o := .cells #[.int .i64 t239, .int .i64 t240, .int .i64 t241] 33 (0, 0)) (by (with_reducible repeat (first | refine blk_drewN ?_ _ | refine blk_drew ?_ | refine blk_alloc ?_ _)); exact BK243.out)) : gb245 ≠ gb243)); clear BK238; clear BK243; clear HB; have BK238 := n0_; have BK243 := n1_; have HB := n2_; have BK245 := n3_; have GW245 := n4_; have GE245 := n5_; have NB238_245 := n6_; have NB245_238 := n7_; have NB243_245 := n8_; have NB245_243 := n9_; clear n0_ n1_ n2_ n3_ n4_ n5_ n6_ n7_ n8_ n9_; clear hb hbox hg; have hnb67 := NB245_238.out; have hnc67 := NB238_245.out; have hnb68 := NB245_243.out; have hnc68 := NB243_245.out; have hcz69_0 : w66.cell? ⟨gb245, 0, none⟩ = some (.int .i64 0) := (blk_cell BK245.out 0).trans rfl; have hcz69_1 : w66.cell? ⟨gb245, 1, none⟩ = some (.int .i64 0) := (blk_cell BK245.out 1).trans rfl; have hcz69_2 : w66.cell? ⟨gb245, 2, none⟩ = some (.int .i64 0) := (blk_cell BK245.out 2).trans rfl; have hcz69_3 : w66.cell? ⟨gb245, 3, none⟩ = some (.int .i64 0) := (blk_cell BK245.out 3).trans rfl; have hfz69_0 := blk_frozen BK245.out 0; have hfz69_1 := blk_frozen BK245.out 1; have hfz69_2 := blk_frozen BK245.out 2; have hfz69_3 := blk_frozen BK245.out 3; have hnb70 := NB238_243.out; have hnc70 := NB243_238.out; have hcz71_0 : w66.cell? ⟨gb238, 0, none⟩ = some (.int .i64 ((rd_T35 l2 x7_1).f0)) := (blk_cell BK238.out 0).trans rfl; have hcz71_1 : w66.cell? ⟨gb238, 1, none⟩ = some (.int .i64 ((rd_T35 l2 x7_1).f1)) := (blk_cell BK238.out 1).trans rfl; have hcz71_2 : w66.cell? ⟨gb238, 2, none⟩ = some (.int .i64 ((rd_T35 l2 x7_1).f2)) := (blk_cell BK238.out 2).trans rfl; have hcz71_3 : w66.cell? ⟨gb238, 3, none⟩ = some (.int .i64 ((rd_T35 l2 x7_1).f3)) := (blk_cell BK238.out 3).trans rfl; have hfz71_0 := blk_frozen BK238.out 0; have hfz71_1 := blk_frozen BK238.out 1; have hfz71_2 := blk_frozen BK238.out 2; have hfz71_3 := blk_frozen BK238.out 3))
                                go_roundg k3
                                case measure => have := HK1.out; have := HJ10.out; have := HK3.out; omega
                                case rel => exact ⟨(wrap64 (x11_3 + 1)), (by first | rfl | (simp; done) | (simp [*]; done)), H', ⟨by have := HK1.out; have := HJ10.out; have := HK3.out; omega⟩, ⟨by (with_reducible repeat (first | refine blk_drewN ?_ _ | refine blk_drew ?_ | refine blk_alloc ?_ _)); refine blk_far ?_ NB238_245.out _; (with_reducible repeat (first | refine blk_drewN ?_ _ | refine blk_drew ?_ | refine blk_alloc ?_ _)); refine blk_far ?_ NB238_245.out _; (with_reducible repeat (first | refine blk_drewN ?_ _ | refine blk_drew ?_ | refine blk_alloc ?_ _)); refine blk_far ?_ NB238_245.out _; (with_reducible repeat (first | refine blk_drewN ?_ _ | refine blk_drew ?_ | refine blk_alloc ?_ _)); refine blk_far ?_ NB238_245.out _; (with_reducible repeat (first | refine blk_drewN ?_ _ | refine blk_drew ?_ | refine blk_alloc ?_ _)); exact BK238.out⟩, ⟨by (with_reducible repeat (first | refine blk_drewN ?_ _ | refine blk_drew ?_ | refine blk_alloc ?_ _)); refine blk_far ?_ NB243_245.out _; (with_reducible repeat (first | refine blk_drewN ?_ _ | refine blk_drew ?_ | refine blk_alloc ?_ _)); refine blk_far ?_ NB243_245.out _; (with_reducible repeat (first | refine blk_drewN ?_ _ | refine blk_drew ?_ | refine blk_alloc ?_ _)); refine blk_far ?_ NB243_245.out _; (with_reducible repeat (first | refine blk_drewN ?_ _ | refine blk_drew ?_ | refine blk_alloc ?_ _)); refine blk_far ?_ NB243_245.out _; (with_reducible repeat (first | refine blk_drewN ?_ _ | refine blk_drew ?_ | refine blk_alloc ?_ _)); exact BK243.out⟩, ⟨by repeat (first | (with_reducible first | exact HB.out | apply below_alloc | apply pw_below_drewN | apply below_drew1 | refine below_set ?_ GE238.out | refine below_set ?_ GE243.out | refine below_set ?_ GE245.out) | exact HB.out)⟩⟩
                          · rw [if_neg c37] at H
                            exact absurd H (by simp)
                        · rw [if_neg c36] at H
                          exact absurd H (by simp)
                      · rw [if_neg c35] at H
                        have c35b0 : decide (x11_3 < x7_1) = false := decide_eq_false c35
                        clear c35
                        have H' := Aside0.mk H
                        clear H
                        go_wp2
                        go_roundg k3
                        case measure => have := HK1.out; have := HJ10.out; have := HK3.out; omega
                        case rel => exact ⟨(wrap64 (x7_1 + 1)), (by first | rfl | (simp; done) | (simp [*]; done)), H', ⟨by have := HK1.out; have := HJ10.out; have := HK3.out; omega⟩, ⟨by repeat (first | (with_reducible first | exact HB.out | apply below_alloc | apply pw_below_drewN | apply below_drew1 | refine below_set ?_ GE238.out | refine below_set ?_ GE243.out) | exact HB.out)⟩⟩
          · rw [if_neg c9] at H
            exact absurd H (by simp)
        · rw [if_neg c8] at H
          have c8b0 : decide (x7_1 < (l2.length : Int)) = false := decide_eq_false c8
          clear c8
          obtain rfl := Option.some.inj H
          go_wp2
          go_ret
          exact ⟨by first | rfl | (simp [errW_none, errW_some] <;> rfl) | (simp [*, errW_none, errW_some] <;> rfl), by repeat (first | (with_reducible first | exact HB.out | apply below_alloc | apply pw_below_drewN | apply below_drew1) | exact HB.out)⟩
  · rw [if_neg c5] at H
    have c5b0 : ((l2.length : Int) == (t234.length : Int)) = false := beq_eq_false_iff_ne.mpr c5
    have c5b1 : ((l2.length : Int) != (t234.length : Int)) = true := bne_iff_ne.mpr c5
    have c5b2 : (l2.length == t234.length) = false := by first | simpa using c5 | (simp at c5 ⊢; omega)
    obtain rfl := Option.some.inj H
    go_enter Try.func22, Try.ntmps22
    go_wp2_with (first | ((with_reducible refine gate_callee (f := 39) rfl ?_); refine goesL_ (some 16) rfl rfl Try.func39 (by kernel_rfl) rfl #[.slice A0 l0.length c0] rfl (by (try simp only [List.map_toArray, List.map_cons, List.map_nil]); first | done | rfl | (simp only [List.length_drop, List.length_take]; rfl)) ?_; (with_reducible refine (skiarearef21_need.calls k _ _ l0 t234 _ ?side1 ?side2 A4.out).mono ?_); (case side1 => repeat (first | exact HR0.out | (with_reducible refine Kd.C_alloc ?_ _) | (with_reducible refine Kd.C_drewN ?_ _) | (with_reducible refine Kd.C_drew ?_))); (case side2 => exact HC0.out); rintro e w72 ⟨v235, rfl, ho0, hb⟩; refine ⟨_, rfl, ?_⟩; have n0_ := Aside0.mk (Kd.R_lower ho0 (below_size (by repeat (first | (with_reducible first | exact HB.out | apply below_alloc | apply pw_below_drewN | apply below_drew1) | exact HB.out)))); have n1_ := Aside0.mk (below_step (by repeat (first | (with_reducible first | exact HB.out | apply below_alloc | apply pw_below_drewN | apply below_drew1) | exact HB.out)) hb); clear HB; have HO236 := n0_; have HB := n1_; clear n0_ n1_; (try clear hb); (try clear hb2); (try clear hk); (try clear hi); (try clear ho0); obtain ⟨Ao73, co73, eo73⟩ := Kd.R_slice HO236.out; subst eo73))
    go_ret
    exact ⟨by first | rfl | (simp [errW_none, errW_some] <;> rfl) | (simp [*, errW_none, errW_some] <;> rfl), by repeat (first | (with_reducible first | exact HB.out | apply below_alloc | apply pw_below_drewN | apply below_drew1) | exact HB.out)⟩

end Go.Proofs.Ytedejkhopjhnbaa.P
