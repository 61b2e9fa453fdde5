-- Printed for this claim by a program of the session, out of Lean's own print of the translation.
import Derived.Test.YtedejkhopjhnbaaPx0
import Derived.Test.YtedejkhopjhnbaaPx12
namespace Go.Proofs.Ytedejkhopjhnbaa.P
open Go.RowKit Go.Proofs.YtedejkhopjhnbaaW.PrintWords Go.Proofs.YtedejkhopjhnbaaW.PrintLast Go.Proofs.YtedejkhopjhnbaaW.PrintMore
attribute [local go_sem] max2_int min2_int max_two min_two max_three min_three max_four min_four   -- for this text's walks alone
set_option linter.unusedVariables false
set_option linter.unusedSimpArgs false

/-! ### assign_rest: function 44 -/
mutual
def assign_rest.l0 : Nat → List (List Int) → List Int → Int → Option (List Int)
  | 0, _, _, _ => none
  | k + 1, x0, x3, x4 => if x4 ≥ 0 then ((bits_OnesCount.f (IntKind.u64.wrap (x4))).bind fun t133 => (if t133 ≥ (x0.length : Int) then (assign_rest.l0 k x0 x3 (wrap64 (x4 - 1))) else (if 0 ≤ t133 then (if t133 < (x0.length : Int) then (assign_rest.l1 k x0 x3 x4 (-1) (rd_L8 x0 t133) ((rd_L8 x0 t133).length : Int) 0) else (none)) else (none)))) else (some x3)
def assign_rest.l1 : Nat → List (List Int) → List Int → Int → Int → List Int → Int → Int → Option (List Int)
  | 0, _, _, _, _, _, _, _ => none
  | k + 1, x0, x3, x4, x6, x36, x37, x38 => if x38 < x37 then (if 0 ≤ x38 then (if x38 < (x36.length : Int) then (if (Go.bits .and .i64 (shr .i64 x4 x38) 1) = 0 then (if x6 < 0 then (if 0 ≤ (Go.bits .or .i64 x4 (shl .i64 1 x38)) then (if (Go.bits .or .i64 x4 (shl .i64 1 x38)) < (x3.length : Int) then (assign_rest.l1 k x0 x3 x4 (wrap64 ((rd x36 x38) + (rd x3 (Go.bits .or .i64 x4 (shl .i64 1 x38))))) x36 x37 (wrap64 (x38 + 1))) else (none)) else (none)) else (if 0 ≤ (Go.bits .or .i64 x4 (shl .i64 1 x38)) then (if (Go.bits .or .i64 x4 (shl .i64 1 x38)) < (x3.length : Int) then (if (wrap64 ((rd x36 x38) + (rd x3 (Go.bits .or .i64 x4 (shl .i64 1 x38))))) < x6 then (assign_rest.l1 k x0 x3 x4 (wrap64 ((rd x36 x38) + (rd x3 (Go.bits .or .i64 x4 (shl .i64 1 x38))))) x36 x37 (wrap64 (x38 + 1))) else (assign_rest.l1 k x0 x3 x4 x6 x36 x37 (wrap64 (x38 + 1)))) else (none)) else (none))) else (assign_rest.l1 k x0 x3 x4 x6 x36 x37 (wrap64 (x38 + 1)))) else (none)) else (none)) else (if 0 ≤ x4 then (if x4 < (x3.length : Int) then (assign_rest.l0 k x0 (x3.set (x4 : Int).toNat x6) (wrap64 (x4 - 1))) else (none)) else (none))
end
def assign_rest.f (k : Nat) (l0 : List (List Int)) : Option (List Int) := if (l0.length : Int) = 0 then (some (([0] : List Int))) else (if 0 < (l0.length : Int) then (if 0 ≤ (shl .i64 1 ((rd_L8 l0 0).length : Int)) then (if (shl .i64 1 ((rd_L8 l0 0).length : Int) : Int).toNat ≤ 35184372088832 then ((some (List.replicate (shl .i64 1 ((rd_L8 l0 0).length : Int) : Int).toNat 0 : List Int)).bind fun y130 => (assign_rest.l0 k l0 y130 (wrap64 ((y130.length : Int) - 1)))) else (none)) else (none)) else (none))
theorem assign_rest.mono_l : ∀ k, (∀ y0 y1 y2, LeO (assign_rest.l0 k y0 y1 y2) (assign_rest.l0 (k + 1) y0 y1 y2)) ∧ (∀ y0 y1 y2 y3 y4 y5 y6, LeO (assign_rest.l1 k y0 y1 y2 y3 y4 y5 y6) (assign_rest.l1 (k + 1) y0 y1 y2 y3 y4 y5 y6))
  | 0 => ⟨fun _ _ _ r h => by simp [assign_rest.l0] at h, fun _ _ _ _ _ _ _ r h => by simp [assign_rest.l1] at h⟩
  | k + 1 => by
    obtain ⟨ih0, ih1⟩ := assign_rest.mono_l k
    refine ⟨?_, ?_⟩
    · intro y0 y1 y2
      unfold assign_rest.l0
      repeat' first
      | (with_reducible exact ih0 _ _ _)
      | (with_reducible exact ih1 _ _ _ _ _ _ _)
      | (with_reducible exact LeO.refl _)
      | (with_reducible exact LeO.none _)
      | (with_reducible refine LeO.ite ?_ ?_)
      | (with_reducible refine LeO.bind ?_ (fun _ => ?_))
      | exact ih0 _ _ _
      | exact ih1 _ _ _ _ _ _ _
      | exact LeO.none _
      | refine LeO.ite ?_ ?_
      | refine LeO.bind ?_ (fun _ => ?_)
    · intro y0 y1 y2 y3 y4 y5 y6
      unfold assign_rest.l1
      repeat' first
      | (with_reducible exact ih0 _ _ _)
      | (with_reducible exact ih1 _ _ _ _ _ _ _)
      | (with_reducible exact LeO.refl _)
      | (with_reducible exact LeO.none _)
      | (with_reducible refine LeO.ite ?_ ?_)
      | (with_reducible refine LeO.bind ?_ (fun _ => ?_))
      | exact ih0 _ _ _
      | exact ih1 _ _ _ _ _ _ _
      | exact LeO.none _
      | refine LeO.ite ?_ ?_
      | refine LeO.bind ?_ (fun _ => ?_)
theorem assign_rest.mono : ∀ a0 k, LeO (assign_rest.f k a0) (assign_rest.f (k + 1) a0) := by
  intro a0 k
  obtain ⟨ih0, ih1⟩ := assign_rest.mono_l k
  unfold assign_rest.f
  repeat' first
      | (with_reducible exact ih0 _ _ _)
      | (with_reducible exact ih1 _ _ _ _ _ _ _)
      | (with_reducible exact LeO.refl _)
      | (with_reducible exact LeO.none _)
      | (with_reducible refine LeO.ite ?_ ?_)
      | (with_reducible refine LeO.bind ?_ (fun _ => ?_))
      | exact ih0 _ _ _
      | exact ih1 _ _ _ _ _ _ _
      | exact LeO.none _
      | refine LeO.ite ?_ ?_
      | refine LeO.bind ?_ (fun _ => ?_)
set_option maxHeartbeats 8000000 in
set_option maxRecDepth 100000 in
theorem assign_rest.calls (k : Nat) (A0 : Option Addr) (c0 : Nat) (l0 : List (List Int)) (r : List Int) (w : World) (hr0 : Kd.C (Kd.slice 3 (Kd.int .i64)) w A0 l0.length l0) (hc0 : l0.length ≤ c0) (h : assign_rest.f k l0 = some r) :
    Calls Try.prog 44 #[.slice A0 l0.length c0] w fun e w' => ∃ v0_ : Value, e = .returned (v0_) ∧ Kd.R (Kd.int .i64) 3 w' w.heap.size (fun _ => True) v0_ r ∧ Below w.heap.size w w' := by
  have HR0 := Aside0.mk hr0
  have HC0 := Aside0.mk hc0
  clear hr0 hc0
  have HB := Aside0.mk (Below.refl w.heap.size w)
  have H : (if (l0.length : Int) = 0 then (some (([0] : List Int))) else (if 0 < (l0.length : Int) then (if 0 ≤ (shl .i64 1 ((rd_L8 l0 0).length : Int)) then (if (shl .i64 1 ((rd_L8 l0 0).length : Int) : Int).toNat ≤ 35184372088832 then ((some (List.replicate (shl .i64 1 ((rd_L8 l0 0).length : Int) : Int).toNat 0 : List Int)).bind fun y130 => (assign_rest.l0 k l0 y130 (wrap64 ((y130.length : Int) - 1)))) else (none)) else (none)) else (none))) = some r := h
  clear h
  by_cases c2 : (l0.length : Int) = 0
  · rw [if_pos c2] at H
    have c2b0 : ((l0.length : Int) == 0) = true := beq_iff_eq.mpr c2
    have c2b1 : ((l0.length : Int) != 0) = false := bne_eq_false_iff_eq.mpr c2
    clear c2
    obtain ⟨y126, hy126⟩ : ∃ y_ : List Int, y_ = (([0] : List Int)) := ⟨_, rfl⟩
    replace H : (some y126) = some r := by first | (rw [hy126]; with_reducible exact H) | (have H2_ := (Option.bind_some _ _).symm.trans H; rw [hy126]; with_reducible exact H2_) | (have H2_ := (Option.bind_some _ _).symm.trans H; with_reducible exact H2_) | with_reducible exact H | (rw [hy126]; exact H) | exact H
    have Ny126 := Aside0.mk hy126
    clear hy126
    obtain rfl := Option.some.inj H
    go_enter Try.func44, Try.ntmps44
    go_wp2_with (first | ((with_reducible refine gate_dst (N := 12) rfl ?_); refine Kd.R_lit (Kd.int .i64) _ 3 ?hg (N := 12) ?hd (xs := ([0] : List Int)) (inner := [.int .i64 0]) (ok := fun _ => True) (okp := fun _ => True) ?hr ?hp (fun _ hk => hk) trivial (Below.refl _ _) (Nat.le_refl _) (by simp) ?_; (case hd => rfl); (case hg => rfl); (case hr => first | (go_simp; done) | (go_simp; rfl)); (case hp => exact (Reps.one (show Kd.M (Kd.int .i64) _ _ _ 0 [.int .i64 0] from rfl) (Reps.none _ _))); intro v127 w3 ho4 hb hg_ hnew_; clear hg_ hnew_; (first | rw [← Ny126.out] at ho4 | (simp only [Int.reduceToNat] at ho4; rw [← Ny126.out] at ho4)); have n0_ := Aside0.mk (Kd.R_lower ho4 (below_size (by repeat (first | (with_reducible first | exact HB.out | apply below_alloc | apply pw_below_drewN | apply below_drew1) | exact HB.out)))); have n1_ := Aside0.mk (below_step (by repeat (first | (with_reducible first | exact HB.out | apply below_alloc | apply pw_below_drewN | apply below_drew1) | exact HB.out)) hb); clear HB; have HO128 := n0_; have HB := n1_; clear n0_ n1_; clear hb ho4))
    go_ret
    exact ⟨_, by first | rfl | (simp [errW_none, errW_some] <;> rfl) | (simp [*, errW_none, errW_some] <;> rfl), by (with_reducible repeat (first | apply Kd.R_alloc | apply Kd.R_drewN | apply Kd.R_drew)); exact HO128.out, by repeat (first | (with_reducible first | exact HB.out | apply below_alloc | apply pw_below_drewN | apply below_drew1) | exact HB.out)⟩
  · rw [if_neg c2] at H
    have c2b0 : ((l0.length : Int) == 0) = false := beq_eq_false_iff_ne.mpr c2
    have c2b1 : ((l0.length : Int) != 0) = true := bne_iff_ne.mpr c2
    have c2b2 : ¬ (l0 = []) := fun h_ => c2 (by rw [h_]; rfl)
    by_cases c5 : 0 < (l0.length : Int)
    · rw [if_pos c5] at H
      have c5b0 : decide (0 < (l0.length : Int)) = true := decide_eq_true c5
      have c5b1 : decide (0 < l0.length) = true := decide_eq_true (by omega)
      clear c5
      obtain ⟨ji6, hji6⟩ : ∃ j_ : Int, (shl .i64 1 ((rd_L8 l0 0).length : Int)) = j_ := ⟨_, rfl⟩
      replace H : (if 0 ≤ (ji6) then (if (ji6 : Int).toNat ≤ 35184372088832 then ((some (List.replicate (ji6 : Int).toNat 0 : List Int)).bind fun y130 => (assign_rest.l0 k l0 y130 (wrap64 ((y130.length : Int) - 1)))) else (none)) else (none)) = some r := by first | (rw [hji6] at H; exact H) | (simp only [hji6] at H ⊢; exact H)
      have hji6_ : (IntKind.i64.wrap (1 * 2 ^ min ((rd_L8 l0 0).length : Int).toNat 64)) = ji6 := hji6
      have hji6z : ((rd_L8 l0 0).length : Int) ≤ 64 → (IntKind.i64.wrap (1 * 2 ^ ((rd_L8 l0 0).length : Int).toNat)) = ji6 := shl_small hji6
      have hji6p : (IntKind.i64.wrap (1 * 2 ^ min (rd_L8 l0 0).length 64)) = ji6 := hji6_
      have hji6q : ((rd_L8 l0 0).length : Int) ≤ 64 → (IntKind.i64.wrap (1 * 2 ^ (rd_L8 l0 0).length)) = ji6 := hji6z
      have hji6r : (IntKind.i64.wrap (2 ^ min (rd_L8 l0 0).length 64)) = ji6 := by have h_ := hji6p; rw [Int.one_mul] at h_; exact h_
      have hji6s : ((rd_L8 l0 0).length : Int) ≤ 64 → (IntKind.i64.wrap (2 ^ (rd_L8 l0 0).length)) = ji6 := fun hle_ => by have h_ := hji6q hle_; rw [Int.one_mul] at h_; exact h_
      have hji6u : (IntKind.i64.wrap (2 ^ min ((rd_L8 l0 0).length : Int).toNat 64)) = ji6 := by have h_ := hji6_; rw [Int.one_mul] at h_; exact h_
      have hji6v : ((rd_L8 l0 0).length : Int) ≤ 64 → (IntKind.i64.wrap (2 ^ ((rd_L8 l0 0).length : Int).toNat)) = ji6 := fun hle_ => by have h_ := hji6z hle_; rw [Int.one_mul] at h_; exact h_
      have hji6y : (wrap64 (1 * 2 ^ min ((rd_L8 l0 0).length : Int).toNat 64)) = ji6 := (i64_w _).symm.trans hji6_
      have hji6x : ((rd_L8 l0 0).length : Int) ≤ 64 → (wrap64 (1 * 2 ^ ((rd_L8 l0 0).length : Int).toNat)) = ji6 := fun h_ => (i64_w _).symm.trans (hji6z h_)
      by_cases c7 : 0 ≤ (ji6)
      · rw [if_pos c7] at H
        have c7b0 := eq_true c7
        have c7b1 : decide (0 ≤ (ji6)) = true := decide_eq_true c7
        clear c7
        by_cases c8 : (ji6 : Int).toNat ≤ 35184372088832
        · rw [if_pos c8] at H
          have c8b0 := eq_true c8
          have c8b1 : decide ((ji6 : Int).toNat ≤ 35184372088832) = true := decide_eq_true c8
          clear c8
          obtain ⟨y130, hy130⟩ : ∃ y_ : List Int, y_ = (List.replicate (ji6 : Int).toNat 0) := ⟨_, rfl⟩
          replace H : (assign_rest.l0 k l0 y130 (wrap64 ((y130.length : Int) - 1))) = some r := by first | (rw [hy130]; with_reducible exact H) | (have H2_ := (Option.bind_some _ _).symm.trans H; rw [hy130]; with_reducible exact H2_) | (have H2_ := (Option.bind_some _ _).symm.trans H; with_reducible exact H2_) | with_reducible exact H | (rw [hy130]; exact H) | exact H
          have Ny130 := Aside0.mk hy130
          clear hy130
          have H' := Aside0.mk H
          clear H
          have p129 : 0 ≤ (0 : Int) := (by omega)
          have q129 : 0 < (l0.length : Int) := of_decide_eq_true (by first | (with_reducible assumption) | assumption)
          obtain ⟨ad129, A129_0, c129_0, e129, hx129_0, hl129_0, hi129_0⟩ := at_L8 HR0.out 0 p129 q129
          cases e129
          have qi129 : (0 < l0.length) = True := eq_true (by omega)
          (try rw [show ((0 : Int)).toNat = 0 from rfl] at hx129_0)
          (try rw [Addr.add_zero'] at hx129_0)
          have HR129_0 := Aside0.mk hi129_0
          have HC129_0 := Aside0.mk hl129_0
          clear hi129_0 hl129_0
          replace p129 := eq_true p129
          replace q129 := eq_true q129
          go_enter Try.func44, Try.ntmps44
          go_wp2_with (first | ((with_reducible refine gate_dst (N := 18) rfl ?_); refine Kd.R_make (Kd.int .i64) _ 3 rfl (N := 18) rfl 43 _ _ rfl ji6 rfl rfl Try.underlying43 (.int .i64 0) 8 info3 rfl (by decide) (by omega) 0 (ok := fun _ => True) (okp := fun _ => True) rfl (fun _ hk => hk) trivial (of_decide_eq_true (by first | (with_reducible assumption) | assumption)) (Nat.le_trans (Nat.mul_le_mul_right _ (of_decide_eq_true (by first | (with_reducible assumption) | assumption) : ji6.toNat ≤ 35184372088832)) (by omega)) (Below.refl _ _) (Nat.le_refl _) ?_; intro v131 w9 ho10 hb hg_ hnew_; clear hg_ hnew_; (first | rw [← Ny130.out] at ho10 | (simp only [Int.reduceToNat] at ho10; rw [← Ny130.out] at ho10)); have n0_ := Aside0.mk (Kd.R_lower ho10 (below_size (by repeat (first | (with_reducible first | exact HB.out | apply below_alloc | apply pw_below_drewN | apply below_drew1) | exact HB.out)))); have n1_ := Aside0.mk (below_step (by repeat (first | (with_reducible first | exact HB.out | apply below_alloc | apply pw_below_drewN | apply below_drew1) | exact HB.out)) hb); clear HB; have HO132 := n0_; have HB := n1_; clear n0_ n1_; clear hb ho10; obtain ⟨Ao11, co11, eo11⟩ := Kd.R_slice HO132.out; subst eo11))
          go_loopg [4] k (fun kq v4 w' => ∃ (x3_1 : List Int) (x4_1 : Int), v4 = .int .i64 x4_1 ∧ Aside0 (assign_rest.l0 kq l0 x3_1 x4_1 = some r) ∧ Aside0 (kq ≤ k) ∧ Aside0 (Kd.R (Kd.int .i64) 3 w' w.heap.size (fun _ => True) (.slice Ao11 y130.length co11) x3_1) ∧ Aside0 (Below w.heap.size w w'))
          case atStart => exact ⟨(y130), (wrap64 ((y130.length : Int) - 1)), (by first | rfl | (simp; done) | (simp [*]; done)), H', ⟨Nat.le_refl _⟩, ⟨by (with_reducible repeat (first | apply Kd.R_alloc | apply Kd.R_drewN | apply Kd.R_drew)); exact HO132.out⟩, ⟨by repeat (first | (with_reducible first | exact HB.out | apply below_alloc | apply pw_below_drewN | apply below_drew1) | exact HB.out)⟩⟩
          case round =>
            clear H'
            try clear c1
            try clear p1
            try clear q1
            try clear hx1
            try clear qi1
            try clear c2
            try clear c2b0
            try clear c2b1
            try clear c2b2
            try clear p2
            try clear c4
            try clear c5
            try clear c5b0
            try clear c5b1
            try clear p6
            try clear c7
            try clear c7b0
            try clear c7b1
            try clear c8
            try clear c8b0
            try clear c8b1
            try clear hx129_0
            try clear p129
            try clear q129
            obtain ⟨x3_1, x4_1, rfl, HA, HK1, HO_3, HB⟩ := hrel
            have hl3_1 := (Kd.R_reads' HO_3.out).1
            rw [hl3_1] at HO_3
            (try simp only [hl3_1])
            cases gk with
            | zero => exact absurd HA.out (by simp [assign_rest.l0])
            | succ k1 =>
              have H := HA.out
              clear HA
              simp only [assign_rest.l0] at H
              by_cases c12 : x4_1 ≥ 0
              · rw [if_pos c12] at H
                have c12b0 : decide (0 ≤ x4_1) = true := decide_eq_true c12
                clear c12
                replace H := Option.bind_eq_some_iff.mp H
                obtain ⟨t133, A130, H⟩ := H
                replace H : (if t133 ≥ (l0.length : Int) then (assign_rest.l0 k1 l0 x3_1 (wrap64 (x4_1 - 1))) else (if 0 ≤ t133 then (if t133 < (l0.length : Int) then (assign_rest.l1 k1 l0 x3_1 x4_1 (-1) (rd_L8 l0 t133) ((rd_L8 l0 t133).length : Int) 0) else (none)) else (none))) = some r := H
                have A13 := Aside0.mk A130
                clear A130
                by_cases c14 : t133 ≥ (l0.length : Int)
                · rw [if_pos c14] at H
                  have c14b0 : decide ((l0.length : Int) ≤ t133) = true := decide_eq_true c14
                  clear c14
                  have H' := Aside0.mk H
                  clear H
                  go_wp2_with (first | ((with_reducible refine gate_callee (f := 53) rfl ?_); refine goesL_ (some 28) rfl rfl Try.func53 (by kernel_rfl) rfl #[.int .u64 (IntKind.u64.wrap (x4_1))] rfl (by (try simp only [List.map_toArray, List.map_cons, List.map_nil]); first | done | rfl | (simp only [List.length_drop, List.length_take]; rfl)) ?_; (with_reducible refine (bits_OnesCount.calls (IntKind.u64.wrap (x4_1)) t133 _ A13.out).mono ?_); rintro e w' ⟨rfl, ⟨nd, rfl⟩⟩; refine ⟨_, rfl, ?_⟩))
                  (try simp only [← hl3_1])
                  go_roundg k1
                  case measure => have := HK1.out; omega
                  case rel => exact ⟨(x3_1), (wrap64 (x4_1 - 1)), (by first | rfl | (simp; done) | (simp [*]; done)), H', ⟨by have := HK1.out; omega⟩, ⟨by (try simp only [hl3_1]); (with_reducible repeat (first | apply Kd.R_alloc | apply Kd.R_drewN | apply Kd.R_drew)); exact HO_3.out⟩, ⟨by repeat (first | (with_reducible first | exact HB.out | apply below_alloc | apply pw_below_drewN | apply below_drew1) | exact HB.out)⟩⟩
                · rw [if_neg c14] at H
                  have c14b0 : decide ((l0.length : Int) ≤ t133) = false := decide_eq_false c14
                  clear c14
                  by_cases c15 : 0 ≤ t133
                  · rw [if_pos c15] at H
                    have c15b0 : decide (0 ≤ t133) = true := decide_eq_true c15
                    clear c15
                    by_cases c16 : t133 < (l0.length : Int)
                    · rw [if_pos c16] at H
                      have c16b0 : decide (t133 < (l0.length : Int)) = true := decide_eq_true c16
                      clear c16
                      have H' := Aside0.mk H
                      clear H
                      go_wp2_with (first | ((with_reducible refine gate_callee (f := 53) rfl ?_); refine goesL_ (some 28) rfl rfl Try.func53 (by kernel_rfl) rfl #[.int .u64 (IntKind.u64.wrap (x4_1))] rfl (by (try simp only [List.map_toArray, List.map_cons, List.map_nil]); first | done | rfl | (simp only [List.length_drop, List.length_take]; rfl)) ?_; (with_reducible refine (bits_OnesCount.calls (IntKind.u64.wrap (x4_1)) t133 _ A13.out).mono ?_); rintro e w' ⟨rfl, ⟨nd, rfl⟩⟩; refine ⟨_, rfl, ?_⟩; have p134 : 0 ≤ (t133 : Int) := of_decide_eq_true (by first | (with_reducible assumption) | assumption); have q134 : t133 < (l0.length : Int) := of_decide_eq_true (by first | (with_reducible assumption) | assumption); obtain ⟨ad134, A134_0, c134_0, e134, hx134_0, hl134_0, hi134_0⟩ := at_L8 HR0.out t133 p134 q134; obtain rfl : ad129 = ad134 := (by injection e134); replace hx134_0 := (HB.out.cell (World.block_lt_of_cell? w _ hx134_0)).trans hx134_0; have HR134_0 := Aside0.mk hi134_0; have HC134_0 := Aside0.mk hl134_0; clear hi134_0 hl134_0; replace p134 := eq_true p134; replace q134 := eq_true q134))
                      go_loopg [6, 38] k1 (fun kq v6 v38 w' => ∃ (x6_2 : Int) (x38_2 : Int), v6 = .int .i64 x6_2 ∧ v38 = .int .i64 x38_2 ∧ Aside0 (assign_rest.l1 kq l0 x3_1 x4_1 x6_2 (rd_L8 l0 t133) ((rd_L8 l0 t133).length : Int) x38_2 = some r) ∧ Aside0 (kq ≤ k1) ∧ Aside0 (Kd.R (Kd.int .i64) 3 w' w.heap.size (fun _ => True) (.slice Ao11 x3_1.length co11) x3_1) ∧ Aside0 (Below w.heap.size w w'))
                      case atStart => exact ⟨((-1)), (0), (by first | rfl | (simp; done) | (simp [*]; done)), (by first | rfl | (simp; done) | (simp [*]; done)), H', ⟨Nat.le_refl _⟩, ⟨by (try simp only [hl3_1]); (with_reducible repeat (first | apply Kd.R_alloc | apply Kd.R_drewN | apply Kd.R_drew)); exact HO_3.out⟩, ⟨by repeat (first | (with_reducible first | exact HB.out | apply below_alloc | apply pw_below_drewN | apply below_drew1) | exact HB.out)⟩⟩
                      case round =>
                        clear H'
                        try clear c1
                        try clear p1
                        try clear q1
                        try clear hx1
                        try clear qi1
                        try clear c2
                        try clear c2b0
                        try clear c2b1
                        try clear c2b2
                        try clear p2
                        try clear c4
                        try clear c5
                        try clear c5b0
                        try clear c5b1
                        try clear p6
                        try clear c7
                        try clear c7b0
                        try clear c7b1
                        try clear c8
                        try clear c8b0
                        try clear c8b1
                        try clear c12
                        try clear c12b0
                        try clear p12
                        try clear q12
                        try clear hx12
                        try clear qi12
                        try clear c13
                        try clear p13
                        try clear q13
                        try clear hx13
                        try clear c14
                        try clear c14b0
                        try clear c15
                        try clear c15b0
                        try clear c16
                        try clear c16b0
                        try clear hx129_0
                        try clear hx134_0
                        try clear p1
                        try clear p129
                        try clear p134
                        try clear p2
                        try clear p6
                        try clear q1
                        try clear q129
                        try clear q134
                        obtain ⟨x6_2, x38_2, rfl, rfl, HA, HK2, HO_3, HB⟩ := hrel
                        cases gk with
                        | zero => exact absurd HA.out (by simp [assign_rest.l1])
                        | succ k2 =>
                          have H := HA.out
                          clear HA
                          simp only [assign_rest.l1] at H
                          by_cases c17 : x38_2 < ((rd_L8 l0 t133).length : Int)
                          · rw [if_pos c17] at H
                            have c17b0 : decide (x38_2 < ((rd_L8 l0 t133).length : Int)) = true := decide_eq_true c17
                            clear c17
                            by_cases c18 : 0 ≤ x38_2
                            · rw [if_pos c18] at H
                              have c18b0 : decide (0 ≤ x38_2) = true := decide_eq_true c18
                              clear c18
                              by_cases c19 : x38_2 < ((rd_L8 l0 t133).length : Int)
                              · rw [if_pos c19] at H
                                have c19b0 : decide (x38_2 < ((rd_L8 l0 t133).length : Int)) = true := decide_eq_true c19
                                clear c19
                                have c20b0 := eq_true (of_decide_eq_true (by first | (with_reducible assumption) | assumption) : 0 ≤ x38_2)
                                obtain ⟨ji21, hji21⟩ : ∃ j_ : Int, (shr .i64 x4_1 x38_2) = j_ := ⟨_, rfl⟩
                                replace H : (if (Go.bits .and .i64 (ji21) 1) = 0 then (if x6_2 < 0 then (if 0 ≤ (Go.bits .or .i64 x4_1 (shl .i64 1 x38_2)) then (if (Go.bits .or .i64 x4_1 (shl .i64 1 x38_2)) < (x3_1.length : Int) then (assign_rest.l1 k2 l0 x3_1 x4_1 (wrap64 ((rd (rd_L8 l0 t133) x38_2) + (rd x3_1 (Go.bits .or .i64 x4_1 (shl .i64 1 x38_2))))) (rd_L8 l0 t133) ((rd_L8 l0 t133).length : Int) (wrap64 (x38_2 + 1))) else (none)) else (none)) else (if 0 ≤ (Go.bits .or .i64 x4_1 (shl .i64 1 x38_2)) then (if (Go.bits .or .i64 x4_1 (shl .i64 1 x38_2)) < (x3_1.length : Int) then (if (wrap64 ((rd (rd_L8 l0 t133) x38_2) + (rd x3_1 (Go.bits .or .i64 x4_1 (shl .i64 1 x38_2))))) < x6_2 then (assign_rest.l1 k2 l0 x3_1 x4_1 (wrap64 ((rd (rd_L8 l0 t133) x38_2) + (rd x3_1 (Go.bits .or .i64 x4_1 (shl .i64 1 x38_2))))) (rd_L8 l0 t133) ((rd_L8 l0 t133).length : Int) (wrap64 (x38_2 + 1))) else (assign_rest.l1 k2 l0 x3_1 x4_1 x6_2 (rd_L8 l0 t133) ((rd_L8 l0 t133).length : Int) (wrap64 (x38_2 + 1)))) else (none)) else (none))) else (assign_rest.l1 k2 l0 x3_1 x4_1 x6_2 (rd_L8 l0 t133) ((rd_L8 l0 t133).length : Int) (wrap64 (x38_2 + 1)))) = some r := by first | (rw [hji21] at H; exact H) | (simp only [hji21] at H ⊢; exact H)
                                have hji21_ : (x4_1 / 2 ^ min x38_2.toNat 64) = ji21 := hji21
                                have hji21z : x38_2 ≤ 64 → (x4_1 / 2 ^ x38_2.toNat) = ji21 := shr_small hji21
                                by_cases c22 : (Go.bits .and .i64 (ji21) 1) = 0
                                · rw [if_pos c22] at H
                                  have c22b0 : ((Go.bits .and .i64 (ji21) 1) == 0) = true := beq_iff_eq.mpr c22
                                  have c22b1 : ((Go.bits .and .i64 (ji21) 1) != 0) = false := bne_eq_false_iff_eq.mpr c22
                                  clear c22
                                  by_cases c23 : x6_2 < 0
                                  · rw [if_pos c23] at H
                                    have c23b0 : decide (x6_2 < 0) = true := decide_eq_true c23
                                    clear c23
                                    have c24b0 := eq_true (of_decide_eq_true (by first | (with_reducible assumption) | assumption) : 0 ≤ x38_2)
                                    obtain ⟨ji25, hji25⟩ : ∃ j_ : Int, (shl .i64 1 x38_2) = j_ := ⟨_, rfl⟩
                                    replace H : (if 0 ≤ (Go.bits .or .i64 x4_1 (ji25)) then (if (Go.bits .or .i64 x4_1 (ji25)) < (x3_1.length : Int) then (assign_rest.l1 k2 l0 x3_1 x4_1 (wrap64 ((rd (rd_L8 l0 t133) x38_2) + (rd x3_1 (Go.bits .or .i64 x4_1 (ji25))))) (rd_L8 l0 t133) ((rd_L8 l0 t133).length : Int) (wrap64 (x38_2 + 1))) else (none)) else (none)) = some r := by first | (rw [hji25] at H; exact H) | (simp only [hji25] at H ⊢; exact H)
                                    have hji25_ : (IntKind.i64.wrap (1 * 2 ^ min x38_2.toNat 64)) = ji25 := hji25
                                    have hji25z : x38_2 ≤ 64 → (IntKind.i64.wrap (1 * 2 ^ x38_2.toNat)) = ji25 := shl_small hji25
                                    have hji25u : (IntKind.i64.wrap (2 ^ min x38_2.toNat 64)) = ji25 := by have h_ := hji25_; rw [Int.one_mul] at h_; exact h_
                                    have hji25v : x38_2 ≤ 64 → (IntKind.i64.wrap (2 ^ x38_2.toNat)) = ji25 := fun hle_ => by have h_ := hji25z hle_; rw [Int.one_mul] at h_; exact h_
                                    have hji25y : (wrap64 (1 * 2 ^ min x38_2.toNat 64)) = ji25 := (i64_w _).symm.trans hji25_
                                    have hji25x : x38_2 ≤ 64 → (wrap64 (1 * 2 ^ x38_2.toNat)) = ji25 := fun h_ => (i64_w _).symm.trans (hji25z h_)
                                    by_cases c26 : 0 ≤ (Go.bits .or .i64 x4_1 (ji25))
                                    · rw [if_pos c26] at H
                                      have c26b0 : decide (0 ≤ (Go.bits .or .i64 x4_1 (ji25))) = true := decide_eq_true c26
                                      clear c26
                                      by_cases c27 : (Go.bits .or .i64 x4_1 (ji25)) < (x3_1.length : Int)
                                      · rw [if_pos c27] at H
                                        have c27b0 : decide ((Go.bits .or .i64 x4_1 (ji25)) < (x3_1.length : Int)) = true := decide_eq_true c27
                                        clear c27
                                        have H' := Aside0.mk H
                                        clear H
                                        have p135 : 0 ≤ (x38_2 : Int) := of_decide_eq_true (by first | (with_reducible assumption) | assumption)
                                        have q135 : x38_2 < ((rd_L8 l0 t133).length : Int) := of_decide_eq_true (by first | (with_reducible assumption) | assumption)
                                        obtain ⟨ad135, e135, hx135_0⟩ := Kd.at_int HR134_0.out x38_2 p135 q135
                                        cases e135
                                        replace hx135_0 := (HB.out.cell (World.block_lt_of_cell? w _ hx135_0)).trans hx135_0
                                        replace p135 := eq_true p135
                                        replace q135 := eq_true q135
                                        have p136 : 0 ≤ ((Go.bits .or .i64 x4_1 (ji25)) : Int) := of_decide_eq_true (by first | (with_reducible assumption) | assumption)
                                        have q136 : (Go.bits .or .i64 x4_1 (ji25)) < (x3_1.length : Int) := of_decide_eq_true (by first | (with_reducible assumption) | assumption)
                                        obtain ⟨ad136, e136, hx136_0⟩ := Kd.at_int (Kd.R_reads' HO_3.out).2.2 (Go.bits .or .i64 x4_1 (ji25)) p136 q136
                                        cases e136
                                        replace p136 := eq_true p136
                                        replace q136 := eq_true q136
                                        go_wp2
                                        go_roundg k2
                                        case measure => have := HK1.out; have := HK2.out; omega
                                        case rel => exact ⟨(wrap64 ((rd (rd_L8 l0 t133) x38_2) + (rd x3_1 (Go.bits .or .i64 x4_1 (ji25))))), (wrap64 (x38_2 + 1)), (by first | rfl | (simp; done) | (simp only [← hji25] <;> (first | rfl | simp)) | (simp [*]; done)), (by first | rfl | (simp; done) | (simp [*]; done)), H', ⟨by have := HK1.out; have := HK2.out; omega⟩, ⟨by (try simp only [hl3_1]); (with_reducible repeat (first | apply Kd.R_alloc | apply Kd.R_drewN | apply Kd.R_drew)); exact HO_3.out⟩, ⟨by repeat (first | (with_reducible first | exact HB.out | apply below_alloc | apply pw_below_drewN | apply below_drew1) | exact HB.out)⟩⟩
                                      · rw [if_neg c27] at H
                                        exact absurd H (by simp)
                                    · rw [if_neg c26] at H
                                      exact absurd H (by simp)
                                  · rw [if_neg c23] at H
                                    have c23b0 : decide (x6_2 < 0) = false := decide_eq_false c23
                                    clear c23
                                    have c28b0 := eq_true (of_decide_eq_true (by first | (with_reducible assumption) | assumption) : 0 ≤ x38_2)
                                    obtain ⟨ji29, hji29⟩ : ∃ j_ : Int, (shl .i64 1 x38_2) = j_ := ⟨_, rfl⟩
                                    replace H : (if 0 ≤ (Go.bits .or .i64 x4_1 (ji29)) then (if (Go.bits .or .i64 x4_1 (ji29)) < (x3_1.length : Int) then (if (wrap64 ((rd (rd_L8 l0 t133) x38_2) + (rd x3_1 (Go.bits .or .i64 x4_1 (ji29))))) < x6_2 then (assign_rest.l1 k2 l0 x3_1 x4_1 (wrap64 ((rd (rd_L8 l0 t133) x38_2) + (rd x3_1 (Go.bits .or .i64 x4_1 (ji29))))) (rd_L8 l0 t133) ((rd_L8 l0 t133).length : Int) (wrap64 (x38_2 + 1))) else (assign_rest.l1 k2 l0 x3_1 x4_1 x6_2 (rd_L8 l0 t133) ((rd_L8 l0 t133).length : Int) (wrap64 (x38_2 + 1)))) else (none)) else (none)) = some r := by first | (rw [hji29] at H; exact H) | (simp only [hji29] at H ⊢; exact H)
                                    have hji29_ : (IntKind.i64.wrap (1 * 2 ^ min x38_2.toNat 64)) = ji29 := hji29
                                    have hji29z : x38_2 ≤ 64 → (IntKind.i64.wrap (1 * 2 ^ x38_2.toNat)) = ji29 := shl_small hji29
                                    have hji29u : (IntKind.i64.wrap (2 ^ min x38_2.toNat 64)) = ji29 := by have h_ := hji29_; rw [Int.one_mul] at h_; exact h_
                                    have hji29v : x38_2 ≤ 64 → (IntKind.i64.wrap (2 ^ x38_2.toNat)) = ji29 := fun hle_ => by have h_ := hji29z hle_; rw [Int.one_mul] at h_; exact h_
                                    have hji29y : (wrap64 (1 * 2 ^ min x38_2.toNat 64)) = ji29 := (i64_w _).symm.trans hji29_
                                    have hji29x : x38_2 ≤ 64 → (wrap64 (1 * 2 ^ x38_2.toNat)) = ji29 := fun h_ => (i64_w _).symm.trans (hji29z h_)
                                    by_cases c30 : 0 ≤ (Go.bits .or .i64 x4_1 (ji29))
                                    · rw [if_pos c30] at H
                                      have c30b0 : decide (0 ≤ (Go.bits .or .i64 x4_1 (ji29))) = true := decide_eq_true c30
                                      clear c30
                                      by_cases c31 : (Go.bits .or .i64 x4_1 (ji29)) < (x3_1.length : Int)
                                      · rw [if_pos c31] at H
                                        have c31b0 : decide ((Go.bits .or .i64 x4_1 (ji29)) < (x3_1.length : Int)) = true := decide_eq_true c31
                                        clear c31
                                        by_cases c32 : (wrap64 ((rd (rd_L8 l0 t133) x38_2) + (rd x3_1 (Go.bits .or .i64 x4_1 (ji29))))) < x6_2
                                        · rw [if_pos c32] at H
                                          have c32b0 : decide ((wrap64 ((rd (rd_L8 l0 t133) x38_2) + (rd x3_1 (Go.bits .or .i64 x4_1 (ji29))))) < x6_2) = true := decide_eq_true c32
                                          clear c32
                                          have c33b0 := eq_true (of_decide_eq_true (by first | (with_reducible assumption) | assumption) : 0 ≤ x38_2)
                                          have H' := Aside0.mk H
                                          clear H
                                          have p135 : 0 ≤ (x38_2 : Int) := of_decide_eq_true (by first | (with_reducible assumption) | assumption)
                                          have q135 : x38_2 < ((rd_L8 l0 t133).length : Int) := of_decide_eq_true (by first | (with_reducible assumption) | assumption)
                                          obtain ⟨ad135, e135, hx135_0⟩ := Kd.at_int HR134_0.out x38_2 p135 q135
                                          cases e135
                                          replace hx135_0 := (HB.out.cell (World.block_lt_of_cell? w _ hx135_0)).trans hx135_0
                                          replace p135 := eq_true p135
                                          replace q135 := eq_true q135
                                          have p137 : 0 ≤ ((Go.bits .or .i64 x4_1 (ji29)) : Int) := of_decide_eq_true (by first | (with_reducible assumption) | assumption)
                                          have q137 : (Go.bits .or .i64 x4_1 (ji29)) < (x3_1.length : Int) := of_decide_eq_true (by first | (with_reducible assumption) | assumption)
                                          obtain ⟨ad137, e137, hx137_0⟩ := Kd.at_int (Kd.R_reads' HO_3.out).2.2 (Go.bits .or .i64 x4_1 (ji29)) p137 q137
                                          cases e137
                                          replace p137 := eq_true p137
                                          replace q137 := eq_true q137
                                          have p138 : 0 ≤ ((Go.bits .or .i64 x4_1 (ji29)) : Int) := of_decide_eq_true (by first | (with_reducible assumption) | assumption)
                                          have q138 : (Go.bits .or .i64 x4_1 (ji29)) < (x3_1.length : Int) := of_decide_eq_true (by first | (with_reducible assumption) | assumption)
                                          obtain ⟨ad138, e138, hx138_0⟩ := Kd.at_int (Kd.R_reads' HO_3.out).2.2 (Go.bits .or .i64 x4_1 (ji29)) p138 q138
                                          obtain rfl : ad137 = ad138 := (by injection e138)
                                          replace p138 := eq_true p138
                                          replace q138 := eq_true q138
                                          go_wp2
                                          go_roundg k2
                                          case measure => have := HK1.out; have := HK2.out; omega
                                          case rel => exact ⟨(wrap64 ((rd (rd_L8 l0 t133) x38_2) + (rd x3_1 (Go.bits .or .i64 x4_1 (ji29))))), (wrap64 (x38_2 + 1)), (by first | rfl | (simp; done) | (simp only [← hji29] <;> (first | rfl | simp)) | (simp [*]; done)), (by first | rfl | (simp; done) | (simp [*]; done)), H', ⟨by have := HK1.out; have := HK2.out; omega⟩, ⟨by (try simp only [hl3_1]); (with_reducible repeat (first | apply Kd.R_alloc | apply Kd.R_drewN | apply Kd.R_drew)); exact HO_3.out⟩, ⟨by repeat (first | (with_reducible first | exact HB.out | apply below_alloc | apply pw_below_drewN | apply below_drew1) | exact HB.out)⟩⟩
                                        · rw [if_neg c32] at H
                                          have c32b0 : decide ((wrap64 ((rd (rd_L8 l0 t133) x38_2) + (rd x3_1 (Go.bits .or .i64 x4_1 (ji29))))) < x6_2) = false := decide_eq_false c32
                                          clear c32
                                          have H' := Aside0.mk H
                                          clear H
                                          have p135 : 0 ≤ (x38_2 : Int) := of_decide_eq_true (by first | (with_reducible assumption) | assumption)
                                          have q135 : x38_2 < ((rd_L8 l0 t133).length : Int) := of_decide_eq_true (by first | (with_reducible assumption) | assumption)
                                          obtain ⟨ad135, e135, hx135_0⟩ := Kd.at_int HR134_0.out x38_2 p135 q135
                                          cases e135
                                          replace hx135_0 := (HB.out.cell (World.block_lt_of_cell? w _ hx135_0)).trans hx135_0
                                          replace p135 := eq_true p135
                                          replace q135 := eq_true q135
                                          have p137 : 0 ≤ ((Go.bits .or .i64 x4_1 (ji29)) : Int) := of_decide_eq_true (by first | (with_reducible assumption) | assumption)
                                          have q137 : (Go.bits .or .i64 x4_1 (ji29)) < (x3_1.length : Int) := of_decide_eq_true (by first | (with_reducible assumption) | assumption)
                                          obtain ⟨ad137, e137, hx137_0⟩ := Kd.at_int (Kd.R_reads' HO_3.out).2.2 (Go.bits .or .i64 x4_1 (ji29)) p137 q137
                                          cases e137
                                          replace p137 := eq_true p137
                                          replace q137 := eq_true q137
                                          go_wp2
                                          go_roundg k2
                                          case measure => have := HK1.out; have := HK2.out; omega
                                          case rel => exact ⟨(x6_2), (wrap64 (x38_2 + 1)), (by first | rfl | (simp; done) | (simp [*]; done)), (by first | rfl | (simp; done) | (simp [*]; done)), H', ⟨by have := HK1.out; have := HK2.out; omega⟩, ⟨by (try simp only [hl3_1]); (with_reducible repeat (first | apply Kd.R_alloc | apply Kd.R_drewN | apply Kd.R_drew)); exact HO_3.out⟩, ⟨by repeat (first | (with_reducible first | exact HB.out | apply below_alloc | apply pw_below_drewN | apply below_drew1) | exact HB.out)⟩⟩
                                      · rw [if_neg c31] at H
                                        exact absurd H (by simp)
                                    · rw [if_neg c30] at H
                                      exact absurd H (by simp)
                                · rw [if_neg c22] at H
                                  have c22b0 : ((Go.bits .and .i64 (ji21) 1) == 0) = false := beq_eq_false_iff_ne.mpr c22
                                  have c22b1 : ((Go.bits .and .i64 (ji21) 1) != 0) = true := bne_iff_ne.mpr c22
                                  have H' := Aside0.mk H
                                  clear H
                                  have p135 : 0 ≤ (x38_2 : Int) := of_decide_eq_true (by first | (with_reducible assumption) | assumption)
                                  have q135 : x38_2 < ((rd_L8 l0 t133).length : Int) := of_decide_eq_true (by first | (with_reducible assumption) | assumption)
                                  obtain ⟨ad135, e135, hx135_0⟩ := Kd.at_int HR134_0.out x38_2 p135 q135
                                  cases e135
                                  replace hx135_0 := (HB.out.cell (World.block_lt_of_cell? w _ hx135_0)).trans hx135_0
                                  replace p135 := eq_true p135
                                  replace q135 := eq_true q135
                                  go_wp2
                                  go_roundg k2
                                  case measure => have := HK1.out; have := HK2.out; omega
                                  case rel => exact ⟨(x6_2), (wrap64 (x38_2 + 1)), (by first | rfl | (simp; done) | (simp [*]; done)), (by first | rfl | (simp; done) | (simp [*]; done)), H', ⟨by have := HK1.out; have := HK2.out; omega⟩, ⟨by (try simp only [hl3_1]); (with_reducible repeat (first | apply Kd.R_alloc | apply Kd.R_drewN | apply Kd.R_drew)); exact HO_3.out⟩, ⟨by repeat (first | (with_reducible first | exact HB.out | apply below_alloc | apply pw_below_drewN | apply below_drew1) | exact HB.out)⟩⟩
                              · rw [if_neg c19] at H
                                exact absurd H (by simp)
                            · rw [if_neg c18] at H
                              exact absurd H (by simp)
                          · rw [if_neg c17] at H
                            have c17b0 : decide (x38_2 < ((rd_L8 l0 t133).length : Int)) = false := decide_eq_false c17
                            clear c17
                            by_cases c35 : 0 ≤ x4_1
                            · rw [if_pos c35] at H
                              have c35b0 : decide (0 ≤ x4_1) = true := decide_eq_true c35
                              clear c35
                              by_cases c36 : x4_1 < (x3_1.length : Int)
                              · rw [if_pos c36] at H
                                have c36b0 : decide (x4_1 < (x3_1.length : Int)) = true := decide_eq_true c36
                                clear c36
                                obtain ⟨y139, hy139⟩ : ∃ y_ : List Int, y_ = (x3_1.set (x4_1 : Int).toNat x6_2) := ⟨_, rfl⟩
                                replace H : (assign_rest.l0 k2 l0 y139 (wrap64 (x4_1 - 1))) = some r := by first | (rw [hy139]; with_reducible exact H) | (have H2_ := (Option.bind_some _ _).symm.trans H; rw [hy139]; with_reducible exact H2_) | (have H2_ := (Option.bind_some _ _).symm.trans H; with_reducible exact H2_) | with_reducible exact H | (rw [hy139]; exact H) | exact H
                                have Ny139 := Aside0.mk hy139
                                clear hy139
                                have H' := Aside0.mk H
                                clear H
                                have p37 : 0 ≤ (x4_1 : Int) := of_decide_eq_true (by first | (with_reducible assumption) | assumption)
                                have q37 : (x4_1 : Int) < ((x3_1.length : Int) : Int) := of_decide_eq_true (by first | (with_reducible assumption) | assumption)
                                obtain ⟨go37, co37, eo37, gb37, gl37, cl37, HG37⟩ := Kd.R_form HO_3.out (by omega)
                                (first | cases eo37 | (injection eo37 with ea_ en_ ec_; (first | subst ea_ | (injection ea_ with ea_; subst ea_)); subst ec_; clear en_))
                                have GB37 := Aside0.mk gb37
                                have GG37 := Aside0.mk HG37
                                clear gb37 gl37 HG37
                                obtain ⟨hx37_0, hf37_0⟩ := Kd.R_celln 0 HO_3.out (x4_1 : Int) p37 q37
                                replace p37 := eq_true p37
                                replace q37 := eq_true q37
                                have HP38 := Kd.R_putg HO_3.out (x4_1 : Int) x6_2
                                go_wp2_with (first | ((with_reducible refine gate_store (t := 3) (p := 78) rfl ?_); refine store_event (t := 3) (p := 78) (v := ?vo_w39) (w1 := (wr.setCell ⟨go37, (x4_1 : Int).toNat, none⟩ (.int .i64 x6_2))) ?hg ?ho ?hn ?hr ?_; (case ho => rfl); (case hg => rfl); (case hn => rfl); (case hr => first | (go_simp; done) | (go_simp; rfl)); intro w39 hw; have hg : wr.grownBy w39 (some go37) := (by rw [hw]; exact HP38.2); have hp_ : Kd.R (Kd.int .i64) 3 w39 w.heap.size (fun _ => True) (.slice (some ⟨go37, 0, none⟩) x3_1.length co11) y139 := (by rw [hw, Ny139.out]; exact HP38.1); clear HP38; have n0_ := Aside0.mk (hp_); have n1_ := Aside0.mk ((by rw [hw]; exact below_set (HB.out) GB37.out : Below w.heap.size w w39)); clear HO_3; clear HB; have HO_3 := n0_; have HB := n1_; clear n0_ n1_; clear hg hw hp_))
                                (try simp only [← hl3_1])
                                go_roundg k2
                                case measure => have := HK1.out; have := HK2.out; omega
                                case rel => exact ⟨(y139), (wrap64 (x4_1 - 1)), (by first | rfl | (simp; done) | (simp [*]; done)), H', ⟨by have := HK1.out; have := HK2.out; omega⟩, ⟨by (try simp only [hl3_1]); (with_reducible repeat (first | apply Kd.R_alloc | apply Kd.R_drewN | apply Kd.R_drew)); exact HO_3.out⟩, ⟨by repeat (first | (with_reducible first | exact HB.out | apply below_alloc | apply pw_below_drewN | apply below_drew1) | exact HB.out)⟩⟩
                              · rw [if_neg c36] at H
                                exact absurd H (by simp)
                            · rw [if_neg c35] at H
                              exact absurd H (by simp)
                    · rw [if_neg c16] at H
                      exact absurd H (by simp)
                  · rw [if_neg c15] at H
                    exact absurd H (by simp)
              · rw [if_neg c12] at H
                have c12b0 : decide (0 ≤ x4_1) = false := decide_eq_false c12
                clear c12
                obtain rfl := Option.some.inj H
                go_wp2
                go_ret
                exact ⟨_, by first | rfl | (simp [errW_none, errW_some] <;> rfl) | (simp only [← hji6]; first | rfl | (simp [errW_none, errW_some] <;> rfl)) | (simp [*, errW_none, errW_some] <;> rfl), by (with_reducible repeat (first | apply Kd.R_alloc | apply Kd.R_drewN | apply Kd.R_drew)); exact HO_3.out, by repeat (first | (with_reducible first | exact HB.out | apply below_alloc | apply pw_below_drewN | apply below_drew1) | exact HB.out)⟩
        · rw [if_neg c8] at H
          exact absurd H (by simp)
      · rw [if_neg c7] at H
        exact absurd H (by simp)
    · rw [if_neg c5] at H
      exact absurd H (by simp)

end Go.Proofs.Ytedejkhopjhnbaa.P
