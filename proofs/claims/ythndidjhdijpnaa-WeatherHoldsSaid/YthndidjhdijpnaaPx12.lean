-- Printed for this claim by a program of the session, out of Lean's own print of the translation.
import Derived.Test.YthndidjhdijpnaaPx0
namespace Go.Proofs.Ythndidjhdijpnaa.P
open Go.RowKit Go.Proofs.YthndidjhdijpnaaW.PrintWords Go.Proofs.YthndidjhdijpnaaW.PrintLast Go.Proofs.YthndidjhdijpnaaW.PrintMore
attribute [local go_sem] max2_int min2_int max_two min_two max_three min_three max_four min_four   -- for this text's walks alone
set_option linter.unusedVariables false
set_option linter.unusedSimpArgs false

/-! ### skiarealaw12_three: function 27 -/
def skiarealaw12_three.f  : Option ((List (S30))) := some (([(⟨3, 10, 5, 0, 0, 1⟩ : S30), (⟨3, 20, 9, 0, 0, 2⟩ : S30), (⟨3, 30, 7, 0, 0, 4⟩ : S30)] : List (S30)))
set_option maxHeartbeats 8000000 in
set_option maxRecDepth 100000 in
theorem skiarealaw12_three.calls  (r : List (S30)) (w : World) (h : skiarealaw12_three.f  = some r) :
    Calls Try.prog 27 #[] w fun e w' => ∃ v0_ : Value, e = .returned (v0_) ∧ Kd.R k30 30 w' w.heap.size (fun _ => True) v0_ r ∧ Below w.heap.size w w' := by
  have hu30 := Try.underlying30
  have HB := Aside0.mk (Below.refl w.heap.size w)
  have H : (some (([(⟨3, 10, 5, 0, 0, 1⟩ : S30), (⟨3, 20, 9, 0, 0, 2⟩ : S30), (⟨3, 30, 7, 0, 0, 4⟩ : S30)] : List (S30)))) = some r := h
  clear h
  obtain ⟨y116, hy116⟩ : ∃ y_ : List (S30), y_ = (([(⟨3, 10, 5, 0, 0, 1⟩ : S30), (⟨3, 20, 9, 0, 0, 2⟩ : S30), (⟨3, 30, 7, 0, 0, 4⟩ : S30)] : List (S30))) := ⟨_, rfl⟩
  replace H : (some y116) = some r := by first | (rw [hy116]; with_reducible exact H) | (have H2_ := (Option.bind_some _ _).symm.trans H; rw [hy116]; with_reducible exact H2_) | (have H2_ := (Option.bind_some _ _).symm.trans H; with_reducible exact H2_) | with_reducible exact H | (rw [hy116]; exact H) | exact H
  have Ny116 := Aside0.mk hy116
  clear hy116
  obtain rfl := Option.some.inj H
  go_enter Try.func27, Try.ntmps27
  go_wp2_with (first | ((with_reducible refine gate_dst (N := 4) rfl ?_); refine Kd.R_lit k30 _ 30 ?hg (N := 4) ?hd (xs := ([(⟨3, 10, 5, 0, 0, 1⟩ : S30), (⟨3, 20, 9, 0, 0, 2⟩ : S30), (⟨3, 30, 7, 0, 0, 4⟩ : S30)] : List (S30))) (inner := [.int .i64 3, .int .i64 10, .int .i64 5, .int .i64 0, .int .i64 0, .int .i64 1, .int .i64 3, .int .i64 20, .int .i64 9, .int .i64 0, .int .i64 0, .int .i64 2, .int .i64 3, .int .i64 30, .int .i64 7, .int .i64 0, .int .i64 0, .int .i64 4]) (ok := fun _ => True) (okp := fun _ => True) ?hr ?hp (fun _ hk => hk) trivial (Below.refl _ _) (Nat.le_refl _) (by simp) ?_; (case hd => rfl); (case hg => rfl); (case hr => first | (go_simp; done) | (go_simp; rfl)); (case hp => exact (Reps.c6 (show Kd.M k30 _ _ _ (⟨3, 10, 5, 0, 0, 1⟩ : S30) [.int .i64 3, .int .i64 10, .int .i64 5, .int .i64 0, .int .i64 0, .int .i64 1] from (k30_mkM _ _ _ (⟨3, 10, 5, 0, 0, 1⟩ : S30) )) (Reps.c6 (show Kd.M k30 _ _ _ (⟨3, 20, 9, 0, 0, 2⟩ : S30) [.int .i64 3, .int .i64 20, .int .i64 9, .int .i64 0, .int .i64 0, .int .i64 2] from (k30_mkM _ _ _ (⟨3, 20, 9, 0, 0, 2⟩ : S30) )) (Reps.c6 (show Kd.M k30 _ _ _ (⟨3, 30, 7, 0, 0, 4⟩ : S30) [.int .i64 3, .int .i64 30, .int .i64 7, .int .i64 0, .int .i64 0, .int .i64 4] from (k30_mkM _ _ _ (⟨3, 30, 7, 0, 0, 4⟩ : S30) )) (Reps.none _ _))))); intro v117 w1 ho2 hb hg_ hnew_; clear hg_ hnew_; (first | rw [← Ny116.out] at ho2 | (simp only [Int.reduceToNat] at ho2; rw [← Ny116.out] at ho2)); have n0_ := Aside0.mk (Kd.R_lower ho2 (below_size (by repeat (first | (with_reducible first | exact HB.out | apply below_alloc | apply pw_below_drewN | apply below_drew1) | exact HB.out)))); have n1_ := Aside0.mk (below_step (by repeat (first | (with_reducible first | exact HB.out | apply below_alloc | apply pw_below_drewN | apply below_drew1) | exact HB.out)) hb); clear HB; have HO118 := n0_; have HB := n1_; clear n0_ n1_; clear hb ho2))
  go_ret
  exact ⟨_, by first | rfl | (simp [errW_none, errW_some] <;> rfl) | (simp [*, errW_none, errW_some] <;> rfl), by (with_reducible repeat (first | apply Kd.R_alloc | apply Kd.R_drewN | apply Kd.R_drew)); exact HO118.out, by repeat (first | (with_reducible first | exact HB.out | apply below_alloc | apply pw_below_drewN | apply below_drew1) | exact HB.out)⟩

end Go.Proofs.Ythndidjhdijpnaa.P
