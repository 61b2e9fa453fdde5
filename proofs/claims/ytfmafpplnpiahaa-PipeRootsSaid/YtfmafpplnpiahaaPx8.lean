-- Printed for this claim by a program of the session, out of Lean's own print of the translation.
import Derived.Test.YtfmafpplnpiahaaPx0
import Derived.Test.YtfmafpplnpiahaaPx5
import Derived.Test.YtfmafpplnpiahaaPx6
namespace Go.Proofs.Ytfmafpplnpiahaa.P
open Go.RowKit Go.Proofs.YtfmafpplnpiahaaW.PrintWords Go.Proofs.YtfmafpplnpiahaaW.PrintLast Go.Proofs.YtfmafpplnpiahaaW.PrintMore
attribute [local go_sem] max2_int min2_int max_two min_two max_three min_three max_four min_four   -- for this text's walks alone
set_option linter.unusedVariables false
set_option linter.unusedSimpArgs false

/-! ### pipe_Low: function 21 -/
def lowGo (k : Nat) (l : List S45) (fl : List Int) (root : Int) : List Int → List S42 → Option (List Int)
  | out, [] => some out
  | out, d :: t => (presAt k l fl root d.f0).bind fun p => if p.2 = true ∧ ¬ p.1 < d.f1 then lowGo k l fl root out t else if out.length < 17592186044416 then lowGo k l fl root (out ++ [d.f0]) t else none
theorem lowGo_at (k : Nat) (l : List S45) (fl : List Int) (root : Int) (out : List Int) (ds : List S42) (j : Nat) (h : j < ds.length) : lowGo k l fl root out (ds.drop j) =
    (presAt k l fl root (rd_T42 ds (j : Int)).f0).bind fun p => if p.2 = true ∧ ¬ p.1 < (rd_T42 ds (j : Int)).f1 then lowGo k l fl root out (ds.drop (j + 1)) else if out.length < 17592186044416 then lowGo k l fl root (out ++ [(rd_T42 ds (j : Int)).f0]) (ds.drop (j + 1)) else none := by
  rw [List.drop_eq_getElem_cons h]
  have e : rd_T42 ds (j : Int) = ds[j] := by simp [rd_T42, List.getD_eq_getElem?_getD, List.getElem?_eq_getElem h]
  rw [e]
  rfl

def pipe_Low.f (k : Nat) (l0 : List S45) (l1 : List S42) (a2 : Int) (l3 : List S42) : Option (List Int) := (pipe_Flows.f k l0 l1).bind fun fl => lowGo k l0 fl a2 [] l3
theorem pipe_Low.mono : ∀ a0 a1 a2 a3 k, LeO (pipe_Low.f k a0 a1 a2 a3) (pipe_Low.f (k + 1) a0 a1 a2 a3) := by
  intro a0 a1 a2 a3 k
  unfold pipe_Low.f
  refine LeO.bind (pipe_Flows.mono _ _ _) (fun fl => ?_)
  generalize ([] : List Int) = out
  induction a3 generalizing out with
  | nil => exact LeO.refl _
  | cons d t ih =>
    unfold lowGo
    refine LeO.bind (presAt_mono _ _ _ _ _) (fun p => ?_)
    exact LeO.ite (ih _) (LeO.ite (ih _) (LeO.none _))
set_option maxHeartbeats 8000000 in
set_option maxRecDepth 100000 in
theorem pipe_Low.calls (k : Nat) (A0 : Option Addr) (c0 : Nat) (l0 : List S45) (A1 : Option Addr) (c1 : Nat) (l1 : List S42) (a2 : Int) (A3 : Option Addr) (c3 : Nat) (l3 : List S42) (r : List Int) (w : World) (hr0 : Kd.C k45 w A0 l0.length l0) (hc0 : l0.length ≤ c0) (hr1 : Kd.C k42 w A1 l1.length l1) (hc1 : l1.length ≤ c1) (hr3 : Kd.C k42 w A3 l3.length l3) (hc3 : l3.length ≤ c3) (h : pipe_Low.f k l0 l1 a2 l3 = some r) :
    Calls Try.prog 21 #[.slice A0 l0.length c0, .slice A1 l1.length c1, .int .i64 a2, .slice A3 l3.length c3] w fun e w' => ∃ v0_ : Value, e = .returned (v0_) ∧ Kd.R (Kd.int .i64) 3 w' w.heap.size (fun _ => True) v0_ r ∧ Below w.heap.size w w' := by
  have hu42 := Try.underlying42
  obtain ⟨fl, hfl, h2⟩ := Option.bind_eq_some_iff.1 h
  have HQ := Aside0.mk (pressure_calls k A0 c0 l0 A1 c1 l1 a2 fl w hr0 hc0 hr1 hc1 hfl)
  have H : Aside0 (lowGo k l0 fl a2 [] (l3.drop 0) = some r) := ⟨h2⟩
  have HR3 := Aside0.mk hr3
  have hn3 := hr3.2.1
  clear hr0 hr1 h hfl hc0 hc1 h2 hr3 hc3
  go_enter Try.func21, Try.ntmps21
  go_wp2_with (go_at_call 34; refine HQ.out.mono ?_; rintro e w2 ⟨b1, b2, b3, Af, cf, rfl, hP, hB⟩; have HB2 := Aside0.mk hB; have HP := Aside0.mk hP; clear hB hP)
  go_loopg [10, 12, 13, 14, 21] l3.length (fun gg s10 _ _ _ s21 wr => ∃ (j : Nat) (out : List Int), j ≤ l3.length ∧ l3.length - j ≤ gg ∧ s21 = .int .i64 j ∧ Aside0 (lowGo k l0 fl a2 out (l3.drop j) = some r) ∧ Aside0 (Kd.R (Kd.int .i64) 3 wr w2.heap.size (fun _ => True) s10 out) ∧ Aside0 (Below w2.heap.size w2 wr))
  case atStart => exact ⟨0, [], Nat.zero_le _, by omega, rfl, H, ⟨Kd.R_nil _ _ _ _ _⟩, ⟨Below.refl _ _⟩⟩
  case round =>
    clear H HQ
    obtain ⟨j, out, hj, hg, rfl, H, RO, BW⟩ := hrel
    by_cases hlt : j < l3.length
    · have hltz : (j : Int) < (l3.length : Int) := by omega
      have d1 : decide (j < l3.length) = true := decide_eq_true hlt
      have BWW := below_then HB2.out HB2.out.size BW.out
      obtain ⟨ad1, e1, h0, h1⟩ := at_T42 HR3.out (j : Int) (by omega) hltz
      cases e1
      simp only [Int.toNat_natCast] at h0 h1
      replace h0 := (BWW.cell (World.block_lt_of_cell? w _ h0)).trans h0
      replace h1 := (BWW.cell (World.block_lt_of_cell? w _ h1)).trans h1
      have BX := Aside0.mk BWW
      clear BWW
      rw [lowGo_at k l0 fl a2 out l3 j hlt] at H
      generalize rd_T42 l3 (j : Int) = d at *
      obtain ⟨⟨p1, p2⟩, hp, H2⟩ := Option.bind_eq_some_iff.1 H.out
      clear H
      have HL := Aside0.mk (pres_lit k b1 b2 b3 A0 c0 l0 a2 d.f0 Af cf fl p1 p2 (wr.alloc (.cells #[.int .i64 d.f0, .int .i64 d.f1] 42)) ((HP.out.below BW.out).below (below_alloc (Below.refl _ _) _)) hp)
      clear hp
      cases p2 with
      | false =>
        have H3 : (if out.length < 17592186044416 then lowGo k l0 fl a2 (out ++ [d.f0]) (l3.drop (j + 1)) else none) = some r := by simpa using H2
        by_cases hlm : out.length < 17592186044416
        · have H4 := Aside0.mk ((if_pos hlm).symm.trans H3)
          have HLM := Aside0.mk hlm
          clear H2 H3 hlm
          go_wp2_with (first | (go_at_call 38; refine HL.out.mono ?_; rintro e w3 ⟨rfl, hb⟩; have h1' := (hb.cell (p := ⟨wr.heap.size, 1, none⟩) (by simp)).trans (show _ = some (Value.int .i64 d.f1) from by simp); have h0' := (hb.cell (p := ⟨wr.heap.size, 0, none⟩) (by simp)).trans (show _ = some (Value.int .i64 d.f0) from by simp); have HBW3 := Aside0.mk (below_then (below_alloc (Below.refl _ _) _) (by simp) hb); have HBZ := Aside0.mk (below_then BW.out BW.out.size HBW3.out); have HOZ := Aside0.mk (Kd.R_below (Kd.R_alloc RO.out _) hb); clear hb) | ((with_reducible refine gate_builtin (b := .append) (xs := #[.tmp 40, .tmp 43]) rfl ?_); at_builtin; refine Kd.R_append (Kd.int .i64) (w0 := w2) w2.heap.size rfl (.tmp 40) (.tmp 43) 30 3 (.int .i64 0) 8 rfl Try.underlying30 info3 rfl (by decide) (by omega) u10 out d.f0 [.int .i64 d.f0] (fun _ => True) (fun _ => False) rfl rfl ?aP (fun _ hk => hk.elim) ?aF ?aO ?aB ?aS ?aL ?_; (case aP => exact rfl); (case aB => exact HBZ.out); (case aF => exact (fun _ _ => trivial)); (case aO => exact HOZ.out); (case aS => exact HBZ.out.size); (case aL => have := HLM.out; omega); intro v191 w12 ho hb hg hat; have HO9 := Aside0.mk ho; have HB9 := Aside0.mk hb; clear ho hb hg hat))
          go_roundg (l3.length - (j + 1))
          case measure => omega
          case rel => exact ⟨j + 1, _, by omega, by omega, by go_num, H4, HO9, HB9⟩
        · exact absurd H3 (by rw [if_neg hlm]; simp)
      | true =>
        by_cases hlo : p1 < d.f1
        · have H3 : (if out.length < 17592186044416 then lowGo k l0 fl a2 (out ++ [d.f0]) (l3.drop (j + 1)) else none) = some r := by simpa [hlo] using H2
          by_cases hlm : out.length < 17592186044416
          · have H4 := Aside0.mk ((if_pos hlm).symm.trans H3)
            have HLM := Aside0.mk hlm
            have hlo2 : decide (p1 < d.f1) = true := decide_eq_true hlo
            clear H2 H3 hlm hlo
            go_wp2_with (first | (go_at_call 38; refine HL.out.mono ?_; rintro e w3 ⟨rfl, hb⟩; have h1' := (hb.cell (p := ⟨wr.heap.size, 1, none⟩) (by simp)).trans (show _ = some (Value.int .i64 d.f1) from by simp); have h0' := (hb.cell (p := ⟨wr.heap.size, 0, none⟩) (by simp)).trans (show _ = some (Value.int .i64 d.f0) from by simp); have HBW3 := Aside0.mk (below_then (below_alloc (Below.refl _ _) _) (by simp) hb); have HBZ := Aside0.mk (below_then BW.out BW.out.size HBW3.out); have HOZ := Aside0.mk (Kd.R_below (Kd.R_alloc RO.out _) hb); clear hb) | ((with_reducible refine gate_builtin (b := .append) (xs := #[.tmp 40, .tmp 43]) rfl ?_); at_builtin; refine Kd.R_append (Kd.int .i64) (w0 := w2) w2.heap.size rfl (.tmp 40) (.tmp 43) 30 3 (.int .i64 0) 8 rfl Try.underlying30 info3 rfl (by decide) (by omega) u10 out d.f0 [.int .i64 d.f0] (fun _ => True) (fun _ => False) rfl rfl ?aP (fun _ hk => hk.elim) ?aF ?aO ?aB ?aS ?aL ?_; (case aP => exact rfl); (case aB => exact HBZ.out); (case aF => exact (fun _ _ => trivial)); (case aO => exact HOZ.out); (case aS => exact HBZ.out.size); (case aL => have := HLM.out; omega); intro v191 w12 ho hb hg hat; have HO9 := Aside0.mk ho; have HB9 := Aside0.mk hb; clear ho hb hg hat))
            go_roundg (l3.length - (j + 1))
            case measure => omega
            case rel => exact ⟨j + 1, _, by omega, by omega, by go_num, H4, HO9, HB9⟩
          · exact absurd H3 (by rw [if_neg hlm]; simp)
        · have H3 := Aside0.mk (show lowGo k l0 fl a2 out (l3.drop (j + 1)) = some r from by simpa [hlo] using H2)
          have hlo2 : decide (p1 < d.f1) = false := decide_eq_false hlo
          clear H2 hlo
          go_wp2_with (go_at_call 38; refine HL.out.mono ?_; rintro e w3 ⟨rfl, hb⟩; have h1' := (hb.cell (p := ⟨wr.heap.size, 1, none⟩) (by simp)).trans (show _ = some (Value.int .i64 d.f1) from by simp); have h0' := (hb.cell (p := ⟨wr.heap.size, 0, none⟩) (by simp)).trans (show _ = some (Value.int .i64 d.f0) from by simp); have HBW3 := Aside0.mk (below_then (below_alloc (Below.refl _ _) _) (by simp) hb); have HBZ := Aside0.mk (below_then BW.out BW.out.size HBW3.out); have HOZ := Aside0.mk (Kd.R_below (Kd.R_alloc RO.out _) hb); clear hb)
          go_roundg (l3.length - (j + 1))
          case measure => omega
          case rel => exact ⟨j + 1, _, by omega, by omega, by go_num, H3, HOZ, HBZ⟩
    · have d1 : decide (j < l3.length) = false := decide_eq_false hlt
      have hxs : out = r := by
        have := H.out
        rw [List.drop_eq_nil_of_le (by omega)] at this
        exact Option.some.inj this
      subst hxs
      clear H
      go_wp2
      go_ret
      exact ⟨_, rfl, Kd.R_lower RO.out HB2.out.size, below_then HB2.out HB2.out.size BW.out⟩

/-! ### skiarealaw40_three: function 24 -/
def skiarealaw40_three.f  : Option ((List (S45))) := some (([(⟨1, 0, 10, 500, 100⟩ : S45), (⟨2, 10, 20, 1000, 200⟩ : S45), (⟨3, 10, 30, 0, (-50)⟩ : S45)] : List (S45)))
set_option maxHeartbeats 8000000 in
set_option maxRecDepth 100000 in
theorem skiarealaw40_three.calls  (r : List (S45)) (w : World) (h : skiarealaw40_three.f  = some r) :
    Calls Try.prog 24 #[] w fun e w' => ∃ v0_ : Value, e = .returned (v0_) ∧ Kd.R k45 45 w' w.heap.size (fun _ => True) v0_ r ∧ Below w.heap.size w w' := by
  have hu45 := Try.underlying45
  have HB := Aside0.mk (Below.refl w.heap.size w)
  have H : (some (([(⟨1, 0, 10, 500, 100⟩ : S45), (⟨2, 10, 20, 1000, 200⟩ : S45), (⟨3, 10, 30, 0, (-50)⟩ : S45)] : List (S45)))) = some r := h
  clear h
  obtain ⟨y108, hy108⟩ : ∃ y_ : List (S45), y_ = (([(⟨1, 0, 10, 500, 100⟩ : S45), (⟨2, 10, 20, 1000, 200⟩ : S45), (⟨3, 10, 30, 0, (-50)⟩ : S45)] : List (S45))) := ⟨_, rfl⟩
  replace H : (some y108) = some r := by first | (rw [hy108]; with_reducible exact H) | (have H2_ := (Option.bind_some _ _).symm.trans H; rw [hy108]; with_reducible exact H2_) | (have H2_ := (Option.bind_some _ _).symm.trans H; with_reducible exact H2_) | with_reducible exact H | (rw [hy108]; exact H) | exact H
  have Ny108 := Aside0.mk hy108
  clear hy108
  obtain rfl := Option.some.inj H
  go_enter Try.func24, Try.ntmps24
  go_wp2_with (first | ((with_reducible refine gate_dst (N := 4) rfl ?_); refine Kd.R_lit k45 _ 45 ?hg (N := 4) ?hd (xs := ([(⟨1, 0, 10, 500, 100⟩ : S45), (⟨2, 10, 20, 1000, 200⟩ : S45), (⟨3, 10, 30, 0, (-50)⟩ : S45)] : List (S45))) (inner := [.int .i64 1, .int .i64 0, .int .i64 10, .int .i64 500, .int .i64 100, .int .i64 2, .int .i64 10, .int .i64 20, .int .i64 1000, .int .i64 200, .int .i64 3, .int .i64 10, .int .i64 30, .int .i64 0, .int .i64 (-50)]) (ok := fun _ => True) (okp := fun _ => True) ?hr ?hp (fun _ hk => hk) trivial (Below.refl _ _) (Nat.le_refl _) (by simp) ?_; (case hd => rfl); (case hg => rfl); (case hr => first | (go_simp; done) | (go_simp; rfl)); (case hp => exact (Reps.c5 (show Kd.M k45 _ _ _ (⟨1, 0, 10, 500, 100⟩ : S45) [.int .i64 1, .int .i64 0, .int .i64 10, .int .i64 500, .int .i64 100] from (k45_mkM _ _ _ (⟨1, 0, 10, 500, 100⟩ : S45) )) (Reps.c5 (show Kd.M k45 _ _ _ (⟨2, 10, 20, 1000, 200⟩ : S45) [.int .i64 2, .int .i64 10, .int .i64 20, .int .i64 1000, .int .i64 200] from (k45_mkM _ _ _ (⟨2, 10, 20, 1000, 200⟩ : S45) )) (Reps.c5 (show Kd.M k45 _ _ _ (⟨3, 10, 30, 0, (-50)⟩ : S45) [.int .i64 3, .int .i64 10, .int .i64 30, .int .i64 0, .int .i64 (-50)] from (k45_mkM _ _ _ (⟨3, 10, 30, 0, (-50)⟩ : S45) )) (Reps.none _ _))))); intro v109 w1 ho2 hb hg_ hnew_; clear hg_ hnew_; (first | rw [← Ny108.out] at ho2 | (simp only [Int.reduceToNat] at ho2; rw [← Ny108.out] at ho2)); have n0_ := Aside0.mk (Kd.R_lower ho2 (below_size (by repeat (first | (with_reducible first | exact HB.out | apply below_alloc | apply pw_below_drewN | apply below_drew1) | exact HB.out)))); have n1_ := Aside0.mk (below_step (by repeat (first | (with_reducible first | exact HB.out | apply below_alloc | apply pw_below_drewN | apply below_drew1) | exact HB.out)) hb); clear HB; have HO110 := n0_; have HB := n1_; clear n0_ n1_; clear hb ho2))
  go_ret
  exact ⟨_, by first | rfl | (simp [errW_none, errW_some] <;> rfl) | (simp [*, errW_none, errW_some] <;> rfl), by (with_reducible repeat (first | apply Kd.R_alloc | apply Kd.R_drewN | apply Kd.R_drew)); exact HO110.out, by repeat (first | (with_reducible first | exact HB.out | apply below_alloc | apply pw_below_drewN | apply below_drew1) | exact HB.out)⟩

/-! ### skiarealaw40_two: function 25 -/
def skiarealaw40_two.f  : Option ((List (S42))) := some (([(⟨20, 300⟩ : S42), (⟨30, 101⟩ : S42)] : List (S42)))
set_option maxHeartbeats 8000000 in
set_option maxRecDepth 100000 in
theorem skiarealaw40_two.calls  (r : List (S42)) (w : World) (h : skiarealaw40_two.f  = some r) :
    Calls Try.prog 25 #[] w fun e w' => ∃ v0_ : Value, e = .returned (v0_) ∧ Kd.R k42 42 w' w.heap.size (fun _ => True) v0_ r ∧ Below w.heap.size w w' := by
  have hu42 := Try.underlying42
  have HB := Aside0.mk (Below.refl w.heap.size w)
  have H : (some (([(⟨20, 300⟩ : S42), (⟨30, 101⟩ : S42)] : List (S42)))) = some r := h
  clear h
  obtain ⟨y111, hy111⟩ : ∃ y_ : List (S42), y_ = (([(⟨20, 300⟩ : S42), (⟨30, 101⟩ : S42)] : List (S42))) := ⟨_, rfl⟩
  replace H : (some y111) = some r := by first | (rw [hy111]; with_reducible exact H) | (have H2_ := (Option.bind_some _ _).symm.trans H; rw [hy111]; with_reducible exact H2_) | (have H2_ := (Option.bind_some _ _).symm.trans H; with_reducible exact H2_) | with_reducible exact H | (rw [hy111]; exact H) | exact H
  have Ny111 := Aside0.mk hy111
  clear hy111
  obtain rfl := Option.some.inj H
  go_enter Try.func25, Try.ntmps25
  go_wp2_with (first | ((with_reducible refine gate_dst (N := 3) rfl ?_); refine Kd.R_lit k42 _ 42 ?hg (N := 3) ?hd (xs := ([(⟨20, 300⟩ : S42), (⟨30, 101⟩ : S42)] : List (S42))) (inner := [.int .i64 20, .int .i64 300, .int .i64 30, .int .i64 101]) (ok := fun _ => True) (okp := fun _ => True) ?hr ?hp (fun _ hk => hk) trivial (Below.refl _ _) (Nat.le_refl _) (by simp) ?_; (case hd => rfl); (case hg => rfl); (case hr => first | (go_simp; done) | (go_simp; rfl)); (case hp => exact (Reps.c2 (show Kd.M k42 _ _ _ (⟨20, 300⟩ : S42) [.int .i64 20, .int .i64 300] from (k42_mkM _ _ _ (⟨20, 300⟩ : S42) )) (Reps.c2 (show Kd.M k42 _ _ _ (⟨30, 101⟩ : S42) [.int .i64 30, .int .i64 101] from (k42_mkM _ _ _ (⟨30, 101⟩ : S42) )) (Reps.none _ _)))); intro v112 w1 ho2 hb hg_ hnew_; clear hg_ hnew_; (first | rw [← Ny111.out] at ho2 | (simp only [Int.reduceToNat] at ho2; rw [← Ny111.out] at ho2)); have n0_ := Aside0.mk (Kd.R_lower ho2 (below_size (by repeat (first | (with_reducible first | exact HB.out | apply below_alloc | apply pw_below_drewN | apply below_drew1) | exact HB.out)))); have n1_ := Aside0.mk (below_step (by repeat (first | (with_reducible first | exact HB.out | apply below_alloc | apply pw_below_drewN | apply below_drew1) | exact HB.out)) hb); clear HB; have HO113 := n0_; have HB := n1_; clear n0_ n1_; clear hb ho2))
  go_ret
  exact ⟨_, by first | rfl | (simp [errW_none, errW_some] <;> rfl) | (simp [*, errW_none, errW_some] <;> rfl), by (with_reducible repeat (first | apply Kd.R_alloc | apply Kd.R_drewN | apply Kd.R_drew)); exact HO113.out, by repeat (first | (with_reducible first | exact HB.out | apply below_alloc | apply pw_below_drewN | apply below_drew1) | exact HB.out)⟩

end Go.Proofs.Ytfmafpplnpiahaa.P
