/- The law RescueLeft: the walk of its function: its value is true whatever the sections, the teams and the times are, by pure facts on a plan and on those left on the line. -/
import Derived.Test.YtedejkhopjhnbaaPx6
import Derived.Test.YtedejkhopjhnbaaPx17
import Derived.Test.YtedejkhopjhnbaaPx22
import Derived.Test.YtedejkhopjhnbaaPx23
import Derived.Test.YtedejkhopjhnbaaPureB
import Derived.Test.YtedejkhopjhnbaaPureY
namespace Go.Proofs.Ytedejkhopjhnbaa.P
open Go.RowKit Go.Proofs.YtedejkhopjhnbaaW.PrintWords Go.Proofs.YtedejkhopjhnbaaW.PrintLast Go.Proofs.YtedejkhopjhnbaaW.PrintMore
attribute [local go_sem] max2_int min2_int max_two min_two max_three min_three max_four min_four
set_option linter.unusedVariables false
set_option linter.unusedSimpArgs false

def left9_T13 : Bool × List (List Nat × List Nat) := (true, [([], []), ([], []), ([], []), ([2], [2]), ([], []), ([4], [4]), ([3, 5], [3, 5]), ([0, 1, 6], [0, 1, 6]), ([], []), ([], []), ([], []), ([10], [10]), ([], []), ([12], [12]), ([11, 13], [11, 13]), ([8, 9, 14, 7], [8, 9, 14]), ([7, 15], [7, 15]), ([16, 15, 0, 1, 2, 3, 4, 5, 6, 7, 8, 9, 10, 11, 12, 13, 14, 15, 16], [16])])
def left9_B13 : List Nat := [0, 0, 0, 4, 0, 16, 60, 127, 0, 0, 0, 1024, 0, 4096, 15360, 32767, 65535, 131071]
theorem left9_tab13 : rtab .any (opsOf Try.f9 13) = left9_T13 := by kernel_rfl
theorem left9_bits13 : waitsOk left9_T13.2 left9_B13 = true := by kernel_rfl
set_option maxHeartbeats 16000000 in
set_option maxRecDepth 100000 in
theorem left9_calls (A0 : Option Addr) (c0 : Nat) (l0 : List S33) (a1 t0 t1 : Int) (w : World) (hr0 : Kd.C k33 w A0 l0.length l0) (hc0 : l0.length ≤ c0) :
    Calls Try.prog 9 #[.slice A0 l0.length c0, .int .i64 a1, .agg #[.int .i64 t0, .int .i64 t1]] w fun e w' => e = .returned (.bool true) ∧ Below w.heap.size w w' := by
  have hu33 := Try.underlying33
  have hu22 := Try.underlying22
  have hu41 := Try.underlying41
  have HR0 := Aside0.mk hr0
  have HC0 := Aside0.mk hc0
  have hn := hr0.2.1
  have AL : Aside0 (∀ W, Calls Try.prog 17 #[] W fun e w' => e = .returned (.bool true) ∧ Below W.heap.size W w') := ⟨fun W => skiarealaw21_alive.calls true W rfl⟩
  have RT : Aside0 (∀ W, Below w.heap.size w W → Calls Try.prog 19 #[.slice A0 l0.length c0] W fun e w' => e = .returned (.bool (rightP l0 == 0)) ∧ Below W.heap.size W w') := ⟨fun W hW => by
    obtain ⟨k, hk⟩ := (Pure.right_ev l0).rounds
    refine (skiarealaw21_right.calls k A0 c0 l0 _ W (Kd.C_below hr0 hW) hc0 hk).mono ?_
    rintro e w' ⟨he, hb⟩
    exact ⟨he, by first | exact hb | exact hb.below⟩⟩
  clear hr0
  have B0 := Aside0.mk (blk_new w (.cells #[.int .i64 t0, .int .i64 t1] 41))
  have W0 := Aside0.mk (below_alloc (Below.refl w.heap.size w) (.cells #[.int .i64 t0, .int .i64 t1] 41))
  have L0 : Aside0 (w.heap.size < (w.alloc (.cells #[.int .i64 t0, .int .i64 t1] 41)).heap.size) := ⟨by simp⟩
  have ARM : Aside0 (∀ w1, Below (w.alloc (.cells #[.int .i64 t0, .int .i64 t1] 41)).heap.size (w.alloc (.cells #[.int .i64 t0, .int .i64 t1] 41)) w1 → Below w.heap.size w w1 ∧ w1.heap[w.heap.size]? = some (.cells #[.int .i64 t0, .int .i64 t1] 41 (0, 0))) := ⟨fun w1 h => ⟨below_then W0.out W0.out.size h, (h.block _ L0.out).trans B0.out⟩⟩
  clear B0 W0 L0
  by_cases hr : rightP l0 = 0
  case neg =>
    have hrb : (rightP l0 == 0) = false := by simpa using hr
    rw [hrb] at RT
    clear hr hrb
    go_enter Try.func9, Try.ntmps9
    go_wp2_with (first | (go_at_call 17; refine (AL.out _).mono ?_; rintro e w1 ⟨rfl, hb1⟩; have W1 := Aside0.mk (ARM.out w1 hb1).1; clear hb1) | (go_at_call 19; refine (RT.out _ W1.out).mono ?_; rintro e w2 ⟨rfl, hb2⟩; have W2 := Aside0.mk (below_then W1.out W1.out.size hb2); clear hb2))
    go_ret
    exact ⟨rfl, W2.out⟩
  have hrb : (rightP l0 == 0) = true := by simp [hr]
  rw [hrb] at RT
  clear hrb
  have HGD := Aside0.mk (Pure.good_of hr)
  clear hr
  by_cases c1 : a1 < 1
  · go_enter Try.func9, Try.ntmps9
    go_wp2_with (first | (go_at_call 17; refine (AL.out _).mono ?_; rintro e w1 ⟨rfl, hb1⟩; have W1 := Aside0.mk (ARM.out w1 hb1).1; have BX1 := Aside0.mk (ARM.out w1 hb1).2; clear hb1) | (go_at_call 19; refine (RT.out _ W1.out).mono ?_; rintro e w2 ⟨rfl, hb2⟩; have W2 := Aside0.mk (below_then W1.out W1.out.size hb2); have BX2 := Aside0.mk ((hb2.block _ (blk_lt BX1.out)).trans BX1.out); clear hb2))
    go_ret
    exact ⟨rfl, W2.out⟩
  have dc1 : decide (a1 < 1) = false := decide_eq_false c1
  by_cases c2 : 3 < a1
  · go_enter Try.func9, Try.ntmps9
    go_wp2_with (first | (go_at_call 17; refine (AL.out _).mono ?_; rintro e w1 ⟨rfl, hb1⟩; have W1 := Aside0.mk (ARM.out w1 hb1).1; have BX1 := Aside0.mk (ARM.out w1 hb1).2; clear hb1) | (go_at_call 19; refine (RT.out _ W1.out).mono ?_; rintro e w2 ⟨rfl, hb2⟩; have W2 := Aside0.mk (below_then W1.out W1.out.size hb2); have BX2 := Aside0.mk ((hb2.block _ (blk_lt BX1.out)).trans BX1.out); clear hb2))
    go_ret
    exact ⟨rfl, W2.out⟩
  have dc2 : decide (3 < a1) = false := decide_eq_false c2
  obtain ⟨m, rfl⟩ : ∃ m : Nat, a1 = m := ⟨a1.toNat, by omega⟩
  obtain ⟨a, pl, F⟩ := Pure.left_facts l0 HGD.out m (by omega) (by omega)
  have hE0 := F.lo
  have hE1 := F.hi
  have FF := Aside0.mk F
  clear F
  have PB : Aside0 (∀ kk, kk < l0.length → wrap64 (Pure.people (l0.take kk) + (rd_T33 l0 (kk : Int)).f1) = Pure.people (l0.take (kk + 1))) := ⟨fun kk hkk => by
    have h1 : l0.take (kk + 1) = l0.take kk ++ [rd_T33 l0 (kk : Int)] := by rw [List.take_succ_eq_append_getElem hkk, Pure.rd_at, Pure.getD_eq l0 z33 kk hkk]
    rw [h1, Pure.people_snoc]
    have h2 := Pure.people_bound (l0.take (kk + 1)) (fun x hx => HGD.out.people x (List.mem_of_mem_take hx))
    rw [h1, Pure.people_snoc] at h2
    have h3 : (l0.take kk ++ [rd_T33 l0 (kk : Int)]).length ≤ 9 := by have := HGD.out.len; simp; omega
    exact Pure.wrap_id (by omega) (by omega)⟩
  generalize Pure.jobsL Pure.zeroE (Pure.td l0) a = js at *
  generalize Pure.endOf (Pure.td l0) a = E at *
  have PLN : Aside0 (∀ W, Below w.heap.size w W → Calls Try.prog 13 #[.slice A0 l0.length c0, .int .i64 (m : Int)] W fun e w' => ∃ v0_ : Value, e = .returned (.tuple #[v0_, .int .i64 E, .int .i64 0]) ∧ Kd.R k35 35 w' W.heap.size (fun _ => True) v0_ js ∧ Below W.heap.size W w') := ⟨fun W hW => rescue_Plan.calls A0 c0 l0 (m : Int) js E 0 W (Kd.C_below HR0.out hW) HC0.out pl⟩
  clear pl
  go_enter Try.func9, Try.ntmps9
  go_wp2_with (first | (go_at_call 17; refine (AL.out _).mono ?_; rintro e w1 ⟨rfl, hb1⟩; have W1 := Aside0.mk (ARM.out w1 hb1).1; have BX1 := Aside0.mk (ARM.out w1 hb1).2; clear hb1) | (go_at_call 19; refine (RT.out _ W1.out).mono ?_; rintro e w2 ⟨rfl, hb2⟩; have W2 := Aside0.mk (below_then W1.out W1.out.size hb2); have BX2 := Aside0.mk ((hb2.block _ (blk_lt BX1.out)).trans BX1.out); clear hb2) | (go_at_call 13; refine (PLN.out _ W2.out).mono ?_; rintro e w3 ⟨v3, rfl, hR3, hb3⟩; obtain ⟨A3, c3, rfl, hc3, hC3⟩ := Kd.R_reads hR3; have W3 := Aside0.mk (below_then W2.out W2.out.size hb3); have BX3 := Aside0.mk ((hb3.block _ (blk_lt BX2.out)).trans BX2.out); have HC3 := Aside0.mk hc3; have HJ3 := Aside0.mk hC3; clear hR3 hb3 hc3 hC3))
  clear AL RT PLN W1 W2 BX1 BX2 ARM dc1 dc2
  have LF : Aside0 (∀ t r, leftP l0 js t = r → ∀ W, Below w3.heap.size w3 W → Calls Try.prog 15 #[.slice A0 l0.length c0, .slice A3 js.length c3, .int .i64 t] W fun e w' => e = .returned (.int .i64 r) ∧ Below w3.heap.size w3 w') := ⟨fun t r h W hW =>
    (rescue_Left.calls A0 c0 l0 A3 c3 js t r W (Kd.C_below HR0.out (below_then W3.out W3.out.size hW)) HC0.out (Kd.C_below HJ3.out hW) HC3.out (by unfold rescue_Left.f; rw [h])).mono fun e w' ⟨he, hb⟩ => ⟨he, below_then hW hW.size hb⟩⟩
  have LN : Aside0 (∀ t r, leftP l0 [] t = r → ∀ W, Below w3.heap.size w3 W → Calls Try.prog 15 #[.slice A0 l0.length c0, .slice none 0 0, .int .i64 t] W fun e w' => e = .returned (.int .i64 r) ∧ Below w3.heap.size w3 w') := ⟨fun t r h W hW =>
    (rescue_Left.calls A0 c0 l0 none 0 [] t r W (Kd.C_below HR0.out (below_then W3.out W3.out.size hW)) HC0.out (Kd.R_reads' (Kd.R_nil k35 35 W 0 (fun _ => True))).2.2 (Nat.le_refl _) (by unfold rescue_Left.f; rw [h])).mono fun e w' ⟨he, hb⟩ => ⟨he, below_then hW hW.size hb⟩⟩
  have BXC : Aside0 (∀ W, Below w3.heap.size w3 W → W.cell? ⟨w.heap.size, 0, none⟩ = some (.int .i64 t0) ∧ W.cell? ⟨w.heap.size, 1, none⟩ = some (.int .i64 t1)) := ⟨fun W h => ⟨(h.cell (p := ⟨w.heap.size, 0, none⟩) (blk_lt BX3.out)).trans ((blk_cell BX3.out 0).trans rfl), (h.cell (p := ⟨w.heap.size, 1, none⟩) (blk_lt BX3.out)).trans ((blk_cell BX3.out 1).trans rfl)⟩⟩
  clear BX3 HJ3 HC3
  go_loopg [10, 11] l0.length (fun gg s10 s11 wr => ∃ kk : Nat, kk ≤ l0.length ∧ l0.length - kk ≤ gg ∧ s11 = .int .i64 kk ∧ s10 = .int .i64 (Pure.people (l0.take kk)) ∧ Aside0 (Below w3.heap.size w3 wr))
  case atStart => exact ⟨0, Nat.zero_le _, by omega, rfl, rfl, ⟨Below.refl _ _⟩⟩
  case round =>
    obtain ⟨kk, hkk, hg, rfl, rfl, BW⟩ := hrel
    by_cases hlt : kk < l0.length
    · have hltz : (kk : Int) < (l0.length : Int) := by omega
      have d1 : decide (kk < l0.length) = true := decide_eq_true hlt
      obtain ⟨ad1, e1, h0, h1, h2⟩ := at_T33 (Kd.C_below HR0.out (below_then W3.out W3.out.size BW.out)) (kk : Int) (by omega) hltz
      cases e1
      simp only [Int.toNat_natCast] at h0 h1 h2
      have PS := Aside0.mk (PB.out kk hlt)
      clear h0 h2
      go_wp2_with (fail)
      go_roundg (l0.length - (kk + 1))
      case measure => omega
      case rel => exact ⟨kk + 1, by omega, by omega, by go_num, by rw [← PS.out], BW⟩
    · have hltz : ¬ (kk : Int) < (l0.length : Int) := by omega
      have d1 : decide (kk < l0.length) = false := decide_eq_false hlt
      have htk : l0.take kk = l0 := List.take_of_length_le (by omega)
      rw [htk]
      have HBF := FF.out.before
      have PN : Aside0 (0 ≤ Pure.people l0) := ⟨(Pure.people_bound l0 HGD.out.people).1⟩
      have FN := Aside0.mk FF.out.nobody
      have FA := Aside0.mk FF.out.atStart
      generalize Pure.people l0 = pp at *
      clear htk
      by_cases hp : 0 < pp
      · have dp : decide (0 < pp) = true := decide_eq_true hp
        have hq := HBF hp
        clear HBF
        obtain ⟨lq, hlq⟩ : ∃ lq, leftP l0 js (E - 1) = lq := ⟨_, rfl⟩
        rw [hlq] at hq
        have HLQ := Aside0.mk hlq
        clear hlq
        have hp2 : (lq == 0) = false := beq_eq_false_iff_ne.2 hq
        go_wp2_with (fail)
        refine (LF.out _ 0 FF.out.done _ BW.out).mono ?_
        rintro e x1 ⟨rfl, hb⟩
        have X1 := Aside0.mk hb
        clear hb
        go_wp2_with (fail)
        refine (LF.out _ _ HLQ.out _ X1.out).mono ?_
        rintro e x2 ⟨rfl, hb⟩
        have X2 := Aside0.mk hb
        clear hb
        go_wp2_with (fail)
        refine (LN.out _ _ FN.out _ X2.out).mono ?_
        rintro e x3 ⟨rfl, hb⟩
        have X3 := Aside0.mk hb
        clear hb
        go_wp2_with (fail)
        refine (LF.out _ _ FA.out _ X3.out).mono ?_
        rintro e x4 ⟨rfl, hb⟩
        have X4 := Aside0.mk hb
        clear hb
        go_wp2_with (fail)
        have XD := Aside0.mk (below_drew1 X4.out)
        clear X4
        obtain ⟨z0, z1⟩ := BXC.out _ XD.out
        refine start_ (n := 18) (S := fun w' => w'.cell? ⟨w.heap.size, 0, none⟩ = some (.int .i64 t0) ∧ w'.cell? ⟨w.heap.size, 1, none⟩ = some (.int .i64 t1)) (ds := []) #[false, false, false, false, false, false, false, false, false, false, false, false, false, false, false, false, false, false] (by kernel_rfl) rfl rfl ⟨z0, z1⟩ (fun hHeld => ?_)
        refine with_tabW left9_tab13 left9_bits13 (fun HT_ HW_ => ?_)
        generalize x4.drew = wd at XD z0 z1 hHeld ⊢
        clear z0 z1
        refine pure_ (i := 0) (N := some 80) (v := ?_) (a' := ?_) #[true, false, false, false, false, false, false, false, false, false, false, false, false, false, false, false, false, false] rfl rfl (any_of HT_.out (by kernel_rfl)) (fun _ _ _ h => h) (Or.inl ⟨by rfl, ?_⟩) ?_ ?_
        rotate_left
        · intro w'
          go_simp
          with_reducible rfl
        rotate_left
        · simp only [Act.put, List.setIfInBounds_toArray, List.set_cons_zero, List.set_cons_succ, i64_w, i32_w]
          rfl
        refine pure_ (i := 1) (N := some 81) (v := ?_) (a' := ?_) #[true, true, false, false, false, false, false, false, false, false, false, false, false, false, false, false, false, false] rfl rfl (any_of HT_.out (by kernel_rfl)) (fun _ _ _ h => h) (Or.inl ⟨by rfl, ?_⟩) ?_ ?_
        rotate_left
        · intro w'
          go_simp
          with_reducible rfl
        rotate_left
        · simp only [Act.put, List.setIfInBounds_toArray, List.set_cons_zero, List.set_cons_succ, i64_w, i32_w]
          rfl
        refine pure_ (i := 2) (N := some 82) (v := ?_) (a' := ?_) #[true, true, true, false, false, false, false, false, false, false, false, false, false, false, false, false, false, false] rfl rfl (any_of HT_.out (by kernel_rfl)) (fun _ _ _ h => h) (Or.inl ⟨by rfl, ?_⟩) ?_ ?_
        rotate_left
        · intro w'
          go_simp
          with_reducible rfl
        rotate_left
        · simp only [Act.put, List.setIfInBounds_toArray, List.set_cons_zero, List.set_cons_succ, i64_w, i32_w]
          rfl
        refine pure_ (i := 4) (N := some 84) (v := ?_) (a' := ?_) #[true, true, true, false, true, false, false, false, false, false, false, false, false, false, false, false, false, false] rfl rfl (any_of HT_.out (by kernel_rfl)) (fun _ _ _ h => h) (Or.inl ⟨by rfl, ?_⟩) ?_ ?_
        rotate_left
        · intro w'
          go_simp
          with_reducible rfl
        rotate_left
        · simp only [Act.put, List.setIfInBounds_toArray, List.set_cons_zero, List.set_cons_succ, i64_w, i32_w]
          rfl
        refine pure_ (i := 8) (N := some 88) (v := ?_) (a' := ?_) #[true, true, true, false, true, false, false, false, true, false, false, false, false, false, false, false, false, false] rfl rfl (any_of HT_.out (by kernel_rfl)) (fun _ _ _ h => h) (Or.inl ⟨by rfl, ?_⟩) ?_ ?_
        rotate_left
        · intro w'
          go_simp
          with_reducible rfl
        rotate_left
        · simp only [Act.put, List.setIfInBounds_toArray, List.set_cons_zero, List.set_cons_succ, i64_w, i32_w]
          rfl
        refine pure_ (i := 9) (N := some 89) (v := ?_) (a' := ?_) #[true, true, true, false, true, false, false, false, true, true, false, false, false, false, false, false, false, false] rfl rfl (any_of HT_.out (by kernel_rfl)) (fun _ _ _ h => h) (Or.inl ⟨by rfl, ?_⟩) ?_ ?_
        rotate_left
        · intro w'
          go_simp
          with_reducible rfl
        rotate_left
        · simp only [Act.put, List.setIfInBounds_toArray, List.set_cons_zero, List.set_cons_succ, i64_w, i32_w]
          rfl
        refine pure_ (i := 10) (N := some 90) (v := ?_) (a' := ?_) #[true, true, true, false, true, false, false, false, true, true, true, false, false, false, false, false, false, false] rfl rfl (any_of HT_.out (by kernel_rfl)) (fun _ _ _ h => h) (Or.inl ⟨by rfl, ?_⟩) ?_ ?_
        rotate_left
        · intro w'
          go_simp
          with_reducible rfl
        rotate_left
        · simp only [Act.put, List.setIfInBounds_toArray, List.set_cons_zero, List.set_cons_succ, i64_w, i32_w]
          rfl
        refine pure_ (i := 12) (N := some 92) (v := ?_) (a' := ?_) #[true, true, true, false, true, false, false, false, true, true, true, false, true, false, false, false, false, false] rfl rfl (any_of HT_.out (by kernel_rfl)) (fun _ _ _ h => h) (Or.inl ⟨by rfl, ?_⟩) ?_ ?_
        rotate_left
        · intro w'
          go_simp
          with_reducible rfl
        rotate_left
        · simp only [Act.put, List.setIfInBounds_toArray, List.set_cons_zero, List.set_cons_succ, i64_w, i32_w]
          rfl
        refine take_ (i := 3) (N := some 83) (v := ?_) (a' := ?_) #[true, true, true, true, true, false, false, false, true, true, true, false, true, false, false, false, false, false] rfl rfl (take_ofW HT_.out HW_.out (by kernel_rfl)) (fun _ _ _ h => h) (Or.inl ⟨by rfl, ?_⟩) hHeld ?_ ?_
        rotate_left
        · rintro w' ⟨s0, s1⟩
          go_simp
          with_reducible rfl
        rotate_left
        · simp only [Act.put, List.setIfInBounds_toArray, List.set_cons_zero, List.set_cons_succ, i64_w, i32_w]
          rfl
        refine take_ (i := 5) (N := some 85) (v := ?_) (a' := ?_) #[true, true, true, true, true, true, false, false, true, true, true, false, true, false, false, false, false, false] rfl rfl (take_ofW HT_.out HW_.out (by kernel_rfl)) (fun _ _ _ h => h) (Or.inl ⟨by rfl, ?_⟩) hHeld ?_ ?_
        rotate_left
        · rintro w' ⟨s0, s1⟩
          go_simp
          with_reducible rfl
        rotate_left
        · simp only [Act.put, List.setIfInBounds_toArray, List.set_cons_zero, List.set_cons_succ, i64_w, i32_w]
          rfl
        refine take_ (i := 11) (N := some 91) (v := ?_) (a' := ?_) #[true, true, true, true, true, true, false, false, true, true, true, true, true, false, false, false, false, false] rfl rfl (take_ofW HT_.out HW_.out (by kernel_rfl)) (fun _ _ _ h => h) (Or.inl ⟨by rfl, ?_⟩) hHeld ?_ ?_
        rotate_left
        · rintro w' ⟨s0, s1⟩
          go_simp
          with_reducible rfl
        rotate_left
        · simp only [Act.put, List.setIfInBounds_toArray, List.set_cons_zero, List.set_cons_succ, i64_w, i32_w]
          rfl
        refine take_ (i := 13) (N := some 93) (v := ?_) (a' := ?_) #[true, true, true, true, true, true, false, false, true, true, true, true, true, true, false, false, false, false] rfl rfl (take_ofW HT_.out HW_.out (by kernel_rfl)) (fun _ _ _ h => h) (Or.inl ⟨by rfl, ?_⟩) hHeld ?_ ?_
        rotate_left
        · rintro w' ⟨s0, s1⟩
          go_simp
          with_reducible rfl
        rotate_left
        · simp only [Act.put, List.setIfInBounds_toArray, List.set_cons_zero, List.set_cons_succ, i64_w, i32_w]
          rfl
        refine pure_ (i := 6) (N := some 86) (v := ?_) (a' := ?_) #[true, true, true, true, true, true, true, false, true, true, true, true, true, true, false, false, false, false] rfl rfl (any_of HT_.out (by kernel_rfl)) (fun _ _ _ h => h) (Or.inl ⟨by rfl, ?_⟩) ?_ ?_
        rotate_left
        · intro w'
          go_simp
          with_reducible rfl
        rotate_left
        · simp only [Act.put, List.setIfInBounds_toArray, List.set_cons_zero, List.set_cons_succ, i64_w, i32_w]
          rfl
        refine pure_ (i := 14) (N := some 94) (v := ?_) (a' := ?_) #[true, true, true, true, true, true, true, false, true, true, true, true, true, true, true, false, false, false] rfl rfl (any_of HT_.out (by kernel_rfl)) (fun _ _ _ h => h) (Or.inl ⟨by rfl, ?_⟩) ?_ ?_
        rotate_left
        · intro w'
          go_simp
          with_reducible rfl
        rotate_left
        · simp only [Act.put, List.setIfInBounds_toArray, List.set_cons_zero, List.set_cons_succ, i64_w, i32_w]
          rfl
        refine one_ (i := 7) (N := some 87) #[true, true, true, true, true, true, true, true, true, true, true, true, true, true, true, false, false, false] rfl rfl (one_of HT_.out (by kernel_rfl)) (by decide) (fun K hK => ?_)
        refine goes_ Try.func15 (by kernel_rfl) rfl #[.slice A0 l0.length c0, .slice A3 js.length c3, .int .i64 (if t1 < t0 then t1 else t0)] (by rfl) rfl rfl (by (try simp only [List.map_toArray, List.map_cons, List.map_nil]); first | done | rfl) ?_
        refine (LF.out (if t1 < t0 then t1 else t0) _ rfl _ XD.out).mono ?_
        rintro e w5 ⟨rfl, hb⟩
        refine ⟨_, rfl, ?_⟩
        replace XD := Aside0.mk hb
        clear hb
        refine hK.out _ _ (BXC.out _ XD.out) (fun hHeld => ?_)
        clear hK K
        refine norm_ (a' := ?_) ?_ ?_
        rotate_left
        · show Act.put _ (some 87) _ = _
          simp only [Act.put, List.setIfInBounds_toArray, List.set_cons_zero, List.set_cons_succ, i64_w, i32_w]
          rfl
        refine one_ (i := 15) (N := some 95) #[true, true, true, true, true, true, true, true, true, true, true, true, true, true, true, true, false, false] rfl rfl (one_of HT_.out (by kernel_rfl)) (by decide) (fun K hK => ?_)
        refine goes_ Try.func15 (by kernel_rfl) rfl #[.slice A0 l0.length c0, .slice A3 js.length c3, .int .i64 (if t0 < t1 then t1 else t0)] (by rfl) rfl rfl (by (try simp only [List.map_toArray, List.map_cons, List.map_nil]); first | done | rfl) ?_
        refine (LF.out (if t0 < t1 then t1 else t0) _ rfl _ XD.out).mono ?_
        rintro e w5 ⟨rfl, hb⟩
        refine ⟨_, rfl, ?_⟩
        replace XD := Aside0.mk hb
        clear hb
        refine hK.out _ _ (BXC.out _ XD.out) (fun hHeld => ?_)
        clear hK K
        refine norm_ (a' := ?_) ?_ ?_
        rotate_left
        · show Act.put _ (some 95) _ = _
          simp only [Act.put, List.setIfInBounds_toArray, List.set_cons_zero, List.set_cons_succ, i64_w, i32_w]
          rfl
        have X6 := XD
        have hge : leftP l0 js (if t0 < t1 then t1 else t0) ≤ leftP l0 js (if t1 < t0 then t1 else t0) := FF.out.mono _ _ (by split <;> split <;> omega)
        generalize leftP l0 js (if t1 < t0 then t1 else t0) = r1 at *
        generalize leftP l0 js (if t0 < t1 then t1 else t0) = r2 at *
        have hgd : decide (r2 ≤ r1) = true := decide_eq_true hge
        refine pure_ (i := 16) (N := some 96) (v := ?_) (a' := ?_) #[true, true, true, true, true, true, true, true, true, true, true, true, true, true, true, true, true, false] rfl rfl (any_of HT_.out (by kernel_rfl)) (fun _ _ _ h => h) (Or.inl ⟨by rfl, ?_⟩) ?_ ?_
        rotate_left
        · intro w'
          go_simp
          with_reducible rfl
        rotate_left
        · simp only [Act.put, List.setIfInBounds_toArray, List.set_cons_zero, List.set_cons_succ, i64_w, i32_w]
          rfl
        refine pure_ (i := 17) (N := some 6) (v := ?_) (a' := ?_) #[true, true, true, true, true, true, true, true, true, true, true, true, true, true, true, true, true, true] rfl rfl (any_of HT_.out (by kernel_rfl)) (fun _ _ _ h => h) (Or.inl ⟨by rfl, ?_⟩) ?_ ?_
        rotate_left
        · intro w'
          go_simp
          with_reducible rfl
        rotate_left
        · simp only [Act.put, List.setIfInBounds_toArray, List.set_cons_zero, List.set_cons_succ, i64_w, i32_w]
          rfl
        refine done_ (done_of HT_.out (by kernel_rfl)) ?_
        go_wp2_with (fail)
        all_goals (go_ret; exact ⟨by first | rfl | (rw [hgd]), below_then W3.out W3.out.size X6.out⟩)
      · have dp : decide (0 < pp) = false := decide_eq_false hp
        clear HBF
        go_wp2_with (fail)
        refine (LF.out _ 0 FF.out.done _ BW.out).mono ?_
        rintro e x1 ⟨rfl, hb⟩
        have X1 := Aside0.mk hb
        clear hb
        go_wp2_with (fail)
        refine (LN.out _ _ FN.out _ X1.out).mono ?_
        rintro e x3 ⟨rfl, hb⟩
        have X3 := Aside0.mk hb
        clear hb
        go_wp2_with (fail)
        refine (LF.out _ _ FA.out _ X3.out).mono ?_
        rintro e x4 ⟨rfl, hb⟩
        have X4 := Aside0.mk hb
        clear hb
        go_wp2_with (fail)
        have XD := Aside0.mk (below_drew1 X4.out)
        clear X4
        obtain ⟨z0, z1⟩ := BXC.out _ XD.out
        refine start_ (n := 18) (S := fun w' => w'.cell? ⟨w.heap.size, 0, none⟩ = some (.int .i64 t0) ∧ w'.cell? ⟨w.heap.size, 1, none⟩ = some (.int .i64 t1)) (ds := []) #[false, false, false, false, false, false, false, false, false, false, false, false, false, false, false, false, false, false] (by kernel_rfl) rfl rfl ⟨z0, z1⟩ (fun hHeld => ?_)
        refine with_tabW left9_tab13 left9_bits13 (fun HT_ HW_ => ?_)
        generalize x4.drew = wd at XD z0 z1 hHeld ⊢
        clear z0 z1
        refine pure_ (i := 0) (N := some 80) (v := ?_) (a' := ?_) #[true, false, false, false, false, false, false, false, false, false, false, false, false, false, false, false, false, false] rfl rfl (any_of HT_.out (by kernel_rfl)) (fun _ _ _ h => h) (Or.inl ⟨by rfl, ?_⟩) ?_ ?_
        rotate_left
        · intro w'
          go_simp
          with_reducible rfl
        rotate_left
        · simp only [Act.put, List.setIfInBounds_toArray, List.set_cons_zero, List.set_cons_succ, i64_w, i32_w]
          rfl
        refine pure_ (i := 1) (N := some 81) (v := ?_) (a' := ?_) #[true, true, false, false, false, false, false, false, false, false, false, false, false, false, false, false, false, false] rfl rfl (any_of HT_.out (by kernel_rfl)) (fun _ _ _ h => h) (Or.inl ⟨by rfl, ?_⟩) ?_ ?_
        rotate_left
        · intro w'
          go_simp
          with_reducible rfl
        rotate_left
        · simp only [Act.put, List.setIfInBounds_toArray, List.set_cons_zero, List.set_cons_succ, i64_w, i32_w]
          rfl
        refine pure_ (i := 2) (N := some 82) (v := ?_) (a' := ?_) #[true, true, true, false, false, false, false, false, false, false, false, false, false, false, false, false, false, false] rfl rfl (any_of HT_.out (by kernel_rfl)) (fun _ _ _ h => h) (Or.inl ⟨by rfl, ?_⟩) ?_ ?_
        rotate_left
        · intro w'
          go_simp
          with_reducible rfl
        rotate_left
        · simp only [Act.put, List.setIfInBounds_toArray, List.set_cons_zero, List.set_cons_succ, i64_w, i32_w]
          rfl
        refine pure_ (i := 4) (N := some 84) (v := ?_) (a' := ?_) #[true, true, true, false, true, false, false, false, false, false, false, false, false, false, false, false, false, false] rfl rfl (any_of HT_.out (by kernel_rfl)) (fun _ _ _ h => h) (Or.inl ⟨by rfl, ?_⟩) ?_ ?_
        rotate_left
        · intro w'
          go_simp
          with_reducible rfl
        rotate_left
        · simp only [Act.put, List.setIfInBounds_toArray, List.set_cons_zero, List.set_cons_succ, i64_w, i32_w]
          rfl
        refine pure_ (i := 8) (N := some 88) (v := ?_) (a' := ?_) #[true, true, true, false, true, false, false, false, true, false, false, false, false, false, false, false, false, false] rfl rfl (any_of HT_.out (by kernel_rfl)) (fun _ _ _ h => h) (Or.inl ⟨by rfl, ?_⟩) ?_ ?_
        rotate_left
        · intro w'
          go_simp
          with_reducible rfl
        rotate_left
        · simp only [Act.put, List.setIfInBounds_toArray, List.set_cons_zero, List.set_cons_succ, i64_w, i32_w]
          rfl
        refine pure_ (i := 9) (N := some 89) (v := ?_) (a' := ?_) #[true, true, true, false, true, false, false, false, true, true, false, false, false, false, false, false, false, false] rfl rfl (any_of HT_.out (by kernel_rfl)) (fun _ _ _ h => h) (Or.inl ⟨by rfl, ?_⟩) ?_ ?_
        rotate_left
        · intro w'
          go_simp
          with_reducible rfl
        rotate_left
        · simp only [Act.put, List.setIfInBounds_toArray, List.set_cons_zero, List.set_cons_succ, i64_w, i32_w]
          rfl
        refine pure_ (i := 10) (N := some 90) (v := ?_) (a' := ?_) #[true, true, true, false, true, false, false, false, true, true, true, false, false, false, false, false, false, false] rfl rfl (any_of HT_.out (by kernel_rfl)) (fun _ _ _ h => h) (Or.inl ⟨by rfl, ?_⟩) ?_ ?_
        rotate_left
        · intro w'
          go_simp
          with_reducible rfl
        rotate_left
        · simp only [Act.put, List.setIfInBounds_toArray, List.set_cons_zero, List.set_cons_succ, i64_w, i32_w]
          rfl
        refine pure_ (i := 12) (N := some 92) (v := ?_) (a' := ?_) #[true, true, true, false, true, false, false, false, true, true, true, false, true, false, false, false, false, false] rfl rfl (any_of HT_.out (by kernel_rfl)) (fun _ _ _ h => h) (Or.inl ⟨by rfl, ?_⟩) ?_ ?_
        rotate_left
        · intro w'
          go_simp
          with_reducible rfl
        rotate_left
        · simp only [Act.put, List.setIfInBounds_toArray, List.set_cons_zero, List.set_cons_succ, i64_w, i32_w]
          rfl
        refine take_ (i := 3) (N := some 83) (v := ?_) (a' := ?_) #[true, true, true, true, true, false, false, false, true, true, true, false, true, false, false, false, false, false] rfl rfl (take_ofW HT_.out HW_.out (by kernel_rfl)) (fun _ _ _ h => h) (Or.inl ⟨by rfl, ?_⟩) hHeld ?_ ?_
        rotate_left
        · rintro w' ⟨s0, s1⟩
          go_simp
          with_reducible rfl
        rotate_left
        · simp only [Act.put, List.setIfInBounds_toArray, List.set_cons_zero, List.set_cons_succ, i64_w, i32_w]
          rfl
        refine take_ (i := 5) (N := some 85) (v := ?_) (a' := ?_) #[true, true, true, true, true, true, false, false, true, true, true, false, true, false, false, false, false, false] rfl rfl (take_ofW HT_.out HW_.out (by kernel_rfl)) (fun _ _ _ h => h) (Or.inl ⟨by rfl, ?_⟩) hHeld ?_ ?_
        rotate_left
        · rintro w' ⟨s0, s1⟩
          go_simp
          with_reducible rfl
        rotate_left
        · simp only [Act.put, List.setIfInBounds_toArray, List.set_cons_zero, List.set_cons_succ, i64_w, i32_w]
          rfl
        refine take_ (i := 11) (N := some 91) (v := ?_) (a' := ?_) #[true, true, true, true, true, true, false, false, true, true, true, true, true, false, false, false, false, false] rfl rfl (take_ofW HT_.out HW_.out (by kernel_rfl)) (fun _ _ _ h => h) (Or.inl ⟨by rfl, ?_⟩) hHeld ?_ ?_
        rotate_left
        · rintro w' ⟨s0, s1⟩
          go_simp
          with_reducible rfl
        rotate_left
        · simp only [Act.put, List.setIfInBounds_toArray, List.set_cons_zero, List.set_cons_succ, i64_w, i32_w]
          rfl
        refine take_ (i := 13) (N := some 93) (v := ?_) (a' := ?_) #[true, true, true, true, true, true, false, false, true, true, true, true, true, true, false, false, false, false] rfl rfl (take_ofW HT_.out HW_.out (by kernel_rfl)) (fun _ _ _ h => h) (Or.inl ⟨by rfl, ?_⟩) hHeld ?_ ?_
        rotate_left
        · rintro w' ⟨s0, s1⟩
          go_simp
          with_reducible rfl
        rotate_left
        · simp only [Act.put, List.setIfInBounds_toArray, List.set_cons_zero, List.set_cons_succ, i64_w, i32_w]
          rfl
        refine pure_ (i := 6) (N := some 86) (v := ?_) (a' := ?_) #[true, true, true, true, true, true, true, false, true, true, true, true, true, true, false, false, false, false] rfl rfl (any_of HT_.out (by kernel_rfl)) (fun _ _ _ h => h) (Or.inl ⟨by rfl, ?_⟩) ?_ ?_
        rotate_left
        · intro w'
          go_simp
          with_reducible rfl
        rotate_left
        · simp only [Act.put, List.setIfInBounds_toArray, List.set_cons_zero, List.set_cons_succ, i64_w, i32_w]
          rfl
        refine pure_ (i := 14) (N := some 94) (v := ?_) (a' := ?_) #[true, true, true, true, true, true, true, false, true, true, true, true, true, true, true, false, false, false] rfl rfl (any_of HT_.out (by kernel_rfl)) (fun _ _ _ h => h) (Or.inl ⟨by rfl, ?_⟩) ?_ ?_
        rotate_left
        · intro w'
          go_simp
          with_reducible rfl
        rotate_left
        · simp only [Act.put, List.setIfInBounds_toArray, List.set_cons_zero, List.set_cons_succ, i64_w, i32_w]
          rfl
        refine one_ (i := 7) (N := some 87) #[true, true, true, true, true, true, true, true, true, true, true, true, true, true, true, false, false, false] rfl rfl (one_of HT_.out (by kernel_rfl)) (by decide) (fun K hK => ?_)
        refine goes_ Try.func15 (by kernel_rfl) rfl #[.slice A0 l0.length c0, .slice A3 js.length c3, .int .i64 (if t1 < t0 then t1 else t0)] (by rfl) rfl rfl (by (try simp only [List.map_toArray, List.map_cons, List.map_nil]); first | done | rfl) ?_
        refine (LF.out (if t1 < t0 then t1 else t0) _ rfl _ XD.out).mono ?_
        rintro e w5 ⟨rfl, hb⟩
        refine ⟨_, rfl, ?_⟩
        replace XD := Aside0.mk hb
        clear hb
        refine hK.out _ _ (BXC.out _ XD.out) (fun hHeld => ?_)
        clear hK K
        refine norm_ (a' := ?_) ?_ ?_
        rotate_left
        · show Act.put _ (some 87) _ = _
          simp only [Act.put, List.setIfInBounds_toArray, List.set_cons_zero, List.set_cons_succ, i64_w, i32_w]
          rfl
        refine one_ (i := 15) (N := some 95) #[true, true, true, true, true, true, true, true, true, true, true, true, true, true, true, true, false, false] rfl rfl (one_of HT_.out (by kernel_rfl)) (by decide) (fun K hK => ?_)
        refine goes_ Try.func15 (by kernel_rfl) rfl #[.slice A0 l0.length c0, .slice A3 js.length c3, .int .i64 (if t0 < t1 then t1 else t0)] (by rfl) rfl rfl (by (try simp only [List.map_toArray, List.map_cons, List.map_nil]); first | done | rfl) ?_
        refine (LF.out (if t0 < t1 then t1 else t0) _ rfl _ XD.out).mono ?_
        rintro e w5 ⟨rfl, hb⟩
        refine ⟨_, rfl, ?_⟩
        replace XD := Aside0.mk hb
        clear hb
        refine hK.out _ _ (BXC.out _ XD.out) (fun hHeld => ?_)
        clear hK K
        refine norm_ (a' := ?_) ?_ ?_
        rotate_left
        · show Act.put _ (some 95) _ = _
          simp only [Act.put, List.setIfInBounds_toArray, List.set_cons_zero, List.set_cons_succ, i64_w, i32_w]
          rfl
        have X6 := XD
        have hge : leftP l0 js (if t0 < t1 then t1 else t0) ≤ leftP l0 js (if t1 < t0 then t1 else t0) := FF.out.mono _ _ (by split <;> split <;> omega)
        generalize leftP l0 js (if t1 < t0 then t1 else t0) = r1 at *
        generalize leftP l0 js (if t0 < t1 then t1 else t0) = r2 at *
        have hgd : decide (r2 ≤ r1) = true := decide_eq_true hge
        refine pure_ (i := 16) (N := some 96) (v := ?_) (a' := ?_) #[true, true, true, true, true, true, true, true, true, true, true, true, true, true, true, true, true, false] rfl rfl (any_of HT_.out (by kernel_rfl)) (fun _ _ _ h => h) (Or.inl ⟨by rfl, ?_⟩) ?_ ?_
        rotate_left
        · intro w'
          go_simp
          with_reducible rfl
        rotate_left
        · simp only [Act.put, List.setIfInBounds_toArray, List.set_cons_zero, List.set_cons_succ, i64_w, i32_w]
          rfl
        refine pure_ (i := 17) (N := some 6) (v := ?_) (a' := ?_) #[true, true, true, true, true, true, true, true, true, true, true, true, true, true, true, true, true, true] rfl rfl (any_of HT_.out (by kernel_rfl)) (fun _ _ _ h => h) (Or.inl ⟨by rfl, ?_⟩) ?_ ?_
        rotate_left
        · intro w'
          go_simp
          with_reducible rfl
        rotate_left
        · simp only [Act.put, List.setIfInBounds_toArray, List.set_cons_zero, List.set_cons_succ, i64_w, i32_w]
          rfl
        refine done_ (done_of HT_.out (by kernel_rfl)) ?_
        go_wp2_with (fail)
        all_goals (go_ret; exact ⟨by first | rfl | (rw [hgd]), below_then W3.out W3.out.size X6.out⟩)
/-! ### skiarealaw21_RescueLeft: function 9 -/
def skiarealaw21_RescueLeft.f (l0 : List S33) (a1 t0 t1 : Int) : Option Bool := some true
theorem skiarealaw21_RescueLeft.calls (A0 : Option Addr) (c0 : Nat) (l0 : List S33) (a1 t0 t1 : Int) (r : Bool) (w : World) (hr0 : Kd.C k33 w A0 l0.length l0) (hc0 : l0.length ≤ c0) (h : skiarealaw21_RescueLeft.f l0 a1 t0 t1 = some r) :
    Calls Try.prog 9 #[.slice A0 l0.length c0, .int .i64 a1, .agg #[.int .i64 t0, .int .i64 t1]] w fun e w' => e = .returned (.bool r) ∧ Below w.heap.size w w' := by
  obtain rfl := Option.some.inj h
  exact left9_calls A0 c0 l0 a1 t0 t1 w hr0 hc0
end Go.Proofs.Ytedejkhopjhnbaa.P
