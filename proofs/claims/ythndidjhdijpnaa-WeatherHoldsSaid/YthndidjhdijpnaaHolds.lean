/- The law WeatherHolds: the walk of its function: its value is true whatever the alarm and the values are, by an invariant of its loop. -/
import Derived.Test.YthndidjhdijpnaaPx2
import Derived.Test.YthndidjhdijpnaaPx11
import Derived.Test.YthndidjhdijpnaaPx13
import Derived.Test.YthndidjhdijpnaaPureWeatherAlarms
namespace Go.Proofs.Ythndidjhdijpnaa.P
open Go.RowKit Go.Proofs.YthndidjhdijpnaaW.PrintWords Go.Proofs.YthndidjhdijpnaaW.PrintLast Go.Proofs.YthndidjhdijpnaaW.PrintMore
set_option linter.unusedVariables false
set_option linter.unusedSimpArgs false
def holds_T7 : Bool × List (List Nat × List Nat) := (true, [([], []), ([], []), ([], []), ([1, 2], [1, 2]), ([3], [3]), ([4], [4]), ([], []), ([], []), ([6, 7], [6, 7]), ([8], [8]), ([9], [9]), ([0, 5, 10], [0, 5, 10]), ([11], [11]), ([12], [12]), ([12], [12]), ([], []), ([15, 13, 11, 0, 1, 2, 3, 4, 5, 6, 7, 8, 9, 10, 11, 12, 13, 15], [13, 15]), ([14, 16, 0, 1, 2, 3, 4, 5, 6, 7, 8, 9, 10, 11, 12, 13, 14, 15, 16], [14])])
def holds_B7 : List Nat := [0, 0, 0, 6, 14, 30, 0, 0, 192, 448, 960, 2047, 4095, 8191, 8191, 0, 49151, 131071]
theorem holds_tab7 : rtab .any (opsOf Try.f8 7) = holds_T7 := by kernel_rfl
theorem holds_bits7 : waitsOk holds_T7.2 holds_B7 = true := by kernel_rfl
attribute [local go_sem high] eqA39
theorem upd_calls (on off hold : Int) (act : Bool) (low v t : Int) (w : World) (r1 r2 r3 : Int) (r4 : Bool) (r5 r6 : Int) (h : Pure.updR v t on off hold act low = (r1, r2, r3, r4, r5, r6)) :
    Calls Try.prog 22 #[.agg #[.int .i64 on, .int .i64 off, .int .i64 hold, .bool act, .int .i64 low], .int .i64 v, .int .i64 t] w fun e w' => e = .returned (.tuple #[.agg #[.int .i64 r1, .int .i64 r2, .int .i64 r3, .bool r4, .int .i64 r5], .int .i64 r6]) ∧ Below w.heap.size w w' := by
  obtain ⟨k, hk⟩ := (Pure.prog_Update on off hold act low v t).rounds
  rw [h] at hk
  exact weather_Update.calls k on off hold act low v t r1 r2 r3 r4 r5 r6 w hk
def bx (f0 f1 f2 : Int) (f3 : Bool) (f4 : Int) : Array Value := #[.int .i64 f0, .int .i64 f1, .int .i64 f2, .bool f3, .int .i64 f4]
set_option maxHeartbeats 16000000 in
set_option maxRecDepth 100000 in
theorem holds_calls (b0 b1 b2 : Int) (b3 : Bool) (b4 : Int) (A0 : Option Addr) (c0 : Nat) (l0 : List S45) (w : World) (hr0 : Kd.C k45 w A0 l0.length l0) (hc0 : l0.length ≤ c0) :
    Calls Try.prog 8 #[.agg #[.int .i64 b0, .int .i64 b1, .int .i64 b2, .bool b3, .int .i64 b4], .slice A0 l0.length c0] w fun e w' => e = .returned (.bool true) ∧ Below w.heap.size w w' := by
  have hu39 := Try.underlying39
  have hu43 := Try.underlying43
  have hu45 := Try.underlying45
  have HR0 := Aside0.mk hr0
  have hn := hr0.2.1
  clear hr0
  have AL : Aside0 (∀ W, Calls Try.prog 11 #[] W fun e w' => e = .returned (.bool true) ∧ Below W.heap.size W w') := ⟨fun W => skiarealaw12_alive.calls true W rfl⟩
  have e4 := blk_new w (.cells #[.int .i64 b0, .int .i64 b1, .int .i64 b2, .bool b3, .int .i64 b4] 39)
  have HB0 := Aside0.mk (below_alloc (Below.refl w.heap.size w) (.cells #[.int .i64 b0, .int .i64 b1, .int .i64 b2, .bool b3, .int .i64 b4] 39))
  have E4 := Aside0.mk e4
  clear e4
  go_enter Try.func8, Try.ntmps8
  go_wp2_with (go_at_call 11; refine (AL.out _).mono ?_; rintro e w1 ⟨rfl, hb1⟩; have E1 := Aside0.mk ((hb1.block w.heap.size (by simp)).trans E4.out); have HB1 := Aside0.mk (below_then HB0.out HB0.out.size hb1); have q4 := (blk_cell E1.out 4).trans rfl; clear hb1 HB0 E4)
  go_quiet (fail)
  go_wp2_with (fail)
  generalize hBx : w.heap.size = B at *
  have HBw : Aside0 (w.heap.size = B) := ⟨hBx⟩
  clear hBx q4
  go_loopg [5, 6, 7, 8, 9] l0.length (fun gg s5 s6 s7 _ _ wr => ∃ (kk : Nat) (f0 f1 f2 : Int) (f3 : Bool) (f4 si : Int), kk ≤ l0.length ∧ l0.length - kk ≤ gg ∧ s7 = .int .i64 kk ∧ s5 = .bool (decide (0 ≤ f4)) ∧ s6 = .int .i64 si ∧ Aside0 (0 ≤ f4 → si = f4) ∧ Aside0 (Below B w wr) ∧ Aside0 (wr.heap[B]? = some (.cells #[.int .i64 f0, .int .i64 f1, .int .i64 f2, .bool f3, .int .i64 f4] 39 (0, 0))))
  case atStart => exact ⟨0, b0, b1, b2, b3, b4, b4, Nat.zero_le _, by omega, rfl, by first | rfl | simp, rfl, ⟨fun _ => rfl⟩, ⟨pw_below_drewN HB1.out _⟩, ⟨E1.out⟩⟩
  case round =>
    clear E1 HB1
    obtain ⟨kk, f0, f1, f2, f3, f4, si, hkk, hg, rfl, rfl, rfl, SI, BW, EB⟩ := hrel
    by_cases hlt : kk < l0.length
    · have hltz : (kk : Int) < (l0.length : Int) := by omega
      have d1 : decide (kk < l0.length) = true := decide_eq_true hlt
      by_cases h100 : kk < 100
      · have h100z : (kk : Int) < 100 := by omega
        have d2 : decide (kk < 100) = true := decide_eq_true h100
        obtain ⟨ad, e1, y0, y1⟩ := at_T45 HR0.out (kk : Int) (by omega) hltz
        cases e1
        simp only [Int.toNat_natCast] at y0 y1
        have YC : Aside0 (∀ W, Below B w W → W.cell? (ad.add (kk * 2)) = some (.int .i64 (rd_T45 l0 (kk : Int)).f0) ∧ W.cell? ⟨(ad.add (kk * 2)).block, (ad.add (kk * 2)).off + 1, none⟩ = some (.int .i64 (rd_T45 l0 (kk : Int)).f1)) := ⟨fun W h =>
          ⟨(h.cell (by rw [← HBw.out]; exact World.block_lt_of_cell? w _ y0)).trans y0, (h.cell (by rw [← HBw.out]; exact World.block_lt_of_cell? w _ y1)).trans y1⟩⟩
        clear y0 y1
        generalize (rd_T45 l0 (kk : Int)).f0 = v at *
        generalize (rd_T45 l0 (kk : Int)).f1 = t at *
        have hBlt : B < wr.heap.size := blk_lt EB.out
        go_wp2_with (fail)
        have EBd : Aside0 (wr.drew.heap[B]? = some (.cells #[.int .i64 f0, .int .i64 f1, .int .i64 f2, .bool f3, .int .i64 f4] 39 (0, 0))) := ⟨EB.out⟩
        have BWd := Aside0.mk (below_drew1 BW.out)
        obtain ⟨y0, y1⟩ := YC.out _ BWd.out
        have z0 := (blk_cell EBd.out 0).trans rfl
        have z1 := (blk_cell EBd.out 1).trans rfl
        have z2 := (blk_cell EBd.out 2).trans rfl
        have z3 := (blk_cell EBd.out 3).trans rfl
        have z4 := (blk_cell EBd.out 4).trans rfl
        have HBd : Aside0 (B < wr.drew.heap.size) := ⟨hBlt⟩
        clear hBlt EB BW
        obtain ⟨⟨r1, r2, r3, r4, r5, r6⟩, hU⟩ : ∃ r, Pure.updR v t f0 f1 f2 f3 f4 = r := ⟨_, rfl⟩
        have UC := Aside0.mk (fun W => upd_calls f0 f1 f2 f3 f4 v t W r1 r2 r3 r4 r5 r6 hU)
        have HU := Aside0.mk hU
        clear hU
        refine start_ (n := 18) (S := fun w' => w'.cell? ⟨B, 0, none⟩ = some (.int .i64 f0) ∧ w'.cell? ⟨B, 1, none⟩ = some (.int .i64 f1) ∧ w'.cell? ⟨B, 2, none⟩ = some (.int .i64 f2) ∧ w'.cell? ⟨B, 3, none⟩ = some (.bool f3) ∧ w'.cell? ⟨B, 4, none⟩ = some (.int .i64 f4) ∧ w'.cell? (ad.add (kk * 2)) = some (.int .i64 v) ∧ w'.cell? ⟨(ad.add (kk * 2)).block, (ad.add (kk * 2)).off + 1, none⟩ = some (.int .i64 t)) (ds := []) #[false, false, false, false, false, false, false, false, false, false, false, false, false, false, false, false, false, false] (by kernel_rfl) rfl rfl ⟨z0, z1, z2, z3, z4, y0, y1⟩ (fun hHeld => ?_)
        refine with_tabW holds_tab7 holds_bits7 (fun HT_ HW_ => ?_)
        generalize wr.drew = wd at EBd BWd HBd z0 z1 z2 z3 z4 y0 y1 hHeld ⊢
        have EB := EBd
        have BW := BWd
        clear EBd BWd HBd z0 z1 z2 z3 z4 y0 y1
        refine pure_ (i := 1) (N := some 29) (v := ?_) (a' := ?_) #[false, true, false, false, false, false, false, false, false, false, false, false, false, false, false, false, false, false] rfl rfl (any_of HT_.out (by kernel_rfl)) (fun _ _ _ h => h) (Or.inl ⟨by rfl, ?_⟩) ?_ ?_
        rotate_left
        · intro w'
          go_simp
          with_reducible rfl
        rotate_left
        · simp only [Act.put, List.setIfInBounds_toArray, List.set_cons_zero, List.set_cons_succ, i64_w, i32_w]
          rfl
        refine pure_ (i := 2) (N := some 30) (v := ?_) (a' := ?_) #[false, true, true, false, false, false, false, false, false, false, false, false, false, false, false, false, false, false] rfl rfl (any_of HT_.out (by kernel_rfl)) (fun _ _ _ h => h) (Or.inl ⟨by rfl, ?_⟩) ?_ ?_
        rotate_left
        · intro w'
          go_simp
          with_reducible rfl
        rotate_left
        · simp only [Act.put, List.setIfInBounds_toArray, List.set_cons_zero, List.set_cons_succ, i64_w, i32_w]
          rfl
        refine pure_ (i := 3) (N := some 31) (v := ?_) (a' := ?_) #[false, true, true, true, false, false, false, false, false, false, false, false, false, false, false, false, false, false] rfl rfl (any_of HT_.out (by kernel_rfl)) (fun _ _ _ h => h) (Or.inl ⟨by rfl, ?_⟩) ?_ ?_
        rotate_left
        · intro w'
          go_simp
          with_reducible rfl
        rotate_left
        · simp only [Act.put, List.setIfInBounds_toArray, List.set_cons_zero, List.set_cons_succ, i64_w, i32_w]
          rfl
        refine pure_ (i := 4) (N := some 32) (v := ?_) (a' := ?_) #[false, true, true, true, true, false, false, false, false, false, false, false, false, false, false, false, false, false] rfl rfl (any_of HT_.out (by kernel_rfl)) (fun _ _ _ h => h) (Or.inl ⟨by rfl, ?_⟩) ?_ ?_
        rotate_left
        · intro w'
          go_simp
          with_reducible rfl
        rotate_left
        · simp only [Act.put, List.setIfInBounds_toArray, List.set_cons_zero, List.set_cons_succ, i64_w, i32_w]
          rfl
        refine pure_ (i := 6) (N := some 34) (v := ?_) (a' := ?_) #[false, true, true, true, true, false, true, false, false, false, false, false, false, false, false, false, false, false] rfl rfl (any_of HT_.out (by kernel_rfl)) (fun _ _ _ h => h) (Or.inl ⟨by rfl, ?_⟩) ?_ ?_
        rotate_left
        · intro w'
          go_simp
          with_reducible rfl
        rotate_left
        · simp only [Act.put, List.setIfInBounds_toArray, List.set_cons_zero, List.set_cons_succ, i64_w, i32_w]
          rfl
        refine pure_ (i := 7) (N := some 35) (v := ?_) (a' := ?_) #[false, true, true, true, true, false, true, true, false, false, false, false, false, false, false, false, false, false] rfl rfl (any_of HT_.out (by kernel_rfl)) (fun _ _ _ h => h) (Or.inl ⟨by rfl, ?_⟩) ?_ ?_
        rotate_left
        · intro w'
          go_simp
          with_reducible rfl
        rotate_left
        · simp only [Act.put, List.setIfInBounds_toArray, List.set_cons_zero, List.set_cons_succ, i64_w, i32_w]
          rfl
        refine pure_ (i := 8) (N := some 36) (v := ?_) (a' := ?_) #[false, true, true, true, true, false, true, true, true, false, false, false, false, false, false, false, false, false] rfl rfl (any_of HT_.out (by kernel_rfl)) (fun _ _ _ h => h) (Or.inl ⟨by rfl, ?_⟩) ?_ ?_
        rotate_left
        · intro w'
          go_simp
          with_reducible rfl
        rotate_left
        · simp only [Act.put, List.setIfInBounds_toArray, List.set_cons_zero, List.set_cons_succ, i64_w, i32_w]
          rfl
        refine pure_ (i := 9) (N := some 37) (v := ?_) (a' := ?_) #[false, true, true, true, true, false, true, true, true, true, false, false, false, false, false, false, false, false] rfl rfl (any_of HT_.out (by kernel_rfl)) (fun _ _ _ h => h) (Or.inl ⟨by rfl, ?_⟩) ?_ ?_
        rotate_left
        · intro w'
          go_simp
          with_reducible rfl
        rotate_left
        · simp only [Act.put, List.setIfInBounds_toArray, List.set_cons_zero, List.set_cons_succ, i64_w, i32_w]
          rfl
        refine take_ (i := 0) (N := some 28) (v := ?_) (a' := ?_) #[true, true, true, true, true, false, true, true, true, true, false, false, false, false, false, false, false, false] rfl rfl (take_ofW HT_.out HW_.out (by kernel_rfl)) (fun _ _ _ h => h) (Or.inl ⟨by rfl, ?_⟩) hHeld ?_ ?_
        rotate_left
        · rintro w' ⟨s0, s1, s2, s3, s4, s5, s6⟩
          go_simp
          with_reducible rfl
        rotate_left
        · simp only [Act.put, List.setIfInBounds_toArray, List.set_cons_zero, List.set_cons_succ, i64_w, i32_w]
          rfl
        refine take_ (i := 5) (N := some 33) (v := ?_) (a' := ?_) #[true, true, true, true, true, true, true, true, true, true, false, false, false, false, false, false, false, false] rfl rfl (take_ofW HT_.out HW_.out (by kernel_rfl)) (fun _ _ _ h => h) (Or.inl ⟨by rfl, ?_⟩) hHeld ?_ ?_
        rotate_left
        · rintro w' ⟨s0, s1, s2, s3, s4, s5, s6⟩
          go_simp
          with_reducible rfl
        rotate_left
        · simp only [Act.put, List.setIfInBounds_toArray, List.set_cons_zero, List.set_cons_succ, i64_w, i32_w]
          rfl
        refine take_ (i := 10) (N := some 38) (v := ?_) (a' := ?_) #[true, true, true, true, true, true, true, true, true, true, true, false, false, false, false, false, false, false] rfl rfl (take_ofW HT_.out HW_.out (by kernel_rfl)) (fun _ _ _ h => h) (Or.inl ⟨by rfl, ?_⟩) hHeld ?_ ?_
        rotate_left
        · rintro w' ⟨s0, s1, s2, s3, s4, s5, s6⟩
          go_simp
          with_reducible rfl
        rotate_left
        · simp only [Act.put, List.setIfInBounds_toArray, List.set_cons_zero, List.set_cons_succ, i64_w, i32_w]
          rfl
        refine join_ (σ := Nat) 2 #[true, true, true, true, true, true, true, true, true, true, true, true, true, true, true, true, false, false] (fun s_ => [(39, .tuple #[.agg #[.int .i64 r1, .int .i64 r2, .int .i64 r3, .bool r4, .int .i64 r5], .int .i64 r6]), (8, .pointer (some ⟨s_, 0, none⟩)), (27, .tuple #[.agg #[.int .i64 r1, .int .i64 r2, .int .i64 r3, .bool r4, .int .i64 r5], .int .i64 r6]), (40, .agg #[.int .i64 r1, .int .i64 r2, .int .i64 r3, .bool r4, .int .i64 r5]), (41, .int .i64 r6)]) (fun s_ w' => (w'.heap[B]? = some (.cells #[.int .i64 f0, .int .i64 f1, .int .i64 f2, .bool f3, .int .i64 f4] 39 (0, 0))) ∧ (w'.heap[s_]? = some (.cells #[.int .i64 0, .int .i64 0, .int .i64 0, .bool false, .int .i64 0] 39 (0, 0))) ∧ (B ≠ s_) ∧ (B ≤ s_) ∧ Below B w w') ?_ ?_
        rotate_left
        · intro hCont
          refine two_ (i := 11) (j := 15) (Ni := some 39) (Nj := some 8) #[true, true, true, true, true, true, true, true, true, true, true, true, false, false, false, false, false, false] #[true, true, true, true, true, true, true, true, true, true, true, false, false, false, false, true, false, false] rfl rfl rfl rfl (two_of HT_.out (by kernel_rfl)) (by decide) (by decide) (fun K hK => ?_) (fun K hK => ?_)
          · skip
            refine goes_ Try.func22 (by kernel_rfl) rfl #[.agg #[.int .i64 f0, .int .i64 f1, .int .i64 f2, .bool f3, .int .i64 f4], .int .i64 v, .int .i64 t] (by rfl) rfl rfl (by (try simp only [List.map_toArray, List.map_cons, List.map_nil]); first | done | rfl) ?_
            refine (UC.out _).mono ?_
            rintro e w2 ⟨rfl, hb⟩
            refine ⟨_, rfl, ?_⟩
            replace BW := Aside0.mk (below_then BW.out (by have := blk_lt EB.out; omega) hb)
            replace EB := Aside0.mk ((hb.block B (blk_lt EB.out)).trans EB.out)
            clear hb
            refine hK.out _ _ ⟨(blk_cell EB.out 0).trans rfl, (blk_cell EB.out 1).trans rfl, (blk_cell EB.out 2).trans rfl, (blk_cell EB.out 3).trans rfl, (blk_cell EB.out 4).trans rfl, (YC.out _ BW.out).1, (YC.out _ BW.out).2⟩ (fun hHeld => ?_)
            clear hK K
            refine norm_ (a' := ?_) ?_ ?_
            rotate_left
            · show Act.put _ (some 39) _ = _
              simp only [Act.put, List.setIfInBounds_toArray, List.set_cons_zero, List.set_cons_succ, i64_w, i32_w]
              rfl
            refine pure_ (i := 12) (N := some 27) (v := ?_) (a' := ?_) #[true, true, true, true, true, true, true, true, true, true, true, true, true, false, false, false, false, false] rfl rfl (any_of HT_.out (by kernel_rfl)) (fun _ _ _ h => h) (Or.inl ⟨by rfl, ?_⟩) ?_ ?_
            rotate_left
            · intro w'
              go_simp
              with_reducible rfl
            rotate_left
            · simp only [Act.put, List.setIfInBounds_toArray, List.set_cons_zero, List.set_cons_succ, i64_w, i32_w]
              rfl
            refine pure_ (i := 13) (N := some 40) (v := ?_) (a' := ?_) #[true, true, true, true, true, true, true, true, true, true, true, true, true, true, false, false, false, false] rfl rfl (any_of HT_.out (by kernel_rfl)) (fun _ _ _ h => h) (Or.inl ⟨by rfl, ?_⟩) ?_ ?_
            rotate_left
            · intro w'
              go_simp
              with_reducible rfl
            rotate_left
            · simp only [Act.put, List.setIfInBounds_toArray, List.set_cons_zero, List.set_cons_succ, i64_w, i32_w]
              rfl
            refine pure_ (i := 14) (N := some 41) (v := ?_) (a' := ?_) #[true, true, true, true, true, true, true, true, true, true, true, true, true, true, true, false, false, false] rfl rfl (any_of HT_.out (by kernel_rfl)) (fun _ _ _ h => h) (Or.inl ⟨by rfl, ?_⟩) ?_ ?_
            rotate_left
            · intro w'
              go_simp
              with_reducible rfl
            rotate_left
            · simp only [Act.put, List.setIfInBounds_toArray, List.set_cons_zero, List.set_cons_succ, i64_w, i32_w]
              rfl
            refine one_ (i := 15) (N := some 8) #[true, true, true, true, true, true, true, true, true, true, true, true, true, true, true, true, false, false] rfl rfl (one_of HT_.out (by kernel_rfl)) (by decide) (fun K hK => ?_)
            refine box_step ?hg (N := 8) ?hd (cs := #[.int .i64 0, .int .i64 0, .int .i64 0, .bool false, .int .i64 0]) (t := 39) ?hr ?_; (case hd => rfl); (case hg => rfl); (case hr => first | (go_simp; done) | (go_simp; rfl))
            intro gn hgn w3 hbox hb
            have EN := Aside0.mk hbox
            have NE : Aside0 (B ≠ gn) := ⟨by rw [hgn]; exact Nat.ne_of_lt (blk_lt EB.out)⟩
            have GE : Aside0 (B ≤ gn) := ⟨by rw [hgn]; exact Nat.le_of_lt (blk_lt EB.out)⟩
            replace BW := Aside0.mk (below_then BW.out (by have := blk_lt EB.out; omega) hb)
            replace EB := Aside0.mk ((hb.block B (blk_lt EB.out)).trans EB.out)
            clear hb hbox hgn
            refine hK.out _ _ ⟨(blk_cell EB.out 0).trans rfl, (blk_cell EB.out 1).trans rfl, (blk_cell EB.out 2).trans rfl, (blk_cell EB.out 3).trans rfl, (blk_cell EB.out 4).trans rfl, (YC.out _ BW.out).1, (YC.out _ BW.out).2⟩ (fun hHeld => ?_)
            clear hK K
            refine norm_ (a' := ?_) ?_ ?_
            rotate_left
            · show Act.put _ (some 8) _ = _
              simp only [Act.put, List.setIfInBounds_toArray, List.set_cons_zero, List.set_cons_succ, i64_w, i32_w]
              rfl
            exact norm_ (by simp only [putAll, Act.put, List.setIfInBounds_toArray, List.set_cons_zero, List.set_cons_succ]) (hCont gn _ ⟨EB.out, EN.out, NE.out, GE.out, BW.out⟩)
          · skip
            refine box_step ?hg (N := 8) ?hd (cs := #[.int .i64 0, .int .i64 0, .int .i64 0, .bool false, .int .i64 0]) (t := 39) ?hr ?_; (case hd => rfl); (case hg => rfl); (case hr => first | (go_simp; done) | (go_simp; rfl))
            intro gn hgn w3 hbox hb
            have EN := Aside0.mk hbox
            have NE : Aside0 (B ≠ gn) := ⟨by rw [hgn]; exact Nat.ne_of_lt (blk_lt EB.out)⟩
            have GE : Aside0 (B ≤ gn) := ⟨by rw [hgn]; exact Nat.le_of_lt (blk_lt EB.out)⟩
            replace BW := Aside0.mk (below_then BW.out (by have := blk_lt EB.out; omega) hb)
            replace EB := Aside0.mk ((hb.block B (blk_lt EB.out)).trans EB.out)
            clear hb hbox hgn
            refine hK.out _ _ ⟨(blk_cell EB.out 0).trans rfl, (blk_cell EB.out 1).trans rfl, (blk_cell EB.out 2).trans rfl, (blk_cell EB.out 3).trans rfl, (blk_cell EB.out 4).trans rfl, (YC.out _ BW.out).1, (YC.out _ BW.out).2⟩ (fun hHeld => ?_)
            clear hK K
            refine norm_ (a' := ?_) ?_ ?_
            rotate_left
            · show Act.put _ (some 8) _ = _
              simp only [Act.put, List.setIfInBounds_toArray, List.set_cons_zero, List.set_cons_succ, i64_w, i32_w]
              rfl
            refine one_ (i := 11) (N := some 39) #[true, true, true, true, true, true, true, true, true, true, true, true, false, false, false, true, false, false] rfl rfl (one_of HT_.out (by kernel_rfl)) (by decide) (fun K hK => ?_)
            refine goes_ Try.func22 (by kernel_rfl) rfl #[.agg #[.int .i64 f0, .int .i64 f1, .int .i64 f2, .bool f3, .int .i64 f4], .int .i64 v, .int .i64 t] (by rfl) rfl rfl (by (try simp only [List.map_toArray, List.map_cons, List.map_nil]); first | done | rfl) ?_
            refine (UC.out _).mono ?_
            rintro e w2 ⟨rfl, hb⟩
            refine ⟨_, rfl, ?_⟩
            replace BW := Aside0.mk (below_then BW.out (by have := blk_lt EB.out; omega) hb)
            replace EN := Aside0.mk ((hb.block gn (blk_lt EN.out)).trans EN.out)
            replace EB := Aside0.mk ((hb.block B (blk_lt EB.out)).trans EB.out)
            clear hb
            refine hK.out _ _ ⟨(blk_cell EB.out 0).trans rfl, (blk_cell EB.out 1).trans rfl, (blk_cell EB.out 2).trans rfl, (blk_cell EB.out 3).trans rfl, (blk_cell EB.out 4).trans rfl, (YC.out _ BW.out).1, (YC.out _ BW.out).2⟩ (fun hHeld => ?_)
            clear hK K
            refine norm_ (a' := ?_) ?_ ?_
            rotate_left
            · show Act.put _ (some 39) _ = _
              simp only [Act.put, List.setIfInBounds_toArray, List.set_cons_zero, List.set_cons_succ, i64_w, i32_w]
              rfl
            refine pure_ (i := 12) (N := some 27) (v := ?_) (a' := ?_) #[true, true, true, true, true, true, true, true, true, true, true, true, true, false, false, true, false, false] rfl rfl (any_of HT_.out (by kernel_rfl)) (fun _ _ _ h => h) (Or.inl ⟨by rfl, ?_⟩) ?_ ?_
            rotate_left
            · intro w'
              go_simp
              with_reducible rfl
            rotate_left
            · simp only [Act.put, List.setIfInBounds_toArray, List.set_cons_zero, List.set_cons_succ, i64_w, i32_w]
              rfl
            refine pure_ (i := 13) (N := some 40) (v := ?_) (a' := ?_) #[true, true, true, true, true, true, true, true, true, true, true, true, true, true, false, true, false, false] rfl rfl (any_of HT_.out (by kernel_rfl)) (fun _ _ _ h => h) (Or.inl ⟨by rfl, ?_⟩) ?_ ?_
            rotate_left
            · intro w'
              go_simp
              with_reducible rfl
            rotate_left
            · simp only [Act.put, List.setIfInBounds_toArray, List.set_cons_zero, List.set_cons_succ, i64_w, i32_w]
              rfl
            refine pure_ (i := 14) (N := some 41) (v := ?_) (a' := ?_) #[true, true, true, true, true, true, true, true, true, true, true, true, true, true, true, true, false, false] rfl rfl (any_of HT_.out (by kernel_rfl)) (fun _ _ _ h => h) (Or.inl ⟨by rfl, ?_⟩) ?_ ?_
            rotate_left
            · intro w'
              go_simp
              with_reducible rfl
            rotate_left
            · simp only [Act.put, List.setIfInBounds_toArray, List.set_cons_zero, List.set_cons_succ, i64_w, i32_w]
              rfl
            exact norm_ (by simp only [putAll, Act.put, List.setIfInBounds_toArray, List.set_cons_zero, List.set_cons_succ]) (hCont gn _ ⟨EB.out, EN.out, NE.out, GE.out, BW.out⟩)
        clear EB BW hHeld
        rintro gn w4 ⟨hEB, hEN, hNE, hGE, hBW⟩
        have EB := Aside0.mk hEB
        have EN := Aside0.mk hEN
        have BW := Aside0.mk hBW
        have NE := Aside0.mk hNE
        have GE := Aside0.mk hGE
        clear hEB hEN hBW hGE
        have hHeld : w4.cell? ⟨B, 0, none⟩ = some (.int .i64 f0) ∧ w4.cell? ⟨B, 1, none⟩ = some (.int .i64 f1) ∧ w4.cell? ⟨B, 2, none⟩ = some (.int .i64 f2) ∧ w4.cell? ⟨B, 3, none⟩ = some (.bool f3) ∧ w4.cell? ⟨B, 4, none⟩ = some (.int .i64 f4) ∧ w4.cell? (ad.add (kk * 2)) = some (.int .i64 v) ∧ w4.cell? ⟨(ad.add (kk * 2)).block, (ad.add (kk * 2)).off + 1, none⟩ = some (.int .i64 t) := ⟨(blk_cell EB.out 0).trans rfl, (blk_cell EB.out 1).trans rfl, (blk_cell EB.out 2).trans rfl, (blk_cell EB.out 3).trans rfl, (blk_cell EB.out 4).trans rfl, (YC.out _ BW.out).1, (YC.out _ BW.out).2⟩
        refine norm_ (a' := ?_) ?_ ?_
        rotate_left
        · simp only [putAll, Act.put, List.setIfInBounds_toArray, List.set_cons_zero, List.set_cons_succ]
          rfl
        refine one_ (i := 16) (N := none) #[true, true, true, true, true, true, true, true, true, true, true, true, true, true, true, true, true, false] rfl rfl (one_of HT_.out (by kernel_rfl)) (by decide) (fun K hK => ?_)
        have h0_ : w4.cell? ⟨gn, 0, none⟩ = some (.int .i64 0) := (blk_cell EN.out 0).trans rfl
        have g0_ := blk_frozen EN.out 0
        have h1_ : w4.cell? ⟨gn, 1, none⟩ = some (.int .i64 0) := (blk_cell EN.out 1).trans rfl
        have g1_ := blk_frozen EN.out 1
        have h2_ : w4.cell? ⟨gn, 2, none⟩ = some (.int .i64 0) := (blk_cell EN.out 2).trans rfl
        have g2_ := blk_frozen EN.out 2
        have h3_ : w4.cell? ⟨gn, 3, none⟩ = some (.bool false) := (blk_cell EN.out 3).trans rfl
        have g3_ := blk_frozen EN.out 3
        have h4_ : w4.cell? ⟨gn, 4, none⟩ = some (.int .i64 0) := (blk_cell EN.out 4).trans rfl
        have g4_ := blk_frozen EN.out 4
        refine skip_ (w1 := ?_) (by rfl) rfl ?_ ?_
        rotate_left
        · go_simp
          rfl
        replace EB := Aside0.mk (blk_far (blk_far (blk_far (blk_far (blk_far EB.out (p := ⟨gn, 0, none⟩) hNE (.int .i64 r1)) (p := ⟨gn, 1, none⟩) hNE (.int .i64 r2)) (p := ⟨gn, 2, none⟩) hNE (.int .i64 r3)) (p := ⟨gn, 3, none⟩) hNE (.bool r4)) (p := ⟨gn, 4, none⟩) hNE (.int .i64 r5))
        replace EN := Aside0.mk (blk_set (blk_set (blk_set (blk_set (blk_set EN.out 0 (.int .i64 r1)) 1 (.int .i64 r2)) 2 (.int .i64 r3)) 3 (.bool r4)) 4 (.int .i64 r5))
        replace BW := Aside0.mk (((((BW.out.setCell (p := ⟨gn, 0, none⟩) GE.out (.int .i64 r1)).setCell (p := ⟨gn, 1, none⟩) GE.out (.int .i64 r2)).setCell (p := ⟨gn, 2, none⟩) GE.out (.int .i64 r3)).setCell (p := ⟨gn, 3, none⟩) GE.out (.bool r4)).setCell (p := ⟨gn, 4, none⟩) GE.out (.int .i64 r5))
        clear hHeld h0_ h1_ h2_ h3_ h4_ g0_ g1_ g2_ g3_ g4_
        refine hK.out _ _ ⟨(blk_cell EB.out 0).trans rfl, (blk_cell EB.out 1).trans rfl, (blk_cell EB.out 2).trans rfl, (blk_cell EB.out 3).trans rfl, (blk_cell EB.out 4).trans rfl, (YC.out _ BW.out).1, (YC.out _ BW.out).2⟩ (fun hHeld => ?_)
        clear hK K
        refine pure_ (i := 17) (N := some 9) (v := ?_) (a' := ?_) #[true, true, true, true, true, true, true, true, true, true, true, true, true, true, true, true, true, true] rfl rfl (any_of HT_.out (by kernel_rfl)) (fun _ _ _ h => h) (Or.inl ⟨by rfl, ?_⟩) ?_ ?_
        rotate_left
        · intro w'
          go_simp
          with_reducible rfl
        rotate_left
        · simp only [Act.put, List.setIfInBounds_toArray, List.set_cons_zero, List.set_cons_succ, i64_w, i32_w]
          rfl
        refine done_ (done_of HT_.out (by kernel_rfl)) ?_
        clear hHeld HT_ HW_
        generalize ((((w4.setCell ⟨gn, 0, none⟩ (.int .i64 r1)).setCell ⟨gn, 1, none⟩ (.int .i64 r2)).setCell ⟨gn, 2, none⟩ (.int .i64 r3)).setCell ⟨gn, 3, none⟩ (.bool r4)).setCell ⟨gn, 4, none⟩ (.int .i64 r5) = w5 at EB EN BW ⊢
        have EN5 : Aside0 (w5.heap[gn]? = some (.cells #[.int .i64 r1, .int .i64 r2, .int .i64 r3, .bool r4, .int .i64 r5] 39 (0, 0))) := ⟨EN.out⟩
        clear EN
        have hU := HU.out
        clear HU UC
        unfold Pure.updR Pure.updJ at hU
        cases hbad : Pure.updBad v t f0 f1 f2 f4 with
        | true =>
          rw [hbad, if_pos rfl] at hU
          simp only [Prod.mk.injEq] at hU; obtain ⟨rfl, rfl, rfl, rfl, rfl, rfl⟩ := hU
          clear hbad
          have z0 := (blk_cell EB.out 0).trans rfl
          have m0 := (blk_cell EN5.out 0).trans rfl
          have x0 := blk_frozen EB.out 0
          have z1 := (blk_cell EB.out 1).trans rfl
          have m1 := (blk_cell EN5.out 1).trans rfl
          have x1 := blk_frozen EB.out 1
          have z2 := (blk_cell EB.out 2).trans rfl
          have m2 := (blk_cell EN5.out 2).trans rfl
          have x2 := blk_frozen EB.out 2
          have z3 := (blk_cell EB.out 3).trans rfl
          have m3 := (blk_cell EN5.out 3).trans rfl
          have x3 := blk_frozen EB.out 3
          have z4 := (blk_cell EB.out 4).trans rfl
          have m4 := (blk_cell EN5.out 4).trans rfl
          have x4 := blk_frozen EB.out 4
          obtain ⟨y0, y1⟩ := YC.out _ BW.out
          go_wp2_with (fail)
          repeat (go_quiet (fail); try go_wp2_with (fail))
          go_roundg (l0.length - (kk + 1))
          case measure => omega
          case rel => exact ⟨kk + 1, f0, f1, f2, f3, f4, si, by omega, by omega, by go_num, by first | rfl | simp, rfl, SI, BW, EB⟩
        | false =>
          rw [hbad, if_neg (by simp)] at hU
          have GD : Aside0 (0 ≤ f1 ∧ f1 ≤ f0 ∧ 0 ≤ f2 ∧ f2 ≤ 86400 ∧ 0 ≤ v ∧ 0 ≤ t ∧ t ≤ 20000000 ∧ f4 ≤ t) := ⟨by simp [Pure.updBad] at hbad; omega⟩
          clear hbad
          by_cases c1 : v ≥ f0
          · rw [if_pos c1] at hU
            simp only [Prod.mk.injEq] at hU; obtain ⟨rfl, rfl, rfl, rfl, rfl, rfl⟩ := hU
            replace c1 := Aside0.mk c1
            have q1 : decide (f1 ≤ v) = true := decide_eq_true (by have := GD.out; have := c1.out; omega)
            have q1z : f1 ≤ v := of_decide_eq_true q1
            have q2 : decide (v < f0) = false := decide_eq_false (by have := c1.out; omega)
            cases f3 with
            | true =>
              have z0 := (blk_cell EB.out 0).trans rfl
              have m0 := (blk_cell EN5.out 0).trans rfl
              have x0 := blk_frozen EB.out 0
              have z1 := (blk_cell EB.out 1).trans rfl
              have m1 := (blk_cell EN5.out 1).trans rfl
              have x1 := blk_frozen EB.out 1
              have z2 := (blk_cell EB.out 2).trans rfl
              have m2 := (blk_cell EN5.out 2).trans rfl
              have x2 := blk_frozen EB.out 2
              have z3 := (blk_cell EB.out 3).trans rfl
              have m3 := (blk_cell EN5.out 3).trans rfl
              have x3 := blk_frozen EB.out 3
              have z4 := (blk_cell EB.out 4).trans rfl
              have m4 := (blk_cell EN5.out 4).trans rfl
              have x4 := blk_frozen EB.out 4
              obtain ⟨y0, y1⟩ := YC.out _ BW.out
              go_wp2_with (fail)
              repeat (go_quiet (fail); try go_wp2_with (fail))
              go_roundg (l0.length - (kk + 1))
              case measure => omega
              case rel => exact ⟨kk + 1, f0, f1, f2, true, (-1), si, by omega, by omega, by go_num, by first | rfl | simp, rfl, ⟨fun h => by omega⟩, ⟨by exact (((((pw_below_drewN BW.out _).setCell (p := ⟨B, 0, none⟩) (Nat.le_refl _) _).setCell (p := ⟨B, 1, none⟩) (Nat.le_refl _) _).setCell (p := ⟨B, 2, none⟩) (Nat.le_refl _) _).setCell (p := ⟨B, 3, none⟩) (Nat.le_refl _) _).setCell (p := ⟨B, 4, none⟩) (Nat.le_refl _) _⟩, ⟨by first | exact (blk_set (blk_set (blk_set (blk_set (blk_set EB.out 0 _) 1 _) 2 _) 3 _) 4 _) | exact (blk_set (blk_set (blk_set (blk_set (blk_set (blk_drewN EB.out _) 0 _) 1 _) 2 _) 3 _) 4 _)⟩⟩
            | false =>
              have z0 := (blk_cell EB.out 0).trans rfl
              have m0 := (blk_cell EN5.out 0).trans rfl
              have x0 := blk_frozen EB.out 0
              have z1 := (blk_cell EB.out 1).trans rfl
              have m1 := (blk_cell EN5.out 1).trans rfl
              have x1 := blk_frozen EB.out 1
              have z2 := (blk_cell EB.out 2).trans rfl
              have m2 := (blk_cell EN5.out 2).trans rfl
              have x2 := blk_frozen EB.out 2
              have z3 := (blk_cell EB.out 3).trans rfl
              have m3 := (blk_cell EN5.out 3).trans rfl
              have x3 := blk_frozen EB.out 3
              have z4 := (blk_cell EB.out 4).trans rfl
              have m4 := (blk_cell EN5.out 4).trans rfl
              have x4 := blk_frozen EB.out 4
              obtain ⟨y0, y1⟩ := YC.out _ BW.out
              go_wp2_with (fail)
              repeat (go_quiet (fail); try go_wp2_with (fail))
              go_roundg (l0.length - (kk + 1))
              case measure => omega
              case rel => exact ⟨kk + 1, f0, f1, f2, true, (-1), si, by omega, by omega, by go_num, by first | rfl | simp, rfl, ⟨fun h => by omega⟩, ⟨by exact (((((pw_below_drewN BW.out _).setCell (p := ⟨B, 0, none⟩) (Nat.le_refl _) _).setCell (p := ⟨B, 1, none⟩) (Nat.le_refl _) _).setCell (p := ⟨B, 2, none⟩) (Nat.le_refl _) _).setCell (p := ⟨B, 3, none⟩) (Nat.le_refl _) _).setCell (p := ⟨B, 4, none⟩) (Nat.le_refl _) _⟩, ⟨by first | exact (blk_set (blk_set (blk_set (blk_set (blk_set EB.out 0 _) 1 _) 2 _) 3 _) 4 _) | exact (blk_set (blk_set (blk_set (blk_set (blk_set (blk_drewN EB.out _) 0 _) 1 _) 2 _) 3 _) 4 _)⟩⟩
          rw [if_neg c1] at hU
          replace c1 := Aside0.mk c1
          have q2 : decide (v < f0) = true := decide_eq_true (by have := c1.out; omega)
          have q2z : v < f0 := of_decide_eq_true q2
          by_cases c2 : v ≥ f1
          · rw [if_pos c2] at hU
            simp only [Prod.mk.injEq] at hU; obtain ⟨rfl, rfl, rfl, rfl, rfl, rfl⟩ := hU
            have q1 : decide (f1 ≤ v) = true := decide_eq_true c2
            have q1z : f1 ≤ v := c2
            clear c2
            cases f3 with
            | true =>
              have z0 := (blk_cell EB.out 0).trans rfl
              have m0 := (blk_cell EN5.out 0).trans rfl
              have x0 := blk_frozen EB.out 0
              have z1 := (blk_cell EB.out 1).trans rfl
              have m1 := (blk_cell EN5.out 1).trans rfl
              have x1 := blk_frozen EB.out 1
              have z2 := (blk_cell EB.out 2).trans rfl
              have m2 := (blk_cell EN5.out 2).trans rfl
              have x2 := blk_frozen EB.out 2
              have z3 := (blk_cell EB.out 3).trans rfl
              have m3 := (blk_cell EN5.out 3).trans rfl
              have x3 := blk_frozen EB.out 3
              have z4 := (blk_cell EB.out 4).trans rfl
              have m4 := (blk_cell EN5.out 4).trans rfl
              have x4 := blk_frozen EB.out 4
              obtain ⟨y0, y1⟩ := YC.out _ BW.out
              go_wp2_with (fail)
              repeat (go_quiet (fail); try go_wp2_with (fail))
              go_roundg (l0.length - (kk + 1))
              case measure => omega
              case rel => exact ⟨kk + 1, f0, f1, f2, true, (-1), si, by omega, by omega, by go_num, by first | rfl | simp, rfl, ⟨fun h => by omega⟩, ⟨by exact (((((pw_below_drewN BW.out _).setCell (p := ⟨B, 0, none⟩) (Nat.le_refl _) _).setCell (p := ⟨B, 1, none⟩) (Nat.le_refl _) _).setCell (p := ⟨B, 2, none⟩) (Nat.le_refl _) _).setCell (p := ⟨B, 3, none⟩) (Nat.le_refl _) _).setCell (p := ⟨B, 4, none⟩) (Nat.le_refl _) _⟩, ⟨by first | exact (blk_set (blk_set (blk_set (blk_set (blk_set EB.out 0 _) 1 _) 2 _) 3 _) 4 _) | exact (blk_set (blk_set (blk_set (blk_set (blk_set (blk_drewN EB.out _) 0 _) 1 _) 2 _) 3 _) 4 _)⟩⟩
            | false =>
              have z0 := (blk_cell EB.out 0).trans rfl
              have m0 := (blk_cell EN5.out 0).trans rfl
              have x0 := blk_frozen EB.out 0
              have z1 := (blk_cell EB.out 1).trans rfl
              have m1 := (blk_cell EN5.out 1).trans rfl
              have x1 := blk_frozen EB.out 1
              have z2 := (blk_cell EB.out 2).trans rfl
              have m2 := (blk_cell EN5.out 2).trans rfl
              have x2 := blk_frozen EB.out 2
              have z3 := (blk_cell EB.out 3).trans rfl
              have m3 := (blk_cell EN5.out 3).trans rfl
              have x3 := blk_frozen EB.out 3
              have z4 := (blk_cell EB.out 4).trans rfl
              have m4 := (blk_cell EN5.out 4).trans rfl
              have x4 := blk_frozen EB.out 4
              obtain ⟨y0, y1⟩ := YC.out _ BW.out
              go_wp2_with (fail)
              repeat (go_quiet (fail); try go_wp2_with (fail))
              go_roundg (l0.length - (kk + 1))
              case measure => omega
              case rel => exact ⟨kk + 1, f0, f1, f2, false, (-1), si, by omega, by omega, by go_num, by first | rfl | simp, rfl, ⟨fun h => by omega⟩, ⟨by exact (((((pw_below_drewN BW.out _).setCell (p := ⟨B, 0, none⟩) (Nat.le_refl _) _).setCell (p := ⟨B, 1, none⟩) (Nat.le_refl _) _).setCell (p := ⟨B, 2, none⟩) (Nat.le_refl _) _).setCell (p := ⟨B, 3, none⟩) (Nat.le_refl _) _).setCell (p := ⟨B, 4, none⟩) (Nat.le_refl _) _⟩, ⟨by first | exact (blk_set (blk_set (blk_set (blk_set (blk_set EB.out 0 _) 1 _) 2 _) 3 _) 4 _) | exact (blk_set (blk_set (blk_set (blk_set (blk_set (blk_drewN EB.out _) 0 _) 1 _) 2 _) 3 _) 4 _)⟩⟩
          rw [if_neg c2] at hU
          replace c2 := Aside0.mk c2
          have q1 : decide (f1 ≤ v) = false := decide_eq_false (by have := c2.out; omega)
          have q1z : ¬ f1 ≤ v := of_decide_eq_false q1
          have w0 : wrap64 0 = 0 := Pure.wrap_id (by omega) (by omega)
          have tt : t - t = 0 := Int.sub_self t
          by_cases c3 : f4 < 0
          · rw [if_pos c3, tt, w0] at hU
            have ql : decide (0 ≤ f4) = false := decide_eq_false (by omega)
            replace c3 := Aside0.mk c3
            by_cases c4 : (0 : Int) ≥ f2
            · rw [if_pos c4] at hU
              simp only [Prod.mk.injEq] at hU; obtain ⟨rfl, rfl, rfl, rfl, rfl, rfl⟩ := hU
              have q3 : decide (0 < f2) = false := decide_eq_false (by omega)
              have q4 : decide (f2 ≤ 0) = true := decide_eq_true (by omega)
              replace c4 := Aside0.mk c4
              cases f3 with
              | true =>
                have z0 := (blk_cell EB.out 0).trans rfl
                have m0 := (blk_cell EN5.out 0).trans rfl
                have x0 := blk_frozen EB.out 0
                have z1 := (blk_cell EB.out 1).trans rfl
                have m1 := (blk_cell EN5.out 1).trans rfl
                have x1 := blk_frozen EB.out 1
                have z2 := (blk_cell EB.out 2).trans rfl
                have m2 := (blk_cell EN5.out 2).trans rfl
                have x2 := blk_frozen EB.out 2
                have z3 := (blk_cell EB.out 3).trans rfl
                have m3 := (blk_cell EN5.out 3).trans rfl
                have x3 := blk_frozen EB.out 3
                have z4 := (blk_cell EB.out 4).trans rfl
                have m4 := (blk_cell EN5.out 4).trans rfl
                have x4 := blk_frozen EB.out 4
                obtain ⟨y0, y1⟩ := YC.out _ BW.out
                go_wp2_with (fail)
                repeat (go_quiet (fail); try go_wp2_with (fail))
                go_roundg (l0.length - (kk + 1))
                case measure => omega
                case rel => exact ⟨kk + 1, f0, f1, f2, false, t, t, by omega, by omega, by go_num, by have := GD.out; simp; omega, rfl, ⟨fun _ => rfl⟩, ⟨by exact (((((pw_below_drewN BW.out _).setCell (p := ⟨B, 0, none⟩) (Nat.le_refl _) _).setCell (p := ⟨B, 1, none⟩) (Nat.le_refl _) _).setCell (p := ⟨B, 2, none⟩) (Nat.le_refl _) _).setCell (p := ⟨B, 3, none⟩) (Nat.le_refl _) _).setCell (p := ⟨B, 4, none⟩) (Nat.le_refl _) _⟩, ⟨by first | exact (blk_set (blk_set (blk_set (blk_set (blk_set EB.out 0 _) 1 _) 2 _) 3 _) 4 _) | exact (blk_set (blk_set (blk_set (blk_set (blk_set (blk_drewN EB.out _) 0 _) 1 _) 2 _) 3 _) 4 _)⟩⟩
              | false =>
                have z0 := (blk_cell EB.out 0).trans rfl
                have m0 := (blk_cell EN5.out 0).trans rfl
                have x0 := blk_frozen EB.out 0
                have z1 := (blk_cell EB.out 1).trans rfl
                have m1 := (blk_cell EN5.out 1).trans rfl
                have x1 := blk_frozen EB.out 1
                have z2 := (blk_cell EB.out 2).trans rfl
                have m2 := (blk_cell EN5.out 2).trans rfl
                have x2 := blk_frozen EB.out 2
                have z3 := (blk_cell EB.out 3).trans rfl
                have m3 := (blk_cell EN5.out 3).trans rfl
                have x3 := blk_frozen EB.out 3
                have z4 := (blk_cell EB.out 4).trans rfl
                have m4 := (blk_cell EN5.out 4).trans rfl
                have x4 := blk_frozen EB.out 4
                obtain ⟨y0, y1⟩ := YC.out _ BW.out
                go_wp2_with (fail)
                repeat (go_quiet (fail); try go_wp2_with (fail))
                go_roundg (l0.length - (kk + 1))
                case measure => omega
                case rel => exact ⟨kk + 1, f0, f1, f2, false, t, t, by omega, by omega, by go_num, by have := GD.out; simp; omega, rfl, ⟨fun _ => rfl⟩, ⟨by exact (((((pw_below_drewN BW.out _).setCell (p := ⟨B, 0, none⟩) (Nat.le_refl _) _).setCell (p := ⟨B, 1, none⟩) (Nat.le_refl _) _).setCell (p := ⟨B, 2, none⟩) (Nat.le_refl _) _).setCell (p := ⟨B, 3, none⟩) (Nat.le_refl _) _).setCell (p := ⟨B, 4, none⟩) (Nat.le_refl _) _⟩, ⟨by first | exact (blk_set (blk_set (blk_set (blk_set (blk_set EB.out 0 _) 1 _) 2 _) 3 _) 4 _) | exact (blk_set (blk_set (blk_set (blk_set (blk_set (blk_drewN EB.out _) 0 _) 1 _) 2 _) 3 _) 4 _)⟩⟩
            · rw [if_neg c4] at hU
              simp only [Prod.mk.injEq] at hU; obtain ⟨rfl, rfl, rfl, rfl, rfl, rfl⟩ := hU
              have q3 : decide (0 < f2) = true := decide_eq_true (by omega)
              have q4 : decide (f2 ≤ 0) = false := decide_eq_false (by omega)
              replace c4 := Aside0.mk c4
              cases f3 with
              | true =>
                have z0 := (blk_cell EB.out 0).trans rfl
                have m0 := (blk_cell EN5.out 0).trans rfl
                have x0 := blk_frozen EB.out 0
                have z1 := (blk_cell EB.out 1).trans rfl
                have m1 := (blk_cell EN5.out 1).trans rfl
                have x1 := blk_frozen EB.out 1
                have z2 := (blk_cell EB.out 2).trans rfl
                have m2 := (blk_cell EN5.out 2).trans rfl
                have x2 := blk_frozen EB.out 2
                have z3 := (blk_cell EB.out 3).trans rfl
                have m3 := (blk_cell EN5.out 3).trans rfl
                have x3 := blk_frozen EB.out 3
                have z4 := (blk_cell EB.out 4).trans rfl
                have m4 := (blk_cell EN5.out 4).trans rfl
                have x4 := blk_frozen EB.out 4
                obtain ⟨y0, y1⟩ := YC.out _ BW.out
                go_wp2_with (fail)
                repeat (go_quiet (fail); try go_wp2_with (fail))
                go_roundg (l0.length - (kk + 1))
                case measure => omega
                case rel => exact ⟨kk + 1, f0, f1, f2, true, t, t, by omega, by omega, by go_num, by have := GD.out; simp; omega, rfl, ⟨fun _ => rfl⟩, ⟨by exact (((((pw_below_drewN BW.out _).setCell (p := ⟨B, 0, none⟩) (Nat.le_refl _) _).setCell (p := ⟨B, 1, none⟩) (Nat.le_refl _) _).setCell (p := ⟨B, 2, none⟩) (Nat.le_refl _) _).setCell (p := ⟨B, 3, none⟩) (Nat.le_refl _) _).setCell (p := ⟨B, 4, none⟩) (Nat.le_refl _) _⟩, ⟨by first | exact (blk_set (blk_set (blk_set (blk_set (blk_set EB.out 0 _) 1 _) 2 _) 3 _) 4 _) | exact (blk_set (blk_set (blk_set (blk_set (blk_set (blk_drewN EB.out _) 0 _) 1 _) 2 _) 3 _) 4 _)⟩⟩
              | false =>
                have z0 := (blk_cell EB.out 0).trans rfl
                have m0 := (blk_cell EN5.out 0).trans rfl
                have x0 := blk_frozen EB.out 0
                have z1 := (blk_cell EB.out 1).trans rfl
                have m1 := (blk_cell EN5.out 1).trans rfl
                have x1 := blk_frozen EB.out 1
                have z2 := (blk_cell EB.out 2).trans rfl
                have m2 := (blk_cell EN5.out 2).trans rfl
                have x2 := blk_frozen EB.out 2
                have z3 := (blk_cell EB.out 3).trans rfl
                have m3 := (blk_cell EN5.out 3).trans rfl
                have x3 := blk_frozen EB.out 3
                have z4 := (blk_cell EB.out 4).trans rfl
                have m4 := (blk_cell EN5.out 4).trans rfl
                have x4 := blk_frozen EB.out 4
                obtain ⟨y0, y1⟩ := YC.out _ BW.out
                go_wp2_with (fail)
                repeat (go_quiet (fail); try go_wp2_with (fail))
                go_roundg (l0.length - (kk + 1))
                case measure => omega
                case rel => exact ⟨kk + 1, f0, f1, f2, false, t, t, by omega, by omega, by go_num, by have := GD.out; simp; omega, rfl, ⟨fun _ => rfl⟩, ⟨by exact (((((pw_below_drewN BW.out _).setCell (p := ⟨B, 0, none⟩) (Nat.le_refl _) _).setCell (p := ⟨B, 1, none⟩) (Nat.le_refl _) _).setCell (p := ⟨B, 2, none⟩) (Nat.le_refl _) _).setCell (p := ⟨B, 3, none⟩) (Nat.le_refl _) _).setCell (p := ⟨B, 4, none⟩) (Nat.le_refl _) _⟩, ⟨by first | exact (blk_set (blk_set (blk_set (blk_set (blk_set EB.out 0 _) 1 _) 2 _) 3 _) 4 _) | exact (blk_set (blk_set (blk_set (blk_set (blk_set (blk_drewN EB.out _) 0 _) 1 _) 2 _) 3 _) 4 _)⟩⟩
          · rw [if_neg c3] at hU
            obtain rfl : si = f4 := SI.out (by omega)
            have ql : decide (0 ≤ si) = true := decide_eq_true (by omega)
            replace c3 := Aside0.mk c3
            have wl : wrap64 (t - si) = t - si := Pure.wrap_id (by have := GD.out; have := c3.out; omega) (by have := GD.out; have := c3.out; omega)
            rw [wl] at hU
            clear tt
            by_cases c4 : t - si ≥ f2
            · rw [if_pos c4] at hU
              simp only [Prod.mk.injEq] at hU; obtain ⟨rfl, rfl, rfl, rfl, rfl, rfl⟩ := hU
              have q3 : decide (t - si < f2) = false := decide_eq_false (by omega)
              have q4 : decide (f2 ≤ t - si) = true := decide_eq_true (by omega)
              replace c4 := Aside0.mk c4
              cases f3 with
              | true =>
                have z0 := (blk_cell EB.out 0).trans rfl
                have m0 := (blk_cell EN5.out 0).trans rfl
                have x0 := blk_frozen EB.out 0
                have z1 := (blk_cell EB.out 1).trans rfl
                have m1 := (blk_cell EN5.out 1).trans rfl
                have x1 := blk_frozen EB.out 1
                have z2 := (blk_cell EB.out 2).trans rfl
                have m2 := (blk_cell EN5.out 2).trans rfl
                have x2 := blk_frozen EB.out 2
                have z3 := (blk_cell EB.out 3).trans rfl
                have m3 := (blk_cell EN5.out 3).trans rfl
                have x3 := blk_frozen EB.out 3
                have z4 := (blk_cell EB.out 4).trans rfl
                have m4 := (blk_cell EN5.out 4).trans rfl
                have x4 := blk_frozen EB.out 4
                obtain ⟨y0, y1⟩ := YC.out _ BW.out
                go_wp2_with (fail)
                repeat (go_quiet (fail); try go_wp2_with (fail))
                go_roundg (l0.length - (kk + 1))
                case measure => omega
                case rel => exact ⟨kk + 1, f0, f1, f2, false, si, si, by omega, by omega, by go_num, by have := c3.out; simp; omega, rfl, ⟨fun _ => rfl⟩, ⟨by exact (((((pw_below_drewN BW.out _).setCell (p := ⟨B, 0, none⟩) (Nat.le_refl _) _).setCell (p := ⟨B, 1, none⟩) (Nat.le_refl _) _).setCell (p := ⟨B, 2, none⟩) (Nat.le_refl _) _).setCell (p := ⟨B, 3, none⟩) (Nat.le_refl _) _).setCell (p := ⟨B, 4, none⟩) (Nat.le_refl _) _⟩, ⟨by first | exact (blk_set (blk_set (blk_set (blk_set (blk_set EB.out 0 _) 1 _) 2 _) 3 _) 4 _) | exact (blk_set (blk_set (blk_set (blk_set (blk_set (blk_drewN EB.out _) 0 _) 1 _) 2 _) 3 _) 4 _)⟩⟩
              | false =>
                have z0 := (blk_cell EB.out 0).trans rfl
                have m0 := (blk_cell EN5.out 0).trans rfl
                have x0 := blk_frozen EB.out 0
                have z1 := (blk_cell EB.out 1).trans rfl
                have m1 := (blk_cell EN5.out 1).trans rfl
                have x1 := blk_frozen EB.out 1
                have z2 := (blk_cell EB.out 2).trans rfl
                have m2 := (blk_cell EN5.out 2).trans rfl
                have x2 := blk_frozen EB.out 2
                have z3 := (blk_cell EB.out 3).trans rfl
                have m3 := (blk_cell EN5.out 3).trans rfl
                have x3 := blk_frozen EB.out 3
                have z4 := (blk_cell EB.out 4).trans rfl
                have m4 := (blk_cell EN5.out 4).trans rfl
                have x4 := blk_frozen EB.out 4
                obtain ⟨y0, y1⟩ := YC.out _ BW.out
                go_wp2_with (fail)
                repeat (go_quiet (fail); try go_wp2_with (fail))
                go_roundg (l0.length - (kk + 1))
                case measure => omega
                case rel => exact ⟨kk + 1, f0, f1, f2, false, si, si, by omega, by omega, by go_num, by have := c3.out; simp; omega, rfl, ⟨fun _ => rfl⟩, ⟨by exact (((((pw_below_drewN BW.out _).setCell (p := ⟨B, 0, none⟩) (Nat.le_refl _) _).setCell (p := ⟨B, 1, none⟩) (Nat.le_refl _) _).setCell (p := ⟨B, 2, none⟩) (Nat.le_refl _) _).setCell (p := ⟨B, 3, none⟩) (Nat.le_refl _) _).setCell (p := ⟨B, 4, none⟩) (Nat.le_refl _) _⟩, ⟨by first | exact (blk_set (blk_set (blk_set (blk_set (blk_set EB.out 0 _) 1 _) 2 _) 3 _) 4 _) | exact (blk_set (blk_set (blk_set (blk_set (blk_set (blk_drewN EB.out _) 0 _) 1 _) 2 _) 3 _) 4 _)⟩⟩
            · rw [if_neg c4] at hU
              simp only [Prod.mk.injEq] at hU; obtain ⟨rfl, rfl, rfl, rfl, rfl, rfl⟩ := hU
              have q3 : decide (t - si < f2) = true := decide_eq_true (by omega)
              have q4 : decide (f2 ≤ t - si) = false := decide_eq_false (by omega)
              replace c4 := Aside0.mk c4
              cases f3 with
              | true =>
                have z0 := (blk_cell EB.out 0).trans rfl
                have m0 := (blk_cell EN5.out 0).trans rfl
                have x0 := blk_frozen EB.out 0
                have z1 := (blk_cell EB.out 1).trans rfl
                have m1 := (blk_cell EN5.out 1).trans rfl
                have x1 := blk_frozen EB.out 1
                have z2 := (blk_cell EB.out 2).trans rfl
                have m2 := (blk_cell EN5.out 2).trans rfl
                have x2 := blk_frozen EB.out 2
                have z3 := (blk_cell EB.out 3).trans rfl
                have m3 := (blk_cell EN5.out 3).trans rfl
                have x3 := blk_frozen EB.out 3
                have z4 := (blk_cell EB.out 4).trans rfl
                have m4 := (blk_cell EN5.out 4).trans rfl
                have x4 := blk_frozen EB.out 4
                obtain ⟨y0, y1⟩ := YC.out _ BW.out
                go_wp2_with (fail)
                repeat (go_quiet (fail); try go_wp2_with (fail))
                go_roundg (l0.length - (kk + 1))
                case measure => omega
                case rel => exact ⟨kk + 1, f0, f1, f2, true, si, si, by omega, by omega, by go_num, by have := c3.out; simp; omega, rfl, ⟨fun _ => rfl⟩, ⟨by exact (((((pw_below_drewN BW.out _).setCell (p := ⟨B, 0, none⟩) (Nat.le_refl _) _).setCell (p := ⟨B, 1, none⟩) (Nat.le_refl _) _).setCell (p := ⟨B, 2, none⟩) (Nat.le_refl _) _).setCell (p := ⟨B, 3, none⟩) (Nat.le_refl _) _).setCell (p := ⟨B, 4, none⟩) (Nat.le_refl _) _⟩, ⟨by first | exact (blk_set (blk_set (blk_set (blk_set (blk_set EB.out 0 _) 1 _) 2 _) 3 _) 4 _) | exact (blk_set (blk_set (blk_set (blk_set (blk_set (blk_drewN EB.out _) 0 _) 1 _) 2 _) 3 _) 4 _)⟩⟩
              | false =>
                have z0 := (blk_cell EB.out 0).trans rfl
                have m0 := (blk_cell EN5.out 0).trans rfl
                have x0 := blk_frozen EB.out 0
                have z1 := (blk_cell EB.out 1).trans rfl
                have m1 := (blk_cell EN5.out 1).trans rfl
                have x1 := blk_frozen EB.out 1
                have z2 := (blk_cell EB.out 2).trans rfl
                have m2 := (blk_cell EN5.out 2).trans rfl
                have x2 := blk_frozen EB.out 2
                have z3 := (blk_cell EB.out 3).trans rfl
                have m3 := (blk_cell EN5.out 3).trans rfl
                have x3 := blk_frozen EB.out 3
                have z4 := (blk_cell EB.out 4).trans rfl
                have m4 := (blk_cell EN5.out 4).trans rfl
                have x4 := blk_frozen EB.out 4
                obtain ⟨y0, y1⟩ := YC.out _ BW.out
                go_wp2_with (fail)
                repeat (go_quiet (fail); try go_wp2_with (fail))
                go_roundg (l0.length - (kk + 1))
                case measure => omega
                case rel => exact ⟨kk + 1, f0, f1, f2, false, si, si, by omega, by omega, by go_num, by have := c3.out; simp; omega, rfl, ⟨fun _ => rfl⟩, ⟨by exact (((((pw_below_drewN BW.out _).setCell (p := ⟨B, 0, none⟩) (Nat.le_refl _) _).setCell (p := ⟨B, 1, none⟩) (Nat.le_refl _) _).setCell (p := ⟨B, 2, none⟩) (Nat.le_refl _) _).setCell (p := ⟨B, 3, none⟩) (Nat.le_refl _) _).setCell (p := ⟨B, 4, none⟩) (Nat.le_refl _) _⟩, ⟨by first | exact (blk_set (blk_set (blk_set (blk_set (blk_set EB.out 0 _) 1 _) 2 _) 3 _) 4 _) | exact (blk_set (blk_set (blk_set (blk_set (blk_set (blk_drewN EB.out _) 0 _) 1 _) 2 _) 3 _) 4 _)⟩⟩
      · have h100z : ¬ (kk : Int) < 100 := by omega
        have d2 : decide (kk < 100) = false := decide_eq_false h100
        go_wp2_with (fail)
        go_ret
        exact ⟨rfl, by rw [HBw.out]; exact BW.out⟩
    · have hltz : ¬ (kk : Int) < (l0.length : Int) := by omega
      have d1 : decide (kk < l0.length) = false := decide_eq_false hlt
      go_wp2_with (fail)
      go_ret
      exact ⟨rfl, by rw [HBw.out]; exact BW.out⟩
/-! ### skiarealaw12_WeatherHolds: function 8 -/
def skiarealaw12_WeatherHolds.f (a0_0 : Int) (a0_1 : Int) (a0_2 : Int) (a0_3 : Bool) (a0_4 : Int) (l1 : List S45) : Option Bool := some true
theorem skiarealaw12_WeatherHolds.calls (a0_0 : Int) (a0_1 : Int) (a0_2 : Int) (a0_3 : Bool) (a0_4 : Int) (A1 : Option Addr) (c1 : Nat) (l1 : List S45) (r : Bool) (w : World) (hr1 : Kd.C k45 w A1 l1.length l1) (hc1 : l1.length ≤ c1) (h : skiarealaw12_WeatherHolds.f a0_0 a0_1 a0_2 a0_3 a0_4 l1 = some r) :
    Calls Try.prog 8 #[.agg #[.int .i64 a0_0, .int .i64 a0_1, .int .i64 a0_2, .bool a0_3, .int .i64 a0_4], .slice A1 l1.length c1] w fun e w' => e = .returned (.bool r) ∧ Below w.heap.size w w' := by
  obtain rfl := Option.some.inj h
  exact holds_calls a0_0 a0_1 a0_2 a0_3 a0_4 A1 c1 l1 w hr1 hc1
end Go.Proofs.Ythndidjhdijpnaa.P
