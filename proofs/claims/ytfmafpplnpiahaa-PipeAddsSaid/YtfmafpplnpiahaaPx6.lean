-- Printed for this claim by a program of the session, out of Lean's own print of the translation.
import Derived.Test.YtfmafpplnpiahaaPx0
import Derived.Test.YtfmafpplnpiahaaPx4
import Derived.Test.YtfmafpplnpiahaaPx5
namespace Go.Proofs.Ytfmafpplnpiahaa.P
open Go.RowKit Go.Proofs.YtfmafpplnpiahaaW.PrintWords Go.Proofs.YtfmafpplnpiahaaW.PrintLast Go.Proofs.YtfmafpplnpiahaaW.PrintMore
attribute [local go_sem] max2_int min2_int max_two min_two max_three min_three max_four min_four   -- for this text's walks alone
set_option linter.unusedVariables false
set_option linter.unusedSimpArgs false

/-! ### pipe_Pressure: function 17 -/
def presStep (l : List S45) (fl : List Int) (n i : Int) : Int := wrap64 (n - wrap64 ((rd_T45 l i).f4 + wrap64 (Int.tdiv (wrap64 ((rd_T45 l i).f3 * rd fl i)) 1000)))
def presGo (l : List S45) (fl : List Int) : Int → List Int → Option Int
  | n, [] => some n
  | n, i :: is => if 0 ≤ i then (if i < (l.length : Int) then (if i < (fl.length : Int) then presGo l fl (presStep l fl n i) is else none) else none) else none
theorem presGo_at (l : List S45) (fl : List Int) (n : Int) (ps : List Int) (j : Nat) (h : j < ps.length) : presGo l fl n (ps.drop j) =
    if 0 ≤ rd ps (j : Int) then (if rd ps (j : Int) < (l.length : Int) then (if rd ps (j : Int) < (fl.length : Int) then presGo l fl (presStep l fl n (rd ps (j : Int))) (ps.drop (j + 1)) else none) else none) else none := by
  rw [List.drop_eq_getElem_cons h]
  have e : rd ps (j : Int) = ps[j] := by simp [rd, List.getD_eq_getElem?_getD, List.getElem?_eq_getElem h]
  rw [e]
  rfl
def presAt (k : Nat) (l : List S45) (fl : List Int) (root node : Int) : Option (Int × Bool) :=
  (pipe_way.f k l node).bind fun ps => if ps.2 = true then (presGo l fl root ps.1).bind fun n => some (n, true) else some (0, false)

/-- what the function that pressure hands back has captured -/
structure PB (W : World) (b1 b2 b3 : Nat) (A0 : Option Addr) (c0 : Nat) (l : List S45) (root : Int) (Af : Option Addr) (cf : Nat) (fl : List Int) : Prop where
  bl : W.cell? ⟨b1, 0, none⟩ = some (.slice A0 l.length c0)
  br : W.cell? ⟨b2, 0, none⟩ = some (.int .i64 root)
  bf : W.cell? ⟨b3, 0, none⟩ = some (.slice Af fl.length cf)
  cl : Kd.C k45 W A0 l.length l
  cfl : Kd.C (Kd.int .i64) W Af fl.length fl
  hc : l.length ≤ c0
theorem PB.below {W W' : World} {b1 b2 b3 : Nat} {A0 : Option Addr} {c0 : Nat} {l : List S45} {root : Int} {Af : Option Addr} {cf : Nat} {fl : List Int} (h : PB W b1 b2 b3 A0 c0 l root Af cf fl) (hb : Below W.heap.size W W') : PB W' b1 b2 b3 A0 c0 l root Af cf fl :=
  ⟨pw_cell_below hb h.bl, pw_cell_below hb h.br, pw_cell_below hb h.bf, Kd.C_below h.cl hb, Kd.C_below h.cfl hb, h.hc⟩

set_option maxHeartbeats 8000000 in
set_option maxRecDepth 100000 in
theorem pres_lit (k : Nat) (b1 b2 b3 : Nat) (A0 : Option Addr) (c0 : Nat) (l0 : List S45) (root node : Int) (Af : Option Addr) (cf : Nat) (fl : List Int) (r1 : Int) (r2 : Bool) (w : World) (hP : PB w b1 b2 b3 A0 c0 l0 root Af cf fl) (h : presAt k l0 fl root node = some (r1, r2)) :
    Calls Try.prog 38 #[.int .i64 node, .pointer (some ⟨b1, 0, none⟩), .pointer (some ⟨b2, 0, none⟩), .pointer (some ⟨b3, 0, none⟩)] w fun e w' => e = .returned (.tuple #[.int .i64 r1, .bool r2]) ∧ Below w.heap.size w w' := by
  have hu45 := Try.underlying45
  obtain ⟨⟨ps, okb⟩, hps, h2⟩ := Option.bind_eq_some_iff.1 h
  have HPB := Aside0.mk hP
  have HPS := Aside0.mk hps
  have hbl := hP.bl
  have hbr := hP.br
  clear hP hps h
  cases okb with
  | false =>
    have h3 : ((0 : Int), false) = (r1, r2) := by simpa using h2
    injection h3 with e1 e2
    subst e1
    subst e2
    clear h2
    go_enter Try.func38, Try.ntmps38
    go_wp2_with (go_at_call 32; refine (pipe_way.calls k A0 c0 l0 node ps false _ HPB.out.cl HPB.out.hc HPS.out).mono ?_; rintro e w2 ⟨v0, rfl, hR, hB⟩; obtain ⟨A, c, rfl, hlc, hC⟩ := Kd.R_reads hR; have HB2 := Aside0.mk hB; have HC2 := Aside0.mk hC; clear hR hB hC hlc)
    go_ret2
    exact ⟨rfl, HB2.out⟩
  | true =>
    obtain ⟨n, hn, h3⟩ := Option.bind_eq_some_iff.1 (show (presGo l0 fl root ps).bind (fun n => some (n, true)) = some (r1, r2) from by simpa using h2)
    have h4 : (n, true) = (r1, r2) := Option.some.inj h3
    injection h4 with e1 e2
    subst e1
    subst e2
    clear h2 h3
    have HG : Aside0 (presGo l0 fl root (ps.drop 0) = some n) := ⟨hn⟩
    clear hn
    go_enter Try.func38, Try.ntmps38
    go_wp2_with (go_at_call 32; refine (pipe_way.calls k A0 c0 l0 node ps true _ HPB.out.cl HPB.out.hc HPS.out).mono ?_; rintro e w2 ⟨v0, rfl, hR, hB⟩; obtain ⟨A, c, rfl, hlc, hC⟩ := Kd.R_reads hR; have HB2 := Aside0.mk hB; have HC2 := Aside0.mk hC; have hbr2 := pw_cell_below hB hbr; clear hR hB hC hlc)
    have hpl : ps.length ≤ 9223372036854775807 := HC2.out.2.1
    clear hbl hbr hbr2
    go_loopg [9, 11, 23] ps.length (fun gg s9 _ s23 wr => ∃ (i : Nat) (m : Int), i ≤ ps.length ∧ ps.length - i ≤ gg ∧ s9 = .int .i64 m ∧ s23 = .int .i64 i ∧ Aside0 (presGo l0 fl m (ps.drop i) = some n) ∧ Aside0 (Below w2.heap.size w2 wr))
    case atStart => exact ⟨0, root, Nat.zero_le _, by omega, rfl, rfl, HG, ⟨Below.refl _ _⟩⟩
    case round =>
      clear HG
      obtain ⟨i, m, hi, hg, rfl, rfl, HG, BW⟩ := hrel
      by_cases hlt : i < ps.length
      · have hltz : (i : Int) < (ps.length : Int) := by omega
        have d1 : decide (i < ps.length) = true := decide_eq_true hlt
        have PW := (HPB.out.below HB2.out).below BW.out
        obtain ⟨ad1, e1, hp0⟩ := Kd.at_int (Kd.C_below HC2.out BW.out) (i : Int) (by omega) hltz
        cases e1
        simp only [Int.toNat_natCast] at hp0
        rw [presGo_at _ _ _ _ _ hlt] at HG
        generalize rd ps (i : Int) = y at *
        by_cases y0 : 0 ≤ y
        · by_cases y1 : y < (l0.length : Int)
          · by_cases y2 : y < (fl.length : Int)
            · have HG2 := Aside0.mk ((if_pos y2).symm.trans ((if_pos y1).symm.trans ((if_pos y0).symm.trans HG.out)))
              clear HG
              obtain ⟨ad2, e2, q0, q1, q2, q3, q4⟩ := at_T45 PW.cl y y0 y1
              cases e2
              obtain ⟨ad3, e3, z0⟩ := Kd.at_int PW.cfl y y0 y2
              cases e3
              have k1 := PW.bl
              have k3 := PW.bf
              clear PW q0 q1 q2
              go_wp2
              go_quiet (fail)
              go_wp2
              go_roundg (ps.length - (i + 1))
              case measure => omega
              case rel => exact ⟨i + 1, _, by omega, by omega, rfl, by go_num, HG2, ⟨pw_below_drewN BW.out _⟩⟩
            · exact absurd HG.out (by rw [if_pos y0, if_pos y1, if_neg y2]; simp)
          · exact absurd HG.out (by rw [if_pos y0, if_neg y1]; simp)
        · exact absurd HG.out (by rw [if_neg y0]; simp)
      · have d1 : decide (i < ps.length) = false := decide_eq_false hlt
        have hm : m = n := by
          have := HG.out
          rw [List.drop_eq_nil_of_le (by omega)] at this
          exact Option.some.inj this
        subst hm
        clear HG
        go_wp2
        go_ret2
        exact ⟨rfl, below_then HB2.out HB2.out.size BW.out⟩

theorem pressure_calls (k : Nat) (A0 : Option Addr) (c0 : Nat) (l0 : List S45) (A1 : Option Addr) (c1 : Nat) (l1 : List S42) (a2 : Int) (fl : List Int) (w : World) (hr0 : Kd.C k45 w A0 l0.length l0) (hc0 : l0.length ≤ c0) (hr1 : Kd.C k42 w A1 l1.length l1) (hc1 : l1.length ≤ c1) (h : pipe_Flows.f k l0 l1 = some fl) :
    Calls Try.prog 34 #[.slice A0 l0.length c0, .slice A1 l1.length c1, .int .i64 a2] w fun e w' => ∃ b1 b2 b3 Af cf, e = .returned (.func (.func 38) #[] #[.pointer (some ⟨b1, 0, none⟩), .pointer (some ⟨b2, 0, none⟩), .pointer (some ⟨b3, 0, none⟩)]) ∧ PB w' b1 b2 b3 A0 c0 l0 a2 Af cf fl ∧ Below w.heap.size w w' := by
  have H := Aside0.mk (fun W hb => pipe_Flows.calls k A0 c0 l0 A1 c1 l1 fl W (Kd.C_below hr0 hb) hc0 (Kd.C_below hr1 hb) hc1 h)
  have HR0 := Aside0.mk hr0
  have HC0 := Aside0.mk hc0
  clear hr0 hr1 h hc0 hc1
  go_enter Try.func34, Try.ntmps34
  go_wp2_with (go_at_call 15; refine (H.out _ (below_alloc (below_alloc (Below.refl _ _) _) _)).mono ?_; rintro e w2 ⟨v0, rfl, hR, hB⟩; obtain ⟨A, c, rfl, hlc, hC⟩ := Kd.R_reads hR; have HB2 := Aside0.mk hB; have HC2 := Aside0.mk hC; clear hR hB hC hlc)
  go_ret
  have hw : Below w.heap.size w w2 := below_then (below_alloc (below_alloc (Below.refl _ _) _) _) (below_alloc (below_alloc (Below.refl _ _) _) _).size HB2.out
  refine ⟨_, _, _, A, c, rfl, ⟨?_, ?_, ?_, Kd.C_alloc (Kd.C_below HR0.out hw) _, Kd.C_alloc HC2.out _, HC0.out⟩, below_alloc hw _⟩
  · exact (blk_cell (blk_alloc (blk_below (blk_alloc (blk_new w (.cells #[.slice A0 l0.length c0] 22)) _) HB2.out) _) 0).trans rfl
  · have := blk_alloc (blk_below (blk_new (w.alloc (.cells #[.slice A0 l0.length c0] 22)) (.cells #[.int .i64 a2] 3)) HB2.out) (.cells #[.slice A fl.length c] 30)
    simp only [World.size_alloc] at this
    exact (blk_cell this 0).trans rfl
  · exact (blk_cell (blk_new _ _) 0).trans rfl

def pipe_Pressure.f (k : Nat) (l0 : List S45) (l1 : List S42) (a2 a3 : Int) : Option (Int × Bool) := (pipe_Flows.f k l0 l1).bind fun fl => presAt k l0 fl a2 a3
theorem pipe_Pressure.calls (k : Nat) (A0 : Option Addr) (c0 : Nat) (l0 : List S45) (A1 : Option Addr) (c1 : Nat) (l1 : List S42) (a2 : Int) (a3 : Int) (r1 : Int) (r2 : Bool) (w : World) (hr0 : Kd.C k45 w A0 l0.length l0) (hc0 : l0.length ≤ c0) (hr1 : Kd.C k42 w A1 l1.length l1) (hc1 : l1.length ≤ c1) (h : pipe_Pressure.f k l0 l1 a2 a3 = some (r1, r2)) :
    Calls Try.prog 17 #[.slice A0 l0.length c0, .slice A1 l1.length c1, .int .i64 a2, .int .i64 a3] w fun e w' => e = .returned (.tuple #[.int .i64 r1, .bool r2]) ∧ Below w.heap.size w w' := by
  obtain ⟨fl, hfl, h2⟩ := Option.bind_eq_some_iff.1 h
  have H := Aside0.mk (pressure_calls k A0 c0 l0 A1 c1 l1 a2 fl w hr0 hc0 hr1 hc1 hfl)
  have H2 := Aside0.mk h2
  clear hr0 hr1 h hfl hc0 hc1 h2
  go_enter Try.func17, Try.ntmps17
  go_wp2_with (go_at_call 34; refine H.out.mono ?_; rintro e w2 ⟨b1, b2, b3, Af, cf, rfl, hP, hB⟩; have HB2 := Aside0.mk hB; have HP := Aside0.mk hP; clear hB hP)
  refine (pres_lit k b1 b2 b3 A0 c0 l0 a2 a3 Af cf fl r1 r2 w2 HP.out H2.out).mono ?_
  rintro e w3 ⟨rfl, hB⟩
  have HB3 := Aside0.mk (below_then HB2.out HB2.out.size hB)
  clear hB
  go_wp2
  go_ret2
  exact ⟨rfl, HB3.out⟩
theorem presGo_mono (l : List S45) (fl : List Int) (n : Int) (ps : List Int) : LeO (presGo l fl n ps) (presGo l fl n ps) := LeO.refl _
theorem presAt_mono (k : Nat) (l : List S45) (fl : List Int) (root node : Int) : LeO (presAt k l fl root node) (presAt (k + 1) l fl root node) := by
  unfold presAt
  exact LeO.bind (pipe_way.mono _ _ _) (fun _ => LeO.refl _)
theorem pipe_Pressure.mono : ∀ a0 a1 a2 a3 k, LeO (pipe_Pressure.f k a0 a1 a2 a3) (pipe_Pressure.f (k + 1) a0 a1 a2 a3) := by
  intro a0 a1 a2 a3 k
  unfold pipe_Pressure.f
  exact LeO.bind (pipe_Flows.mono _ _ _) (fun _ => presAt_mono _ _ _ _ _)


end Go.Proofs.Ytfmafpplnpiahaa.P
