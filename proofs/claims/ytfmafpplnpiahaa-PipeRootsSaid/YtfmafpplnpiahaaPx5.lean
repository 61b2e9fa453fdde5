-- Printed for this claim by a program of the session, out of Lean's own print of the translation.
import Derived.Test.YtfmafpplnpiahaaPx0
import Derived.Test.YtfmafpplnpiahaaPx4
namespace Go.Proofs.Ytfmafpplnpiahaa.P
open Go.RowKit Go.Proofs.YtfmafpplnpiahaaW.PrintWords Go.Proofs.YtfmafpplnpiahaaW.PrintLast Go.Proofs.YtfmafpplnpiahaaW.PrintMore
attribute [local go_sem] max2_int min2_int max_two min_two max_three min_three max_four min_four   -- for this text's walks alone
set_option linter.unusedVariables false
set_option linter.unusedSimpArgs false

/-! ### pipe_Flows: function 15 -/
def addAll : List Int → Int → List Int → Option (List Int)
  | out, _, [] => some out
  | out, fl, i :: is => if 0 ≤ i then (if i < (out.length : Int) then addAll (out.set i.toNat (wrap64 (rd out i + fl))) fl is else none) else none
def flowsGo (k : Nat) (l : List S45) : List Int → List S42 → Option (List Int)
  | out, [] => some out
  | out, d :: t => if d.f1 = 0 then flowsGo k l out t else (pipe_way.f k l d.f0).bind fun ps => (addAll out d.f1 ps.1).bind fun o2 => flowsGo k l o2 t
theorem flowsGo_at (k : Nat) (l : List S45) (out : List Int) (ds : List S42) (j : Nat) (h : j < ds.length) : flowsGo k l out (ds.drop j) =
    if (rd_T42 ds (j : Int)).f1 = 0 then flowsGo k l out (ds.drop (j + 1)) else (pipe_way.f k l (rd_T42 ds (j : Int)).f0).bind fun ps => (addAll out (rd_T42 ds (j : Int)).f1 ps.1).bind fun o2 => flowsGo k l o2 (ds.drop (j + 1)) := by
  rw [List.drop_eq_getElem_cons h]
  have e : rd_T42 ds (j : Int) = ds[j] := by simp [rd_T42, List.getD_eq_getElem?_getD, List.getElem?_eq_getElem h]
  rw [e]
  rfl
theorem addAll_at (out : List Int) (fl : Int) (ps : List Int) (j : Nat) (h : j < ps.length) : addAll out fl (ps.drop j) =
    if 0 ≤ rd ps (j : Int) then (if rd ps (j : Int) < (out.length : Int) then addAll (out.set (rd ps (j : Int)).toNat (wrap64 (rd out (rd ps (j : Int)) + fl))) fl (ps.drop (j + 1)) else none) else none := by
  rw [List.drop_eq_getElem_cons h]
  have e : rd ps (j : Int) = ps[j] := by simp [rd, List.getD_eq_getElem?_getD, List.getElem?_eq_getElem h]
  rw [e]
  rfl

theorem add_lit (g g1 g2 n cap : Nat) (xs : List Int) (i flow : Int) (W : World)
    (hx : W.cell? ⟨g, i.toNat, none⟩ = some (.int .i64 (rd xs i))) (hf : W.frozen? ⟨g, i.toNat, none⟩ = false)
    (h1 : W.cell? ⟨g1, 0, none⟩ = some (.slice (some ⟨g, 0, none⟩) n cap)) (hd : W.cell? ⟨g2, 1, none⟩ = some (.int .i64 flow)) (h0 : 0 ≤ i) (hn : i < n) :
    Calls Try.prog 31 #[.int .i64 i, .pointer (some ⟨g1, 0, none⟩), .pointer (some ⟨g2, 0, none⟩)] W fun e w' => e = .returned (.tuple #[]) ∧ w' = (W.setCell ⟨g, i.toNat, none⟩ (.int .i64 (wrap64 (rd xs i + flow)))).drew := by
  have hu42 := Try.underlying42
  go_enter Try.func31, Try.ntmps31
  go_region
  all_goals
    go_end0
    exact ⟨rfl, rfl⟩

/-- what the inner loop of Flows keeps -/
structure FI (w W : World) (g g1 g2 n cap : Nat) (nd fl : Int) (A : Option Addr) (ps xs : List Int) : Prop where
  row : Kd.R (Kd.int .i64) 3 W w.heap.size (fun k => k ≠ g1) (.slice (some ⟨g, 0, none⟩) n cap) xs
  box : W.heap[g1]? = some (.cells #[.slice (some ⟨g, 0, none⟩) n cap] 30 (0, 0))
  dc : W.heap[g2]? = some (.cells #[.int .i64 nd, .int .i64 fl] 42 (0, 0))
  hps : Kd.C (Kd.int .i64) W A ps.length ps
  pne : ∀ ad, A = some ad → 0 < ps.length → ad.block ≠ g
  bel : Below w.heap.size w W
theorem FI.ne {w W : World} {g g1 g2 n cap : Nat} {nd fl : Int} {A : Option Addr} {ps xs : List Int} (h : FI w W g g1 g2 n cap nd fl A ps xs) : g ≠ g1 := h.row.1 g rfl
theorem FI.len {w W : World} {g g1 g2 n cap : Nat} {nd fl : Int} {A : Option Addr} {ps xs : List Int} (h : FI w W g g1 g2 n cap nd fl A ps xs) : n = xs.length := (Kd.R_reads' h.row).1
theorem FI.ge {w W : World} {g g1 g2 n cap : Nat} {nd fl : Int} {A : Option Addr} {ps xs : List Int} (h : FI w W g g1 g2 n cap nd fl A ps xs) : w.heap.size ≤ g := by
  obtain ⟨inner, ho⟩ := Kd.R_own h.row
  exact own_base ho g rfl
theorem FI.ne2 {w W : World} {g g1 g2 n cap : Nat} {nd fl : Int} {A : Option Addr} {ps xs : List Int} (h : FI w W g g1 g2 n cap nd fl A ps xs) : g ≠ g2 := by
  obtain ⟨inner, ho⟩ := Kd.R_own h.row
  obtain ⟨cells, hc⟩ := own_typed ho g rfl
  exact blk_ne hc h.dc (by decide)
theorem FI.step {w W : World} {g g1 g2 n cap : Nat} {nd fl : Int} {A : Option Addr} {ps xs : List Int} (h : FI w W g g1 g2 n cap nd fl A ps xs) (i v : Int) :
    FI w (W.setCell ⟨g, i.toNat, none⟩ (.int .i64 v)).drew g g1 g2 n cap nd fl A ps (xs.set i.toNat v) where
  row := Kd.R_drew (Kd.R_putn h.row i v)
  box := blk_drew (blk_far h.box (p := ⟨g, i.toNat, none⟩) (fun e => h.ne e.symm) _)
  dc := blk_drew (blk_far h.dc (p := ⟨g, i.toNat, none⟩) (fun e => h.ne2 e.symm) _)
  hps := Kd.C_drew (Kd.C_keep (0 : Int) h.hps ((KeepBut.refl W g none).set_ i.toNat (.int .i64 v)) h.pne)
  pne := h.pne
  bel := below_drew (h.bel.setCell (p := ⟨g, i.toNat, none⟩) h.ge _)

theorem flows_open {W : World} {base : Nat} {ok : Nat → Prop} {v : Value} {xs : List Int} {n : Nat} (h : Kd.R (Kd.int .i64) 3 W base ok v xs) (hn : xs.length = n) (hb : ∃ b, v.ownBlock = some b ∧ base ≤ b) : ∃ g cap, v = .slice (some ⟨g, 0, none⟩) n cap := by
  subst hn
  obtain ⟨inner, ho⟩ := Kd.R_own h
  rcases ho.2 with ⟨rfl, _⟩ | ⟨g, cap, cur, rfl, _⟩
  · obtain ⟨b, hb, _⟩ := hb
    simp [Value.ownBlock] at hb
  · exact ⟨g, cap, rfl⟩

theorem below_alloc_of {B : Nat} {w W : World} (h : Below B w W) (o : Obj) (hB : B ≤ W.heap.size) : Below B w (W.alloc o) := h.alloc hB o
def pipe_Flows.f (k : Nat) (l0 : List S45) (l1 : List S42) : Option (List Int) := if l0.length ≤ 35184372088832 then flowsGo k l0 (List.replicate l0.length 0) l1 else none

set_option maxHeartbeats 8000000 in
set_option maxRecDepth 100000 in
theorem pipe_Flows.calls (k : Nat) (A0 : Option Addr) (c0 : Nat) (l0 : List S45) (A1 : Option Addr) (c1 : Nat) (l1 : List S42) (r : List Int) (w : World) (hr0 : Kd.C k45 w A0 l0.length l0) (hc0 : l0.length ≤ c0) (hr1 : Kd.C k42 w A1 l1.length l1) (hc1 : l1.length ≤ c1) (h : pipe_Flows.f k l0 l1 = some r) :
    Calls Try.prog 15 #[.slice A0 l0.length c0, .slice A1 l1.length c1] w fun e w' => ∃ v0_ : Value, e = .returned (v0_) ∧ Kd.R (Kd.int .i64) 3 w' w.heap.size (fun _ => True) v0_ r ∧ Below w.heap.size w w' := by
  have hu45 := Try.underlying45
  have hu42 := Try.underlying42
  have HR0 := Aside0.mk hr0
  have HR1 := Aside0.mk hr1
  have HC0 := Aside0.mk hc0
  have hn1 := hr1.2.1
  clear hr0 hr1 hc0 hc1
  have hlen : l0.length ≤ 35184372088832 := by
    unfold pipe_Flows.f at h
    split at h
    · assumption
    · exact absurd h (by simp)
  have H : Aside0 (flowsGo k l0 (List.replicate l0.length 0) (l1.drop 0) = some r) := ⟨by unfold pipe_Flows.f at h; rw [if_pos hlen] at h; exact h⟩
  clear h
  have hlenI : (0 : Int) ≤ (l0.length : Int) := by omega
  go_enter Try.func15, Try.ntmps15
  go_wp2_with ((with_reducible refine gate_dst (N := 15) rfl ?_); refine Kd.R_make (Kd.int .i64) w.heap.size 3 rfl (N := 15) rfl 30 _ _ rfl (l0.length : Int) rfl rfl Try.underlying30 (.int .i64 0) 8 info3 rfl (by decide) (by omega) 0 (ok := fun _ => True) (okp := fun _ => True) rfl (fun _ hk => hk) trivial hlenI (by simp; omega) (Below.refl _ w) (Nat.le_refl _) ?_; intro v1 w1 ho1 hb1 hg1 hn1'; simp only [Int.toNat_natCast] at ho1; obtain ⟨g, cap, rfl⟩ := flows_open ho1 (List.length_replicate (n := l0.length)) hn1'; have HO1 := Aside0.mk ho1; have HB1 := Aside0.mk hb1; clear ho1 hb1 hg1 hn1')
  go_loopg [18] l1.length (fun gg s18 wr => ∃ (j : Nat) (xs : List Int), j ≤ l1.length ∧ l1.length - j ≤ gg ∧ s18 = .int .i64 j ∧ Aside0 (flowsGo k l0 xs (l1.drop j) = some r) ∧ Aside0 (Kd.R (Kd.int .i64) 3 wr w.heap.size (fun k_ => k_ ≠ w1.heap.size) (.slice (some ⟨g, 0, none⟩) l0.length cap) xs) ∧ Aside0 (wr.heap[w1.heap.size]? = some (.cells #[.slice (some ⟨g, 0, none⟩) l0.length cap] 30 (0, 0))) ∧ Aside0 (Below w.heap.size w wr))
  case atStart => exact ⟨0, _, Nat.zero_le _, by omega, rfl, H, ⟨Kd.R_alloc (Kd.R_mono (Kd.R_elderB HO1.out w1.heap.size (Nat.le_refl _)) (fun _ hk => hk.2)) _⟩, ⟨blk_new _ _⟩, ⟨HB1.out.alloc HB1.out.size _⟩⟩
  case round =>
    clear H HO1 HB1
    obtain ⟨j, xs, hj, hg, rfl, H, RO, BX, BW⟩ := hrel
    by_cases hlt : j < l1.length
    · have hltz : (j : Int) < (l1.length : Int) := by omega
      have d1 : decide (j < l1.length) = true := decide_eq_true hlt
      obtain ⟨ad1, e1, h0, h1⟩ := at_T42 HR1.out (j : Int) (by omega) hltz
      cases e1
      simp only [Int.toNat_natCast] at h0 h1
      replace h0 := (BW.out.cell (World.block_lt_of_cell? w _ h0)).trans h0
      replace h1 := (BW.out.cell (World.block_lt_of_cell? w _ h1)).trans h1
      rw [flowsGo_at k l0 xs l1 j hlt] at H
      generalize rd_T42 l1 (j : Int) = d at *
      by_cases hz : d.f1 = 0
      · have z1 : (d.f1 == 0) = true := by simp [hz]
        have H2 := Aside0.mk ((if_pos hz).symm.trans H.out)
        clear H hz
        go_wp2
        go_roundg (l1.length - (j + 1))
        case measure => omega
        case rel => exact ⟨j + 1, xs, by omega, by omega, by go_num, H2, ⟨Kd.R_alloc RO.out _⟩, ⟨blk_alloc BX.out _⟩, ⟨below_alloc BW.out _⟩⟩
      · have z1 : (d.f1 == 0) = false := by simp [hz]
        have H2 := (if_neg hz).symm.trans H.out
        clear H hz
        obtain ⟨⟨ps, okb⟩, hps, H3⟩ := Option.bind_eq_some_iff.1 H2
        obtain ⟨o2, ho2, H4⟩ := Option.bind_eq_some_iff.1 H3
        have HPS := Aside0.mk hps
        have HO2 := Aside0.mk ho2
        have HN := Aside0.mk H4
        clear H2 H3 H4 hps ho2
        have HCW : Aside0 (Kd.C k45 (wr.alloc (.cells #[.int .i64 d.f0, .int .i64 d.f1] 42)) A0 l0.length l0) := ⟨Kd.C_alloc (Kd.C_below HR0.out BW.out) _⟩
        go_wp2_with (go_at_call 32; refine (pipe_way.calls k A0 c0 l0 d.f0 ps okb _ HCW.out HC0.out HPS.out).mono ?_; rintro e w2 ⟨v0, rfl, hR, hB⟩; obtain ⟨A, c, rfl, hlc, hC⟩ := Kd.R_reads hR; have HR2 := Aside0.mk hR; have HB2 := Aside0.mk hB; have HC2 := Aside0.mk hC; clear hR hB hC hlc)
        have hpl : ps.length ≤ 9223372036854775807 := HC2.out.2.1
        have FI0 : Aside0 (FI w w2 g w1.heap.size wr.heap.size l0.length cap d.f0 d.f1 A ps xs) := ⟨{
          row := Kd.R_below (Kd.R_alloc RO.out _) HB2.out
          box := blk_below (blk_alloc BX.out _) HB2.out
          dc := blk_below (blk_new wr _) HB2.out
          hps := HC2.out
          pne := by
            intro ad hA _ he
            obtain ⟨inner, ho⟩ := Kd.R_own HR2.out
            have h1 := own_base ho ad.block (by rw [hA]; rfl)
            have h2 := Kd.R_lt RO.out g rfl
            simp at h1
            omega
          bel := below_then (below_alloc BW.out _) (below_alloc BW.out _).size HB2.out }⟩
        clear HCW HR2 HC2 HB2 RO BX BW
        generalize wr.heap.size = g2 at *
        have HO3 : Aside0 (addAll xs d.f1 (ps.drop 0) = some o2) := HO2
        clear HO2
        go_loopg [12, 35] ps.length (fun gg _ s35 wr2 => ∃ (i : Nat) (xs2 : List Int), i ≤ ps.length ∧ ps.length - i ≤ gg ∧ s35 = .int .i64 i ∧ Aside0 (addAll xs2 d.f1 (ps.drop i) = some o2) ∧ Aside0 (FI w wr2 g w1.heap.size g2 l0.length cap d.f0 d.f1 A ps xs2))
        case atStart => exact ⟨0, xs, Nat.zero_le _, by omega, rfl, HO3, FI0⟩
        case round =>
          clear HO3 FI0
          obtain ⟨i, xs2, hi, hgi, rfl, HA, FI1⟩ := hrel
          by_cases hlti : i < ps.length
          · have hltzi : (i : Int) < (ps.length : Int) := by omega
            have d2 : decide (i < ps.length) = true := decide_eq_true hlti
            obtain ⟨ad2, e2, hp0⟩ := Kd.at_int FI1.out.hps (i : Int) (by omega) hltzi
            cases e2
            simp only [Int.toNat_natCast] at hp0
            rw [addAll_at _ _ _ _ hlti] at HA
            generalize rd ps (i : Int) = y at *
            by_cases hy0 : 0 ≤ y
            · by_cases hy1 : y < (xs2.length : Int)
              · have HA2 := Aside0.mk ((if_pos hy1).symm.trans ((if_pos hy0).symm.trans HA.out))
                clear HA
                have hlen2 := FI1.out.len
                have hy2 : y < (l0.length : Int) := by omega
                obtain ⟨hx, hf⟩ := Kd.R_celln 0 FI1.out.row y hy0 hy2
                have ADD := Aside0.mk (add_lit g w1.heap.size g2 l0.length cap xs2 y d.f1 wr hx hf ((blk_cell FI1.out.box 0).trans rfl) ((blk_cell FI1.out.dc 1).trans rfl) hy0 hy2)
                have FI2 := Aside0.mk (FI1.out.step y (wrap64 (rd xs2 y + d.f1)))
                clear hx hf hlen2 hy1 hy0 hy2
                go_wp2_with (go_at_call 31; refine ADD.out.mono ?_; rintro e w3 ⟨rfl, rfl⟩)
                go_roundg (ps.length - (i + 1))
                case measure => omega
                case rel => exact ⟨i + 1, _, by omega, by omega, by go_num, HA2, FI2⟩
              · exact absurd HA.out (by rw [if_pos hy0, if_neg hy1]; simp)
            · exact absurd HA.out (by rw [if_neg hy0]; simp)
          · have d2 : decide (i < ps.length) = false := decide_eq_false hlti
            have hxs : xs2 = o2 := by
              have := HA.out
              rw [List.drop_eq_nil_of_le (by omega)] at this
              exact Option.some.inj this
            subst hxs
            clear HA
            go_wp2
            go_roundg (l1.length - (j + 1))
            case measure => omega
            case rel => exact ⟨j + 1, xs2, by omega, by omega, by go_num, HN, ⟨FI1.out.row⟩, ⟨FI1.out.box⟩, ⟨FI1.out.bel⟩⟩
    · have d1 : decide (j < l1.length) = false := decide_eq_false hlt
      have hxs : xs = r := by
        have := H.out
        rw [List.drop_eq_nil_of_le (by omega)] at this
        exact Option.some.inj this
      subst hxs
      have hc := (blk_cell BX.out 0).trans rfl
      go_wp2
      go_ret
      exact ⟨_, rfl, Kd.R_mono RO.out (fun _ _ => trivial), BW.out⟩
theorem pipe_Flows.mono : ∀ a0 a1 k, LeO (pipe_Flows.f k a0 a1) (pipe_Flows.f (k + 1) a0 a1) := by
  intro l ds k
  unfold pipe_Flows.f
  refine LeO.ite ?_ (LeO.none _)
  generalize List.replicate l.length (0 : Int) = out
  induction ds generalizing out with
  | nil => exact LeO.refl _
  | cons d t ih =>
    unfold flowsGo
    refine LeO.ite (ih _) ?_
    refine LeO.bind (pipe_way.mono _ _ _) (fun _ => ?_)
    exact LeO.bind (LeO.refl _) (fun _ => ih _)

end Go.Proofs.Ytfmafpplnpiahaa.P
