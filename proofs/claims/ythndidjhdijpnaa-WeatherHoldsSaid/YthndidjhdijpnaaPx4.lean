-- Printed for this claim by a program of the session, out of Lean's own print of the translation.
import Derived.Test.YthndidjhdijpnaaPx0
namespace Go.Proofs.Ythndidjhdijpnaa.P
open Go.RowKit Go.Proofs.YthndidjhdijpnaaW.PrintWords Go.Proofs.YthndidjhdijpnaaW.PrintLast Go.Proofs.YthndidjhdijpnaaW.PrintMore
attribute [local go_sem] max2_int min2_int max_two min_two max_three min_three max_four min_four   -- for this text's walks alone
set_option linter.unusedVariables false
set_option linter.unusedSimpArgs false

/-! ### weather_Right: function 12 -/
theorem key_law : Maps.Keyed Try.prog 55 := Maps.Keyed.of_law (deep_law_laid (m := 2) (by kernel_rfl) (by omega) (of_decide_eq_true (by kernel_rfl)) (by kernel_rfl) (by rw [Try.underlying55]))
def kl (a b : Int) : Lit := .string (keyBytes [.int .i64 a, .int .i64 b])
theorem keyOf_place {a b : Int} (wa : (Lit.int .i64 a).wf = true) (wb : (Lit.int .i64 b).wf = true) : keyOf Try.prog 55 (.agg #[.int .i64 a, .int .i64 b]) = some (kl a b) := by
  have hc : Try.prog.cellsOf 55 = 2 := by kernel_rfl
  have hkt : Try.prog.keyType 55 = true := by kernel_rfl
  obtain ⟨m, hm⟩ : ∃ m, Try.prog.types.size = m + 1 := ⟨83, by kernel_rfl⟩
  have h3 : Try.prog.cellsOf 3 = 1 := by kernel_rfl
  unfold keyOf
  simp only [Try.underlying55]
  rw [if_pos (by simp [hkt, Value.formed, Try.underlying55, hc]), hm]
  unfold Program.keyLits
  simp only [Try.underlying55, Value.cells]
  rw [if_pos (by rw [hc]; exact ⟨rfl, by kernel_rfl⟩)]
  simp [h3, Program.keyLits, Try.underlying3, wa, wb, kl]
theorem kl_inj {a b c d : Int} (wa : (Lit.int .i64 a).wf = true) (wb : (Lit.int .i64 b).wf = true) (wc : (Lit.int .i64 c).wf = true) (wd : (Lit.int .i64 d).wf = true) (h : kl a b = kl c d) : a = c ∧ b = d := by
  have := key_law.inj (keyOf_place wa wb) ((keyOf_place wc wd).trans (by rw [h]))
  injection this with h1
  simpa using h1
theorem kl_key (a b : Int) : WideAt.IsKeyLit (kl a b) := trivial
/-- the set of places -/
def PS (xs : List (Int × Int)) : DataW Unit := Maps.setOf (.lit (.bool true)) (xs.map fun p => kl p.1 p.2)
theorem PS_nil : PS [] = .map [] := rfl
theorem PS_snoc (xs : List (Int × Int)) (a b : Int) : PS (xs ++ [(a, b)]) = (PS xs).put (kl a b) (.lit (.bool true)) := by
  unfold PS
  rw [List.map_append, List.map_singleton, Maps.setOf_snoc]
theorem isMap_PS (xs : List (Int × Int)) : Maps.IsMap (PS xs) := (Maps.tidy_setOf _ _ (fun y hy => by obtain ⟨_, _, rfl⟩ := List.mem_map.1 hy; trivial)).isMap
def wfP (p : Int × Int) : Prop := (Lit.int .i64 p.1).wf = true ∧ (Lit.int .i64 p.2).wf = true
theorem PS_at_rev (a b : Int) (hab : wfP (a, b)) : ∀ (ys : List (Int × Int)), (∀ p ∈ ys, wfP p) → (PS ys.reverse).atKey (kl a b) (.lit (.bool false)) = .lit (.bool (ys.any fun p => p.1 == a && p.2 == b))
  | [], _ => rfl
  | (c, d) :: t, h => by
    have ih := PS_at_rev a b hab t (fun p hp => h p (by simp [hp]))
    have hcd := h (c, d) (by simp)
    rw [List.reverse_cons, PS_snoc]
    by_cases e : c = a ∧ d = b
    · obtain ⟨rfl, rfl⟩ := e
      rw [Maps.atKey_put_same (isMap_PS _) (kl_key c d)]
      simp
    · rw [Maps.atKey_put_other (fun e2 => e (kl_inj hcd.1 hcd.2 hab.1 hab.2 e2.symm)), ih]
      have : (c == a && d == b) = false := by
        rw [Bool.and_eq_false_iff]
        rcases Classical.em (c = a) with h1 | h1
        · exact .inr (beq_eq_false_iff_ne.2 (fun h2 => e ⟨h1, h2⟩))
        · exact .inl (beq_eq_false_iff_ne.2 h1)
      simp only [List.any_cons, this, Bool.false_or]
theorem PS_at (a b : Int) (hab : wfP (a, b)) (xs : List (Int × Int)) (h : ∀ p ∈ xs, wfP p) : (PS xs).atKey (kl a b) (.lit (.bool false)) = .lit (.bool (xs.any fun p => p.1 == a && p.2 == b)) := by
  have := PS_at_rev a b hab xs.reverse (fun p hp => h p (by simpa using hp))
  rw [List.reverse_reverse] at this
  rw [this, List.any_reverse]
theorem plainElem_bool_inv {v : Value} {z : DataW Unit × List MemPlace} (h : plainElem Try.prog 4 v = some z) : ∃ x, v = .bool x ∧ z.1 = .lit (.bool x) := by
  unfold plainElem at h
  rw [Try.underlying4] at h
  cases v <;> simp at h
  exact ⟨_, rfl, by rw [← h]⟩
theorem zero4 (w : World) : (zeroValue 4).run Try.prog w = .ok (.bool false) w := by kernel_rfl
abbrev MapIs (W : World) (b n : Nat) (xs : List (Int × Int)) : Prop := W.ownsMap Try.prog 55 (plainElem (H := Unit) Try.prog 4) b n (PS xs)
theorem wpList_lookup_ps {ops : Array Oper} {rest : List Oper} {o : Oper} {a : Act} {Q : Exit → Act → World → Prop} (w : World) (hg : o.guard = none) (m x : Operand) (hop : o.op = Op.lookup 53 m x false)
    (b n : Nat) (xs : List (Int × Int)) (hm : a.eval m = .map (some b)) (hown : MapIs w b n xs) (hwf : ∀ p ∈ xs, wfP p) (p q : Int) (hpq : wfP (p, q)) (hx : a.eval x = .agg #[.int .i64 p, .int .i64 q])
    (hK : wpList Try.prog ops Q rest (a.put o.dst (.bool (xs.any fun y => y.1 == p && y.2 == q))) w) : wpList Try.prog ops Q (o :: rest) a w := by
  refine wpList_plain hg fun K' hK' => ?_
  obtain ⟨v, ps, hrun, hv⟩ := hown.lookup key_law Try.underlying53 (zero4 w) (plainElem_bool Try.underlying4 false) (keyOf_place hpq.1 hpq.2)
  obtain ⟨c, rfl, hc⟩ := plainElem_bool_inv hv
  rw [PS_at p q hpq xs hwf] at hc
  injection hc with hc
  injection hc with hc
  unfold Oper.wp
  simp [execOp, hop, hm, hx, hrun, Result.andThen]
  rw [← hc]
  exact hK' _ _ hK
def inB (n lo hi : Int) : Bool := decide (lo ≤ n) && decide (n ≤ hi)
theorem within_any (n lo hi : Int) (w : World) : Calls Try.prog 28 #[.int .i64 n, .int .i64 lo, .int .i64 hi] w fun e w' => e = .returned (.bool (inB n lo hi)) ∧ w = w' := by
  by_cases h1 : lo ≤ n
  · by_cases h2 : n ≤ hi
    · have e : Aside0 (inB n lo hi = true) := ⟨by simp [inB, h1, h2]⟩
      go_enter Try.func28, Try.ntmps28
      go_wp2
      go_ret
      exact ⟨by rw [e.out]; rfl, rfl⟩
    · have e : Aside0 (inB n lo hi = false) := ⟨by simp [inB, h2]⟩
      go_enter Try.func28, Try.ntmps28
      go_wp2
      go_ret
      exact ⟨by rw [e.out]; rfl, rfl⟩
  · have e : Aside0 (inB n lo hi = false) := ⟨by simp [inB, h1]⟩
    go_enter Try.func28, Try.ntmps28
    go_wp2
    go_ret
    exact ⟨by rw [e.out]; rfl, rfl⟩
def badP (y : S30) : Bool := !inB y.f0 1 9999 || !inB y.f1 0 20000000 || !inB y.f2 0 100000 || !inB y.f3 (-600) 600 || !inB y.f4 0 1000 || !inB y.f5 0 2000
def lateP (l : List S30) (i : Nat) : Bool := decide (0 < i) && decide ((rd_T30 l (i : Int)).f1 < (rd_T30 l ((i - 1 : Nat) : Int)).f1)
def plc (x : S30) : Int × Int := (x.f0, x.f1)
def seenP (l : List S30) (i : Nat) : Bool := ((l.take i).map plc).any fun y => y.1 == (rd_T30 l (i : Int)).f0 && y.2 == (rd_T30 l (i : Int)).f1
def rightGo (l : List S30) : Nat → Nat → Int
  | 0, _ => 0
  | n + 1, i => if badP (rd_T30 l (i : Int)) then 2 else if lateP l i then 11 else if seenP l i then 7 else rightGo l n (i + 1)
def rightP (l : List S30) : Int := if 1000 < l.length then 4 else rightGo l l.length 0
theorem bad_wf {y : S30} (h : badP y = false) : wfP (plc y) := by
  simp [badP, inB] at h
  constructor
  · simp only [plc, Lit.wf, IntKind.min, IntKind.max, IntKind.signed, IntKind.bits]; simp; omega
  · simp only [plc, Lit.wf, IntKind.min, IntKind.max, IntKind.signed, IntKind.bits]; simp; omega
set_option maxHeartbeats 8000000 in
set_option maxRecDepth 100000 in
theorem right_calls (A0 : Option Addr) (c0 : Nat) (l0 : List S30) (w : World) (hr0 : Kd.C k30 w A0 l0.length l0) (hc0 : l0.length ≤ c0) :
    Calls Try.prog 12 #[.slice A0 l0.length c0] w fun e w' => e = .returned (.int .i64 (rightP l0)) ∧ Below w.heap.size w w' := by
  have hu30 := Try.underlying30
  have hu55 := Try.underlying55
  by_cases hbig : 1000 < l0.length
  · have e : Aside0 (rightP l0 = 4) := ⟨by simp [rightP, hbig]⟩
    have hbz : (1000 : Int) < (l0.length : Int) := by omega
    go_enter Try.func12, Try.ntmps12
    go_wp2
    go_ret
    exact ⟨by rw [e.out]; rfl, Below.refl _ _⟩
  have E : Aside0 (rightP l0 = rightGo l0 (l0.length - 0) 0) := ⟨by simp [rightP, hbig]⟩
  have HR0 := Aside0.mk hr0
  clear hr0
  have hmm := @run_makeMap Try.prog
  go_enter Try.func12, Try.ntmps12
  go_wp2
  go_loopg [4, 5, 6, 13, 23, 58, 72] l0.length (fun gg _ _ _ s13 _ _ _ wr => ∃ kk : Nat, kk ≤ l0.length ∧ l0.length - kk ≤ gg ∧ s13 = .int .i64 kk ∧ Aside0 (Below w.heap.size w wr) ∧ Aside0 (MapIs wr w.heap.size kk ((l0.take kk).map plc)) ∧ Aside0 (∀ p ∈ (l0.take kk).map plc, wfP p) ∧ Aside0 (rightP l0 = rightGo l0 (l0.length - kk) kk))
  case atStart => exact ⟨0, Nat.zero_le _, by omega, rfl, ⟨(Below.refl _ w).alloc (Nat.le_refl _) _⟩, ⟨World.ownsMap_made _ _ _ _⟩, ⟨fun p hp => by simp at hp⟩, E⟩
  case round =>
    clear E
    obtain ⟨kk, hkk, hg, rfl, BW, MM, WF, A⟩ := hrel
    by_cases hlt : kk < l0.length
    · have hltz : (kk : Int) < (l0.length : Int) := by omega
      have d1 : decide (kk < l0.length) = true := decide_eq_true hlt
      obtain ⟨ad1, e1, h0, h1, h2, h3, h4, h5⟩ := at_T30 HR0.out (kk : Int) (by omega) hltz
      cases e1
      simp only [Int.toNat_natCast] at h0 h1 h2 h3 h4 h5
      replace h0 := (BW.out.cell (World.block_lt_of_cell? w _ h0)).trans h0
      replace h1 := (BW.out.cell (World.block_lt_of_cell? w _ h1)).trans h1
      replace h2 := (BW.out.cell (World.block_lt_of_cell? w _ h2)).trans h2
      replace h3 := (BW.out.cell (World.block_lt_of_cell? w _ h3)).trans h3
      replace h4 := (BW.out.cell (World.block_lt_of_cell? w _ h4)).trans h4
      replace h5 := (BW.out.cell (World.block_lt_of_cell? w _ h5)).trans h5
      rw [show l0.length - kk = (l0.length - (kk + 1)) + 1 by omega] at A
      have A1 : Aside0 (rightP l0 = if badP (rd_T30 l0 (kk : Int)) then 2 else if lateP l0 kk then 11 else if seenP l0 kk then 7 else rightGo l0 (l0.length - (kk + 1)) (kk + 1)) := ⟨A.out⟩
      clear A
      have LT : Aside0 (lateP l0 kk = (decide (0 < kk) && decide ((rd_T30 l0 (kk : Int)).f1 < (rd_T30 l0 ((kk - 1 : Nat) : Int)).f1))) := ⟨rfl⟩
      have SN : Aside0 (seenP l0 kk = ((l0.take kk).map plc).any fun y => y.1 == (rd_T30 l0 (kk : Int)).f0 && y.2 == (rd_T30 l0 (kk : Int)).f1) := ⟨rfl⟩
      have TK : Aside0 ((l0.take (kk + 1)).map plc = (l0.take kk).map plc ++ [plc (rd_T30 l0 (kk : Int))]) := ⟨by
        rw [List.take_succ_eq_append_getElem hlt, List.map_append]
        simp [rd_T30, List.getD_eq_getElem?_getD, List.getElem?_eq_getElem hlt]⟩
      generalize rd_T30 l0 (kk : Int) = y at *
      have bad : ∀ (hb : badP y = true), rightP l0 = 2 := fun hb => by rw [A1.out]; simp [hb]
      have BAD := Aside0.mk bad
      clear bad
      have HB1 : Aside0 (∀ o1 o2, Below w.heap.size w ((wr.alloc o1).alloc o2)) := ⟨fun o1 o2 => below_alloc (below_alloc BW.out _) _⟩
      cases i0 : inB y.f0 1 9999 with
      | false =>
        have R := Aside0.mk (BAD.out (by simp [badP, i0]))
        clear A1 BAD
        go_wp2_with (go_at_call 28; refine (within_any _ _ _ _).mono ?_; rintro e w' ⟨rfl, rfl⟩)
        go_ret
        exact ⟨by rw [R.out]; rfl, HB1.out _ _⟩
      | true =>
      cases i1 : inB y.f1 0 20000000 with
      | false =>
        have R := Aside0.mk (BAD.out (by simp [badP, i1]))
        clear A1 BAD
        go_wp2_with (go_at_call 28; refine (within_any _ _ _ _).mono ?_; rintro e w' ⟨rfl, rfl⟩)
        go_ret
        exact ⟨by rw [R.out]; rfl, HB1.out _ _⟩
      | true =>
      cases i2 : inB y.f2 0 100000 with
      | false =>
        have R := Aside0.mk (BAD.out (by simp [badP, i2]))
        clear A1 BAD
        go_wp2_with (go_at_call 28; refine (within_any _ _ _ _).mono ?_; rintro e w' ⟨rfl, rfl⟩)
        go_ret
        exact ⟨by rw [R.out]; rfl, HB1.out _ _⟩
      | true =>
      cases i3 : inB y.f3 (-600) 600 with
      | false =>
        have R := Aside0.mk (BAD.out (by simp [badP, i3]))
        clear A1 BAD
        go_wp2_with (go_at_call 28; refine (within_any _ _ _ _).mono ?_; rintro e w' ⟨rfl, rfl⟩)
        go_ret
        exact ⟨by rw [R.out]; rfl, HB1.out _ _⟩
      | true =>
      cases i4 : inB y.f4 0 1000 with
      | false =>
        have R := Aside0.mk (BAD.out (by simp [badP, i4]))
        clear A1 BAD
        go_wp2_with (go_at_call 28; refine (within_any _ _ _ _).mono ?_; rintro e w' ⟨rfl, rfl⟩)
        go_ret
        exact ⟨by rw [R.out]; rfl, HB1.out _ _⟩
      | true =>
      cases i5 : inB y.f5 0 2000 with
      | false =>
        have R := Aside0.mk (BAD.out (by simp [badP, i5]))
        clear A1 BAD
        go_wp2_with (go_at_call 28; refine (within_any _ _ _ _).mono ?_; rintro e w' ⟨rfl, rfl⟩)
        go_ret
        exact ⟨by rw [R.out]; rfl, HB1.out _ _⟩
      | true =>
      have good : badP y = false := by simp [badP, i0, i1, i2, i3, i4, i5]
      have WY := Aside0.mk (bad_wf good)
      have A2 : Aside0 (rightP l0 = if lateP l0 kk then 11 else if seenP l0 kk then 7 else rightGo l0 (l0.length - (kk + 1)) (kk + 1)) := ⟨by rw [A1.out, good]; rfl⟩
      clear A1 BAD good
      have LK : Aside0 (∀ W, MapIs W w.heap.size kk ((l0.take kk).map plc) → MapIs W w.heap.size kk ((l0.take kk).map plc)) := ⟨fun _ h => h⟩
      have LR : Aside0 (rd_T30 l0 ((kk - 1 : Nat) : Int) = rd_T30 l0 ((kk : Int) - 1)) := ⟨by unfold rd_T30; congr 1; omega⟩
      rw [LR.out] at LT
      by_cases hk0 : kk = 0
      · have dk : decide (0 < kk) = false := decide_eq_false (by omega)
        have hkz : ¬ (0 : Int) < (kk : Int) := by omega
        have HL : lateP l0 kk = false := by rw [LT.out, dk]; rfl
        have A3 : Aside0 (rightP l0 = if seenP l0 kk then 7 else rightGo l0 (l0.length - (kk + 1)) (kk + 1)) := ⟨by rw [A2.out, HL]; rfl⟩
        clear A2 HL LT LR
        replace hk0 := Aside0.mk hk0
        cases hs : seenP l0 kk with
        | true => exact absurd hs (by rw [SN.out, hk0.out]; simp)
        | false =>
          have A4 : Aside0 (rightP l0 = rightGo l0 (l0.length - (kk + 1)) (kk + 1)) := ⟨by rw [A3.out, hs]; rfl⟩
          clear A3
          have hsn := SN.out.symm.trans hs
          clear hs SN
          go_wp2_with (go_at_call 28; refine (within_any _ _ _ _).mono ?_; rintro e w' ⟨rfl, rfl⟩)
          go_quiet (fail)
          go_wp2_with (first | (at_lookup; refine wpList_lookup_ps _ rfl _ _ rfl w.heap.size kk _ rfl ((MM.out.alloc _).alloc _) WF.out y.f0 y.f1 WY.out rfl ?_; rw [hsn]) | (at_mapUpdate; refine wpList_mapUpdate_own _ rfl _ _ _ 53 rfl 55 4 key_law Try.underlying53 (plainElem (H := Unit) Try.prog 4) w.heap.size kk _ rfl ((MM.out.alloc _).alloc _) (by unfold maxLen; omega) _ _ _ rfl rfl (keyOf_place WY.out.1 WY.out.2) (.lit (.bool true)) [] (plainElem_bool Try.underlying4 true) ?_; intro w1 hown1 hgrow1; have M1 := Aside0.mk hown1; have G1 := Aside0.mk hgrow1; clear hown1 hgrow1))
          go_roundg (l0.length - (kk + 1))
          case measure => omega
          case rel =>
            refine ⟨kk + 1, by omega, by omega, by go_num, ⟨(pw_below_drewN (HB1.out _ _) _).grown G1.out (pw_below_drewN (HB1.out _ _) _).size (fun k e => by cases e; exact Nat.le_refl _)⟩, ⟨?_⟩, ⟨?_⟩, A4⟩
            · have := M1.out
              unfold MapIs
              rw [TK.out, plc, PS_snoc]
              exact this
            · intro p hp
              rw [TK.out] at hp
              rcases List.mem_append.1 hp with h | h
              · exact WF.out p h
              · rw [List.mem_singleton.1 h]; exact WY.out
      · have hkp : 0 < kk := by omega
        have hkz : (0 : Int) < (kk : Int) := by omega
        have dk : decide (0 < kk) = true := decide_eq_true hkp
        have p1 : 0 ≤ (kk : Int) - 1 := by omega
        have p2 : (kk : Int) - 1 < (l0.length : Int) := by omega
        obtain ⟨ad2, e2, _, g1, _, _, _, _⟩ := at_T30 HR0.out ((kk : Int) - 1) p1 p2
        cases e2
        replace g1 := (BW.out.cell (World.block_lt_of_cell? w _ g1)).trans g1
        rw [show ((kk : Int) - 1).toNat = kk - 1 by omega] at g1
        replace g1 := Lib.cell?_alloc_some (.cells #[.int .i64 y.f0, .int .i64 y.f1] 55) (Lib.cell?_alloc_some (.cells #[.int .i64 y.f0, .int .i64 y.f1, .int .i64 y.f2, .int .i64 y.f3, .int .i64 y.f4, .int .i64 y.f5] 30) g1)
        rw [dk, Bool.true_and] at LT
        generalize rd_T30 l0 ((kk : Int) - 1) = z at *
        cases hq : decide (y.f1 < z.f1) with
        | true =>
          have HL : lateP l0 kk = true := by rw [LT.out, hq]
          have R : Aside0 (rightP l0 = 11) := ⟨by rw [A2.out, HL]; rfl⟩
          clear A2 HL LT LR
          go_wp2_with (go_at_call 28; refine (within_any _ _ _ _).mono ?_; rintro e w' ⟨rfl, rfl⟩)
          go_quiet (fail)
          go_wp2
          go_ret
          exact ⟨by rw [R.out]; rfl, pw_below_drewN (HB1.out _ _) _⟩
        | false =>
          have HL : lateP l0 kk = false := by rw [LT.out, hq]
          have A3 : Aside0 (rightP l0 = if seenP l0 kk then 7 else rightGo l0 (l0.length - (kk + 1)) (kk + 1)) := ⟨by rw [A2.out, HL]; rfl⟩
          clear A2 HL LT LR
          cases hs : seenP l0 kk with
          | true =>
            have R : Aside0 (rightP l0 = 7) := ⟨by rw [A3.out, hs]; rfl⟩
            clear A3
            have hsn := SN.out.symm.trans hs
            clear hs SN
            go_wp2_with (go_at_call 28; refine (within_any _ _ _ _).mono ?_; rintro e w' ⟨rfl, rfl⟩)
            go_quiet (fail)
            go_wp2_with (at_lookup; refine wpList_lookup_ps _ rfl _ _ rfl w.heap.size kk _ rfl ((MM.out.alloc _).alloc _) WF.out y.f0 y.f1 WY.out rfl ?_; rw [hsn])
            go_ret
            exact ⟨by rw [R.out]; rfl, pw_below_drewN (HB1.out _ _) _⟩
          | false =>
            have A4 : Aside0 (rightP l0 = rightGo l0 (l0.length - (kk + 1)) (kk + 1)) := ⟨by rw [A3.out, hs]; rfl⟩
            clear A3
            have hsn := SN.out.symm.trans hs
            clear hs SN
            go_wp2_with (go_at_call 28; refine (within_any _ _ _ _).mono ?_; rintro e w' ⟨rfl, rfl⟩)
            go_quiet (fail)
            go_wp2_with (first | (at_lookup; refine wpList_lookup_ps _ rfl _ _ rfl w.heap.size kk _ rfl ((MM.out.alloc _).alloc _) WF.out y.f0 y.f1 WY.out rfl ?_; rw [hsn]) | (at_mapUpdate; refine wpList_mapUpdate_own _ rfl _ _ _ 53 rfl 55 4 key_law Try.underlying53 (plainElem (H := Unit) Try.prog 4) w.heap.size kk _ rfl ((MM.out.alloc _).alloc _) (by unfold maxLen; omega) _ _ _ rfl rfl (keyOf_place WY.out.1 WY.out.2) (.lit (.bool true)) [] (plainElem_bool Try.underlying4 true) ?_; intro w1 hown1 hgrow1; have M1 := Aside0.mk hown1; have G1 := Aside0.mk hgrow1; clear hown1 hgrow1))
            go_roundg (l0.length - (kk + 1))
            case measure => omega
            case rel =>
              refine ⟨kk + 1, by omega, by omega, by go_num, ⟨(pw_below_drewN (HB1.out _ _) _).grown G1.out (pw_below_drewN (HB1.out _ _) _).size (fun k e => by cases e; exact Nat.le_refl _)⟩, ⟨?_⟩, ⟨?_⟩, A4⟩
              · have := M1.out
                unfold MapIs
                rw [TK.out, plc, PS_snoc]
                exact this
              · intro p hp
                rw [TK.out] at hp
                rcases List.mem_append.1 hp with h | h
                · exact WF.out p h
                · rw [List.mem_singleton.1 h]; exact WY.out
    · have d1 : decide (kk < l0.length) = false := decide_eq_false hlt
      have R : Aside0 (rightP l0 = 0) := ⟨by rw [A.out, show l0.length - kk = 0 by omega]; rfl⟩
      clear A
      go_wp2
      go_ret
      exact ⟨by rw [R.out]; rfl, BW.out⟩
def weather_Right.f (l0 : List S30) : Option Int := some (rightP l0)
theorem weather_Right.calls (A0 : Option Addr) (c0 : Nat) (l0 : List S30) (r : Int) (w : World) (hr0 : Kd.C k30 w A0 l0.length l0) (hc0 : l0.length ≤ c0) (h : weather_Right.f l0 = some r) :
    Calls Try.prog 12 #[.slice A0 l0.length c0] w fun e w' => e = .returned (.int .i64 r) ∧ Below w.heap.size w w' := by
  obtain rfl := Option.some.inj h
  exact right_calls A0 c0 l0 w hr0 hc0

end Go.Proofs.Ythndidjhdijpnaa.P
