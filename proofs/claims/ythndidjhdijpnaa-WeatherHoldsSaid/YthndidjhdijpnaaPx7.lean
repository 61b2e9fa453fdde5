-- Printed for this claim by a program of the session, out of Lean's own print of the translation.
import Derived.Test.YthndidjhdijpnaaPx0
import Derived.Test.YthndidjhdijpnaaPx3
import Derived.Test.YthndidjhdijpnaaPx6
namespace Go.Proofs.Ythndidjhdijpnaa.P
open Go.RowKit Go.Proofs.YthndidjhdijpnaaW.PrintWords Go.Proofs.YthndidjhdijpnaaW.PrintLast Go.Proofs.YthndidjhdijpnaaW.PrintMore
attribute [local go_sem] max2_int min2_int max_two min_two max_three min_three max_four min_four   -- for this text's walks alone
set_option linter.unusedVariables false
set_option linter.unusedSimpArgs false

/-! ### weather_of: function 30 -/
theorem encz (n : Nat) : (Builtin.zeroCells (#[.int .i64 0, .int .i64 0, .int .i64 0, .int .i64 0, .int .i64 0, .int .i64 0] : Array Value) n).toList = List.replicate (n * 6) (.int .i64 0) := by
  apply List.ext_getElem
  · simp [Builtin.zeroCells]
  · intro i h1 h2
    simp only [Builtin.zeroCells, Array.toList_map, List.getElem_map, List.getElem_replicate]
    have : ∀ k, k < 6 → (#[.int .i64 0, .int .i64 0, .int .i64 0, .int .i64 0, .int .i64 0, .int .i64 0] : Array Value)[k]! = .int .i64 0 := by
      intro k hk
      match k, hk with
      | 0, _ => rfl
      | 1, _ => rfl
      | 2, _ => rfl
      | 3, _ => rfl
      | 4, _ => rfl
      | 5, _ => rfl
    exact this _ (by simp; exact Nat.mod_lt _ (by decide))
theorem zero30 (w : World) : (zeroValue 30).run Try.prog w = .ok (.agg #[.int .i64 0, .int .i64 0, .int .i64 0, .int .i64 0, .int .i64 0, .int .i64 0]) w := by
  obtain ⟨i0, hi, hz0, -, -⟩ := info_parts info30
  have e : Try.prog.info? 30 = some i0 := hi
  unfold zeroValue
  simp only [typeInfo]
  first
    | (simp only [hi, hz0, go_sem]; done)
    | (go_simp; done)
    | (go_simp; rfl)
theorem run_clear30 (w : World) (ty : TypeId) (b o n c : Nat) (hn : 0 < n)
    (hc : ∀ j, j < n * 6 → (w.cell? ⟨b, o + j, none⟩).isSome = true) (hf : ∀ j, j < n * 6 → w.frozen? ⟨b, o + j, none⟩ = false) :
    (Builtin.clear_ #[22] ty #[.slice (some ⟨b, o, none⟩) n c]).run Try.prog w = .ok (.tuple #[]) (w.setCells b o (List.replicate (n * 6) (.int .i64 0))) := by
  have hst := run_storeCells_cells (P := Try.prog) b o (List.replicate (n * 6) (.int .i64 0)) 0 w (by simpa using hc) (by simpa using hf) (by intro v hv'; rw [List.eq_of_mem_replicate hv']; rfl)
  simp only [Nat.add_zero] at hst
  obtain ⟨m, rfl⟩ : ∃ m, n = m + 1 := ⟨n - 1, by omega⟩
  simp [Builtin.clear_, run_underlying Try.underlying22, zero30, Value.cells, encz, hst]
theorem R_clear {α : Type} {d : Kd α} {e base g n cap : Nat} {ok : Nat → Prop} {W : World} {xs : List α} (h : d.R e W base ok (.slice (some ⟨g, 0, none⟩) n cap) xs) (i : Nat) (hi : i ≤ n) (vs : List Value) (hl : i * d.sz + vs.length ≤ n * d.sz) :
    d.R e (W.setCells g (i * d.sz) vs) base ok (.slice (some ⟨g, 0, none⟩) i cap) (xs.take i) ∧ W.grownBy (W.setCells g (i * d.sz) vs) (some g) := by
  obtain ⟨hn, hnc, _⟩ := Kd.R_reads' h
  obtain ⟨hok, inner, ho, hr⟩ := Kd.R_take h (m := i) (by omega)
  obtain ⟨ho1, ho2⟩ := ho
  have hlen : (xs.take i).length = i := by rw [List.length_take]; omega
  rcases ho2 with ⟨hv, _⟩ | ⟨g', cap', cur, hv, hb, hh, hnc', hcm, hcs, ht⟩
  · cases hv
  injection hv with ha _ hc
  injection ha with ha
  injection ha with hg
  subst hg; subst hc
  rw [hlen] at ht hnc'
  have hfit : i * d.sz + vs.length ≤ cur.size := by
    have : n * d.sz ≤ cap * d.sz := Nat.mul_le_mul_right _ hnc
    omega
  obtain ⟨cur', h3, h4, h5⟩ := setCells_row vs (i * d.sz) W cur hh hfit
  obtain ⟨s1, s2, s3, s4⟩ := setCells_same g vs (i * d.sz) W
  have hfar : ∀ k, k ≠ g → (W.setCells g (i * d.sz) vs).heap[k]? = W.heap[k]? := fun k hk => setCells_far vs _ k hk
  refine ⟨⟨hok, inner, ⟨ho1, .inr ⟨g, cap, cur', by rw [hlen], hb, h3, by rw [hlen]; exact hnc', hcm, by rw [h4, hcs], ?_⟩⟩, ?_⟩, ⟨s1, s2, s3, by rw [s4]; exact Nat.le_refl _, fun k _ hk => hfar k (fun he => hk (by rw [he]))⟩⟩
  · rw [hlen, h5, List.append_assoc, List.take_append_of_le_length (by rw [List.length_take, Array.length_toList]; omega), List.take_take, Nat.min_self]
    exact ht
  · exact hr.imp_ (fun _ _ hp => Kd.M_step hp (fun k hk _ => hfar k (fun he => hk.2 (by rw [he]; rfl))))
/-- what DeleteFunc keeps: i elements kept of the first j -/
structure KI (p : S30 → Bool) (xs : List S30) (i j : Nat) (dk : List S30) : Prop where
  len : dk.length = xs.length
  lt : i < j
  kept : dk.take i = (xs.take j).filter (fun x => !p x)
  rest : dk.drop j = xs.drop j
theorem KI.at_ {p : S30 → Bool} {xs : List S30} {i j : Nat} {dk : List S30} (h : KI p xs i j dk) (hj : j < xs.length) : rd_T30 dk (j : Int) = xs.getD j z30 := by
  have h1 : dk[j]? = xs[j]? := by
    have := congrArg (fun l => l[0]?) h.rest
    simpa using this
  simp [rd_T30, h1]
theorem KI.keep {p : S30 → Bool} {xs : List S30} {i j : Nat} {dk : List S30} (h : KI p xs i j dk) (hj : j < xs.length) (hp : p (xs.getD j z30) = false) : KI p xs (i + 1) (j + 1) (dk.set i (xs.getD j z30)) := by
  have hl := h.len
  have hlt := h.lt
  have e : xs.getD j z30 = xs[j] := by simp [List.getD_eq_getElem?_getD, List.getElem?_eq_getElem hj]
  rw [e] at hp ⊢
  refine ⟨by simpa using hl, by omega, ?_, ?_⟩
  · rw [List.take_succ_eq_append_getElem (by simp; omega), List.take_succ_eq_append_getElem hj, List.filter_append, ← h.kept, List.take_set_of_le (by omega)]
    simp [hp]
  · rw [List.drop_set_of_lt (by omega)]
    have := congrArg (List.drop 1) h.rest
    simpa using this
theorem KI.skip {p : S30 → Bool} {xs : List S30} {i j : Nat} {dk : List S30} (h : KI p xs i j dk) (hj : j < xs.length) (hp : p (xs.getD j z30) = true) : KI p xs i (j + 1) dk := by
  have hlt := h.lt
  have e : xs.getD j z30 = xs[j] := by simp [List.getD_eq_getElem?_getD, List.getElem?_eq_getElem hj]
  rw [e] at hp
  refine ⟨h.len, by omega, ?_, ?_⟩
  · rw [List.take_succ_eq_append_getElem hj, List.filter_append, ← h.kept]
    simp [hp]
  · have := congrArg (List.drop 1) h.rest
    simpa using this
theorem fidx_cases {α : Type} (p : α → Bool) (l : List α) (d : α) : (fidx p l = -1 ∧ ∀ x ∈ l, p x = false) ∨ ∃ i : Nat, i < l.length ∧ fidx p l = i ∧ p (l.getD i d) = true ∧ ∀ x ∈ l.take i, p x = false := by
  unfold fidx
  cases e : l.findIdx? p with
  | none =>
    rw [List.findIdx?_eq_none_iff] at e
    exact .inl ⟨rfl, e⟩
  | some i =>
    obtain ⟨h, hp, hn⟩ := List.findIdx?_eq_some_iff_getElem.1 e
    refine .inr ⟨i, h, rfl, by simpa [List.getD_eq_getElem?_getD, List.getElem?_eq_getElem h] using hp, fun x hx => ?_⟩
    obtain ⟨j, hj, rfl⟩ := List.mem_iff_getElem.1 hx
    have hj' : j < i := by simp at hj; omega
    rw [List.getElem_take]
    simpa using hn j hj'
theorem KI.start {p : S30 → Bool} {xs : List S30} {i : Nat} (hi : i < xs.length) (hp : p (xs.getD i z30) = true) (hn : ∀ x ∈ xs.take i, p x = false) : KI p xs i (i + 1) xs := by
  have e : xs.getD i z30 = xs[i] := by simp [List.getD_eq_getElem?_getD, List.getElem?_eq_getElem hi]
  rw [e] at hp
  refine ⟨rfl, by omega, ?_, rfl⟩
  rw [List.take_succ_eq_append_getElem hi, List.filter_append, List.filter_eq_self.2 (fun x hx => by simp [hn x hx])]
  simp [hp]
theorem below_setCells' {B b : Nat} {a : World} (hb : B ≤ b) : ∀ (vs : List Value) (o : Nat) (w : World), Below B a w → Below B a (w.setCells b o vs)
  | [], _, _, h => h
  | v :: r, o, w, h => below_setCells' hb r (o + 1) _ (h.setCell (p := ⟨b, o, none⟩) hb v)
set_option maxHeartbeats 4000000 in
set_option maxRecDepth 100000 in
theorem deleteFunc_calls (g : Nat) (lb : Array Value) (p : S30 → Bool) (eg : ∀ args w, (callFunc g args).run Try.prog w = .ok (.enter g args) w) (base : Nat) (l0 : List S30) (v : Value) (w : World) (hbw : base ≤ w.heap.size)
    (hp : ∀ (W : World) (x : S30), Below base w W → Calls Try.prog g (#[encP x] ++ lb) W fun e w' => e = .returned (.bool (p x)) ∧ Below W.heap.size W w')
    (hR : Kd.R k30 30 w base (fun _ => True) v l0) :
    Calls Try.prog 34 #[v, .func (.func g) #[] lb] w fun e w' => ∃ v', e = .returned v' ∧ Kd.R k30 30 w' base (fun _ => True) v' (l0.filter fun x => !p x) ∧ Below base w w' := by
  have hu30 := Try.underlying30
  have hu22 := Try.underlying22
  obtain ⟨A, n0, hA, hc0, hC⟩ := Kd.R_reads hR
  subst hA
  have hn := hC.2.1
  have HIF := Aside0.mk (indexFunc_calls g lb p eg A n0 l0 w (fun W x hb => hp W x (hb.mono hbw)) hC)
  have HP := Aside0.mk hp
  have HR := Aside0.mk hR
  have HC0 := Aside0.mk hc0
  clear hp hR hC hc0
  rcases fidx_cases p l0 z30 with ⟨e1, hall⟩ | ⟨i0, hi0, e1, ht, hall⟩
  · have hfil : l0.filter (fun x => !p x) = l0 := List.filter_eq_self.2 (fun x hx => by simp [hall x hx])
    rw [hfil]
    rw [e1] at HIF
    clear hall e1 hfil
    go_enter Try.func34, Try.ntmps34
    go_wp2_with (go_at_call 36; refine HIF.out.mono ?_; rintro e w' ⟨rfl, hb'⟩; have HB' := Aside0.mk hb'; clear hb')
    go_ret
    exact ⟨_, rfl, Kd.R_below HR.out HB'.out, HB'.out.mono hbw⟩
  · rw [e1] at HIF
    have K0 : Aside0 (KI p l0 i0 (i0 + 1) l0) := ⟨KI.start hi0 ht hall⟩
    obtain ⟨gb, cap, ev, hgb, hgw, _⟩ := Kd.R_form HR.out (by omega)
    injection ev with ev1 _ ev3
    subst ev1 ev3
    clear ht hall e1
    have hne1 : ((i0 : Int) == -1) = false := beq_eq_false_iff_ne.2 (by omega)
    have hnc := HC0.out
    go_enter Try.func34, Try.ntmps34
    go_wp2_with (go_at_call 36; refine HIF.out.mono ?_; rintro e w' ⟨rfl, hb'⟩; have HB' := Aside0.mk hb'; clear hb')
    go_loopg [5, 6, 7] l0.length (fun gg s5 s6 _ wr => ∃ (i j : Nat) (dk : List S30), s5 = .int .i64 i ∧ s6 = .int .i64 j ∧ j ≤ l0.length ∧ l0.length - j ≤ gg ∧ Aside0 (KI p l0 i j dk) ∧ Aside0 (Kd.R k30 30 wr base (fun _ => True) (.slice (some ⟨gb, 0, none⟩) l0.length n0) dk) ∧ Aside0 (Below base w wr))
    case atStart => exact ⟨i0, i0 + 1, l0, rfl, by go_num, by omega, by omega, K0, ⟨Kd.R_below HR.out HB'.out⟩, ⟨HB'.out.mono hbw⟩⟩
    case round =>
      clear K0 HIF hne1 HB'
      obtain ⟨i, j, dk, rfl, rfl, hj, hg, KK, RO, BW⟩ := hrel
      have hij := KK.out.lt
      have hdl := KK.out.len
      by_cases hlt : j < l0.length
      · have hltz : (j : Int) < (l0.length : Int) := by omega
        have d1 : decide (j < l0.length) = true := decide_eq_true hlt
        have hiz : (i : Int) < (l0.length : Int) := by omega
        have d2 : decide (i < l0.length) = true := decide_eq_true (by omega)
        obtain ⟨cj, hclj, hMj, hccj, _⟩ := Kd.R_elem RO.out z30 (j : Int) (by omega) hltz
        obtain rfl := k30_openM hMj
        have hat := KK.out.at_ hlt
        simp only [rd_T30, Int.toNat_natCast] at hat hccj
        rw [hat] at hccj
        have HAT := Aside0.mk hat
        have hcall := HP.out
        generalize hy : l0.getD j z30 = y at *
        have HY := Aside0.mk hy
        have j0 : wr.cell? ⟨gb, j * 6, none⟩ = some (.int .i64 y.f0) := hccj 0 _ rfl
        have j1 : wr.cell? ⟨gb, j * 6 + 1, none⟩ = some (.int .i64 y.f1) := hccj 1 _ rfl
        have j2 : wr.cell? ⟨gb, j * 6 + 2, none⟩ = some (.int .i64 y.f2) := hccj 2 _ rfl
        have j3 : wr.cell? ⟨gb, j * 6 + 3, none⟩ = some (.int .i64 y.f3) := hccj 3 _ rfl
        have j4 : wr.cell? ⟨gb, j * 6 + 4, none⟩ = some (.int .i64 y.f4) := hccj 4 _ rfl
        have j5 : wr.cell? ⟨gb, j * 6 + 5, none⟩ = some (.int .i64 y.f5) := hccj 5 _ rfl
        clear hccj hclj hMj hy hat
        have HX : Aside0 (Calls Try.prog g (#[encP y] ++ lb) (wr.alloc (.cells #[.int .i64 y.f0, .int .i64 y.f1, .int .i64 y.f2, .int .i64 y.f3, .int .i64 y.f4, .int .i64 y.f5] 30)) fun e w' => e = .returned (.bool (p y)) ∧ Below (wr.alloc (.cells #[.int .i64 y.f0, .int .i64 y.f1, .int .i64 y.f2, .int .i64 y.f3, .int .i64 y.f4, .int .i64 y.f5] 30)).heap.size (wr.alloc (.cells #[.int .i64 y.f0, .int .i64 y.f1, .int .i64 y.f2, .int .i64 y.f3, .int .i64 y.f4, .int .i64 y.f5] 30)) w') :=
          ⟨hcall _ y (BW.out.alloc (Nat.le_trans hbw BW.out.size) _)⟩
        unfold encP at HX
        clear hcall
        cases hq : p y with
        | true =>
          rw [hq] at HX
          go_wp2_with (go_at_fn g; refine HX.out.mono ?_; rintro e w' ⟨rfl, hb'⟩; have HB' := Aside0.mk hb'; clear hb')
          go_roundg (l0.length - (j + 1))
          case measure => omega
          case rel =>
            refine ⟨i, j + 1, dk, rfl, by go_num, by omega, by omega, ⟨KK.out.skip hlt (by rw [HY.out]; exact hq)⟩, ⟨Kd.R_below (Kd.R_alloc RO.out _) HB'.out⟩, ⟨below_then (BW.out.alloc (Nat.le_trans hbw BW.out.size) _) (by have := BW.out.size; simp; omega) HB'.out⟩⟩
        | false =>
          rw [hq] at HX
          have hgl : gb < wr.heap.size := Nat.lt_of_lt_of_le hgw BW.out.size
          go_wp2_with (go_at_fn g; refine HX.out.mono ?_; rintro e w' ⟨rfl, hb'⟩; have RO2 := Aside0.mk (Kd.R_below (Kd.R_alloc RO.out _) hb'); obtain ⟨ci, hcli, hMi, hcci, hfri⟩ := Kd.R_elem RO2.out z30 (i : Int) (by omega) hiz; simp only [Int.toNat_natCast] at hcci hfri; have SEG := Aside0.mk (Kd.R_seg RO2.out (i : Int) (by omega) hiz (seg := [.int .i64 y.f0, .int .i64 y.f1, .int .i64 y.f2, .int .i64 y.f3, .int .i64 y.f4, .int .i64 y.f5]) (j := 0) hcli (by simpa using hcci) (show 6 ≤ 6 from by decide) (x' := y) (by rw [k30_openM hMi]; exact k30_mkM _ _ _ y) (fun _ hk => hk)); simp only [Int.toNat_natCast] at SEG; obtain rfl := k30_openM hMi; clear hMi hcli; have q0 : World.cell? w' ⟨gb, i * 6, none⟩ = some _ := hcci 0 _ rfl; have q1 : World.cell? w' ⟨gb, i * 6 + 1, none⟩ = some _ := hcci 1 _ rfl; have q2 : World.cell? w' ⟨gb, i * 6 + 2, none⟩ = some _ := hcci 2 _ rfl; have q3 : World.cell? w' ⟨gb, i * 6 + 3, none⟩ = some _ := hcci 3 _ rfl; have q4 : World.cell? w' ⟨gb, i * 6 + 4, none⟩ = some _ := hcci 4 _ rfl; have q5 : World.cell? w' ⟨gb, i * 6 + 5, none⟩ = some _ := hcci 5 _ rfl; have r0 : World.frozen? w' ⟨gb, i * 6, none⟩ = false := hfri 0; have r1 : World.frozen? w' ⟨gb, i * 6 + 1, none⟩ = false := hfri 1; have r2 : World.frozen? w' ⟨gb, i * 6 + 2, none⟩ = false := hfri 2; have r3 : World.frozen? w' ⟨gb, i * 6 + 3, none⟩ = false := hfri 3; have r4 : World.frozen? w' ⟨gb, i * 6 + 4, none⟩ = false := hfri 4; have r5 : World.frozen? w' ⟨gb, i * 6 + 5, none⟩ = false := hfri 5; clear hcci hfri; have hx0 := (hb'.cell (p := ⟨wr.heap.size, 0, none⟩) (by simp)).trans (show _ = some (Value.int .i64 y.f0) from by simp); have hx1 := (hb'.cell (p := ⟨wr.heap.size, 1, none⟩) (by simp)).trans (show _ = some (Value.int .i64 y.f1) from by simp); have hx2 := (hb'.cell (p := ⟨wr.heap.size, 2, none⟩) (by simp)).trans (show _ = some (Value.int .i64 y.f2) from by simp); have hx3 := (hb'.cell (p := ⟨wr.heap.size, 3, none⟩) (by simp)).trans (show _ = some (Value.int .i64 y.f3) from by simp); have hx4 := (hb'.cell (p := ⟨wr.heap.size, 4, none⟩) (by simp)).trans (show _ = some (Value.int .i64 y.f4) from by simp); have hx5 := (hb'.cell (p := ⟨wr.heap.size, 5, none⟩) (by simp)).trans (show _ = some (Value.int .i64 y.f5) from by simp); have HB' := Aside0.mk hb'; clear hb')
          go_roundg (l0.length - (j + 1))
          case measure => omega
          case rel =>
            refine ⟨i + 1, j + 1, dk.set i y, by go_num, by go_num, by omega, by omega, ⟨by have := KK.out.keep hlt (by rw [HY.out]; exact hq); rwa [HY.out] at this⟩, ⟨SEG.out.1⟩, ⟨?_⟩⟩
            have h1 := below_then (BW.out.alloc (Nat.le_trans hbw BW.out.size) (.cells #[.int .i64 y.f0, .int .i64 y.f1, .int .i64 y.f2, .int .i64 y.f3, .int .i64 y.f4, .int .i64 y.f5] 30)) (by have := BW.out.size; simp; omega) HB'.out
            have h2 := (((((h1.setCell (p := ⟨gb, i * 6, none⟩) hgb (.int .i64 y.f0)).setCell (p := ⟨gb, i * 6 + 1, none⟩) hgb (.int .i64 y.f1)).setCell (p := ⟨gb, i * 6 + 2, none⟩) hgb (.int .i64 y.f2)).setCell (p := ⟨gb, i * 6 + 3, none⟩) hgb (.int .i64 y.f3)).setCell (p := ⟨gb, i * 6 + 4, none⟩) hgb (.int .i64 y.f4)).setCell (p := ⟨gb, i * 6 + 5, none⟩) hgb (.int .i64 y.f5)
            exact h2
      · have d1 : decide (j < l0.length) = false := decide_eq_false hlt
        obtain rfl : j = l0.length := by omega
        obtain ⟨inner, hown⟩ := Kd.R_own RO.out
        have hil : inner.length = l0.length * 6 := by have := hown.1; rw [this, hdl]; rfl
        obtain ⟨cells, hcs⟩ := own_typed hown gb rfl
        have hcl : ∀ ty, (Builtin.clear_ #[22] ty #[.slice (some ⟨gb, i * 6, none⟩) (l0.length - i) (n0 - i)]).run Try.prog wr = .ok (.tuple #[]) (wr.setCells gb (i * 6) (List.replicate ((l0.length - i) * 6) (.int .i64 0))) :=
          fun ty => run_clear30 wr ty gb (i * 6) _ _ (by omega) (fun t ht => by
            have h1 : i * 6 + t < inner.length := by omega
            have := hown.cells (g := gb) rfl (i * 6 + t) _ (List.getElem?_eq_getElem h1)
            rw [add_plain] at this
            rw [show (⟨gb, i * 6 + t, none⟩ : Addr) = ⟨gb, 0 + (i * 6 + t), none⟩ by rw [Nat.zero_add]]
            first
              | (rw [this]; rfl)
              | (rw [Nat.zero_add]; rw [this]; rfl)) (fun t _ => blk_frozen hcs _)
        have CL := Aside0.mk (R_clear RO.out i (by omega) (List.replicate ((l0.length - i) * 6) (.int .i64 0)) (by rw [List.length_replicate]; show i * 6 + _ ≤ l0.length * 6; omega))
        clear hown hil hcs
        go_wp2
        go_ret
        refine ⟨_, rfl, ?_, below_setCells' hgb _ _ _ BW.out⟩
        have hk := KK.out.kept
        rw [List.take_of_length_le (Nat.le_refl _)] at hk
        rw [← hk]
        exact CL.out.1
def ofP (s f t : Int) (x : S30) : Bool := x.f0 != s || (decide (x.f1 < f) || decide (t ≤ x.f1))
set_option maxHeartbeats 2000000 in
theorem of_lit (B1 B2 : Nat) (s f t : Int) (W : World) (x : S30) (h1 : W.cell? ⟨B1, 0, none⟩ = some (.int .i64 s)) (h2 : W.cell? ⟨B2, 0, none⟩ = some (.int .i64 f)) (h3 : W.cell? ⟨B2, 1, none⟩ = some (.int .i64 t)) :
    Calls Try.prog 35 #[encP x, .pointer (some ⟨B1, 0, none⟩), .pointer (some ⟨B2, 0, none⟩)] W fun e w' => e = .returned (.bool (ofP s f t x)) ∧ Below W.heap.size W w' := by
  have hu30 := Try.underlying30
  have hu28 := Try.underlying28
  have hB1 : B1 < W.heap.size := World.block_lt_of_cell? W _ h1
  have hB2 : B2 < W.heap.size := World.block_lt_of_cell? W _ h2
  unfold encP
  cases b1 : (x.f0 == s) with
  | false =>
    have b1' : (x.f0 != s) = true := by simp [bne, b1]
    have e : Aside0 (ofP s f t x = true) := ⟨by simp [ofP, b1']⟩
    go_enter Try.func35, Try.ntmps35
    go_wp2
    go_ret
    exact ⟨by rw [e.out]; rfl, (Below.refl _ _).alloc (Nat.le_refl _) _⟩
  | true =>
    have b1' : (x.f0 != s) = false := by simp [bne, b1]
    by_cases b2 : x.f1 < f
    · have e : Aside0 (ofP s f t x = true) := ⟨by simp [ofP, b2]⟩
      go_enter Try.func35, Try.ntmps35
      go_wp2
      go_ret
      exact ⟨by rw [e.out]; rfl, (Below.refl _ _).alloc (Nat.le_refl _) _⟩
    · by_cases b3 : t ≤ x.f1
      · have e : Aside0 (ofP s f t x = true) := ⟨by simp [ofP, b3]⟩
        go_enter Try.func35, Try.ntmps35
        go_wp2
        go_ret
        exact ⟨by rw [e.out]; rfl, (Below.refl _ _).alloc (Nat.le_refl _) _⟩
      · have e : Aside0 (ofP s f t x = false) := ⟨by simp [ofP, b1', b2, b3]⟩
        go_enter Try.func35, Try.ntmps35
        go_wp2
        go_ret
        exact ⟨by rw [e.out]; rfl, (Below.refl _ _).alloc (Nat.le_refl _) _⟩
def weather_of.f (l0 : List S30) (a1 a2_0 a2_1 : Int) : Option (List S30) := if l0.length < 2932031007402 then some (l0.filter fun x => !ofP a1 a2_0 a2_1 x) else none
set_option maxHeartbeats 2000000 in
theorem weather_of.calls (A0 : Option Addr) (c0 : Nat) (l0 : List S30) (a1 a2_0 a2_1 : Int) (r : List S30) (w : World) (hr0 : Kd.C k30 w A0 l0.length l0) (hc0 : l0.length ≤ c0) (h : weather_of.f l0 a1 a2_0 a2_1 = some r) :
    Calls Try.prog 30 #[.slice A0 l0.length c0, .int .i64 a1, .agg #[.int .i64 a2_0, .int .i64 a2_1]] w fun e w' => ∃ v0_ : Value, e = .returned (v0_) ∧ Kd.R k30 30 w' w.heap.size (fun _ => True) v0_ r ∧ Below w.heap.size w w' := by
  have hu30 := Try.underlying30
  have hu28 := Try.underlying28
  unfold weather_of.f at h
  split at h
  · rename_i hl
    obtain rfl := Option.some.inj h
    obtain ⟨W1, hW1⟩ : ∃ W1, (w.alloc (.cells #[.int .i64 a1] 3)).alloc (.cells #[.int .i64 a2_0, .int .i64 a2_1] 28) = W1 := ⟨_, rfl⟩
    have hs1 : W1.heap.size = w.heap.size + 2 := by rw [← hW1]; simp
    have hBw1 : Below w.heap.size w W1 := by rw [← hW1]; exact below_alloc (below_alloc (Below.refl _ _) _) _
    have h1 : W1.cell? ⟨w.heap.size, 0, none⟩ = some (.int .i64 a1) := by rw [← hW1]; exact (blk_cell (blk_alloc (blk_new w (.cells #[.int .i64 a1] 3)) _) 0).trans rfl
    have hb2 : W1.heap[w.heap.size + 1]? = some (.cells #[.int .i64 a2_0, .int .i64 a2_1] 28 (0, 0)) := by
      have := blk_new (w.alloc (.cells #[.int .i64 a1] 3)) (.cells #[.int .i64 a2_0, .int .i64 a2_1] 28)
      simp only [World.size_alloc] at this
      rwa [hW1] at this
    have h2 : W1.cell? ⟨w.heap.size + 1, 0, none⟩ = some (.int .i64 a2_0) := (blk_cell hb2 0).trans rfl
    have h3 : W1.cell? ⟨w.heap.size + 1, 1, none⟩ = some (.int .i64 a2_1) := (blk_cell hb2 1).trans rfl
    have CLN := Aside0.mk (clone_calls A0 c0 l0 W1 (Kd.C_below hr0 hBw1) hc0 hl)
    have DEL : Aside0 (∀ (W : World) (v : Value), Below W1.heap.size W1 W → Kd.R k30 30 W W1.heap.size (fun _ => True) v l0 → Calls Try.prog 34 #[v, .func (.func 35) #[] #[.pointer (some ⟨w.heap.size, 0, none⟩), .pointer (some ⟨w.heap.size + 1, 0, none⟩)]] W fun e w' => ∃ v', e = .returned v' ∧ Kd.R k30 30 w' W1.heap.size (fun _ => True) v' (l0.filter fun x => !ofP a1 a2_0 a2_1 x) ∧ Below W1.heap.size W w') := ⟨fun W v hb hR => by
      refine deleteFunc_calls 35 #[.pointer (some ⟨w.heap.size, 0, none⟩), .pointer (some ⟨w.heap.size + 1, 0, none⟩)] (ofP a1 a2_0 a2_1) (enters_of Try.func35 (by kernel_rfl) rfl) W1.heap.size l0 v W hb.size (fun W2 x hb2' => ?_) hR
      have hbb := hb.trans hb2'
      exact of_lit w.heap.size (w.heap.size + 1) a1 a2_0 a2_1 W2 x ((hbb.cell (p := ⟨w.heap.size, 0, none⟩) (by rw [hs1]; show w.heap.size < _; omega)).trans h1) ((hbb.cell (p := ⟨w.heap.size + 1, 0, none⟩) (by rw [hs1]; show w.heap.size + 1 < _; omega)).trans h2) ((hbb.cell (p := ⟨w.heap.size + 1, 1, none⟩) (by rw [hs1]; show w.heap.size + 1 < _; omega)).trans h3)⟩
    have HB1 := Aside0.mk hBw1
    have HS1 := Aside0.mk hs1
    clear h1 h2 h3 hb2 hr0 hBw1 hs1
    subst hW1
    go_enter Try.func30, Try.ntmps30
    go_wp2_with (first | (go_at_call 32; refine CLN.out.mono ?_; rintro e w2 ⟨v2, rfl, hR2, hb2⟩; have R2 := Aside0.mk hR2; have B2 := Aside0.mk hb2; clear hR2 hb2) | (go_at_call 34; refine (DEL.out w2 v2 B2.out R2.out).mono ?_; rintro e w3 ⟨v3, rfl, hR3, hb3⟩; have R3 := Aside0.mk hR3; have B3 := Aside0.mk hb3; clear hR3 hb3))
    go_ret
    exact ⟨_, rfl, Kd.R_lower R3.out HB1.out.size, HB1.out.trans ((B2.out.trans B3.out).mono HB1.out.size)⟩
  · exact absurd h (by simp)

end Go.Proofs.Ythndidjhdijpnaa.P
