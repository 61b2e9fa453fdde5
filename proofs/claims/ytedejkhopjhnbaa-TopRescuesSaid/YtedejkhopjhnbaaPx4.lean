-- Printed for this claim by a program of the session, out of Lean's own print of the translation.
import Derived.Test.YtedejkhopjhnbaaPx0
import Derived.Test.YtedejkhopjhnbaaPx2
import Derived.Test.YtedejkhopjhnbaaPx3
namespace Go.Proofs.Ytedejkhopjhnbaa.P
open Go.RowKit Go.Proofs.YtedejkhopjhnbaaW.PrintWords Go.Proofs.YtedejkhopjhnbaaW.PrintLast Go.Proofs.YtedejkhopjhnbaaW.PrintMore
attribute [local go_sem] max2_int min2_int max_two min_two max_three min_three max_four min_four   -- for this text's walks alone
set_option linter.unusedVariables false
set_option linter.unusedSimpArgs false

/-! ### rescue_needing: function 29 -/
theorem encz (n : Nat) : (Builtin.zeroCells (#[.int .i64 0, .int .i64 0, .int .i64 0] : Array Value) n).toList = List.replicate (n * 3) (.int .i64 0) := by
  apply List.ext_getElem
  · simp [Builtin.zeroCells]
  · intro i h1 h2
    simp only [Builtin.zeroCells, Array.toList_map, List.getElem_map, List.getElem_replicate]
    have : ∀ k, k < 3 → (#[.int .i64 0, .int .i64 0, .int .i64 0] : Array Value)[k]! = .int .i64 0 := by
      intro k hk
      match k, hk with
      | 0, _ => rfl
      | 1, _ => rfl
      | 2, _ => rfl
      
    exact this _ (by simp; exact Nat.mod_lt _ (by decide))
theorem zero33 (w : World) : (zeroValue 33).run Try.prog w = .ok (.agg #[.int .i64 0, .int .i64 0, .int .i64 0]) w := by
  obtain ⟨i0, hi, hz0, -, -⟩ := info_parts info33
  have e : Try.prog.info? 33 = some i0 := hi
  unfold zeroValue
  simp only [typeInfo]
  first
    | (simp only [hi, hz0, go_sem]; done)
    | (go_simp; done)
    | (go_simp; rfl)
theorem run_clear33 (w : World) (ty : TypeId) (b o n c : Nat) (hn : 0 < n)
    (hc : ∀ j, j < n * 3 → (w.cell? ⟨b, o + j, none⟩).isSome = true) (hf : ∀ j, j < n * 3 → w.frozen? ⟨b, o + j, none⟩ = false) :
    (Builtin.clear_ #[22] ty #[.slice (some ⟨b, o, none⟩) n c]).run Try.prog w = .ok (.tuple #[]) (w.setCells b o (List.replicate (n * 3) (.int .i64 0))) := by
  have hst := run_storeCells_cells (P := Try.prog) b o (List.replicate (n * 3) (.int .i64 0)) 0 w (by simpa using hc) (by simpa using hf) (by intro v hv'; rw [List.eq_of_mem_replicate hv']; rfl)
  simp only [Nat.add_zero] at hst
  obtain ⟨m, rfl⟩ : ∃ m, n = m + 1 := ⟨n - 1, by omega⟩
  simp [Builtin.clear_, run_underlying Try.underlying22, zero33, Value.cells, encz, hst]
theorem R_clear {α : Type} {d : Kd α} {e base g n cap : Nat} {ok : Nat → Prop} {W : World} {xs : List α} (h : d.R e W base ok (.slice (some ⟨g, 0, none⟩) n cap) xs) (i : Nat) (hi : i ≤ n) (vs : List Value) (hl : i * d.sz + vs.length ≤ n * d.sz) :
    d.R e (W.setCells g (i * d.sz) vs) base ok (.slice (some ⟨g, 0, none⟩) i cap) (xs.take i) ∧ W.grownBy (W.setCells g (i * d.sz) vs) (some g) := by
  obtain ⟨hn, hnc, _⟩ := Kd.R_reads' h
  obtain ⟨hok, inner, ho, hr⟩ := Kd.R_take h (m := i) (by omega)
  obtain ⟨ho1, ho2⟩ := ho
  have hlen : (xs.take i).length = i := by rw [List.length_take]; omega
  rcases ho2 with ⟨hv, _⟩ | ⟨g', cap', cur, hv, hb, hh, hnc', hcm, hcs, ht⟩
  · cases hv
  injection hv with ha _ hc
  injection ha with ha
  injection ha with hg
  subst hg; subst hc
  rw [hlen] at ht hnc'
  have hfit : i * d.sz + vs.length ≤ cur.size := by
    have : n * d.sz ≤ cap * d.sz := Nat.mul_le_mul_right _ hnc
    omega
  obtain ⟨cur', h3, h4, h5⟩ := setCells_row vs (i * d.sz) W cur hh hfit
  obtain ⟨s1, s2, s3, s4⟩ := setCells_same g vs (i * d.sz) W
  have hfar : ∀ k, k ≠ g → (W.setCells g (i * d.sz) vs).heap[k]? = W.heap[k]? := fun k hk => setCells_far vs _ k hk
  refine ⟨⟨hok, inner, ⟨ho1, .inr ⟨g, cap, cur', by rw [hlen], hb, h3, by rw [hlen]; exact hnc', hcm, by rw [h4, hcs], ?_⟩⟩, ?_⟩, ⟨s1, s2, s3, by rw [s4]; exact Nat.le_refl _, fun k _ hk => hfar k (fun he => hk (by rw [he]))⟩⟩
  · rw [hlen, h5, List.append_assoc, List.take_append_of_le_length (by rw [List.length_take, Array.length_toList]; omega), List.take_take, Nat.min_self]
    exact ht
  · exact hr.imp_ (fun _ _ hp => Kd.M_step hp (fun k hk _ => hfar k (fun he => hk.2 (by rw [he]; rfl))))
/-- what DeleteFunc keeps: i elements kept of the first j -/
structure KI (p : S33 → Bool) (xs : List S33) (i j : Nat) (dk : List S33) : Prop where
  len : dk.length = xs.length
  lt : i < j
  kept : dk.take i = (xs.take j).filter (fun x => !p x)
  rest : dk.drop j = xs.drop j
theorem KI.at_ {p : S33 → Bool} {xs : List S33} {i j : Nat} {dk : List S33} (h : KI p xs i j dk) (hj : j < xs.length) : rd_T33 dk (j : Int) = xs.getD j z33 := by
  have h1 : dk[j]? = xs[j]? := by
    have := congrArg (fun l => l[0]?) h.rest
    simpa using this
  simp [rd_T33, h1]
theorem KI.keep {p : S33 → Bool} {xs : List S33} {i j : Nat} {dk : List S33} (h : KI p xs i j dk) (hj : j < xs.length) (hp : p (xs.getD j z33) = false) : KI p xs (i + 1) (j + 1) (dk.set i (xs.getD j z33)) := by
  have hl := h.len
  have hlt := h.lt
  have e : xs.getD j z33 = xs[j] := by simp [List.getD_eq_getElem?_getD, List.getElem?_eq_getElem hj]
  rw [e] at hp ⊢
  refine ⟨by simpa using hl, by omega, ?_, ?_⟩
  · rw [List.take_succ_eq_append_getElem (by simp; omega), List.take_succ_eq_append_getElem hj, List.filter_append, ← h.kept, List.take_set_of_le (by omega)]
    simp [hp]
  · rw [List.drop_set_of_lt (by omega)]
    have := congrArg (List.drop 1) h.rest
    simpa using this
theorem KI.skip {p : S33 → Bool} {xs : List S33} {i j : Nat} {dk : List S33} (h : KI p xs i j dk) (hj : j < xs.length) (hp : p (xs.getD j z33) = true) : KI p xs i (j + 1) dk := by
  have hlt := h.lt
  have e : xs.getD j z33 = xs[j] := by simp [List.getD_eq_getElem?_getD, List.getElem?_eq_getElem hj]
  rw [e] at hp
  refine ⟨h.len, by omega, ?_, ?_⟩
  · rw [List.take_succ_eq_append_getElem hj, List.filter_append, ← h.kept]
    simp [hp]
  · have := congrArg (List.drop 1) h.rest
    simpa using this
theorem fidx_cases {α : Type} (p : α → Bool) (l : List α) (d : α) : (fidx p l = -1 ∧ ∀ x ∈ l, p x = false) ∨ ∃ i : Nat, i < l.length ∧ fidx p l = i ∧ p (l.getD i d) = true ∧ ∀ x ∈ l.take i, p x = false := by
  unfold fidx
  cases e : l.findIdx? p with
  | none =>
    rw [List.findIdx?_eq_none_iff] at e
    exact .inl ⟨rfl, e⟩
  | some i =>
    obtain ⟨h, hp, hn⟩ := List.findIdx?_eq_some_iff_getElem.1 e
    refine .inr ⟨i, h, rfl, by simpa [List.getD_eq_getElem?_getD, List.getElem?_eq_getElem h] using hp, fun x hx => ?_⟩
    obtain ⟨j, hj, rfl⟩ := List.mem_iff_getElem.1 hx
    have hj' : j < i := by simp at hj; omega
    rw [List.getElem_take]
    simpa using hn j hj'
theorem KI.start {p : S33 → Bool} {xs : List S33} {i : Nat} (hi : i < xs.length) (hp : p (xs.getD i z33) = true) (hn : ∀ x ∈ xs.take i, p x = false) : KI p xs i (i + 1) xs := by
  have e : xs.getD i z33 = xs[i] := by simp [List.getD_eq_getElem?_getD, List.getElem?_eq_getElem hi]
  rw [e] at hp
  refine ⟨rfl, by omega, ?_, rfl⟩
  rw [List.take_succ_eq_append_getElem hi, List.filter_append, List.filter_eq_self.2 (fun x hx => by simp [hn x hx])]
  simp [hp]
theorem below_setCells' {B b : Nat} {a : World} (hb : B ≤ b) : ∀ (vs : List Value) (o : Nat) (w : World), Below B a w → Below B a (w.setCells b o vs)
  | [], _, _, h => h
  | v :: r, o, w, h => below_setCells' hb r (o + 1) _ (h.setCell (p := ⟨b, o, none⟩) hb v)
set_option maxHeartbeats 4000000 in
set_option maxRecDepth 100000 in
theorem deleteFunc_calls (g : Nat) (lb : Array Value) (p : S33 → Bool) (eg : ∀ args w, (callFunc g args).run Try.prog w = .ok (.enter g args) w) (base : Nat) (l0 : List S33) (v : Value) (w : World) (hbw : base ≤ w.heap.size)
    (hp : ∀ (W : World) (x : S33), Below base w W → Calls Try.prog g (#[encP33 x] ++ lb) W fun e w' => e = .returned (.bool (p x)) ∧ Below W.heap.size W w')
    (hR : Kd.R k33 33 w base (fun _ => True) v l0) :
    Calls Try.prog 46 #[v, .func (.func g) #[] lb] w fun e w' => ∃ v', e = .returned v' ∧ Kd.R k33 33 w' base (fun _ => True) v' (l0.filter fun x => !p x) ∧ Below base w w' := by
  have hu33 := Try.underlying33
  have hu22 := Try.underlying22
  obtain ⟨A, n0, hA, hc0, hC⟩ := Kd.R_reads hR
  subst hA
  have hn := hC.2.1
  have HIF := Aside0.mk (indexFunc33_calls g lb p eg A n0 l0 w (fun W x hb => hp W x (hb.mono hbw)) hC)
  have HP := Aside0.mk hp
  have HR := Aside0.mk hR
  have HC0 := Aside0.mk hc0
  clear hp hR hC hc0
  rcases fidx_cases p l0 z33 with ⟨e1, hall⟩ | ⟨i0, hi0, e1, ht, hall⟩
  · have hfil : l0.filter (fun x => !p x) = l0 := List.filter_eq_self.2 (fun x hx => by simp [hall x hx])
    rw [hfil]
    rw [e1] at HIF
    clear hall e1 hfil
    go_enter Try.func46, Try.ntmps46
    go_wp2_with (go_at_call 31; refine HIF.out.mono ?_; rintro e w' ⟨rfl, hb'⟩; have HB' := Aside0.mk hb'; clear hb')
    go_ret
    exact ⟨_, rfl, Kd.R_below HR.out HB'.out, HB'.out.mono hbw⟩
  · rw [e1] at HIF
    have K0 : Aside0 (KI p l0 i0 (i0 + 1) l0) := ⟨KI.start hi0 ht hall⟩
    obtain ⟨gb, cap, ev, hgb, hgw, _⟩ := Kd.R_form HR.out (by omega)
    injection ev with ev1 _ ev3
    subst ev1 ev3
    clear ht hall e1
    have hne1 : ((i0 : Int) == -1) = false := beq_eq_false_iff_ne.2 (by omega)
    have hnc := HC0.out
    go_enter Try.func46, Try.ntmps46
    go_wp2_with (go_at_call 31; refine HIF.out.mono ?_; rintro e w' ⟨rfl, hb'⟩; have HB' := Aside0.mk hb'; clear hb')
    go_loopg [5, 6, 7] l0.length (fun gg s5 s6 _ wr => ∃ (i j : Nat) (dk : List S33), s5 = .int .i64 i ∧ s6 = .int .i64 j ∧ j ≤ l0.length ∧ l0.length - j ≤ gg ∧ Aside0 (KI p l0 i j dk) ∧ Aside0 (Kd.R k33 33 wr base (fun _ => True) (.slice (some ⟨gb, 0, none⟩) l0.length n0) dk) ∧ Aside0 (Below base w wr))
    case atStart => exact ⟨i0, i0 + 1, l0, rfl, by go_num, by omega, by omega, K0, ⟨Kd.R_below HR.out HB'.out⟩, ⟨HB'.out.mono hbw⟩⟩
    case round =>
      clear K0 HIF hne1 HB'
      obtain ⟨i, j, dk, rfl, rfl, hj, hg, KK, RO, BW⟩ := hrel
      have hij := KK.out.lt
      have hdl := KK.out.len
      by_cases hlt : j < l0.length
      · have hltz : (j : Int) < (l0.length : Int) := by omega
        have d1 : decide (j < l0.length) = true := decide_eq_true hlt
        have hiz : (i : Int) < (l0.length : Int) := by omega
        have d2 : decide (i < l0.length) = true := decide_eq_true (by omega)
        obtain ⟨cj, hclj, hMj, hccj, _⟩ := Kd.R_elem RO.out z33 (j : Int) (by omega) hltz
        obtain rfl := k33_openM hMj
        have hat := KK.out.at_ hlt
        simp only [rd_T33, Int.toNat_natCast] at hat hccj
        rw [hat] at hccj
        have HAT := Aside0.mk hat
        have hcall := HP.out
        generalize hy : l0.getD j z33 = y at *
        have HY := Aside0.mk hy
        have j0 : wr.cell? ⟨gb, j * 3, none⟩ = some (.int .i64 y.f0) := hccj 0 _ rfl
        have j1 : wr.cell? ⟨gb, j * 3 + 1, none⟩ = some (.int .i64 y.f1) := hccj 1 _ rfl
        have j2 : wr.cell? ⟨gb, j * 3 + 2, none⟩ = some (.int .i64 y.f2) := hccj 2 _ rfl
        clear hccj hclj hMj hy hat
        have HX : Aside0 (Calls Try.prog g (#[encP33 y] ++ lb) (wr.alloc (.cells #[.int .i64 y.f0, .int .i64 y.f1, .int .i64 y.f2] 33)) fun e w' => e = .returned (.bool (p y)) ∧ Below (wr.alloc (.cells #[.int .i64 y.f0, .int .i64 y.f1, .int .i64 y.f2] 33)).heap.size (wr.alloc (.cells #[.int .i64 y.f0, .int .i64 y.f1, .int .i64 y.f2] 33)) w') :=
          ⟨hcall _ y (BW.out.alloc (Nat.le_trans hbw BW.out.size) _)⟩
        unfold encP33 at HX
        clear hcall
        cases hq : p y with
        | true =>
          rw [hq] at HX
          go_wp2_with (go_at_fn g; refine HX.out.mono ?_; rintro e w' ⟨rfl, hb'⟩; have HB' := Aside0.mk hb'; clear hb')
          go_roundg (l0.length - (j + 1))
          case measure => omega
          case rel =>
            refine ⟨i, j + 1, dk, rfl, by go_num, by omega, by omega, ⟨KK.out.skip hlt (by rw [HY.out]; exact hq)⟩, ⟨Kd.R_below (Kd.R_alloc RO.out _) HB'.out⟩, ⟨below_then (BW.out.alloc (Nat.le_trans hbw BW.out.size) _) (by have := BW.out.size; simp; omega) HB'.out⟩⟩
        | false =>
          rw [hq] at HX
          have hgl : gb < wr.heap.size := Nat.lt_of_lt_of_le hgw BW.out.size
          go_wp2_with (go_at_fn g; refine HX.out.mono ?_; rintro e w' ⟨rfl, hb'⟩; have RO2 := Aside0.mk (Kd.R_below (Kd.R_alloc RO.out _) hb'); obtain ⟨ci, hcli, hMi, hcci, hfri⟩ := Kd.R_elem RO2.out z33 (i : Int) (by omega) hiz; simp only [Int.toNat_natCast] at hcci hfri; have SEG := Aside0.mk (Kd.R_seg RO2.out (i : Int) (by omega) hiz (seg := [.int .i64 y.f0, .int .i64 y.f1, .int .i64 y.f2]) (j := 0) hcli (by simpa using hcci) (show 3 ≤ 3 from by decide) (x' := y) (by rw [k33_openM hMi]; exact k33_mkM _ _ _ y) (fun _ hk => hk)); simp only [Int.toNat_natCast] at SEG; obtain rfl := k33_openM hMi; clear hMi hcli; have q0 : World.cell? w' ⟨gb, i * 3, none⟩ = some _ := hcci 0 _ rfl; have q1 : World.cell? w' ⟨gb, i * 3 + 1, none⟩ = some _ := hcci 1 _ rfl; have q2 : World.cell? w' ⟨gb, i * 3 + 2, none⟩ = some _ := hcci 2 _ rfl; have r0 : World.frozen? w' ⟨gb, i * 3, none⟩ = false := hfri 0; have r1 : World.frozen? w' ⟨gb, i * 3 + 1, none⟩ = false := hfri 1; have r2 : World.frozen? w' ⟨gb, i * 3 + 2, none⟩ = false := hfri 2; clear hcci hfri; have hx0 := (hb'.cell (p := ⟨wr.heap.size, 0, none⟩) (by simp)).trans (show _ = some (Value.int .i64 y.f0) from by simp); have hx1 := (hb'.cell (p := ⟨wr.heap.size, 1, none⟩) (by simp)).trans (show _ = some (Value.int .i64 y.f1) from by simp); have hx2 := (hb'.cell (p := ⟨wr.heap.size, 2, none⟩) (by simp)).trans (show _ = some (Value.int .i64 y.f2) from by simp); have HB' := Aside0.mk hb'; clear hb')
          go_roundg (l0.length - (j + 1))
          case measure => omega
          case rel =>
            refine ⟨i + 1, j + 1, dk.set i y, by go_num, by go_num, by omega, by omega, ⟨by have := KK.out.keep hlt (by rw [HY.out]; exact hq); rwa [HY.out] at this⟩, ⟨SEG.out.1⟩, ⟨?_⟩⟩
            have h1 := below_then (BW.out.alloc (Nat.le_trans hbw BW.out.size) (.cells #[.int .i64 y.f0, .int .i64 y.f1, .int .i64 y.f2] 33)) (by have := BW.out.size; simp; omega) HB'.out
            have h2 := ((h1.setCell (p := ⟨gb, i * 3, none⟩) hgb (.int .i64 y.f0)).setCell (p := ⟨gb, i * 3 + 1, none⟩) hgb (.int .i64 y.f1)).setCell (p := ⟨gb, i * 3 + 2, none⟩) hgb (.int .i64 y.f2)
            exact h2
      · have d1 : decide (j < l0.length) = false := decide_eq_false hlt
        obtain rfl : j = l0.length := by omega
        obtain ⟨inner, hown⟩ := Kd.R_own RO.out
        have hil : inner.length = l0.length * 3 := by have := hown.1; rw [this, hdl]; rfl
        obtain ⟨cells, hcs⟩ := own_typed hown gb rfl
        have hcl : ∀ ty, (Builtin.clear_ #[22] ty #[.slice (some ⟨gb, i * 3, none⟩) (l0.length - i) (n0 - i)]).run Try.prog wr = .ok (.tuple #[]) (wr.setCells gb (i * 3) (List.replicate ((l0.length - i) * 3) (.int .i64 0))) :=
          fun ty => run_clear33 wr ty gb (i * 3) _ _ (by omega) (fun t ht => by
            have h1 : i * 3 + t < inner.length := by omega
            have := hown.cells (g := gb) rfl (i * 3 + t) _ (List.getElem?_eq_getElem h1)
            rw [add_plain] at this
            rw [show (⟨gb, i * 3 + t, none⟩ : Addr) = ⟨gb, 0 + (i * 3 + t), none⟩ by rw [Nat.zero_add]]
            first
              | (rw [this]; rfl)
              | (rw [Nat.zero_add]; rw [this]; rfl)) (fun t _ => blk_frozen hcs _)
        have CL := Aside0.mk (R_clear RO.out i (by omega) (List.replicate ((l0.length - i) * 3) (.int .i64 0)) (by rw [List.length_replicate]; show i * 3 + _ ≤ l0.length * 3; omega))
        clear hown hil hcs
        go_wp2
        go_ret
        refine ⟨_, rfl, ?_, below_setCells' hgb _ _ _ BW.out⟩
        have hk := KK.out.kept
        rw [List.take_of_length_le (Nat.le_refl _)] at hk
        rw [← hk]
        exact CL.out.1
def needP (x : S33) : Bool := x.f1 == 0
set_option maxHeartbeats 2000000 in
theorem need_lit (W : World) (x : S33) : Calls Try.prog 48 (#[encP33 x] ++ #[]) W fun e w' => e = .returned (.bool (needP x)) ∧ Below W.heap.size W w' := by
  have hu33 := Try.underlying33
  unfold encP33
  cases b1 : (x.f1 == 0) with
  | false =>
    have e : Aside0 (needP x = false) := ⟨by simp [needP, b1]⟩
    go_enter Try.func48, Try.ntmps48
    go_wp2
    go_ret
    exact ⟨by rw [e.out]; rfl, (Below.refl _ _).alloc (Nat.le_refl _) _⟩
  | true =>
    have e : Aside0 (needP x = true) := ⟨by simp [needP, b1]⟩
    go_enter Try.func48, Try.ntmps48
    go_wp2
    go_ret
    exact ⟨by rw [e.out]; rfl, (Below.refl _ _).alloc (Nat.le_refl _) _⟩
def rescue_needing.f (l0 : List S33) : Option (List S33) := if l0.length < 2932031007402 then some (l0.filter fun x => !needP x) else none
set_option maxHeartbeats 2000000 in
theorem rescue_needing.calls (A0 : Option Addr) (c0 : Nat) (l0 : List S33) (r : List S33) (w : World) (hr0 : Kd.C k33 w A0 l0.length l0) (hc0 : l0.length ≤ c0) (h : rescue_needing.f l0 = some r) :
    Calls Try.prog 29 #[.slice A0 l0.length c0] w fun e w' => ∃ v0_ : Value, e = .returned (v0_) ∧ Kd.R k33 33 w' w.heap.size (fun _ => True) v0_ r ∧ Below w.heap.size w w' := by
  have hu33 := Try.underlying33
  unfold rescue_needing.f at h
  split at h
  · rename_i hl
    obtain rfl := Option.some.inj h
    have CLN := Aside0.mk (clone_calls A0 c0 l0 w hr0 hc0 hl)
    have DEL : Aside0 (∀ (W : World) (v : Value), Below w.heap.size w W → Kd.R k33 33 W w.heap.size (fun _ => True) v l0 → Calls Try.prog 46 #[v, .func (.func 48) #[] #[]] W fun e w' => ∃ v', e = .returned v' ∧ Kd.R k33 33 w' w.heap.size (fun _ => True) v' (l0.filter fun x => !needP x) ∧ Below w.heap.size W w') := ⟨fun W v hb hR => by
      refine deleteFunc_calls 48 #[] needP (enters_of Try.func48 (by kernel_rfl) rfl) w.heap.size l0 v W hb.size (fun W2 x hb2' => ?_) hR
      exact need_lit W2 x⟩
    clear hr0
    go_enter Try.func29, Try.ntmps29
    go_wp2_with (first | (go_at_call 47; refine CLN.out.mono ?_; rintro e w2 ⟨v2, rfl, hR2, hb2⟩; have R2 := Aside0.mk hR2; have B2 := Aside0.mk hb2; clear hR2 hb2) | (go_at_call 46; refine (DEL.out w2 v2 B2.out R2.out).mono ?_; rintro e w3 ⟨v3, rfl, hR3, hb3⟩; have R3 := Aside0.mk hR3; have B3 := Aside0.mk hb3; clear hR3 hb3))
    go_ret
    exact ⟨_, rfl, R3.out, B2.out.trans B3.out⟩
  · exact absurd h (by simp)

end Go.Proofs.Ytedejkhopjhnbaa.P
