-- Printed for this claim by a program of the session, out of Lean's own print of the translation.
import Derived.Test.YthndidjhdijpnaaPx0
import Derived.Test.YthndidjhdijpnaaPx3
namespace Go.Proofs.Ythndidjhdijpnaa.P
open Go.RowKit Go.Proofs.YthndidjhdijpnaaW.PrintWords Go.Proofs.YthndidjhdijpnaaW.PrintLast Go.Proofs.YthndidjhdijpnaaW.PrintMore
attribute [local go_sem] max2_int min2_int max_two min_two max_three min_three max_four min_four   -- for this text's walks alone
set_option linter.unusedVariables false
set_option linter.unusedSimpArgs false

/-! ### weather_Last: function 14 -/
section
open Go.Shelf
attribute [local go_sem] Oper.semAt_some

/-- what a round keeps: all below block N but block bo -/
def KB (N bo : Nat) (A B : World) : Prop := A.heap.size ≤ B.heap.size ∧ ∀ k, k < N → k ≠ bo → B.heap[k]? = A.heap[k]?
theorem KB.refl (N bo : Nat) (A : World) : KB N bo A A := ⟨Nat.le_refl _, fun _ _ _ => rfl⟩
theorem KB.trans {N bo : Nat} {A B C : World} (h : KB N bo A B) (k : KB N bo B C) : KB N bo A C := ⟨Nat.le_trans h.1 k.1, fun i hi hn => (k.2 i hi hn).trans (h.2 i hi hn)⟩
theorem KB.cell {N bo : Nat} {A B : World} (h : KB N bo A B) {p : Addr} (h1 : p.block < N) (h2 : p.block ≠ bo) : B.cell? p = A.cell? p := World.cell?_of_block (w := A) (h.2 p.block h1 h2)

/-- what has come when k rounds are over -/
def bk {α : Type} (zs : List α) (z : α) (k : Nat) : List (Int × α) := (List.range k).map fun (j : Nat) => (((zs.length : Int) - 1 - (j : Int)), zs.getD (zs.length - 1 - j) z)
theorem bk_succ {α : Type} (zs : List α) (z : α) (k : Nat) : bk zs z (k + 1) = bk zs z k ++ [(((zs.length : Int) - 1 - (k : Int)), zs.getD (zs.length - 1 - k) z)] := by simp [bk, List.range_succ]
theorem bk_length {α : Type} (zs : List α) (z : α) (k : Nat) : (bk zs z k).length = k := by simp [bk]
theorem add_block (a : Addr) (j : Nat) : (a.add j).block = a.block := by unfold Addr.add; split <;> rfl

set_option maxRecDepth 100000 in
set_option maxHeartbeats 2000000 in
theorem backward_in (n : Nat) (hn : 1 ≤ n) (l Bs N bo : Nat) (A : Option Addr) (cap : Nat) (zs : List S30) (hbs : Bs < N ∧ Bs ≠ bo) (hA : ∀ ad, A = some ad → 0 < zs.length → ad.block < N ∧ ad.block ≠ bo) (J Jx : List (Int × S30) → World → Prop)
    (hY : ∀ pre x W, J pre W → pre.length < zs.length → YieldAt Fence.wide (n - 1) Try.prog l #[.int .i64 x.1, encP x.2] W fun e W' =>
      (e = .returned (.bool true) ∧ J (pre ++ [x]) W' ∧ KB N bo W W') ∨ (e = .returned (.bool false) ∧ Jx (pre ++ [x]) W'))
    (W : World) (hBs : W.cell? ⟨Bs, 0, none⟩ = some (.slice A zs.length cap)) (hc : Kd.C k30 W A zs.length zs) (h0 : J [] W) :
    CallsIn Fence.wide n Try.prog 33 #[.func (.yield l) #[] #[], .pointer (some ⟨Bs, 0, none⟩)] W fun e W' => (∃ v, e = .returned v) ∧
      ((∃ ys, ys = bk zs z30 zs.length ∧ J ys W') ∨ (∃ pre, (∃ k, k ≤ zs.length ∧ pre = bk zs z30 k) ∧ Jx pre W')) := by
  have hlen : zs.length ≤ 9223372036854775807 := hc.2.1
  have hu30 := Try.underlying30
  have hu22 := Try.underlying22
  have HC := Aside0.mk hc
  have HY := Aside0.mk hY
  clear hc hY
  refine callsIn_of_wp Try.func33 rfl trivial ?_ rfl
  simp only [Try.ntmps33, List.size_toArray, List.length_cons, List.length_nil, Nat.reduceAdd, Nat.reduceSub, Array.replicate_succ, Array.replicate_zero, List.push_toArray, List.append_toArray, List.nil_append, List.cons_append]
  gi_wp2
  gi_loopw [3] (fun i wr => ∃ k : Nat, k ≤ zs.length ∧ i = .int .i64 ((zs.length : Int) - 1 - k) ∧ Aside0 (J (bk zs z30 k) wr) ∧ Aside0 (KB N bo W wr))
    (fun i _ => (intOf i + 1).toNat)
  case atStart => exact ⟨0, Nat.zero_le _, by simp, ⟨h0⟩, ⟨KB.refl _ _ _⟩⟩
  case round =>
    obtain ⟨k, hk, rfl, HJ, KW⟩ := hrel
    have hBs' := (KW.out.cell (p := ⟨Bs, 0, none⟩) hbs.1 hbs.2).trans hBs
    by_cases hlt : k < zs.length
    · have c1 : 0 ≤ (zs.length : Int) - 1 - k := by omega
      have c3 : (zs.length : Int) - 1 - k < (zs.length : Int) := by omega
      obtain ⟨ad, e1, h0, h1, h2, h3, h4, h5⟩ := at_T30 HC.out ((zs.length : Int) - 1 - k) c1 c3
      cases e1
      have hb := hA ad rfl (by omega)
      replace h0 := (KW.out.cell (p := ad.add _) (by rw [add_block]; exact hb.1) (by rw [add_block]; exact hb.2)).trans h0
      replace h1 := (KW.out.cell (p := ⟨(ad.add _).block, _, none⟩) (by show (ad.add _).block < N; rw [add_block]; exact hb.1) (by show (ad.add _).block ≠ bo; rw [add_block]; exact hb.2)).trans h1
      replace h2 := (KW.out.cell (p := ⟨(ad.add _).block, _, none⟩) (by show (ad.add _).block < N; rw [add_block]; exact hb.1) (by show (ad.add _).block ≠ bo; rw [add_block]; exact hb.2)).trans h2
      replace h3 := (KW.out.cell (p := ⟨(ad.add _).block, _, none⟩) (by show (ad.add _).block < N; rw [add_block]; exact hb.1) (by show (ad.add _).block ≠ bo; rw [add_block]; exact hb.2)).trans h3
      replace h4 := (KW.out.cell (p := ⟨(ad.add _).block, _, none⟩) (by show (ad.add _).block < N; rw [add_block]; exact hb.1) (by show (ad.add _).block ≠ bo; rw [add_block]; exact hb.2)).trans h4
      replace h5 := (KW.out.cell (p := ⟨(ad.add _).block, _, none⟩) (by show (ad.add _).block < N; rw [add_block]; exact hb.1) (by show (ad.add _).block ≠ bo; rw [add_block]; exact hb.2)).trans h5
      have hv : rd_T30 zs ((zs.length : Int) - 1 - k) = zs.getD (zs.length - 1 - k) z30 := by
        have e : ((zs.length : Int) - 1 - k).toNat = zs.length - 1 - k := by omega
        rw [rd_T30, e]
      rw [hv, show ((zs.length : Int) - 1 - k).toNat = zs.length - 1 - k from by omega] at h0 h1 h2 h3 h4 h5
      obtain ⟨fn, tmps, assign, body, hy, hR⟩ := HY.out _ ((zs.length : Int) - 1 - k, zs.getD (zs.length - 1 - k) z30) wr HJ.out (by rw [bk_length]; exact hlt)
      dsimp only [encP] at hy
      have HS := Aside0.mk (bk_succ zs z30 k)
      clear hv hb
      generalize hq : zs.getD (zs.length - 1 - k) z30 = q at *
      clear hq
      gi_wp2
      refine hR.mono ?_
      rintro e W3 (⟨rfl, hJ3, hk3⟩ | ⟨rfl, hJx3⟩)
      · gi_wp2
        go_roundw
        case rel => exact ⟨k + 1, by omega, by (have e : (zs.length : Int) - 1 - k - 1 = (zs.length : Int) - 1 - ((k + 1 : Nat) : Int) := by omega); rw [← e], ⟨by rw [HS.out]; exact hJ3⟩, ⟨KW.out.trans hk3⟩⟩
        case measure => simp [intOf]; omega
      · gi_wp2
        refine bodyPost_ret (results_none rfl _ _ _) rfl ?_
        exact ⟨⟨_, rfl⟩, .inr ⟨_, ⟨k + 1, by omega, HS.out.symm⟩, hJx3⟩⟩
    · obtain rfl : k = zs.length := by omega
      have c1 : (zs.length : Int) - 1 - (zs.length : Int) = -1 := by omega
      gi_wp2
      go_end0
      exact ⟨⟨_, rfl⟩, .inl ⟨_, rfl, HJ.out⟩⟩

theorem backward_mk (n : Nat) (a : Option Addr) (len cap : Nat) (w : World) :
    CallsIn Fence.wide n Try.prog 29 #[.slice a len cap] w fun e w' => e = .returned (.func (.func 33) #[] #[.pointer (some ⟨w.heap.size, 0, none⟩)]) ∧ w' = w.alloc (.cells #[.slice a len cap] 22) := by
  refine callsIn_of_wp Try.func29 rfl trivial ?_ rfl
  simp only [Try.ntmps29, List.size_toArray, List.length_cons, List.length_nil, Nat.reduceAdd, Nat.reduceSub, Array.replicate_succ, Array.replicate_zero, List.push_toArray, List.append_toArray, List.nil_append, List.cons_append]
  gi_wp2
  go_ret
  exact ⟨rfl, rfl⟩

theorem KB.below {N bo : Nat} {A B : World} (h : Below N A B) : KB N bo A B := ⟨h.size, fun k hk _ => h.block k hk⟩
theorem KB.setCell {N bo : Nat} {A B : World} (h : KB N bo A B) (j : Nat) (u : Value) : KB N bo A (B.setCell ⟨bo, j, none⟩ u) :=
  ⟨by simpa [World.setCell] using h.1, fun k hk hn => (Below.heap_setCell B ⟨bo, j, none⟩ u k hn).trans (h.2 k hk hn)⟩
theorem KB.drew {N bo : Nat} {A B : World} (h : KB N bo A B) : KB N bo A B.drew := h

theorem backward_stops (n : Nat) (hn : 1 ≤ n) (Bs N bo : Nat) (A : Option Addr) (cap : Nat) (zs : List S30) (hbs : Bs < N ∧ Bs ≠ bo) (hA : ∀ ad, A = some ad → 0 < zs.length → ad.block < N ∧ ad.block ≠ bo)
    (w : World) (hBs : w.cell? ⟨Bs, 0, none⟩ = some (.slice A zs.length cap)) (hc : Kd.C k30 w A zs.length zs) :
    SeqStopsK Fence.wide n Try.prog 33 #[.pointer (some ⟨Bs, 0, none⟩)] (fun x : Int × S30 => #[Value.int .i64 x.1, encP x.2]) (KB N bo) (fun ys => ys = bk zs z30 zs.length)
      (fun pre => ∃ k, k ≤ zs.length ∧ pre = bk zs z30 k) zs.length w := fun l J Jx W hW _ _ hY h0 =>
  backward_in n hn l Bs N bo A cap zs hbs hA J Jx hY W (pw_cell_below hW hBs) (Kd.C_below hc hW) h0


end
section
open Go.Shelf
attribute [local go_sem] Oper.semAt_some
def hitP (s t : Int) (x : S30) : Bool := x.f0 == s && decide (x.f1 ≤ t)
theorem bk_rev' (zs : List S30) : (bk zs z30 zs.length).map (fun x => x.2) = zs.reverse := by
  apply List.ext_getElem
  · simp [bk]
  · intro i h1 h2
    have : zs.length - 1 - i < zs.length := by simp [bk] at h1; omega
    simp [bk, List.getD_eq_getElem?_getD, List.getElem?_eq_getElem this]
theorem bk_take (zs : List S30) (k : Nat) (hk : k ≤ zs.length) : (bk zs z30 k).map (fun x => x.2) = zs.reverse.take k := by
  apply List.ext_getElem
  · simp [bk]; omega
  · intro i h1 h2
    have : zs.length - 1 - i < zs.length := by simp [bk] at h1; omega
    simp [bk, List.getD_eq_getElem?_getD, List.getElem?_eq_getElem this]
def lastP (l : List S30) (s t : Int) : S30 × Bool := match l.reverse.find? (hitP s t) with
  | some x => (x, true)
  | none => (z30, false)
theorem lastP_none (l : List S30) (s t : Int) (h : ∀ x ∈ l.reverse, hitP s t x = false) : lastP l s t = (z30, false) := by
  unfold lastP
  rw [List.find?_eq_none.2 (fun x hx => by simp [h x hx])]
theorem lastP_some (l : List S30) (s t : Int) (k : Nat) (pre : List S30) (x : S30) (e : l.reverse.take k = pre ++ [x]) (hn : ∀ y ∈ pre, hitP s t y = false) (hx : hitP s t x = true) : lastP l s t = (x, true) := by
  have : l.reverse = pre ++ x :: l.reverse.drop k := by
    conv => lhs; rw [← List.take_append_drop k l.reverse, e]
    simp
  unfold lastP
  rw [this, List.find?_append, List.find?_eq_none.2 (fun y hy => by simp [hn y hy])]
  simp [hx]
def xcells (x : S30) : Array Value := #[.int .i64 x.f0, .int .i64 x.f1, .int .i64 x.f2, .int .i64 x.f3, .int .i64 x.f4, .int .i64 x.f5]
def put7 (W : World) (b b2 : Nat) (x : S30) (v : Bool) : World := ((((((W.setCell ⟨b, 0, none⟩ (.int .i64 x.f0)).setCell ⟨b, 1, none⟩ (.int .i64 x.f1)).setCell ⟨b, 2, none⟩ (.int .i64 x.f2)).setCell ⟨b, 3, none⟩ (.int .i64 x.f3)).setCell ⟨b, 4, none⟩ (.int .i64 x.f4)).setCell ⟨b, 5, none⟩ (.int .i64 x.f5)).setCell ⟨b2, 0, none⟩ (.bool v)
theorem put7_far (W : World) (b b2 : Nat) (x : S30) (v : Bool) (k : Nat) (h1 : k ≠ b) (h2 : k ≠ b2) : (put7 W b b2 x v).heap[k]? = W.heap[k]? := by
  unfold put7
  rw [Below.heap_setCell _ _ _ k h2, Below.heap_setCell _ _ _ k h1, Below.heap_setCell _ _ _ k h1, Below.heap_setCell _ _ _ k h1, Below.heap_setCell _ _ _ k h1, Below.heap_setCell _ _ _ k h1, Below.heap_setCell _ _ _ k h1]
theorem put7_size (W : World) (b b2 : Nat) (x : S30) (v : Bool) : (put7 W b b2 x v).heap.size = W.heap.size := by simp [put7, World.setCell]
theorem put7_below {B : Nat} {A W : World} (h : Below B A W) {b b2 : Nat} (h1 : B ≤ b) (h2 : B ≤ b2) (x : S30) (v : Bool) : Below B A (put7 W b b2 x v) :=
  ((((((h.setCell (p := ⟨b, 0, none⟩) h1 _).setCell (p := ⟨b, 1, none⟩) h1 _).setCell (p := ⟨b, 2, none⟩) h1 _).setCell (p := ⟨b, 3, none⟩) h1 _).setCell (p := ⟨b, 4, none⟩) h1 _).setCell (p := ⟨b, 5, none⟩) h1 _).setCell (p := ⟨b2, 0, none⟩) h2 _
theorem put7_keeps {B : Nat} (W : World) {b b2 : Nat} (h1 : b < B) (h2 : b2 < B) (x : S30) (v : Bool) : KeepsFrom B W (put7 W b b2 x v) :=
  ⟨by rw [put7_size]; exact Nat.le_refl _, fun k o hk ho _ => (put7_far W b b2 x v k (by omega) (by omega)).trans ho⟩
theorem put7_one {W : World} {b b2 : Nat} (z : S30) (hne : b ≠ b2) (h : W.heap[b]? = some (.cells (xcells z) 30 (0, 0))) (x : S30) (v : Bool) : (put7 W b b2 x v).heap[b]? = some (.cells (xcells x) 30 (0, 0)) := by
  unfold put7
  rw [Below.heap_setCell _ _ _ b hne]
  exact blk_set (blk_set (blk_set (blk_set (blk_set (blk_set h 0 _) 1 _) 2 _) 3 _) 4 _) 5 _
theorem put7_two {W : World} {b b2 : Nat} (u : Bool) (hne : b ≠ b2) (h : W.heap[b2]? = some (.cells #[.bool u] 4 (0, 0))) (x : S30) (v : Bool) : (put7 W b b2 x v).heap[b2]? = some (.cells #[.bool v] 4 (0, 0)) := by
  have hn : b2 ≠ b := fun e => hne e.symm
  have h2 : ((((((W.setCell ⟨b, 0, none⟩ (.int .i64 x.f0)).setCell ⟨b, 1, none⟩ (.int .i64 x.f1)).setCell ⟨b, 2, none⟩ (.int .i64 x.f2)).setCell ⟨b, 3, none⟩ (.int .i64 x.f3)).setCell ⟨b, 4, none⟩ (.int .i64 x.f4)).setCell ⟨b, 5, none⟩ (.int .i64 x.f5)).heap[b2]? = some (.cells #[.bool u] 4 (0, 0)) := by
    rw [Below.heap_setCell _ _ _ b2 hn, Below.heap_setCell _ _ _ b2 hn, Below.heap_setCell _ _ _ b2 hn, Below.heap_setCell _ _ _ b2 hn, Below.heap_setCell _ _ _ b2 hn, Below.heap_setCell _ _ _ b2 hn]
    exact h
  exact blk_set h2 0 (.bool v)
theorem res14 (tmps : Array Value) (W : World) (b b2 : Nat) (x : S30) (v : Bool) (h1 : tmps.getD 6 undef = .pointer (some ⟨b, 0, none⟩)) (h2 : tmps.getD 7 undef = .pointer (some ⟨b2, 0, none⟩)) (h5 : W.heap[b]? = some (.cells (xcells x) 30 (0, 0))) (h6 : W.heap[b2]? = some (.cells #[.bool v] 4 (0, 0))) :
    (results Try.f14 tmps).run Try.prog W = .ok (.tuple #[encP x, .bool v]) W := by
  have hu30 := Try.underlying30
  have y6 : W.cell? ⟨b2, 0, none⟩ = some (.bool v) := (blk_cell h6 0).trans rfl
  have h1' : tmps[6]?.getD undef = .pointer (some ⟨b, 0, none⟩) := by simpa using h1
  have h2' : tmps[7]?.getD undef = .pointer (some ⟨b2, 0, none⟩) := by simpa using h2
  have z0 : W.cell? ⟨b, 0, none⟩ = some (.int .i64 x.f0) := (blk_cell h5 0).trans rfl
  have z1 : W.cell? ⟨b, 1, none⟩ = some (.int .i64 x.f1) := (blk_cell h5 1).trans rfl
  have z2 : W.cell? ⟨b, 2, none⟩ = some (.int .i64 x.f2) := (blk_cell h5 2).trans rfl
  have z3 : W.cell? ⟨b, 3, none⟩ = some (.int .i64 x.f3) := (blk_cell h5 3).trans rfl
  have z4 : W.cell? ⟨b, 4, none⟩ = some (.int .i64 x.f4) := (blk_cell h5 4).trans rfl
  have z5 : W.cell? ⟨b, 5, none⟩ = some (.int .i64 x.f5) := (blk_cell h5 5).trans rfl
  have hr : Try.f14.results = #[.cell 6 30, .cell 7 4] := rfl
  simp [results, hr, h1', h2', asAddr, go_sem, y6, z0, z1, z2, z3, z4, z5, encP]
set_option maxHeartbeats 8000000 in
set_option maxRecDepth 100000 in
theorem last_calls (A0 : Option Addr) (c0 : Nat) (l0 : List S30) (s t : Int) (w : World) (hr0 : Kd.C k30 w A0 l0.length l0) (hc0 : l0.length ≤ c0) :
    Calls Try.prog 14 #[.slice A0 l0.length c0, .int .i64 s, .int .i64 t] w fun e w' => e = .returned (.tuple #[encP (lastP l0 s t).1, .bool (lastP l0 s t).2]) ∧ Below w.heap.size w w' := by
  have hu30 := Try.underlying30
  have hu22 := Try.underlying22
  have HR0 := Aside0.mk hr0
  have HC0 := Aside0.mk hc0
  have hlen := hr0.2.1
  have hAb : ∀ ad, A0 = some ad → 0 < l0.length → ad.block < w.heap.size := fun ad hA hp => by
    obtain ⟨ad1, e1, h0, _⟩ := at_T30 hr0 0 (Int.le_refl _) (by omega)
    rw [hA] at e1
    cases e1
    have := World.block_lt_of_cell? w _ h0
    rwa [add_block] at this
  have HAB := Aside0.mk hAb
  clear hr0 hc0 hAb
  refine (callsIn_wide (n := 8)).1 ?_
  refine callsIn_of_wp_marks Try.func14 rfl trivial ?_ rfl
  simp only [Try.ntmps14, List.size_toArray, List.length_cons, List.length_nil, Nat.reduceAdd, Nat.reduceSub, Array.replicate_succ, Array.replicate_zero, List.push_toArray, List.append_toArray, List.nil_append, List.cons_append]
  gi_wp2_with (refine ⟨trivial, ?_⟩; gi_at_call 29; refine (backward_mk _ _ _ _ _).mono ?_; rintro e w' ⟨rfl, rfl⟩)
  obtain ⟨W1, hW1⟩ : ∃ W1, (((((w.alloc (Obj.cells #[Value.int IntKind.i64 s] 3)).alloc (Obj.cells #[Value.int IntKind.i64 t] 3)).alloc (Obj.cells #[Value.int IntKind.i64 0, Value.int IntKind.i64 0, Value.int IntKind.i64 0, Value.int IntKind.i64 0, Value.int IntKind.i64 0, Value.int IntKind.i64 0] 30)).alloc (Obj.cells #[Value.bool false] 4)).alloc (Obj.cells #[Value.slice A0 l0.length c0] 22)) = W1 := ⟨_, rfl⟩
  have hs1 : W1.heap.size = w.heap.size + 5 := by rw [← hW1]; simp
  have hBw1 : Below w.heap.size w W1 := by rw [← hW1]; exact below_alloc (below_alloc (below_alloc (below_alloc (below_alloc (Below.refl _ _) _) _) _) _) _
  have g0 : W1.heap[w.heap.size]? = some (.cells #[.int .i64 s] 3 (0, 0)) := by rw [← hW1]; exact blk_alloc (blk_alloc (blk_alloc (blk_alloc (blk_new w _) _) _) _) _
  have g1 : W1.heap[w.heap.size + 1]? = some (.cells #[.int .i64 t] 3 (0, 0)) := by
    have := blk_alloc (blk_alloc (blk_alloc (blk_new (w.alloc (Obj.cells #[Value.int IntKind.i64 s] 3)) (.cells #[.int .i64 t] 3)) (Obj.cells #[Value.int IntKind.i64 0, Value.int IntKind.i64 0, Value.int IntKind.i64 0, Value.int IntKind.i64 0, Value.int IntKind.i64 0, Value.int IntKind.i64 0] 30)) (Obj.cells #[Value.bool false] 4)) (Obj.cells #[Value.slice A0 l0.length c0] 22)
    simp only [World.size_alloc] at this
    rwa [hW1] at this
  have g2 : W1.heap[w.heap.size + 1 + 1]? = some (.cells (xcells z30) 30 (0, 0)) := by
    have := blk_alloc (blk_alloc (blk_new ((w.alloc (Obj.cells #[Value.int IntKind.i64 s] 3)).alloc (Obj.cells #[Value.int IntKind.i64 t] 3)) (Obj.cells #[Value.int IntKind.i64 0, Value.int IntKind.i64 0, Value.int IntKind.i64 0, Value.int IntKind.i64 0, Value.int IntKind.i64 0, Value.int IntKind.i64 0] 30)) (Obj.cells #[Value.bool false] 4)) (Obj.cells #[Value.slice A0 l0.length c0] 22)
    simp only [World.size_alloc] at this
    rwa [hW1] at this
  have g3 : W1.heap[w.heap.size + 1 + 1 + 1]? = some (.cells #[.bool false] 4 (0, 0)) := by
    have := blk_alloc (blk_new (((w.alloc (Obj.cells #[Value.int IntKind.i64 s] 3)).alloc (Obj.cells #[Value.int IntKind.i64 t] 3)).alloc (Obj.cells #[Value.int IntKind.i64 0, Value.int IntKind.i64 0, Value.int IntKind.i64 0, Value.int IntKind.i64 0, Value.int IntKind.i64 0, Value.int IntKind.i64 0] 30)) (Obj.cells #[Value.bool false] 4)) (Obj.cells #[Value.slice A0 l0.length c0] 22)
    simp only [World.size_alloc] at this
    rwa [hW1] at this
  have g4 : W1.heap[w.heap.size + 1 + 1 + 1 + 1]? = some (.cells #[.slice A0 l0.length c0] 22 (0, 0)) := by
    have := blk_new ((((w.alloc (Obj.cells #[Value.int IntKind.i64 s] 3)).alloc (Obj.cells #[Value.int IntKind.i64 t] 3)).alloc (Obj.cells #[Value.int IntKind.i64 0, Value.int IntKind.i64 0, Value.int IntKind.i64 0, Value.int IntKind.i64 0, Value.int IntKind.i64 0, Value.int IntKind.i64 0] 30)).alloc (Obj.cells #[Value.bool false] 4)) (Obj.cells #[Value.slice A0 l0.length c0] 22)
    simp only [World.size_alloc] at this
    rwa [hW1] at this
  rw [hW1]
  have hstops := backward_stops (8 - 1) (by omega) (w.heap.size + 1 + 1 + 1 + 1) W1.heap.size W1.heap.size A0 c0 l0 ⟨by omega, by omega⟩ (fun ad hA hp => by have := HAB.out ad hA hp; omega) W1 ((blk_cell g4 0).trans rfl) (Kd.C_below HR0.out hBw1)
  have HS1 := Aside0.mk hs1
  have HBW1 := Aside0.mk hBw1
  clear hs1 hW1
  refine wpIn_rangeFunc_ownH rfl (by omega) (gf := 33) (lb := #[.pointer (some ⟨w.heap.size + 1 + 1 + 1 + 1, 0, none⟩)]) rfl trivial (enters_of Try.func33 (by kernel_rfl) rfl) hstops KB.trans
    (fun W l o o' hl hlo hc1 _ => ⟨(grownBy_putObj' W l o').size, fun k_ hk _ => (grownBy_putObj' W l o').block k_ (by have := (Array.getElem?_eq_some_iff.1 hlo).1; omega) (fun e => by cases e; omega)⟩) (Below.refl _ _) (fun _ => rfl)
    (fun pre W => Below W1.heap.size W1 W ∧ ∀ x ∈ pre, hitP s t x.2 = false)
    (fun c pre W => c = .ret ∧ ∃ pre' x, pre = pre' ++ [x] ∧ (∀ y ∈ pre', hitP s t y.2 = false) ∧ hitP s t x.2 = true ∧ Below w.heap.size w W ∧ w.heap.size + 5 ≤ W.heap.size ∧ W.heap[w.heap.size + 1 + 1]? = some (.cells (xcells x.2) 30 (0, 0)) ∧ W.heap[w.heap.size + 1 + 1 + 1]? = some (.cells #[.bool true] 4 (0, 0)))
    (fun pre X Y row hs hg hr => ?own) (fun c pre X Y row hs hg hr => ?ownx) ?start
    (fun x a' W => ∃ B, W1.heap.size ≤ B ∧ W.heap[B]? = some (.cells (xcells x.2) 30 (0, 0)) ∧ a' = { tmps := #[.slice A0 l0.length c0, .int .i64 s, .int .i64 t, undef, .pointer (some ⟨w.heap.size, 0, none⟩), .pointer (some ⟨w.heap.size + 1, 0, none⟩), .pointer (some ⟨w.heap.size + 1 + 1, 0, none⟩), .pointer (some ⟨w.heap.size + 1 + 1 + 1, 0, none⟩), undef, .pointer (some ⟨B, 0, none⟩), .slice A0 l0.length c0, .func (.func 33) #[] #[.pointer (some ⟨w.heap.size + 1 + 1 + 1 + 1, 0, none⟩)], .int .i64 x.1, encP x.2, undef, undef, undef, undef, undef, undef, undef, undef, undef, undef, undef, undef], defers := [] })
    (fun x a' u X Y row hs hg hr => ?ownA) ?assign ?body ?done ?stop
  case own => exact ⟨hs.1.grown hg hs.1.size (fun k e => (hr k e).1), hs.2⟩
  case ownx =>
    obtain ⟨hc, pre', x, e, h1, h2, h3, h4, h5, h6⟩ := hs
    have hs1 := HS1.out
    refine ⟨hc, pre', x, e, h1, h2, h3.grown hg h3.size (fun k e => by have := (hr k e).1; omega), by have := hg.size; omega, ?_, ?_⟩
    · exact (hg.block _ (blk_lt h5) (fun e => by have := (hr _ e.symm).1; omega)).trans h5
    · exact (hg.block _ (blk_lt h6) (fun e => by have := (hr _ e.symm).1; omega)).trans h6
  case start => exact ⟨Below.refl _ _, fun x hx => by cases hx⟩
  case ownA =>
    obtain ⟨B, hB, h1, e⟩ := hs
    refine ⟨B, hB, (hg.block _ (blk_lt h1) (fun e => ?_)).trans h1, e⟩
    obtain ⟨_, o, ho, hn⟩ := hr B e.symm
    rw [h1] at ho
    injection ho with ho
    subst ho
    simp [Obj.isCells] at hn
  case assign =>
    intro l pre x W K hI hK
    dsimp only [encP]
    gi_wp2
    refine hK _ _ (KeepsFrom.of_grownBy (World.grownBy_alloc _ _ none) (fun j e => by cases e)) (KB.below ((below_alloc (Below.refl _ W) _).mono hI.1.size)) ⟨below_alloc hI.1 _, hI.2⟩ ⟨W.heap.size, hI.1.size, blk_new _ _, rfl⟩
  case body =>
    rintro l pre x a' W hl _ ⟨hb, hpre⟩ ⟨B, hB, hx, rfl⟩ hlen
    have hs1 := HS1.out
    have b0 : W.cell? ⟨w.heap.size, 0, none⟩ = some (.int .i64 s) := (hb.cell (p := ⟨w.heap.size, 0, none⟩) (by show w.heap.size < _; omega)).trans ((blk_cell g0 0).trans rfl)
    have b1 : W.cell? ⟨w.heap.size + 1, 0, none⟩ = some (.int .i64 t) := (hb.cell (p := ⟨w.heap.size + 1, 0, none⟩) (by show w.heap.size + 1 < _; omega)).trans ((blk_cell g1 0).trans rfl)
    have x0 : W.cell? ⟨B, 0, none⟩ = some (.int .i64 x.2.f0) := (blk_cell hx 0).trans rfl
    have x1 : W.cell? ⟨B, 1, none⟩ = some (.int .i64 x.2.f1) := (blk_cell hx 1).trans rfl
    have x2 : W.cell? ⟨B, 2, none⟩ = some (.int .i64 x.2.f2) := (blk_cell hx 2).trans rfl
    have x3 : W.cell? ⟨B, 3, none⟩ = some (.int .i64 x.2.f3) := (blk_cell hx 3).trans rfl
    have x4 : W.cell? ⟨B, 4, none⟩ = some (.int .i64 x.2.f4) := (blk_cell hx 4).trans rfl
    have x5 : W.cell? ⟨B, 5, none⟩ = some (.int .i64 x.2.f5) := (blk_cell hx 5).trans rfl
    clear hs1
    dsimp only [encP]
    cases c1 : (x.2.f0 == s) with
    | false =>
      have hh : hitP s t x.2 = false := by simp [hitP, c1]
      have hq : ∀ y ∈ pre ++ [x], hitP s t y.2 = false := fun y hy => (List.mem_append.1 hy).elim (fun h => hpre y h) (fun h => by rw [List.mem_singleton.1 h]; exact hh)
      gi_wp2
      first | exact ⟨KeepsFrom.refl _ _, KB.refl _ _ _, hb, hq⟩ | exact ⟨KeepsFrom.refl _ _, KB.refl _ _ _, hb, fun a b hab => hq (a, b) hab⟩
    | true =>
      by_cases c2 : x.2.f1 ≤ t
      · have hh : hitP s t x.2 = true := by simp [hitP, c1, c2]
        have k2 : W.heap[w.heap.size + 1 + 1]? = some (.cells (xcells z30) 30 (0, 0)) := (hb.block _ (by have := HS1.out; omega)).trans g2
        have k3 : W.heap[w.heap.size + 1 + 1 + 1]? = some (.cells #[.bool false] 4 (0, 0)) := (hb.block _ (by have := HS1.out; omega)).trans g3
        have y0 : W.cell? ⟨w.heap.size + 1 + 1, 0, none⟩ = some (.int .i64 0) := (blk_cell k2 0).trans rfl
        have y1 : W.cell? ⟨w.heap.size + 1 + 1, 1, none⟩ = some (.int .i64 0) := (blk_cell k2 1).trans rfl
        have y2 : W.cell? ⟨w.heap.size + 1 + 1, 2, none⟩ = some (.int .i64 0) := (blk_cell k2 2).trans rfl
        have y3 : W.cell? ⟨w.heap.size + 1 + 1, 3, none⟩ = some (.int .i64 0) := (blk_cell k2 3).trans rfl
        have y4 : W.cell? ⟨w.heap.size + 1 + 1, 4, none⟩ = some (.int .i64 0) := (blk_cell k2 4).trans rfl
        have y5 : W.cell? ⟨w.heap.size + 1 + 1, 5, none⟩ = some (.int .i64 0) := (blk_cell k2 5).trans rfl
        have y6 : W.cell? ⟨w.heap.size + 1 + 1 + 1, 0, none⟩ = some (.bool false) := (blk_cell k3 0).trans rfl
        have f0 := blk_frozen k2 0
        have f1 := blk_frozen k2 1
        have f2 := blk_frozen k2 2
        have f3 := blk_frozen k2 3
        have f4 := blk_frozen k2 4
        have f5 := blk_frozen k2 5
        have f6 := blk_frozen k3 0
        gi_wp2
        have hs1 := HS1.out
        have e1 : KeepsFrom W1.heap.size W (put7 W (w.heap.size + 1 + 1) (w.heap.size + 1 + 1 + 1) x.2 true) := put7_keeps W (by omega) (by omega) x.2 true
        have e2 : Below w.heap.size w (put7 W (w.heap.size + 1 + 1) (w.heap.size + 1 + 1 + 1) x.2 true) := put7_below ((HBW1.out).trans (hb.mono (by omega))) (by omega) (by omega) x.2 true
        have e3 : w.heap.size + 5 ≤ (put7 W (w.heap.size + 1 + 1) (w.heap.size + 1 + 1 + 1) x.2 true).heap.size := by rw [put7_size]; have := hb.size; omega
        have e4 := put7_one z30 (show w.heap.size + 1 + 1 ≠ w.heap.size + 1 + 1 + 1 by omega) k2 x.2 true
        have e5 := put7_two false (show w.heap.size + 1 + 1 ≠ w.heap.size + 1 + 1 + 1 by omega) k3 x.2 true
        unfold put7 at e1 e2 e3 e4 e5
        exact ⟨e1, rfl, pre, x, rfl, hpre, hh, e2, e3, e4, e5⟩
      · have hh : hitP s t x.2 = false := by simp [hitP, c2]
        have hq : ∀ y ∈ pre ++ [x], hitP s t y.2 = false := fun y hy => (List.mem_append.1 hy).elim (fun h => hpre y h) (fun h => by rw [List.mem_singleton.1 h]; exact hh)
        gi_wp2
        first | exact ⟨KeepsFrom.refl _ _, KB.refl _ _ _, hb, hq⟩ | exact ⟨KeepsFrom.refl _ _, KB.refl _ _ _, hb, fun a b hab => hq (a, b) hab⟩
  case done =>
    rintro D ys W hD rfl ⟨hb, hpre⟩ hK
    have k2 : W.heap[w.heap.size + 1 + 1]? = some (.cells (xcells z30) 30 (0, 0)) := (hb.block _ (by have := HS1.out; omega)).trans g2
    have k3 : W.heap[w.heap.size + 1 + 1 + 1]? = some (.cells #[.bool false] 4 (0, 0)) := (hb.block _ (by have := HS1.out; omega)).trans g3
    have y0 : W.cell? ⟨w.heap.size + 1 + 1, 0, none⟩ = some (.int .i64 0) := (blk_cell k2 0).trans rfl
    have y1 : W.cell? ⟨w.heap.size + 1 + 1, 1, none⟩ = some (.int .i64 0) := (blk_cell k2 1).trans rfl
    have y2 : W.cell? ⟨w.heap.size + 1 + 1, 2, none⟩ = some (.int .i64 0) := (blk_cell k2 2).trans rfl
    have y3 : W.cell? ⟨w.heap.size + 1 + 1, 3, none⟩ = some (.int .i64 0) := (blk_cell k2 3).trans rfl
    have y4 : W.cell? ⟨w.heap.size + 1 + 1, 4, none⟩ = some (.int .i64 0) := (blk_cell k2 4).trans rfl
    have y5 : W.cell? ⟨w.heap.size + 1 + 1, 5, none⟩ = some (.int .i64 0) := (blk_cell k2 5).trans rfl
    have y6 : W.cell? ⟨w.heap.size + 1 + 1 + 1, 0, none⟩ = some (.bool false) := (blk_cell k3 0).trans rfl
    have f0 := blk_frozen k2 0
    have f1 := blk_frozen k2 1
    have f2 := blk_frozen k2 2
    have f3 := blk_frozen k2 3
    have f4 := blk_frozen k2 4
    have f5 := blk_frozen k2 5
    have f6 := blk_frozen k3 0
    have HK := Aside0.mk hK
    clear hK
    gi_wp2
    have hs1 := HS1.out
    have hK' : (put7 W (w.heap.size + 1 + 1) (w.heap.size + 1 + 1 + 1) z30 false).heap[D]? = some (.deferred (some [])) := (put7_far _ _ _ _ _ D (by omega) (by omega)).trans HK.out
    have m2 := put7_one z30 (show w.heap.size + 1 + 1 ≠ w.heap.size + 1 + 1 + 1 by omega) k2 z30 false
    have m3 := put7_two false (show w.heap.size + 1 + 1 ≠ w.heap.size + 1 + 1 + 1 by omega) k3 z30 false
    have hB : Below w.heap.size w (put7 W (w.heap.size + 1 + 1) (w.heap.size + 1 + 1 + 1) z30 false) := put7_below ((HBW1.out).trans (hb.mono (by omega))) (by omega) (by omega) z30 false
    have gD := grownBy_putObj' (put7 W (w.heap.size + 1 + 1) (w.heap.size + 1 + 1 + 1) z30 false) D (Obj.deferred none)
    have hB3 : Below w.heap.size w ((put7 W (w.heap.size + 1 + 1) (w.heap.size + 1 + 1 + 1) z30 false).putObj D (Obj.deferred none)) := hB.grown gD hB.size (fun k e => by cases e; omega)
    have k5 := (gD.block _ (blk_lt m2) (fun e => by cases e; omega)).trans m2
    have k6 := (gD.block _ (blk_lt m3) (fun e => by cases e; omega)).trans m3
    have hl : lastP l0 s t = (z30, false) := lastP_none l0 s t (fun x hx => by rw [← bk_rev'] at hx; obtain ⟨y, hy, rfl⟩ := List.mem_map.1 hx; exact hpre y hy)
    rw [hl]
    clear hB gD m2 m3 hl hpre hb
    have e0 : ∀ (tmps : Array Value) (dd : _) (W' : World), W' = put7 W (w.heap.size + 1 + 1) (w.heap.size + 1 + 1 + 1) z30 false → tmps.getD 6 undef = .pointer (some ⟨w.heap.size + 1 + 1, 0, none⟩) → tmps.getD 7 undef = .pointer (some ⟨w.heap.size + 1 + 1 + 1, 0, none⟩) → dd = [{ target := Target.collected D, args := #[] }] →
        bodyPostM Fence.wide 8 Try.prog Try.f14 (fun e w' => e = Ending.returned (Value.tuple #[encP (z30, false).1, Value.bool (z30, false).2]) ∧ Below w.heap.size w w') Exit.ret { tmps := tmps, defers := dd } W' := by
      intro tmps dd W' eW h1 h2 h3
      subst eW
      subst h3
      refine ⟨by simp, .inl ⟨_, _, rfl, run_takeDeferred hK', ?_⟩⟩
      exact ⟨.tuple #[encP z30, .bool false], res14 _ _ _ _ z30 false h1 h2 k5 k6, rfl, hB3⟩
    exact e0 _ _ _ rfl rfl rfl rfl
  case stop =>
    rintro D c pre W hD ⟨k, hk, rfl⟩ ⟨rfl, pre', x, e, h1, h2, h3, h4, h5, h6⟩ hK
    have y0 : W.cell? ⟨w.heap.size + 1 + 1, 0, none⟩ = some (.int .i64 x.2.f0) := (blk_cell h5 0).trans rfl
    have y1 : W.cell? ⟨w.heap.size + 1 + 1, 1, none⟩ = some (.int .i64 x.2.f1) := (blk_cell h5 1).trans rfl
    have y2 : W.cell? ⟨w.heap.size + 1 + 1, 2, none⟩ = some (.int .i64 x.2.f2) := (blk_cell h5 2).trans rfl
    have y3 : W.cell? ⟨w.heap.size + 1 + 1, 3, none⟩ = some (.int .i64 x.2.f3) := (blk_cell h5 3).trans rfl
    have y4 : W.cell? ⟨w.heap.size + 1 + 1, 4, none⟩ = some (.int .i64 x.2.f4) := (blk_cell h5 4).trans rfl
    have y5 : W.cell? ⟨w.heap.size + 1 + 1, 5, none⟩ = some (.int .i64 x.2.f5) := (blk_cell h5 5).trans rfl
    have y6 : W.cell? ⟨w.heap.size + 1 + 1 + 1, 0, none⟩ = some (.bool true) := (blk_cell h6 0).trans rfl
    have HL := Aside0.mk (lastP_some l0 s t k (pre'.map (fun y => y.2)) x.2 (by rw [← bk_take l0 k hk, e]; simp) (fun y hy => by obtain ⟨z, hz, rfl⟩ := List.mem_map.1 hy; exact h1 z hz) h2)
    have HK := Aside0.mk hK
    clear hK e h1 h2
    dsimp only
    gi_wp2
    have hs1 := HS1.out
    have gD := grownBy_putObj' W D (Obj.deferred none)
    have hB3 : Below w.heap.size w (W.putObj D (Obj.deferred none)) := h3.grown gD h3.size (fun k e => by cases e; omega)
    have k5 := (gD.block _ (blk_lt h5) (fun e => by cases e; omega)).trans h5
    have k6 := (gD.block _ (blk_lt h6) (fun e => by cases e; omega)).trans h6
    refine ⟨by simp, .inl ⟨_, _, rfl, run_takeDeferred HK.out, ?_⟩⟩
    refine ⟨.tuple #[encP x.2, .bool true], ?_, by rw [HL.out], hB3⟩
    refine res14 _ _ _ _ x.2 true ?_ ?_ k5 k6
    · rfl
    · rfl
end
def weather_Last.f (l0 : List S30) (a1 a2 : Int) : Option (Int × Int × Int × Int × Int × Int × Bool) := some ((lastP l0 a1 a2).1.f0, (lastP l0 a1 a2).1.f1, (lastP l0 a1 a2).1.f2, (lastP l0 a1 a2).1.f3, (lastP l0 a1 a2).1.f4, (lastP l0 a1 a2).1.f5, (lastP l0 a1 a2).2)
theorem weather_Last.calls (A0 : Option Addr) (c0 : Nat) (l0 : List S30) (a1 a2 : Int) (r1 : Int) (r2 : Int) (r3 : Int) (r4 : Int) (r5 : Int) (r6 : Int) (r7 : Bool) (w : World) (hr0 : Kd.C k30 w A0 l0.length l0) (hc0 : l0.length ≤ c0) (h : weather_Last.f l0 a1 a2 = some (r1, r2, r3, r4, r5, r6, r7)) :
    Calls Try.prog 14 #[.slice A0 l0.length c0, .int .i64 a1, .int .i64 a2] w fun e w' => e = .returned (.tuple #[.agg #[.int .i64 r1, .int .i64 r2, .int .i64 r3, .int .i64 r4, .int .i64 r5, .int .i64 r6], .bool r7]) ∧ Below w.heap.size w w' := by
  have e := Option.some.inj h
  simp only [Prod.mk.injEq] at e
  obtain ⟨rfl, rfl, rfl, rfl, rfl, rfl, rfl⟩ := e
  exact last_calls A0 c0 l0 a1 a2 w hr0 hc0

end Go.Proofs.Ythndidjhdijpnaa.P
