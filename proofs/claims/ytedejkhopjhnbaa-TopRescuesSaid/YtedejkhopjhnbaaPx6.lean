-- Printed for this claim by a program of the session, out of Lean's own print of the translation.
import Derived.Test.YtedejkhopjhnbaaPx0
import Derived.Test.YtedejkhopjhnbaaPx4
namespace Go.Proofs.Ytedejkhopjhnbaa.P
open Go.RowKit Go.Proofs.YtedejkhopjhnbaaW.PrintWords Go.Proofs.YtedejkhopjhnbaaW.PrintLast Go.Proofs.YtedejkhopjhnbaaW.PrintMore
attribute [local go_sem] max2_int min2_int max_two min_two max_three min_three max_four min_four   -- for this text's walks alone
set_option linter.unusedVariables false
set_option linter.unusedSimpArgs false

/-! ### rescue_Plan: function 13 -/
theorem C_block {α : Type} (d : Kd α) {W : World} {g e : Nat} {cs : List Value} {xs : List α} (hb : W.heap[g]? = some (.cells cs.toArray e (0, 0))) (hn : xs.length ≤ 9223372036854775807) (h : Reps (d.K W) d.sz xs cs) : d.C W (some ⟨g, 0, none⟩) xs.length xs := by
  refine ⟨rfl, hn, fun _ => ⟨_, rfl, fun j p hj => ⟨_, ?_, h.2 j p hj, fun i u hu => ?_⟩⟩⟩
  · exact d.K_len (h.2 j p hj)
  · have hlt : i < d.sz := by
      have := d.K_len (h.2 j p hj)
      have h2 := (List.getElem?_eq_some_iff.1 hu).1
      omega
    rw [List.getElem?_take_of_lt hlt, List.getElem?_drop] at hu
    rw [add_plain]
    exact (blk_cell hb _).trans (by simpa using hu)
theorem reps_int (W : World) (xs : List Int) : Reps ((Kd.int .i64).K W) (Kd.int .i64).sz xs (xs.map (Value.int .i64)) := by
  refine ⟨by simp [Kd.int, Kd.scalar], fun j p h => ?_⟩
  show ((xs.map (Value.int .i64)).drop (j * 1)).take 1 = [Value.int .i64 p]
  have hj := (List.getElem?_eq_some_iff.1 h).1
  rw [Nat.mul_one, List.drop_eq_getElem_cons (by simpa using hj)]
  simp [(List.getElem?_eq_some_iff.1 h).2]
theorem lit_ints (W : World) (xs : List Int) (hn : xs.length ≤ 9223372036854775807) : Kd.C (Kd.int .i64) (W.alloc (.cells (xs.map (Value.int .i64)).toArray 3)) (some ⟨W.heap.size, 0, none⟩) xs.length xs :=
  C_block _ (blk_new W _) hn (reps_int _ xs)

theorem eqlS43 (w : World) (a : Option Addr) (n c n2 c2 : Nat) : (binOp .eql 43 (.slice a n c) (.slice none n2 c2)).run Try.prog w = .ok (.bool a.isNone) w := Lib.run_eql_slice_nil w 43 3 a n c n2 c2 Try.underlying43
attribute [local go_sem] eqlS43
set_option maxHeartbeats 2000000 in
theorem cloneI_calls (A0 : Option Addr) (c0 : Nat) (l0 : List Int) (w : World) (hr0 : Kd.C (Kd.int .i64) w A0 l0.length l0) (hc0 : l0.length ≤ c0) (hL : l0.length < 2932031007402) :
    Calls Try.prog 49 #[.slice A0 l0.length c0] w fun e w' => ∃ v0_ : Value, e = .returned v0_ ∧ Kd.R (Kd.int .i64) 3 w' w.heap.size (fun _ => True) v0_ l0 ∧ Below w.heap.size w w' := by
  have hu43 := Try.underlying43
  have HR0 := Aside0.mk hr0
  have HC0 := Aside0.mk hc0
  have HL := Aside0.mk hL
  have hn := hr0.2.1
  cases A0 with
  | none =>
    have e : l0 = [] := by
      cases l0 with
      | nil => rfl
      | cons a t =>
        obtain ⟨ad, e, _⟩ := Kd.at_int hr0 0 (by omega) (by simp)
        cases e
    subst e
    clear hr0 hc0 hL
    simp only [List.length_nil]
    go_enter Try.func49, Try.ntmps49
    go_wp2
    go_ret
    exact ⟨_, rfl, Kd.R_nil _ _ _ _ _, Below.refl _ _⟩
  | some ad =>
    clear hr0 hc0 hL
    have HB := Aside0.mk (Below.refl w.heap.size w)
    go_enter Try.func49, Try.ntmps49
    go_wp2_with (first | ((with_reducible refine gate_dst (N := 5) rfl ?_); (try (refine gate_guard (by rfl) ?_; dsimp only)); refine Kd.R_lit (Kd.int .i64) _ 3 ?hg (N := 5) ?hd (xs := ([] : List (Int))) (inner := []) (ok := fun _ => True) (okp := fun _ => True) ?hr ?hp (fun _ hk => hk) trivial (Below.refl _ _) (Nat.le_refl _) (by simp) ?_; (case hd => rfl); (case hg => rfl); (case hr => first | (go_simp; done) | (go_simp; rfl)); (case hp => exact (Reps.none _ _)); intro v220 w17 ho18 hb hg_ hnew_; clear hg_ hnew_; have HO := Aside0.mk ho18; clear ho18; have HB2 := Aside0.mk hb; clear hb HB) | ((with_reducible refine gate_builtin (b := .append) (xs := #[.tmp 5, .tmp 6]) rfl ?_); (try (refine gate_guard (by rfl) ?_; dsimp only)); at_builtin; refine Kd.R_append_rows (Kd.int .i64) (w0 := w) w.heap.size rfl (.tmp 5) (.tmp 6) 43 3 (.int .i64 0) 8 rfl Try.underlying43 info3 rfl (by decide) (by omega) v220 [] l0 _ _ _ (fun _ => True) (fun _ => False) rfl rfl ?aO ?aR (fun _ _ h => h) (fun _ h => h.elim) ?aF ?aB ?aS ?aL ?_; (case aR => exact Kd.C_below HR0.out HB2.out); (case aB => exact HB2.out); (case aF => exact (fun _ _ => trivial)); (case aO => exact HO.out); (case aS => exact HB2.out.size); (case aL => have := HL.out; simp; omega); intro v223 w19 ho hb hg hat; have n0_ := Aside0.mk (hb); have n1_ := Aside0.mk (ho); clear hb ho hg hat))
    go_ret
    exact ⟨_, rfl, n1_.out, n0_.out⟩
theorem neqlS43 (w : World) (a : Option Addr) (n c n2 c2 : Nat) : (binOp .neq 43 (.slice a n c) (.slice none n2 c2)).run Try.prog w = .ok (.bool a.isSome) w := by
  simp only [binOp]
  simp [Op.equal, Op.maxDepth, Lib.run_equalIn_slice_nil w 9999 43 3 a n c n2 c2 Try.underlying43]
attribute [local go_sem] neqlS43
/-- the state of a search -/
structure St where
  tm : List Int
  e1 : Int
  e2 : Int
  e3 : Int
  b : Option (List Int)
  ls : Int
def mx2 (a b : Int) : Int := if a < b then b else a
def lastS (s : St) : Int := mx2 (mx2 s.e1 s.e2) s.e3
def cutS (s : St) : Bool := s.b.isSome && decide (s.ls ≤ lastS s)
def fwd (i t : Nat) (sec : Int) (s : St) : St := match t with
  | 1 => { s with tm := s.tm.set i 1, e1 := wrap64 (s.e1 + sec) }
  | 2 => { s with tm := s.tm.set i 2, e2 := wrap64 (s.e2 + sec) }
  | _ => { s with tm := s.tm.set i 3, e3 := wrap64 (s.e3 + sec) }
def bck (t : Nat) (sec : Int) (s : St) : St := match t with
  | 1 => { s with e1 := wrap64 (s.e1 - sec) }
  | 2 => { s with e2 := wrap64 (s.e2 - sec) }
  | _ => { s with e3 := wrap64 (s.e3 - sec) }
def loopS (rec : St → St) (i : Nat) (sec : Int) : Nat → St → St
  | 0, s => s
  | t + 1, s => bck (t + 1) sec (rec (fwd i (t + 1) sec (loopS rec i sec t s)))
def tryS (l : List S33) (tms : Nat) : Nat → Nat → St → St
  | 0, _, s => if cutS s then s else { s with b := some s.tm, ls := lastS s }
  | rem + 1, i, s => if cutS s then s else loopS (tryS l tms rem (i + 1)) i (rd_T33 l (i : Int)).f2 tms s
/-- the best assignment in memory -/
def BestIs (B T : Nat) (W : World) (v : Value) : Option (List Int) → Prop
  | none => v = .slice none 0 0
  | some bl => ∃ g c, v = .slice (some ⟨g, 0, none⟩) bl.length c ∧ bl.length ≤ c ∧ g ≠ B ∧ g ≠ T ∧ g < W.heap.size ∧ ∀ j, j < bl.length → W.cell? ⟨g, j, none⟩ = some (.int .i64 (bl.getD j 0))
/-- what a search keeps -/
structure KP (B T : Nat) (A W : World) : Prop where
  os : W.os = A.os
  tape : W.tape = A.tape
  output : W.output = A.output
  size : A.heap.size ≤ W.heap.size
  block : ∀ k, k < A.heap.size → k ≠ B → k ≠ T → W.heap[k]? = A.heap[k]?
theorem KP.refl (B T : Nat) (A : World) : KP B T A A := ⟨rfl, rfl, rfl, Nat.le_refl _, fun _ _ _ _ => rfl⟩
theorem KP.trans {B T : Nat} {A W X : World} (h : KP B T A W) (k : KP B T W X) : KP B T A X := ⟨k.os.trans h.os, k.tape.trans h.tape, k.output.trans h.output, Nat.le_trans h.size k.size, fun i h1 h2 h3 => (k.block i (Nat.lt_of_lt_of_le h1 h.size) h2 h3).trans (h.block i h1 h2 h3)⟩
theorem KP.cell {B T : Nat} {A W : World} (h : KP B T A W) {p : Addr} (h1 : p.block < A.heap.size) (h2 : p.block ≠ B) (h3 : p.block ≠ T) : W.cell? p = A.cell? p := World.cell?_of_block (w := A) (h.block p.block h1 h2 h3)
theorem KP.below {B T : Nat} {A W : World} (h : Below A.heap.size A W) : KP B T A W := ⟨h.os, h.tape, h.output, h.size, fun k h1 _ _ => h.block k h1⟩
theorem KP.drewN {B T : Nat} {A W : World} (h : KP B T A W) (n : Nat) : KP B T A (W.drewN n) := ⟨h.os, h.tape, h.output, h.size, h.block⟩
theorem KP.drew {B T : Nat} {A W : World} (h : KP B T A W) : KP B T A W.drew := ⟨h.os, h.tape, h.output, h.size, h.block⟩
theorem KP.setT {B T : Nat} {A W : World} (h : KP B T A W) (j : Nat) (v : Value) : KP B T A (W.setCell ⟨T, j, none⟩ v) :=
  ⟨h.os, h.tape, h.output, by simpa [World.setCell] using h.size, fun k h1 h2 h3 => (Below.heap_setCell W ⟨T, j, none⟩ v k h3).trans (h.block k h1 h2 h3)⟩
theorem KP.setB {B T : Nat} {A W : World} (h : KP B T A W) (j : Nat) (v : Value) : KP B T A (W.setCell ⟨B, j, none⟩ v) :=
  ⟨h.os, h.tape, h.output, by simpa [World.setCell] using h.size, fun k h1 h2 h3 => (Below.heap_setCell W ⟨B, j, none⟩ v k h2).trans (h.block k h1 h2 h3)⟩
theorem KP.to_below {B T N : Nat} {A W : World} (h : KP B T A W) (hN : N ≤ A.heap.size) (hB : N ≤ B) (hT : N ≤ T) : Below N A W :=
  ⟨h.os, h.tape, h.output, h.size, fun k hk => h.block k (by omega) (by omega) (by omega)⟩
def boxCells (G T cs : Nat) (n : Nat) (vb : Value) (s : St) : Array Value :=
  #[.slice (some ⟨G, 0, none⟩) n cs, .slice (some ⟨T, 0, none⟩) n n, .int .i64 0, .int .i64 s.e1, .int .i64 s.e2, .int .i64 s.e3, vb, .int .i64 s.ls]
/-- a search in memory -/
structure TI (B G T cs : Nat) (l : List S33) (W : World) (s : St) : Prop where
  box : ∃ vb, W.heap[B]? = some (.cells (boxCells G T cs l.length vb s) 57 (0, 0)) ∧ BestIs B T W vb s.b
  team : W.heap[T]? = some (.cells (s.tm.map (Value.int .i64)).toArray 3 (0, 0))
  len : s.tm.length = l.length
  bl : ∀ x, s.b = some x → x.length = l.length
  secs : ∀ j, j < l.length → W.cell? ⟨G, j * 3 + 2, none⟩ = some (.int .i64 (rd_T33 l (j : Int)).f2)
  gl : G < W.heap.size
theorem BestIs.keep {B T : Nat} {A W : World} {v : Value} {o : Option (List Int)} (h : BestIs B T A v o) (k : KP B T A W) : BestIs B T W v o := by
  cases o with
  | none => exact h
  | some bl =>
    obtain ⟨g, c, e, hc, h1, h2, h3, h4⟩ := h
    exact ⟨g, c, e, hc, h1, h2, Nat.lt_of_lt_of_le h3 k.size, fun j hj => (k.cell (p := ⟨g, j, none⟩) h3 h1 h2).trans (h4 j hj)⟩
theorem TI.move {B G T cs : Nat} {l : List S33} {A W : World} {s : St} (h : TI B G T cs l A s) (k : KP B T A W) (hGB : G ≠ B) (hGT : G ≠ T) (hB : W.heap[B]? = A.heap[B]?) (hT : W.heap[T]? = A.heap[T]?) : TI B G T cs l W s := by
  obtain ⟨vb, h1, h2⟩ := h.box
  exact ⟨⟨vb, hB.trans h1, h2.keep k⟩, hT.trans h.team, h.len, h.bl, fun j hj => (k.cell (p := ⟨G, j * 3 + 2, none⟩) h.gl hGB hGT).trans (h.secs j hj), Nat.lt_of_lt_of_le h.gl k.size⟩
/-- the team's cell is written -/
theorem TI.setTm {B G T cs : Nat} {l : List S33} {W : World} {s : St} (h : TI B G T cs l W s) (hGB : G ≠ B) (hGT : G ≠ T) (hBT : B ≠ T) (i : Nat) (t : Int) : TI B G T cs l (W.setCell ⟨T, i, none⟩ (.int .i64 t)) { s with tm := s.tm.set i t } := by
  obtain ⟨vb, h1, h2⟩ := h.box
  have k : KP B T W (W.setCell ⟨T, i, none⟩ (.int .i64 t)) := (KP.refl B T W).setT i _
  refine ⟨⟨vb, (Below.heap_setCell W ⟨T, i, none⟩ _ B hBT).trans h1, h2.keep k⟩, ?_, by simpa using h.len, h.bl, fun j hj => (k.cell (p := ⟨G, j * 3 + 2, none⟩) h.gl hGB hGT).trans (h.secs j hj), Nat.lt_of_lt_of_le h.gl k.size⟩
  rw [blk_set h.team]
  simp [List.map_set]
/-- cells of the search's own block are written -/
theorem TI.setE {B G T cs : Nat} {l : List S33} {W : World} {s s' : St} (h : TI B G T cs l W s) (hGB : G ≠ B) (hGT : G ≠ T) (hBT : B ≠ T) (j : Nat) (v : Value)
    (hj : ∀ vb, (boxCells G T cs l.length vb s).setIfInBounds j v = boxCells G T cs l.length vb s') (htm : s'.tm = s.tm) (hb : s'.b = s.b) : TI B G T cs l (W.setCell ⟨B, j, none⟩ v) s' := by
  obtain ⟨vb, h1, h2⟩ := h.box
  have k : KP B T W (W.setCell ⟨B, j, none⟩ v) := (KP.refl B T W).setB j _
  refine ⟨⟨vb, ?_, by rw [hb]; exact h2.keep k⟩, by rw [htm]; exact (Below.heap_setCell W ⟨B, j, none⟩ _ T (fun e => hBT e.symm)).trans h.team, by rw [htm]; exact h.len, by rw [hb]; exact h.bl, fun j hj => (k.cell (p := ⟨G, j * 3 + 2, none⟩) h.gl hGB hGT).trans (h.secs j hj), Nat.lt_of_lt_of_le h.gl k.size⟩
  rw [blk_set h1, hj]
theorem TI.cellB {B G T cs : Nat} {l : List S33} {W : World} {s : St} (h : TI B G T cs l W s) : ∃ vb, BestIs B T W vb s.b ∧ W.heap[B]? = some (.cells (boxCells G T cs l.length vb s) 57 (0, 0)) ∧
    W.cell? ⟨B, 0, none⟩ = some (.slice (some ⟨G, 0, none⟩) l.length cs) ∧ W.cell? ⟨B, 1, none⟩ = some (.slice (some ⟨T, 0, none⟩) l.length l.length) ∧ W.cell? ⟨B, 2, none⟩ = some (.int .i64 0) ∧ W.cell? ⟨B, 3, none⟩ = some (.int .i64 s.e1) ∧
    W.cell? ⟨B, 4, none⟩ = some (.int .i64 s.e2) ∧ W.cell? ⟨B, 5, none⟩ = some (.int .i64 s.e3) ∧ W.cell? ⟨B, 6, none⟩ = some vb ∧ W.cell? ⟨B, 7, none⟩ = some (.int .i64 s.ls) := by
  obtain ⟨vb, h1, h2⟩ := h.box
  exact ⟨vb, h2, h1, (blk_cell h1 0).trans rfl, (blk_cell h1 1).trans rfl, (blk_cell h1 2).trans rfl, (blk_cell h1 3).trans rfl, (blk_cell h1 4).trans rfl, (blk_cell h1 5).trans rfl, (blk_cell h1 6).trans rfl, (blk_cell h1 7).trans rfl⟩
/-- a better assignment is laid down -/
theorem TI.best {B G T cs : Nat} {l : List S33} {w w1 : World} {s : St} (h : TI B G T cs l w1 s) (hGB : G ≠ B) (hGT : G ≠ T) (hBT : B ≠ T) (k : KP B T w w1) (g c : Nat) (la : Int)
    (hc : s.tm.length ≤ c) (hgB : g ≠ B) (hgT : g ≠ T) (hg : g < w1.heap.size) (hx : ∀ j, j < s.tm.length → w1.cell? ⟨g, j, none⟩ = some (.int .i64 (s.tm.getD j 0))) :
    TI B G T cs l ((w1.setCell ⟨B, 6, none⟩ (.slice (some ⟨g, 0, none⟩) l.length c)).setCell ⟨B, 7, none⟩ (.int .i64 la)) { s with b := some s.tm, ls := la } ∧ KP B T w ((w1.setCell ⟨B, 6, none⟩ (.slice (some ⟨g, 0, none⟩) l.length c)).setCell ⟨B, 7, none⟩ (.int .i64 la)) := by
  obtain ⟨vb, h1, h2⟩ := h.box
  have k1 : KP B T w1 ((w1.setCell ⟨B, 6, none⟩ (.slice (some ⟨g, 0, none⟩) l.length c)).setCell ⟨B, 7, none⟩ (.int .i64 la)) := ((KP.refl B T w1).setB 6 _).setB 7 _
  have hTB : T ≠ B := fun e => hBT e.symm
  refine ⟨⟨⟨.slice (some ⟨g, 0, none⟩) l.length c, ?_, ?_⟩, ?_, h.len, ?_, fun j hj => (k1.cell (p := ⟨G, j * 3 + 2, none⟩) h.gl hGB hGT).trans (h.secs j hj), Nat.lt_of_lt_of_le h.gl k1.size⟩, k.trans k1⟩
  · rw [blk_set (blk_set h1 6 _) 7 _]
    rfl
  · exact ⟨g, c, by rw [h.len], hc, hgB, hgT, Nat.lt_of_lt_of_le hg k1.size, fun j hj => (k1.cell (p := ⟨g, j, none⟩) hg hgB hgT).trans (hx j hj)⟩
  · rw [Below.heap_setCell _ ⟨B, 7, none⟩ _ T hTB, Below.heap_setCell _ ⟨B, 6, none⟩ _ T hTB]
    exact h.team
  · intro x hx'
    cases hx'
    exact h.len
/-- a call of try with rem sections left -/
def TryOk (B G T cs : Nat) (l : List S33) (tms : Nat) (rem i : Nat) : Prop := ∀ (s : St) (w : World), TI B G T cs l w s →
  Calls Try.prog 30 #[.pointer (some ⟨B, 0, none⟩), .int .i64 i, .int .i64 tms] w fun e W' => e = .returned (.tuple #[]) ∧ TI B G T cs l W' (tryS l tms rem i s) ∧ KP B T w W'
theorem BestIs.some_ {B T : Nat} {W : World} {v : Value} {o : Option (List Int)} (h : BestIs B T W v o) : ∃ a n c, v = .slice a n c ∧ a.isSome = o.isSome := by
  cases o with
  | none => exact ⟨none, 0, 0, h, rfl⟩
  | some bl =>
    obtain ⟨g, c, e, _⟩ := h
    exact ⟨_, _, _, e, rfl⟩
set_option maxHeartbeats 16000000 in
set_option maxRecDepth 100000 in
theorem try_cut (B G T cs : Nat) (l : List S33) (tms : Nat) (hGB : G ≠ B) (hGT : G ≠ T) (hBT : B ≠ T) (rem i : Nat) (s : St) (w : World) (h : TI B G T cs l w s) (hc : cutS s = true) :
    Calls Try.prog 30 #[.pointer (some ⟨B, 0, none⟩), .int .i64 i, .int .i64 tms] w fun e W' => e = .returned (.tuple #[]) ∧ TI B G T cs l W' (tryS l tms rem i s) ∧ KP B T w W' := by
  have R : Aside0 (tryS l tms rem i s = s) := ⟨by cases rem <;> simp [tryS, hc]⟩
  have HTI := Aside0.mk h
  have hc' := hc
  unfold cutS at hc'
  rw [Bool.and_eq_true] at hc'
  obtain ⟨c1, c2⟩ := hc'
  have hu43 := Try.underlying43
  have hu57 := Try.underlying57
  have hu55 := Try.underlying55
  obtain ⟨vb, hb, -, q0, q1, q2, q3, q4, q5, q6, q7⟩ := h.cellB
  obtain ⟨a, n, c, rfl, hs⟩ := hb.some_
  rw [c1] at hs
  have HB := Aside0.mk hb
  have C2 := Aside0.mk c2
  clear h hb c1 hc c2
  go_enter Try.func30, Try.ntmps30
  go_wp2_with (fail)
  go_quiet (fail)
  rw [show (if (if s.e1 < s.e2 then s.e2 else s.e1) < s.e3 then s.e3 else (if s.e1 < s.e2 then s.e2 else s.e1)) = lastS s from rfl]
  have c2 := C2.out
  go_wp2
  refine bodyPost_ret (results_none rfl _ _ _) rfl ?_
  exact ⟨rfl, by rw [R.out]; exact HTI.out.move ((KP.refl B T w).drewN _) hGB hGT rfl rfl, (KP.refl B T w).drewN _⟩
set_option maxHeartbeats 16000000 in
set_option maxRecDepth 100000 in
theorem try_leaf (B G T cs : Nat) (l : List S33) (tms : Nat) (hGB : G ≠ B) (hGT : G ≠ T) (hBT : B ≠ T) (hl0 : 0 < l.length) (hl : l.length < 2932031007402) (s : St) (w : World) (h : TI B G T cs l w s) (hc : cutS s = false) :
    Calls Try.prog 30 #[.pointer (some ⟨B, 0, none⟩), .int .i64 l.length, .int .i64 tms] w fun e W' => e = .returned (.tuple #[]) ∧ TI B G T cs l W' (tryS l tms 0 l.length s) ∧ KP B T w W' := by
  have R : Aside0 (tryS l tms 0 l.length s = { s with b := some s.tm, ls := lastS s }) := ⟨by simp [tryS, hc]⟩
  have HTI := Aside0.mk h
  have hu43 := Try.underlying43
  have hu57 := Try.underlying57
  have hu55 := Try.underlying55
  have hu22 := Try.underlying22
  have hlen := h.len
  have hTw : T < w.heap.size := blk_lt h.team
  have hBw : B < w.heap.size := by
    obtain ⟨vb, h1, -⟩ := h.box
    exact blk_lt h1
  have CLN : Aside0 (∀ W, KP B T w W → W.heap[T]? = w.heap[T]? → Calls Try.prog 49 #[.slice (some ⟨T, 0, none⟩) l.length l.length] W fun e w' => ∃ v0 : Value, e = .returned v0 ∧ (∃ g c, v0 = .slice (some ⟨g, 0, none⟩) s.tm.length c ∧ s.tm.length ≤ c ∧ W.heap.size ≤ g ∧ g < w'.heap.size ∧ ∀ j, j < s.tm.length → w'.cell? ⟨g, j, none⟩ = some (.int .i64 (s.tm.getD j 0))) ∧ Below W.heap.size W w') := ⟨fun W hk hT => by
    have hC : Kd.C (Kd.int .i64) W (some ⟨T, 0, none⟩) s.tm.length s.tm := C_block _ (hT.trans h.team) (by omega) (reps_int _ _)
    have := cloneI_calls (some ⟨T, 0, none⟩) l.length s.tm W hC (by omega) (by omega)
    rw [hlen] at this
    refine this.mono ?_
    rintro e w' ⟨v0, rfl, hR, hb⟩
    refine ⟨v0, rfl, ?_, hb⟩
    obtain ⟨g, c, ev, hg, hgw, hcc⟩ := Kd.R_form hR (by omega)
    subst ev
    obtain ⟨A, n, eA, hn, hCC⟩ := Kd.R_reads hR
    injection eA with eA1 eA2 eA3
    subst eA1 eA3
    refine ⟨g, c, rfl, hn, hg, hgw, fun j hj => ?_⟩
    obtain ⟨ad, e1, hx⟩ := Kd.at_int hCC (j : Int) (by omega) (by omega)
    cases e1
    have h5 : w'.cell? ((⟨g, 0, none⟩ : Addr).add j) = some (.int .i64 (rd s.tm (j : Int))) := by simpa using hx
    rw [add_plain] at h5
    first | rw [h5] | (rw [Nat.zero_add] at h5; rw [h5])
    simp [rd]⟩
  obtain ⟨vb, hb, hbx, q0, q1, q2, q3, q4, q5, q6, q7⟩ := h.cellB
  obtain ⟨a, n, c, rfl, hs⟩ := hb.some_
  have f6 := blk_frozen hbx 6
  have f7 := blk_frozen hbx 7
  have HB := Aside0.mk hb
  have HC := Aside0.mk hc
  have HBX := Aside0.mk hbx
  have HTM := Aside0.mk h.team
  clear h hb hc hbx
  have c1 : (a.isSome && decide (s.ls ≤ lastS s)) = false := by rw [hs]; exact HC.out
  go_enter Try.func30, Try.ntmps30
  go_wp2_with (fail)
  go_quiet (fail)
  rw [show (if (if s.e1 < s.e2 then s.e2 else s.e1) < s.e3 then s.e3 else (if s.e1 < s.e2 then s.e2 else s.e1)) = lastS s from rfl]
  generalize lastS s = la at *
  cases a with
  | none =>
    clear c1 hs
    go_wp2_with (go_at_call 49; refine (CLN.out _ ((KP.refl B T w).drewN _) rfl).mono ?_; rintro e w1 ⟨v0, rfl, ⟨g, c2, rfl, hg⟩, hb1⟩; have r6 := (hb1.cell (p := ⟨B, 6, none⟩) hBw).trans q6; have r7 := (hb1.cell (p := ⟨B, 7, none⟩) hBw).trans q7; have g6 := blk_frozen ((hb1.block B hBw).trans HBX.out) 6; have g7 := blk_frozen ((hb1.block B hBw).trans HBX.out) 7; have HG1 := Aside0.mk hg; have HB1 := Aside0.mk hb1; clear hg hb1)
    refine bodyPost_ret (results_none rfl _ _ _) rfl ?_
    have HB0 : Below w.heap.size w w1 := below_then (pw_below_drewN (Below.refl _ _) _) (Nat.le_refl _) HB1.out
    have hT1 := HTI.out.move (KP.below HB0) hGB hGT (HB0.block B hBw) (HB0.block T hTw)
    obtain ⟨h1, h2, h3, h4⟩ := HG1.out
    have h2' : w.heap.size ≤ g := h2
    have := hT1.best hGB hGT hBT (KP.below HB0) g c2 la h1 (by omega) (by omega) h3 h4
    exact ⟨rfl, by rw [R.out]; exact this.1, this.2⟩
  | some ad =>
    have c2 : decide (s.ls ≤ la) = false := by simpa using c1
    clear c1 hs
    go_wp2_with (go_at_call 49; refine (CLN.out _ ((KP.refl B T w).drewN _) rfl).mono ?_; rintro e w1 ⟨v0, rfl, ⟨g, c2, rfl, hg⟩, hb1⟩; have r6 := (hb1.cell (p := ⟨B, 6, none⟩) hBw).trans q6; have r7 := (hb1.cell (p := ⟨B, 7, none⟩) hBw).trans q7; have g6 := blk_frozen ((hb1.block B hBw).trans HBX.out) 6; have g7 := blk_frozen ((hb1.block B hBw).trans HBX.out) 7; have HG1 := Aside0.mk hg; have HB1 := Aside0.mk hb1; clear hg hb1)
    refine bodyPost_ret (results_none rfl _ _ _) rfl ?_
    have HB0 : Below w.heap.size w w1 := below_then (pw_below_drewN (Below.refl _ _) _) (Nat.le_refl _) HB1.out
    have hT1 := HTI.out.move (KP.below HB0) hGB hGT (HB0.block B hBw) (HB0.block T hTw)
    obtain ⟨h1, h2, h3, h4⟩ := HG1.out
    have h2' : w.heap.size ≤ g := h2
    have := hT1.best hGB hGT hBT (KP.below HB0) g c2 la h1 (by omega) (by omega) h3 h4
    exact ⟨rfl, by rw [R.out]; exact this.1, this.2⟩
def try_T8 : Bool × List (List Nat × List Nat) := (true, [([], []), ([], []), ([0], [0]), ([2], [2]), ([3, 1], [1, 3]), ([4], [4]), ([], []), ([6], [6]), ([7], [7]), ([8], [8]), ([], []), ([9, 10], [9, 10]), ([11], [11]), ([12], [12]), ([5, 13], [5, 13]), ([0], [0]), ([15], [15]), ([16, 1, 0, 1, 2, 3, 4, 5, 6, 7, 8, 9, 10, 11, 12, 13, 14], [1, 16]), ([17, 14, 0, 1, 2, 3, 4, 5, 6, 7, 8, 9, 10, 11, 12, 13, 14], [14, 17])])
def try_B8 : List Nat := [0, 0, 1, 5, 15, 31, 0, 64, 192, 448, 0, 1984, 4032, 8128, 16383, 1, 32769, 131071, 262143]
theorem try_tab8 : rtab .any (opsOf Try.f30 8) = try_T8 := by kernel_rfl
theorem try_bits8 : waitsOk try_T8.2 try_B8 = true := by kernel_rfl
def try_T10 : Bool × List (List Nat × List Nat) := (true, [([], []), ([], []), ([0], [0]), ([2], [2]), ([3, 1], [1, 3]), ([4], [4]), ([], []), ([6], [6]), ([7], [7]), ([8], [8]), ([], []), ([9, 10], [9, 10]), ([11], [11]), ([12], [12]), ([5, 13], [5, 13]), ([0], [0]), ([15], [15]), ([16, 1, 0, 1, 2, 3, 4, 5, 6, 7, 8, 9, 10, 11, 12, 13, 14], [1, 16]), ([17, 14, 0, 1, 2, 3, 4, 5, 6, 7, 8, 9, 10, 11, 12, 13, 14], [14, 17])])
def try_B10 : List Nat := [0, 0, 1, 5, 15, 31, 0, 64, 192, 448, 0, 1984, 4032, 8128, 16383, 1, 32769, 131071, 262143]
theorem try_tab10 : rtab .any (opsOf Try.f30 10) = try_T10 := by kernel_rfl
theorem try_bits10 : waitsOk try_T10.2 try_B10 = true := by kernel_rfl
set_option maxHeartbeats 16000000 in
set_option maxRecDepth 100000 in
theorem try_loop (B G T cs : Nat) (l : List S33) (tms : Nat) (htm : tms ≤ 3) (hGB : G ≠ B) (hGT : G ≠ T) (hBT : B ≠ T) (hl : l.length < 2932031007402) (rem i : Nat) (hi : i < l.length) (ih : TryOk B G T cs l tms rem (i + 1)) (s : St) (w : World) (h : TI B G T cs l w s) (hc : cutS s = false) :
    Calls Try.prog 30 #[.pointer (some ⟨B, 0, none⟩), .int .i64 i, .int .i64 tms] w fun e W' => e = .returned (.tuple #[]) ∧ TI B G T cs l W' (tryS l tms (rem + 1) i s) ∧ KP B T w W' := by
  have R : Aside0 (tryS l tms (rem + 1) i s = loopS (tryS l tms rem (i + 1)) i (rd_T33 l (i : Int)).f2 tms s) := ⟨by simp [tryS, hc]⟩
  have HTI := Aside0.mk h
  have hu43 := Try.underlying43
  have hu57 := Try.underlying57
  have hu55 := Try.underlying55
  have hu22 := Try.underlying22
  have hu33 := Try.underlying33
  have hiz : (i : Int) < (l.length : Int) := by omega
  have hie : ((i : Int) == (l.length : Int)) = false := beq_eq_false_iff_ne.2 (by omega)
  have IH : Aside0 (∀ (s : St) (w : World), TI B G T cs l w s → Calls Try.prog 30 #[.pointer (some ⟨B, 0, none⟩), .int .i64 ((i : Int) + 1), .int .i64 tms] w fun e W' => e = .returned (.tuple #[]) ∧ TI B G T cs l W' (tryS l tms rem (i + 1) s) ∧ KP B T w W') := ⟨ih⟩
  obtain ⟨vb, hb, hbx, q0, q1, q2, q3, q4, q5, q6, q7⟩ := h.cellB
  obtain ⟨a, n, c, rfl, hs⟩ := hb.some_
  have HC := Aside0.mk hc
  have SEC : Aside0 (∀ W s, TI B G T cs l W s → W.cell? ⟨G, i * 3 + 2, none⟩ = some (.int .i64 (rd_T33 l (i : Int)).f2)) := ⟨fun W s h => h.secs i hi⟩
  clear h hb hc hbx ih
  have c1 : (a.isSome && decide (s.ls ≤ lastS s)) = false := by rw [hs]; exact HC.out
  generalize (rd_T33 l (i : Int)).f2 = sec at *
  go_enter Try.func30, Try.ntmps30
  go_wp2_with (fail)
  go_quiet (fail)
  rw [show (if (if s.e1 < s.e2 then s.e2 else s.e1) < s.e3 then s.e3 else (if s.e1 < s.e2 then s.e2 else s.e1)) = lastS s from rfl]
  generalize lastS s = la at *
  cases a with
  | none =>
    clear c1 hs
    go_wp2_with (fail)
    go_loopg [7] tms (fun gg s7 wr => ∃ (t : Nat) (tz : Int), t ≤ tms ∧ tms - t ≤ gg ∧ tz = (t : Int) + 1 ∧ s7 = .int .i64 tz ∧ Aside0 (TI B G T cs l wr (loopS (tryS l tms rem (i + 1)) i sec t s)) ∧ Aside0 (KP B T w wr))
    case atStart => exact ⟨0, 1, Nat.zero_le _, by omega, rfl, rfl, ⟨HTI.out.move ((KP.refl B T w).drewN _) hGB hGT rfl rfl⟩, ⟨(KP.refl B T w).drewN _⟩⟩
    case round =>
      clear HTI q0 q1 q2 q3 q4 q5 q6 q7
      obtain ⟨t, tz, ht, hg, htz, rfl, TC, KW⟩ := hrel
      by_cases hlt : t < tms
      · obtain rfl | rfl | rfl : t = 0 ∨ t = 1 ∨ t = 2 := by omega
        · obtain rfl : tz = 1 := by omega
          have htq : (1 : Int) ≤ (tms : Int) := by omega
          have htd : decide ((1 : Int) ≤ (tms : Int)) = true := decide_eq_true htq
          have LS : Aside0 (loopS (tryS l tms rem (i + 1)) i sec 1 s = bck 1 sec (tryS l tms rem (i + 1) (fwd i 1 sec (loopS (tryS l tms rem (i + 1)) i sec 0 s)))) := ⟨rfl⟩
          generalize loopS (tryS l tms rem (i + 1)) i sec 0 s = s1 at *
          have T1 := Aside0.mk (TC.out.setTm hGB hGT hBT i 1)
          have K1 := Aside0.mk (KW.out.setT i (.int .i64 1))
          clear htz
          obtain ⟨vb1, hb1, hbx1, p0, p1, p2, p3, p4, p5, p6, p7⟩ := TC.out.cellB
          obtain ⟨vb2, hb2, hbx2, r0, r1, r2, r3, r4, r5, r6, r7⟩ := T1.out.cellB
          have SC := Aside0.mk (SEC.out _ _ T1.out)
          have tf := blk_frozen TC.out.team i
          have tc : wr.cell? ⟨T, i, none⟩ = some (.int .i64 (s1.tm.getD i 0)) := (blk_cell TC.out.team i).trans (by have := TC.out.len; have h2 : i < s1.tm.length := (by omega); simp [List.getD_eq_getElem?_getD, List.getElem?_eq_getElem h2])
          have xf := blk_frozen hbx2 3
          clear hb1 hbx1 hb2 hbx2
          go_wp2_with (fail)
          clear p0 p1 p2 p3 p4 p5 p6 p7 tf tc
          have T1d : Aside0 (TI B G T cs l (wr.setCell ⟨T, i, none⟩ (.int .i64 1)).drew { s1 with tm := s1.tm.set i 1 }) := ⟨T1.out.move (KP.refl B T (wr.setCell ⟨T, i, none⟩ (.int .i64 1))).drew hGB hGT rfl rfl⟩
          have K1d : Aside0 (KP B T w (wr.setCell ⟨T, i, none⟩ (.int .i64 1)).drew) := ⟨K1.out.drew⟩
          have hx : (wr.setCell ⟨T, i, none⟩ (.int .i64 1)).drew.cell? ⟨B, 3, none⟩ = some (.int .i64 s1.e1) := r3
          have hf : (wr.setCell ⟨T, i, none⟩ (.int .i64 1)).drew.frozen? ⟨B, 3, none⟩ = false := xf
          refine start_ (n := 19) (S := fun w' => w'.cell? ⟨B, 3, none⟩ = some (.int .i64 s1.e1) ∧ w'.cell? ⟨B, 0, none⟩ = some (.slice (some ⟨G, 0, none⟩) l.length cs) ∧ w'.cell? ⟨G, i * 3 + 2, none⟩ = some (.int .i64 sec)) (ds := [18]) #[false, false, false, false, false, false, false, false, false, false, false, false, false, false, false, false, false, false, false] (by kernel_rfl) rfl rfl ⟨r3, r0, SC.out⟩ (fun hHeld => ?_)
          refine with_tabW try_tab8 try_bits8 (fun HT_ HW_ => ?_)
          generalize (wr.setCell ⟨T, i, none⟩ (.int .i64 1)).drew = wd at T1d K1d hx hf hHeld ⊢
          refine pure_ (i := 0) (N := some 68) (v := ?_) (a' := ?_) #[true, false, false, false, false, false, false, false, false, false, false, false, false, false, false, false, false, false, false] rfl rfl (any_of HT_.out (by kernel_rfl)) (fun _ _ _ h => h) (Or.inl ⟨by rfl, ?_⟩) ?_ ?_
          rotate_left
          · intro w'
            go_simp
            with_reducible rfl
          rotate_left
          · simp only [Act.put, List.setIfInBounds_toArray, List.set_cons_zero, List.set_cons_succ, i64_w, i32_w]
            rfl
          refine pure_ (i := 1) (N := some 69) (v := ?_) (a' := ?_) #[true, true, false, false, false, false, false, false, false, false, false, false, false, false, false, false, false, false, false] rfl rfl (any_of HT_.out (by kernel_rfl)) (fun _ _ _ h => h) (Or.inl ⟨by rfl, ?_⟩) ?_ ?_
          rotate_left
          · intro w'
            go_simp
            with_reducible rfl
          rotate_left
          · simp only [Act.put, List.setIfInBounds_toArray, List.set_cons_zero, List.set_cons_succ, i64_w, i32_w]
            rfl
          refine pure_ (i := 2) (N := some 70) (v := ?_) (a' := ?_) #[true, true, true, false, false, false, false, false, false, false, false, false, false, false, false, false, false, false, false] rfl rfl (any_of HT_.out (by kernel_rfl)) (fun _ _ _ h => h) (Or.inl ⟨by rfl, ?_⟩) ?_ ?_
          rotate_left
          · intro w'
            go_simp
            with_reducible rfl
          rotate_left
          · simp only [Act.put, List.setIfInBounds_toArray, List.set_cons_zero, List.set_cons_succ, i64_w, i32_w]
            rfl
          refine pure_ (i := 3) (N := some 71) (v := ?_) (a' := ?_) #[true, true, true, true, false, false, false, false, false, false, false, false, false, false, false, false, false, false, false] rfl rfl (any_of HT_.out (by kernel_rfl)) (fun _ _ _ h => h) (Or.inl ⟨by rfl, ?_⟩) ?_ ?_
          rotate_left
          · intro w'
            go_simp
            with_reducible rfl
          rotate_left
          · simp only [Act.put, List.setIfInBounds_toArray, List.set_cons_zero, List.set_cons_succ, i64_w, i32_w]
            rfl
          refine pure_ (i := 4) (N := some 72) (v := ?_) (a' := ?_) #[true, true, true, true, true, false, false, false, false, false, false, false, false, false, false, false, false, false, false] rfl rfl (any_of HT_.out (by kernel_rfl)) (fun _ _ _ h => h) (Or.inl ⟨by rfl, ?_⟩) ?_ ?_
          rotate_left
          · intro w'
            go_simp
            with_reducible rfl
          rotate_left
          · simp only [Act.put, List.setIfInBounds_toArray, List.set_cons_zero, List.set_cons_succ, i64_w, i32_w]
            rfl
          refine take_ (i := 5) (N := some 73) (v := ?_) (a' := ?_) #[true, true, true, true, true, true, false, false, false, false, false, false, false, false, false, false, false, false, false] rfl rfl (take_ofW HT_.out HW_.out (by kernel_rfl)) (fun _ _ _ h => h) (Or.inl ⟨by rfl, ?_⟩) hHeld ?_ ?_
          rotate_left
          · rintro w' ⟨s0, s1, s2⟩
            go_simp
            with_reducible rfl
          rotate_left
          · simp only [Act.put, List.setIfInBounds_toArray, List.set_cons_zero, List.set_cons_succ, i64_w, i32_w]
            rfl
          refine pure_ (i := 6) (N := some 74) (v := ?_) (a' := ?_) #[true, true, true, true, true, true, true, false, false, false, false, false, false, false, false, false, false, false, false] rfl rfl (any_of HT_.out (by kernel_rfl)) (fun _ _ _ h => h) (Or.inl ⟨by rfl, ?_⟩) ?_ ?_
          rotate_left
          · intro w'
            go_simp
            with_reducible rfl
          rotate_left
          · simp only [Act.put, List.setIfInBounds_toArray, List.set_cons_zero, List.set_cons_succ, i64_w, i32_w]
            rfl
          refine pure_ (i := 7) (N := some 75) (v := ?_) (a' := ?_) #[true, true, true, true, true, true, true, true, false, false, false, false, false, false, false, false, false, false, false] rfl rfl (any_of HT_.out (by kernel_rfl)) (fun _ _ _ h => h) (Or.inl ⟨by rfl, ?_⟩) ?_ ?_
          rotate_left
          · intro w'
            go_simp
            with_reducible rfl
          rotate_left
          · simp only [Act.put, List.setIfInBounds_toArray, List.set_cons_zero, List.set_cons_succ, i64_w, i32_w]
            rfl
          refine pure_ (i := 8) (N := some 76) (v := ?_) (a' := ?_) #[true, true, true, true, true, true, true, true, true, false, false, false, false, false, false, false, false, false, false] rfl rfl (any_of HT_.out (by kernel_rfl)) (fun _ _ _ h => h) (Or.inl ⟨by rfl, ?_⟩) ?_ ?_
          rotate_left
          · intro w'
            go_simp
            with_reducible rfl
          rotate_left
          · simp only [Act.put, List.setIfInBounds_toArray, List.set_cons_zero, List.set_cons_succ, i64_w, i32_w]
            rfl
          refine take_ (i := 9) (N := some 77) (v := ?_) (a' := ?_) #[true, true, true, true, true, true, true, true, true, true, false, false, false, false, false, false, false, false, false] rfl rfl (take_ofW HT_.out HW_.out (by kernel_rfl)) (fun _ _ _ h => h) (Or.inl ⟨by rfl, ?_⟩) hHeld ?_ ?_
          rotate_left
          · rintro w' ⟨s0, s1, s2⟩
            go_simp
            with_reducible rfl
          rotate_left
          · simp only [Act.put, List.setIfInBounds_toArray, List.set_cons_zero, List.set_cons_succ, i64_w, i32_w]
            rfl
          refine pure_ (i := 10) (N := some 78) (v := ?_) (a' := ?_) #[true, true, true, true, true, true, true, true, true, true, true, false, false, false, false, false, false, false, false] rfl rfl (any_of HT_.out (by kernel_rfl)) (fun _ _ _ h => h) (Or.inl ⟨by rfl, ?_⟩) ?_ ?_
          rotate_left
          · intro w'
            go_simp
            with_reducible rfl
          rotate_left
          · simp only [Act.put, List.setIfInBounds_toArray, List.set_cons_zero, List.set_cons_succ, i64_w, i32_w]
            rfl
          refine pure_ (i := 11) (N := some 79) (v := ?_) (a' := ?_) #[true, true, true, true, true, true, true, true, true, true, true, true, false, false, false, false, false, false, false] rfl rfl (any_of HT_.out (by kernel_rfl)) (fun _ _ _ h => h) (Or.inl ⟨by rfl, ?_⟩) ?_ ?_
          rotate_left
          · intro w'
            go_simp
            with_reducible rfl
          rotate_left
          · simp only [Act.put, List.setIfInBounds_toArray, List.set_cons_zero, List.set_cons_succ, i64_w, i32_w]
            rfl
          refine pure_ (i := 12) (N := some 80) (v := ?_) (a' := ?_) #[true, true, true, true, true, true, true, true, true, true, true, true, true, false, false, false, false, false, false] rfl rfl (any_of HT_.out (by kernel_rfl)) (fun _ _ _ h => h) (Or.inl ⟨by rfl, ?_⟩) ?_ ?_
          rotate_left
          · intro w'
            go_simp
            with_reducible rfl
          rotate_left
          · simp only [Act.put, List.setIfInBounds_toArray, List.set_cons_zero, List.set_cons_succ, i64_w, i32_w]
            rfl
          refine take_ (i := 13) (N := some 81) (v := ?_) (a' := ?_) #[true, true, true, true, true, true, true, true, true, true, true, true, true, true, false, false, false, false, false] rfl rfl (take_ofW HT_.out HW_.out (by kernel_rfl)) (fun _ _ _ h => h) (Or.inl ⟨by rfl, ?_⟩) hHeld ?_ ?_
          rotate_left
          · rintro w' ⟨s0, s1, s2⟩
            go_simp
            with_reducible rfl
          rotate_left
          · simp only [Act.put, List.setIfInBounds_toArray, List.set_cons_zero, List.set_cons_succ, i64_w, i32_w]
            rfl
          refine pure_ (i := 14) (N := some 82) (v := ?_) (a' := ?_) #[true, true, true, true, true, true, true, true, true, true, true, true, true, true, true, false, false, false, false] rfl rfl (any_of HT_.out (by kernel_rfl)) (fun _ _ _ h => h) (Or.inl ⟨by rfl, ?_⟩) ?_ ?_
          rotate_left
          · intro w'
            go_simp
            with_reducible rfl
          rotate_left
          · simp only [Act.put, List.setIfInBounds_toArray, List.set_cons_zero, List.set_cons_succ, i64_w, i32_w]
            rfl
          refine pure_ (i := 15) (N := some 83) (v := ?_) (a' := ?_) #[true, true, true, true, true, true, true, true, true, true, true, true, true, true, true, true, false, false, false] rfl rfl (any_of HT_.out (by kernel_rfl)) (fun _ _ _ h => h) (Or.inl ⟨by rfl, ?_⟩) ?_ ?_
          rotate_left
          · intro w'
            go_simp
            with_reducible rfl
          rotate_left
          · simp only [Act.put, List.setIfInBounds_toArray, List.set_cons_zero, List.set_cons_succ, i64_w, i32_w]
            rfl
          refine pure_ (i := 16) (N := some 84) (v := ?_) (a' := ?_) #[true, true, true, true, true, true, true, true, true, true, true, true, true, true, true, true, true, false, false] rfl rfl (any_of HT_.out (by kernel_rfl)) (fun _ _ _ h => h) (Or.inl ⟨by rfl, ?_⟩) ?_ ?_
          rotate_left
          · intro w'
            go_simp
            with_reducible rfl
          rotate_left
          · simp only [Act.put, List.setIfInBounds_toArray, List.set_cons_zero, List.set_cons_succ, i64_w, i32_w]
            rfl
          refine pure_ (i := 17) (N := some 85) (v := ?_) (a' := ?_) #[true, true, true, true, true, true, true, true, true, true, true, true, true, true, true, true, true, true, false] rfl rfl (any_of HT_.out (by kernel_rfl)) (fun _ _ _ h => h) (Or.inl ⟨by rfl, ?_⟩) ?_ ?_
          rotate_left
          · intro w'
            go_simp
            with_reducible rfl
          rotate_left
          · simp only [Act.put, List.setIfInBounds_toArray, List.set_cons_zero, List.set_cons_succ, i64_w, i32_w]
            rfl
          refine last_ (i := 18) (N := none) #[true, true, true, true, true, true, true, true, true, true, true, true, true, true, true, true, true, true, true] rfl rfl (one_of HT_.out (by kernel_rfl)) (by decide) (fun K hK => ?_)
          refine skip_ (w1 := ?_) (by rfl) rfl ?_ ?_
          rotate_left
          · go_simp
            rfl
          refine hK.out _ _ ?_
          clear hK K
          refine done_ (done_of HT_.out (by kernel_rfl)) ?_
          clear hHeld HT_ HW_ hx hf r0 r1 r2 r3 r4 r5 r6 r7 xf SC T1 K1
          have T2 : Aside0 (TI B G T cs l (wd.setCell ⟨B, 3, none⟩ (.int .i64 (wrap64 (s1.e1 + sec)))) (fwd i 1 sec s1)) := ⟨T1d.out.setE hGB hGT hBT 3 _ (fun vb => rfl) rfl rfl⟩
          have K2 := Aside0.mk (K1d.out.setB 3 (.int .i64 (wrap64 (s1.e1 + sec))))
          clear T1d K1d
          generalize wd.setCell ⟨B, 3, none⟩ (.int .i64 (wrap64 (s1.e1 + sec))) = w2 at T2 K2 ⊢
          go_wp2_with (go_at_call 30; refine (IH.out _ w2 T2.out).mono ?_; rintro e w3 ⟨rfl, hT3, hK3⟩; have T3 := Aside0.mk hT3; have K3 := Aside0.mk (K2.out.trans hK3); clear hT3 hK3)
          clear T2 K2
          generalize tryS l tms rem (i + 1) (fwd i 1 sec s1) = s3 at *
          obtain ⟨vb2, hb2, hbx2, r0, r1, r2, r3, r4, r5, r6, r7⟩ := T3.out.cellB
          have SC := Aside0.mk (SEC.out _ _ T3.out)
          have xf := blk_frozen hbx2 3
          have T3d : Aside0 (TI B G T cs l w3.drew s3) := ⟨T3.out.move (KP.refl B T w3).drew hGB hGT rfl rfl⟩
          have K3d : Aside0 (KP B T w w3.drew) := ⟨K3.out.drew⟩
          have hx : w3.drew.cell? ⟨B, 3, none⟩ = some (.int .i64 s3.e1) := r3
          have hf : w3.drew.frozen? ⟨B, 3, none⟩ = false := xf
          clear hb2 hbx2
          refine start_ (n := 19) (S := fun w' => w'.cell? ⟨B, 3, none⟩ = some (.int .i64 s3.e1) ∧ w'.cell? ⟨B, 0, none⟩ = some (.slice (some ⟨G, 0, none⟩) l.length cs) ∧ w'.cell? ⟨G, i * 3 + 2, none⟩ = some (.int .i64 sec)) (ds := [18]) #[false, false, false, false, false, false, false, false, false, false, false, false, false, false, false, false, false, false, false] (by kernel_rfl) rfl rfl ⟨r3, r0, SC.out⟩ (fun hHeld => ?_)
          refine with_tabW try_tab10 try_bits10 (fun HT_ HW_ => ?_)
          generalize w3.drew = wd2 at T3d K3d hx hf hHeld ⊢
          refine pure_ (i := 0) (N := some 91) (v := ?_) (a' := ?_) #[true, false, false, false, false, false, false, false, false, false, false, false, false, false, false, false, false, false, false] rfl rfl (any_of HT_.out (by kernel_rfl)) (fun _ _ _ h => h) (Or.inl ⟨by rfl, ?_⟩) ?_ ?_
          rotate_left
          · intro w'
            go_simp
            with_reducible rfl
          rotate_left
          · simp only [Act.put, List.setIfInBounds_toArray, List.set_cons_zero, List.set_cons_succ, i64_w, i32_w]
            rfl
          refine pure_ (i := 1) (N := some 92) (v := ?_) (a' := ?_) #[true, true, false, false, false, false, false, false, false, false, false, false, false, false, false, false, false, false, false] rfl rfl (any_of HT_.out (by kernel_rfl)) (fun _ _ _ h => h) (Or.inl ⟨by rfl, ?_⟩) ?_ ?_
          rotate_left
          · intro w'
            go_simp
            with_reducible rfl
          rotate_left
          · simp only [Act.put, List.setIfInBounds_toArray, List.set_cons_zero, List.set_cons_succ, i64_w, i32_w]
            rfl
          refine pure_ (i := 2) (N := some 93) (v := ?_) (a' := ?_) #[true, true, true, false, false, false, false, false, false, false, false, false, false, false, false, false, false, false, false] rfl rfl (any_of HT_.out (by kernel_rfl)) (fun _ _ _ h => h) (Or.inl ⟨by rfl, ?_⟩) ?_ ?_
          rotate_left
          · intro w'
            go_simp
            with_reducible rfl
          rotate_left
          · simp only [Act.put, List.setIfInBounds_toArray, List.set_cons_zero, List.set_cons_succ, i64_w, i32_w]
            rfl
          refine pure_ (i := 3) (N := some 94) (v := ?_) (a' := ?_) #[true, true, true, true, false, false, false, false, false, false, false, false, false, false, false, false, false, false, false] rfl rfl (any_of HT_.out (by kernel_rfl)) (fun _ _ _ h => h) (Or.inl ⟨by rfl, ?_⟩) ?_ ?_
          rotate_left
          · intro w'
            go_simp
            with_reducible rfl
          rotate_left
          · simp only [Act.put, List.setIfInBounds_toArray, List.set_cons_zero, List.set_cons_succ, i64_w, i32_w]
            rfl
          refine pure_ (i := 4) (N := some 95) (v := ?_) (a' := ?_) #[true, true, true, true, true, false, false, false, false, false, false, false, false, false, false, false, false, false, false] rfl rfl (any_of HT_.out (by kernel_rfl)) (fun _ _ _ h => h) (Or.inl ⟨by rfl, ?_⟩) ?_ ?_
          rotate_left
          · intro w'
            go_simp
            with_reducible rfl
          rotate_left
          · simp only [Act.put, List.setIfInBounds_toArray, List.set_cons_zero, List.set_cons_succ, i64_w, i32_w]
            rfl
          refine take_ (i := 5) (N := some 96) (v := ?_) (a' := ?_) #[true, true, true, true, true, true, false, false, false, false, false, false, false, false, false, false, false, false, false] rfl rfl (take_ofW HT_.out HW_.out (by kernel_rfl)) (fun _ _ _ h => h) (Or.inl ⟨by rfl, ?_⟩) hHeld ?_ ?_
          rotate_left
          · rintro w' ⟨s0, s1, s2⟩
            go_simp
            with_reducible rfl
          rotate_left
          · simp only [Act.put, List.setIfInBounds_toArray, List.set_cons_zero, List.set_cons_succ, i64_w, i32_w]
            rfl
          refine pure_ (i := 6) (N := some 97) (v := ?_) (a' := ?_) #[true, true, true, true, true, true, true, false, false, false, false, false, false, false, false, false, false, false, false] rfl rfl (any_of HT_.out (by kernel_rfl)) (fun _ _ _ h => h) (Or.inl ⟨by rfl, ?_⟩) ?_ ?_
          rotate_left
          · intro w'
            go_simp
            with_reducible rfl
          rotate_left
          · simp only [Act.put, List.setIfInBounds_toArray, List.set_cons_zero, List.set_cons_succ, i64_w, i32_w]
            rfl
          refine pure_ (i := 7) (N := some 98) (v := ?_) (a' := ?_) #[true, true, true, true, true, true, true, true, false, false, false, false, false, false, false, false, false, false, false] rfl rfl (any_of HT_.out (by kernel_rfl)) (fun _ _ _ h => h) (Or.inl ⟨by rfl, ?_⟩) ?_ ?_
          rotate_left
          · intro w'
            go_simp
            with_reducible rfl
          rotate_left
          · simp only [Act.put, List.setIfInBounds_toArray, List.set_cons_zero, List.set_cons_succ, i64_w, i32_w]
            rfl
          refine pure_ (i := 8) (N := some 99) (v := ?_) (a' := ?_) #[true, true, true, true, true, true, true, true, true, false, false, false, false, false, false, false, false, false, false] rfl rfl (any_of HT_.out (by kernel_rfl)) (fun _ _ _ h => h) (Or.inl ⟨by rfl, ?_⟩) ?_ ?_
          rotate_left
          · intro w'
            go_simp
            with_reducible rfl
          rotate_left
          · simp only [Act.put, List.setIfInBounds_toArray, List.set_cons_zero, List.set_cons_succ, i64_w, i32_w]
            rfl
          refine take_ (i := 9) (N := some 100) (v := ?_) (a' := ?_) #[true, true, true, true, true, true, true, true, true, true, false, false, false, false, false, false, false, false, false] rfl rfl (take_ofW HT_.out HW_.out (by kernel_rfl)) (fun _ _ _ h => h) (Or.inl ⟨by rfl, ?_⟩) hHeld ?_ ?_
          rotate_left
          · rintro w' ⟨s0, s1, s2⟩
            go_simp
            with_reducible rfl
          rotate_left
          · simp only [Act.put, List.setIfInBounds_toArray, List.set_cons_zero, List.set_cons_succ, i64_w, i32_w]
            rfl
          refine pure_ (i := 10) (N := some 101) (v := ?_) (a' := ?_) #[true, true, true, true, true, true, true, true, true, true, true, false, false, false, false, false, false, false, false] rfl rfl (any_of HT_.out (by kernel_rfl)) (fun _ _ _ h => h) (Or.inl ⟨by rfl, ?_⟩) ?_ ?_
          rotate_left
          · intro w'
            go_simp
            with_reducible rfl
          rotate_left
          · simp only [Act.put, List.setIfInBounds_toArray, List.set_cons_zero, List.set_cons_succ, i64_w, i32_w]
            rfl
          refine pure_ (i := 11) (N := some 102) (v := ?_) (a' := ?_) #[true, true, true, true, true, true, true, true, true, true, true, true, false, false, false, false, false, false, false] rfl rfl (any_of HT_.out (by kernel_rfl)) (fun _ _ _ h => h) (Or.inl ⟨by rfl, ?_⟩) ?_ ?_
          rotate_left
          · intro w'
            go_simp
            with_reducible rfl
          rotate_left
          · simp only [Act.put, List.setIfInBounds_toArray, List.set_cons_zero, List.set_cons_succ, i64_w, i32_w]
            rfl
          refine pure_ (i := 12) (N := some 103) (v := ?_) (a' := ?_) #[true, true, true, true, true, true, true, true, true, true, true, true, true, false, false, false, false, false, false] rfl rfl (any_of HT_.out (by kernel_rfl)) (fun _ _ _ h => h) (Or.inl ⟨by rfl, ?_⟩) ?_ ?_
          rotate_left
          · intro w'
            go_simp
            with_reducible rfl
          rotate_left
          · simp only [Act.put, List.setIfInBounds_toArray, List.set_cons_zero, List.set_cons_succ, i64_w, i32_w]
            rfl
          refine take_ (i := 13) (N := some 104) (v := ?_) (a' := ?_) #[true, true, true, true, true, true, true, true, true, true, true, true, true, true, false, false, false, false, false] rfl rfl (take_ofW HT_.out HW_.out (by kernel_rfl)) (fun _ _ _ h => h) (Or.inl ⟨by rfl, ?_⟩) hHeld ?_ ?_
          rotate_left
          · rintro w' ⟨s0, s1, s2⟩
            go_simp
            with_reducible rfl
          rotate_left
          · simp only [Act.put, List.setIfInBounds_toArray, List.set_cons_zero, List.set_cons_succ, i64_w, i32_w]
            rfl
          refine pure_ (i := 14) (N := some 105) (v := ?_) (a' := ?_) #[true, true, true, true, true, true, true, true, true, true, true, true, true, true, true, false, false, false, false] rfl rfl (any_of HT_.out (by kernel_rfl)) (fun _ _ _ h => h) (Or.inl ⟨by rfl, ?_⟩) ?_ ?_
          rotate_left
          · intro w'
            go_simp
            with_reducible rfl
          rotate_left
          · simp only [Act.put, List.setIfInBounds_toArray, List.set_cons_zero, List.set_cons_succ, i64_w, i32_w]
            rfl
          refine pure_ (i := 15) (N := some 106) (v := ?_) (a' := ?_) #[true, true, true, true, true, true, true, true, true, true, true, true, true, true, true, true, false, false, false] rfl rfl (any_of HT_.out (by kernel_rfl)) (fun _ _ _ h => h) (Or.inl ⟨by rfl, ?_⟩) ?_ ?_
          rotate_left
          · intro w'
            go_simp
            with_reducible rfl
          rotate_left
          · simp only [Act.put, List.setIfInBounds_toArray, List.set_cons_zero, List.set_cons_succ, i64_w, i32_w]
            rfl
          refine pure_ (i := 16) (N := some 107) (v := ?_) (a' := ?_) #[true, true, true, true, true, true, true, true, true, true, true, true, true, true, true, true, true, false, false] rfl rfl (any_of HT_.out (by kernel_rfl)) (fun _ _ _ h => h) (Or.inl ⟨by rfl, ?_⟩) ?_ ?_
          rotate_left
          · intro w'
            go_simp
            with_reducible rfl
          rotate_left
          · simp only [Act.put, List.setIfInBounds_toArray, List.set_cons_zero, List.set_cons_succ, i64_w, i32_w]
            rfl
          refine pure_ (i := 17) (N := some 108) (v := ?_) (a' := ?_) #[true, true, true, true, true, true, true, true, true, true, true, true, true, true, true, true, true, true, false] rfl rfl (any_of HT_.out (by kernel_rfl)) (fun _ _ _ h => h) (Or.inl ⟨by rfl, ?_⟩) ?_ ?_
          rotate_left
          · intro w'
            go_simp
            with_reducible rfl
          rotate_left
          · simp only [Act.put, List.setIfInBounds_toArray, List.set_cons_zero, List.set_cons_succ, i64_w, i32_w]
            rfl
          refine last_ (i := 18) (N := none) #[true, true, true, true, true, true, true, true, true, true, true, true, true, true, true, true, true, true, true] rfl rfl (one_of HT_.out (by kernel_rfl)) (by decide) (fun K hK => ?_)
          refine skip_ (w1 := ?_) (by rfl) rfl ?_ ?_
          rotate_left
          · go_simp
            rfl
          refine hK.out _ _ ?_
          clear hK K
          refine done_ (done_of HT_.out (by kernel_rfl)) ?_
          clear hHeld HT_ HW_ hx hf r0 r1 r2 r3 r4 r5 r6 r7 xf SC T3 K3
          have T4 : Aside0 (TI B G T cs l (wd2.setCell ⟨B, 3, none⟩ (.int .i64 (wrap64 (s3.e1 - sec)))) (bck 1 sec s3)) := ⟨T3d.out.setE hGB hGT hBT 3 _ (fun vb => rfl) rfl rfl⟩
          have K4 := Aside0.mk (K3d.out.setB 3 (.int .i64 (wrap64 (s3.e1 - sec))))
          clear T3d K3d
          generalize wd2.setCell ⟨B, 3, none⟩ (.int .i64 (wrap64 (s3.e1 - sec))) = w4 at T4 K4 ⊢
          go_wp2_with (fail)
          go_roundg (tms - 1)
          case measure => omega
          case rel => exact ⟨1, 2, by omega, by omega, by omega, by first | rfl | go_num, ⟨by rw [LS.out]; exact T4.out⟩, K4⟩
        · obtain rfl : tz = 2 := by omega
          have htq : (2 : Int) ≤ (tms : Int) := by omega
          have htd : decide ((2 : Int) ≤ (tms : Int)) = true := decide_eq_true htq
          have LS : Aside0 (loopS (tryS l tms rem (i + 1)) i sec 2 s = bck 2 sec (tryS l tms rem (i + 1) (fwd i 2 sec (loopS (tryS l tms rem (i + 1)) i sec 1 s)))) := ⟨rfl⟩
          generalize loopS (tryS l tms rem (i + 1)) i sec 1 s = s1 at *
          have T1 := Aside0.mk (TC.out.setTm hGB hGT hBT i 2)
          have K1 := Aside0.mk (KW.out.setT i (.int .i64 2))
          obtain ⟨vb1, hb1, hbx1, p0, p1, p2, p3, p4, p5, p6, p7⟩ := TC.out.cellB
          obtain ⟨vb2, hb2, hbx2, r0, r1, r2, r3, r4, r5, r6, r7⟩ := T1.out.cellB
          have SC := Aside0.mk (SEC.out _ _ T1.out)
          have tf := blk_frozen TC.out.team i
          have tc : wr.cell? ⟨T, i, none⟩ = some (.int .i64 (s1.tm.getD i 0)) := (blk_cell TC.out.team i).trans (by have := TC.out.len; have h2 : i < s1.tm.length := (by omega); simp [List.getD_eq_getElem?_getD, List.getElem?_eq_getElem h2])
          have xf := blk_frozen hbx2 4
          clear hb1 hbx1 hb2 hbx2
          go_wp2_with (fail)
          clear p0 p1 p2 p3 p4 p5 p6 p7 tf tc
          have T1d : Aside0 (TI B G T cs l (wr.setCell ⟨T, i, none⟩ (.int .i64 2)).drew { s1 with tm := s1.tm.set i 2 }) := ⟨T1.out.move (KP.refl B T (wr.setCell ⟨T, i, none⟩ (.int .i64 2))).drew hGB hGT rfl rfl⟩
          have K1d : Aside0 (KP B T w (wr.setCell ⟨T, i, none⟩ (.int .i64 2)).drew) := ⟨K1.out.drew⟩
          have hx : (wr.setCell ⟨T, i, none⟩ (.int .i64 2)).drew.cell? ⟨B, 4, none⟩ = some (.int .i64 s1.e2) := r4
          have hf : (wr.setCell ⟨T, i, none⟩ (.int .i64 2)).drew.frozen? ⟨B, 4, none⟩ = false := xf
          refine start_ (n := 19) (S := fun w' => w'.cell? ⟨B, 4, none⟩ = some (.int .i64 s1.e2) ∧ w'.cell? ⟨B, 0, none⟩ = some (.slice (some ⟨G, 0, none⟩) l.length cs) ∧ w'.cell? ⟨G, i * 3 + 2, none⟩ = some (.int .i64 sec)) (ds := [18]) #[false, false, false, false, false, false, false, false, false, false, false, false, false, false, false, false, false, false, false] (by kernel_rfl) rfl rfl ⟨r4, r0, SC.out⟩ (fun hHeld => ?_)
          refine with_tabW try_tab8 try_bits8 (fun HT_ HW_ => ?_)
          generalize (wr.setCell ⟨T, i, none⟩ (.int .i64 2)).drew = wd at T1d K1d hx hf hHeld ⊢
          refine pure_ (i := 0) (N := some 68) (v := ?_) (a' := ?_) #[true, false, false, false, false, false, false, false, false, false, false, false, false, false, false, false, false, false, false] rfl rfl (any_of HT_.out (by kernel_rfl)) (fun _ _ _ h => h) (Or.inl ⟨by rfl, ?_⟩) ?_ ?_
          rotate_left
          · intro w'
            go_simp
            with_reducible rfl
          rotate_left
          · simp only [Act.put, List.setIfInBounds_toArray, List.set_cons_zero, List.set_cons_succ, i64_w, i32_w]
            rfl
          refine pure_ (i := 1) (N := some 69) (v := ?_) (a' := ?_) #[true, true, false, false, false, false, false, false, false, false, false, false, false, false, false, false, false, false, false] rfl rfl (any_of HT_.out (by kernel_rfl)) (fun _ _ _ h => h) (Or.inl ⟨by rfl, ?_⟩) ?_ ?_
          rotate_left
          · intro w'
            go_simp
            with_reducible rfl
          rotate_left
          · simp only [Act.put, List.setIfInBounds_toArray, List.set_cons_zero, List.set_cons_succ, i64_w, i32_w]
            rfl
          refine pure_ (i := 2) (N := some 70) (v := ?_) (a' := ?_) #[true, true, true, false, false, false, false, false, false, false, false, false, false, false, false, false, false, false, false] rfl rfl (any_of HT_.out (by kernel_rfl)) (fun _ _ _ h => h) (Or.inl ⟨by rfl, ?_⟩) ?_ ?_
          rotate_left
          · intro w'
            go_simp
            with_reducible rfl
          rotate_left
          · simp only [Act.put, List.setIfInBounds_toArray, List.set_cons_zero, List.set_cons_succ, i64_w, i32_w]
            rfl
          refine pure_ (i := 3) (N := some 71) (v := ?_) (a' := ?_) #[true, true, true, true, false, false, false, false, false, false, false, false, false, false, false, false, false, false, false] rfl rfl (any_of HT_.out (by kernel_rfl)) (fun _ _ _ h => h) (Or.inl ⟨by rfl, ?_⟩) ?_ ?_
          rotate_left
          · intro w'
            go_simp
            with_reducible rfl
          rotate_left
          · simp only [Act.put, List.setIfInBounds_toArray, List.set_cons_zero, List.set_cons_succ, i64_w, i32_w]
            rfl
          refine pure_ (i := 4) (N := some 72) (v := ?_) (a' := ?_) #[true, true, true, true, true, false, false, false, false, false, false, false, false, false, false, false, false, false, false] rfl rfl (any_of HT_.out (by kernel_rfl)) (fun _ _ _ h => h) (Or.inl ⟨by rfl, ?_⟩) ?_ ?_
          rotate_left
          · intro w'
            go_simp
            with_reducible rfl
          rotate_left
          · simp only [Act.put, List.setIfInBounds_toArray, List.set_cons_zero, List.set_cons_succ, i64_w, i32_w]
            rfl
          refine take_ (i := 5) (N := some 73) (v := ?_) (a' := ?_) #[true, true, true, true, true, true, false, false, false, false, false, false, false, false, false, false, false, false, false] rfl rfl (take_ofW HT_.out HW_.out (by kernel_rfl)) (fun _ _ _ h => h) (Or.inl ⟨by rfl, ?_⟩) hHeld ?_ ?_
          rotate_left
          · rintro w' ⟨s0, s1, s2⟩
            go_simp
            with_reducible rfl
          rotate_left
          · simp only [Act.put, List.setIfInBounds_toArray, List.set_cons_zero, List.set_cons_succ, i64_w, i32_w]
            rfl
          refine pure_ (i := 6) (N := some 74) (v := ?_) (a' := ?_) #[true, true, true, true, true, true, true, false, false, false, false, false, false, false, false, false, false, false, false] rfl rfl (any_of HT_.out (by kernel_rfl)) (fun _ _ _ h => h) (Or.inl ⟨by rfl, ?_⟩) ?_ ?_
          rotate_left
          · intro w'
            go_simp
            with_reducible rfl
          rotate_left
          · simp only [Act.put, List.setIfInBounds_toArray, List.set_cons_zero, List.set_cons_succ, i64_w, i32_w]
            rfl
          refine pure_ (i := 7) (N := some 75) (v := ?_) (a' := ?_) #[true, true, true, true, true, true, true, true, false, false, false, false, false, false, false, false, false, false, false] rfl rfl (any_of HT_.out (by kernel_rfl)) (fun _ _ _ h => h) (Or.inl ⟨by rfl, ?_⟩) ?_ ?_
          rotate_left
          · intro w'
            go_simp
            with_reducible rfl
          rotate_left
          · simp only [Act.put, List.setIfInBounds_toArray, List.set_cons_zero, List.set_cons_succ, i64_w, i32_w]
            rfl
          refine pure_ (i := 8) (N := some 76) (v := ?_) (a' := ?_) #[true, true, true, true, true, true, true, true, true, false, false, false, false, false, false, false, false, false, false] rfl rfl (any_of HT_.out (by kernel_rfl)) (fun _ _ _ h => h) (Or.inl ⟨by rfl, ?_⟩) ?_ ?_
          rotate_left
          · intro w'
            go_simp
            with_reducible rfl
          rotate_left
          · simp only [Act.put, List.setIfInBounds_toArray, List.set_cons_zero, List.set_cons_succ, i64_w, i32_w]
            rfl
          refine take_ (i := 9) (N := some 77) (v := ?_) (a' := ?_) #[true, true, true, true, true, true, true, true, true, true, false, false, false, false, false, false, false, false, false] rfl rfl (take_ofW HT_.out HW_.out (by kernel_rfl)) (fun _ _ _ h => h) (Or.inl ⟨by rfl, ?_⟩) hHeld ?_ ?_
          rotate_left
          · rintro w' ⟨s0, s1, s2⟩
            go_simp
            with_reducible rfl
          rotate_left
          · simp only [Act.put, List.setIfInBounds_toArray, List.set_cons_zero, List.set_cons_succ, i64_w, i32_w]
            rfl
          refine pure_ (i := 10) (N := some 78) (v := ?_) (a' := ?_) #[true, true, true, true, true, true, true, true, true, true, true, false, false, false, false, false, false, false, false] rfl rfl (any_of HT_.out (by kernel_rfl)) (fun _ _ _ h => h) (Or.inl ⟨by rfl, ?_⟩) ?_ ?_
          rotate_left
          · intro w'
            go_simp
            with_reducible rfl
          rotate_left
          · simp only [Act.put, List.setIfInBounds_toArray, List.set_cons_zero, List.set_cons_succ, i64_w, i32_w]
            rfl
          refine pure_ (i := 11) (N := some 79) (v := ?_) (a' := ?_) #[true, true, true, true, true, true, true, true, true, true, true, true, false, false, false, false, false, false, false] rfl rfl (any_of HT_.out (by kernel_rfl)) (fun _ _ _ h => h) (Or.inl ⟨by rfl, ?_⟩) ?_ ?_
          rotate_left
          · intro w'
            go_simp
            with_reducible rfl
          rotate_left
          · simp only [Act.put, List.setIfInBounds_toArray, List.set_cons_zero, List.set_cons_succ, i64_w, i32_w]
            rfl
          refine pure_ (i := 12) (N := some 80) (v := ?_) (a' := ?_) #[true, true, true, true, true, true, true, true, true, true, true, true, true, false, false, false, false, false, false] rfl rfl (any_of HT_.out (by kernel_rfl)) (fun _ _ _ h => h) (Or.inl ⟨by rfl, ?_⟩) ?_ ?_
          rotate_left
          · intro w'
            go_simp
            with_reducible rfl
          rotate_left
          · simp only [Act.put, List.setIfInBounds_toArray, List.set_cons_zero, List.set_cons_succ, i64_w, i32_w]
            rfl
          refine take_ (i := 13) (N := some 81) (v := ?_) (a' := ?_) #[true, true, true, true, true, true, true, true, true, true, true, true, true, true, false, false, false, false, false] rfl rfl (take_ofW HT_.out HW_.out (by kernel_rfl)) (fun _ _ _ h => h) (Or.inl ⟨by rfl, ?_⟩) hHeld ?_ ?_
          rotate_left
          · rintro w' ⟨s0, s1, s2⟩
            go_simp
            with_reducible rfl
          rotate_left
          · simp only [Act.put, List.setIfInBounds_toArray, List.set_cons_zero, List.set_cons_succ, i64_w, i32_w]
            rfl
          refine pure_ (i := 14) (N := some 82) (v := ?_) (a' := ?_) #[true, true, true, true, true, true, true, true, true, true, true, true, true, true, true, false, false, false, false] rfl rfl (any_of HT_.out (by kernel_rfl)) (fun _ _ _ h => h) (Or.inl ⟨by rfl, ?_⟩) ?_ ?_
          rotate_left
          · intro w'
            go_simp
            with_reducible rfl
          rotate_left
          · simp only [Act.put, List.setIfInBounds_toArray, List.set_cons_zero, List.set_cons_succ, i64_w, i32_w]
            rfl
          refine pure_ (i := 15) (N := some 83) (v := ?_) (a' := ?_) #[true, true, true, true, true, true, true, true, true, true, true, true, true, true, true, true, false, false, false] rfl rfl (any_of HT_.out (by kernel_rfl)) (fun _ _ _ h => h) (Or.inl ⟨by rfl, ?_⟩) ?_ ?_
          rotate_left
          · intro w'
            go_simp
            with_reducible rfl
          rotate_left
          · simp only [Act.put, List.setIfInBounds_toArray, List.set_cons_zero, List.set_cons_succ, i64_w, i32_w]
            rfl
          refine pure_ (i := 16) (N := some 84) (v := ?_) (a' := ?_) #[true, true, true, true, true, true, true, true, true, true, true, true, true, true, true, true, true, false, false] rfl rfl (any_of HT_.out (by kernel_rfl)) (fun _ _ _ h => h) (Or.inl ⟨by rfl, ?_⟩) ?_ ?_
          rotate_left
          · intro w'
            go_simp
            with_reducible rfl
          rotate_left
          · simp only [Act.put, List.setIfInBounds_toArray, List.set_cons_zero, List.set_cons_succ, i64_w, i32_w]
            rfl
          refine pure_ (i := 17) (N := some 85) (v := ?_) (a' := ?_) #[true, true, true, true, true, true, true, true, true, true, true, true, true, true, true, true, true, true, false] rfl rfl (any_of HT_.out (by kernel_rfl)) (fun _ _ _ h => h) (Or.inl ⟨by rfl, ?_⟩) ?_ ?_
          rotate_left
          · intro w'
            go_simp
            with_reducible rfl
          rotate_left
          · simp only [Act.put, List.setIfInBounds_toArray, List.set_cons_zero, List.set_cons_succ, i64_w, i32_w]
            rfl
          refine last_ (i := 18) (N := none) #[true, true, true, true, true, true, true, true, true, true, true, true, true, true, true, true, true, true, true] rfl rfl (one_of HT_.out (by kernel_rfl)) (by decide) (fun K hK => ?_)
          refine skip_ (w1 := ?_) (by rfl) rfl ?_ ?_
          rotate_left
          · go_simp
            rfl
          refine hK.out _ _ ?_
          clear hK K
          refine done_ (done_of HT_.out (by kernel_rfl)) ?_
          clear hHeld HT_ HW_ hx hf r0 r1 r2 r3 r4 r5 r6 r7 xf SC T1 K1
          have T2 : Aside0 (TI B G T cs l (wd.setCell ⟨B, 4, none⟩ (.int .i64 (wrap64 (s1.e2 + sec)))) (fwd i 2 sec s1)) := ⟨T1d.out.setE hGB hGT hBT 4 _ (fun vb => rfl) rfl rfl⟩
          have K2 := Aside0.mk (K1d.out.setB 4 (.int .i64 (wrap64 (s1.e2 + sec))))
          clear T1d K1d
          generalize wd.setCell ⟨B, 4, none⟩ (.int .i64 (wrap64 (s1.e2 + sec))) = w2 at T2 K2 ⊢
          go_wp2_with (go_at_call 30; refine (IH.out _ w2 T2.out).mono ?_; rintro e w3 ⟨rfl, hT3, hK3⟩; have T3 := Aside0.mk hT3; have K3 := Aside0.mk (K2.out.trans hK3); clear hT3 hK3)
          clear T2 K2
          generalize tryS l tms rem (i + 1) (fwd i 2 sec s1) = s3 at *
          obtain ⟨vb2, hb2, hbx2, r0, r1, r2, r3, r4, r5, r6, r7⟩ := T3.out.cellB
          have SC := Aside0.mk (SEC.out _ _ T3.out)
          have xf := blk_frozen hbx2 4
          have T3d : Aside0 (TI B G T cs l w3.drew s3) := ⟨T3.out.move (KP.refl B T w3).drew hGB hGT rfl rfl⟩
          have K3d : Aside0 (KP B T w w3.drew) := ⟨K3.out.drew⟩
          have hx : w3.drew.cell? ⟨B, 4, none⟩ = some (.int .i64 s3.e2) := r4
          have hf : w3.drew.frozen? ⟨B, 4, none⟩ = false := xf
          clear hb2 hbx2
          refine start_ (n := 19) (S := fun w' => w'.cell? ⟨B, 4, none⟩ = some (.int .i64 s3.e2) ∧ w'.cell? ⟨B, 0, none⟩ = some (.slice (some ⟨G, 0, none⟩) l.length cs) ∧ w'.cell? ⟨G, i * 3 + 2, none⟩ = some (.int .i64 sec)) (ds := [18]) #[false, false, false, false, false, false, false, false, false, false, false, false, false, false, false, false, false, false, false] (by kernel_rfl) rfl rfl ⟨r4, r0, SC.out⟩ (fun hHeld => ?_)
          refine with_tabW try_tab10 try_bits10 (fun HT_ HW_ => ?_)
          generalize w3.drew = wd2 at T3d K3d hx hf hHeld ⊢
          refine pure_ (i := 0) (N := some 91) (v := ?_) (a' := ?_) #[true, false, false, false, false, false, false, false, false, false, false, false, false, false, false, false, false, false, false] rfl rfl (any_of HT_.out (by kernel_rfl)) (fun _ _ _ h => h) (Or.inl ⟨by rfl, ?_⟩) ?_ ?_
          rotate_left
          · intro w'
            go_simp
            with_reducible rfl
          rotate_left
          · simp only [Act.put, List.setIfInBounds_toArray, List.set_cons_zero, List.set_cons_succ, i64_w, i32_w]
            rfl
          refine pure_ (i := 1) (N := some 92) (v := ?_) (a' := ?_) #[true, true, false, false, false, false, false, false, false, false, false, false, false, false, false, false, false, false, false] rfl rfl (any_of HT_.out (by kernel_rfl)) (fun _ _ _ h => h) (Or.inl ⟨by rfl, ?_⟩) ?_ ?_
          rotate_left
          · intro w'
            go_simp
            with_reducible rfl
          rotate_left
          · simp only [Act.put, List.setIfInBounds_toArray, List.set_cons_zero, List.set_cons_succ, i64_w, i32_w]
            rfl
          refine pure_ (i := 2) (N := some 93) (v := ?_) (a' := ?_) #[true, true, true, false, false, false, false, false, false, false, false, false, false, false, false, false, false, false, false] rfl rfl (any_of HT_.out (by kernel_rfl)) (fun _ _ _ h => h) (Or.inl ⟨by rfl, ?_⟩) ?_ ?_
          rotate_left
          · intro w'
            go_simp
            with_reducible rfl
          rotate_left
          · simp only [Act.put, List.setIfInBounds_toArray, List.set_cons_zero, List.set_cons_succ, i64_w, i32_w]
            rfl
          refine pure_ (i := 3) (N := some 94) (v := ?_) (a' := ?_) #[true, true, true, true, false, false, false, false, false, false, false, false, false, false, false, false, false, false, false] rfl rfl (any_of HT_.out (by kernel_rfl)) (fun _ _ _ h => h) (Or.inl ⟨by rfl, ?_⟩) ?_ ?_
          rotate_left
          · intro w'
            go_simp
            with_reducible rfl
          rotate_left
          · simp only [Act.put, List.setIfInBounds_toArray, List.set_cons_zero, List.set_cons_succ, i64_w, i32_w]
            rfl
          refine pure_ (i := 4) (N := some 95) (v := ?_) (a' := ?_) #[true, true, true, true, true, false, false, false, false, false, false, false, false, false, false, false, false, false, false] rfl rfl (any_of HT_.out (by kernel_rfl)) (fun _ _ _ h => h) (Or.inl ⟨by rfl, ?_⟩) ?_ ?_
          rotate_left
          · intro w'
            go_simp
            with_reducible rfl
          rotate_left
          · simp only [Act.put, List.setIfInBounds_toArray, List.set_cons_zero, List.set_cons_succ, i64_w, i32_w]
            rfl
          refine take_ (i := 5) (N := some 96) (v := ?_) (a' := ?_) #[true, true, true, true, true, true, false, false, false, false, false, false, false, false, false, false, false, false, false] rfl rfl (take_ofW HT_.out HW_.out (by kernel_rfl)) (fun _ _ _ h => h) (Or.inl ⟨by rfl, ?_⟩) hHeld ?_ ?_
          rotate_left
          · rintro w' ⟨s0, s1, s2⟩
            go_simp
            with_reducible rfl
          rotate_left
          · simp only [Act.put, List.setIfInBounds_toArray, List.set_cons_zero, List.set_cons_succ, i64_w, i32_w]
            rfl
          refine pure_ (i := 6) (N := some 97) (v := ?_) (a' := ?_) #[true, true, true, true, true, true, true, false, false, false, false, false, false, false, false, false, false, false, false] rfl rfl (any_of HT_.out (by kernel_rfl)) (fun _ _ _ h => h) (Or.inl ⟨by rfl, ?_⟩) ?_ ?_
          rotate_left
          · intro w'
            go_simp
            with_reducible rfl
          rotate_left
          · simp only [Act.put, List.setIfInBounds_toArray, List.set_cons_zero, List.set_cons_succ, i64_w, i32_w]
            rfl
          refine pure_ (i := 7) (N := some 98) (v := ?_) (a' := ?_) #[true, true, true, true, true, true, true, true, false, false, false, false, false, false, false, false, false, false, false] rfl rfl (any_of HT_.out (by kernel_rfl)) (fun _ _ _ h => h) (Or.inl ⟨by rfl, ?_⟩) ?_ ?_
          rotate_left
          · intro w'
            go_simp
            with_reducible rfl
          rotate_left
          · simp only [Act.put, List.setIfInBounds_toArray, List.set_cons_zero, List.set_cons_succ, i64_w, i32_w]
            rfl
          refine pure_ (i := 8) (N := some 99) (v := ?_) (a' := ?_) #[true, true, true, true, true, true, true, true, true, false, false, false, false, false, false, false, false, false, false] rfl rfl (any_of HT_.out (by kernel_rfl)) (fun _ _ _ h => h) (Or.inl ⟨by rfl, ?_⟩) ?_ ?_
          rotate_left
          · intro w'
            go_simp
            with_reducible rfl
          rotate_left
          · simp only [Act.put, List.setIfInBounds_toArray, List.set_cons_zero, List.set_cons_succ, i64_w, i32_w]
            rfl
          refine take_ (i := 9) (N := some 100) (v := ?_) (a' := ?_) #[true, true, true, true, true, true, true, true, true, true, false, false, false, false, false, false, false, false, false] rfl rfl (take_ofW HT_.out HW_.out (by kernel_rfl)) (fun _ _ _ h => h) (Or.inl ⟨by rfl, ?_⟩) hHeld ?_ ?_
          rotate_left
          · rintro w' ⟨s0, s1, s2⟩
            go_simp
            with_reducible rfl
          rotate_left
          · simp only [Act.put, List.setIfInBounds_toArray, List.set_cons_zero, List.set_cons_succ, i64_w, i32_w]
            rfl
          refine pure_ (i := 10) (N := some 101) (v := ?_) (a' := ?_) #[true, true, true, true, true, true, true, true, true, true, true, false, false, false, false, false, false, false, false] rfl rfl (any_of HT_.out (by kernel_rfl)) (fun _ _ _ h => h) (Or.inl ⟨by rfl, ?_⟩) ?_ ?_
          rotate_left
          · intro w'
            go_simp
            with_reducible rfl
          rotate_left
          · simp only [Act.put, List.setIfInBounds_toArray, List.set_cons_zero, List.set_cons_succ, i64_w, i32_w]
            rfl
          refine pure_ (i := 11) (N := some 102) (v := ?_) (a' := ?_) #[true, true, true, true, true, true, true, true, true, true, true, true, false, false, false, false, false, false, false] rfl rfl (any_of HT_.out (by kernel_rfl)) (fun _ _ _ h => h) (Or.inl ⟨by rfl, ?_⟩) ?_ ?_
          rotate_left
          · intro w'
            go_simp
            with_reducible rfl
          rotate_left
          · simp only [Act.put, List.setIfInBounds_toArray, List.set_cons_zero, List.set_cons_succ, i64_w, i32_w]
            rfl
          refine pure_ (i := 12) (N := some 103) (v := ?_) (a' := ?_) #[true, true, true, true, true, true, true, true, true, true, true, true, true, false, false, false, false, false, false] rfl rfl (any_of HT_.out (by kernel_rfl)) (fun _ _ _ h => h) (Or.inl ⟨by rfl, ?_⟩) ?_ ?_
          rotate_left
          · intro w'
            go_simp
            with_reducible rfl
          rotate_left
          · simp only [Act.put, List.setIfInBounds_toArray, List.set_cons_zero, List.set_cons_succ, i64_w, i32_w]
            rfl
          refine take_ (i := 13) (N := some 104) (v := ?_) (a' := ?_) #[true, true, true, true, true, true, true, true, true, true, true, true, true, true, false, false, false, false, false] rfl rfl (take_ofW HT_.out HW_.out (by kernel_rfl)) (fun _ _ _ h => h) (Or.inl ⟨by rfl, ?_⟩) hHeld ?_ ?_
          rotate_left
          · rintro w' ⟨s0, s1, s2⟩
            go_simp
            with_reducible rfl
          rotate_left
          · simp only [Act.put, List.setIfInBounds_toArray, List.set_cons_zero, List.set_cons_succ, i64_w, i32_w]
            rfl
          refine pure_ (i := 14) (N := some 105) (v := ?_) (a' := ?_) #[true, true, true, true, true, true, true, true, true, true, true, true, true, true, true, false, false, false, false] rfl rfl (any_of HT_.out (by kernel_rfl)) (fun _ _ _ h => h) (Or.inl ⟨by rfl, ?_⟩) ?_ ?_
          rotate_left
          · intro w'
            go_simp
            with_reducible rfl
          rotate_left
          · simp only [Act.put, List.setIfInBounds_toArray, List.set_cons_zero, List.set_cons_succ, i64_w, i32_w]
            rfl
          refine pure_ (i := 15) (N := some 106) (v := ?_) (a' := ?_) #[true, true, true, true, true, true, true, true, true, true, true, true, true, true, true, true, false, false, false] rfl rfl (any_of HT_.out (by kernel_rfl)) (fun _ _ _ h => h) (Or.inl ⟨by rfl, ?_⟩) ?_ ?_
          rotate_left
          · intro w'
            go_simp
            with_reducible rfl
          rotate_left
          · simp only [Act.put, List.setIfInBounds_toArray, List.set_cons_zero, List.set_cons_succ, i64_w, i32_w]
            rfl
          refine pure_ (i := 16) (N := some 107) (v := ?_) (a' := ?_) #[true, true, true, true, true, true, true, true, true, true, true, true, true, true, true, true, true, false, false] rfl rfl (any_of HT_.out (by kernel_rfl)) (fun _ _ _ h => h) (Or.inl ⟨by rfl, ?_⟩) ?_ ?_
          rotate_left
          · intro w'
            go_simp
            with_reducible rfl
          rotate_left
          · simp only [Act.put, List.setIfInBounds_toArray, List.set_cons_zero, List.set_cons_succ, i64_w, i32_w]
            rfl
          refine pure_ (i := 17) (N := some 108) (v := ?_) (a' := ?_) #[true, true, true, true, true, true, true, true, true, true, true, true, true, true, true, true, true, true, false] rfl rfl (any_of HT_.out (by kernel_rfl)) (fun _ _ _ h => h) (Or.inl ⟨by rfl, ?_⟩) ?_ ?_
          rotate_left
          · intro w'
            go_simp
            with_reducible rfl
          rotate_left
          · simp only [Act.put, List.setIfInBounds_toArray, List.set_cons_zero, List.set_cons_succ, i64_w, i32_w]
            rfl
          refine last_ (i := 18) (N := none) #[true, true, true, true, true, true, true, true, true, true, true, true, true, true, true, true, true, true, true] rfl rfl (one_of HT_.out (by kernel_rfl)) (by decide) (fun K hK => ?_)
          refine skip_ (w1 := ?_) (by rfl) rfl ?_ ?_
          rotate_left
          · go_simp
            rfl
          refine hK.out _ _ ?_
          clear hK K
          refine done_ (done_of HT_.out (by kernel_rfl)) ?_
          clear hHeld HT_ HW_ hx hf r0 r1 r2 r3 r4 r5 r6 r7 xf SC T3 K3
          have T4 : Aside0 (TI B G T cs l (wd2.setCell ⟨B, 4, none⟩ (.int .i64 (wrap64 (s3.e2 - sec)))) (bck 2 sec s3)) := ⟨T3d.out.setE hGB hGT hBT 4 _ (fun vb => rfl) rfl rfl⟩
          have K4 := Aside0.mk (K3d.out.setB 4 (.int .i64 (wrap64 (s3.e2 - sec))))
          clear T3d K3d
          generalize wd2.setCell ⟨B, 4, none⟩ (.int .i64 (wrap64 (s3.e2 - sec))) = w4 at T4 K4 ⊢
          go_wp2_with (fail)
          go_roundg (tms - 2)
          case measure => omega
          case rel => exact ⟨2, 3, by omega, by omega, by omega, by first | rfl | go_num, ⟨by rw [LS.out]; exact T4.out⟩, K4⟩
        · obtain rfl : tz = 3 := by omega
          have htq : (3 : Int) ≤ (tms : Int) := by omega
          have htd : decide ((3 : Int) ≤ (tms : Int)) = true := decide_eq_true htq
          have LS : Aside0 (loopS (tryS l tms rem (i + 1)) i sec 3 s = bck 3 sec (tryS l tms rem (i + 1) (fwd i 3 sec (loopS (tryS l tms rem (i + 1)) i sec 2 s)))) := ⟨rfl⟩
          generalize loopS (tryS l tms rem (i + 1)) i sec 2 s = s1 at *
          have T1 := Aside0.mk (TC.out.setTm hGB hGT hBT i 3)
          have K1 := Aside0.mk (KW.out.setT i (.int .i64 3))
          obtain ⟨vb1, hb1, hbx1, p0, p1, p2, p3, p4, p5, p6, p7⟩ := TC.out.cellB
          obtain ⟨vb2, hb2, hbx2, r0, r1, r2, r3, r4, r5, r6, r7⟩ := T1.out.cellB
          have SC := Aside0.mk (SEC.out _ _ T1.out)
          have tf := blk_frozen TC.out.team i
          have tc : wr.cell? ⟨T, i, none⟩ = some (.int .i64 (s1.tm.getD i 0)) := (blk_cell TC.out.team i).trans (by have := TC.out.len; have h2 : i < s1.tm.length := (by omega); simp [List.getD_eq_getElem?_getD, List.getElem?_eq_getElem h2])
          have xf := blk_frozen hbx2 5
          clear hb1 hbx1 hb2 hbx2
          go_wp2_with (fail)
          clear p0 p1 p2 p3 p4 p5 p6 p7 tf tc
          have T1d : Aside0 (TI B G T cs l (wr.setCell ⟨T, i, none⟩ (.int .i64 3)).drew { s1 with tm := s1.tm.set i 3 }) := ⟨T1.out.move (KP.refl B T (wr.setCell ⟨T, i, none⟩ (.int .i64 3))).drew hGB hGT rfl rfl⟩
          have K1d : Aside0 (KP B T w (wr.setCell ⟨T, i, none⟩ (.int .i64 3)).drew) := ⟨K1.out.drew⟩
          have hx : (wr.setCell ⟨T, i, none⟩ (.int .i64 3)).drew.cell? ⟨B, 5, none⟩ = some (.int .i64 s1.e3) := r5
          have hf : (wr.setCell ⟨T, i, none⟩ (.int .i64 3)).drew.frozen? ⟨B, 5, none⟩ = false := xf
          refine start_ (n := 19) (S := fun w' => w'.cell? ⟨B, 5, none⟩ = some (.int .i64 s1.e3) ∧ w'.cell? ⟨B, 0, none⟩ = some (.slice (some ⟨G, 0, none⟩) l.length cs) ∧ w'.cell? ⟨G, i * 3 + 2, none⟩ = some (.int .i64 sec)) (ds := [18]) #[false, false, false, false, false, false, false, false, false, false, false, false, false, false, false, false, false, false, false] (by kernel_rfl) rfl rfl ⟨r5, r0, SC.out⟩ (fun hHeld => ?_)
          refine with_tabW try_tab8 try_bits8 (fun HT_ HW_ => ?_)
          generalize (wr.setCell ⟨T, i, none⟩ (.int .i64 3)).drew = wd at T1d K1d hx hf hHeld ⊢
          refine pure_ (i := 0) (N := some 68) (v := ?_) (a' := ?_) #[true, false, false, false, false, false, false, false, false, false, false, false, false, false, false, false, false, false, false] rfl rfl (any_of HT_.out (by kernel_rfl)) (fun _ _ _ h => h) (Or.inl ⟨by rfl, ?_⟩) ?_ ?_
          rotate_left
          · intro w'
            go_simp
            with_reducible rfl
          rotate_left
          · simp only [Act.put, List.setIfInBounds_toArray, List.set_cons_zero, List.set_cons_succ, i64_w, i32_w]
            rfl
          refine pure_ (i := 1) (N := some 69) (v := ?_) (a' := ?_) #[true, true, false, false, false, false, false, false, false, false, false, false, false, false, false, false, false, false, false] rfl rfl (any_of HT_.out (by kernel_rfl)) (fun _ _ _ h => h) (Or.inl ⟨by rfl, ?_⟩) ?_ ?_
          rotate_left
          · intro w'
            go_simp
            with_reducible rfl
          rotate_left
          · simp only [Act.put, List.setIfInBounds_toArray, List.set_cons_zero, List.set_cons_succ, i64_w, i32_w]
            rfl
          refine pure_ (i := 2) (N := some 70) (v := ?_) (a' := ?_) #[true, true, true, false, false, false, false, false, false, false, false, false, false, false, false, false, false, false, false] rfl rfl (any_of HT_.out (by kernel_rfl)) (fun _ _ _ h => h) (Or.inl ⟨by rfl, ?_⟩) ?_ ?_
          rotate_left
          · intro w'
            go_simp
            with_reducible rfl
          rotate_left
          · simp only [Act.put, List.setIfInBounds_toArray, List.set_cons_zero, List.set_cons_succ, i64_w, i32_w]
            rfl
          refine pure_ (i := 3) (N := some 71) (v := ?_) (a' := ?_) #[true, true, true, true, false, false, false, false, false, false, false, false, false, false, false, false, false, false, false] rfl rfl (any_of HT_.out (by kernel_rfl)) (fun _ _ _ h => h) (Or.inl ⟨by rfl, ?_⟩) ?_ ?_
          rotate_left
          · intro w'
            go_simp
            with_reducible rfl
          rotate_left
          · simp only [Act.put, List.setIfInBounds_toArray, List.set_cons_zero, List.set_cons_succ, i64_w, i32_w]
            rfl
          refine pure_ (i := 4) (N := some 72) (v := ?_) (a' := ?_) #[true, true, true, true, true, false, false, false, false, false, false, false, false, false, false, false, false, false, false] rfl rfl (any_of HT_.out (by kernel_rfl)) (fun _ _ _ h => h) (Or.inl ⟨by rfl, ?_⟩) ?_ ?_
          rotate_left
          · intro w'
            go_simp
            with_reducible rfl
          rotate_left
          · simp only [Act.put, List.setIfInBounds_toArray, List.set_cons_zero, List.set_cons_succ, i64_w, i32_w]
            rfl
          refine take_ (i := 5) (N := some 73) (v := ?_) (a' := ?_) #[true, true, true, true, true, true, false, false, false, false, false, false, false, false, false, false, false, false, false] rfl rfl (take_ofW HT_.out HW_.out (by kernel_rfl)) (fun _ _ _ h => h) (Or.inl ⟨by rfl, ?_⟩) hHeld ?_ ?_
          rotate_left
          · rintro w' ⟨s0, s1, s2⟩
            go_simp
            with_reducible rfl
          rotate_left
          · simp only [Act.put, List.setIfInBounds_toArray, List.set_cons_zero, List.set_cons_succ, i64_w, i32_w]
            rfl
          refine pure_ (i := 6) (N := some 74) (v := ?_) (a' := ?_) #[true, true, true, true, true, true, true, false, false, false, false, false, false, false, false, false, false, false, false] rfl rfl (any_of HT_.out (by kernel_rfl)) (fun _ _ _ h => h) (Or.inl ⟨by rfl, ?_⟩) ?_ ?_
          rotate_left
          · intro w'
            go_simp
            with_reducible rfl
          rotate_left
          · simp only [Act.put, List.setIfInBounds_toArray, List.set_cons_zero, List.set_cons_succ, i64_w, i32_w]
            rfl
          refine pure_ (i := 7) (N := some 75) (v := ?_) (a' := ?_) #[true, true, true, true, true, true, true, true, false, false, false, false, false, false, false, false, false, false, false] rfl rfl (any_of HT_.out (by kernel_rfl)) (fun _ _ _ h => h) (Or.inl ⟨by rfl, ?_⟩) ?_ ?_
          rotate_left
          · intro w'
            go_simp
            with_reducible rfl
          rotate_left
          · simp only [Act.put, List.setIfInBounds_toArray, List.set_cons_zero, List.set_cons_succ, i64_w, i32_w]
            rfl
          refine pure_ (i := 8) (N := some 76) (v := ?_) (a' := ?_) #[true, true, true, true, true, true, true, true, true, false, false, false, false, false, false, false, false, false, false] rfl rfl (any_of HT_.out (by kernel_rfl)) (fun _ _ _ h => h) (Or.inl ⟨by rfl, ?_⟩) ?_ ?_
          rotate_left
          · intro w'
            go_simp
            with_reducible rfl
          rotate_left
          · simp only [Act.put, List.setIfInBounds_toArray, List.set_cons_zero, List.set_cons_succ, i64_w, i32_w]
            rfl
          refine take_ (i := 9) (N := some 77) (v := ?_) (a' := ?_) #[true, true, true, true, true, true, true, true, true, true, false, false, false, false, false, false, false, false, false] rfl rfl (take_ofW HT_.out HW_.out (by kernel_rfl)) (fun _ _ _ h => h) (Or.inl ⟨by rfl, ?_⟩) hHeld ?_ ?_
          rotate_left
          · rintro w' ⟨s0, s1, s2⟩
            go_simp
            with_reducible rfl
          rotate_left
          · simp only [Act.put, List.setIfInBounds_toArray, List.set_cons_zero, List.set_cons_succ, i64_w, i32_w]
            rfl
          refine pure_ (i := 10) (N := some 78) (v := ?_) (a' := ?_) #[true, true, true, true, true, true, true, true, true, true, true, false, false, false, false, false, false, false, false] rfl rfl (any_of HT_.out (by kernel_rfl)) (fun _ _ _ h => h) (Or.inl ⟨by rfl, ?_⟩) ?_ ?_
          rotate_left
          · intro w'
            go_simp
            with_reducible rfl
          rotate_left
          · simp only [Act.put, List.setIfInBounds_toArray, List.set_cons_zero, List.set_cons_succ, i64_w, i32_w]
            rfl
          refine pure_ (i := 11) (N := some 79) (v := ?_) (a' := ?_) #[true, true, true, true, true, true, true, true, true, true, true, true, false, false, false, false, false, false, false] rfl rfl (any_of HT_.out (by kernel_rfl)) (fun _ _ _ h => h) (Or.inl ⟨by rfl, ?_⟩) ?_ ?_
          rotate_left
          · intro w'
            go_simp
            with_reducible rfl
          rotate_left
          · simp only [Act.put, List.setIfInBounds_toArray, List.set_cons_zero, List.set_cons_succ, i64_w, i32_w]
            rfl
          refine pure_ (i := 12) (N := some 80) (v := ?_) (a' := ?_) #[true, true, true, true, true, true, true, true, true, true, true, true, true, false, false, false, false, false, false] rfl rfl (any_of HT_.out (by kernel_rfl)) (fun _ _ _ h => h) (Or.inl ⟨by rfl, ?_⟩) ?_ ?_
          rotate_left
          · intro w'
            go_simp
            with_reducible rfl
          rotate_left
          · simp only [Act.put, List.setIfInBounds_toArray, List.set_cons_zero, List.set_cons_succ, i64_w, i32_w]
            rfl
          refine take_ (i := 13) (N := some 81) (v := ?_) (a' := ?_) #[true, true, true, true, true, true, true, true, true, true, true, true, true, true, false, false, false, false, false] rfl rfl (take_ofW HT_.out HW_.out (by kernel_rfl)) (fun _ _ _ h => h) (Or.inl ⟨by rfl, ?_⟩) hHeld ?_ ?_
          rotate_left
          · rintro w' ⟨s0, s1, s2⟩
            go_simp
            with_reducible rfl
          rotate_left
          · simp only [Act.put, List.setIfInBounds_toArray, List.set_cons_zero, List.set_cons_succ, i64_w, i32_w]
            rfl
          refine pure_ (i := 14) (N := some 82) (v := ?_) (a' := ?_) #[true, true, true, true, true, true, true, true, true, true, true, true, true, true, true, false, false, false, false] rfl rfl (any_of HT_.out (by kernel_rfl)) (fun _ _ _ h => h) (Or.inl ⟨by rfl, ?_⟩) ?_ ?_
          rotate_left
          · intro w'
            go_simp
            with_reducible rfl
          rotate_left
          · simp only [Act.put, List.setIfInBounds_toArray, List.set_cons_zero, List.set_cons_succ, i64_w, i32_w]
            rfl
          refine pure_ (i := 15) (N := some 83) (v := ?_) (a' := ?_) #[true, true, true, true, true, true, true, true, true, true, true, true, true, true, true, true, false, false, false] rfl rfl (any_of HT_.out (by kernel_rfl)) (fun _ _ _ h => h) (Or.inl ⟨by rfl, ?_⟩) ?_ ?_
          rotate_left
          · intro w'
            go_simp
            with_reducible rfl
          rotate_left
          · simp only [Act.put, List.setIfInBounds_toArray, List.set_cons_zero, List.set_cons_succ, i64_w, i32_w]
            rfl
          refine pure_ (i := 16) (N := some 84) (v := ?_) (a' := ?_) #[true, true, true, true, true, true, true, true, true, true, true, true, true, true, true, true, true, false, false] rfl rfl (any_of HT_.out (by kernel_rfl)) (fun _ _ _ h => h) (Or.inl ⟨by rfl, ?_⟩) ?_ ?_
          rotate_left
          · intro w'
            go_simp
            with_reducible rfl
          rotate_left
          · simp only [Act.put, List.setIfInBounds_toArray, List.set_cons_zero, List.set_cons_succ, i64_w, i32_w]
            rfl
          refine pure_ (i := 17) (N := some 85) (v := ?_) (a' := ?_) #[true, true, true, true, true, true, true, true, true, true, true, true, true, true, true, true, true, true, false] rfl rfl (any_of HT_.out (by kernel_rfl)) (fun _ _ _ h => h) (Or.inl ⟨by rfl, ?_⟩) ?_ ?_
          rotate_left
          · intro w'
            go_simp
            with_reducible rfl
          rotate_left
          · simp only [Act.put, List.setIfInBounds_toArray, List.set_cons_zero, List.set_cons_succ, i64_w, i32_w]
            rfl
          refine last_ (i := 18) (N := none) #[true, true, true, true, true, true, true, true, true, true, true, true, true, true, true, true, true, true, true] rfl rfl (one_of HT_.out (by kernel_rfl)) (by decide) (fun K hK => ?_)
          refine skip_ (w1 := ?_) (by rfl) rfl ?_ ?_
          rotate_left
          · go_simp
            rfl
          refine hK.out _ _ ?_
          clear hK K
          refine done_ (done_of HT_.out (by kernel_rfl)) ?_
          clear hHeld HT_ HW_ hx hf r0 r1 r2 r3 r4 r5 r6 r7 xf SC T1 K1
          have T2 : Aside0 (TI B G T cs l (wd.setCell ⟨B, 5, none⟩ (.int .i64 (wrap64 (s1.e3 + sec)))) (fwd i 3 sec s1)) := ⟨T1d.out.setE hGB hGT hBT 5 _ (fun vb => rfl) rfl rfl⟩
          have K2 := Aside0.mk (K1d.out.setB 5 (.int .i64 (wrap64 (s1.e3 + sec))))
          clear T1d K1d
          generalize wd.setCell ⟨B, 5, none⟩ (.int .i64 (wrap64 (s1.e3 + sec))) = w2 at T2 K2 ⊢
          go_wp2_with (go_at_call 30; refine (IH.out _ w2 T2.out).mono ?_; rintro e w3 ⟨rfl, hT3, hK3⟩; have T3 := Aside0.mk hT3; have K3 := Aside0.mk (K2.out.trans hK3); clear hT3 hK3)
          clear T2 K2
          generalize tryS l tms rem (i + 1) (fwd i 3 sec s1) = s3 at *
          obtain ⟨vb2, hb2, hbx2, r0, r1, r2, r3, r4, r5, r6, r7⟩ := T3.out.cellB
          have SC := Aside0.mk (SEC.out _ _ T3.out)
          have xf := blk_frozen hbx2 5
          have T3d : Aside0 (TI B G T cs l w3.drew s3) := ⟨T3.out.move (KP.refl B T w3).drew hGB hGT rfl rfl⟩
          have K3d : Aside0 (KP B T w w3.drew) := ⟨K3.out.drew⟩
          have hx : w3.drew.cell? ⟨B, 5, none⟩ = some (.int .i64 s3.e3) := r5
          have hf : w3.drew.frozen? ⟨B, 5, none⟩ = false := xf
          clear hb2 hbx2
          refine start_ (n := 19) (S := fun w' => w'.cell? ⟨B, 5, none⟩ = some (.int .i64 s3.e3) ∧ w'.cell? ⟨B, 0, none⟩ = some (.slice (some ⟨G, 0, none⟩) l.length cs) ∧ w'.cell? ⟨G, i * 3 + 2, none⟩ = some (.int .i64 sec)) (ds := [18]) #[false, false, false, false, false, false, false, false, false, false, false, false, false, false, false, false, false, false, false] (by kernel_rfl) rfl rfl ⟨r5, r0, SC.out⟩ (fun hHeld => ?_)
          refine with_tabW try_tab10 try_bits10 (fun HT_ HW_ => ?_)
          generalize w3.drew = wd2 at T3d K3d hx hf hHeld ⊢
          refine pure_ (i := 0) (N := some 91) (v := ?_) (a' := ?_) #[true, false, false, false, false, false, false, false, false, false, false, false, false, false, false, false, false, false, false] rfl rfl (any_of HT_.out (by kernel_rfl)) (fun _ _ _ h => h) (Or.inl ⟨by rfl, ?_⟩) ?_ ?_
          rotate_left
          · intro w'
            go_simp
            with_reducible rfl
          rotate_left
          · simp only [Act.put, List.setIfInBounds_toArray, List.set_cons_zero, List.set_cons_succ, i64_w, i32_w]
            rfl
          refine pure_ (i := 1) (N := some 92) (v := ?_) (a' := ?_) #[true, true, false, false, false, false, false, false, false, false, false, false, false, false, false, false, false, false, false] rfl rfl (any_of HT_.out (by kernel_rfl)) (fun _ _ _ h => h) (Or.inl ⟨by rfl, ?_⟩) ?_ ?_
          rotate_left
          · intro w'
            go_simp
            with_reducible rfl
          rotate_left
          · simp only [Act.put, List.setIfInBounds_toArray, List.set_cons_zero, List.set_cons_succ, i64_w, i32_w]
            rfl
          refine pure_ (i := 2) (N := some 93) (v := ?_) (a' := ?_) #[true, true, true, false, false, false, false, false, false, false, false, false, false, false, false, false, false, false, false] rfl rfl (any_of HT_.out (by kernel_rfl)) (fun _ _ _ h => h) (Or.inl ⟨by rfl, ?_⟩) ?_ ?_
          rotate_left
          · intro w'
            go_simp
            with_reducible rfl
          rotate_left
          · simp only [Act.put, List.setIfInBounds_toArray, List.set_cons_zero, List.set_cons_succ, i64_w, i32_w]
            rfl
          refine pure_ (i := 3) (N := some 94) (v := ?_) (a' := ?_) #[true, true, true, true, false, false, false, false, false, false, false, false, false, false, false, false, false, false, false] rfl rfl (any_of HT_.out (by kernel_rfl)) (fun _ _ _ h => h) (Or.inl ⟨by rfl, ?_⟩) ?_ ?_
          rotate_left
          · intro w'
            go_simp
            with_reducible rfl
          rotate_left
          · simp only [Act.put, List.setIfInBounds_toArray, List.set_cons_zero, List.set_cons_succ, i64_w, i32_w]
            rfl
          refine pure_ (i := 4) (N := some 95) (v := ?_) (a' := ?_) #[true, true, true, true, true, false, false, false, false, false, false, false, false, false, false, false, false, false, false] rfl rfl (any_of HT_.out (by kernel_rfl)) (fun _ _ _ h => h) (Or.inl ⟨by rfl, ?_⟩) ?_ ?_
          rotate_left
          · intro w'
            go_simp
            with_reducible rfl
          rotate_left
          · simp only [Act.put, List.setIfInBounds_toArray, List.set_cons_zero, List.set_cons_succ, i64_w, i32_w]
            rfl
          refine take_ (i := 5) (N := some 96) (v := ?_) (a' := ?_) #[true, true, true, true, true, true, false, false, false, false, false, false, false, false, false, false, false, false, false] rfl rfl (take_ofW HT_.out HW_.out (by kernel_rfl)) (fun _ _ _ h => h) (Or.inl ⟨by rfl, ?_⟩) hHeld ?_ ?_
          rotate_left
          · rintro w' ⟨s0, s1, s2⟩
            go_simp
            with_reducible rfl
          rotate_left
          · simp only [Act.put, List.setIfInBounds_toArray, List.set_cons_zero, List.set_cons_succ, i64_w, i32_w]
            rfl
          refine pure_ (i := 6) (N := some 97) (v := ?_) (a' := ?_) #[true, true, true, true, true, true, true, false, false, false, false, false, false, false, false, false, false, false, false] rfl rfl (any_of HT_.out (by kernel_rfl)) (fun _ _ _ h => h) (Or.inl ⟨by rfl, ?_⟩) ?_ ?_
          rotate_left
          · intro w'
            go_simp
            with_reducible rfl
          rotate_left
          · simp only [Act.put, List.setIfInBounds_toArray, List.set_cons_zero, List.set_cons_succ, i64_w, i32_w]
            rfl
          refine pure_ (i := 7) (N := some 98) (v := ?_) (a' := ?_) #[true, true, true, true, true, true, true, true, false, false, false, false, false, false, false, false, false, false, false] rfl rfl (any_of HT_.out (by kernel_rfl)) (fun _ _ _ h => h) (Or.inl ⟨by rfl, ?_⟩) ?_ ?_
          rotate_left
          · intro w'
            go_simp
            with_reducible rfl
          rotate_left
          · simp only [Act.put, List.setIfInBounds_toArray, List.set_cons_zero, List.set_cons_succ, i64_w, i32_w]
            rfl
          refine pure_ (i := 8) (N := some 99) (v := ?_) (a' := ?_) #[true, true, true, true, true, true, true, true, true, false, false, false, false, false, false, false, false, false, false] rfl rfl (any_of HT_.out (by kernel_rfl)) (fun _ _ _ h => h) (Or.inl ⟨by rfl, ?_⟩) ?_ ?_
          rotate_left
          · intro w'
            go_simp
            with_reducible rfl
          rotate_left
          · simp only [Act.put, List.setIfInBounds_toArray, List.set_cons_zero, List.set_cons_succ, i64_w, i32_w]
            rfl
          refine take_ (i := 9) (N := some 100) (v := ?_) (a' := ?_) #[true, true, true, true, true, true, true, true, true, true, false, false, false, false, false, false, false, false, false] rfl rfl (take_ofW HT_.out HW_.out (by kernel_rfl)) (fun _ _ _ h => h) (Or.inl ⟨by rfl, ?_⟩) hHeld ?_ ?_
          rotate_left
          · rintro w' ⟨s0, s1, s2⟩
            go_simp
            with_reducible rfl
          rotate_left
          · simp only [Act.put, List.setIfInBounds_toArray, List.set_cons_zero, List.set_cons_succ, i64_w, i32_w]
            rfl
          refine pure_ (i := 10) (N := some 101) (v := ?_) (a' := ?_) #[true, true, true, true, true, true, true, true, true, true, true, false, false, false, false, false, false, false, false] rfl rfl (any_of HT_.out (by kernel_rfl)) (fun _ _ _ h => h) (Or.inl ⟨by rfl, ?_⟩) ?_ ?_
          rotate_left
          · intro w'
            go_simp
            with_reducible rfl
          rotate_left
          · simp only [Act.put, List.setIfInBounds_toArray, List.set_cons_zero, List.set_cons_succ, i64_w, i32_w]
            rfl
          refine pure_ (i := 11) (N := some 102) (v := ?_) (a' := ?_) #[true, true, true, true, true, true, true, true, true, true, true, true, false, false, false, false, false, false, false] rfl rfl (any_of HT_.out (by kernel_rfl)) (fun _ _ _ h => h) (Or.inl ⟨by rfl, ?_⟩) ?_ ?_
          rotate_left
          · intro w'
            go_simp
            with_reducible rfl
          rotate_left
          · simp only [Act.put, List.setIfInBounds_toArray, List.set_cons_zero, List.set_cons_succ, i64_w, i32_w]
            rfl
          refine pure_ (i := 12) (N := some 103) (v := ?_) (a' := ?_) #[true, true, true, true, true, true, true, true, true, true, true, true, true, false, false, false, false, false, false] rfl rfl (any_of HT_.out (by kernel_rfl)) (fun _ _ _ h => h) (Or.inl ⟨by rfl, ?_⟩) ?_ ?_
          rotate_left
          · intro w'
            go_simp
            with_reducible rfl
          rotate_left
          · simp only [Act.put, List.setIfInBounds_toArray, List.set_cons_zero, List.set_cons_succ, i64_w, i32_w]
            rfl
          refine take_ (i := 13) (N := some 104) (v := ?_) (a' := ?_) #[true, true, true, true, true, true, true, true, true, true, true, true, true, true, false, false, false, false, false] rfl rfl (take_ofW HT_.out HW_.out (by kernel_rfl)) (fun _ _ _ h => h) (Or.inl ⟨by rfl, ?_⟩) hHeld ?_ ?_
          rotate_left
          · rintro w' ⟨s0, s1, s2⟩
            go_simp
            with_reducible rfl
          rotate_left
          · simp only [Act.put, List.setIfInBounds_toArray, List.set_cons_zero, List.set_cons_succ, i64_w, i32_w]
            rfl
          refine pure_ (i := 14) (N := some 105) (v := ?_) (a' := ?_) #[true, true, true, true, true, true, true, true, true, true, true, true, true, true, true, false, false, false, false] rfl rfl (any_of HT_.out (by kernel_rfl)) (fun _ _ _ h => h) (Or.inl ⟨by rfl, ?_⟩) ?_ ?_
          rotate_left
          · intro w'
            go_simp
            with_reducible rfl
          rotate_left
          · simp only [Act.put, List.setIfInBounds_toArray, List.set_cons_zero, List.set_cons_succ, i64_w, i32_w]
            rfl
          refine pure_ (i := 15) (N := some 106) (v := ?_) (a' := ?_) #[true, true, true, true, true, true, true, true, true, true, true, true, true, true, true, true, false, false, false] rfl rfl (any_of HT_.out (by kernel_rfl)) (fun _ _ _ h => h) (Or.inl ⟨by rfl, ?_⟩) ?_ ?_
          rotate_left
          · intro w'
            go_simp
            with_reducible rfl
          rotate_left
          · simp only [Act.put, List.setIfInBounds_toArray, List.set_cons_zero, List.set_cons_succ, i64_w, i32_w]
            rfl
          refine pure_ (i := 16) (N := some 107) (v := ?_) (a' := ?_) #[true, true, true, true, true, true, true, true, true, true, true, true, true, true, true, true, true, false, false] rfl rfl (any_of HT_.out (by kernel_rfl)) (fun _ _ _ h => h) (Or.inl ⟨by rfl, ?_⟩) ?_ ?_
          rotate_left
          · intro w'
            go_simp
            with_reducible rfl
          rotate_left
          · simp only [Act.put, List.setIfInBounds_toArray, List.set_cons_zero, List.set_cons_succ, i64_w, i32_w]
            rfl
          refine pure_ (i := 17) (N := some 108) (v := ?_) (a' := ?_) #[true, true, true, true, true, true, true, true, true, true, true, true, true, true, true, true, true, true, false] rfl rfl (any_of HT_.out (by kernel_rfl)) (fun _ _ _ h => h) (Or.inl ⟨by rfl, ?_⟩) ?_ ?_
          rotate_left
          · intro w'
            go_simp
            with_reducible rfl
          rotate_left
          · simp only [Act.put, List.setIfInBounds_toArray, List.set_cons_zero, List.set_cons_succ, i64_w, i32_w]
            rfl
          refine last_ (i := 18) (N := none) #[true, true, true, true, true, true, true, true, true, true, true, true, true, true, true, true, true, true, true] rfl rfl (one_of HT_.out (by kernel_rfl)) (by decide) (fun K hK => ?_)
          refine skip_ (w1 := ?_) (by rfl) rfl ?_ ?_
          rotate_left
          · go_simp
            rfl
          refine hK.out _ _ ?_
          clear hK K
          refine done_ (done_of HT_.out (by kernel_rfl)) ?_
          clear hHeld HT_ HW_ hx hf r0 r1 r2 r3 r4 r5 r6 r7 xf SC T3 K3
          have T4 : Aside0 (TI B G T cs l (wd2.setCell ⟨B, 5, none⟩ (.int .i64 (wrap64 (s3.e3 - sec)))) (bck 3 sec s3)) := ⟨T3d.out.setE hGB hGT hBT 5 _ (fun vb => rfl) rfl rfl⟩
          have K4 := Aside0.mk (K3d.out.setB 5 (.int .i64 (wrap64 (s3.e3 - sec))))
          clear T3d K3d
          generalize wd2.setCell ⟨B, 5, none⟩ (.int .i64 (wrap64 (s3.e3 - sec))) = w4 at T4 K4 ⊢
          go_wp2_with (fail)
          go_roundg (tms - 3)
          case measure => omega
          case rel => exact ⟨3, 4, by omega, by omega, by omega, by first | rfl | go_num, ⟨by rw [LS.out]; exact T4.out⟩, K4⟩
      · obtain rfl : t = tms := by omega
        have htq : ¬ tz ≤ (t : Int) := by omega
        have htd : decide (tz ≤ (t : Int)) = false := decide_eq_false htq
        go_wp2_with (fail)
        go_end0
        exact ⟨rfl, by rw [R.out]; exact TC.out, KW.out⟩
  | some ad =>
    have c2 : decide (s.ls ≤ la) = false := by simpa using c1
    clear c1 hs
    go_wp2_with (fail)
    go_loopg [7] tms (fun gg s7 wr => ∃ (t : Nat) (tz : Int), t ≤ tms ∧ tms - t ≤ gg ∧ tz = (t : Int) + 1 ∧ s7 = .int .i64 tz ∧ Aside0 (TI B G T cs l wr (loopS (tryS l tms rem (i + 1)) i sec t s)) ∧ Aside0 (KP B T w wr))
    case atStart => exact ⟨0, 1, Nat.zero_le _, by omega, rfl, rfl, ⟨HTI.out.move ((KP.refl B T w).drewN _) hGB hGT rfl rfl⟩, ⟨(KP.refl B T w).drewN _⟩⟩
    case round =>
      clear HTI q0 q1 q2 q3 q4 q5 q6 q7
      obtain ⟨t, tz, ht, hg, htz, rfl, TC, KW⟩ := hrel
      by_cases hlt : t < tms
      · obtain rfl | rfl | rfl : t = 0 ∨ t = 1 ∨ t = 2 := by omega
        · obtain rfl : tz = 1 := by omega
          have htq : (1 : Int) ≤ (tms : Int) := by omega
          have htd : decide ((1 : Int) ≤ (tms : Int)) = true := decide_eq_true htq
          have LS : Aside0 (loopS (tryS l tms rem (i + 1)) i sec 1 s = bck 1 sec (tryS l tms rem (i + 1) (fwd i 1 sec (loopS (tryS l tms rem (i + 1)) i sec 0 s)))) := ⟨rfl⟩
          generalize loopS (tryS l tms rem (i + 1)) i sec 0 s = s1 at *
          have T1 := Aside0.mk (TC.out.setTm hGB hGT hBT i 1)
          have K1 := Aside0.mk (KW.out.setT i (.int .i64 1))
          clear htz
          obtain ⟨vb1, hb1, hbx1, p0, p1, p2, p3, p4, p5, p6, p7⟩ := TC.out.cellB
          obtain ⟨vb2, hb2, hbx2, r0, r1, r2, r3, r4, r5, r6, r7⟩ := T1.out.cellB
          have SC := Aside0.mk (SEC.out _ _ T1.out)
          have tf := blk_frozen TC.out.team i
          have tc : wr.cell? ⟨T, i, none⟩ = some (.int .i64 (s1.tm.getD i 0)) := (blk_cell TC.out.team i).trans (by have := TC.out.len; have h2 : i < s1.tm.length := (by omega); simp [List.getD_eq_getElem?_getD, List.getElem?_eq_getElem h2])
          have xf := blk_frozen hbx2 3
          clear hb1 hbx1 hb2 hbx2
          go_wp2_with (fail)
          clear p0 p1 p2 p3 p4 p5 p6 p7 tf tc
          have T1d : Aside0 (TI B G T cs l (wr.setCell ⟨T, i, none⟩ (.int .i64 1)).drew { s1 with tm := s1.tm.set i 1 }) := ⟨T1.out.move (KP.refl B T (wr.setCell ⟨T, i, none⟩ (.int .i64 1))).drew hGB hGT rfl rfl⟩
          have K1d : Aside0 (KP B T w (wr.setCell ⟨T, i, none⟩ (.int .i64 1)).drew) := ⟨K1.out.drew⟩
          have hx : (wr.setCell ⟨T, i, none⟩ (.int .i64 1)).drew.cell? ⟨B, 3, none⟩ = some (.int .i64 s1.e1) := r3
          have hf : (wr.setCell ⟨T, i, none⟩ (.int .i64 1)).drew.frozen? ⟨B, 3, none⟩ = false := xf
          refine start_ (n := 19) (S := fun w' => w'.cell? ⟨B, 3, none⟩ = some (.int .i64 s1.e1) ∧ w'.cell? ⟨B, 0, none⟩ = some (.slice (some ⟨G, 0, none⟩) l.length cs) ∧ w'.cell? ⟨G, i * 3 + 2, none⟩ = some (.int .i64 sec)) (ds := [18]) #[false, false, false, false, false, false, false, false, false, false, false, false, false, false, false, false, false, false, false] (by kernel_rfl) rfl rfl ⟨r3, r0, SC.out⟩ (fun hHeld => ?_)
          refine with_tabW try_tab8 try_bits8 (fun HT_ HW_ => ?_)
          generalize (wr.setCell ⟨T, i, none⟩ (.int .i64 1)).drew = wd at T1d K1d hx hf hHeld ⊢
          refine pure_ (i := 0) (N := some 68) (v := ?_) (a' := ?_) #[true, false, false, false, false, false, false, false, false, false, false, false, false, false, false, false, false, false, false] rfl rfl (any_of HT_.out (by kernel_rfl)) (fun _ _ _ h => h) (Or.inl ⟨by rfl, ?_⟩) ?_ ?_
          rotate_left
          · intro w'
            go_simp
            with_reducible rfl
          rotate_left
          · simp only [Act.put, List.setIfInBounds_toArray, List.set_cons_zero, List.set_cons_succ, i64_w, i32_w]
            rfl
          refine pure_ (i := 1) (N := some 69) (v := ?_) (a' := ?_) #[true, true, false, false, false, false, false, false, false, false, false, false, false, false, false, false, false, false, false] rfl rfl (any_of HT_.out (by kernel_rfl)) (fun _ _ _ h => h) (Or.inl ⟨by rfl, ?_⟩) ?_ ?_
          rotate_left
          · intro w'
            go_simp
            with_reducible rfl
          rotate_left
          · simp only [Act.put, List.setIfInBounds_toArray, List.set_cons_zero, List.set_cons_succ, i64_w, i32_w]
            rfl
          refine pure_ (i := 2) (N := some 70) (v := ?_) (a' := ?_) #[true, true, true, false, false, false, false, false, false, false, false, false, false, false, false, false, false, false, false] rfl rfl (any_of HT_.out (by kernel_rfl)) (fun _ _ _ h => h) (Or.inl ⟨by rfl, ?_⟩) ?_ ?_
          rotate_left
          · intro w'
            go_simp
            with_reducible rfl
          rotate_left
          · simp only [Act.put, List.setIfInBounds_toArray, List.set_cons_zero, List.set_cons_succ, i64_w, i32_w]
            rfl
          refine pure_ (i := 3) (N := some 71) (v := ?_) (a' := ?_) #[true, true, true, true, false, false, false, false, false, false, false, false, false, false, false, false, false, false, false] rfl rfl (any_of HT_.out (by kernel_rfl)) (fun _ _ _ h => h) (Or.inl ⟨by rfl, ?_⟩) ?_ ?_
          rotate_left
          · intro w'
            go_simp
            with_reducible rfl
          rotate_left
          · simp only [Act.put, List.setIfInBounds_toArray, List.set_cons_zero, List.set_cons_succ, i64_w, i32_w]
            rfl
          refine pure_ (i := 4) (N := some 72) (v := ?_) (a' := ?_) #[true, true, true, true, true, false, false, false, false, false, false, false, false, false, false, false, false, false, false] rfl rfl (any_of HT_.out (by kernel_rfl)) (fun _ _ _ h => h) (Or.inl ⟨by rfl, ?_⟩) ?_ ?_
          rotate_left
          · intro w'
            go_simp
            with_reducible rfl
          rotate_left
          · simp only [Act.put, List.setIfInBounds_toArray, List.set_cons_zero, List.set_cons_succ, i64_w, i32_w]
            rfl
          refine take_ (i := 5) (N := some 73) (v := ?_) (a' := ?_) #[true, true, true, true, true, true, false, false, false, false, false, false, false, false, false, false, false, false, false] rfl rfl (take_ofW HT_.out HW_.out (by kernel_rfl)) (fun _ _ _ h => h) (Or.inl ⟨by rfl, ?_⟩) hHeld ?_ ?_
          rotate_left
          · rintro w' ⟨s0, s1, s2⟩
            go_simp
            with_reducible rfl
          rotate_left
          · simp only [Act.put, List.setIfInBounds_toArray, List.set_cons_zero, List.set_cons_succ, i64_w, i32_w]
            rfl
          refine pure_ (i := 6) (N := some 74) (v := ?_) (a' := ?_) #[true, true, true, true, true, true, true, false, false, false, false, false, false, false, false, false, false, false, false] rfl rfl (any_of HT_.out (by kernel_rfl)) (fun _ _ _ h => h) (Or.inl ⟨by rfl, ?_⟩) ?_ ?_
          rotate_left
          · intro w'
            go_simp
            with_reducible rfl
          rotate_left
          · simp only [Act.put, List.setIfInBounds_toArray, List.set_cons_zero, List.set_cons_succ, i64_w, i32_w]
            rfl
          refine pure_ (i := 7) (N := some 75) (v := ?_) (a' := ?_) #[true, true, true, true, true, true, true, true, false, false, false, false, false, false, false, false, false, false, false] rfl rfl (any_of HT_.out (by kernel_rfl)) (fun _ _ _ h => h) (Or.inl ⟨by rfl, ?_⟩) ?_ ?_
          rotate_left
          · intro w'
            go_simp
            with_reducible rfl
          rotate_left
          · simp only [Act.put, List.setIfInBounds_toArray, List.set_cons_zero, List.set_cons_succ, i64_w, i32_w]
            rfl
          refine pure_ (i := 8) (N := some 76) (v := ?_) (a' := ?_) #[true, true, true, true, true, true, true, true, true, false, false, false, false, false, false, false, false, false, false] rfl rfl (any_of HT_.out (by kernel_rfl)) (fun _ _ _ h => h) (Or.inl ⟨by rfl, ?_⟩) ?_ ?_
          rotate_left
          · intro w'
            go_simp
            with_reducible rfl
          rotate_left
          · simp only [Act.put, List.setIfInBounds_toArray, List.set_cons_zero, List.set_cons_succ, i64_w, i32_w]
            rfl
          refine take_ (i := 9) (N := some 77) (v := ?_) (a' := ?_) #[true, true, true, true, true, true, true, true, true, true, false, false, false, false, false, false, false, false, false] rfl rfl (take_ofW HT_.out HW_.out (by kernel_rfl)) (fun _ _ _ h => h) (Or.inl ⟨by rfl, ?_⟩) hHeld ?_ ?_
          rotate_left
          · rintro w' ⟨s0, s1, s2⟩
            go_simp
            with_reducible rfl
          rotate_left
          · simp only [Act.put, List.setIfInBounds_toArray, List.set_cons_zero, List.set_cons_succ, i64_w, i32_w]
            rfl
          refine pure_ (i := 10) (N := some 78) (v := ?_) (a' := ?_) #[true, true, true, true, true, true, true, true, true, true, true, false, false, false, false, false, false, false, false] rfl rfl (any_of HT_.out (by kernel_rfl)) (fun _ _ _ h => h) (Or.inl ⟨by rfl, ?_⟩) ?_ ?_
          rotate_left
          · intro w'
            go_simp
            with_reducible rfl
          rotate_left
          · simp only [Act.put, List.setIfInBounds_toArray, List.set_cons_zero, List.set_cons_succ, i64_w, i32_w]
            rfl
          refine pure_ (i := 11) (N := some 79) (v := ?_) (a' := ?_) #[true, true, true, true, true, true, true, true, true, true, true, true, false, false, false, false, false, false, false] rfl rfl (any_of HT_.out (by kernel_rfl)) (fun _ _ _ h => h) (Or.inl ⟨by rfl, ?_⟩) ?_ ?_
          rotate_left
          · intro w'
            go_simp
            with_reducible rfl
          rotate_left
          · simp only [Act.put, List.setIfInBounds_toArray, List.set_cons_zero, List.set_cons_succ, i64_w, i32_w]
            rfl
          refine pure_ (i := 12) (N := some 80) (v := ?_) (a' := ?_) #[true, true, true, true, true, true, true, true, true, true, true, true, true, false, false, false, false, false, false] rfl rfl (any_of HT_.out (by kernel_rfl)) (fun _ _ _ h => h) (Or.inl ⟨by rfl, ?_⟩) ?_ ?_
          rotate_left
          · intro w'
            go_simp
            with_reducible rfl
          rotate_left
          · simp only [Act.put, List.setIfInBounds_toArray, List.set_cons_zero, List.set_cons_succ, i64_w, i32_w]
            rfl
          refine take_ (i := 13) (N := some 81) (v := ?_) (a' := ?_) #[true, true, true, true, true, true, true, true, true, true, true, true, true, true, false, false, false, false, false] rfl rfl (take_ofW HT_.out HW_.out (by kernel_rfl)) (fun _ _ _ h => h) (Or.inl ⟨by rfl, ?_⟩) hHeld ?_ ?_
          rotate_left
          · rintro w' ⟨s0, s1, s2⟩
            go_simp
            with_reducible rfl
          rotate_left
          · simp only [Act.put, List.setIfInBounds_toArray, List.set_cons_zero, List.set_cons_succ, i64_w, i32_w]
            rfl
          refine pure_ (i := 14) (N := some 82) (v := ?_) (a' := ?_) #[true, true, true, true, true, true, true, true, true, true, true, true, true, true, true, false, false, false, false] rfl rfl (any_of HT_.out (by kernel_rfl)) (fun _ _ _ h => h) (Or.inl ⟨by rfl, ?_⟩) ?_ ?_
          rotate_left
          · intro w'
            go_simp
            with_reducible rfl
          rotate_left
          · simp only [Act.put, List.setIfInBounds_toArray, List.set_cons_zero, List.set_cons_succ, i64_w, i32_w]
            rfl
          refine pure_ (i := 15) (N := some 83) (v := ?_) (a' := ?_) #[true, true, true, true, true, true, true, true, true, true, true, true, true, true, true, true, false, false, false] rfl rfl (any_of HT_.out (by kernel_rfl)) (fun _ _ _ h => h) (Or.inl ⟨by rfl, ?_⟩) ?_ ?_
          rotate_left
          · intro w'
            go_simp
            with_reducible rfl
          rotate_left
          · simp only [Act.put, List.setIfInBounds_toArray, List.set_cons_zero, List.set_cons_succ, i64_w, i32_w]
            rfl
          refine pure_ (i := 16) (N := some 84) (v := ?_) (a' := ?_) #[true, true, true, true, true, true, true, true, true, true, true, true, true, true, true, true, true, false, false] rfl rfl (any_of HT_.out (by kernel_rfl)) (fun _ _ _ h => h) (Or.inl ⟨by rfl, ?_⟩) ?_ ?_
          rotate_left
          · intro w'
            go_simp
            with_reducible rfl
          rotate_left
          · simp only [Act.put, List.setIfInBounds_toArray, List.set_cons_zero, List.set_cons_succ, i64_w, i32_w]
            rfl
          refine pure_ (i := 17) (N := some 85) (v := ?_) (a' := ?_) #[true, true, true, true, true, true, true, true, true, true, true, true, true, true, true, true, true, true, false] rfl rfl (any_of HT_.out (by kernel_rfl)) (fun _ _ _ h => h) (Or.inl ⟨by rfl, ?_⟩) ?_ ?_
          rotate_left
          · intro w'
            go_simp
            with_reducible rfl
          rotate_left
          · simp only [Act.put, List.setIfInBounds_toArray, List.set_cons_zero, List.set_cons_succ, i64_w, i32_w]
            rfl
          refine last_ (i := 18) (N := none) #[true, true, true, true, true, true, true, true, true, true, true, true, true, true, true, true, true, true, true] rfl rfl (one_of HT_.out (by kernel_rfl)) (by decide) (fun K hK => ?_)
          refine skip_ (w1 := ?_) (by rfl) rfl ?_ ?_
          rotate_left
          · go_simp
            rfl
          refine hK.out _ _ ?_
          clear hK K
          refine done_ (done_of HT_.out (by kernel_rfl)) ?_
          clear hHeld HT_ HW_ hx hf r0 r1 r2 r3 r4 r5 r6 r7 xf SC T1 K1
          have T2 : Aside0 (TI B G T cs l (wd.setCell ⟨B, 3, none⟩ (.int .i64 (wrap64 (s1.e1 + sec)))) (fwd i 1 sec s1)) := ⟨T1d.out.setE hGB hGT hBT 3 _ (fun vb => rfl) rfl rfl⟩
          have K2 := Aside0.mk (K1d.out.setB 3 (.int .i64 (wrap64 (s1.e1 + sec))))
          clear T1d K1d
          generalize wd.setCell ⟨B, 3, none⟩ (.int .i64 (wrap64 (s1.e1 + sec))) = w2 at T2 K2 ⊢
          go_wp2_with (go_at_call 30; refine (IH.out _ w2 T2.out).mono ?_; rintro e w3 ⟨rfl, hT3, hK3⟩; have T3 := Aside0.mk hT3; have K3 := Aside0.mk (K2.out.trans hK3); clear hT3 hK3)
          clear T2 K2
          generalize tryS l tms rem (i + 1) (fwd i 1 sec s1) = s3 at *
          obtain ⟨vb2, hb2, hbx2, r0, r1, r2, r3, r4, r5, r6, r7⟩ := T3.out.cellB
          have SC := Aside0.mk (SEC.out _ _ T3.out)
          have xf := blk_frozen hbx2 3
          have T3d : Aside0 (TI B G T cs l w3.drew s3) := ⟨T3.out.move (KP.refl B T w3).drew hGB hGT rfl rfl⟩
          have K3d : Aside0 (KP B T w w3.drew) := ⟨K3.out.drew⟩
          have hx : w3.drew.cell? ⟨B, 3, none⟩ = some (.int .i64 s3.e1) := r3
          have hf : w3.drew.frozen? ⟨B, 3, none⟩ = false := xf
          clear hb2 hbx2
          refine start_ (n := 19) (S := fun w' => w'.cell? ⟨B, 3, none⟩ = some (.int .i64 s3.e1) ∧ w'.cell? ⟨B, 0, none⟩ = some (.slice (some ⟨G, 0, none⟩) l.length cs) ∧ w'.cell? ⟨G, i * 3 + 2, none⟩ = some (.int .i64 sec)) (ds := [18]) #[false, false, false, false, false, false, false, false, false, false, false, false, false, false, false, false, false, false, false] (by kernel_rfl) rfl rfl ⟨r3, r0, SC.out⟩ (fun hHeld => ?_)
          refine with_tabW try_tab10 try_bits10 (fun HT_ HW_ => ?_)
          generalize w3.drew = wd2 at T3d K3d hx hf hHeld ⊢
          refine pure_ (i := 0) (N := some 91) (v := ?_) (a' := ?_) #[true, false, false, false, false, false, false, false, false, false, false, false, false, false, false, false, false, false, false] rfl rfl (any_of HT_.out (by kernel_rfl)) (fun _ _ _ h => h) (Or.inl ⟨by rfl, ?_⟩) ?_ ?_
          rotate_left
          · intro w'
            go_simp
            with_reducible rfl
          rotate_left
          · simp only [Act.put, List.setIfInBounds_toArray, List.set_cons_zero, List.set_cons_succ, i64_w, i32_w]
            rfl
          refine pure_ (i := 1) (N := some 92) (v := ?_) (a' := ?_) #[true, true, false, false, false, false, false, false, false, false, false, false, false, false, false, false, false, false, false] rfl rfl (any_of HT_.out (by kernel_rfl)) (fun _ _ _ h => h) (Or.inl ⟨by rfl, ?_⟩) ?_ ?_
          rotate_left
          · intro w'
            go_simp
            with_reducible rfl
          rotate_left
          · simp only [Act.put, List.setIfInBounds_toArray, List.set_cons_zero, List.set_cons_succ, i64_w, i32_w]
            rfl
          refine pure_ (i := 2) (N := some 93) (v := ?_) (a' := ?_) #[true, true, true, false, false, false, false, false, false, false, false, false, false, false, false, false, false, false, false] rfl rfl (any_of HT_.out (by kernel_rfl)) (fun _ _ _ h => h) (Or.inl ⟨by rfl, ?_⟩) ?_ ?_
          rotate_left
          · intro w'
            go_simp
            with_reducible rfl
          rotate_left
          · simp only [Act.put, List.setIfInBounds_toArray, List.set_cons_zero, List.set_cons_succ, i64_w, i32_w]
            rfl
          refine pure_ (i := 3) (N := some 94) (v := ?_) (a' := ?_) #[true, true, true, true, false, false, false, false, false, false, false, false, false, false, false, false, false, false, false] rfl rfl (any_of HT_.out (by kernel_rfl)) (fun _ _ _ h => h) (Or.inl ⟨by rfl, ?_⟩) ?_ ?_
          rotate_left
          · intro w'
            go_simp
            with_reducible rfl
          rotate_left
          · simp only [Act.put, List.setIfInBounds_toArray, List.set_cons_zero, List.set_cons_succ, i64_w, i32_w]
            rfl
          refine pure_ (i := 4) (N := some 95) (v := ?_) (a' := ?_) #[true, true, true, true, true, false, false, false, false, false, false, false, false, false, false, false, false, false, false] rfl rfl (any_of HT_.out (by kernel_rfl)) (fun _ _ _ h => h) (Or.inl ⟨by rfl, ?_⟩) ?_ ?_
          rotate_left
          · intro w'
            go_simp
            with_reducible rfl
          rotate_left
          · simp only [Act.put, List.setIfInBounds_toArray, List.set_cons_zero, List.set_cons_succ, i64_w, i32_w]
            rfl
          refine take_ (i := 5) (N := some 96) (v := ?_) (a' := ?_) #[true, true, true, true, true, true, false, false, false, false, false, false, false, false, false, false, false, false, false] rfl rfl (take_ofW HT_.out HW_.out (by kernel_rfl)) (fun _ _ _ h => h) (Or.inl ⟨by rfl, ?_⟩) hHeld ?_ ?_
          rotate_left
          · rintro w' ⟨s0, s1, s2⟩
            go_simp
            with_reducible rfl
          rotate_left
          · simp only [Act.put, List.setIfInBounds_toArray, List.set_cons_zero, List.set_cons_succ, i64_w, i32_w]
            rfl
          refine pure_ (i := 6) (N := some 97) (v := ?_) (a' := ?_) #[true, true, true, true, true, true, true, false, false, false, false, false, false, false, false, false, false, false, false] rfl rfl (any_of HT_.out (by kernel_rfl)) (fun _ _ _ h => h) (Or.inl ⟨by rfl, ?_⟩) ?_ ?_
          rotate_left
          · intro w'
            go_simp
            with_reducible rfl
          rotate_left
          · simp only [Act.put, List.setIfInBounds_toArray, List.set_cons_zero, List.set_cons_succ, i64_w, i32_w]
            rfl
          refine pure_ (i := 7) (N := some 98) (v := ?_) (a' := ?_) #[true, true, true, true, true, true, true, true, false, false, false, false, false, false, false, false, false, false, false] rfl rfl (any_of HT_.out (by kernel_rfl)) (fun _ _ _ h => h) (Or.inl ⟨by rfl, ?_⟩) ?_ ?_
          rotate_left
          · intro w'
            go_simp
            with_reducible rfl
          rotate_left
          · simp only [Act.put, List.setIfInBounds_toArray, List.set_cons_zero, List.set_cons_succ, i64_w, i32_w]
            rfl
          refine pure_ (i := 8) (N := some 99) (v := ?_) (a' := ?_) #[true, true, true, true, true, true, true, true, true, false, false, false, false, false, false, false, false, false, false] rfl rfl (any_of HT_.out (by kernel_rfl)) (fun _ _ _ h => h) (Or.inl ⟨by rfl, ?_⟩) ?_ ?_
          rotate_left
          · intro w'
            go_simp
            with_reducible rfl
          rotate_left
          · simp only [Act.put, List.setIfInBounds_toArray, List.set_cons_zero, List.set_cons_succ, i64_w, i32_w]
            rfl
          refine take_ (i := 9) (N := some 100) (v := ?_) (a' := ?_) #[true, true, true, true, true, true, true, true, true, true, false, false, false, false, false, false, false, false, false] rfl rfl (take_ofW HT_.out HW_.out (by kernel_rfl)) (fun _ _ _ h => h) (Or.inl ⟨by rfl, ?_⟩) hHeld ?_ ?_
          rotate_left
          · rintro w' ⟨s0, s1, s2⟩
            go_simp
            with_reducible rfl
          rotate_left
          · simp only [Act.put, List.setIfInBounds_toArray, List.set_cons_zero, List.set_cons_succ, i64_w, i32_w]
            rfl
          refine pure_ (i := 10) (N := some 101) (v := ?_) (a' := ?_) #[true, true, true, true, true, true, true, true, true, true, true, false, false, false, false, false, false, false, false] rfl rfl (any_of HT_.out (by kernel_rfl)) (fun _ _ _ h => h) (Or.inl ⟨by rfl, ?_⟩) ?_ ?_
          rotate_left
          · intro w'
            go_simp
            with_reducible rfl
          rotate_left
          · simp only [Act.put, List.setIfInBounds_toArray, List.set_cons_zero, List.set_cons_succ, i64_w, i32_w]
            rfl
          refine pure_ (i := 11) (N := some 102) (v := ?_) (a' := ?_) #[true, true, true, true, true, true, true, true, true, true, true, true, false, false, false, false, false, false, false] rfl rfl (any_of HT_.out (by kernel_rfl)) (fun _ _ _ h => h) (Or.inl ⟨by rfl, ?_⟩) ?_ ?_
          rotate_left
          · intro w'
            go_simp
            with_reducible rfl
          rotate_left
          · simp only [Act.put, List.setIfInBounds_toArray, List.set_cons_zero, List.set_cons_succ, i64_w, i32_w]
            rfl
          refine pure_ (i := 12) (N := some 103) (v := ?_) (a' := ?_) #[true, true, true, true, true, true, true, true, true, true, true, true, true, false, false, false, false, false, false] rfl rfl (any_of HT_.out (by kernel_rfl)) (fun _ _ _ h => h) (Or.inl ⟨by rfl, ?_⟩) ?_ ?_
          rotate_left
          · intro w'
            go_simp
            with_reducible rfl
          rotate_left
          · simp only [Act.put, List.setIfInBounds_toArray, List.set_cons_zero, List.set_cons_succ, i64_w, i32_w]
            rfl
          refine take_ (i := 13) (N := some 104) (v := ?_) (a' := ?_) #[true, true, true, true, true, true, true, true, true, true, true, true, true, true, false, false, false, false, false] rfl rfl (take_ofW HT_.out HW_.out (by kernel_rfl)) (fun _ _ _ h => h) (Or.inl ⟨by rfl, ?_⟩) hHeld ?_ ?_
          rotate_left
          · rintro w' ⟨s0, s1, s2⟩
            go_simp
            with_reducible rfl
          rotate_left
          · simp only [Act.put, List.setIfInBounds_toArray, List.set_cons_zero, List.set_cons_succ, i64_w, i32_w]
            rfl
          refine pure_ (i := 14) (N := some 105) (v := ?_) (a' := ?_) #[true, true, true, true, true, true, true, true, true, true, true, true, true, true, true, false, false, false, false] rfl rfl (any_of HT_.out (by kernel_rfl)) (fun _ _ _ h => h) (Or.inl ⟨by rfl, ?_⟩) ?_ ?_
          rotate_left
          · intro w'
            go_simp
            with_reducible rfl
          rotate_left
          · simp only [Act.put, List.setIfInBounds_toArray, List.set_cons_zero, List.set_cons_succ, i64_w, i32_w]
            rfl
          refine pure_ (i := 15) (N := some 106) (v := ?_) (a' := ?_) #[true, true, true, true, true, true, true, true, true, true, true, true, true, true, true, true, false, false, false] rfl rfl (any_of HT_.out (by kernel_rfl)) (fun _ _ _ h => h) (Or.inl ⟨by rfl, ?_⟩) ?_ ?_
          rotate_left
          · intro w'
            go_simp
            with_reducible rfl
          rotate_left
          · simp only [Act.put, List.setIfInBounds_toArray, List.set_cons_zero, List.set_cons_succ, i64_w, i32_w]
            rfl
          refine pure_ (i := 16) (N := some 107) (v := ?_) (a' := ?_) #[true, true, true, true, true, true, true, true, true, true, true, true, true, true, true, true, true, false, false] rfl rfl (any_of HT_.out (by kernel_rfl)) (fun _ _ _ h => h) (Or.inl ⟨by rfl, ?_⟩) ?_ ?_
          rotate_left
          · intro w'
            go_simp
            with_reducible rfl
          rotate_left
          · simp only [Act.put, List.setIfInBounds_toArray, List.set_cons_zero, List.set_cons_succ, i64_w, i32_w]
            rfl
          refine pure_ (i := 17) (N := some 108) (v := ?_) (a' := ?_) #[true, true, true, true, true, true, true, true, true, true, true, true, true, true, true, true, true, true, false] rfl rfl (any_of HT_.out (by kernel_rfl)) (fun _ _ _ h => h) (Or.inl ⟨by rfl, ?_⟩) ?_ ?_
          rotate_left
          · intro w'
            go_simp
            with_reducible rfl
          rotate_left
          · simp only [Act.put, List.setIfInBounds_toArray, List.set_cons_zero, List.set_cons_succ, i64_w, i32_w]
            rfl
          refine last_ (i := 18) (N := none) #[true, true, true, true, true, true, true, true, true, true, true, true, true, true, true, true, true, true, true] rfl rfl (one_of HT_.out (by kernel_rfl)) (by decide) (fun K hK => ?_)
          refine skip_ (w1 := ?_) (by rfl) rfl ?_ ?_
          rotate_left
          · go_simp
            rfl
          refine hK.out _ _ ?_
          clear hK K
          refine done_ (done_of HT_.out (by kernel_rfl)) ?_
          clear hHeld HT_ HW_ hx hf r0 r1 r2 r3 r4 r5 r6 r7 xf SC T3 K3
          have T4 : Aside0 (TI B G T cs l (wd2.setCell ⟨B, 3, none⟩ (.int .i64 (wrap64 (s3.e1 - sec)))) (bck 1 sec s3)) := ⟨T3d.out.setE hGB hGT hBT 3 _ (fun vb => rfl) rfl rfl⟩
          have K4 := Aside0.mk (K3d.out.setB 3 (.int .i64 (wrap64 (s3.e1 - sec))))
          clear T3d K3d
          generalize wd2.setCell ⟨B, 3, none⟩ (.int .i64 (wrap64 (s3.e1 - sec))) = w4 at T4 K4 ⊢
          go_wp2_with (fail)
          go_roundg (tms - 1)
          case measure => omega
          case rel => exact ⟨1, 2, by omega, by omega, by omega, by first | rfl | go_num, ⟨by rw [LS.out]; exact T4.out⟩, K4⟩
        · obtain rfl : tz = 2 := by omega
          have htq : (2 : Int) ≤ (tms : Int) := by omega
          have htd : decide ((2 : Int) ≤ (tms : Int)) = true := decide_eq_true htq
          have LS : Aside0 (loopS (tryS l tms rem (i + 1)) i sec 2 s = bck 2 sec (tryS l tms rem (i + 1) (fwd i 2 sec (loopS (tryS l tms rem (i + 1)) i sec 1 s)))) := ⟨rfl⟩
          generalize loopS (tryS l tms rem (i + 1)) i sec 1 s = s1 at *
          have T1 := Aside0.mk (TC.out.setTm hGB hGT hBT i 2)
          have K1 := Aside0.mk (KW.out.setT i (.int .i64 2))
          obtain ⟨vb1, hb1, hbx1, p0, p1, p2, p3, p4, p5, p6, p7⟩ := TC.out.cellB
          obtain ⟨vb2, hb2, hbx2, r0, r1, r2, r3, r4, r5, r6, r7⟩ := T1.out.cellB
          have SC := Aside0.mk (SEC.out _ _ T1.out)
          have tf := blk_frozen TC.out.team i
          have tc : wr.cell? ⟨T, i, none⟩ = some (.int .i64 (s1.tm.getD i 0)) := (blk_cell TC.out.team i).trans (by have := TC.out.len; have h2 : i < s1.tm.length := (by omega); simp [List.getD_eq_getElem?_getD, List.getElem?_eq_getElem h2])
          have xf := blk_frozen hbx2 4
          clear hb1 hbx1 hb2 hbx2
          go_wp2_with (fail)
          clear p0 p1 p2 p3 p4 p5 p6 p7 tf tc
          have T1d : Aside0 (TI B G T cs l (wr.setCell ⟨T, i, none⟩ (.int .i64 2)).drew { s1 with tm := s1.tm.set i 2 }) := ⟨T1.out.move (KP.refl B T (wr.setCell ⟨T, i, none⟩ (.int .i64 2))).drew hGB hGT rfl rfl⟩
          have K1d : Aside0 (KP B T w (wr.setCell ⟨T, i, none⟩ (.int .i64 2)).drew) := ⟨K1.out.drew⟩
          have hx : (wr.setCell ⟨T, i, none⟩ (.int .i64 2)).drew.cell? ⟨B, 4, none⟩ = some (.int .i64 s1.e2) := r4
          have hf : (wr.setCell ⟨T, i, none⟩ (.int .i64 2)).drew.frozen? ⟨B, 4, none⟩ = false := xf
          refine start_ (n := 19) (S := fun w' => w'.cell? ⟨B, 4, none⟩ = some (.int .i64 s1.e2) ∧ w'.cell? ⟨B, 0, none⟩ = some (.slice (some ⟨G, 0, none⟩) l.length cs) ∧ w'.cell? ⟨G, i * 3 + 2, none⟩ = some (.int .i64 sec)) (ds := [18]) #[false, false, false, false, false, false, false, false, false, false, false, false, false, false, false, false, false, false, false] (by kernel_rfl) rfl rfl ⟨r4, r0, SC.out⟩ (fun hHeld => ?_)
          refine with_tabW try_tab8 try_bits8 (fun HT_ HW_ => ?_)
          generalize (wr.setCell ⟨T, i, none⟩ (.int .i64 2)).drew = wd at T1d K1d hx hf hHeld ⊢
          refine pure_ (i := 0) (N := some 68) (v := ?_) (a' := ?_) #[true, false, false, false, false, false, false, false, false, false, false, false, false, false, false, false, false, false, false] rfl rfl (any_of HT_.out (by kernel_rfl)) (fun _ _ _ h => h) (Or.inl ⟨by rfl, ?_⟩) ?_ ?_
          rotate_left
          · intro w'
            go_simp
            with_reducible rfl
          rotate_left
          · simp only [Act.put, List.setIfInBounds_toArray, List.set_cons_zero, List.set_cons_succ, i64_w, i32_w]
            rfl
          refine pure_ (i := 1) (N := some 69) (v := ?_) (a' := ?_) #[true, true, false, false, false, false, false, false, false, false, false, false, false, false, false, false, false, false, false] rfl rfl (any_of HT_.out (by kernel_rfl)) (fun _ _ _ h => h) (Or.inl ⟨by rfl, ?_⟩) ?_ ?_
          rotate_left
          · intro w'
            go_simp
            with_reducible rfl
          rotate_left
          · simp only [Act.put, List.setIfInBounds_toArray, List.set_cons_zero, List.set_cons_succ, i64_w, i32_w]
            rfl
          refine pure_ (i := 2) (N := some 70) (v := ?_) (a' := ?_) #[true, true, true, false, false, false, false, false, false, false, false, false, false, false, false, false, false, false, false] rfl rfl (any_of HT_.out (by kernel_rfl)) (fun _ _ _ h => h) (Or.inl ⟨by rfl, ?_⟩) ?_ ?_
          rotate_left
          · intro w'
            go_simp
            with_reducible rfl
          rotate_left
          · simp only [Act.put, List.setIfInBounds_toArray, List.set_cons_zero, List.set_cons_succ, i64_w, i32_w]
            rfl
          refine pure_ (i := 3) (N := some 71) (v := ?_) (a' := ?_) #[true, true, true, true, false, false, false, false, false, false, false, false, false, false, false, false, false, false, false] rfl rfl (any_of HT_.out (by kernel_rfl)) (fun _ _ _ h => h) (Or.inl ⟨by rfl, ?_⟩) ?_ ?_
          rotate_left
          · intro w'
            go_simp
            with_reducible rfl
          rotate_left
          · simp only [Act.put, List.setIfInBounds_toArray, List.set_cons_zero, List.set_cons_succ, i64_w, i32_w]
            rfl
          refine pure_ (i := 4) (N := some 72) (v := ?_) (a' := ?_) #[true, true, true, true, true, false, false, false, false, false, false, false, false, false, false, false, false, false, false] rfl rfl (any_of HT_.out (by kernel_rfl)) (fun _ _ _ h => h) (Or.inl ⟨by rfl, ?_⟩) ?_ ?_
          rotate_left
          · intro w'
            go_simp
            with_reducible rfl
          rotate_left
          · simp only [Act.put, List.setIfInBounds_toArray, List.set_cons_zero, List.set_cons_succ, i64_w, i32_w]
            rfl
          refine take_ (i := 5) (N := some 73) (v := ?_) (a' := ?_) #[true, true, true, true, true, true, false, false, false, false, false, false, false, false, false, false, false, false, false] rfl rfl (take_ofW HT_.out HW_.out (by kernel_rfl)) (fun _ _ _ h => h) (Or.inl ⟨by rfl, ?_⟩) hHeld ?_ ?_
          rotate_left
          · rintro w' ⟨s0, s1, s2⟩
            go_simp
            with_reducible rfl
          rotate_left
          · simp only [Act.put, List.setIfInBounds_toArray, List.set_cons_zero, List.set_cons_succ, i64_w, i32_w]
            rfl
          refine pure_ (i := 6) (N := some 74) (v := ?_) (a' := ?_) #[true, true, true, true, true, true, true, false, false, false, false, false, false, false, false, false, false, false, false] rfl rfl (any_of HT_.out (by kernel_rfl)) (fun _ _ _ h => h) (Or.inl ⟨by rfl, ?_⟩) ?_ ?_
          rotate_left
          · intro w'
            go_simp
            with_reducible rfl
          rotate_left
          · simp only [Act.put, List.setIfInBounds_toArray, List.set_cons_zero, List.set_cons_succ, i64_w, i32_w]
            rfl
          refine pure_ (i := 7) (N := some 75) (v := ?_) (a' := ?_) #[true, true, true, true, true, true, true, true, false, false, false, false, false, false, false, false, false, false, false] rfl rfl (any_of HT_.out (by kernel_rfl)) (fun _ _ _ h => h) (Or.inl ⟨by rfl, ?_⟩) ?_ ?_
          rotate_left
          · intro w'
            go_simp
            with_reducible rfl
          rotate_left
          · simp only [Act.put, List.setIfInBounds_toArray, List.set_cons_zero, List.set_cons_succ, i64_w, i32_w]
            rfl
          refine pure_ (i := 8) (N := some 76) (v := ?_) (a' := ?_) #[true, true, true, true, true, true, true, true, true, false, false, false, false, false, false, false, false, false, false] rfl rfl (any_of HT_.out (by kernel_rfl)) (fun _ _ _ h => h) (Or.inl ⟨by rfl, ?_⟩) ?_ ?_
          rotate_left
          · intro w'
            go_simp
            with_reducible rfl
          rotate_left
          · simp only [Act.put, List.setIfInBounds_toArray, List.set_cons_zero, List.set_cons_succ, i64_w, i32_w]
            rfl
          refine take_ (i := 9) (N := some 77) (v := ?_) (a' := ?_) #[true, true, true, true, true, true, true, true, true, true, false, false, false, false, false, false, false, false, false] rfl rfl (take_ofW HT_.out HW_.out (by kernel_rfl)) (fun _ _ _ h => h) (Or.inl ⟨by rfl, ?_⟩) hHeld ?_ ?_
          rotate_left
          · rintro w' ⟨s0, s1, s2⟩
            go_simp
            with_reducible rfl
          rotate_left
          · simp only [Act.put, List.setIfInBounds_toArray, List.set_cons_zero, List.set_cons_succ, i64_w, i32_w]
            rfl
          refine pure_ (i := 10) (N := some 78) (v := ?_) (a' := ?_) #[true, true, true, true, true, true, true, true, true, true, true, false, false, false, false, false, false, false, false] rfl rfl (any_of HT_.out (by kernel_rfl)) (fun _ _ _ h => h) (Or.inl ⟨by rfl, ?_⟩) ?_ ?_
          rotate_left
          · intro w'
            go_simp
            with_reducible rfl
          rotate_left
          · simp only [Act.put, List.setIfInBounds_toArray, List.set_cons_zero, List.set_cons_succ, i64_w, i32_w]
            rfl
          refine pure_ (i := 11) (N := some 79) (v := ?_) (a' := ?_) #[true, true, true, true, true, true, true, true, true, true, true, true, false, false, false, false, false, false, false] rfl rfl (any_of HT_.out (by kernel_rfl)) (fun _ _ _ h => h) (Or.inl ⟨by rfl, ?_⟩) ?_ ?_
          rotate_left
          · intro w'
            go_simp
            with_reducible rfl
          rotate_left
          · simp only [Act.put, List.setIfInBounds_toArray, List.set_cons_zero, List.set_cons_succ, i64_w, i32_w]
            rfl
          refine pure_ (i := 12) (N := some 80) (v := ?_) (a' := ?_) #[true, true, true, true, true, true, true, true, true, true, true, true, true, false, false, false, false, false, false] rfl rfl (any_of HT_.out (by kernel_rfl)) (fun _ _ _ h => h) (Or.inl ⟨by rfl, ?_⟩) ?_ ?_
          rotate_left
          · intro w'
            go_simp
            with_reducible rfl
          rotate_left
          · simp only [Act.put, List.setIfInBounds_toArray, List.set_cons_zero, List.set_cons_succ, i64_w, i32_w]
            rfl
          refine take_ (i := 13) (N := some 81) (v := ?_) (a' := ?_) #[true, true, true, true, true, true, true, true, true, true, true, true, true, true, false, false, false, false, false] rfl rfl (take_ofW HT_.out HW_.out (by kernel_rfl)) (fun _ _ _ h => h) (Or.inl ⟨by rfl, ?_⟩) hHeld ?_ ?_
          rotate_left
          · rintro w' ⟨s0, s1, s2⟩
            go_simp
            with_reducible rfl
          rotate_left
          · simp only [Act.put, List.setIfInBounds_toArray, List.set_cons_zero, List.set_cons_succ, i64_w, i32_w]
            rfl
          refine pure_ (i := 14) (N := some 82) (v := ?_) (a' := ?_) #[true, true, true, true, true, true, true, true, true, true, true, true, true, true, true, false, false, false, false] rfl rfl (any_of HT_.out (by kernel_rfl)) (fun _ _ _ h => h) (Or.inl ⟨by rfl, ?_⟩) ?_ ?_
          rotate_left
          · intro w'
            go_simp
            with_reducible rfl
          rotate_left
          · simp only [Act.put, List.setIfInBounds_toArray, List.set_cons_zero, List.set_cons_succ, i64_w, i32_w]
            rfl
          refine pure_ (i := 15) (N := some 83) (v := ?_) (a' := ?_) #[true, true, true, true, true, true, true, true, true, true, true, true, true, true, true, true, false, false, false] rfl rfl (any_of HT_.out (by kernel_rfl)) (fun _ _ _ h => h) (Or.inl ⟨by rfl, ?_⟩) ?_ ?_
          rotate_left
          · intro w'
            go_simp
            with_reducible rfl
          rotate_left
          · simp only [Act.put, List.setIfInBounds_toArray, List.set_cons_zero, List.set_cons_succ, i64_w, i32_w]
            rfl
          refine pure_ (i := 16) (N := some 84) (v := ?_) (a' := ?_) #[true, true, true, true, true, true, true, true, true, true, true, true, true, true, true, true, true, false, false] rfl rfl (any_of HT_.out (by kernel_rfl)) (fun _ _ _ h => h) (Or.inl ⟨by rfl, ?_⟩) ?_ ?_
          rotate_left
          · intro w'
            go_simp
            with_reducible rfl
          rotate_left
          · simp only [Act.put, List.setIfInBounds_toArray, List.set_cons_zero, List.set_cons_succ, i64_w, i32_w]
            rfl
          refine pure_ (i := 17) (N := some 85) (v := ?_) (a' := ?_) #[true, true, true, true, true, true, true, true, true, true, true, true, true, true, true, true, true, true, false] rfl rfl (any_of HT_.out (by kernel_rfl)) (fun _ _ _ h => h) (Or.inl ⟨by rfl, ?_⟩) ?_ ?_
          rotate_left
          · intro w'
            go_simp
            with_reducible rfl
          rotate_left
          · simp only [Act.put, List.setIfInBounds_toArray, List.set_cons_zero, List.set_cons_succ, i64_w, i32_w]
            rfl
          refine last_ (i := 18) (N := none) #[true, true, true, true, true, true, true, true, true, true, true, true, true, true, true, true, true, true, true] rfl rfl (one_of HT_.out (by kernel_rfl)) (by decide) (fun K hK => ?_)
          refine skip_ (w1 := ?_) (by rfl) rfl ?_ ?_
          rotate_left
          · go_simp
            rfl
          refine hK.out _ _ ?_
          clear hK K
          refine done_ (done_of HT_.out (by kernel_rfl)) ?_
          clear hHeld HT_ HW_ hx hf r0 r1 r2 r3 r4 r5 r6 r7 xf SC T1 K1
          have T2 : Aside0 (TI B G T cs l (wd.setCell ⟨B, 4, none⟩ (.int .i64 (wrap64 (s1.e2 + sec)))) (fwd i 2 sec s1)) := ⟨T1d.out.setE hGB hGT hBT 4 _ (fun vb => rfl) rfl rfl⟩
          have K2 := Aside0.mk (K1d.out.setB 4 (.int .i64 (wrap64 (s1.e2 + sec))))
          clear T1d K1d
          generalize wd.setCell ⟨B, 4, none⟩ (.int .i64 (wrap64 (s1.e2 + sec))) = w2 at T2 K2 ⊢
          go_wp2_with (go_at_call 30; refine (IH.out _ w2 T2.out).mono ?_; rintro e w3 ⟨rfl, hT3, hK3⟩; have T3 := Aside0.mk hT3; have K3 := Aside0.mk (K2.out.trans hK3); clear hT3 hK3)
          clear T2 K2
          generalize tryS l tms rem (i + 1) (fwd i 2 sec s1) = s3 at *
          obtain ⟨vb2, hb2, hbx2, r0, r1, r2, r3, r4, r5, r6, r7⟩ := T3.out.cellB
          have SC := Aside0.mk (SEC.out _ _ T3.out)
          have xf := blk_frozen hbx2 4
          have T3d : Aside0 (TI B G T cs l w3.drew s3) := ⟨T3.out.move (KP.refl B T w3).drew hGB hGT rfl rfl⟩
          have K3d : Aside0 (KP B T w w3.drew) := ⟨K3.out.drew⟩
          have hx : w3.drew.cell? ⟨B, 4, none⟩ = some (.int .i64 s3.e2) := r4
          have hf : w3.drew.frozen? ⟨B, 4, none⟩ = false := xf
          clear hb2 hbx2
          refine start_ (n := 19) (S := fun w' => w'.cell? ⟨B, 4, none⟩ = some (.int .i64 s3.e2) ∧ w'.cell? ⟨B, 0, none⟩ = some (.slice (some ⟨G, 0, none⟩) l.length cs) ∧ w'.cell? ⟨G, i * 3 + 2, none⟩ = some (.int .i64 sec)) (ds := [18]) #[false, false, false, false, false, false, false, false, false, false, false, false, false, false, false, false, false, false, false] (by kernel_rfl) rfl rfl ⟨r4, r0, SC.out⟩ (fun hHeld => ?_)
          refine with_tabW try_tab10 try_bits10 (fun HT_ HW_ => ?_)
          generalize w3.drew = wd2 at T3d K3d hx hf hHeld ⊢
          refine pure_ (i := 0) (N := some 91) (v := ?_) (a' := ?_) #[true, false, false, false, false, false, false, false, false, false, false, false, false, false, false, false, false, false, false] rfl rfl (any_of HT_.out (by kernel_rfl)) (fun _ _ _ h => h) (Or.inl ⟨by rfl, ?_⟩) ?_ ?_
          rotate_left
          · intro w'
            go_simp
            with_reducible rfl
          rotate_left
          · simp only [Act.put, List.setIfInBounds_toArray, List.set_cons_zero, List.set_cons_succ, i64_w, i32_w]
            rfl
          refine pure_ (i := 1) (N := some 92) (v := ?_) (a' := ?_) #[true, true, false, false, false, false, false, false, false, false, false, false, false, false, false, false, false, false, false] rfl rfl (any_of HT_.out (by kernel_rfl)) (fun _ _ _ h => h) (Or.inl ⟨by rfl, ?_⟩) ?_ ?_
          rotate_left
          · intro w'
            go_simp
            with_reducible rfl
          rotate_left
          · simp only [Act.put, List.setIfInBounds_toArray, List.set_cons_zero, List.set_cons_succ, i64_w, i32_w]
            rfl
          refine pure_ (i := 2) (N := some 93) (v := ?_) (a' := ?_) #[true, true, true, false, false, false, false, false, false, false, false, false, false, false, false, false, false, false, false] rfl rfl (any_of HT_.out (by kernel_rfl)) (fun _ _ _ h => h) (Or.inl ⟨by rfl, ?_⟩) ?_ ?_
          rotate_left
          · intro w'
            go_simp
            with_reducible rfl
          rotate_left
          · simp only [Act.put, List.setIfInBounds_toArray, List.set_cons_zero, List.set_cons_succ, i64_w, i32_w]
            rfl
          refine pure_ (i := 3) (N := some 94) (v := ?_) (a' := ?_) #[true, true, true, true, false, false, false, false, false, false, false, false, false, false, false, false, false, false, false] rfl rfl (any_of HT_.out (by kernel_rfl)) (fun _ _ _ h => h) (Or.inl ⟨by rfl, ?_⟩) ?_ ?_
          rotate_left
          · intro w'
            go_simp
            with_reducible rfl
          rotate_left
          · simp only [Act.put, List.setIfInBounds_toArray, List.set_cons_zero, List.set_cons_succ, i64_w, i32_w]
            rfl
          refine pure_ (i := 4) (N := some 95) (v := ?_) (a' := ?_) #[true, true, true, true, true, false, false, false, false, false, false, false, false, false, false, false, false, false, false] rfl rfl (any_of HT_.out (by kernel_rfl)) (fun _ _ _ h => h) (Or.inl ⟨by rfl, ?_⟩) ?_ ?_
          rotate_left
          · intro w'
            go_simp
            with_reducible rfl
          rotate_left
          · simp only [Act.put, List.setIfInBounds_toArray, List.set_cons_zero, List.set_cons_succ, i64_w, i32_w]
            rfl
          refine take_ (i := 5) (N := some 96) (v := ?_) (a' := ?_) #[true, true, true, true, true, true, false, false, false, false, false, false, false, false, false, false, false, false, false] rfl rfl (take_ofW HT_.out HW_.out (by kernel_rfl)) (fun _ _ _ h => h) (Or.inl ⟨by rfl, ?_⟩) hHeld ?_ ?_
          rotate_left
          · rintro w' ⟨s0, s1, s2⟩
            go_simp
            with_reducible rfl
          rotate_left
          · simp only [Act.put, List.setIfInBounds_toArray, List.set_cons_zero, List.set_cons_succ, i64_w, i32_w]
            rfl
          refine pure_ (i := 6) (N := some 97) (v := ?_) (a' := ?_) #[true, true, true, true, true, true, true, false, false, false, false, false, false, false, false, false, false, false, false] rfl rfl (any_of HT_.out (by kernel_rfl)) (fun _ _ _ h => h) (Or.inl ⟨by rfl, ?_⟩) ?_ ?_
          rotate_left
          · intro w'
            go_simp
            with_reducible rfl
          rotate_left
          · simp only [Act.put, List.setIfInBounds_toArray, List.set_cons_zero, List.set_cons_succ, i64_w, i32_w]
            rfl
          refine pure_ (i := 7) (N := some 98) (v := ?_) (a' := ?_) #[true, true, true, true, true, true, true, true, false, false, false, false, false, false, false, false, false, false, false] rfl rfl (any_of HT_.out (by kernel_rfl)) (fun _ _ _ h => h) (Or.inl ⟨by rfl, ?_⟩) ?_ ?_
          rotate_left
          · intro w'
            go_simp
            with_reducible rfl
          rotate_left
          · simp only [Act.put, List.setIfInBounds_toArray, List.set_cons_zero, List.set_cons_succ, i64_w, i32_w]
            rfl
          refine pure_ (i := 8) (N := some 99) (v := ?_) (a' := ?_) #[true, true, true, true, true, true, true, true, true, false, false, false, false, false, false, false, false, false, false] rfl rfl (any_of HT_.out (by kernel_rfl)) (fun _ _ _ h => h) (Or.inl ⟨by rfl, ?_⟩) ?_ ?_
          rotate_left
          · intro w'
            go_simp
            with_reducible rfl
          rotate_left
          · simp only [Act.put, List.setIfInBounds_toArray, List.set_cons_zero, List.set_cons_succ, i64_w, i32_w]
            rfl
          refine take_ (i := 9) (N := some 100) (v := ?_) (a' := ?_) #[true, true, true, true, true, true, true, true, true, true, false, false, false, false, false, false, false, false, false] rfl rfl (take_ofW HT_.out HW_.out (by kernel_rfl)) (fun _ _ _ h => h) (Or.inl ⟨by rfl, ?_⟩) hHeld ?_ ?_
          rotate_left
          · rintro w' ⟨s0, s1, s2⟩
            go_simp
            with_reducible rfl
          rotate_left
          · simp only [Act.put, List.setIfInBounds_toArray, List.set_cons_zero, List.set_cons_succ, i64_w, i32_w]
            rfl
          refine pure_ (i := 10) (N := some 101) (v := ?_) (a' := ?_) #[true, true, true, true, true, true, true, true, true, true, true, false, false, false, false, false, false, false, false] rfl rfl (any_of HT_.out (by kernel_rfl)) (fun _ _ _ h => h) (Or.inl ⟨by rfl, ?_⟩) ?_ ?_
          rotate_left
          · intro w'
            go_simp
            with_reducible rfl
          rotate_left
          · simp only [Act.put, List.setIfInBounds_toArray, List.set_cons_zero, List.set_cons_succ, i64_w, i32_w]
            rfl
          refine pure_ (i := 11) (N := some 102) (v := ?_) (a' := ?_) #[true, true, true, true, true, true, true, true, true, true, true, true, false, false, false, false, false, false, false] rfl rfl (any_of HT_.out (by kernel_rfl)) (fun _ _ _ h => h) (Or.inl ⟨by rfl, ?_⟩) ?_ ?_
          rotate_left
          · intro w'
            go_simp
            with_reducible rfl
          rotate_left
          · simp only [Act.put, List.setIfInBounds_toArray, List.set_cons_zero, List.set_cons_succ, i64_w, i32_w]
            rfl
          refine pure_ (i := 12) (N := some 103) (v := ?_) (a' := ?_) #[true, true, true, true, true, true, true, true, true, true, true, true, true, false, false, false, false, false, false] rfl rfl (any_of HT_.out (by kernel_rfl)) (fun _ _ _ h => h) (Or.inl ⟨by rfl, ?_⟩) ?_ ?_
          rotate_left
          · intro w'
            go_simp
            with_reducible rfl
          rotate_left
          · simp only [Act.put, List.setIfInBounds_toArray, List.set_cons_zero, List.set_cons_succ, i64_w, i32_w]
            rfl
          refine take_ (i := 13) (N := some 104) (v := ?_) (a' := ?_) #[true, true, true, true, true, true, true, true, true, true, true, true, true, true, false, false, false, false, false] rfl rfl (take_ofW HT_.out HW_.out (by kernel_rfl)) (fun _ _ _ h => h) (Or.inl ⟨by rfl, ?_⟩) hHeld ?_ ?_
          rotate_left
          · rintro w' ⟨s0, s1, s2⟩
            go_simp
            with_reducible rfl
          rotate_left
          · simp only [Act.put, List.setIfInBounds_toArray, List.set_cons_zero, List.set_cons_succ, i64_w, i32_w]
            rfl
          refine pure_ (i := 14) (N := some 105) (v := ?_) (a' := ?_) #[true, true, true, true, true, true, true, true, true, true, true, true, true, true, true, false, false, false, false] rfl rfl (any_of HT_.out (by kernel_rfl)) (fun _ _ _ h => h) (Or.inl ⟨by rfl, ?_⟩) ?_ ?_
          rotate_left
          · intro w'
            go_simp
            with_reducible rfl
          rotate_left
          · simp only [Act.put, List.setIfInBounds_toArray, List.set_cons_zero, List.set_cons_succ, i64_w, i32_w]
            rfl
          refine pure_ (i := 15) (N := some 106) (v := ?_) (a' := ?_) #[true, true, true, true, true, true, true, true, true, true, true, true, true, true, true, true, false, false, false] rfl rfl (any_of HT_.out (by kernel_rfl)) (fun _ _ _ h => h) (Or.inl ⟨by rfl, ?_⟩) ?_ ?_
          rotate_left
          · intro w'
            go_simp
            with_reducible rfl
          rotate_left
          · simp only [Act.put, List.setIfInBounds_toArray, List.set_cons_zero, List.set_cons_succ, i64_w, i32_w]
            rfl
          refine pure_ (i := 16) (N := some 107) (v := ?_) (a' := ?_) #[true, true, true, true, true, true, true, true, true, true, true, true, true, true, true, true, true, false, false] rfl rfl (any_of HT_.out (by kernel_rfl)) (fun _ _ _ h => h) (Or.inl ⟨by rfl, ?_⟩) ?_ ?_
          rotate_left
          · intro w'
            go_simp
            with_reducible rfl
          rotate_left
          · simp only [Act.put, List.setIfInBounds_toArray, List.set_cons_zero, List.set_cons_succ, i64_w, i32_w]
            rfl
          refine pure_ (i := 17) (N := some 108) (v := ?_) (a' := ?_) #[true, true, true, true, true, true, true, true, true, true, true, true, true, true, true, true, true, true, false] rfl rfl (any_of HT_.out (by kernel_rfl)) (fun _ _ _ h => h) (Or.inl ⟨by rfl, ?_⟩) ?_ ?_
          rotate_left
          · intro w'
            go_simp
            with_reducible rfl
          rotate_left
          · simp only [Act.put, List.setIfInBounds_toArray, List.set_cons_zero, List.set_cons_succ, i64_w, i32_w]
            rfl
          refine last_ (i := 18) (N := none) #[true, true, true, true, true, true, true, true, true, true, true, true, true, true, true, true, true, true, true] rfl rfl (one_of HT_.out (by kernel_rfl)) (by decide) (fun K hK => ?_)
          refine skip_ (w1 := ?_) (by rfl) rfl ?_ ?_
          rotate_left
          · go_simp
            rfl
          refine hK.out _ _ ?_
          clear hK K
          refine done_ (done_of HT_.out (by kernel_rfl)) ?_
          clear hHeld HT_ HW_ hx hf r0 r1 r2 r3 r4 r5 r6 r7 xf SC T3 K3
          have T4 : Aside0 (TI B G T cs l (wd2.setCell ⟨B, 4, none⟩ (.int .i64 (wrap64 (s3.e2 - sec)))) (bck 2 sec s3)) := ⟨T3d.out.setE hGB hGT hBT 4 _ (fun vb => rfl) rfl rfl⟩
          have K4 := Aside0.mk (K3d.out.setB 4 (.int .i64 (wrap64 (s3.e2 - sec))))
          clear T3d K3d
          generalize wd2.setCell ⟨B, 4, none⟩ (.int .i64 (wrap64 (s3.e2 - sec))) = w4 at T4 K4 ⊢
          go_wp2_with (fail)
          go_roundg (tms - 2)
          case measure => omega
          case rel => exact ⟨2, 3, by omega, by omega, by omega, by first | rfl | go_num, ⟨by rw [LS.out]; exact T4.out⟩, K4⟩
        · obtain rfl : tz = 3 := by omega
          have htq : (3 : Int) ≤ (tms : Int) := by omega
          have htd : decide ((3 : Int) ≤ (tms : Int)) = true := decide_eq_true htq
          have LS : Aside0 (loopS (tryS l tms rem (i + 1)) i sec 3 s = bck 3 sec (tryS l tms rem (i + 1) (fwd i 3 sec (loopS (tryS l tms rem (i + 1)) i sec 2 s)))) := ⟨rfl⟩
          generalize loopS (tryS l tms rem (i + 1)) i sec 2 s = s1 at *
          have T1 := Aside0.mk (TC.out.setTm hGB hGT hBT i 3)
          have K1 := Aside0.mk (KW.out.setT i (.int .i64 3))
          obtain ⟨vb1, hb1, hbx1, p0, p1, p2, p3, p4, p5, p6, p7⟩ := TC.out.cellB
          obtain ⟨vb2, hb2, hbx2, r0, r1, r2, r3, r4, r5, r6, r7⟩ := T1.out.cellB
          have SC := Aside0.mk (SEC.out _ _ T1.out)
          have tf := blk_frozen TC.out.team i
          have tc : wr.cell? ⟨T, i, none⟩ = some (.int .i64 (s1.tm.getD i 0)) := (blk_cell TC.out.team i).trans (by have := TC.out.len; have h2 : i < s1.tm.length := (by omega); simp [List.getD_eq_getElem?_getD, List.getElem?_eq_getElem h2])
          have xf := blk_frozen hbx2 5
          clear hb1 hbx1 hb2 hbx2
          go_wp2_with (fail)
          clear p0 p1 p2 p3 p4 p5 p6 p7 tf tc
          have T1d : Aside0 (TI B G T cs l (wr.setCell ⟨T, i, none⟩ (.int .i64 3)).drew { s1 with tm := s1.tm.set i 3 }) := ⟨T1.out.move (KP.refl B T (wr.setCell ⟨T, i, none⟩ (.int .i64 3))).drew hGB hGT rfl rfl⟩
          have K1d : Aside0 (KP B T w (wr.setCell ⟨T, i, none⟩ (.int .i64 3)).drew) := ⟨K1.out.drew⟩
          have hx : (wr.setCell ⟨T, i, none⟩ (.int .i64 3)).drew.cell? ⟨B, 5, none⟩ = some (.int .i64 s1.e3) := r5
          have hf : (wr.setCell ⟨T, i, none⟩ (.int .i64 3)).drew.frozen? ⟨B, 5, none⟩ = false := xf
          refine start_ (n := 19) (S := fun w' => w'.cell? ⟨B, 5, none⟩ = some (.int .i64 s1.e3) ∧ w'.cell? ⟨B, 0, none⟩ = some (.slice (some ⟨G, 0, none⟩) l.length cs) ∧ w'.cell? ⟨G, i * 3 + 2, none⟩ = some (.int .i64 sec)) (ds := [18]) #[false, false, false, false, false, false, false, false, false, false, false, false, false, false, false, false, false, false, false] (by kernel_rfl) rfl rfl ⟨r5, r0, SC.out⟩ (fun hHeld => ?_)
          refine with_tabW try_tab8 try_bits8 (fun HT_ HW_ => ?_)
          generalize (wr.setCell ⟨T, i, none⟩ (.int .i64 3)).drew = wd at T1d K1d hx hf hHeld ⊢
          refine pure_ (i := 0) (N := some 68) (v := ?_) (a' := ?_) #[true, false, false, false, false, false, false, false, false, false, false, false, false, false, false, false, false, false, false] rfl rfl (any_of HT_.out (by kernel_rfl)) (fun _ _ _ h => h) (Or.inl ⟨by rfl, ?_⟩) ?_ ?_
          rotate_left
          · intro w'
            go_simp
            with_reducible rfl
          rotate_left
          · simp only [Act.put, List.setIfInBounds_toArray, List.set_cons_zero, List.set_cons_succ, i64_w, i32_w]
            rfl
          refine pure_ (i := 1) (N := some 69) (v := ?_) (a' := ?_) #[true, true, false, false, false, false, false, false, false, false, false, false, false, false, false, false, false, false, false] rfl rfl (any_of HT_.out (by kernel_rfl)) (fun _ _ _ h => h) (Or.inl ⟨by rfl, ?_⟩) ?_ ?_
          rotate_left
          · intro w'
            go_simp
            with_reducible rfl
          rotate_left
          · simp only [Act.put, List.setIfInBounds_toArray, List.set_cons_zero, List.set_cons_succ, i64_w, i32_w]
            rfl
          refine pure_ (i := 2) (N := some 70) (v := ?_) (a' := ?_) #[true, true, true, false, false, false, false, false, false, false, false, false, false, false, false, false, false, false, false] rfl rfl (any_of HT_.out (by kernel_rfl)) (fun _ _ _ h => h) (Or.inl ⟨by rfl, ?_⟩) ?_ ?_
          rotate_left
          · intro w'
            go_simp
            with_reducible rfl
          rotate_left
          · simp only [Act.put, List.setIfInBounds_toArray, List.set_cons_zero, List.set_cons_succ, i64_w, i32_w]
            rfl
          refine pure_ (i := 3) (N := some 71) (v := ?_) (a' := ?_) #[true, true, true, true, false, false, false, false, false, false, false, false, false, false, false, false, false, false, false] rfl rfl (any_of HT_.out (by kernel_rfl)) (fun _ _ _ h => h) (Or.inl ⟨by rfl, ?_⟩) ?_ ?_
          rotate_left
          · intro w'
            go_simp
            with_reducible rfl
          rotate_left
          · simp only [Act.put, List.setIfInBounds_toArray, List.set_cons_zero, List.set_cons_succ, i64_w, i32_w]
            rfl
          refine pure_ (i := 4) (N := some 72) (v := ?_) (a' := ?_) #[true, true, true, true, true, false, false, false, false, false, false, false, false, false, false, false, false, false, false] rfl rfl (any_of HT_.out (by kernel_rfl)) (fun _ _ _ h => h) (Or.inl ⟨by rfl, ?_⟩) ?_ ?_
          rotate_left
          · intro w'
            go_simp
            with_reducible rfl
          rotate_left
          · simp only [Act.put, List.setIfInBounds_toArray, List.set_cons_zero, List.set_cons_succ, i64_w, i32_w]
            rfl
          refine take_ (i := 5) (N := some 73) (v := ?_) (a' := ?_) #[true, true, true, true, true, true, false, false, false, false, false, false, false, false, false, false, false, false, false] rfl rfl (take_ofW HT_.out HW_.out (by kernel_rfl)) (fun _ _ _ h => h) (Or.inl ⟨by rfl, ?_⟩) hHeld ?_ ?_
          rotate_left
          · rintro w' ⟨s0, s1, s2⟩
            go_simp
            with_reducible rfl
          rotate_left
          · simp only [Act.put, List.setIfInBounds_toArray, List.set_cons_zero, List.set_cons_succ, i64_w, i32_w]
            rfl
          refine pure_ (i := 6) (N := some 74) (v := ?_) (a' := ?_) #[true, true, true, true, true, true, true, false, false, false, false, false, false, false, false, false, false, false, false] rfl rfl (any_of HT_.out (by kernel_rfl)) (fun _ _ _ h => h) (Or.inl ⟨by rfl, ?_⟩) ?_ ?_
          rotate_left
          · intro w'
            go_simp
            with_reducible rfl
          rotate_left
          · simp only [Act.put, List.setIfInBounds_toArray, List.set_cons_zero, List.set_cons_succ, i64_w, i32_w]
            rfl
          refine pure_ (i := 7) (N := some 75) (v := ?_) (a' := ?_) #[true, true, true, true, true, true, true, true, false, false, false, false, false, false, false, false, false, false, false] rfl rfl (any_of HT_.out (by kernel_rfl)) (fun _ _ _ h => h) (Or.inl ⟨by rfl, ?_⟩) ?_ ?_
          rotate_left
          · intro w'
            go_simp
            with_reducible rfl
          rotate_left
          · simp only [Act.put, List.setIfInBounds_toArray, List.set_cons_zero, List.set_cons_succ, i64_w, i32_w]
            rfl
          refine pure_ (i := 8) (N := some 76) (v := ?_) (a' := ?_) #[true, true, true, true, true, true, true, true, true, false, false, false, false, false, false, false, false, false, false] rfl rfl (any_of HT_.out (by kernel_rfl)) (fun _ _ _ h => h) (Or.inl ⟨by rfl, ?_⟩) ?_ ?_
          rotate_left
          · intro w'
            go_simp
            with_reducible rfl
          rotate_left
          · simp only [Act.put, List.setIfInBounds_toArray, List.set_cons_zero, List.set_cons_succ, i64_w, i32_w]
            rfl
          refine take_ (i := 9) (N := some 77) (v := ?_) (a' := ?_) #[true, true, true, true, true, true, true, true, true, true, false, false, false, false, false, false, false, false, false] rfl rfl (take_ofW HT_.out HW_.out (by kernel_rfl)) (fun _ _ _ h => h) (Or.inl ⟨by rfl, ?_⟩) hHeld ?_ ?_
          rotate_left
          · rintro w' ⟨s0, s1, s2⟩
            go_simp
            with_reducible rfl
          rotate_left
          · simp only [Act.put, List.setIfInBounds_toArray, List.set_cons_zero, List.set_cons_succ, i64_w, i32_w]
            rfl
          refine pure_ (i := 10) (N := some 78) (v := ?_) (a' := ?_) #[true, true, true, true, true, true, true, true, true, true, true, false, false, false, false, false, false, false, false] rfl rfl (any_of HT_.out (by kernel_rfl)) (fun _ _ _ h => h) (Or.inl ⟨by rfl, ?_⟩) ?_ ?_
          rotate_left
          · intro w'
            go_simp
            with_reducible rfl
          rotate_left
          · simp only [Act.put, List.setIfInBounds_toArray, List.set_cons_zero, List.set_cons_succ, i64_w, i32_w]
            rfl
          refine pure_ (i := 11) (N := some 79) (v := ?_) (a' := ?_) #[true, true, true, true, true, true, true, true, true, true, true, true, false, false, false, false, false, false, false] rfl rfl (any_of HT_.out (by kernel_rfl)) (fun _ _ _ h => h) (Or.inl ⟨by rfl, ?_⟩) ?_ ?_
          rotate_left
          · intro w'
            go_simp
            with_reducible rfl
          rotate_left
          · simp only [Act.put, List.setIfInBounds_toArray, List.set_cons_zero, List.set_cons_succ, i64_w, i32_w]
            rfl
          refine pure_ (i := 12) (N := some 80) (v := ?_) (a' := ?_) #[true, true, true, true, true, true, true, true, true, true, true, true, true, false, false, false, false, false, false] rfl rfl (any_of HT_.out (by kernel_rfl)) (fun _ _ _ h => h) (Or.inl ⟨by rfl, ?_⟩) ?_ ?_
          rotate_left
          · intro w'
            go_simp
            with_reducible rfl
          rotate_left
          · simp only [Act.put, List.setIfInBounds_toArray, List.set_cons_zero, List.set_cons_succ, i64_w, i32_w]
            rfl
          refine take_ (i := 13) (N := some 81) (v := ?_) (a' := ?_) #[true, true, true, true, true, true, true, true, true, true, true, true, true, true, false, false, false, false, false] rfl rfl (take_ofW HT_.out HW_.out (by kernel_rfl)) (fun _ _ _ h => h) (Or.inl ⟨by rfl, ?_⟩) hHeld ?_ ?_
          rotate_left
          · rintro w' ⟨s0, s1, s2⟩
            go_simp
            with_reducible rfl
          rotate_left
          · simp only [Act.put, List.setIfInBounds_toArray, List.set_cons_zero, List.set_cons_succ, i64_w, i32_w]
            rfl
          refine pure_ (i := 14) (N := some 82) (v := ?_) (a' := ?_) #[true, true, true, true, true, true, true, true, true, true, true, true, true, true, true, false, false, false, false] rfl rfl (any_of HT_.out (by kernel_rfl)) (fun _ _ _ h => h) (Or.inl ⟨by rfl, ?_⟩) ?_ ?_
          rotate_left
          · intro w'
            go_simp
            with_reducible rfl
          rotate_left
          · simp only [Act.put, List.setIfInBounds_toArray, List.set_cons_zero, List.set_cons_succ, i64_w, i32_w]
            rfl
          refine pure_ (i := 15) (N := some 83) (v := ?_) (a' := ?_) #[true, true, true, true, true, true, true, true, true, true, true, true, true, true, true, true, false, false, false] rfl rfl (any_of HT_.out (by kernel_rfl)) (fun _ _ _ h => h) (Or.inl ⟨by rfl, ?_⟩) ?_ ?_
          rotate_left
          · intro w'
            go_simp
            with_reducible rfl
          rotate_left
          · simp only [Act.put, List.setIfInBounds_toArray, List.set_cons_zero, List.set_cons_succ, i64_w, i32_w]
            rfl
          refine pure_ (i := 16) (N := some 84) (v := ?_) (a' := ?_) #[true, true, true, true, true, true, true, true, true, true, true, true, true, true, true, true, true, false, false] rfl rfl (any_of HT_.out (by kernel_rfl)) (fun _ _ _ h => h) (Or.inl ⟨by rfl, ?_⟩) ?_ ?_
          rotate_left
          · intro w'
            go_simp
            with_reducible rfl
          rotate_left
          · simp only [Act.put, List.setIfInBounds_toArray, List.set_cons_zero, List.set_cons_succ, i64_w, i32_w]
            rfl
          refine pure_ (i := 17) (N := some 85) (v := ?_) (a' := ?_) #[true, true, true, true, true, true, true, true, true, true, true, true, true, true, true, true, true, true, false] rfl rfl (any_of HT_.out (by kernel_rfl)) (fun _ _ _ h => h) (Or.inl ⟨by rfl, ?_⟩) ?_ ?_
          rotate_left
          · intro w'
            go_simp
            with_reducible rfl
          rotate_left
          · simp only [Act.put, List.setIfInBounds_toArray, List.set_cons_zero, List.set_cons_succ, i64_w, i32_w]
            rfl
          refine last_ (i := 18) (N := none) #[true, true, true, true, true, true, true, true, true, true, true, true, true, true, true, true, true, true, true] rfl rfl (one_of HT_.out (by kernel_rfl)) (by decide) (fun K hK => ?_)
          refine skip_ (w1 := ?_) (by rfl) rfl ?_ ?_
          rotate_left
          · go_simp
            rfl
          refine hK.out _ _ ?_
          clear hK K
          refine done_ (done_of HT_.out (by kernel_rfl)) ?_
          clear hHeld HT_ HW_ hx hf r0 r1 r2 r3 r4 r5 r6 r7 xf SC T1 K1
          have T2 : Aside0 (TI B G T cs l (wd.setCell ⟨B, 5, none⟩ (.int .i64 (wrap64 (s1.e3 + sec)))) (fwd i 3 sec s1)) := ⟨T1d.out.setE hGB hGT hBT 5 _ (fun vb => rfl) rfl rfl⟩
          have K2 := Aside0.mk (K1d.out.setB 5 (.int .i64 (wrap64 (s1.e3 + sec))))
          clear T1d K1d
          generalize wd.setCell ⟨B, 5, none⟩ (.int .i64 (wrap64 (s1.e3 + sec))) = w2 at T2 K2 ⊢
          go_wp2_with (go_at_call 30; refine (IH.out _ w2 T2.out).mono ?_; rintro e w3 ⟨rfl, hT3, hK3⟩; have T3 := Aside0.mk hT3; have K3 := Aside0.mk (K2.out.trans hK3); clear hT3 hK3)
          clear T2 K2
          generalize tryS l tms rem (i + 1) (fwd i 3 sec s1) = s3 at *
          obtain ⟨vb2, hb2, hbx2, r0, r1, r2, r3, r4, r5, r6, r7⟩ := T3.out.cellB
          have SC := Aside0.mk (SEC.out _ _ T3.out)
          have xf := blk_frozen hbx2 5
          have T3d : Aside0 (TI B G T cs l w3.drew s3) := ⟨T3.out.move (KP.refl B T w3).drew hGB hGT rfl rfl⟩
          have K3d : Aside0 (KP B T w w3.drew) := ⟨K3.out.drew⟩
          have hx : w3.drew.cell? ⟨B, 5, none⟩ = some (.int .i64 s3.e3) := r5
          have hf : w3.drew.frozen? ⟨B, 5, none⟩ = false := xf
          clear hb2 hbx2
          refine start_ (n := 19) (S := fun w' => w'.cell? ⟨B, 5, none⟩ = some (.int .i64 s3.e3) ∧ w'.cell? ⟨B, 0, none⟩ = some (.slice (some ⟨G, 0, none⟩) l.length cs) ∧ w'.cell? ⟨G, i * 3 + 2, none⟩ = some (.int .i64 sec)) (ds := [18]) #[false, false, false, false, false, false, false, false, false, false, false, false, false, false, false, false, false, false, false] (by kernel_rfl) rfl rfl ⟨r5, r0, SC.out⟩ (fun hHeld => ?_)
          refine with_tabW try_tab10 try_bits10 (fun HT_ HW_ => ?_)
          generalize w3.drew = wd2 at T3d K3d hx hf hHeld ⊢
          refine pure_ (i := 0) (N := some 91) (v := ?_) (a' := ?_) #[true, false, false, false, false, false, false, false, false, false, false, false, false, false, false, false, false, false, false] rfl rfl (any_of HT_.out (by kernel_rfl)) (fun _ _ _ h => h) (Or.inl ⟨by rfl, ?_⟩) ?_ ?_
          rotate_left
          · intro w'
            go_simp
            with_reducible rfl
          rotate_left
          · simp only [Act.put, List.setIfInBounds_toArray, List.set_cons_zero, List.set_cons_succ, i64_w, i32_w]
            rfl
          refine pure_ (i := 1) (N := some 92) (v := ?_) (a' := ?_) #[true, true, false, false, false, false, false, false, false, false, false, false, false, false, false, false, false, false, false] rfl rfl (any_of HT_.out (by kernel_rfl)) (fun _ _ _ h => h) (Or.inl ⟨by rfl, ?_⟩) ?_ ?_
          rotate_left
          · intro w'
            go_simp
            with_reducible rfl
          rotate_left
          · simp only [Act.put, List.setIfInBounds_toArray, List.set_cons_zero, List.set_cons_succ, i64_w, i32_w]
            rfl
          refine pure_ (i := 2) (N := some 93) (v := ?_) (a' := ?_) #[true, true, true, false, false, false, false, false, false, false, false, false, false, false, false, false, false, false, false] rfl rfl (any_of HT_.out (by kernel_rfl)) (fun _ _ _ h => h) (Or.inl ⟨by rfl, ?_⟩) ?_ ?_
          rotate_left
          · intro w'
            go_simp
            with_reducible rfl
          rotate_left
          · simp only [Act.put, List.setIfInBounds_toArray, List.set_cons_zero, List.set_cons_succ, i64_w, i32_w]
            rfl
          refine pure_ (i := 3) (N := some 94) (v := ?_) (a' := ?_) #[true, true, true, true, false, false, false, false, false, false, false, false, false, false, false, false, false, false, false] rfl rfl (any_of HT_.out (by kernel_rfl)) (fun _ _ _ h => h) (Or.inl ⟨by rfl, ?_⟩) ?_ ?_
          rotate_left
          · intro w'
            go_simp
            with_reducible rfl
          rotate_left
          · simp only [Act.put, List.setIfInBounds_toArray, List.set_cons_zero, List.set_cons_succ, i64_w, i32_w]
            rfl
          refine pure_ (i := 4) (N := some 95) (v := ?_) (a' := ?_) #[true, true, true, true, true, false, false, false, false, false, false, false, false, false, false, false, false, false, false] rfl rfl (any_of HT_.out (by kernel_rfl)) (fun _ _ _ h => h) (Or.inl ⟨by rfl, ?_⟩) ?_ ?_
          rotate_left
          · intro w'
            go_simp
            with_reducible rfl
          rotate_left
          · simp only [Act.put, List.setIfInBounds_toArray, List.set_cons_zero, List.set_cons_succ, i64_w, i32_w]
            rfl
          refine take_ (i := 5) (N := some 96) (v := ?_) (a' := ?_) #[true, true, true, true, true, true, false, false, false, false, false, false, false, false, false, false, false, false, false] rfl rfl (take_ofW HT_.out HW_.out (by kernel_rfl)) (fun _ _ _ h => h) (Or.inl ⟨by rfl, ?_⟩) hHeld ?_ ?_
          rotate_left
          · rintro w' ⟨s0, s1, s2⟩
            go_simp
            with_reducible rfl
          rotate_left
          · simp only [Act.put, List.setIfInBounds_toArray, List.set_cons_zero, List.set_cons_succ, i64_w, i32_w]
            rfl
          refine pure_ (i := 6) (N := some 97) (v := ?_) (a' := ?_) #[true, true, true, true, true, true, true, false, false, false, false, false, false, false, false, false, false, false, false] rfl rfl (any_of HT_.out (by kernel_rfl)) (fun _ _ _ h => h) (Or.inl ⟨by rfl, ?_⟩) ?_ ?_
          rotate_left
          · intro w'
            go_simp
            with_reducible rfl
          rotate_left
          · simp only [Act.put, List.setIfInBounds_toArray, List.set_cons_zero, List.set_cons_succ, i64_w, i32_w]
            rfl
          refine pure_ (i := 7) (N := some 98) (v := ?_) (a' := ?_) #[true, true, true, true, true, true, true, true, false, false, false, false, false, false, false, false, false, false, false] rfl rfl (any_of HT_.out (by kernel_rfl)) (fun _ _ _ h => h) (Or.inl ⟨by rfl, ?_⟩) ?_ ?_
          rotate_left
          · intro w'
            go_simp
            with_reducible rfl
          rotate_left
          · simp only [Act.put, List.setIfInBounds_toArray, List.set_cons_zero, List.set_cons_succ, i64_w, i32_w]
            rfl
          refine pure_ (i := 8) (N := some 99) (v := ?_) (a' := ?_) #[true, true, true, true, true, true, true, true, true, false, false, false, false, false, false, false, false, false, false] rfl rfl (any_of HT_.out (by kernel_rfl)) (fun _ _ _ h => h) (Or.inl ⟨by rfl, ?_⟩) ?_ ?_
          rotate_left
          · intro w'
            go_simp
            with_reducible rfl
          rotate_left
          · simp only [Act.put, List.setIfInBounds_toArray, List.set_cons_zero, List.set_cons_succ, i64_w, i32_w]
            rfl
          refine take_ (i := 9) (N := some 100) (v := ?_) (a' := ?_) #[true, true, true, true, true, true, true, true, true, true, false, false, false, false, false, false, false, false, false] rfl rfl (take_ofW HT_.out HW_.out (by kernel_rfl)) (fun _ _ _ h => h) (Or.inl ⟨by rfl, ?_⟩) hHeld ?_ ?_
          rotate_left
          · rintro w' ⟨s0, s1, s2⟩
            go_simp
            with_reducible rfl
          rotate_left
          · simp only [Act.put, List.setIfInBounds_toArray, List.set_cons_zero, List.set_cons_succ, i64_w, i32_w]
            rfl
          refine pure_ (i := 10) (N := some 101) (v := ?_) (a' := ?_) #[true, true, true, true, true, true, true, true, true, true, true, false, false, false, false, false, false, false, false] rfl rfl (any_of HT_.out (by kernel_rfl)) (fun _ _ _ h => h) (Or.inl ⟨by rfl, ?_⟩) ?_ ?_
          rotate_left
          · intro w'
            go_simp
            with_reducible rfl
          rotate_left
          · simp only [Act.put, List.setIfInBounds_toArray, List.set_cons_zero, List.set_cons_succ, i64_w, i32_w]
            rfl
          refine pure_ (i := 11) (N := some 102) (v := ?_) (a' := ?_) #[true, true, true, true, true, true, true, true, true, true, true, true, false, false, false, false, false, false, false] rfl rfl (any_of HT_.out (by kernel_rfl)) (fun _ _ _ h => h) (Or.inl ⟨by rfl, ?_⟩) ?_ ?_
          rotate_left
          · intro w'
            go_simp
            with_reducible rfl
          rotate_left
          · simp only [Act.put, List.setIfInBounds_toArray, List.set_cons_zero, List.set_cons_succ, i64_w, i32_w]
            rfl
          refine pure_ (i := 12) (N := some 103) (v := ?_) (a' := ?_) #[true, true, true, true, true, true, true, true, true, true, true, true, true, false, false, false, false, false, false] rfl rfl (any_of HT_.out (by kernel_rfl)) (fun _ _ _ h => h) (Or.inl ⟨by rfl, ?_⟩) ?_ ?_
          rotate_left
          · intro w'
            go_simp
            with_reducible rfl
          rotate_left
          · simp only [Act.put, List.setIfInBounds_toArray, List.set_cons_zero, List.set_cons_succ, i64_w, i32_w]
            rfl
          refine take_ (i := 13) (N := some 104) (v := ?_) (a' := ?_) #[true, true, true, true, true, true, true, true, true, true, true, true, true, true, false, false, false, false, false] rfl rfl (take_ofW HT_.out HW_.out (by kernel_rfl)) (fun _ _ _ h => h) (Or.inl ⟨by rfl, ?_⟩) hHeld ?_ ?_
          rotate_left
          · rintro w' ⟨s0, s1, s2⟩
            go_simp
            with_reducible rfl
          rotate_left
          · simp only [Act.put, List.setIfInBounds_toArray, List.set_cons_zero, List.set_cons_succ, i64_w, i32_w]
            rfl
          refine pure_ (i := 14) (N := some 105) (v := ?_) (a' := ?_) #[true, true, true, true, true, true, true, true, true, true, true, true, true, true, true, false, false, false, false] rfl rfl (any_of HT_.out (by kernel_rfl)) (fun _ _ _ h => h) (Or.inl ⟨by rfl, ?_⟩) ?_ ?_
          rotate_left
          · intro w'
            go_simp
            with_reducible rfl
          rotate_left
          · simp only [Act.put, List.setIfInBounds_toArray, List.set_cons_zero, List.set_cons_succ, i64_w, i32_w]
            rfl
          refine pure_ (i := 15) (N := some 106) (v := ?_) (a' := ?_) #[true, true, true, true, true, true, true, true, true, true, true, true, true, true, true, true, false, false, false] rfl rfl (any_of HT_.out (by kernel_rfl)) (fun _ _ _ h => h) (Or.inl ⟨by rfl, ?_⟩) ?_ ?_
          rotate_left
          · intro w'
            go_simp
            with_reducible rfl
          rotate_left
          · simp only [Act.put, List.setIfInBounds_toArray, List.set_cons_zero, List.set_cons_succ, i64_w, i32_w]
            rfl
          refine pure_ (i := 16) (N := some 107) (v := ?_) (a' := ?_) #[true, true, true, true, true, true, true, true, true, true, true, true, true, true, true, true, true, false, false] rfl rfl (any_of HT_.out (by kernel_rfl)) (fun _ _ _ h => h) (Or.inl ⟨by rfl, ?_⟩) ?_ ?_
          rotate_left
          · intro w'
            go_simp
            with_reducible rfl
          rotate_left
          · simp only [Act.put, List.setIfInBounds_toArray, List.set_cons_zero, List.set_cons_succ, i64_w, i32_w]
            rfl
          refine pure_ (i := 17) (N := some 108) (v := ?_) (a' := ?_) #[true, true, true, true, true, true, true, true, true, true, true, true, true, true, true, true, true, true, false] rfl rfl (any_of HT_.out (by kernel_rfl)) (fun _ _ _ h => h) (Or.inl ⟨by rfl, ?_⟩) ?_ ?_
          rotate_left
          · intro w'
            go_simp
            with_reducible rfl
          rotate_left
          · simp only [Act.put, List.setIfInBounds_toArray, List.set_cons_zero, List.set_cons_succ, i64_w, i32_w]
            rfl
          refine last_ (i := 18) (N := none) #[true, true, true, true, true, true, true, true, true, true, true, true, true, true, true, true, true, true, true] rfl rfl (one_of HT_.out (by kernel_rfl)) (by decide) (fun K hK => ?_)
          refine skip_ (w1 := ?_) (by rfl) rfl ?_ ?_
          rotate_left
          · go_simp
            rfl
          refine hK.out _ _ ?_
          clear hK K
          refine done_ (done_of HT_.out (by kernel_rfl)) ?_
          clear hHeld HT_ HW_ hx hf r0 r1 r2 r3 r4 r5 r6 r7 xf SC T3 K3
          have T4 : Aside0 (TI B G T cs l (wd2.setCell ⟨B, 5, none⟩ (.int .i64 (wrap64 (s3.e3 - sec)))) (bck 3 sec s3)) := ⟨T3d.out.setE hGB hGT hBT 5 _ (fun vb => rfl) rfl rfl⟩
          have K4 := Aside0.mk (K3d.out.setB 5 (.int .i64 (wrap64 (s3.e3 - sec))))
          clear T3d K3d
          generalize wd2.setCell ⟨B, 5, none⟩ (.int .i64 (wrap64 (s3.e3 - sec))) = w4 at T4 K4 ⊢
          go_wp2_with (fail)
          go_roundg (tms - 3)
          case measure => omega
          case rel => exact ⟨3, 4, by omega, by omega, by omega, by first | rfl | go_num, ⟨by rw [LS.out]; exact T4.out⟩, K4⟩
      · obtain rfl : t = tms := by omega
        have htq : ¬ tz ≤ (t : Int) := by omega
        have htd : decide (tz ≤ (t : Int)) = false := decide_eq_false htq
        go_wp2_with (fail)
        go_end0
        exact ⟨rfl, by rw [R.out]; exact TC.out, KW.out⟩
theorem try_all (B G T cs : Nat) (l : List S33) (tms : Nat) (htm : tms ≤ 3) (hGB : G ≠ B) (hGT : G ≠ T) (hBT : B ≠ T) (hl0 : 0 < l.length) (hl : l.length < 2932031007402) : ∀ (rem i : Nat), i + rem = l.length → TryOk B G T cs l tms rem i
  | 0, i, e => fun s w h => by
    obtain rfl : i = l.length := by omega
    cases hc : cutS s with
    | true => exact try_cut B G T cs l tms hGB hGT hBT 0 _ s w h hc
    | false => exact try_leaf B G T cs l tms hGB hGT hBT hl0 hl s w h hc
  | rem + 1, i, e => fun s w h => by
    cases hc : cutS s with
    | true => exact try_cut B G T cs l tms hGB hGT hBT (rem + 1) _ s w h hc
    | false => exact try_loop B G T cs l tms htm hGB hGT hBT hl rem i (by omega) (try_all B G T cs l tms htm hGB hGT hBT hl0 hl rem (i + 1) (by omega)) s w h hc
/-- the jobs of an assignment -/
def jobsGo (td : List S33) (bl : List Int) : Nat → Nat → List S35 → Int → Int → Int → Option (List S35)
  | 0, _, js, _, _, _ => some js
  | n + 1, i, js, a1, a2, a3 =>
    if bl.getD i 0 = 1 then jobsGo td bl n (i + 1) (js ++ [⟨1, (rd_T33 td (i : Int)).f0, a1, wrap64 (a1 + (rd_T33 td (i : Int)).f2)⟩]) (wrap64 (a1 + (rd_T33 td (i : Int)).f2)) a2 a3
    else if bl.getD i 0 = 2 then jobsGo td bl n (i + 1) (js ++ [⟨2, (rd_T33 td (i : Int)).f0, a2, wrap64 (a2 + (rd_T33 td (i : Int)).f2)⟩]) a1 (wrap64 (a2 + (rd_T33 td (i : Int)).f2)) a3
    else if bl.getD i 0 = 3 then jobsGo td bl n (i + 1) (js ++ [⟨3, (rd_T33 td (i : Int)).f0, a3, wrap64 (a3 + (rd_T33 td (i : Int)).f2)⟩]) a1 a2 (wrap64 (a3 + (rd_T33 td (i : Int)).f2))
    else none
def st0 (n : Nat) : St := ⟨List.replicate n 0, 0, 0, 0, none, 0⟩
def planP (td : List S33) (tms : Int) : Option (List S35 × Int × Int) :=
  (tryS td tms.toNat td.length 0 (st0 td.length)).b.bind fun bl => (jobsGo td bl td.length 0 [] 0 0 0).bind fun js => some (js, (tryS td tms.toNat td.length 0 (st0 td.length)).ls, 0)
def rescue_Plan.f (l0 : List S33) (a1 : Int) : Option (List S35 × Int × Int) := if a1 < 1 ∨ 3 < a1 then some ([], 0, 2) else (rescue_needing.f l0).bind fun td => if td.length = 0 then some ([], 0, 0) else planP td a1
theorem made_ints (n : Nat) : madeCells #[.int .i64 0] n = ((List.replicate n (0 : Int)).map (Value.int .i64)).toArray := by
  have h := toList_madeCells_one (.int .i64 0) n
  apply Array.ext'
  rw [h]
  simp
theorem keep_typed {W w1 : World} {row : Option Nat} {e t : TypeId} {X : Nat} {cs : Array Value} (hty : ∀ k, row = some k → ∃ cells, W.heap[k]? = some (.cells cells e (0, 0))) (hg : W.grownBy w1 row) (hX : W.heap[X]? = some (.cells cs t (0, 0))) (hne : t ≠ e) : w1.heap[X]? = some (.cells cs t (0, 0)) := by
  rw [hg.block X (blk_lt hX) (fun he => ?_)]
  · exact hX
  · obtain ⟨cells, hc⟩ := hty X he.symm
    rw [hX] at hc
    injection hc with hc
    injection hc with _ hc
    exact hne hc
/-- the sections' cells -/
theorem sec_cells {W : World} {G : Nat} {td : List S33} (h : Kd.C k33 W (some ⟨G, 0, none⟩) td.length td) (j : Nat) (hj : j < td.length) : W.cell? ⟨G, j * 3, none⟩ = some (.int .i64 (rd_T33 td (j : Int)).f0) ∧ W.cell? ⟨G, j * 3 + 1, none⟩ = some (.int .i64 (rd_T33 td (j : Int)).f1) ∧ W.cell? ⟨G, j * 3 + 2, none⟩ = some (.int .i64 (rd_T33 td (j : Int)).f2) := by
  obtain ⟨ad, e, h0, h1, h2⟩ := at_T33 h (j : Int) (by omega) (by omega)
  cases e
  simp only [add_plain, Int.toNat_natCast] at h0 h1 h2
  exact ⟨h0, h1, h2⟩
def plan_T14 : Bool × List (List Nat × List Nat) := (true, [([], []), ([], []), ([], []), ([2], [2]), ([], []), ([4], [4]), ([5], [5]), ([], []), ([7], [7]), ([8], [8]), ([], []), ([10], [10]), ([9, 11], [9, 11]), ([1, 3, 6, 12], [1, 3, 6, 12]), ([13], [13]), ([0, 14], [0, 14]), ([15, 15, 0, 1, 2, 3, 4, 5, 6, 7, 8, 9, 10, 11, 12, 13, 14, 15], [0, 15])])
def plan_B14 : List Nat := [0, 0, 0, 4, 0, 16, 48, 0, 128, 384, 0, 1024, 3968, 8190, 16382, 32767, 65535]
theorem plan_tab14 : rtab .any (opsOf Try.f13 14) = plan_T14 := by kernel_rfl
theorem plan_bits14 : waitsOk plan_T14.2 plan_B14 = true := by kernel_rfl
def plan_T15 : Bool × List (List Nat × List Nat) := (true, [([], []), ([0], [0]), ([1], [1]), ([], []), ([3], [3]), ([2, 4], [2, 4]), ([0, 0, 1, 2, 3, 4, 5], [0]), ([6, 5, 0, 1, 2, 3, 4, 5], [5, 6])])
def plan_B15 : List Nat := [0, 1, 3, 0, 8, 31, 63, 127]
theorem plan_tab15 : rtab .any (opsOf Try.f13 15) = plan_T15 := by kernel_rfl
theorem plan_bits15 : waitsOk plan_T15.2 plan_B15 = true := by kernel_rfl
theorem TI_start (w1 : World) (G c2 : Nat) (td : List S33) (hG : G < w1.heap.size) (hC : Kd.C k33 w1 (some ⟨G, 0, none⟩) td.length td) :
    TI w1.heap.size G (w1.heap.size + 1) c2 td ((w1.alloc (.cells #[.slice (some ⟨G, 0, none⟩) td.length c2, .slice (some ⟨w1.heap.size + 1, 0, none⟩) td.length td.length, .int .i64 0, .int .i64 0, .int .i64 0, .int .i64 0, .slice none 0 0, .int .i64 0] 57)).alloc (.cells (madeCells #[.int .i64 0] td.length) 3)) (st0 td.length) := by
  refine ⟨⟨.slice none 0 0, blk_alloc (blk_new _ _) _, rfl⟩, ?_, by simp [st0], fun x h => (by cases h), fun j hj => ?_, ?_⟩
  · have := blk_new (w1.alloc (.cells #[.slice (some ⟨G, 0, none⟩) td.length c2, .slice (some ⟨w1.heap.size + 1, 0, none⟩) td.length td.length, .int .i64 0, .int .i64 0, .int .i64 0, .int .i64 0, .slice none 0 0, .int .i64 0] 57)) (.cells (madeCells #[.int .i64 0] td.length) 3)
    rw [made_ints, World.size_alloc] at this
    rw [made_ints]
    exact this
  · exact Lib.cell?_alloc_some _ (Lib.cell?_alloc_some _ (sec_cells hC j hj).2.2)
  · simp; omega
theorem KP.below2 {B T : Nat} {A W X : World} (h : KP B T A W) (k : Below A.heap.size W X) : KP B T A X :=
  ⟨k.os.trans h.os, k.tape.trans h.tape, k.output.trans h.output, Nat.le_trans h.size k.size, fun i h1 h2 h3 => (k.block i h1).trans (h.block i h1 h2 h3)⟩
set_option maxHeartbeats 16000000 in
set_option maxRecDepth 100000 in
theorem plan_calls (A0 : Option Addr) (c0 : Nat) (l0 td : List S33) (tms : Int) (w : World) (hr0 : Kd.C k33 w A0 l0.length l0) (hc0 : l0.length ≤ c0) (hf : rescue_needing.f l0 = some td) (h1 : 1 ≤ tms) (h3 : tms ≤ 3) (hl0 : 0 < td.length) (hl : td.length < 2932031007402) (r1 : List S35) (r2 r3 : Int) (hr : planP td tms = some (r1, r2, r3)) :
    Calls Try.prog 13 #[.slice A0 l0.length c0, .int .i64 tms] w fun e w' => ∃ v0_ : Value, e = .returned (.tuple #[v0_, .int .i64 r2, .int .i64 r3]) ∧ Kd.R k35 35 w' w.heap.size (fun _ => True) v0_ r1 ∧ Below w.heap.size w w' := by
  have hu33 := Try.underlying33
  have hu22 := Try.underlying22
  have hu35 := Try.underlying35
  have hu23 := Try.underlying23
  have hu43 := Try.underlying43
  have hu57 := Try.underlying57
  have hu55 := Try.underlying55
  obtain ⟨i0, hi0, hz0, hs0, hb0⟩ := info_parts info3
  have NEED := Aside0.mk (rescue_needing.calls A0 c0 l0 td w hr0 hc0 hf)
  clear hr0 hf
  have TRY : Aside0 (∀ (B G T cs : Nat) (w : World), G ≠ B → G ≠ T → B ≠ T → TI B G T cs td w (st0 td.length) → Calls Try.prog 30 #[.pointer (some ⟨B, 0, none⟩), .int .i64 0, .int .i64 tms] w fun e W' => e = .returned (.tuple #[]) ∧ TI B G T cs td W' (tryS td tms.toNat td.length 0 (st0 td.length)) ∧ KP B T w W') := ⟨fun B G T cs w a1 a2 a3 h => by
    have h5 := try_all B G T cs td tms.toNat (by omega) a1 a2 a3 hl0 hl td.length 0 (by omega) (st0 td.length) w h
    rwa [show ((tms.toNat : Nat) : Int) = tms by omega] at h5⟩
  have HPL := Aside0.mk hr
  clear hr
  have t1 : decide (tms < 1) = false := decide_eq_false (by omega)
  have t2 : decide (3 < tms) = false := decide_eq_false (by omega)
  have tn1 : ¬ tms < 1 := by omega
  have tn2 : ¬ 3 < tms := by omega
  have hq : ((td.length : Int) == 0) = false := beq_eq_false_iff_ne.2 (by omega)
  have H1 := Aside0.mk h1
  have H3 := Aside0.mk h3
  clear h1 h3
  go_enter Try.func13, Try.ntmps13
  go_wp2_with (first | (go_at_call 29; refine NEED.out.mono ?_; rintro e w1 ⟨v1, rfl, hR1, hB1⟩; obtain ⟨G, c2, rfl, hg1, hg2, -⟩ := Kd.R_form hR1 hl0; have HB1 := Aside0.mk hB1; have HC1 := Aside0.mk (Kd.R_reads' hR1).2.2; have HG := Aside0.mk hg1; have HGw := Aside0.mk hg2; clear hR1 hB1 hg1 hg2 NEED) | (at_make; refine wpList_make_row _ rfl _ _ 43 rfl 3 i0 (.int .i64 0) Try.underlying43 hi0 hz0 hs0 rfl .i64 .i64 td.length rfl rfl (by rw [hb0]; omega) (by omega) ?_) | (go_at_call 30; refine (TRY.out w1.heap.size G (w1.heap.size + 1) c2 _ (Nat.ne_of_lt HGw.out) (by have := HGw.out; omega) (by omega) (TI_start w1 G c2 td HGw.out HC1.out)).mono ?_; rintro e w3 ⟨rfl, hT3, hK3⟩; have T3 := Aside0.mk hT3; have K3 := Aside0.mk hK3; clear hT3 hK3 TRY; obtain ⟨vb, hb, hbx, p0, p1, p2, p3, p4, p5, p6, p7⟩ := T3.out.cellB; have P0 := Aside0.mk p0; replace p0 := Lib.cell?_alloc_some (.cells #[.int .i64 0, .int .i64 0, .int .i64 0, .int .i64 0] 55) p0; have SZ3 : Aside0 (w1.heap.size + 2 ≤ w3.heap.size) := ⟨by have := K3.out.size; simpa using this⟩))
  have hpl := HPL.out
  unfold planP at hpl
  have HBL := T3.out.bl
  generalize tryS td tms.toNat td.length 0 (st0 td.length) = sf at *
  obtain ⟨tmf, e1f, e2f, e3f, bo, lsf⟩ := sf
  cases bo with
  | none => cases hpl
  | some bl =>
  rw [Option.bind_some] at hpl
  obtain ⟨js, hjs, hpe⟩ := Option.bind_eq_some_iff.1 hpl
  obtain ⟨rfl, rfl, rfl⟩ : js = r1 ∧ lsf = r2 ∧ 0 = r3 := by simpa using hpe
  have HJS : Aside0 (jobsGo td bl (td.length - 0) 0 [] 0 0 0 = some js) := ⟨hjs⟩
  have hbl := HBL bl rfl
  obtain ⟨g, cb, rfl, -, hgB, hgT, hgw, hgc⟩ := hb
  rw [hbl] at p6
  -- what stands below the array of ends stays
  have BLW : Aside0 (∀ W, KP w3.heap.size w3.heap.size (w3.alloc (.cells #[.int .i64 0, .int .i64 0, .int .i64 0, .int .i64 0] 55)) W → Below w.heap.size w W) := ⟨fun W k => by
    have s1 := HB1.out.size
    have b3 : Below w1.heap.size w1 w3 := (below_alloc (below_alloc (Below.refl w1.heap.size w1) _) _).trans (K3.out.to_below (N := w1.heap.size) (by simp; omega) (Nat.le_refl _) (by omega))
    have s3 := SZ3.out
    have b4 : Below w1.heap.size w1 W := (below_alloc b3 _).trans (k.to_below (N := w1.heap.size) (by simp; omega) (by omega) (by omega))
    exact below_then HB1.out s1 b4⟩
  have OLD : Aside0 (∀ W, KP w3.heap.size w3.heap.size (w3.alloc (.cells #[.int .i64 0, .int .i64 0, .int .i64 0, .int .i64 0] 55)) W → ∀ p : Addr, p.block < w3.heap.size → W.cell? p = w3.cell? p) := ⟨fun W k p hp => by
    rw [k.cell (p := p) (by simp; omega) (by omega) (by omega)]
    exact World.cell?_of_block (w := w3) (Below.heap_alloc w3 _ p.block hp)⟩
  have SEC : Aside0 (∀ j, j < td.length → w3.cell? ⟨G, j * 3, none⟩ = some (.int .i64 (rd_T33 td (j : Int)).f0) ∧ w3.cell? ⟨G, j * 3 + 1, none⟩ = some (.int .i64 (rd_T33 td (j : Int)).f1) ∧ w3.cell? ⟨G, j * 3 + 2, none⟩ = some (.int .i64 (rd_T33 td (j : Int)).f2)) := ⟨fun j hj => by
    obtain ⟨h0, h1, h2⟩ := sec_cells HC1.out j hj
    have e : ∀ o : Nat, w3.cell? ⟨G, o, none⟩ = w1.cell? ⟨G, o, none⟩ := fun o => by
      have hg := HGw.out
      rw [K3.out.cell (p := ⟨G, o, none⟩) (by simp; omega) (by show G ≠ _; omega) (by show G ≠ _; omega)]
      rw [World.cell?_of_block (w := w1.alloc _) (Below.heap_alloc _ _ G (by simp; omega)), World.cell?_of_block (w := w1) (Below.heap_alloc w1 _ G hg)]
    rw [e, e, e]
    exact ⟨h0, h1, h2⟩⟩
  have HGC := Aside0.mk hgc
  have HG3 : Aside0 (G < w3.heap.size) := ⟨by have := HGw.out; have := SZ3.out; omega⟩
  have HB3 : Aside0 (w1.heap.size < w3.heap.size) := ⟨by have := SZ3.out; omega⟩
  have HGB := Aside0.mk hgw
  have HBW : Aside0 (w.heap.size ≤ w3.heap.size + 1) := ⟨by have := HB1.out.size; have := SZ3.out; omega⟩
  have P6 := Aside0.mk p6
  have P7 := Aside0.mk p7
  have HBLL := Aside0.mk hbl
  clear p1 p2 p3 p4 p5 p6 p7 hbx T3 HBL hgc hpl hjs hpe hgw K3 SZ3 HC1 HGw HG hgB hgT HPL hbl
  generalize hBx : w1.heap.size = B at *
  clear hBx
  go_loopg [8, 10, 11, 12, 36] td.length (fun gg s8 _ _ _ s36 wr => ∃ (kk : Nat) (jl : List S35) (a1 a2 a3 : Int), kk ≤ td.length ∧ td.length - kk ≤ gg ∧ s36 = .int .i64 kk ∧ jl.length = kk ∧ Aside0 (jobsGo td bl (td.length - kk) kk jl a1 a2 a3 = some js) ∧ Aside0 (KP w3.heap.size w3.heap.size (w3.alloc (.cells #[.int .i64 0, .int .i64 0, .int .i64 0, .int .i64 0] 55)) wr) ∧ Aside0 (wr.heap[w3.heap.size]? = some (.cells #[.int .i64 0, .int .i64 a1, .int .i64 a2, .int .i64 a3] 55 (0, 0))) ∧ Aside0 (Kd.R k35 35 wr (w3.heap.size + 1) (fun _ => True) s8 jl))
  case atStart => exact ⟨0, [], 0, 0, 0, Nat.zero_le _, by omega, rfl, rfl, HJS, ⟨KP.refl _ _ _⟩, ⟨blk_new _ _⟩, ⟨Kd.R_nil _ _ _ _ _⟩⟩
  case round =>
    clear HJS p0
    obtain ⟨kk, jl, a1, a2, a3, hkk, hg, rfl, hjl, JS, KW, HD, RJ⟩ := hrel
    have p0 := (OLD.out wr KW.out ⟨B, 0, none⟩ HB3.out).trans P0.out
    by_cases hlt : kk < td.length
    · have hltz : (kk : Int) < (td.length : Int) := by omega
      have d1 : decide (kk < td.length) = true := decide_eq_true hlt
      obtain ⟨x0, x1, x2⟩ := SEC.out kk hlt
      replace x0 := (OLD.out wr KW.out ⟨G, kk * 3, none⟩ HG3.out).trans x0
      replace x1 := (OLD.out wr KW.out ⟨G, kk * 3 + 1, none⟩ HG3.out).trans x1
      replace x2 := (OLD.out wr KW.out ⟨G, kk * 3 + 2, none⟩ HG3.out).trans x2
      have JX : Aside0 (td.length - kk = (td.length - (kk + 1)) + 1) := ⟨by omega⟩
      rw [JX.out] at JS
      simp only [jobsGo] at JS
      have b0 := (OLD.out wr KW.out ⟨g, kk, none⟩ HGB.out).trans (HGC.out kk (by rw [HBLL.out]; exact hlt))
      have q6 := (OLD.out wr KW.out ⟨B, 6, none⟩ HB3.out).trans P6.out
      generalize rd_T33 td (kk : Int) = x at *
      generalize bl.getD kk 0 = tv at *
      have XW := Aside0.mk (blk_new wr (.cells #[.int .i64 x.f0, .int .i64 x.f1, .int .i64 x.f2] 33))
      have KX : Aside0 (KP w3.heap.size w3.heap.size (w3.alloc (.cells #[.int .i64 0, .int .i64 0, .int .i64 0, .int .i64 0] 55)) (wr.alloc (.cells #[.int .i64 x.f0, .int .i64 x.f1, .int .i64 x.f2] 33))) := ⟨KW.out.below2 (below_alloc (Below.refl _ _) _ |>.mono KW.out.size)⟩
      have DX := Aside0.mk (blk_alloc HD.out (.cells #[.int .i64 x.f0, .int .i64 x.f1, .int .i64 x.f2] 33))
      have RX := Aside0.mk (Kd.R_alloc RJ.out (.cells #[.int .i64 x.f0, .int .i64 x.f1, .int .i64 x.f2] 33))
      replace q6 := Lib.cell?_alloc_some (.cells #[.int .i64 x.f0, .int .i64 x.f1, .int .i64 x.f2] 33) q6
      replace b0 := Lib.cell?_alloc_some (.cells #[.int .i64 x.f0, .int .i64 x.f1, .int .i64 x.f2] 33) b0
      clear JX
      by_cases ht1 : tv = 1
      · subst ht1
        have JS2 : Aside0 (jobsGo td bl (td.length - (kk + 1)) (kk + 1) (jl ++ [⟨1, x.f0, a1, wrap64 (a1 + x.f2)⟩]) (wrap64 (a1 + x.f2)) a2 a3 = some js) := ⟨by have := JS.out; simpa using this⟩
        clear JS
        go_wp2_with (fail)
        clear x0 x1 x2 q6 b0 p0 KW HD RJ
        have XF : Aside0 (wr.heap.size = wr.heap.size) := ⟨rfl⟩
        generalize hX : wr.heap.size = X at *
        clear hX XF
        generalize (wr.alloc (.cells #[.int .i64 x.f0, .int .i64 x.f1, .int .i64 x.f2] 33)) = wx at *
        have c0_ := (blk_cell XW.out 0).trans rfl
        have c2_ := (blk_cell XW.out 2).trans rfl
        have ct_ := (blk_cell DX.out 1).trans rfl
        have XWd : Aside0 (wx.drew.heap[X]? = some (.cells #[.int .i64 x.f0, .int .i64 x.f1, .int .i64 x.f2] 33 (0, 0))) := ⟨XW.out⟩
        have KXd := Aside0.mk KX.out.drew
        have DXd : Aside0 (wx.drew.heap[w3.heap.size]? = some (.cells #[.int .i64 0, .int .i64 a1, .int .i64 a2, .int .i64 a3] 55 (0, 0))) := ⟨DX.out⟩
        have RXd := Aside0.mk (Kd.R_drew RX.out)
        clear XW KX DX RX
        refine start_ (n := 17) (S := fun w' => w'.cell? ⟨X, 0, none⟩ = some (.int .i64 x.f0) ∧ w'.cell? ⟨w3.heap.size, 1, none⟩ = some (.int .i64 a1) ∧ w'.cell? ⟨X, 2, none⟩ = some (.int .i64 x.f2)) (ds := [14, 15]) #[false, false, false, false, false, false, false, false, false, false, false, false, false, false, false, false, false] (by kernel_rfl) rfl rfl ⟨c0_, ct_, c2_⟩ (fun hHeld => ?_)
        refine with_tabW plan_tab14 plan_bits14 (fun HT_ HW_ => ?_)
        generalize wx.drew = wd at XWd KXd DXd RXd hHeld ⊢
        refine pure_ (i := 0) (N := some 46) (v := ?_) (a' := ?_) #[true, false, false, false, false, false, false, false, false, false, false, false, false, false, false, false, false] rfl rfl (any_of HT_.out (by kernel_rfl)) (fun _ _ _ h => h) (Or.inl ⟨by rfl, ?_⟩) ?_ ?_
        rotate_left
        · intro w'
          go_simp
          with_reducible rfl
        rotate_left
        · simp only [Act.put, List.setIfInBounds_toArray, List.set_cons_zero, List.set_cons_succ, i64_w, i32_w]
          rfl
        refine pure_ (i := 1) (N := some 47) (v := ?_) (a' := ?_) #[true, true, false, false, false, false, false, false, false, false, false, false, false, false, false, false, false] rfl rfl (any_of HT_.out (by kernel_rfl)) (fun _ _ _ h => h) (Or.inl ⟨by rfl, ?_⟩) ?_ ?_
        rotate_left
        · intro w'
          go_simp
          with_reducible rfl
        rotate_left
        · simp only [Act.put, List.setIfInBounds_toArray, List.set_cons_zero, List.set_cons_succ, i64_w, i32_w]
          rfl
        refine pure_ (i := 2) (N := some 48) (v := ?_) (a' := ?_) #[true, true, true, false, false, false, false, false, false, false, false, false, false, false, false, false, false] rfl rfl (any_of HT_.out (by kernel_rfl)) (fun _ _ _ h => h) (Or.inl ⟨by rfl, ?_⟩) ?_ ?_
        rotate_left
        · intro w'
          go_simp
          with_reducible rfl
        rotate_left
        · simp only [Act.put, List.setIfInBounds_toArray, List.set_cons_zero, List.set_cons_succ, i64_w, i32_w]
          rfl
        refine take_ (i := 3) (N := some 49) (v := ?_) (a' := ?_) #[true, true, true, true, false, false, false, false, false, false, false, false, false, false, false, false, false] rfl rfl (take_ofW HT_.out HW_.out (by kernel_rfl)) (fun _ _ _ h => h) (Or.inl ⟨by rfl, ?_⟩) hHeld ?_ ?_
        rotate_left
        · rintro w' ⟨s0, s1, s2⟩
          go_simp
          with_reducible rfl
        rotate_left
        · simp only [Act.put, List.setIfInBounds_toArray, List.set_cons_zero, List.set_cons_succ, i64_w, i32_w]
          rfl
        refine pure_ (i := 4) (N := some 50) (v := ?_) (a' := ?_) #[true, true, true, true, true, false, false, false, false, false, false, false, false, false, false, false, false] rfl rfl (any_of HT_.out (by kernel_rfl)) (fun _ _ _ h => h) (Or.inl ⟨by rfl, ?_⟩) ?_ ?_
        rotate_left
        · intro w'
          go_simp
          with_reducible rfl
        rotate_left
        · simp only [Act.put, List.setIfInBounds_toArray, List.set_cons_zero, List.set_cons_succ, i64_w, i32_w]
          rfl
        refine pure_ (i := 5) (N := some 51) (v := ?_) (a' := ?_) #[true, true, true, true, true, true, false, false, false, false, false, false, false, false, false, false, false] rfl rfl (any_of HT_.out (by kernel_rfl)) (fun _ _ _ h => h) (Or.inl ⟨by rfl, ?_⟩) ?_ ?_
        rotate_left
        · intro w'
          go_simp
          with_reducible rfl
        rotate_left
        · simp only [Act.put, List.setIfInBounds_toArray, List.set_cons_zero, List.set_cons_succ, i64_w, i32_w]
          rfl
        refine take_ (i := 6) (N := some 52) (v := ?_) (a' := ?_) #[true, true, true, true, true, true, true, false, false, false, false, false, false, false, false, false, false] rfl rfl (take_ofW HT_.out HW_.out (by kernel_rfl)) (fun _ _ _ h => h) (Or.inl ⟨by rfl, ?_⟩) hHeld ?_ ?_
        rotate_left
        · rintro w' ⟨s0, s1, s2⟩
          go_simp
          with_reducible rfl
        rotate_left
        · simp only [Act.put, List.setIfInBounds_toArray, List.set_cons_zero, List.set_cons_succ, i64_w, i32_w]
          rfl
        refine pure_ (i := 7) (N := some 53) (v := ?_) (a' := ?_) #[true, true, true, true, true, true, true, true, false, false, false, false, false, false, false, false, false] rfl rfl (any_of HT_.out (by kernel_rfl)) (fun _ _ _ h => h) (Or.inl ⟨by rfl, ?_⟩) ?_ ?_
        rotate_left
        · intro w'
          go_simp
          with_reducible rfl
        rotate_left
        · simp only [Act.put, List.setIfInBounds_toArray, List.set_cons_zero, List.set_cons_succ, i64_w, i32_w]
          rfl
        refine pure_ (i := 8) (N := some 54) (v := ?_) (a' := ?_) #[true, true, true, true, true, true, true, true, true, false, false, false, false, false, false, false, false] rfl rfl (any_of HT_.out (by kernel_rfl)) (fun _ _ _ h => h) (Or.inl ⟨by rfl, ?_⟩) ?_ ?_
        rotate_left
        · intro w'
          go_simp
          with_reducible rfl
        rotate_left
        · simp only [Act.put, List.setIfInBounds_toArray, List.set_cons_zero, List.set_cons_succ, i64_w, i32_w]
          rfl
        refine take_ (i := 9) (N := some 55) (v := ?_) (a' := ?_) #[true, true, true, true, true, true, true, true, true, true, false, false, false, false, false, false, false] rfl rfl (take_ofW HT_.out HW_.out (by kernel_rfl)) (fun _ _ _ h => h) (Or.inl ⟨by rfl, ?_⟩) hHeld ?_ ?_
        rotate_left
        · rintro w' ⟨s0, s1, s2⟩
          go_simp
          with_reducible rfl
        rotate_left
        · simp only [Act.put, List.setIfInBounds_toArray, List.set_cons_zero, List.set_cons_succ, i64_w, i32_w]
          rfl
        refine pure_ (i := 10) (N := some 56) (v := ?_) (a' := ?_) #[true, true, true, true, true, true, true, true, true, true, true, false, false, false, false, false, false] rfl rfl (any_of HT_.out (by kernel_rfl)) (fun _ _ _ h => h) (Or.inl ⟨by rfl, ?_⟩) ?_ ?_
        rotate_left
        · intro w'
          go_simp
          with_reducible rfl
        rotate_left
        · simp only [Act.put, List.setIfInBounds_toArray, List.set_cons_zero, List.set_cons_succ, i64_w, i32_w]
          rfl
        refine take_ (i := 11) (N := some 57) (v := ?_) (a' := ?_) #[true, true, true, true, true, true, true, true, true, true, true, true, false, false, false, false, false] rfl rfl (take_ofW HT_.out HW_.out (by kernel_rfl)) (fun _ _ _ h => h) (Or.inl ⟨by rfl, ?_⟩) hHeld ?_ ?_
        rotate_left
        · rintro w' ⟨s0, s1, s2⟩
          go_simp
          with_reducible rfl
        rotate_left
        · simp only [Act.put, List.setIfInBounds_toArray, List.set_cons_zero, List.set_cons_succ, i64_w, i32_w]
          rfl
        refine pure_ (i := 12) (N := some 58) (v := ?_) (a' := ?_) #[true, true, true, true, true, true, true, true, true, true, true, true, true, false, false, false, false] rfl rfl (any_of HT_.out (by kernel_rfl)) (fun _ _ _ h => h) (Or.inl ⟨by rfl, ?_⟩) ?_ ?_
        rotate_left
        · intro w'
          go_simp
          with_reducible rfl
        rotate_left
        · simp only [Act.put, List.setIfInBounds_toArray, List.set_cons_zero, List.set_cons_succ, i64_w, i32_w]
          rfl
        refine pure_ (i := 13) (N := some 59) (v := ?_) (a' := ?_) #[true, true, true, true, true, true, true, true, true, true, true, true, true, true, false, false, false] rfl rfl (any_of HT_.out (by kernel_rfl)) (fun _ _ _ h => h) (Or.inl ⟨by rfl, ?_⟩) ?_ ?_
        rotate_left
        · intro w'
          go_simp
          with_reducible rfl
        rotate_left
        · simp only [Act.put, List.setIfInBounds_toArray, List.set_cons_zero, List.set_cons_succ, i64_w, i32_w]
          rfl
        refine last_ (i := 14) (N := some 60) #[true, true, true, true, true, true, true, true, true, true, true, true, true, true, true, false, false] rfl rfl (one_of HT_.out (by kernel_rfl)) (by decide) (fun K hK => ?_)
        refine value_ (w1 := ?_) (v := ?_) (by rfl) rfl ?_ ?_
        rotate_left 2
        · go_simp
          constructor
          · rfl
          · rfl
        refine hK.out _ _ ?_
        clear hK K
        refine norm_ (a' := ?_) ?_ ?_
        rotate_left
        · show Act.put _ (some 60) _ = _
          simp only [Act.put, List.setIfInBounds_toArray, List.set_cons_zero, List.set_cons_succ, i64_w, i32_w]
          rfl
        refine last_ (i := 15) (N := some 61) #[true, true, true, true, true, true, true, true, true, true, true, true, true, true, true, true, false] rfl rfl (one_of HT_.out (by kernel_rfl)) (by decide) (fun K hK => ?_)
        refine Kd.R_append_step k35 (w0 := wd) (w3.heap.size + 1) (by rfl) (.tmp 46) (.tmp 60) 23 35 (.agg #[(.int .i64 0), (.int .i64 0), (.int .i64 0), (.int .i64 0)]) 32 rfl Try.underlying23 info35 rfl (by decide) (by omega) u8 jl (⟨1, x.f0, a1, wrap64 (a1 + x.f2)⟩ : S35) [.int .i64 1, .int .i64 x.f0, .int .i64 a1, .int .i64 (wrap64 (a1 + x.f2))] (fun _ => True) (fun _ => False) rfl rfl ?aP (fun _ hk => hk.elim) ?aF ?aO ?aB ?aS ?aL ?_
        (case aP => exact k35_mkM _ _ _ (⟨1, x.f0, a1, wrap64 (a1 + x.f2)⟩ : S35))
        (case aB => exact Below.refl _ _)
        (case aF => exact (fun _ _ => trivial))
        (case aO => exact RXd.out)
        (case aS => have := KXd.out.size; simpa using this)
        (case aL => omega)
        intro v9 w9 ho hb hg hat
        have KX9 := Aside0.mk (KXd.out.below2 (hb.mono (by simp)))
        have XW9 := Aside0.mk (keep_typed (Kd.R_typed RXd.out) hg XWd.out (by decide))
        have DX9 := Aside0.mk (keep_typed (Kd.R_typed RXd.out) hg DXd.out (by decide))
        have RX9 := Aside0.mk ho
        clear ho hb hg hat XWd KXd DXd RXd
        refine hK.out _ _ ?_
        clear hK K
        refine norm_ (a' := ?_) ?_ ?_
        rotate_left
        · show Act.put _ (some 61) _ = _
          simp only [Act.put, List.setIfInBounds_toArray, List.set_cons_zero, List.set_cons_succ, i64_w, i32_w]
          rfl
        refine pure_ (i := 16) (N := some 8) (v := ?_) (a' := ?_) #[true, true, true, true, true, true, true, true, true, true, true, true, true, true, true, true, true] rfl rfl (any_of HT_.out (by kernel_rfl)) (fun _ _ _ h => h) (Or.inl ⟨by rfl, ?_⟩) ?_ ?_
        rotate_left
        · intro w'
          go_simp
          with_reducible rfl
        rotate_left
        · simp only [Act.put, List.setIfInBounds_toArray, List.set_cons_zero, List.set_cons_succ, i64_w, i32_w]
          rfl
        refine done_ (done_of HT_.out (by kernel_rfl)) ?_
        clear hHeld HT_ HW_ c0_ c2_ ct_
        go_wp2_with (fail)
        have c2_ := (blk_cell XW9.out 2).trans rfl
        have ct_ := (blk_cell DX9.out 1).trans rfl
        have hx : w9.drew.cell? ⟨w3.heap.size, 1, none⟩ = some (.int .i64 a1) := ct_
        have hf : w9.drew.frozen? ⟨w3.heap.size, 1, none⟩ = false := blk_frozen DX9.out 1
        have DXd : Aside0 (w9.drew.heap[w3.heap.size]? = some (.cells #[.int .i64 0, .int .i64 a1, .int .i64 a2, .int .i64 a3] 55 (0, 0))) := ⟨DX9.out⟩
        have KXd := Aside0.mk KX9.out.drew
        have RXd := Aside0.mk (Kd.R_drew RX9.out)
        clear KX9 XW9 DX9 RX9
        refine start_ (n := 8) (S := fun w' => w'.cell? ⟨w3.heap.size, 1, none⟩ = some (.int .i64 a1) ∧ w'.cell? ⟨X, 2, none⟩ = some (.int .i64 x.f2)) (ds := [7]) #[false, false, false, false, false, false, false, false] (by kernel_rfl) rfl rfl ⟨ct_, c2_⟩ (fun hHeld => ?_)
        refine with_tabW plan_tab15 plan_bits15 (fun HT_ HW_ => ?_)
        generalize w9.drew = we at DXd KXd RXd hx hf hHeld ⊢
        refine pure_ (i := 0) (N := some 62) (v := ?_) (a' := ?_) #[true, false, false, false, false, false, false, false] rfl rfl (any_of HT_.out (by kernel_rfl)) (fun _ _ _ h => h) (Or.inl ⟨by rfl, ?_⟩) ?_ ?_
        rotate_left
        · intro w'
          go_simp
          with_reducible rfl
        rotate_left
        · simp only [Act.put, List.setIfInBounds_toArray, List.set_cons_zero, List.set_cons_succ, i64_w, i32_w]
          rfl
        refine pure_ (i := 1) (N := some 63) (v := ?_) (a' := ?_) #[true, true, false, false, false, false, false, false] rfl rfl (any_of HT_.out (by kernel_rfl)) (fun _ _ _ h => h) (Or.inl ⟨by rfl, ?_⟩) ?_ ?_
        rotate_left
        · intro w'
          go_simp
          with_reducible rfl
        rotate_left
        · simp only [Act.put, List.setIfInBounds_toArray, List.set_cons_zero, List.set_cons_succ, i64_w, i32_w]
          rfl
        refine take_ (i := 2) (N := some 64) (v := ?_) (a' := ?_) #[true, true, true, false, false, false, false, false] rfl rfl (take_ofW HT_.out HW_.out (by kernel_rfl)) (fun _ _ _ h => h) (Or.inl ⟨by rfl, ?_⟩) hHeld ?_ ?_
        rotate_left
        · rintro w' ⟨s0, s1⟩
          go_simp
          with_reducible rfl
        rotate_left
        · simp only [Act.put, List.setIfInBounds_toArray, List.set_cons_zero, List.set_cons_succ, i64_w, i32_w]
          rfl
        refine pure_ (i := 3) (N := some 65) (v := ?_) (a' := ?_) #[true, true, true, true, false, false, false, false] rfl rfl (any_of HT_.out (by kernel_rfl)) (fun _ _ _ h => h) (Or.inl ⟨by rfl, ?_⟩) ?_ ?_
        rotate_left
        · intro w'
          go_simp
          with_reducible rfl
        rotate_left
        · simp only [Act.put, List.setIfInBounds_toArray, List.set_cons_zero, List.set_cons_succ, i64_w, i32_w]
          rfl
        refine take_ (i := 4) (N := some 66) (v := ?_) (a' := ?_) #[true, true, true, true, true, false, false, false] rfl rfl (take_ofW HT_.out HW_.out (by kernel_rfl)) (fun _ _ _ h => h) (Or.inl ⟨by rfl, ?_⟩) hHeld ?_ ?_
        rotate_left
        · rintro w' ⟨s0, s1⟩
          go_simp
          with_reducible rfl
        rotate_left
        · simp only [Act.put, List.setIfInBounds_toArray, List.set_cons_zero, List.set_cons_succ, i64_w, i32_w]
          rfl
        refine pure_ (i := 5) (N := some 67) (v := ?_) (a' := ?_) #[true, true, true, true, true, true, false, false] rfl rfl (any_of HT_.out (by kernel_rfl)) (fun _ _ _ h => h) (Or.inl ⟨by rfl, ?_⟩) ?_ ?_
        rotate_left
        · intro w'
          go_simp
          with_reducible rfl
        rotate_left
        · simp only [Act.put, List.setIfInBounds_toArray, List.set_cons_zero, List.set_cons_succ, i64_w, i32_w]
          rfl
        refine pure_ (i := 6) (N := some 68) (v := ?_) (a' := ?_) #[true, true, true, true, true, true, true, false] rfl rfl (any_of HT_.out (by kernel_rfl)) (fun _ _ _ h => h) (Or.inl ⟨by rfl, ?_⟩) ?_ ?_
        rotate_left
        · intro w'
          go_simp
          with_reducible rfl
        rotate_left
        · simp only [Act.put, List.setIfInBounds_toArray, List.set_cons_zero, List.set_cons_succ, i64_w, i32_w]
          rfl
        refine last_ (i := 7) (N := none) #[true, true, true, true, true, true, true, true] rfl rfl (one_of HT_.out (by kernel_rfl)) (by decide) (fun K hK => ?_)
        refine skip_ (w1 := ?_) (by rfl) rfl ?_ ?_
        rotate_left
        · go_simp
          rfl
        refine hK.out _ _ ?_
        clear hK K
        refine done_ (done_of HT_.out (by kernel_rfl)) ?_
        clear hHeld HT_ HW_ c2_ ct_ hx hf
        have DXe := Aside0.mk (blk_set DXd.out 1 (.int .i64 (wrap64 (a1 + x.f2))))
        have KXe := Aside0.mk (KXd.out.setB 1 (.int .i64 (wrap64 (a1 + x.f2))))
        have RXe : Aside0 (Kd.R k35 35 (we.setCell ⟨w3.heap.size, 1, none⟩ (.int .i64 (wrap64 (a1 + x.f2)))) (w3.heap.size + 1) (fun _ => True) v9 (jl ++ [⟨1, x.f0, a1, wrap64 (a1 + x.f2)⟩])) := ⟨Kd.R_mono (Kd.R_far (p := ⟨w3.heap.size, 1, none⟩) (Kd.R_bound RXd.out) (fun k hk => by have := hk.2.1; show k ≠ w3.heap.size; omega) _) (fun _ _ => trivial)⟩
        clear DXd KXd RXd
        go_wp2_with (fail)
        go_roundg (td.length - (kk + 1))
        case measure => omega
        case rel => exact ⟨kk + 1, _, wrap64 (a1 + x.f2), a2, a3, by omega, by omega, by go_num, by simp; omega, JS2, KXe, DXe, RXe⟩
      by_cases ht2 : tv = 2
      · subst ht2
        have JS2 : Aside0 (jobsGo td bl (td.length - (kk + 1)) (kk + 1) (jl ++ [⟨2, x.f0, a2, wrap64 (a2 + x.f2)⟩]) a1 (wrap64 (a2 + x.f2)) a3 = some js) := ⟨by have := JS.out; simpa using this⟩
        clear JS
        go_wp2_with (fail)
        clear x0 x1 x2 q6 b0 p0 KW HD RJ
        have XF : Aside0 (wr.heap.size = wr.heap.size) := ⟨rfl⟩
        generalize hX : wr.heap.size = X at *
        clear hX XF
        generalize (wr.alloc (.cells #[.int .i64 x.f0, .int .i64 x.f1, .int .i64 x.f2] 33)) = wx at *
        have c0_ := (blk_cell XW.out 0).trans rfl
        have c2_ := (blk_cell XW.out 2).trans rfl
        have ct_ := (blk_cell DX.out 2).trans rfl
        have XWd : Aside0 (wx.drew.heap[X]? = some (.cells #[.int .i64 x.f0, .int .i64 x.f1, .int .i64 x.f2] 33 (0, 0))) := ⟨XW.out⟩
        have KXd := Aside0.mk KX.out.drew
        have DXd : Aside0 (wx.drew.heap[w3.heap.size]? = some (.cells #[.int .i64 0, .int .i64 a1, .int .i64 a2, .int .i64 a3] 55 (0, 0))) := ⟨DX.out⟩
        have RXd := Aside0.mk (Kd.R_drew RX.out)
        clear XW KX DX RX
        refine start_ (n := 17) (S := fun w' => w'.cell? ⟨X, 0, none⟩ = some (.int .i64 x.f0) ∧ w'.cell? ⟨w3.heap.size, 2, none⟩ = some (.int .i64 a2) ∧ w'.cell? ⟨X, 2, none⟩ = some (.int .i64 x.f2)) (ds := [14, 15]) #[false, false, false, false, false, false, false, false, false, false, false, false, false, false, false, false, false] (by kernel_rfl) rfl rfl ⟨c0_, ct_, c2_⟩ (fun hHeld => ?_)
        refine with_tabW plan_tab14 plan_bits14 (fun HT_ HW_ => ?_)
        generalize wx.drew = wd at XWd KXd DXd RXd hHeld ⊢
        refine pure_ (i := 0) (N := some 46) (v := ?_) (a' := ?_) #[true, false, false, false, false, false, false, false, false, false, false, false, false, false, false, false, false] rfl rfl (any_of HT_.out (by kernel_rfl)) (fun _ _ _ h => h) (Or.inl ⟨by rfl, ?_⟩) ?_ ?_
        rotate_left
        · intro w'
          go_simp
          with_reducible rfl
        rotate_left
        · simp only [Act.put, List.setIfInBounds_toArray, List.set_cons_zero, List.set_cons_succ, i64_w, i32_w]
          rfl
        refine pure_ (i := 1) (N := some 47) (v := ?_) (a' := ?_) #[true, true, false, false, false, false, false, false, false, false, false, false, false, false, false, false, false] rfl rfl (any_of HT_.out (by kernel_rfl)) (fun _ _ _ h => h) (Or.inl ⟨by rfl, ?_⟩) ?_ ?_
        rotate_left
        · intro w'
          go_simp
          with_reducible rfl
        rotate_left
        · simp only [Act.put, List.setIfInBounds_toArray, List.set_cons_zero, List.set_cons_succ, i64_w, i32_w]
          rfl
        refine pure_ (i := 2) (N := some 48) (v := ?_) (a' := ?_) #[true, true, true, false, false, false, false, false, false, false, false, false, false, false, false, false, false] rfl rfl (any_of HT_.out (by kernel_rfl)) (fun _ _ _ h => h) (Or.inl ⟨by rfl, ?_⟩) ?_ ?_
        rotate_left
        · intro w'
          go_simp
          with_reducible rfl
        rotate_left
        · simp only [Act.put, List.setIfInBounds_toArray, List.set_cons_zero, List.set_cons_succ, i64_w, i32_w]
          rfl
        refine take_ (i := 3) (N := some 49) (v := ?_) (a' := ?_) #[true, true, true, true, false, false, false, false, false, false, false, false, false, false, false, false, false] rfl rfl (take_ofW HT_.out HW_.out (by kernel_rfl)) (fun _ _ _ h => h) (Or.inl ⟨by rfl, ?_⟩) hHeld ?_ ?_
        rotate_left
        · rintro w' ⟨s0, s1, s2⟩
          go_simp
          with_reducible rfl
        rotate_left
        · simp only [Act.put, List.setIfInBounds_toArray, List.set_cons_zero, List.set_cons_succ, i64_w, i32_w]
          rfl
        refine pure_ (i := 4) (N := some 50) (v := ?_) (a' := ?_) #[true, true, true, true, true, false, false, false, false, false, false, false, false, false, false, false, false] rfl rfl (any_of HT_.out (by kernel_rfl)) (fun _ _ _ h => h) (Or.inl ⟨by rfl, ?_⟩) ?_ ?_
        rotate_left
        · intro w'
          go_simp
          with_reducible rfl
        rotate_left
        · simp only [Act.put, List.setIfInBounds_toArray, List.set_cons_zero, List.set_cons_succ, i64_w, i32_w]
          rfl
        refine pure_ (i := 5) (N := some 51) (v := ?_) (a' := ?_) #[true, true, true, true, true, true, false, false, false, false, false, false, false, false, false, false, false] rfl rfl (any_of HT_.out (by kernel_rfl)) (fun _ _ _ h => h) (Or.inl ⟨by rfl, ?_⟩) ?_ ?_
        rotate_left
        · intro w'
          go_simp
          with_reducible rfl
        rotate_left
        · simp only [Act.put, List.setIfInBounds_toArray, List.set_cons_zero, List.set_cons_succ, i64_w, i32_w]
          rfl
        refine take_ (i := 6) (N := some 52) (v := ?_) (a' := ?_) #[true, true, true, true, true, true, true, false, false, false, false, false, false, false, false, false, false] rfl rfl (take_ofW HT_.out HW_.out (by kernel_rfl)) (fun _ _ _ h => h) (Or.inl ⟨by rfl, ?_⟩) hHeld ?_ ?_
        rotate_left
        · rintro w' ⟨s0, s1, s2⟩
          go_simp
          with_reducible rfl
        rotate_left
        · simp only [Act.put, List.setIfInBounds_toArray, List.set_cons_zero, List.set_cons_succ, i64_w, i32_w]
          rfl
        refine pure_ (i := 7) (N := some 53) (v := ?_) (a' := ?_) #[true, true, true, true, true, true, true, true, false, false, false, false, false, false, false, false, false] rfl rfl (any_of HT_.out (by kernel_rfl)) (fun _ _ _ h => h) (Or.inl ⟨by rfl, ?_⟩) ?_ ?_
        rotate_left
        · intro w'
          go_simp
          with_reducible rfl
        rotate_left
        · simp only [Act.put, List.setIfInBounds_toArray, List.set_cons_zero, List.set_cons_succ, i64_w, i32_w]
          rfl
        refine pure_ (i := 8) (N := some 54) (v := ?_) (a' := ?_) #[true, true, true, true, true, true, true, true, true, false, false, false, false, false, false, false, false] rfl rfl (any_of HT_.out (by kernel_rfl)) (fun _ _ _ h => h) (Or.inl ⟨by rfl, ?_⟩) ?_ ?_
        rotate_left
        · intro w'
          go_simp
          with_reducible rfl
        rotate_left
        · simp only [Act.put, List.setIfInBounds_toArray, List.set_cons_zero, List.set_cons_succ, i64_w, i32_w]
          rfl
        refine take_ (i := 9) (N := some 55) (v := ?_) (a' := ?_) #[true, true, true, true, true, true, true, true, true, true, false, false, false, false, false, false, false] rfl rfl (take_ofW HT_.out HW_.out (by kernel_rfl)) (fun _ _ _ h => h) (Or.inl ⟨by rfl, ?_⟩) hHeld ?_ ?_
        rotate_left
        · rintro w' ⟨s0, s1, s2⟩
          go_simp
          with_reducible rfl
        rotate_left
        · simp only [Act.put, List.setIfInBounds_toArray, List.set_cons_zero, List.set_cons_succ, i64_w, i32_w]
          rfl
        refine pure_ (i := 10) (N := some 56) (v := ?_) (a' := ?_) #[true, true, true, true, true, true, true, true, true, true, true, false, false, false, false, false, false] rfl rfl (any_of HT_.out (by kernel_rfl)) (fun _ _ _ h => h) (Or.inl ⟨by rfl, ?_⟩) ?_ ?_
        rotate_left
        · intro w'
          go_simp
          with_reducible rfl
        rotate_left
        · simp only [Act.put, List.setIfInBounds_toArray, List.set_cons_zero, List.set_cons_succ, i64_w, i32_w]
          rfl
        refine take_ (i := 11) (N := some 57) (v := ?_) (a' := ?_) #[true, true, true, true, true, true, true, true, true, true, true, true, false, false, false, false, false] rfl rfl (take_ofW HT_.out HW_.out (by kernel_rfl)) (fun _ _ _ h => h) (Or.inl ⟨by rfl, ?_⟩) hHeld ?_ ?_
        rotate_left
        · rintro w' ⟨s0, s1, s2⟩
          go_simp
          with_reducible rfl
        rotate_left
        · simp only [Act.put, List.setIfInBounds_toArray, List.set_cons_zero, List.set_cons_succ, i64_w, i32_w]
          rfl
        refine pure_ (i := 12) (N := some 58) (v := ?_) (a' := ?_) #[true, true, true, true, true, true, true, true, true, true, true, true, true, false, false, false, false] rfl rfl (any_of HT_.out (by kernel_rfl)) (fun _ _ _ h => h) (Or.inl ⟨by rfl, ?_⟩) ?_ ?_
        rotate_left
        · intro w'
          go_simp
          with_reducible rfl
        rotate_left
        · simp only [Act.put, List.setIfInBounds_toArray, List.set_cons_zero, List.set_cons_succ, i64_w, i32_w]
          rfl
        refine pure_ (i := 13) (N := some 59) (v := ?_) (a' := ?_) #[true, true, true, true, true, true, true, true, true, true, true, true, true, true, false, false, false] rfl rfl (any_of HT_.out (by kernel_rfl)) (fun _ _ _ h => h) (Or.inl ⟨by rfl, ?_⟩) ?_ ?_
        rotate_left
        · intro w'
          go_simp
          with_reducible rfl
        rotate_left
        · simp only [Act.put, List.setIfInBounds_toArray, List.set_cons_zero, List.set_cons_succ, i64_w, i32_w]
          rfl
        refine last_ (i := 14) (N := some 60) #[true, true, true, true, true, true, true, true, true, true, true, true, true, true, true, false, false] rfl rfl (one_of HT_.out (by kernel_rfl)) (by decide) (fun K hK => ?_)
        refine value_ (w1 := ?_) (v := ?_) (by rfl) rfl ?_ ?_
        rotate_left 2
        · go_simp
          constructor
          · rfl
          · rfl
        refine hK.out _ _ ?_
        clear hK K
        refine norm_ (a' := ?_) ?_ ?_
        rotate_left
        · show Act.put _ (some 60) _ = _
          simp only [Act.put, List.setIfInBounds_toArray, List.set_cons_zero, List.set_cons_succ, i64_w, i32_w]
          rfl
        refine last_ (i := 15) (N := some 61) #[true, true, true, true, true, true, true, true, true, true, true, true, true, true, true, true, false] rfl rfl (one_of HT_.out (by kernel_rfl)) (by decide) (fun K hK => ?_)
        refine Kd.R_append_step k35 (w0 := wd) (w3.heap.size + 1) (by rfl) (.tmp 46) (.tmp 60) 23 35 (.agg #[(.int .i64 0), (.int .i64 0), (.int .i64 0), (.int .i64 0)]) 32 rfl Try.underlying23 info35 rfl (by decide) (by omega) u8 jl (⟨2, x.f0, a2, wrap64 (a2 + x.f2)⟩ : S35) [.int .i64 2, .int .i64 x.f0, .int .i64 a2, .int .i64 (wrap64 (a2 + x.f2))] (fun _ => True) (fun _ => False) rfl rfl ?aP (fun _ hk => hk.elim) ?aF ?aO ?aB ?aS ?aL ?_
        (case aP => exact k35_mkM _ _ _ (⟨2, x.f0, a2, wrap64 (a2 + x.f2)⟩ : S35))
        (case aB => exact Below.refl _ _)
        (case aF => exact (fun _ _ => trivial))
        (case aO => exact RXd.out)
        (case aS => have := KXd.out.size; simpa using this)
        (case aL => omega)
        intro v9 w9 ho hb hg hat
        have KX9 := Aside0.mk (KXd.out.below2 (hb.mono (by simp)))
        have XW9 := Aside0.mk (keep_typed (Kd.R_typed RXd.out) hg XWd.out (by decide))
        have DX9 := Aside0.mk (keep_typed (Kd.R_typed RXd.out) hg DXd.out (by decide))
        have RX9 := Aside0.mk ho
        clear ho hb hg hat XWd KXd DXd RXd
        refine hK.out _ _ ?_
        clear hK K
        refine norm_ (a' := ?_) ?_ ?_
        rotate_left
        · show Act.put _ (some 61) _ = _
          simp only [Act.put, List.setIfInBounds_toArray, List.set_cons_zero, List.set_cons_succ, i64_w, i32_w]
          rfl
        refine pure_ (i := 16) (N := some 8) (v := ?_) (a' := ?_) #[true, true, true, true, true, true, true, true, true, true, true, true, true, true, true, true, true] rfl rfl (any_of HT_.out (by kernel_rfl)) (fun _ _ _ h => h) (Or.inl ⟨by rfl, ?_⟩) ?_ ?_
        rotate_left
        · intro w'
          go_simp
          with_reducible rfl
        rotate_left
        · simp only [Act.put, List.setIfInBounds_toArray, List.set_cons_zero, List.set_cons_succ, i64_w, i32_w]
          rfl
        refine done_ (done_of HT_.out (by kernel_rfl)) ?_
        clear hHeld HT_ HW_ c0_ c2_ ct_
        go_wp2_with (fail)
        have c2_ := (blk_cell XW9.out 2).trans rfl
        have ct_ := (blk_cell DX9.out 2).trans rfl
        have hx : w9.drew.cell? ⟨w3.heap.size, 2, none⟩ = some (.int .i64 a2) := ct_
        have hf : w9.drew.frozen? ⟨w3.heap.size, 2, none⟩ = false := blk_frozen DX9.out 2
        have DXd : Aside0 (w9.drew.heap[w3.heap.size]? = some (.cells #[.int .i64 0, .int .i64 a1, .int .i64 a2, .int .i64 a3] 55 (0, 0))) := ⟨DX9.out⟩
        have KXd := Aside0.mk KX9.out.drew
        have RXd := Aside0.mk (Kd.R_drew RX9.out)
        clear KX9 XW9 DX9 RX9
        refine start_ (n := 8) (S := fun w' => w'.cell? ⟨w3.heap.size, 2, none⟩ = some (.int .i64 a2) ∧ w'.cell? ⟨X, 2, none⟩ = some (.int .i64 x.f2)) (ds := [7]) #[false, false, false, false, false, false, false, false] (by kernel_rfl) rfl rfl ⟨ct_, c2_⟩ (fun hHeld => ?_)
        refine with_tabW plan_tab15 plan_bits15 (fun HT_ HW_ => ?_)
        generalize w9.drew = we at DXd KXd RXd hx hf hHeld ⊢
        refine pure_ (i := 0) (N := some 62) (v := ?_) (a' := ?_) #[true, false, false, false, false, false, false, false] rfl rfl (any_of HT_.out (by kernel_rfl)) (fun _ _ _ h => h) (Or.inl ⟨by rfl, ?_⟩) ?_ ?_
        rotate_left
        · intro w'
          go_simp
          with_reducible rfl
        rotate_left
        · simp only [Act.put, List.setIfInBounds_toArray, List.set_cons_zero, List.set_cons_succ, i64_w, i32_w]
          rfl
        refine pure_ (i := 1) (N := some 63) (v := ?_) (a' := ?_) #[true, true, false, false, false, false, false, false] rfl rfl (any_of HT_.out (by kernel_rfl)) (fun _ _ _ h => h) (Or.inl ⟨by rfl, ?_⟩) ?_ ?_
        rotate_left
        · intro w'
          go_simp
          with_reducible rfl
        rotate_left
        · simp only [Act.put, List.setIfInBounds_toArray, List.set_cons_zero, List.set_cons_succ, i64_w, i32_w]
          rfl
        refine take_ (i := 2) (N := some 64) (v := ?_) (a' := ?_) #[true, true, true, false, false, false, false, false] rfl rfl (take_ofW HT_.out HW_.out (by kernel_rfl)) (fun _ _ _ h => h) (Or.inl ⟨by rfl, ?_⟩) hHeld ?_ ?_
        rotate_left
        · rintro w' ⟨s0, s1⟩
          go_simp
          with_reducible rfl
        rotate_left
        · simp only [Act.put, List.setIfInBounds_toArray, List.set_cons_zero, List.set_cons_succ, i64_w, i32_w]
          rfl
        refine pure_ (i := 3) (N := some 65) (v := ?_) (a' := ?_) #[true, true, true, true, false, false, false, false] rfl rfl (any_of HT_.out (by kernel_rfl)) (fun _ _ _ h => h) (Or.inl ⟨by rfl, ?_⟩) ?_ ?_
        rotate_left
        · intro w'
          go_simp
          with_reducible rfl
        rotate_left
        · simp only [Act.put, List.setIfInBounds_toArray, List.set_cons_zero, List.set_cons_succ, i64_w, i32_w]
          rfl
        refine take_ (i := 4) (N := some 66) (v := ?_) (a' := ?_) #[true, true, true, true, true, false, false, false] rfl rfl (take_ofW HT_.out HW_.out (by kernel_rfl)) (fun _ _ _ h => h) (Or.inl ⟨by rfl, ?_⟩) hHeld ?_ ?_
        rotate_left
        · rintro w' ⟨s0, s1⟩
          go_simp
          with_reducible rfl
        rotate_left
        · simp only [Act.put, List.setIfInBounds_toArray, List.set_cons_zero, List.set_cons_succ, i64_w, i32_w]
          rfl
        refine pure_ (i := 5) (N := some 67) (v := ?_) (a' := ?_) #[true, true, true, true, true, true, false, false] rfl rfl (any_of HT_.out (by kernel_rfl)) (fun _ _ _ h => h) (Or.inl ⟨by rfl, ?_⟩) ?_ ?_
        rotate_left
        · intro w'
          go_simp
          with_reducible rfl
        rotate_left
        · simp only [Act.put, List.setIfInBounds_toArray, List.set_cons_zero, List.set_cons_succ, i64_w, i32_w]
          rfl
        refine pure_ (i := 6) (N := some 68) (v := ?_) (a' := ?_) #[true, true, true, true, true, true, true, false] rfl rfl (any_of HT_.out (by kernel_rfl)) (fun _ _ _ h => h) (Or.inl ⟨by rfl, ?_⟩) ?_ ?_
        rotate_left
        · intro w'
          go_simp
          with_reducible rfl
        rotate_left
        · simp only [Act.put, List.setIfInBounds_toArray, List.set_cons_zero, List.set_cons_succ, i64_w, i32_w]
          rfl
        refine last_ (i := 7) (N := none) #[true, true, true, true, true, true, true, true] rfl rfl (one_of HT_.out (by kernel_rfl)) (by decide) (fun K hK => ?_)
        refine skip_ (w1 := ?_) (by rfl) rfl ?_ ?_
        rotate_left
        · go_simp
          rfl
        refine hK.out _ _ ?_
        clear hK K
        refine done_ (done_of HT_.out (by kernel_rfl)) ?_
        clear hHeld HT_ HW_ c2_ ct_ hx hf
        have DXe := Aside0.mk (blk_set DXd.out 2 (.int .i64 (wrap64 (a2 + x.f2))))
        have KXe := Aside0.mk (KXd.out.setB 2 (.int .i64 (wrap64 (a2 + x.f2))))
        have RXe : Aside0 (Kd.R k35 35 (we.setCell ⟨w3.heap.size, 2, none⟩ (.int .i64 (wrap64 (a2 + x.f2)))) (w3.heap.size + 1) (fun _ => True) v9 (jl ++ [⟨2, x.f0, a2, wrap64 (a2 + x.f2)⟩])) := ⟨Kd.R_mono (Kd.R_far (p := ⟨w3.heap.size, 2, none⟩) (Kd.R_bound RXd.out) (fun k hk => by have := hk.2.1; show k ≠ w3.heap.size; omega) _) (fun _ _ => trivial)⟩
        clear DXd KXd RXd
        go_wp2_with (fail)
        go_roundg (td.length - (kk + 1))
        case measure => omega
        case rel => exact ⟨kk + 1, _, a1, wrap64 (a2 + x.f2), a3, by omega, by omega, by go_num, by simp; omega, JS2, KXe, DXe, RXe⟩
      by_cases ht3 : tv = 3
      · subst ht3
        have JS2 : Aside0 (jobsGo td bl (td.length - (kk + 1)) (kk + 1) (jl ++ [⟨3, x.f0, a3, wrap64 (a3 + x.f2)⟩]) a1 a2 (wrap64 (a3 + x.f2)) = some js) := ⟨by have := JS.out; simpa using this⟩
        clear JS
        go_wp2_with (fail)
        clear x0 x1 x2 q6 b0 p0 KW HD RJ
        have XF : Aside0 (wr.heap.size = wr.heap.size) := ⟨rfl⟩
        generalize hX : wr.heap.size = X at *
        clear hX XF
        generalize (wr.alloc (.cells #[.int .i64 x.f0, .int .i64 x.f1, .int .i64 x.f2] 33)) = wx at *
        have c0_ := (blk_cell XW.out 0).trans rfl
        have c2_ := (blk_cell XW.out 2).trans rfl
        have ct_ := (blk_cell DX.out 3).trans rfl
        have XWd : Aside0 (wx.drew.heap[X]? = some (.cells #[.int .i64 x.f0, .int .i64 x.f1, .int .i64 x.f2] 33 (0, 0))) := ⟨XW.out⟩
        have KXd := Aside0.mk KX.out.drew
        have DXd : Aside0 (wx.drew.heap[w3.heap.size]? = some (.cells #[.int .i64 0, .int .i64 a1, .int .i64 a2, .int .i64 a3] 55 (0, 0))) := ⟨DX.out⟩
        have RXd := Aside0.mk (Kd.R_drew RX.out)
        clear XW KX DX RX
        refine start_ (n := 17) (S := fun w' => w'.cell? ⟨X, 0, none⟩ = some (.int .i64 x.f0) ∧ w'.cell? ⟨w3.heap.size, 3, none⟩ = some (.int .i64 a3) ∧ w'.cell? ⟨X, 2, none⟩ = some (.int .i64 x.f2)) (ds := [14, 15]) #[false, false, false, false, false, false, false, false, false, false, false, false, false, false, false, false, false] (by kernel_rfl) rfl rfl ⟨c0_, ct_, c2_⟩ (fun hHeld => ?_)
        refine with_tabW plan_tab14 plan_bits14 (fun HT_ HW_ => ?_)
        generalize wx.drew = wd at XWd KXd DXd RXd hHeld ⊢
        refine pure_ (i := 0) (N := some 46) (v := ?_) (a' := ?_) #[true, false, false, false, false, false, false, false, false, false, false, false, false, false, false, false, false] rfl rfl (any_of HT_.out (by kernel_rfl)) (fun _ _ _ h => h) (Or.inl ⟨by rfl, ?_⟩) ?_ ?_
        rotate_left
        · intro w'
          go_simp
          with_reducible rfl
        rotate_left
        · simp only [Act.put, List.setIfInBounds_toArray, List.set_cons_zero, List.set_cons_succ, i64_w, i32_w]
          rfl
        refine pure_ (i := 1) (N := some 47) (v := ?_) (a' := ?_) #[true, true, false, false, false, false, false, false, false, false, false, false, false, false, false, false, false] rfl rfl (any_of HT_.out (by kernel_rfl)) (fun _ _ _ h => h) (Or.inl ⟨by rfl, ?_⟩) ?_ ?_
        rotate_left
        · intro w'
          go_simp
          with_reducible rfl
        rotate_left
        · simp only [Act.put, List.setIfInBounds_toArray, List.set_cons_zero, List.set_cons_succ, i64_w, i32_w]
          rfl
        refine pure_ (i := 2) (N := some 48) (v := ?_) (a' := ?_) #[true, true, true, false, false, false, false, false, false, false, false, false, false, false, false, false, false] rfl rfl (any_of HT_.out (by kernel_rfl)) (fun _ _ _ h => h) (Or.inl ⟨by rfl, ?_⟩) ?_ ?_
        rotate_left
        · intro w'
          go_simp
          with_reducible rfl
        rotate_left
        · simp only [Act.put, List.setIfInBounds_toArray, List.set_cons_zero, List.set_cons_succ, i64_w, i32_w]
          rfl
        refine take_ (i := 3) (N := some 49) (v := ?_) (a' := ?_) #[true, true, true, true, false, false, false, false, false, false, false, false, false, false, false, false, false] rfl rfl (take_ofW HT_.out HW_.out (by kernel_rfl)) (fun _ _ _ h => h) (Or.inl ⟨by rfl, ?_⟩) hHeld ?_ ?_
        rotate_left
        · rintro w' ⟨s0, s1, s2⟩
          go_simp
          with_reducible rfl
        rotate_left
        · simp only [Act.put, List.setIfInBounds_toArray, List.set_cons_zero, List.set_cons_succ, i64_w, i32_w]
          rfl
        refine pure_ (i := 4) (N := some 50) (v := ?_) (a' := ?_) #[true, true, true, true, true, false, false, false, false, false, false, false, false, false, false, false, false] rfl rfl (any_of HT_.out (by kernel_rfl)) (fun _ _ _ h => h) (Or.inl ⟨by rfl, ?_⟩) ?_ ?_
        rotate_left
        · intro w'
          go_simp
          with_reducible rfl
        rotate_left
        · simp only [Act.put, List.setIfInBounds_toArray, List.set_cons_zero, List.set_cons_succ, i64_w, i32_w]
          rfl
        refine pure_ (i := 5) (N := some 51) (v := ?_) (a' := ?_) #[true, true, true, true, true, true, false, false, false, false, false, false, false, false, false, false, false] rfl rfl (any_of HT_.out (by kernel_rfl)) (fun _ _ _ h => h) (Or.inl ⟨by rfl, ?_⟩) ?_ ?_
        rotate_left
        · intro w'
          go_simp
          with_reducible rfl
        rotate_left
        · simp only [Act.put, List.setIfInBounds_toArray, List.set_cons_zero, List.set_cons_succ, i64_w, i32_w]
          rfl
        refine take_ (i := 6) (N := some 52) (v := ?_) (a' := ?_) #[true, true, true, true, true, true, true, false, false, false, false, false, false, false, false, false, false] rfl rfl (take_ofW HT_.out HW_.out (by kernel_rfl)) (fun _ _ _ h => h) (Or.inl ⟨by rfl, ?_⟩) hHeld ?_ ?_
        rotate_left
        · rintro w' ⟨s0, s1, s2⟩
          go_simp
          with_reducible rfl
        rotate_left
        · simp only [Act.put, List.setIfInBounds_toArray, List.set_cons_zero, List.set_cons_succ, i64_w, i32_w]
          rfl
        refine pure_ (i := 7) (N := some 53) (v := ?_) (a' := ?_) #[true, true, true, true, true, true, true, true, false, false, false, false, false, false, false, false, false] rfl rfl (any_of HT_.out (by kernel_rfl)) (fun _ _ _ h => h) (Or.inl ⟨by rfl, ?_⟩) ?_ ?_
        rotate_left
        · intro w'
          go_simp
          with_reducible rfl
        rotate_left
        · simp only [Act.put, List.setIfInBounds_toArray, List.set_cons_zero, List.set_cons_succ, i64_w, i32_w]
          rfl
        refine pure_ (i := 8) (N := some 54) (v := ?_) (a' := ?_) #[true, true, true, true, true, true, true, true, true, false, false, false, false, false, false, false, false] rfl rfl (any_of HT_.out (by kernel_rfl)) (fun _ _ _ h => h) (Or.inl ⟨by rfl, ?_⟩) ?_ ?_
        rotate_left
        · intro w'
          go_simp
          with_reducible rfl
        rotate_left
        · simp only [Act.put, List.setIfInBounds_toArray, List.set_cons_zero, List.set_cons_succ, i64_w, i32_w]
          rfl
        refine take_ (i := 9) (N := some 55) (v := ?_) (a' := ?_) #[true, true, true, true, true, true, true, true, true, true, false, false, false, false, false, false, false] rfl rfl (take_ofW HT_.out HW_.out (by kernel_rfl)) (fun _ _ _ h => h) (Or.inl ⟨by rfl, ?_⟩) hHeld ?_ ?_
        rotate_left
        · rintro w' ⟨s0, s1, s2⟩
          go_simp
          with_reducible rfl
        rotate_left
        · simp only [Act.put, List.setIfInBounds_toArray, List.set_cons_zero, List.set_cons_succ, i64_w, i32_w]
          rfl
        refine pure_ (i := 10) (N := some 56) (v := ?_) (a' := ?_) #[true, true, true, true, true, true, true, true, true, true, true, false, false, false, false, false, false] rfl rfl (any_of HT_.out (by kernel_rfl)) (fun _ _ _ h => h) (Or.inl ⟨by rfl, ?_⟩) ?_ ?_
        rotate_left
        · intro w'
          go_simp
          with_reducible rfl
        rotate_left
        · simp only [Act.put, List.setIfInBounds_toArray, List.set_cons_zero, List.set_cons_succ, i64_w, i32_w]
          rfl
        refine take_ (i := 11) (N := some 57) (v := ?_) (a' := ?_) #[true, true, true, true, true, true, true, true, true, true, true, true, false, false, false, false, false] rfl rfl (take_ofW HT_.out HW_.out (by kernel_rfl)) (fun _ _ _ h => h) (Or.inl ⟨by rfl, ?_⟩) hHeld ?_ ?_
        rotate_left
        · rintro w' ⟨s0, s1, s2⟩
          go_simp
          with_reducible rfl
        rotate_left
        · simp only [Act.put, List.setIfInBounds_toArray, List.set_cons_zero, List.set_cons_succ, i64_w, i32_w]
          rfl
        refine pure_ (i := 12) (N := some 58) (v := ?_) (a' := ?_) #[true, true, true, true, true, true, true, true, true, true, true, true, true, false, false, false, false] rfl rfl (any_of HT_.out (by kernel_rfl)) (fun _ _ _ h => h) (Or.inl ⟨by rfl, ?_⟩) ?_ ?_
        rotate_left
        · intro w'
          go_simp
          with_reducible rfl
        rotate_left
        · simp only [Act.put, List.setIfInBounds_toArray, List.set_cons_zero, List.set_cons_succ, i64_w, i32_w]
          rfl
        refine pure_ (i := 13) (N := some 59) (v := ?_) (a' := ?_) #[true, true, true, true, true, true, true, true, true, true, true, true, true, true, false, false, false] rfl rfl (any_of HT_.out (by kernel_rfl)) (fun _ _ _ h => h) (Or.inl ⟨by rfl, ?_⟩) ?_ ?_
        rotate_left
        · intro w'
          go_simp
          with_reducible rfl
        rotate_left
        · simp only [Act.put, List.setIfInBounds_toArray, List.set_cons_zero, List.set_cons_succ, i64_w, i32_w]
          rfl
        refine last_ (i := 14) (N := some 60) #[true, true, true, true, true, true, true, true, true, true, true, true, true, true, true, false, false] rfl rfl (one_of HT_.out (by kernel_rfl)) (by decide) (fun K hK => ?_)
        refine value_ (w1 := ?_) (v := ?_) (by rfl) rfl ?_ ?_
        rotate_left 2
        · go_simp
          constructor
          · rfl
          · rfl
        refine hK.out _ _ ?_
        clear hK K
        refine norm_ (a' := ?_) ?_ ?_
        rotate_left
        · show Act.put _ (some 60) _ = _
          simp only [Act.put, List.setIfInBounds_toArray, List.set_cons_zero, List.set_cons_succ, i64_w, i32_w]
          rfl
        refine last_ (i := 15) (N := some 61) #[true, true, true, true, true, true, true, true, true, true, true, true, true, true, true, true, false] rfl rfl (one_of HT_.out (by kernel_rfl)) (by decide) (fun K hK => ?_)
        refine Kd.R_append_step k35 (w0 := wd) (w3.heap.size + 1) (by rfl) (.tmp 46) (.tmp 60) 23 35 (.agg #[(.int .i64 0), (.int .i64 0), (.int .i64 0), (.int .i64 0)]) 32 rfl Try.underlying23 info35 rfl (by decide) (by omega) u8 jl (⟨3, x.f0, a3, wrap64 (a3 + x.f2)⟩ : S35) [.int .i64 3, .int .i64 x.f0, .int .i64 a3, .int .i64 (wrap64 (a3 + x.f2))] (fun _ => True) (fun _ => False) rfl rfl ?aP (fun _ hk => hk.elim) ?aF ?aO ?aB ?aS ?aL ?_
        (case aP => exact k35_mkM _ _ _ (⟨3, x.f0, a3, wrap64 (a3 + x.f2)⟩ : S35))
        (case aB => exact Below.refl _ _)
        (case aF => exact (fun _ _ => trivial))
        (case aO => exact RXd.out)
        (case aS => have := KXd.out.size; simpa using this)
        (case aL => omega)
        intro v9 w9 ho hb hg hat
        have KX9 := Aside0.mk (KXd.out.below2 (hb.mono (by simp)))
        have XW9 := Aside0.mk (keep_typed (Kd.R_typed RXd.out) hg XWd.out (by decide))
        have DX9 := Aside0.mk (keep_typed (Kd.R_typed RXd.out) hg DXd.out (by decide))
        have RX9 := Aside0.mk ho
        clear ho hb hg hat XWd KXd DXd RXd
        refine hK.out _ _ ?_
        clear hK K
        refine norm_ (a' := ?_) ?_ ?_
        rotate_left
        · show Act.put _ (some 61) _ = _
          simp only [Act.put, List.setIfInBounds_toArray, List.set_cons_zero, List.set_cons_succ, i64_w, i32_w]
          rfl
        refine pure_ (i := 16) (N := some 8) (v := ?_) (a' := ?_) #[true, true, true, true, true, true, true, true, true, true, true, true, true, true, true, true, true] rfl rfl (any_of HT_.out (by kernel_rfl)) (fun _ _ _ h => h) (Or.inl ⟨by rfl, ?_⟩) ?_ ?_
        rotate_left
        · intro w'
          go_simp
          with_reducible rfl
        rotate_left
        · simp only [Act.put, List.setIfInBounds_toArray, List.set_cons_zero, List.set_cons_succ, i64_w, i32_w]
          rfl
        refine done_ (done_of HT_.out (by kernel_rfl)) ?_
        clear hHeld HT_ HW_ c0_ c2_ ct_
        go_wp2_with (fail)
        have c2_ := (blk_cell XW9.out 2).trans rfl
        have ct_ := (blk_cell DX9.out 3).trans rfl
        have hx : w9.drew.cell? ⟨w3.heap.size, 3, none⟩ = some (.int .i64 a3) := ct_
        have hf : w9.drew.frozen? ⟨w3.heap.size, 3, none⟩ = false := blk_frozen DX9.out 3
        have DXd : Aside0 (w9.drew.heap[w3.heap.size]? = some (.cells #[.int .i64 0, .int .i64 a1, .int .i64 a2, .int .i64 a3] 55 (0, 0))) := ⟨DX9.out⟩
        have KXd := Aside0.mk KX9.out.drew
        have RXd := Aside0.mk (Kd.R_drew RX9.out)
        clear KX9 XW9 DX9 RX9
        refine start_ (n := 8) (S := fun w' => w'.cell? ⟨w3.heap.size, 3, none⟩ = some (.int .i64 a3) ∧ w'.cell? ⟨X, 2, none⟩ = some (.int .i64 x.f2)) (ds := [7]) #[false, false, false, false, false, false, false, false] (by kernel_rfl) rfl rfl ⟨ct_, c2_⟩ (fun hHeld => ?_)
        refine with_tabW plan_tab15 plan_bits15 (fun HT_ HW_ => ?_)
        generalize w9.drew = we at DXd KXd RXd hx hf hHeld ⊢
        refine pure_ (i := 0) (N := some 62) (v := ?_) (a' := ?_) #[true, false, false, false, false, false, false, false] rfl rfl (any_of HT_.out (by kernel_rfl)) (fun _ _ _ h => h) (Or.inl ⟨by rfl, ?_⟩) ?_ ?_
        rotate_left
        · intro w'
          go_simp
          with_reducible rfl
        rotate_left
        · simp only [Act.put, List.setIfInBounds_toArray, List.set_cons_zero, List.set_cons_succ, i64_w, i32_w]
          rfl
        refine pure_ (i := 1) (N := some 63) (v := ?_) (a' := ?_) #[true, true, false, false, false, false, false, false] rfl rfl (any_of HT_.out (by kernel_rfl)) (fun _ _ _ h => h) (Or.inl ⟨by rfl, ?_⟩) ?_ ?_
        rotate_left
        · intro w'
          go_simp
          with_reducible rfl
        rotate_left
        · simp only [Act.put, List.setIfInBounds_toArray, List.set_cons_zero, List.set_cons_succ, i64_w, i32_w]
          rfl
        refine take_ (i := 2) (N := some 64) (v := ?_) (a' := ?_) #[true, true, true, false, false, false, false, false] rfl rfl (take_ofW HT_.out HW_.out (by kernel_rfl)) (fun _ _ _ h => h) (Or.inl ⟨by rfl, ?_⟩) hHeld ?_ ?_
        rotate_left
        · rintro w' ⟨s0, s1⟩
          go_simp
          with_reducible rfl
        rotate_left
        · simp only [Act.put, List.setIfInBounds_toArray, List.set_cons_zero, List.set_cons_succ, i64_w, i32_w]
          rfl
        refine pure_ (i := 3) (N := some 65) (v := ?_) (a' := ?_) #[true, true, true, true, false, false, false, false] rfl rfl (any_of HT_.out (by kernel_rfl)) (fun _ _ _ h => h) (Or.inl ⟨by rfl, ?_⟩) ?_ ?_
        rotate_left
        · intro w'
          go_simp
          with_reducible rfl
        rotate_left
        · simp only [Act.put, List.setIfInBounds_toArray, List.set_cons_zero, List.set_cons_succ, i64_w, i32_w]
          rfl
        refine take_ (i := 4) (N := some 66) (v := ?_) (a' := ?_) #[true, true, true, true, true, false, false, false] rfl rfl (take_ofW HT_.out HW_.out (by kernel_rfl)) (fun _ _ _ h => h) (Or.inl ⟨by rfl, ?_⟩) hHeld ?_ ?_
        rotate_left
        · rintro w' ⟨s0, s1⟩
          go_simp
          with_reducible rfl
        rotate_left
        · simp only [Act.put, List.setIfInBounds_toArray, List.set_cons_zero, List.set_cons_succ, i64_w, i32_w]
          rfl
        refine pure_ (i := 5) (N := some 67) (v := ?_) (a' := ?_) #[true, true, true, true, true, true, false, false] rfl rfl (any_of HT_.out (by kernel_rfl)) (fun _ _ _ h => h) (Or.inl ⟨by rfl, ?_⟩) ?_ ?_
        rotate_left
        · intro w'
          go_simp
          with_reducible rfl
        rotate_left
        · simp only [Act.put, List.setIfInBounds_toArray, List.set_cons_zero, List.set_cons_succ, i64_w, i32_w]
          rfl
        refine pure_ (i := 6) (N := some 68) (v := ?_) (a' := ?_) #[true, true, true, true, true, true, true, false] rfl rfl (any_of HT_.out (by kernel_rfl)) (fun _ _ _ h => h) (Or.inl ⟨by rfl, ?_⟩) ?_ ?_
        rotate_left
        · intro w'
          go_simp
          with_reducible rfl
        rotate_left
        · simp only [Act.put, List.setIfInBounds_toArray, List.set_cons_zero, List.set_cons_succ, i64_w, i32_w]
          rfl
        refine last_ (i := 7) (N := none) #[true, true, true, true, true, true, true, true] rfl rfl (one_of HT_.out (by kernel_rfl)) (by decide) (fun K hK => ?_)
        refine skip_ (w1 := ?_) (by rfl) rfl ?_ ?_
        rotate_left
        · go_simp
          rfl
        refine hK.out _ _ ?_
        clear hK K
        refine done_ (done_of HT_.out (by kernel_rfl)) ?_
        clear hHeld HT_ HW_ c2_ ct_ hx hf
        have DXe := Aside0.mk (blk_set DXd.out 3 (.int .i64 (wrap64 (a3 + x.f2))))
        have KXe := Aside0.mk (KXd.out.setB 3 (.int .i64 (wrap64 (a3 + x.f2))))
        have RXe : Aside0 (Kd.R k35 35 (we.setCell ⟨w3.heap.size, 3, none⟩ (.int .i64 (wrap64 (a3 + x.f2)))) (w3.heap.size + 1) (fun _ => True) v9 (jl ++ [⟨3, x.f0, a3, wrap64 (a3 + x.f2)⟩])) := ⟨Kd.R_mono (Kd.R_far (p := ⟨w3.heap.size, 3, none⟩) (Kd.R_bound RXd.out) (fun k hk => by have := hk.2.1; show k ≠ w3.heap.size; omega) _) (fun _ _ => trivial)⟩
        clear DXd KXd RXd
        go_wp2_with (fail)
        go_roundg (td.length - (kk + 1))
        case measure => omega
        case rel => exact ⟨kk + 1, _, a1, a2, wrap64 (a3 + x.f2), by omega, by omega, by go_num, by simp; omega, JS2, KXe, DXe, RXe⟩
      have := JS.out
      simp [ht1, ht2, ht3] at this
    · have d1 : decide (kk < td.length) = false := decide_eq_false hlt
      have hltz : ¬ (kk : Int) < (td.length : Int) := by omega
      have JS2 : Aside0 (jl = js) := ⟨by have := JS.out; rw [show td.length - kk = 0 by omega] at this; simpa [jobsGo] using this⟩
      clear JS
      have q7 := (OLD.out wr KW.out ⟨B, 7, none⟩ HB3.out).trans P7.out
      go_wp2_with (fail)
      go_quiet (fail)
      go_wp2_with (fail)
      go_ret3
      have hb := BLW.out wr KW.out
      refine ⟨_, rfl, ?_, pw_below_drewN hb _⟩
      rw [← JS2.out]
      exact Kd.R_drewN (Kd.R_lower RJ.out HBW.out) _
set_option maxHeartbeats 4000000 in
theorem plan_out (A0 : Option Addr) (c0 : Nat) (l0 : List S33) (tms : Int) (w : World) (h : tms < 1 ∨ 3 < tms) :
    Calls Try.prog 13 #[.slice A0 l0.length c0, .int .i64 tms] w fun e w' => e = .returned (.tuple #[.slice none 0 0, .int .i64 0, .int .i64 2]) ∧ w' = w := by
  by_cases h1 : tms < 1
  · go_enter Try.func13, Try.ntmps13
    go_wp2
    go_ret3
    exact ⟨rfl, rfl⟩
  · have h3 : 3 < tms := by omega
    have t1 : decide (tms < 1) = false := decide_eq_false (by omega)
    go_enter Try.func13, Try.ntmps13
    go_wp2
    go_ret3
    exact ⟨rfl, rfl⟩
set_option maxHeartbeats 4000000 in
theorem plan_none (A0 : Option Addr) (c0 : Nat) (l0 td : List S33) (tms : Int) (w : World) (hr0 : Kd.C k33 w A0 l0.length l0) (hc0 : l0.length ≤ c0) (hf : rescue_needing.f l0 = some td) (h1 : 1 ≤ tms) (h3 : tms ≤ 3) (hl0 : td.length = 0) :
    Calls Try.prog 13 #[.slice A0 l0.length c0, .int .i64 tms] w fun e w' => e = .returned (.tuple #[.slice none 0 0, .int .i64 0, .int .i64 0]) ∧ Below w.heap.size w w' := by
  have hu33 := Try.underlying33
  have hu22 := Try.underlying22
  have hu57 := Try.underlying57
  have NEED := Aside0.mk (rescue_needing.calls A0 c0 l0 td w hr0 hc0 hf)
  clear hr0 hf
  have t1 : decide (tms < 1) = false := decide_eq_false (by omega)
  have t2 : decide (3 < tms) = false := decide_eq_false (by omega)
  have tn1 : ¬ tms < 1 := by omega
  have tn2 : ¬ 3 < tms := by omega
  have H1 := Aside0.mk h1
  have H3 := Aside0.mk h3
  have HL := Aside0.mk hl0
  clear h1 h3 hl0
  go_enter Try.func13, Try.ntmps13
  go_wp2_with (go_at_call 29; refine NEED.out.mono ?_; rintro e w1 ⟨v1, rfl, hR1, hB1⟩; obtain ⟨A2, c2, rfl, -, -⟩ := Kd.R_reads hR1; rw [HL.out]; have HB1 := Aside0.mk hB1; clear hR1 hB1 NEED)
  go_ret3
  exact ⟨rfl, below_alloc HB1.out _⟩
theorem rescue_Plan.calls (A0 : Option Addr) (c0 : Nat) (l0 : List S33) (a1 : Int) (r1 : List S35) (r2 r3 : Int) (w : World) (hr0 : Kd.C k33 w A0 l0.length l0) (hc0 : l0.length ≤ c0) (h : rescue_Plan.f l0 a1 = some (r1, r2, r3)) :
    Calls Try.prog 13 #[.slice A0 l0.length c0, .int .i64 a1] w fun e w' => ∃ v0_ : Value, e = .returned (.tuple #[v0_, .int .i64 r2, .int .i64 r3]) ∧ Kd.R k35 35 w' w.heap.size (fun _ => True) v0_ r1 ∧ Below w.heap.size w w' := by
  unfold rescue_Plan.f at h
  by_cases h1 : a1 < 1 ∨ 3 < a1
  · rw [if_pos h1] at h
    obtain ⟨rfl, rfl, rfl⟩ : [] = r1 ∧ 0 = r2 ∧ 2 = r3 := by simpa using h
    refine (plan_out A0 c0 l0 a1 w h1).mono ?_
    rintro e w' ⟨rfl, rfl⟩
    exact ⟨_, rfl, Kd.R_nil _ _ _ _ _, Below.refl _ _⟩
  · rw [if_neg h1] at h
    obtain ⟨td, hf, h⟩ := Option.bind_eq_some_iff.1 h
    have hlt : td.length < 2932031007402 := by
      unfold rescue_needing.f at hf
      split at hf
      · obtain rfl := Option.some.inj hf
        exact Nat.lt_of_le_of_lt (List.length_filter_le _ _) (by assumption)
      · cases hf
    by_cases h2 : td.length = 0
    · rw [if_pos h2] at h
      obtain ⟨rfl, rfl, rfl⟩ : [] = r1 ∧ 0 = r2 ∧ 0 = r3 := by simpa using h
      refine (plan_none A0 c0 l0 td a1 w hr0 hc0 hf (by omega) (by omega) h2).mono ?_
      rintro e w' ⟨rfl, hb⟩
      exact ⟨_, rfl, Kd.R_nil _ _ _ _ _, hb⟩
    · rw [if_neg h2] at h
      exact plan_calls A0 c0 l0 td a1 w hr0 hc0 hf (by omega) (by omega) (by omega) hlt r1 r2 r3 h

end Go.Proofs.Ytedejkhopjhnbaa.P
