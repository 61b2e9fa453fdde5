-- Printed for this claim by a program of the session, out of Lean's own print of the translation.
import Derived.Test.YtedejkhopjhnbaaPx0
import Derived.Test.YtedejkhopjhnbaaPx6
import Derived.Test.YtedejkhopjhnbaaPx7
import Derived.Test.YtedejkhopjhnbaaPx9
namespace Go.Proofs.Ytedejkhopjhnbaa.P
open Go.RowKit Go.Proofs.YtedejkhopjhnbaaW.PrintWords Go.Proofs.YtedejkhopjhnbaaW.PrintLast Go.Proofs.YtedejkhopjhnbaaW.PrintMore
attribute [local go_sem] max2_int min2_int max_two min_two max_three min_three max_four min_four   -- for this text's walks alone
set_option linter.unusedVariables false
set_option linter.unusedSimpArgs false

/-! ### route_Best: function 26 -/
theorem neqlS47 (w : World) (a : Option Addr) (n c n2 c2 : Nat) : (binOp .neq 47 (.slice a n c) (.slice none n2 c2)).run Try.prog w = .ok (.bool a.isSome) w := by
  simp only [binOp]
  simp [Op.equal, Op.maxDepth, Lib.run_equalIn_slice_nil w 9999 47 82 a n c n2 c2 Try.underlying47]
attribute [local go_sem] neqlS47
/-- the state of a planner of two tasks for two groomers -/
structure Pl where
  fr : Nat → Int
  pl : Nat → S82
  b : Option (List S82)
  en : Int
def upN {α : Type} (f : Nat → α) (i : Nat) (x : α) : Nat → α := fun j => if j = i then x else f j
def runT (i : Nat) : Int := if i = 0 then 1 else 2
def secT (i : Nat) : Int := if i = 0 then 10 else 20
def cutP (e : Int) (s : Pl) : Bool := s.b.isSome && decide (s.en ≤ e)
def fwdP (i g : Nat) (s : Pl) : Pl := { s with pl := upN s.pl i ⟨wrap64 ((g : Int) + 1), runT i, s.fr g, wrap64 (s.fr g + secT i)⟩, fr := upN s.fr g (wrap64 (s.fr g + secT i)) }
def bckP (i g : Nat) (was : Int) (s : Pl) : Pl := { s with pl := upN s.pl i z82, fr := upN s.fr g was }
def mxP (a b : Int) : Int := if a < b then b else a
def pstep (rec : Int → Pl → Pl) (e : Int) (i g : Nat) (s : Pl) : Pl := bckP i g (s.fr g) (rec (mxP e (wrap64 (s.fr g + secT i))) (fwdP i g s))
def psteps (rec : Int → Pl → Pl) (e : Int) (i : Nat) (s : Pl) : Nat → Pl
  | 0 => s
  | g + 1 => pstep rec e i g (psteps rec e i s g)
def pbody (rec : Int → Pl → Pl) (e : Int) (i : Nat) (s : Pl) : Pl := if (s.pl i).f0 = 0 then psteps rec e i s 2 else s
def bodies (rec : Int → Pl → Pl) (e : Int) (s : Pl) : Nat → Pl
  | 0 => s
  | i + 1 => pbody rec e i (bodies rec e s i)
def searchS : Nat → Int → Pl → Pl
  | 0, e, s => if cutP e s then s else { s with b := some [s.pl 0, s.pl 1], en := e }
  | left + 1, e, s => if cutP e s then s else bodies (searchS left) e s 2
structure KQ (P F Q : Nat) (A W : World) : Prop where
  os : W.os = A.os
  tape : W.tape = A.tape
  output : W.output = A.output
  size : A.heap.size ≤ W.heap.size
  block : ∀ k, k < A.heap.size → k ≠ P → k ≠ F → k ≠ Q → W.heap[k]? = A.heap[k]?
theorem KQ.refl (P F Q : Nat) (A : World) : KQ P F Q A A := ⟨rfl, rfl, rfl, Nat.le_refl _, fun _ _ _ _ _ => rfl⟩
theorem KQ.trans {P F Q : Nat} {A W X : World} (h : KQ P F Q A W) (k : KQ P F Q W X) : KQ P F Q A X := ⟨k.os.trans h.os, k.tape.trans h.tape, k.output.trans h.output, Nat.le_trans h.size k.size, fun i h1 h2 h3 h4 => (k.block i (Nat.lt_of_lt_of_le h1 h.size) h2 h3 h4).trans (h.block i h1 h2 h3 h4)⟩
theorem KQ.cell {P F Q : Nat} {A W : World} (h : KQ P F Q A W) {p : Addr} (h1 : p.block < A.heap.size) (h2 : p.block ≠ P) (h3 : p.block ≠ F) (h4 : p.block ≠ Q) : W.cell? p = A.cell? p := World.cell?_of_block (w := A) (h.block p.block h1 h2 h3 h4)
theorem KQ.below {P F Q : Nat} {A W : World} (h : Below A.heap.size A W) : KQ P F Q A W := ⟨h.os, h.tape, h.output, h.size, fun k h1 _ _ _ => h.block k h1⟩
theorem KQ.drew {P F Q : Nat} {A W : World} (h : KQ P F Q A W) : KQ P F Q A W.drew := ⟨h.os, h.tape, h.output, h.size, h.block⟩
theorem KQ.drewN {P F Q : Nat} {A W : World} (h : KQ P F Q A W) (n : Nat) : KQ P F Q A (W.drewN n) := ⟨h.os, h.tape, h.output, h.size, h.block⟩
theorem KQ.setF {P F Q : Nat} {A W : World} (h : KQ P F Q A W) (j : Nat) (v : Value) : KQ P F Q A (W.setCell ⟨F, j, none⟩ v) :=
  ⟨h.os, h.tape, h.output, by simpa [World.setCell] using h.size, fun k h1 h2 h3 h4 => (Below.heap_setCell W ⟨F, j, none⟩ v k h3).trans (h.block k h1 h2 h3 h4)⟩
theorem KQ.setP {P F Q : Nat} {A W : World} (h : KQ P F Q A W) (j : Nat) (v : Value) : KQ P F Q A (W.setCell ⟨P, j, none⟩ v) :=
  ⟨h.os, h.tape, h.output, by simpa [World.setCell] using h.size, fun k h1 h2 h3 h4 => (Below.heap_setCell W ⟨P, j, none⟩ v k h2).trans (h.block k h1 h2 h3 h4)⟩
theorem KQ.setQ {P F Q : Nat} {A W : World} (h : KQ P F Q A W) (j : Nat) (v : Value) : KQ P F Q A (W.setCell ⟨Q, j, none⟩ v) :=
  ⟨h.os, h.tape, h.output, by simpa [World.setCell] using h.size, fun k h1 h2 h3 h4 => (Below.heap_setCell W ⟨Q, j, none⟩ v k h4).trans (h.block k h1 h2 h3 h4)⟩
theorem KQ.to_below {P F Q N : Nat} {A W : World} (h : KQ P F Q A W) (hN : N ≤ A.heap.size) (hP : N ≤ P) (hF : N ≤ F) (hQ : N ≤ Q) : Below N A W :=
  ⟨h.os, h.tape, h.output, h.size, fun k hk => h.block k (by omega) (by omega) (by omega) (by omega)⟩
/-- where a planner lies -/
structure Wh where
  P : Nat
  F : Nat
  Q : Nat
  N : Nat
  ad : Addr
  ca : Nat
  av : Option Addr
  cv : Nat
  cl : Nat → Option Addr
  cc : Nat → Nat
structure Apt (h : Wh) : Prop where
  pf : h.P ≠ h.F
  pq : h.P ≠ h.Q
  fq : h.F ≠ h.Q
  ap : h.ad.block ≠ h.P
  af : h.ad.block ≠ h.F
  aq : h.ad.block ≠ h.Q
def KWq (h : Wh) (A W : World) : Prop := KQ h.P h.F h.Q A W
def frC (fr : Nat → Int) : Array Value := #[.int .i64 (fr 0), .int .i64 (fr 1)]
def plC (pl : Nat → S82) : Array Value := #[.int .i64 (pl 0).f0, .int .i64 (pl 0).f1, .int .i64 (pl 0).f2, .int .i64 (pl 0).f3, .int .i64 (pl 1).f0, .int .i64 (pl 1).f1, .int .i64 (pl 1).f2, .int .i64 (pl 1).f3]
def bxC (h : Wh) (vb : Value) (en : Int) : Array Value := #[.slice (some h.ad) 2 h.ca, .slice h.av 2 h.cv, .slice (some ⟨h.F, 0, none⟩) 2 2, .slice (some ⟨h.Q, 0, none⟩) 2 2, vb, .int .i64 en]
def BestR (h : Wh) (W : World) (v : Value) : Option (List S82) → Prop
  | none => v = .slice none 0 0
  | some bl => bl.length = 2 ∧ Kd.R k82 82 W h.N (fun k => k ≠ h.P ∧ k ≠ h.F ∧ k ≠ h.Q) v bl
structure TP (h : Wh) (W : World) (s : Pl) : Prop where
  box : ∃ vb, W.heap[h.P]? = some (.cells (bxC h vb s.en) 72 (0, 0)) ∧ BestR h W vb s.b
  free : W.heap[h.F]? = some (.cells (frC s.fr) 3 (0, 0))
  plan : W.heap[h.Q]? = some (.cells (plC s.pl) 82 (0, 0))
  task : ∀ j, j < 2 → W.cell? (h.ad.add (j * 4)) = some (.int .i64 (runT j)) ∧ W.cell? ⟨(h.ad.add (j * 4)).block, (h.ad.add (j * 4)).off + 1, none⟩ = some (.int .i64 (secT j)) ∧ W.cell? ⟨(h.ad.add (j * 4)).block, (h.ad.add (j * 4)).off + 2, none⟩ = some (.bool false) ∧ W.cell? ⟨(h.ad.add (j * 4)).block, (h.ad.add (j * 4)).off + 3, none⟩ = some (.slice (h.cl j) 0 (h.cc j))
  al : h.ad.block < W.heap.size
theorem add_block_ (a : Addr) (j : Nat) : (a.add j).block = a.block := by unfold Addr.add; split <;> rfl
theorem BestR.keep {h : Wh} {A W : World} {v : Value} {o : Option (List S82)} (x : BestR h A v o) (k : KWq h A W) : BestR h W v o := by
  cases o with
  | none => exact x
  | some bl => exact ⟨x.1, Kd.R_step x.2 (fun i ho hlt => k.block i hlt ho.1 ho.2.1 ho.2.2)⟩
theorem TP.move {h : Wh} {A W : World} {s : Pl} (x : TP h A s) (a : Apt h) (k : KWq h A W) (e1 : W.heap[h.P]? = A.heap[h.P]?) (e2 : W.heap[h.F]? = A.heap[h.F]?) (e3 : W.heap[h.Q]? = A.heap[h.Q]?) : TP h W s := by
  obtain ⟨vb, h1, h2⟩ := x.box
  have c : ∀ p : Addr, p.block = h.ad.block → W.cell? p = A.cell? p := fun p e => KQ.cell k (by rw [e]; exact x.al) (by rw [e]; exact a.ap) (by rw [e]; exact a.af) (by rw [e]; exact a.aq)
  refine ⟨⟨vb, e1.trans h1, h2.keep k⟩, e2.trans x.free, e3.trans x.plan, fun j hj => ?_, Nat.lt_of_lt_of_le x.al k.size⟩
  obtain ⟨t0, t1, t2, t3⟩ := x.task j hj
  exact ⟨(c (h.ad.add (j * 4)) (add_block_ h.ad (j * 4))).trans t0, (c ⟨(h.ad.add (j * 4)).block, (h.ad.add (j * 4)).off + 1, none⟩ (add_block_ h.ad (j * 4))).trans t1, (c ⟨(h.ad.add (j * 4)).block, (h.ad.add (j * 4)).off + 2, none⟩ (add_block_ h.ad (j * 4))).trans t2, (c ⟨(h.ad.add (j * 4)).block, (h.ad.add (j * 4)).off + 3, none⟩ (add_block_ h.ad (j * 4))).trans t3⟩
theorem TP.setF {h : Wh} {W : World} {s : Pl} (x : TP h W s) (a : Apt h) (g : Nat) (hg : g < 2) (v : Int) : TP h (W.setCell ⟨h.F, g, none⟩ (.int .i64 v)) { s with fr := upN s.fr g v } := by
  obtain ⟨vb, h1, h2⟩ := x.box
  have k : KWq h W (W.setCell ⟨h.F, g, none⟩ (.int .i64 v)) := (KQ.refl h.P h.F h.Q W).setF g _
  have c : ∀ p : Addr, p.block = h.ad.block → (W.setCell ⟨h.F, g, none⟩ (.int .i64 v)).cell? p = W.cell? p := fun p e => KQ.cell k (by rw [e]; exact x.al) (by rw [e]; exact a.ap) (by rw [e]; exact a.af) (by rw [e]; exact a.aq)
  refine ⟨⟨vb, (Below.heap_setCell W ⟨h.F, g, none⟩ _ h.P a.pf).trans h1, h2.keep k⟩, ?_, (Below.heap_setCell W ⟨h.F, g, none⟩ _ h.Q (fun e => a.fq e.symm)).trans x.plan, fun j hj => ?_, Nat.lt_of_lt_of_le x.al k.size⟩
  · rw [blk_set x.free]
    obtain rfl | rfl : g = 0 ∨ g = 1 := by omega
    · rfl
    · rfl
  · obtain ⟨t0, t1, t2, t3⟩ := x.task j hj
    exact ⟨(c (h.ad.add (j * 4)) (add_block_ h.ad (j * 4))).trans t0, (c ⟨(h.ad.add (j * 4)).block, (h.ad.add (j * 4)).off + 1, none⟩ (add_block_ h.ad (j * 4))).trans t1, (c ⟨(h.ad.add (j * 4)).block, (h.ad.add (j * 4)).off + 2, none⟩ (add_block_ h.ad (j * 4))).trans t2, (c ⟨(h.ad.add (j * 4)).block, (h.ad.add (j * 4)).off + 3, none⟩ (add_block_ h.ad (j * 4))).trans t3⟩
def set4 (W : World) (Q o : Nat) (y : S82) : World := (((W.setCell ⟨Q, o, none⟩ (.int .i64 y.f0)).setCell ⟨Q, o + 1, none⟩ (.int .i64 y.f1)).setCell ⟨Q, o + 2, none⟩ (.int .i64 y.f2)).setCell ⟨Q, o + 3, none⟩ (.int .i64 y.f3)
theorem TP.setQ {h : Wh} {W : World} {s : Pl} (x : TP h W s) (a : Apt h) (i : Nat) (hi : i < 2) (y : S82) : TP h (set4 W h.Q (i * 4) y) { s with pl := upN s.pl i y } ∧ KWq h W (set4 W h.Q (i * 4) y) := by
  obtain ⟨vb, h1, h2⟩ := x.box
  have k : KWq h W (set4 W h.Q (i * 4) y) := ((((KQ.refl h.P h.F h.Q W).setQ _ _).setQ _ _).setQ _ _).setQ _ _
  have c : ∀ p : Addr, p.block = h.ad.block → (set4 W h.Q (i * 4) y).cell? p = W.cell? p := fun p e => KQ.cell k (by rw [e]; exact x.al) (by rw [e]; exact a.ap) (by rw [e]; exact a.af) (by rw [e]; exact a.aq)
  have far : ∀ b, b ≠ h.Q → (set4 W h.Q (i * 4) y).heap[b]? = W.heap[b]? := fun b hb => by
    unfold set4
    rw [Below.heap_setCell _ ⟨h.Q, _, none⟩ _ b hb, Below.heap_setCell _ ⟨h.Q, _, none⟩ _ b hb, Below.heap_setCell _ ⟨h.Q, _, none⟩ _ b hb, Below.heap_setCell _ ⟨h.Q, _, none⟩ _ b hb]
  refine ⟨⟨⟨vb, (far h.P a.pq).trans h1, h2.keep k⟩, (far h.F a.fq).trans x.free, ?_, fun j hj => ?_, Nat.lt_of_lt_of_le x.al k.size⟩, k⟩
  · unfold set4
    rw [blk_set (blk_set (blk_set (blk_set x.plan _ _) _ _) _ _) _ _]
    obtain rfl | rfl : i = 0 ∨ i = 1 := by omega
    · rfl
    · rfl
  · obtain ⟨t0, t1, t2, t3⟩ := x.task j hj
    exact ⟨(c (h.ad.add (j * 4)) (add_block_ h.ad (j * 4))).trans t0, (c ⟨(h.ad.add (j * 4)).block, (h.ad.add (j * 4)).off + 1, none⟩ (add_block_ h.ad (j * 4))).trans t1, (c ⟨(h.ad.add (j * 4)).block, (h.ad.add (j * 4)).off + 2, none⟩ (add_block_ h.ad (j * 4))).trans t2, (c ⟨(h.ad.add (j * 4)).block, (h.ad.add (j * 4)).off + 3, none⟩ (add_block_ h.ad (j * 4))).trans t3⟩
theorem TP.cells {h : Wh} {W : World} {s : Pl} (x : TP h W s) : ∃ vb, BestR h W vb s.b ∧ W.heap[h.P]? = some (.cells (bxC h vb s.en) 72 (0, 0)) ∧
    W.cell? ⟨h.P, 0, none⟩ = some (.slice (some h.ad) 2 h.ca) ∧ W.cell? ⟨h.P, 1, none⟩ = some (.slice h.av 2 h.cv) ∧ W.cell? ⟨h.P, 2, none⟩ = some (.slice (some ⟨h.F, 0, none⟩) 2 2) ∧ W.cell? ⟨h.P, 3, none⟩ = some (.slice (some ⟨h.Q, 0, none⟩) 2 2) ∧
    W.cell? ⟨h.P, 4, none⟩ = some vb ∧ W.cell? ⟨h.P, 5, none⟩ = some (.int .i64 s.en) := by
  obtain ⟨vb, h1, h2⟩ := x.box
  exact ⟨vb, h2, h1, (blk_cell h1 0).trans rfl, (blk_cell h1 1).trans rfl, (blk_cell h1 2).trans rfl, (blk_cell h1 3).trans rfl, (blk_cell h1 4).trans rfl, (blk_cell h1 5).trans rfl⟩
theorem TP.cellF {h : Wh} {W : World} {s : Pl} (x : TP h W s) (g : Nat) (hg : g < 2) : W.cell? ⟨h.F, g, none⟩ = some (.int .i64 (s.fr g)) ∧ W.frozen? ⟨h.F, g, none⟩ = false := by
  refine ⟨(blk_cell x.free g).trans ?_, blk_frozen x.free g⟩
  obtain rfl | rfl : g = 0 ∨ g = 1 := by omega
  · rfl
  · rfl
theorem TP.cellQ {h : Wh} {W : World} {s : Pl} (x : TP h W s) (i : Nat) (hi : i < 2) : W.cell? ⟨h.Q, i * 4, none⟩ = some (.int .i64 (s.pl i).f0) ∧ W.cell? ⟨h.Q, i * 4 + 1, none⟩ = some (.int .i64 (s.pl i).f1) ∧ W.cell? ⟨h.Q, i * 4 + 2, none⟩ = some (.int .i64 (s.pl i).f2) ∧ W.cell? ⟨h.Q, i * 4 + 3, none⟩ = some (.int .i64 (s.pl i).f3) ∧ ∀ o, W.frozen? ⟨h.Q, o, none⟩ = false := by
  refine ⟨(blk_cell x.plan _).trans ?_, (blk_cell x.plan _).trans ?_, (blk_cell x.plan _).trans ?_, (blk_cell x.plan _).trans ?_, fun o => blk_frozen x.plan o⟩
  all_goals
    obtain rfl | rfl : i = 0 ∨ i = 1 := by omega
    · rfl
    · rfl
theorem BestR.some_ {h : Wh} {W : World} {v : Value} {o : Option (List S82)} (x : BestR h W v o) : ∃ a n c, v = .slice a n c ∧ a.isSome = o.isSome := by
  cases o with
  | none => exact ⟨none, 0, 0, x, rfl⟩
  | some bl =>
    obtain ⟨g, c, e, _⟩ := Kd.R_form x.2 (by rw [x.1]; omega)
    exact ⟨_, _, _, e, rfl⟩
def start_T5 : Bool × List (List Nat × List Nat) := (true, [([], []), ([0], [0]), ([1], [1]), ([2], [2]), ([3], [3]), ([4, 3], [3, 4]), ([5, 3], [3, 5]), ([6, 3], [3, 6]), ([3], [3]), ([7, 8, 3], [3, 7, 8]), ([9, 3], [3, 9]), ([3], [3]), ([11, 3], [3, 11]), ([12, 3], [3, 12]), ([13, 3], [3, 13]), ([3], [3]), ([14, 15, 3], [3, 14, 15]), ([16, 3], [3, 16]), ([10, 17, 3, 3], [3, 10, 17]), ([3, 18], [3, 18])])
def start_B5 : List Nat := [0, 1, 3, 7, 15, 31, 63, 127, 15, 511, 1023, 15, 2063, 6159, 14351, 15, 63503, 129039, 262143, 524287]
theorem start_tab5 : rtab .any (opsOf Try.f52 5) = start_T5 := by kernel_rfl
theorem start_bits5 : waitsOk start_T5.2 start_B5 = true := by kernel_rfl
def search_T11 : Bool × List (List Nat × List Nat) := (true, [([], []), ([0], [0]), ([1], [1]), ([2], [2]), ([], []), ([3, 4], [3, 4]), ([5], [5]), ([], []), ([], []), ([], []), ([7, 8, 9], [7, 8, 9]), ([6, 10, 0, 1, 2, 3, 4, 5, 6], [6]), ([10, 11, 0, 1, 2, 3, 4, 5, 6, 7, 8, 9, 10, 11], [10])])
def search_B11 : List Nat := [0, 1, 3, 7, 0, 31, 63, 0, 0, 0, 896, 2047, 4095]
theorem search_tab11 : rtab .any (opsOf Try.f42 11) = search_T11 := by kernel_rfl
theorem search_bits11 : waitsOk search_T11.2 search_B11 = true := by kernel_rfl
def search_T13 : Bool × List (List Nat × List Nat) := (true, [([], []), ([0], [0]), ([1], [1]), ([2], [2]), ([], []), ([], []), ([5], [5]), ([6], [6]), ([7], [7]), ([], []), ([], []), ([10], [10]), ([], []), ([12], [12]), ([], []), ([], []), ([11, 13, 14, 15], [11, 13, 14, 15]), ([], []), ([3, 4, 0, 1, 2, 3, 4, 8, 10, 11, 12, 13, 14, 15, 16], [3, 4]), ([18, 16, 0, 1, 2, 3, 4, 8, 10, 11, 12, 13, 14, 15, 16], [16, 18]), ([8, 9, 0, 1, 2, 3, 4, 5, 6, 7, 8, 9, 10, 11, 12, 13, 14, 15, 16, 17, 18, 19], [8, 9]), ([20, 17, 19, 0, 1, 2, 3, 4, 5, 6, 7, 8, 9, 10, 11, 12, 13, 14, 15, 16, 17, 18, 19], [17, 20])])
def search_B13 : List Nat := [0, 1, 3, 7, 0, 0, 32, 96, 224, 0, 0, 1024, 0, 4096, 0, 0, 64512, 0, 130559, 392703, 1048575, 2097151]
theorem search_tab13 : rtab .any (opsOf Try.f42 13) = search_T13 := by kernel_rfl
theorem search_bits13 : waitsOk search_T13.2 search_B13 = true := by kernel_rfl
def search_T15 : Bool × List (List Nat × List Nat) := (true, [([], []), ([0], [0]), ([1], [1]), ([2], [2]), ([], []), ([], []), ([5], [5]), ([6], [6]), ([7], [7]), ([], []), ([], []), ([], []), ([3, 4, 0, 1, 2, 3, 4, 8, 10], [3, 4]), ([12, 10, 0, 1, 2, 3, 4, 8, 10], [10, 12]), ([8, 9, 0, 1, 2, 3, 4, 5, 6, 7, 8, 9, 10, 11, 12, 13], [8, 9]), ([14, 11, 13, 0, 1, 2, 3, 4, 5, 6, 7, 8, 9, 10, 11, 12, 13], [11, 14])])
def search_B15 : List Nat := [0, 1, 3, 7, 0, 0, 32, 96, 224, 0, 0, 0, 1535, 5631, 16383, 32767]
theorem search_tab15 : rtab .any (opsOf Try.f42 15) = search_T15 := by kernel_rfl
theorem search_bits15 : waitsOk search_T15.2 search_B15 = true := by kernel_rfl
theorem C_nil_ints (W : World) (A : Option Addr) : Kd.C (Kd.int .i64) W A ([] : List Int).length [] := ⟨rfl, by simp, fun h => absurd h (by simp)⟩
theorem clash_no (r1 s1 r2 s2 : Int) (A1 A2 : Option Addr) (c1 c2 : Nat) (w : World) : Calls Try.prog 54 #[.agg #[.int .i64 r1, .int .i64 s1, .bool false, .slice A1 0 c1], .agg #[.int .i64 r2, .int .i64 s2, .bool false, .slice A2 0 c2]] w fun e w' => e = .returned (.bool false) ∧ Below w.heap.size w w' :=
  route_clash.calls 5 r1 s1 false A1 c1 [] r2 s2 false A2 c2 [] false w (C_nil_ints w A1) (Nat.zero_le _) (C_nil_ints w A2) (Nat.zero_le _) rfl
set_option maxHeartbeats 16000000 in
set_option maxRecDepth 100000 in
theorem start_ok (h : Wh) (a : Apt h) (s : Pl) (i g : Nat) (hi : i < 2) (hg : g < 2) (w : World) (x : TP h w s) :
    Calls Try.prog 52 #[.pointer (some ⟨h.P, 0, none⟩), .int .i64 i, .int .i64 g] w fun e w' => e = .returned (.int .i64 (s.fr g)) ∧ Below w.heap.size w w' := by
  have hu82 := Try.underlying82
  have hu72 := Try.underlying72
  have hu45 := Try.underlying45
  have hu46 := Try.underlying46
  have hu47 := Try.underlying47
  have hu43 := Try.underlying43
  have hiz : (i : Int) < 2 := by omega
  have hgz : (g : Int) < 2 := by omega
  obtain ⟨vb, -, hbx, q0, q1, q2, q3, -, -⟩ := x.cells
  obtain ⟨f0, -⟩ := x.cellF g hg
  have HP := Aside0.mk (blk_lt hbx)
  have HQ := Aside0.mk (blk_lt x.plan)
  have X := Aside0.mk x
  have Q0 := Aside0.mk q0
  clear x hbx q1
  go_enter Try.func52, Try.ntmps52
  go_wp2_with (fail)
  clear q0 q2 q3 f0
  go_loopg [7, 8, 9, 22] 2 (fun gg s7 _ _ s22 wr => ∃ kk : Nat, kk ≤ 2 ∧ 2 - kk ≤ gg ∧ s7 = .int .i64 (s.fr g) ∧ s22 = .int .i64 kk ∧ Aside0 (Below w.heap.size w wr))
  case atStart => exact ⟨0, Nat.zero_le _, by omega, rfl, rfl, ⟨Below.refl _ _⟩⟩
  case round =>
    obtain ⟨kk, hkk, hgg, rfl, rfl, BW⟩ := hrel
    by_cases hlt : kk < 2
    · have hltz : (kk : Int) < 2 := by omega
      have d1 : decide (kk < 2) = true := decide_eq_true hlt
      obtain ⟨p0, p1, p2, p3, -⟩ := X.out.cellQ kk hlt
      replace p0 := (BW.out.cell (p := ⟨h.Q, _, none⟩) HQ.out).trans p0
      replace p1 := (BW.out.cell (p := ⟨h.Q, _, none⟩) HQ.out).trans p1
      replace p2 := (BW.out.cell (p := ⟨h.Q, _, none⟩) HQ.out).trans p2
      replace p3 := (BW.out.cell (p := ⟨h.Q, _, none⟩) HQ.out).trans p3
      generalize s.pl kk = y at *
      have HBW := Aside0.mk (below_alloc BW.out (.cells #[.int .i64 y.f0, .int .i64 y.f1, .int .i64 y.f2, .int .i64 y.f3] 82))
      have XB := Aside0.mk (blk_new wr (.cells #[.int .i64 y.f0, .int .i64 y.f1, .int .i64 y.f2, .int .i64 y.f3] 82))
      by_cases hz : y.f0 = 0
      · have hzb : (y.f0 != 0) = false := by simp [hz]
        have hzc : (y.f0 == 0) = true := by simp [hz]
        clear XB
        go_wp2_with (fail)
        go_quiet (fail)
        go_wp2_with (fail)
        go_roundg (2 - (kk + 1))
        case measure => omega
        case rel => exact ⟨kk + 1, by omega, by omega, rfl, by go_num, ⟨pw_below_drewN (below_alloc BW.out _) _⟩⟩
      · have hzb : (y.f0 != 0) = true := by simp [hz]
        have hzc : (y.f0 == 0) = false := by simpa using hz
        go_wp2_with (fail)
        clear p0 p1 p2 p3
        have TK : Aside0 (∀ W, Below w.heap.size w W → ∀ j, j < 2 → W.cell? (h.ad.add (j * 4)) = some (.int .i64 (runT j)) ∧ W.cell? ⟨(h.ad.add (j * 4)).block, (h.ad.add (j * 4)).off + 1, none⟩ = some (.int .i64 (secT j)) ∧ W.cell? ⟨(h.ad.add (j * 4)).block, (h.ad.add (j * 4)).off + 2, none⟩ = some (.bool false) ∧ W.cell? ⟨(h.ad.add (j * 4)).block, (h.ad.add (j * 4)).off + 3, none⟩ = some (.slice (h.cl j) 0 (h.cc j))) := ⟨fun W hW j hj => by
          obtain ⟨t0, t1, t2, t3⟩ := X.out.task j hj
          exact ⟨(hW.cell (World.block_lt_of_cell? w _ t0)).trans t0, (hW.cell (World.block_lt_of_cell? w _ t1)).trans t1, (hW.cell (World.block_lt_of_cell? w _ t2)).trans t2, (hW.cell (World.block_lt_of_cell? w _ t3)).trans t3⟩⟩
        have LW : Aside0 (wr.heap.size < (wr.alloc (.cells #[.int .i64 y.f0, .int .i64 y.f1, .int .i64 y.f2, .int .i64 y.f3] 82)).heap.size) := ⟨by simp⟩
        have BD := Aside0.mk (below_drew1 HBW.out)
        have XD : Aside0 ((wr.alloc (.cells #[.int .i64 y.f0, .int .i64 y.f1, .int .i64 y.f2, .int .i64 y.f3] 82)).drew.heap[wr.heap.size]? = some (.cells #[.int .i64 y.f0, .int .i64 y.f1, .int .i64 y.f2, .int .i64 y.f3] 82 (0, 0))) := ⟨XB.out⟩
        have zb := (blk_cell XD.out 0).trans rfl
        have zp := (BD.out.cell (p := ⟨h.P, 0, none⟩) HP.out).trans Q0.out
        obtain ⟨i0, i1, i2, i3⟩ := TK.out _ BD.out i hi
        obtain ⟨k0, k1, k2, k3⟩ := TK.out _ BD.out kk hlt
        clear XB HBW
        refine start_ (n := 20) (S := fun w' => w'.cell? ⟨wr.heap.size, 0, none⟩ = some (.int .i64 y.f0) ∧ w'.cell? ⟨h.P, 0, none⟩ = some (.slice (some h.ad) 2 h.ca) ∧ w'.cell? (h.ad.add (i * 4)) = some (.int .i64 (runT i)) ∧ w'.cell? ⟨(h.ad.add (i * 4)).block, (h.ad.add (i * 4)).off + 1, none⟩ = some (.int .i64 (secT i)) ∧ w'.cell? ⟨(h.ad.add (i * 4)).block, (h.ad.add (i * 4)).off + 2, none⟩ = some (.bool false) ∧ w'.cell? ⟨(h.ad.add (i * 4)).block, (h.ad.add (i * 4)).off + 3, none⟩ = some (.slice (h.cl i) 0 (h.cc i)) ∧ w'.cell? (h.ad.add (kk * 4)) = some (.int .i64 (runT kk)) ∧ w'.cell? ⟨(h.ad.add (kk * 4)).block, (h.ad.add (kk * 4)).off + 1, none⟩ = some (.int .i64 (secT kk)) ∧ w'.cell? ⟨(h.ad.add (kk * 4)).block, (h.ad.add (kk * 4)).off + 2, none⟩ = some (.bool false) ∧ w'.cell? ⟨(h.ad.add (kk * 4)).block, (h.ad.add (kk * 4)).off + 3, none⟩ = some (.slice (h.cl kk) 0 (h.cc kk))) (ds := []) #[false, false, false, false, false, false, false, false, false, false, false, false, false, false, false, false, false, false, false, false] (by kernel_rfl) rfl rfl ⟨zb, zp, i0, i1, i2, i3, k0, k1, k2, k3⟩ (fun hHeld => ?_)
        refine with_tabW start_tab5 start_bits5 (fun HT_ HW_ => ?_)
        generalize (wr.alloc (.cells #[.int .i64 y.f0, .int .i64 y.f1, .int .i64 y.f2, .int .i64 y.f3] 82)).drew = wd at BD XD LW zb zp i0 i1 i2 i3 k0 k1 k2 k3 hHeld ⊢
        refine pure_ (i := 0) (N := some 27) (v := ?_) (a' := ?_) #[true, false, false, false, false, false, false, false, false, false, false, false, false, false, false, false, false, false, false, false] rfl rfl (any_of HT_.out (by kernel_rfl)) (fun _ _ _ h => h) (Or.inl ⟨by rfl, ?_⟩) ?_ ?_
        rotate_left
        · intro w'
          go_simp
          with_reducible rfl
        rotate_left
        · simp only [Act.put, List.setIfInBounds_toArray, List.set_cons_zero, List.set_cons_succ, i64_w, i32_w]
          rfl
        refine take_ (i := 1) (N := some 28) (v := ?_) (a' := ?_) #[true, true, false, false, false, false, false, false, false, false, false, false, false, false, false, false, false, false, false, false] rfl rfl (take_ofW HT_.out HW_.out (by kernel_rfl)) (fun _ _ _ h => h) (Or.inl ⟨by rfl, ?_⟩) hHeld ?_ ?_
        rotate_left
        · rintro w' ⟨s0, s1, s2, s3, s4, s5, s6, s7, s8, s9⟩
          go_simp
          with_reducible rfl
        rotate_left
        · simp only [Act.put, List.setIfInBounds_toArray, List.set_cons_zero, List.set_cons_succ, i64_w, i32_w]
          rfl
        refine pure_ (i := 2) (N := some 29) (v := ?_) (a' := ?_) #[true, true, true, false, false, false, false, false, false, false, false, false, false, false, false, false, false, false, false, false] rfl rfl (any_of HT_.out (by kernel_rfl)) (fun _ _ _ h => h) (Or.inl ⟨by rfl, ?_⟩) ?_ ?_
        rotate_left
        · intro w'
          go_simp
          with_reducible rfl
        rotate_left
        · simp only [Act.put, List.setIfInBounds_toArray, List.set_cons_zero, List.set_cons_succ, i64_w, i32_w]
          rfl
        refine pure_ (i := 3) (N := some 30) (v := ?_) (a' := ?_) #[true, true, true, true, false, false, false, false, false, false, false, false, false, false, false, false, false, false, false, false] rfl rfl (any_of HT_.out (by kernel_rfl)) (fun _ _ _ h => h) (Or.inl ⟨by rfl, ?_⟩) ?_ ?_
        rotate_left
        · intro w'
          go_simp
          with_reducible rfl
        rotate_left
        · simp only [Act.put, List.setIfInBounds_toArray, List.set_cons_zero, List.set_cons_succ, i64_w, i32_w]
          rfl
        refine pure_ (i := 4) (N := some 31) (v := ?_) (a' := ?_) #[true, true, true, true, true, false, false, false, false, false, false, false, false, false, false, false, false, false, false, false] rfl rfl (any_of HT_.out (by kernel_rfl)) (fun _ _ _ h => h) (Or.inl ⟨by rfl, ?_⟩) ?_ ?_
        rotate_left
        · intro w'
          go_simp
          with_reducible rfl
        rotate_left
        · simp only [Act.put, List.setIfInBounds_toArray, List.set_cons_zero, List.set_cons_succ, i64_w, i32_w]
          rfl
        refine pure_ (i := 5) (N := some 32) (v := ?_) (a' := ?_) #[true, true, true, true, true, true, false, false, false, false, false, false, false, false, false, false, false, false, false, false] rfl rfl (any_of HT_.out (by kernel_rfl)) (fun _ _ _ h => h) (Or.inl ⟨by rfl, ?_⟩) ?_ ?_
        rotate_left
        · intro w'
          go_simp
          with_reducible rfl
        rotate_left
        · simp only [Act.put, List.setIfInBounds_toArray, List.set_cons_zero, List.set_cons_succ, i64_w, i32_w]
          rfl
        refine pure_ (i := 6) (N := some 33) (v := ?_) (a' := ?_) #[true, true, true, true, true, true, true, false, false, false, false, false, false, false, false, false, false, false, false, false] rfl rfl (any_of HT_.out (by kernel_rfl)) (fun _ _ _ h => h) (Or.inl ⟨by rfl, ?_⟩) ?_ ?_
        rotate_left
        · intro w'
          go_simp
          with_reducible rfl
        rotate_left
        · simp only [Act.put, List.setIfInBounds_toArray, List.set_cons_zero, List.set_cons_succ, i64_w, i32_w]
          rfl
        refine take_ (i := 7) (N := some 34) (v := ?_) (a' := ?_) #[true, true, true, true, true, true, true, true, false, false, false, false, false, false, false, false, false, false, false, false] rfl rfl (take_ofW HT_.out HW_.out (by kernel_rfl)) (fun _ _ _ h => h) (Or.inl ⟨by rfl, ?_⟩) hHeld ?_ ?_
        rotate_left
        · rintro w' ⟨s0, s1, s2, s3, s4, s5, s6, s7, s8, s9⟩
          go_simp
          with_reducible rfl
        rotate_left
        · simp only [Act.put, List.setIfInBounds_toArray, List.set_cons_zero, List.set_cons_succ, i64_w, i32_w]
          rfl
        refine pure_ (i := 8) (N := some 35) (v := ?_) (a' := ?_) #[true, true, true, true, true, true, true, true, true, false, false, false, false, false, false, false, false, false, false, false] rfl rfl (any_of HT_.out (by kernel_rfl)) (fun _ _ _ h => h) (Or.inl ⟨by rfl, ?_⟩) ?_ ?_
        rotate_left
        · intro w'
          go_simp
          with_reducible rfl
        rotate_left
        · simp only [Act.put, List.setIfInBounds_toArray, List.set_cons_zero, List.set_cons_succ, i64_w, i32_w]
          rfl
        refine pure_ (i := 9) (N := some 36) (v := ?_) (a' := ?_) #[true, true, true, true, true, true, true, true, true, true, false, false, false, false, false, false, false, false, false, false] rfl rfl (any_of HT_.out (by kernel_rfl)) (fun _ _ _ h => h) (Or.inl ⟨by rfl, ?_⟩) ?_ ?_
        rotate_left
        · intro w'
          go_simp
          with_reducible rfl
        rotate_left
        · simp only [Act.put, List.setIfInBounds_toArray, List.set_cons_zero, List.set_cons_succ, i64_w, i32_w]
          rfl
        refine take_ (i := 10) (N := some 37) (v := ?_) (a' := ?_) #[true, true, true, true, true, true, true, true, true, true, true, false, false, false, false, false, false, false, false, false] rfl rfl (take_ofW HT_.out HW_.out (by kernel_rfl)) (fun _ _ _ h => h) (Or.inl ⟨by rfl, ?_⟩) hHeld ?_ ?_
        rotate_left
        · rintro w' ⟨s0, s1, s2, s3, s4, s5, s6, s7, s8, s9⟩
          go_simp
          with_reducible rfl
        rotate_left
        · simp only [Act.put, List.setIfInBounds_toArray, List.set_cons_zero, List.set_cons_succ, i64_w, i32_w]
          rfl
        refine pure_ (i := 11) (N := some 38) (v := ?_) (a' := ?_) #[true, true, true, true, true, true, true, true, true, true, true, true, false, false, false, false, false, false, false, false] rfl rfl (any_of HT_.out (by kernel_rfl)) (fun _ _ _ h => h) (Or.inl ⟨by rfl, ?_⟩) ?_ ?_
        rotate_left
        · intro w'
          go_simp
          with_reducible rfl
        rotate_left
        · simp only [Act.put, List.setIfInBounds_toArray, List.set_cons_zero, List.set_cons_succ, i64_w, i32_w]
          rfl
        refine pure_ (i := 12) (N := some 39) (v := ?_) (a' := ?_) #[true, true, true, true, true, true, true, true, true, true, true, true, true, false, false, false, false, false, false, false] rfl rfl (any_of HT_.out (by kernel_rfl)) (fun _ _ _ h => h) (Or.inl ⟨by rfl, ?_⟩) ?_ ?_
        rotate_left
        · intro w'
          go_simp
          with_reducible rfl
        rotate_left
        · simp only [Act.put, List.setIfInBounds_toArray, List.set_cons_zero, List.set_cons_succ, i64_w, i32_w]
          rfl
        refine pure_ (i := 13) (N := some 40) (v := ?_) (a' := ?_) #[true, true, true, true, true, true, true, true, true, true, true, true, true, true, false, false, false, false, false, false] rfl rfl (any_of HT_.out (by kernel_rfl)) (fun _ _ _ h => h) (Or.inl ⟨by rfl, ?_⟩) ?_ ?_
        rotate_left
        · intro w'
          go_simp
          with_reducible rfl
        rotate_left
        · simp only [Act.put, List.setIfInBounds_toArray, List.set_cons_zero, List.set_cons_succ, i64_w, i32_w]
          rfl
        refine take_ (i := 14) (N := some 41) (v := ?_) (a' := ?_) #[true, true, true, true, true, true, true, true, true, true, true, true, true, true, true, false, false, false, false, false] rfl rfl (take_ofW HT_.out HW_.out (by kernel_rfl)) (fun _ _ _ h => h) (Or.inl ⟨by rfl, ?_⟩) hHeld ?_ ?_
        rotate_left
        · rintro w' ⟨s0, s1, s2, s3, s4, s5, s6, s7, s8, s9⟩
          go_simp
          with_reducible rfl
        rotate_left
        · simp only [Act.put, List.setIfInBounds_toArray, List.set_cons_zero, List.set_cons_succ, i64_w, i32_w]
          rfl
        refine pure_ (i := 15) (N := some 42) (v := ?_) (a' := ?_) #[true, true, true, true, true, true, true, true, true, true, true, true, true, true, true, true, false, false, false, false] rfl rfl (any_of HT_.out (by kernel_rfl)) (fun _ _ _ h => h) (Or.inl ⟨by rfl, ?_⟩) ?_ ?_
        rotate_left
        · intro w'
          go_simp
          with_reducible rfl
        rotate_left
        · simp only [Act.put, List.setIfInBounds_toArray, List.set_cons_zero, List.set_cons_succ, i64_w, i32_w]
          rfl
        refine pure_ (i := 16) (N := some 43) (v := ?_) (a' := ?_) #[true, true, true, true, true, true, true, true, true, true, true, true, true, true, true, true, true, false, false, false] rfl rfl (any_of HT_.out (by kernel_rfl)) (fun _ _ _ h => h) (Or.inl ⟨by rfl, ?_⟩) ?_ ?_
        rotate_left
        · intro w'
          go_simp
          with_reducible rfl
        rotate_left
        · simp only [Act.put, List.setIfInBounds_toArray, List.set_cons_zero, List.set_cons_succ, i64_w, i32_w]
          rfl
        refine take_ (i := 17) (N := some 44) (v := ?_) (a' := ?_) #[true, true, true, true, true, true, true, true, true, true, true, true, true, true, true, true, true, true, false, false] rfl rfl (take_ofW HT_.out HW_.out (by kernel_rfl)) (fun _ _ _ h => h) (Or.inl ⟨by rfl, ?_⟩) hHeld ?_ ?_
        rotate_left
        · rintro w' ⟨s0, s1, s2, s3, s4, s5, s6, s7, s8, s9⟩
          go_simp
          with_reducible rfl
        rotate_left
        · simp only [Act.put, List.setIfInBounds_toArray, List.set_cons_zero, List.set_cons_succ, i64_w, i32_w]
          rfl
        refine one_ (i := 18) (N := some 45) #[true, true, true, true, true, true, true, true, true, true, true, true, true, true, true, true, true, true, true, false] rfl rfl (one_of HT_.out (by kernel_rfl)) (by decide) (fun K hK => ?_)
        refine goes_ Try.func54 (by kernel_rfl) rfl #[.agg #[.int .i64 (runT i), .int .i64 (secT i), .bool false, .slice (h.cl i) 0 (h.cc i)], .agg #[.int .i64 (runT kk), .int .i64 (secT kk), .bool false, .slice (h.cl kk) 0 (h.cc kk)]] (by rfl) rfl rfl (by (try simp only [List.map_toArray, List.map_cons, List.map_nil]); first | done | rfl) ?_
        refine (clash_no _ _ _ _ _ _ _ _ _).mono ?_
        rintro e w2 ⟨rfl, hb⟩
        refine ⟨_, rfl, ?_⟩
        clear zb zp i0 i1 i2 i3 k0 k1 k2 k3
        have BD2 := Aside0.mk (below_then BD.out BD.out.size hb)
        have XD2 := Aside0.mk ((hb.block _ (blk_lt XD.out)).trans XD.out)
        obtain ⟨i0, i1, i2, i3⟩ := TK.out _ BD2.out i hi
        obtain ⟨k0, k1, k2, k3⟩ := TK.out _ BD2.out kk hlt
        refine hK.out _ _ ⟨(blk_cell XD2.out 0).trans rfl, (BD2.out.cell (p := ⟨h.P, 0, none⟩) HP.out).trans Q0.out, i0, i1, i2, i3, k0, k1, k2, k3⟩ (fun hHeld => ?_)
        clear hK K
        refine norm_ (a' := ?_) ?_ ?_
        rotate_left
        · show Act.put _ (some 45) _ = _
          simp only [Act.put, List.setIfInBounds_toArray, List.set_cons_zero, List.set_cons_succ, i64_w, i32_w]
          rfl
        refine pure_ (i := 19) (N := some 46) (v := ?_) (a' := ?_) #[true, true, true, true, true, true, true, true, true, true, true, true, true, true, true, true, true, true, true, true] rfl rfl (any_of HT_.out (by kernel_rfl)) (fun _ _ _ h => h) (Or.inl ⟨by rfl, ?_⟩) ?_ ?_
        rotate_left
        · intro w'
          go_simp
          with_reducible rfl
        rotate_left
        · simp only [Act.put, List.setIfInBounds_toArray, List.set_cons_zero, List.set_cons_succ, i64_w, i32_w]
          rfl
        refine done_ (done_of HT_.out (by kernel_rfl)) ?_
        clear HT_ HW_
        clear hHeld i0 i1 i2 i3 k0 k1 k2 k3 hb
        go_wp2_with (fail)
        go_roundg (2 - (kk + 1))
        case measure => omega
        case rel => exact ⟨kk + 1, by omega, by omega, rfl, by go_num, BD2⟩
    · have d1 : decide (kk < 2) = false := decide_eq_false hlt
      have hltz : ¬ (kk : Int) < 2 := by omega
      go_wp2_with (fail)
      go_ret
      exact ⟨rfl, BW.out⟩
theorem reps_shifts (W : World) (xs : List S82) : Reps (k82.K W) k82.sz xs (xs.flatMap fun x => [.int .i64 x.f0, .int .i64 x.f1, .int .i64 x.f2, .int .i64 x.f3]) := by
  have hs : k82.sz = 4 := rfl
  rw [hs]
  induction xs with
  | nil => exact ⟨rfl, fun j p h => by simp at h⟩
  | cons x t ih =>
    refine ⟨by have := ih.1; simp at this ⊢; omega, fun j p h => ?_⟩
    cases j with
    | zero =>
      simp at h
      subst h
      simp
      exact k82_mk W x
    | succ j =>
      have := ih.2 j p (by simpa using h)
      rw [Nat.succ_mul]
      simpa using this
theorem search_cut (h : Wh) (a : Apt h) (s : Pl) (left : Nat) (e : Int) (w : World) (x : TP h w s) (hc : cutP e s = true) :
    Calls Try.prog 42 #[.pointer (some ⟨h.P, 0, none⟩), .int .i64 left, .int .i64 e] w fun e' w' => e' = .returned (.tuple #[]) ∧ TP h w' (searchS left e s) ∧ KWq h w w' := by
  have R : Aside0 (searchS left e s = s) := ⟨by cases left <;> simp [searchS, hc]⟩
  have X := Aside0.mk x
  have hc' := hc
  unfold cutP at hc'
  rw [Bool.and_eq_true] at hc'
  obtain ⟨c1, c2⟩ := hc'
  have hu72 := Try.underlying72
  have hu47 := Try.underlying47
  obtain ⟨vb, hb, -, q0, q1, q2, q3, q4, q5⟩ := x.cells
  obtain ⟨ao, n, c, rfl, hs⟩ := hb.some_
  rw [c1] at hs
  clear x hb c1 hc
  go_enter Try.func42, Try.ntmps42
  go_wp2_with (fail)
  refine bodyPost_ret (results_none rfl _ _ _) rfl ?_
  exact ⟨rfl, by rw [R.out]; exact X.out, KQ.refl _ _ _ _⟩
set_option maxHeartbeats 16000000 in
set_option maxRecDepth 100000 in
theorem search_leaf (h : Wh) (a : Apt h) (hN : ∀ w s, TP h w s → h.N ≤ w.heap.size) (s : Pl) (e : Int) (w : World) (x : TP h w s) (hc : cutP e s = false) :
    Calls Try.prog 42 #[.pointer (some ⟨h.P, 0, none⟩), .int .i64 0, .int .i64 e] w fun e' w' => e' = .returned (.tuple #[]) ∧ TP h w' (searchS 0 e s) ∧ KWq h w w' := by
  have R : Aside0 (searchS 0 e s = { s with b := some [s.pl 0, s.pl 1], en := e }) := ⟨by simp [searchS, hc]⟩
  have X := Aside0.mk x
  have hc1 : (s.b.isSome && decide (s.en ≤ e)) = false := hc
  have hu72 := Try.underlying72
  have hu47 := Try.underlying47
  obtain ⟨vb, hb, hbx, q0, q1, q2, q3, q4, q5⟩ := x.cells
  obtain ⟨ao, n, c, rfl, hs⟩ := hb.some_
  have hPw := blk_lt hbx
  have hFw := blk_lt x.free
  have hQw := blk_lt x.plan
  have HBX := Aside0.mk hbx
  have CLN : Aside0 (Calls Try.prog 51 #[.slice (some ⟨h.Q, 0, none⟩) 2 2] w fun e w' => ∃ v0_ : Value, e = .returned v0_ ∧ Kd.R k82 82 w' w.heap.size (fun _ => True) v0_ [s.pl 0, s.pl 1] ∧ Below w.heap.size w w') := ⟨by
    have hC : Kd.C k82 w (some ⟨h.Q, 0, none⟩) [s.pl 0, s.pl 1].length [s.pl 0, s.pl 1] := C_block k82 (W := w) (g := h.Q) (e := 82) (cs := [s.pl 0, s.pl 1].flatMap fun (y : S82) => [Value.int .i64 y.f0, Value.int .i64 y.f1, Value.int .i64 y.f2, Value.int .i64 y.f3]) (xs := [s.pl 0, s.pl 1]) x.plan (by simp) (reps_shifts w _)
    exact cloneS_calls (some ⟨h.Q, 0, none⟩) 2 [s.pl 0, s.pl 1] w hC (by simp) (by simp)⟩
  clear x hb hbx hc
  rw [← hs] at hc1
  have FIN : Aside0 (∀ w1 v, Kd.R k82 82 w1 w.heap.size (fun _ => True) v [s.pl 0, s.pl 1] → Below w.heap.size w w1 → TP h ((w1.setCell ⟨h.P, 4, none⟩ v).setCell ⟨h.P, 5, none⟩ (.int .i64 e)) { s with b := some [s.pl 0, s.pl 1], en := e } ∧ KWq h w ((w1.setCell ⟨h.P, 4, none⟩ v).setCell ⟨h.P, 5, none⟩ (.int .i64 e))) := ⟨fun w1 v hR hB => by
    have X1 := X.out.move a (KQ.below hB) (hB.block _ hPw) (hB.block _ hFw) (hB.block _ hQw)
    have k1 : KWq h w1 ((w1.setCell ⟨h.P, 4, none⟩ v).setCell ⟨h.P, 5, none⟩ (.int .i64 e)) := ((KQ.refl h.P h.F h.Q w1).setP _ _).setP _ _
    have R1 : Kd.R k82 82 w1 h.N (fun k => k ≠ h.P ∧ k ≠ h.F ∧ k ≠ h.Q) v [s.pl 0, s.pl 1] := Kd.R_lower (Kd.R_mono (Kd.R_bound hR) (fun k hk => by have := hk.2.1; exact ⟨by omega, by omega, by omega⟩)) (hN w s X.out)
    have R2 := Kd.R_step R1 (w1 := (w1.setCell ⟨h.P, 4, none⟩ v).setCell ⟨h.P, 5, none⟩ (.int .i64 e)) (fun i ho hlt => k1.block i hlt ho.1 ho.2.1 ho.2.2)
    obtain ⟨vb1, hb1, -⟩ := X1.box
    have e2 : ∀ b, b ≠ h.P → ((w1.setCell ⟨h.P, 4, none⟩ v).setCell ⟨h.P, 5, none⟩ (.int .i64 e)).heap[b]? = w1.heap[b]? := fun b hb => by rw [Below.heap_setCell _ ⟨h.P, 5, none⟩ _ b hb, Below.heap_setCell _ ⟨h.P, 4, none⟩ _ b hb]
    have c : ∀ p : Addr, p.block = h.ad.block → ((w1.setCell ⟨h.P, 4, none⟩ v).setCell ⟨h.P, 5, none⟩ (.int .i64 e)).cell? p = w1.cell? p := fun p e => KQ.cell k1 (by rw [e]; exact X1.al) (by rw [e]; exact a.ap) (by rw [e]; exact a.af) (by rw [e]; exact a.aq)
    refine ⟨⟨⟨v, ?_, rfl, R2⟩, (e2 h.F (fun q => a.pf q.symm)).trans X1.free, (e2 h.Q (fun q => a.pq q.symm)).trans X1.plan, fun j hj => ?_, Nat.lt_of_lt_of_le X1.al k1.size⟩, (KQ.below hB).trans k1⟩
    · rw [blk_set (blk_set hb1 _ _) _ _]
      rfl
    · obtain ⟨t0, t1, t2, t3⟩ := X1.task j hj
      exact ⟨(c (h.ad.add (j * 4)) (add_block_ h.ad (j * 4))).trans t0, (c ⟨(h.ad.add (j * 4)).block, (h.ad.add (j * 4)).off + 1, none⟩ (add_block_ h.ad (j * 4))).trans t1, (c ⟨(h.ad.add (j * 4)).block, (h.ad.add (j * 4)).off + 2, none⟩ (add_block_ h.ad (j * 4))).trans t2, (c ⟨(h.ad.add (j * 4)).block, (h.ad.add (j * 4)).off + 3, none⟩ (add_block_ h.ad (j * 4))).trans t3⟩⟩
  have hcs : (∃ ad, ao = some ad ∧ decide (s.en ≤ e) = false) ∨ ao = none := by
    cases ao with
    | none => exact .inr rfl
    | some ad => exact .inl ⟨ad, rfl, by simpa using hc1⟩
  clear hc1 hs
  rcases hcs with ⟨ad, rfl, c2⟩ | rfl
  all_goals
    go_enter Try.func42, Try.ntmps42
    go_wp2_with (go_at_call 51; refine CLN.out.mono ?_; rintro e' w1 ⟨v0, rfl, hR1, hb1⟩; have r4 := (hb1.cell (p := ⟨h.P, 4, none⟩) hPw).trans q4; have r5 := (hb1.cell (p := ⟨h.P, 5, none⟩) hPw).trans q5; have g4 := blk_frozen ((hb1.block h.P hPw).trans HBX.out) 4; have g5 := blk_frozen ((hb1.block h.P hPw).trans HBX.out) 5; obtain ⟨g, cg, ev, -⟩ := Kd.R_form hR1 (by simp); subst ev; have HR1 := Aside0.mk hR1; have HB1 := Aside0.mk hb1; clear hR1 hb1)
    refine bodyPost_ret (results_none rfl _ _ _) rfl ?_
    have := FIN.out w1 _ HR1.out HB1.out
    exact ⟨rfl, by rw [R.out]; exact this.1, this.2⟩
def SearchOk (h : Wh) (left : Nat) : Prop := ∀ (s : Pl) (e : Int) (w : World), TP h w s → Calls Try.prog 42 #[.pointer (some ⟨h.P, 0, none⟩), .int .i64 left, .int .i64 e] w fun e' w' => e' = .returned (.tuple #[]) ∧ TP h w' (searchS left e s) ∧ KWq h w w'

set_option maxHeartbeats 16000000 in
set_option maxRecDepth 100000 in
theorem search_loop (wh : Wh) (a : Apt wh) (left : Nat) (hl2 : left < 2) (ih : SearchOk wh left) (s : Pl) (e : Int) (w : World) (x : TP wh w s) (hc : cutP e s = false) :
    Calls Try.prog 42 #[.pointer (some ⟨wh.P, 0, none⟩), .int .i64 ((left : Int) + 1), .int .i64 e] w fun e' w' => e' = .returned (.tuple #[]) ∧ TP wh w' (searchS (left + 1) e s) ∧ KWq wh w w' := by
  have R : Aside0 (searchS (left + 1) e s = bodies (searchS left) e s 2) := ⟨by simp [searchS, hc]⟩
  have X := Aside0.mk x
  have hc1 : (s.b.isSome && decide (s.en ≤ e)) = false := hc
  have hu72 := Try.underlying72
  have hu47 := Try.underlying47
  have hu45 := Try.underlying45
  have hu46 := Try.underlying46
  have hu82 := Try.underlying82
  have hu49 := Try.underlying49
  have hu43 := Try.underlying43
  have IH : Aside0 (∀ (s : Pl) (e : Int) (w : World), TP wh w s → Calls Try.prog 42 #[.pointer (some ⟨wh.P, 0, none⟩), .int .i64 left, .int .i64 e] w fun e' w' => e' = .returned (.tuple #[]) ∧ TP wh w' (searchS left e s) ∧ KWq wh w w') := ⟨ih⟩
  have hle : ((left : Int) + 1 == 0) = false := beq_eq_false_iff_ne.2 (by omega)
  obtain ⟨vb, hb, -, q0, q1, q2, q3, q4, q5⟩ := x.cells
  obtain ⟨ao, n, c, rfl, hs⟩ := hb.some_
  clear x hb hc ih
  rw [← hs] at hc1
  have hcs : (∃ ad, ao = some ad ∧ decide (s.en ≤ e) = false) ∨ ao = none := by
    cases ao with
    | none => exact .inr rfl
    | some ad => exact .inl ⟨ad, rfl, by simpa using hc1⟩
  clear hc1 hs
  rcases hcs with ⟨ad, rfl, c2⟩ | rfl
  all_goals
    go_enter Try.func42, Try.ntmps42
    go_wp2_with (fail)
    clear q0 q1 q2 q3 q4 q5
    go_loopg [44] 2 (fun gg s44 wr => ∃ i : Nat, i ≤ 2 ∧ 2 - i ≤ gg ∧ s44 = .int .i64 i ∧ Aside0 (TP wh wr (bodies (searchS left) e s i)) ∧ Aside0 (KWq wh w wr))
    case atStart => exact ⟨0, Nat.zero_le _, by omega, rfl, X, ⟨KQ.refl _ _ _ _⟩⟩
    case round =>
      clear X
      obtain ⟨i, hi2, hgi, rfl, TC, KC⟩ := hrel
      by_cases hi : i < 2
      · have hiz : (i : Int) < 2 := by omega
        have di : decide (i < 2) = true := decide_eq_true hi
        have BS : Aside0 (bodies (searchS left) e s (i + 1) = pbody (searchS left) e i (bodies (searchS left) e s i)) := ⟨rfl⟩
        generalize bodies (searchS left) e s i = s1 at *
        obtain ⟨t0, t1, t2, t3⟩ := TC.out.task i hi
        have XB := Aside0.mk (blk_new wr (.cells #[.int .i64 (runT i), .int .i64 (secT i), .bool false, .slice (wh.cl i) 0 (wh.cc i)] 45))
        have BA := below_alloc (Below.refl wr.heap.size wr) (.cells #[.int .i64 (runT i), .int .i64 (secT i), .bool false, .slice (wh.cl i) 0 (wh.cc i)] 45)
        obtain ⟨vbc, -, hbc, -⟩ := TC.out.cells
        have lP := blk_lt hbc
        have lF := blk_lt TC.out.free
        have lQ := blk_lt TC.out.plan
        have TX := Aside0.mk (TC.out.move a (KQ.below BA) (BA.block _ lP) (BA.block _ lF) (BA.block _ lQ))
        have KX : Aside0 (KWq wh w (wr.alloc (.cells #[.int .i64 (runT i), .int .i64 (secT i), .bool false, .slice (wh.cl i) 0 (wh.cc i)] 45))) := ⟨KC.out.trans (KQ.below BA)⟩
        have XN : Aside0 (wr.heap.size ≠ wh.P ∧ wr.heap.size ≠ wh.F ∧ wr.heap.size ≠ wh.Q ∧ wr.heap.size < (wr.alloc (.cells #[.int .i64 (runT i), .int .i64 (secT i), .bool false, .slice (wh.cl i) 0 (wh.cc i)] 45)).heap.size) := ⟨by omega, by omega, by omega, by simp⟩
        obtain ⟨vbx, -, -, -, x1, -, x3, -, -⟩ := TX.out.cells
        obtain ⟨p0, -⟩ := TX.out.cellQ i hi
        clear BA hbc lP lF lQ
        by_cases hz : (s1.pl i).f0 = 0
        case neg =>
          have hzb : ((s1.pl i).f0 != 0) = true := by simp [hz]
          have hzc : ((s1.pl i).f0 == 0) = false := by simpa using hz
          have NB : Aside0 (pbody (searchS left) e i s1 = s1) := ⟨by unfold pbody; rw [if_neg hz]⟩
          clear XB XN
          go_wp2_with (fail)
          go_roundg (2 - (i + 1))
          case measure => omega
          case rel => exact ⟨i + 1, by omega, by omega, by go_num, ⟨by rw [BS.out, NB.out]; exact TX.out⟩, KX⟩
        have hzb : ((s1.pl i).f0 != 0) = false := by simp [hz]
        have hzc : ((s1.pl i).f0 == 0) = true := by simp [hz]
        have NB : Aside0 (pbody (searchS left) e i s1 = psteps (searchS left) e i s1 2) := ⟨by unfold pbody; rw [if_pos hz]⟩
        go_wp2_with (fail)
        clear t0 t1 t2 t3 p0 x1 x3 hz hzb hzc TC KC
        generalize wr.alloc (.cells #[.int .i64 (runT i), .int .i64 (secT i), .bool false, .slice (wh.cl i) 0 (wh.cc i)] 45) = WX at *
        generalize wr.heap.size = Xb at *
        go_loopg [63] 2 (fun gg s63 wq => ∃ g : Nat, g ≤ 2 ∧ 2 - g ≤ gg ∧ s63 = .int .i64 g ∧ Aside0 (TP wh wq (psteps (searchS left) e i s1 g)) ∧ Aside0 (KWq wh WX wq))
        case atStart => exact ⟨0, Nat.zero_le _, by omega, rfl, TX, ⟨KQ.refl _ _ _ _⟩⟩
        case round =>
          clear TX
          obtain ⟨g, hg2, hgg, rfl, TC, KC⟩ := hrel
          by_cases hg : g < 2
          · have hgz : (g : Int) < 2 := by omega
            have dg : decide (g < 2) = true := decide_eq_true hg
            have PS : Aside0 (psteps (searchS left) e i s1 (g + 1) = pstep (searchS left) e i g (psteps (searchS left) e i s1 g)) := ⟨rfl⟩
            generalize psteps (searchS left) e i s1 g = s2 at *
            have ZC : Aside0 (∀ W, KWq wh WX W → W.cell? ⟨Xb, 0, none⟩ = some (.int .i64 (runT i)) ∧ W.cell? ⟨Xb, 1, none⟩ = some (.int .i64 (secT i)) ∧ W.cell? ⟨Xb, 2, none⟩ = some (.bool false)) := ⟨fun W k =>
              have e : W.heap[Xb]? = _ := (k.block Xb XN.out.2.2.2 XN.out.1 XN.out.2.1 XN.out.2.2.1).trans XB.out
              ⟨(blk_cell e 0).trans rfl, (blk_cell e 1).trans rfl, (blk_cell e 2).trans rfl⟩⟩
            obtain ⟨z0, z1, z2⟩ := ZC.out _ KC.out
            go_wp2_with (fail)
            clear z0 z1 z2
            have TD : Aside0 (TP wh wr.drew s2) := ⟨TC.out.move a (KQ.refl _ _ _ wr).drew rfl rfl rfl⟩
            have KD : Aside0 (KWq wh WX wr.drew) := ⟨KC.out.drew⟩
            obtain ⟨vb1, -, -, -, -, y2, -, -, -⟩ := TD.out.cells
            obtain ⟨yf, -⟩ := TD.out.cellF g hg
            clear TC KC
            refine start_ (n := 13) (S := fun w' => w'.cell? ⟨wh.P, 2, none⟩ = some (.slice (some ⟨wh.F, 0, none⟩) 2 2) ∧ w'.cell? ⟨wh.F, g, none⟩ = some (.int .i64 (s2.fr g))) (ds := []) #[false, false, false, false, false, false, false, false, false, false, false, false, false] (by kernel_rfl) rfl rfl ⟨y2, yf⟩ (fun hHeld => ?_)
            refine with_tabW search_tab11 search_bits11 (fun HT_ HW_ => ?_)
            generalize wr.drew = wd at TD KD y2 yf hHeld ⊢
            clear y2 yf
            refine pure_ (i := 0) (N := some 78) (v := ?_) (a' := ?_) #[true, false, false, false, false, false, false, false, false, false, false, false, false] rfl rfl (any_of HT_.out (by kernel_rfl)) (fun _ _ _ h => h) (Or.inl ⟨by rfl, ?_⟩) ?_ ?_
            rotate_left
            · intro w'
              go_simp
              with_reducible rfl
            rotate_left
            · simp only [Act.put, List.setIfInBounds_toArray, List.set_cons_zero, List.set_cons_succ, i64_w, i32_w]
              rfl
            refine pure_ (i := 1) (N := some 79) (v := ?_) (a' := ?_) #[true, true, false, false, false, false, false, false, false, false, false, false, false] rfl rfl (any_of HT_.out (by kernel_rfl)) (fun _ _ _ h => h) (Or.inl ⟨by rfl, ?_⟩) ?_ ?_
            rotate_left
            · intro w'
              go_simp
              with_reducible rfl
            rotate_left
            · simp only [Act.put, List.setIfInBounds_toArray, List.set_cons_zero, List.set_cons_succ, i64_w, i32_w]
              rfl
            refine pure_ (i := 2) (N := some 80) (v := ?_) (a' := ?_) #[true, true, true, false, false, false, false, false, false, false, false, false, false] rfl rfl (any_of HT_.out (by kernel_rfl)) (fun _ _ _ h => h) (Or.inl ⟨by rfl, ?_⟩) ?_ ?_
            rotate_left
            · intro w'
              go_simp
              with_reducible rfl
            rotate_left
            · simp only [Act.put, List.setIfInBounds_toArray, List.set_cons_zero, List.set_cons_succ, i64_w, i32_w]
              rfl
            refine take_ (i := 3) (N := some 81) (v := ?_) (a' := ?_) #[true, true, true, true, false, false, false, false, false, false, false, false, false] rfl rfl (take_ofW HT_.out HW_.out (by kernel_rfl)) (fun _ _ _ h => h) (Or.inl ⟨by rfl, ?_⟩) hHeld ?_ ?_
            rotate_left
            · rintro w' ⟨s0, s1⟩
              go_simp
              with_reducible rfl
            rotate_left
            · simp only [Act.put, List.setIfInBounds_toArray, List.set_cons_zero, List.set_cons_succ, i64_w, i32_w]
              rfl
            refine pure_ (i := 4) (N := some 82) (v := ?_) (a' := ?_) #[true, true, true, true, true, false, false, false, false, false, false, false, false] rfl rfl (any_of HT_.out (by kernel_rfl)) (fun _ _ _ h => h) (Or.inl ⟨by rfl, ?_⟩) ?_ ?_
            rotate_left
            · intro w'
              go_simp
              with_reducible rfl
            rotate_left
            · simp only [Act.put, List.setIfInBounds_toArray, List.set_cons_zero, List.set_cons_succ, i64_w, i32_w]
              rfl
            refine pure_ (i := 5) (N := some 83) (v := ?_) (a' := ?_) #[true, true, true, true, true, true, false, false, false, false, false, false, false] rfl rfl (any_of HT_.out (by kernel_rfl)) (fun _ _ _ h => h) (Or.inl ⟨by rfl, ?_⟩) ?_ ?_
            rotate_left
            · intro w'
              go_simp
              with_reducible rfl
            rotate_left
            · simp only [Act.put, List.setIfInBounds_toArray, List.set_cons_zero, List.set_cons_succ, i64_w, i32_w]
              rfl
            refine take_ (i := 6) (N := some 84) (v := ?_) (a' := ?_) #[true, true, true, true, true, true, true, false, false, false, false, false, false] rfl rfl (take_ofW HT_.out HW_.out (by kernel_rfl)) (fun _ _ _ h => h) (Or.inl ⟨by rfl, ?_⟩) hHeld ?_ ?_
            rotate_left
            · rintro w' ⟨s0, s1⟩
              go_simp
              with_reducible rfl
            rotate_left
            · simp only [Act.put, List.setIfInBounds_toArray, List.set_cons_zero, List.set_cons_succ, i64_w, i32_w]
              rfl
            refine pure_ (i := 7) (N := some 85) (v := ?_) (a' := ?_) #[true, true, true, true, true, true, true, true, false, false, false, false, false] rfl rfl (any_of HT_.out (by kernel_rfl)) (fun _ _ _ h => h) (Or.inl ⟨by rfl, ?_⟩) ?_ ?_
            rotate_left
            · intro w'
              go_simp
              with_reducible rfl
            rotate_left
            · simp only [Act.put, List.setIfInBounds_toArray, List.set_cons_zero, List.set_cons_succ, i64_w, i32_w]
              rfl
            refine pure_ (i := 8) (N := some 86) (v := ?_) (a' := ?_) #[true, true, true, true, true, true, true, true, true, false, false, false, false] rfl rfl (any_of HT_.out (by kernel_rfl)) (fun _ _ _ h => h) (Or.inl ⟨by rfl, ?_⟩) ?_ ?_
            rotate_left
            · intro w'
              go_simp
              with_reducible rfl
            rotate_left
            · simp only [Act.put, List.setIfInBounds_toArray, List.set_cons_zero, List.set_cons_succ, i64_w, i32_w]
              rfl
            refine pure_ (i := 9) (N := some 87) (v := ?_) (a' := ?_) #[true, true, true, true, true, true, true, true, true, true, false, false, false] rfl rfl (any_of HT_.out (by kernel_rfl)) (fun _ _ _ h => h) (Or.inl ⟨by rfl, ?_⟩) ?_ ?_
            rotate_left
            · intro w'
              go_simp
              with_reducible rfl
            rotate_left
            · simp only [Act.put, List.setIfInBounds_toArray, List.set_cons_zero, List.set_cons_succ, i64_w, i32_w]
              rfl
            refine one_ (i := 10) (N := some 88) #[true, true, true, true, true, true, true, true, true, true, true, false, false] rfl rfl (one_of HT_.out (by kernel_rfl)) (by decide) (fun K hK => ?_)
            refine goes_ Try.func52 (by kernel_rfl) rfl #[.pointer (some ⟨wh.P, 0, none⟩), .int .i64 i, .int .i64 g] (by rfl) rfl rfl (by (try simp only [List.map_toArray, List.map_cons, List.map_nil]); first | done | rfl) ?_
            refine (start_ok wh a s2 i g hi hg _ TD.out).mono ?_
            rintro e' w5 ⟨rfl, hb⟩
            refine ⟨_, rfl, ?_⟩
            obtain ⟨vb2, -, hb2, -⟩ := TD.out.cells
            have T5 := Aside0.mk (TD.out.move a (KQ.below hb) (hb.block _ (blk_lt hb2)) (hb.block _ (blk_lt TD.out.free)) (hb.block _ (blk_lt TD.out.plan)))
            have K5 : Aside0 (KWq wh WX w5) := ⟨KD.out.trans (KQ.below hb)⟩
            clear hb hb2 TD KD
            obtain ⟨vb1, -, -, -, -, y2, -, -, -⟩ := T5.out.cells
            obtain ⟨yf, -⟩ := T5.out.cellF g hg
            refine hK.out _ _ ⟨y2, yf⟩ (fun hHeld => ?_)
            clear hK K
            refine norm_ (a' := ?_) ?_ ?_
            rotate_left
            · show Act.put _ (some 88) _ = _
              simp only [Act.put, List.setIfInBounds_toArray, List.set_cons_zero, List.set_cons_succ, i64_w, i32_w]
              rfl
            refine pure_ (i := 11) (N := some 9) (v := ?_) (a' := ?_) #[true, true, true, true, true, true, true, true, true, true, true, true, false] rfl rfl (any_of HT_.out (by kernel_rfl)) (fun _ _ _ h => h) (Or.inl ⟨by rfl, ?_⟩) ?_ ?_
            rotate_left
            · intro w'
              go_simp
              with_reducible rfl
            rotate_left
            · simp only [Act.put, List.setIfInBounds_toArray, List.set_cons_zero, List.set_cons_succ, i64_w, i32_w]
              rfl
            refine pure_ (i := 12) (N := some 10) (v := ?_) (a' := ?_) #[true, true, true, true, true, true, true, true, true, true, true, true, true] rfl rfl (any_of HT_.out (by kernel_rfl)) (fun _ _ _ h => h) (Or.inl ⟨by rfl, ?_⟩) ?_ ?_
            rotate_left
            · intro w'
              go_simp
              with_reducible rfl
            rotate_left
            · simp only [Act.put, List.setIfInBounds_toArray, List.set_cons_zero, List.set_cons_succ, i64_w, i32_w]
              rfl
            refine done_ (done_of HT_.out (by kernel_rfl)) ?_
            clear HT_ HW_
            clear hHeld y2 yf
            obtain ⟨z0, z1, z2⟩ := ZC.out _ K5.out
            go_wp2_with (fail)
            clear z0 z1 z2
            have TD : Aside0 (TP wh w5.drew s2) := ⟨T5.out.move a (KQ.refl _ _ _ w5).drew rfl rfl rfl⟩
            have KD : Aside0 (KWq wh WX w5.drew) := ⟨K5.out.drew⟩
            obtain ⟨vb1, -, -, -, -, y2, y3, -, -⟩ := TD.out.cells
            obtain ⟨yf, yg⟩ := TD.out.cellF g hg
            obtain ⟨c0_, c1_, c2_, c3_, cf_⟩ := TD.out.cellQ i hi
            have cf0_ := cf_ (i * 4)
            have cf1_ := cf_ (i * 4 + 1)
            have cf2_ := cf_ (i * 4 + 2)
            have cf3_ := cf_ (i * 4 + 3)
            clear cf_
            have nfq := a.fq
            have nqf : wh.Q ≠ wh.F := fun q => a.fq q.symm
            obtain ⟨z0, -⟩ := ZC.out _ KD.out
            refine start_ (n := 22) (S := fun w' => w'.cell? ⟨wh.P, 3, none⟩ = some (.slice (some ⟨wh.Q, 0, none⟩) 2 2) ∧ w'.cell? ⟨wh.P, 2, none⟩ = some (.slice (some ⟨wh.F, 0, none⟩) 2 2) ∧ w'.cell? ⟨Xb, 0, none⟩ = some (.int .i64 (runT i))) (ds := [19, 21]) #[false, false, false, false, false, false, false, false, false, false, false, false, false, false, false, false, false, false, false, false, false, false] (by kernel_rfl) rfl rfl ⟨y3, y2, z0⟩ (fun hHeld => ?_)
            refine with_tabW search_tab13 search_bits13 (fun HT_ HW_ => ?_)
            generalize w5.drew = we at TD KD y2 y3 yf yg c0_ c1_ c2_ c3_ cf0_ cf1_ cf2_ cf3_ z0 hHeld ⊢
            refine pure_ (i := 0) (N := some 93) (v := ?_) (a' := ?_) #[true, false, false, false, false, false, false, false, false, false, false, false, false, false, false, false, false, false, false, false, false, false] rfl rfl (any_of HT_.out (by kernel_rfl)) (fun _ _ _ h => h) (Or.inl ⟨by rfl, ?_⟩) ?_ ?_
            rotate_left
            · intro w'
              go_simp
              with_reducible rfl
            rotate_left
            · simp only [Act.put, List.setIfInBounds_toArray, List.set_cons_zero, List.set_cons_succ, i64_w, i32_w]
              rfl
            refine pure_ (i := 1) (N := some 94) (v := ?_) (a' := ?_) #[true, true, false, false, false, false, false, false, false, false, false, false, false, false, false, false, false, false, false, false, false, false] rfl rfl (any_of HT_.out (by kernel_rfl)) (fun _ _ _ h => h) (Or.inl ⟨by rfl, ?_⟩) ?_ ?_
            rotate_left
            · intro w'
              go_simp
              with_reducible rfl
            rotate_left
            · simp only [Act.put, List.setIfInBounds_toArray, List.set_cons_zero, List.set_cons_succ, i64_w, i32_w]
              rfl
            refine pure_ (i := 2) (N := some 95) (v := ?_) (a' := ?_) #[true, true, true, false, false, false, false, false, false, false, false, false, false, false, false, false, false, false, false, false, false, false] rfl rfl (any_of HT_.out (by kernel_rfl)) (fun _ _ _ h => h) (Or.inl ⟨by rfl, ?_⟩) ?_ ?_
            rotate_left
            · intro w'
              go_simp
              with_reducible rfl
            rotate_left
            · simp only [Act.put, List.setIfInBounds_toArray, List.set_cons_zero, List.set_cons_succ, i64_w, i32_w]
              rfl
            refine take_ (i := 3) (N := some 96) (v := ?_) (a' := ?_) #[true, true, true, true, false, false, false, false, false, false, false, false, false, false, false, false, false, false, false, false, false, false] rfl rfl (take_ofW HT_.out HW_.out (by kernel_rfl)) (fun _ _ _ h => h) (Or.inl ⟨by rfl, ?_⟩) hHeld ?_ ?_
            rotate_left
            · rintro w' ⟨s0, s1, s2⟩
              go_simp
              with_reducible rfl
            rotate_left
            · simp only [Act.put, List.setIfInBounds_toArray, List.set_cons_zero, List.set_cons_succ, i64_w, i32_w]
              rfl
            refine pure_ (i := 4) (N := some 97) (v := ?_) (a' := ?_) #[true, true, true, true, true, false, false, false, false, false, false, false, false, false, false, false, false, false, false, false, false, false] rfl rfl (any_of HT_.out (by kernel_rfl)) (fun _ _ _ h => h) (Or.inl ⟨by rfl, ?_⟩) ?_ ?_
            rotate_left
            · intro w'
              go_simp
              with_reducible rfl
            rotate_left
            · simp only [Act.put, List.setIfInBounds_toArray, List.set_cons_zero, List.set_cons_succ, i64_w, i32_w]
              rfl
            refine pure_ (i := 5) (N := some 98) (v := ?_) (a' := ?_) #[true, true, true, true, true, true, false, false, false, false, false, false, false, false, false, false, false, false, false, false, false, false] rfl rfl (any_of HT_.out (by kernel_rfl)) (fun _ _ _ h => h) (Or.inl ⟨by rfl, ?_⟩) ?_ ?_
            rotate_left
            · intro w'
              go_simp
              with_reducible rfl
            rotate_left
            · simp only [Act.put, List.setIfInBounds_toArray, List.set_cons_zero, List.set_cons_succ, i64_w, i32_w]
              rfl
            refine pure_ (i := 6) (N := some 99) (v := ?_) (a' := ?_) #[true, true, true, true, true, true, true, false, false, false, false, false, false, false, false, false, false, false, false, false, false, false] rfl rfl (any_of HT_.out (by kernel_rfl)) (fun _ _ _ h => h) (Or.inl ⟨by rfl, ?_⟩) ?_ ?_
            rotate_left
            · intro w'
              go_simp
              with_reducible rfl
            rotate_left
            · simp only [Act.put, List.setIfInBounds_toArray, List.set_cons_zero, List.set_cons_succ, i64_w, i32_w]
              rfl
            refine pure_ (i := 7) (N := some 100) (v := ?_) (a' := ?_) #[true, true, true, true, true, true, true, true, false, false, false, false, false, false, false, false, false, false, false, false, false, false] rfl rfl (any_of HT_.out (by kernel_rfl)) (fun _ _ _ h => h) (Or.inl ⟨by rfl, ?_⟩) ?_ ?_
            rotate_left
            · intro w'
              go_simp
              with_reducible rfl
            rotate_left
            · simp only [Act.put, List.setIfInBounds_toArray, List.set_cons_zero, List.set_cons_succ, i64_w, i32_w]
              rfl
            refine take_ (i := 8) (N := some 101) (v := ?_) (a' := ?_) #[true, true, true, true, true, true, true, true, true, false, false, false, false, false, false, false, false, false, false, false, false, false] rfl rfl (take_ofW HT_.out HW_.out (by kernel_rfl)) (fun _ _ _ h => h) (Or.inl ⟨by rfl, ?_⟩) hHeld ?_ ?_
            rotate_left
            · rintro w' ⟨s0, s1, s2⟩
              go_simp
              with_reducible rfl
            rotate_left
            · simp only [Act.put, List.setIfInBounds_toArray, List.set_cons_zero, List.set_cons_succ, i64_w, i32_w]
              rfl
            refine pure_ (i := 9) (N := some 102) (v := ?_) (a' := ?_) #[true, true, true, true, true, true, true, true, true, true, false, false, false, false, false, false, false, false, false, false, false, false] rfl rfl (any_of HT_.out (by kernel_rfl)) (fun _ _ _ h => h) (Or.inl ⟨by rfl, ?_⟩) ?_ ?_
            rotate_left
            · intro w'
              go_simp
              with_reducible rfl
            rotate_left
            · simp only [Act.put, List.setIfInBounds_toArray, List.set_cons_zero, List.set_cons_succ, i64_w, i32_w]
              rfl
            refine pure_ (i := 10) (N := some 103) (v := ?_) (a' := ?_) #[true, true, true, true, true, true, true, true, true, true, true, false, false, false, false, false, false, false, false, false, false, false] rfl rfl (any_of HT_.out (by kernel_rfl)) (fun _ _ _ h => h) (Or.inl ⟨by rfl, ?_⟩) ?_ ?_
            rotate_left
            · intro w'
              go_simp
              with_reducible rfl
            rotate_left
            · simp only [Act.put, List.setIfInBounds_toArray, List.set_cons_zero, List.set_cons_succ, i64_w, i32_w]
              rfl
            refine pure_ (i := 11) (N := some 104) (v := ?_) (a' := ?_) #[true, true, true, true, true, true, true, true, true, true, true, true, false, false, false, false, false, false, false, false, false, false] rfl rfl (any_of HT_.out (by kernel_rfl)) (fun _ _ _ h => h) (Or.inl ⟨by rfl, ?_⟩) ?_ ?_
            rotate_left
            · intro w'
              go_simp
              with_reducible rfl
            rotate_left
            · simp only [Act.put, List.setIfInBounds_toArray, List.set_cons_zero, List.set_cons_succ, i64_w, i32_w]
              rfl
            refine pure_ (i := 12) (N := some 105) (v := ?_) (a' := ?_) #[true, true, true, true, true, true, true, true, true, true, true, true, true, false, false, false, false, false, false, false, false, false] rfl rfl (any_of HT_.out (by kernel_rfl)) (fun _ _ _ h => h) (Or.inl ⟨by rfl, ?_⟩) ?_ ?_
            rotate_left
            · intro w'
              go_simp
              with_reducible rfl
            rotate_left
            · simp only [Act.put, List.setIfInBounds_toArray, List.set_cons_zero, List.set_cons_succ, i64_w, i32_w]
              rfl
            refine take_ (i := 13) (N := some 106) (v := ?_) (a' := ?_) #[true, true, true, true, true, true, true, true, true, true, true, true, true, true, false, false, false, false, false, false, false, false] rfl rfl (take_ofW HT_.out HW_.out (by kernel_rfl)) (fun _ _ _ h => h) (Or.inl ⟨by rfl, ?_⟩) hHeld ?_ ?_
            rotate_left
            · rintro w' ⟨s0, s1, s2⟩
              go_simp
              with_reducible rfl
            rotate_left
            · simp only [Act.put, List.setIfInBounds_toArray, List.set_cons_zero, List.set_cons_succ, i64_w, i32_w]
              rfl
            refine pure_ (i := 14) (N := some 107) (v := ?_) (a' := ?_) #[true, true, true, true, true, true, true, true, true, true, true, true, true, true, true, false, false, false, false, false, false, false] rfl rfl (any_of HT_.out (by kernel_rfl)) (fun _ _ _ h => h) (Or.inl ⟨by rfl, ?_⟩) ?_ ?_
            rotate_left
            · intro w'
              go_simp
              with_reducible rfl
            rotate_left
            · simp only [Act.put, List.setIfInBounds_toArray, List.set_cons_zero, List.set_cons_succ, i64_w, i32_w]
              rfl
            refine pure_ (i := 15) (N := some 108) (v := ?_) (a' := ?_) #[true, true, true, true, true, true, true, true, true, true, true, true, true, true, true, true, false, false, false, false, false, false] rfl rfl (any_of HT_.out (by kernel_rfl)) (fun _ _ _ h => h) (Or.inl ⟨by rfl, ?_⟩) ?_ ?_
            rotate_left
            · intro w'
              go_simp
              with_reducible rfl
            rotate_left
            · simp only [Act.put, List.setIfInBounds_toArray, List.set_cons_zero, List.set_cons_succ, i64_w, i32_w]
              rfl
            refine pure_ (i := 16) (N := some 109) (v := ?_) (a' := ?_) #[true, true, true, true, true, true, true, true, true, true, true, true, true, true, true, true, true, false, false, false, false, false] rfl rfl (any_of HT_.out (by kernel_rfl)) (fun _ _ _ h => h) (Or.inl ⟨by rfl, ?_⟩) ?_ ?_
            rotate_left
            · intro w'
              go_simp
              with_reducible rfl
            rotate_left
            · simp only [Act.put, List.setIfInBounds_toArray, List.set_cons_zero, List.set_cons_succ, i64_w, i32_w]
              rfl
            refine pure_ (i := 17) (N := some 110) (v := ?_) (a' := ?_) #[true, true, true, true, true, true, true, true, true, true, true, true, true, true, true, true, true, true, false, false, false, false] rfl rfl (any_of HT_.out (by kernel_rfl)) (fun _ _ _ h => h) (Or.inl ⟨by rfl, ?_⟩) ?_ ?_
            rotate_left
            · intro w'
              go_simp
              with_reducible rfl
            rotate_left
            · simp only [Act.put, List.setIfInBounds_toArray, List.set_cons_zero, List.set_cons_succ, i64_w, i32_w]
              rfl
            refine pure_ (i := 18) (N := some 111) (v := ?_) (a' := ?_) #[true, true, true, true, true, true, true, true, true, true, true, true, true, true, true, true, true, true, true, false, false, false] rfl rfl (any_of HT_.out (by kernel_rfl)) (fun _ _ _ h => h) (Or.inl ⟨by rfl, ?_⟩) ?_ ?_
            rotate_left
            · intro w'
              go_simp
              with_reducible rfl
            rotate_left
            · simp only [Act.put, List.setIfInBounds_toArray, List.set_cons_zero, List.set_cons_succ, i64_w, i32_w]
              rfl
            refine last_ (i := 19) (N := none) #[true, true, true, true, true, true, true, true, true, true, true, true, true, true, true, true, true, true, true, true, false, false] rfl rfl (one_of HT_.out (by kernel_rfl)) (by decide) (fun K hK => ?_)
            refine skip_ (w1 := ?_) (by rfl) rfl ?_ ?_
            rotate_left
            · go_simp
              rfl
            refine hK.out _ _ ?_
            clear hK K
            refine pure_ (i := 20) (N := some 112) (v := ?_) (a' := ?_) #[true, true, true, true, true, true, true, true, true, true, true, true, true, true, true, true, true, true, true, true, true, false] rfl rfl (any_of HT_.out (by kernel_rfl)) (fun _ _ _ h => h) (Or.inl ⟨by rfl, ?_⟩) ?_ ?_
            rotate_left
            · intro w'
              go_simp
              with_reducible rfl
            rotate_left
            · simp only [Act.put, List.setIfInBounds_toArray, List.set_cons_zero, List.set_cons_succ, i64_w, i32_w]
              rfl
            refine last_ (i := 21) (N := none) #[true, true, true, true, true, true, true, true, true, true, true, true, true, true, true, true, true, true, true, true, true, true] rfl rfl (one_of HT_.out (by kernel_rfl)) (by decide) (fun K hK => ?_)
            refine skip_ (w1 := ?_) (by rfl) rfl ?_ ?_
            rotate_left
            · go_simp
              rfl
            refine hK.out _ _ ?_
            clear hK K
            refine done_ (done_of HT_.out (by kernel_rfl)) ?_
            clear HT_ HW_
            clear hHeld y2 y3 yf yg c0_ c1_ c2_ c3_ cf0_ cf1_ cf2_ cf3_ z0 nfq nqf
            have S1 := TD.out.setQ a i hi ⟨wrap64 ((g : Int) + 1), runT i, s2.fr g, wrap64 (s2.fr g + secT i)⟩
            have S2 := S1.1.setF a g hg (wrap64 (s2.fr g + secT i))
            have T6 : Aside0 (TP wh _ (fwdP i g s2)) := ⟨S2⟩
            have K6 : Aside0 (KWq wh WX _) := ⟨(KD.out.trans S1.2).setF g (.int .i64 (wrap64 (s2.fr g + secT i)))⟩
            clear TD KD S1 S2
            unfold set4 at T6 K6
            dsimp only [z82] at T6 K6
            clear T5 K5
            skip
            generalize ((((World.setCell we ⟨wh.Q, i * 4, none⟩ (.int .i64 (wrap64 ((g : Int) + 1)))).setCell ⟨wh.Q, i * 4 + 1, none⟩ (.int .i64 (runT i))).setCell ⟨wh.Q, i * 4 + 2, none⟩ (.int .i64 (s2.fr g))).setCell ⟨wh.Q, i * 4 + 3, none⟩ (.int .i64 (wrap64 (s2.fr g + secT i)))).setCell ⟨wh.F, g, none⟩ (.int .i64 (wrap64 (s2.fr g + secT i))) = w6 at T6 K6 ⊢
            have hMC : (e < wrap64 (s2.fr g + secT i) ∧ mxP e (wrap64 (s2.fr g + secT i)) = wrap64 (s2.fr g + secT i)) ∨ (¬ e < wrap64 (s2.fr g + secT i) ∧ mxP e (wrap64 (s2.fr g + secT i)) = e) := by
              unfold mxP
              by_cases hh : e < wrap64 (s2.fr g + secT i)
              · exact .inl ⟨hh, if_pos hh⟩
              · exact .inr ⟨hh, if_neg hh⟩
            rcases hMC with ⟨hm, hM⟩ | ⟨hm, hM⟩
            all_goals
              replace hM := Aside0.mk hM
              go_wp2_with (go_at_call 42; refine (IH.out _ _ w6 T6.out).mono ?_; rintro e' w7 ⟨rfl, hT7, hK7⟩; have T7 : Aside0 (TP wh w7 (searchS left (mxP e (wrap64 (s2.fr g + secT i))) (fwdP i g s2))) := ⟨by rw [hM.out]; exact hT7⟩; have K7 : Aside0 (KWq wh WX w7) := ⟨K6.out.trans hK7⟩; clear hT7 hK7)
              clear T6 K6 hm hM
              have PS2 : Aside0 (psteps (searchS left) e i s1 (g + 1) = bckP i g (s2.fr g) (searchS left (mxP e (wrap64 (s2.fr g + secT i))) (fwdP i g s2))) := ⟨PS.out⟩
              generalize searchS left (mxP e (wrap64 (s2.fr g + secT i))) (fwdP i g s2) = s3 at *
              have TD : Aside0 (TP wh w7.drew s3) := ⟨T7.out.move a (KQ.refl _ _ _ w7).drew rfl rfl rfl⟩
              have KD : Aside0 (KWq wh WX w7.drew) := ⟨K7.out.drew⟩
              obtain ⟨vb1, -, -, -, -, y2, y3, -, -⟩ := TD.out.cells
              obtain ⟨yf, yg⟩ := TD.out.cellF g hg
              obtain ⟨c0_, c1_, c2_, c3_, cf_⟩ := TD.out.cellQ i hi
              have cf0_ := cf_ (i * 4)
              have cf1_ := cf_ (i * 4 + 1)
              have cf2_ := cf_ (i * 4 + 2)
              have cf3_ := cf_ (i * 4 + 3)
              clear cf_
              have nfq := a.fq
              have nqf : wh.Q ≠ wh.F := fun q => a.fq q.symm
              refine start_ (n := 16) (S := fun w' => w'.cell? ⟨wh.P, 3, none⟩ = some (.slice (some ⟨wh.Q, 0, none⟩) 2 2) ∧ w'.cell? ⟨wh.P, 2, none⟩ = some (.slice (some ⟨wh.F, 0, none⟩) 2 2)) (ds := [13, 15]) #[false, false, false, false, false, false, false, false, false, false, false, false, false, false, false, false] (by kernel_rfl) rfl rfl ⟨y3, y2⟩ (fun hHeld => ?_)
              refine with_tabW search_tab15 search_bits15 (fun HT_ HW_ => ?_)
              generalize w7.drew = wf at TD KD y2 y3 yf yg c0_ c1_ c2_ c3_ cf0_ cf1_ cf2_ cf3_ hHeld ⊢
              refine pure_ (i := 0) (N := some 120) (v := ?_) (a' := ?_) #[true, false, false, false, false, false, false, false, false, false, false, false, false, false, false, false] rfl rfl (any_of HT_.out (by kernel_rfl)) (fun _ _ _ h => h) (Or.inl ⟨by rfl, ?_⟩) ?_ ?_
              rotate_left
              · intro w'
                go_simp
                with_reducible rfl
              rotate_left
              · simp only [Act.put, List.setIfInBounds_toArray, List.set_cons_zero, List.set_cons_succ, i64_w, i32_w]
                rfl
              refine pure_ (i := 1) (N := some 121) (v := ?_) (a' := ?_) #[true, true, false, false, false, false, false, false, false, false, false, false, false, false, false, false] rfl rfl (any_of HT_.out (by kernel_rfl)) (fun _ _ _ h => h) (Or.inl ⟨by rfl, ?_⟩) ?_ ?_
              rotate_left
              · intro w'
                go_simp
                with_reducible rfl
              rotate_left
              · simp only [Act.put, List.setIfInBounds_toArray, List.set_cons_zero, List.set_cons_succ, i64_w, i32_w]
                rfl
              refine pure_ (i := 2) (N := some 122) (v := ?_) (a' := ?_) #[true, true, true, false, false, false, false, false, false, false, false, false, false, false, false, false] rfl rfl (any_of HT_.out (by kernel_rfl)) (fun _ _ _ h => h) (Or.inl ⟨by rfl, ?_⟩) ?_ ?_
              rotate_left
              · intro w'
                go_simp
                with_reducible rfl
              rotate_left
              · simp only [Act.put, List.setIfInBounds_toArray, List.set_cons_zero, List.set_cons_succ, i64_w, i32_w]
                rfl
              refine take_ (i := 3) (N := some 123) (v := ?_) (a' := ?_) #[true, true, true, true, false, false, false, false, false, false, false, false, false, false, false, false] rfl rfl (take_ofW HT_.out HW_.out (by kernel_rfl)) (fun _ _ _ h => h) (Or.inl ⟨by rfl, ?_⟩) hHeld ?_ ?_
              rotate_left
              · rintro w' ⟨s0, s1⟩
                go_simp
                with_reducible rfl
              rotate_left
              · simp only [Act.put, List.setIfInBounds_toArray, List.set_cons_zero, List.set_cons_succ, i64_w, i32_w]
                rfl
              refine pure_ (i := 4) (N := some 124) (v := ?_) (a' := ?_) #[true, true, true, true, true, false, false, false, false, false, false, false, false, false, false, false] rfl rfl (any_of HT_.out (by kernel_rfl)) (fun _ _ _ h => h) (Or.inl ⟨by rfl, ?_⟩) ?_ ?_
              rotate_left
              · intro w'
                go_simp
                with_reducible rfl
              rotate_left
              · simp only [Act.put, List.setIfInBounds_toArray, List.set_cons_zero, List.set_cons_succ, i64_w, i32_w]
                rfl
              refine pure_ (i := 5) (N := some 125) (v := ?_) (a' := ?_) #[true, true, true, true, true, true, false, false, false, false, false, false, false, false, false, false] rfl rfl (any_of HT_.out (by kernel_rfl)) (fun _ _ _ h => h) (Or.inl ⟨by rfl, ?_⟩) ?_ ?_
              rotate_left
              · intro w'
                go_simp
                with_reducible rfl
              rotate_left
              · simp only [Act.put, List.setIfInBounds_toArray, List.set_cons_zero, List.set_cons_succ, i64_w, i32_w]
                rfl
              refine pure_ (i := 6) (N := some 126) (v := ?_) (a' := ?_) #[true, true, true, true, true, true, true, false, false, false, false, false, false, false, false, false] rfl rfl (any_of HT_.out (by kernel_rfl)) (fun _ _ _ h => h) (Or.inl ⟨by rfl, ?_⟩) ?_ ?_
              rotate_left
              · intro w'
                go_simp
                with_reducible rfl
              rotate_left
              · simp only [Act.put, List.setIfInBounds_toArray, List.set_cons_zero, List.set_cons_succ, i64_w, i32_w]
                rfl
              refine pure_ (i := 7) (N := some 127) (v := ?_) (a' := ?_) #[true, true, true, true, true, true, true, true, false, false, false, false, false, false, false, false] rfl rfl (any_of HT_.out (by kernel_rfl)) (fun _ _ _ h => h) (Or.inl ⟨by rfl, ?_⟩) ?_ ?_
              rotate_left
              · intro w'
                go_simp
                with_reducible rfl
              rotate_left
              · simp only [Act.put, List.setIfInBounds_toArray, List.set_cons_zero, List.set_cons_succ, i64_w, i32_w]
                rfl
              refine take_ (i := 8) (N := some 128) (v := ?_) (a' := ?_) #[true, true, true, true, true, true, true, true, true, false, false, false, false, false, false, false] rfl rfl (take_ofW HT_.out HW_.out (by kernel_rfl)) (fun _ _ _ h => h) (Or.inl ⟨by rfl, ?_⟩) hHeld ?_ ?_
              rotate_left
              · rintro w' ⟨s0, s1⟩
                go_simp
                with_reducible rfl
              rotate_left
              · simp only [Act.put, List.setIfInBounds_toArray, List.set_cons_zero, List.set_cons_succ, i64_w, i32_w]
                rfl
              refine pure_ (i := 9) (N := some 129) (v := ?_) (a' := ?_) #[true, true, true, true, true, true, true, true, true, true, false, false, false, false, false, false] rfl rfl (any_of HT_.out (by kernel_rfl)) (fun _ _ _ h => h) (Or.inl ⟨by rfl, ?_⟩) ?_ ?_
              rotate_left
              · intro w'
                go_simp
                with_reducible rfl
              rotate_left
              · simp only [Act.put, List.setIfInBounds_toArray, List.set_cons_zero, List.set_cons_succ, i64_w, i32_w]
                rfl
              refine pure_ (i := 10) (N := some 130) (v := ?_) (a' := ?_) #[true, true, true, true, true, true, true, true, true, true, true, false, false, false, false, false] rfl rfl (any_of HT_.out (by kernel_rfl)) (fun _ _ _ h => h) (Or.inl ⟨by rfl, ?_⟩) ?_ ?_
              rotate_left
              · intro w'
                go_simp
                with_reducible rfl
              rotate_left
              · simp only [Act.put, List.setIfInBounds_toArray, List.set_cons_zero, List.set_cons_succ, i64_w, i32_w]
                rfl
              refine pure_ (i := 11) (N := some 131) (v := ?_) (a' := ?_) #[true, true, true, true, true, true, true, true, true, true, true, true, false, false, false, false] rfl rfl (any_of HT_.out (by kernel_rfl)) (fun _ _ _ h => h) (Or.inl ⟨by rfl, ?_⟩) ?_ ?_
              rotate_left
              · intro w'
                go_simp
                with_reducible rfl
              rotate_left
              · simp only [Act.put, List.setIfInBounds_toArray, List.set_cons_zero, List.set_cons_succ, i64_w, i32_w]
                rfl
              refine pure_ (i := 12) (N := some 132) (v := ?_) (a' := ?_) #[true, true, true, true, true, true, true, true, true, true, true, true, true, false, false, false] rfl rfl (any_of HT_.out (by kernel_rfl)) (fun _ _ _ h => h) (Or.inl ⟨by rfl, ?_⟩) ?_ ?_
              rotate_left
              · intro w'
                go_simp
                with_reducible rfl
              rotate_left
              · simp only [Act.put, List.setIfInBounds_toArray, List.set_cons_zero, List.set_cons_succ, i64_w, i32_w]
                rfl
              refine last_ (i := 13) (N := none) #[true, true, true, true, true, true, true, true, true, true, true, true, true, true, false, false] rfl rfl (one_of HT_.out (by kernel_rfl)) (by decide) (fun K hK => ?_)
              refine skip_ (w1 := ?_) (by rfl) rfl ?_ ?_
              rotate_left
              · go_simp
                rfl
              refine hK.out _ _ ?_
              clear hK K
              refine pure_ (i := 14) (N := some 133) (v := ?_) (a' := ?_) #[true, true, true, true, true, true, true, true, true, true, true, true, true, true, true, false] rfl rfl (any_of HT_.out (by kernel_rfl)) (fun _ _ _ h => h) (Or.inl ⟨by rfl, ?_⟩) ?_ ?_
              rotate_left
              · intro w'
                go_simp
                with_reducible rfl
              rotate_left
              · simp only [Act.put, List.setIfInBounds_toArray, List.set_cons_zero, List.set_cons_succ, i64_w, i32_w]
                rfl
              refine last_ (i := 15) (N := none) #[true, true, true, true, true, true, true, true, true, true, true, true, true, true, true, true] rfl rfl (one_of HT_.out (by kernel_rfl)) (by decide) (fun K hK => ?_)
              refine skip_ (w1 := ?_) (by rfl) rfl ?_ ?_
              rotate_left
              · go_simp
                rfl
              refine hK.out _ _ ?_
              clear hK K
              refine done_ (done_of HT_.out (by kernel_rfl)) ?_
              clear HT_ HW_
              clear hHeld y2 y3 yf yg c0_ c1_ c2_ c3_ cf0_ cf1_ cf2_ cf3_ nfq nqf
              have S1 := TD.out.setQ a i hi z82
              have S2 := S1.1.setF a g hg (s2.fr g)
              have T8 : Aside0 (TP wh _ (bckP i g (s2.fr g) s3)) := ⟨S2⟩
              have K8 : Aside0 (KWq wh WX _) := ⟨(KD.out.trans S1.2).setF g (.int .i64 (s2.fr g))⟩
              clear TD KD S1 S2
              unfold set4 at T8 K8
              dsimp only [z82] at T8 K8
              clear T7 K7
              generalize ((((World.setCell wf ⟨wh.Q, i * 4, none⟩ (.int .i64 0)).setCell ⟨wh.Q, i * 4 + 1, none⟩ (.int .i64 0)).setCell ⟨wh.Q, i * 4 + 2, none⟩ (.int .i64 0)).setCell ⟨wh.Q, i * 4 + 3, none⟩ (.int .i64 0)).setCell ⟨wh.F, g, none⟩ (.int .i64 (s2.fr g)) = w8 at T8 K8 ⊢
              go_wp2_with (fail)
              go_roundg (2 - (g + 1))
              case measure => omega
              case rel => exact ⟨g + 1, by omega, by omega, by go_num, ⟨by rw [PS2.out]; exact T8.out⟩, K8⟩
          · obtain rfl : g = 2 := by omega
            go_wp2_with (fail)
            go_roundg (2 - (i + 1))
            case measure => omega
            case rel => exact ⟨i + 1, by omega, by omega, by go_num, ⟨by rw [BS.out, NB.out]; exact TC.out⟩, ⟨KX.out.trans KC.out⟩⟩
      · obtain rfl : i = 2 := by omega
        go_wp2_with (fail)
        go_end0
        exact ⟨rfl, by rw [R.out]; exact TC.out, KC.out⟩
theorem search_all (h : Wh) (a : Apt h) (hN : ∀ w s, TP h w s → h.N ≤ w.heap.size) : ∀ left, left ≤ 2 → SearchOk h left
  | 0, _ => fun s e w x => by
    cases hc : cutP e s with
    | true => exact search_cut h a s 0 e w x hc
    | false => exact search_leaf h a hN s e w x hc
  | left + 1, hl => fun s e w x => by
    cases hc : cutP e s with
    | true => exact search_cut h a s (left + 1) e w x hc
    | false =>
      have := search_loop h a left (by omega) (search_all h a hN left (by omega)) s e w x hc
      rw [show (((left + 1 : Nat)) : Int) = (left : Int) + 1 by omega]
      exact this
def best_T3 : Bool × List (List Nat × List Nat) := (true, [([], []), ([], []), ([], []), ([2], [2]), ([3, 3], [3]), ([], []), ([5], [5]), ([6, 6], [6]), ([0, 1, 4, 7], [0, 1, 4, 7]), ([8], [8]), ([9, 0, 1, 2, 3, 4, 5, 6, 7, 8, 9], [9])])
def best_B3 : List Nat := [0, 0, 0, 4, 12, 0, 32, 96, 255, 511, 1023]
theorem best_tab3 : rtab .any (opsOf Try.f26 3) = best_T3 := by kernel_rfl
theorem best_bits3 : waitsOk best_T3.2 best_B3 = true := by kernel_rfl
def s0P : Pl := ⟨fun _ => 0, fun _ => z82, none, 0⟩
theorem mk43 (W : World) : (Instr.makeSlice 43 (.int .i64 2) (.int .i64 2)).run Try.prog W = .ok (.slice (some ⟨W.heap.size, 0, none⟩) 2 2) (W.alloc (.cells (frC fun _ => 0) 3)) := by
  obtain ⟨i0, hi, hz, hs, hb⟩ := info_parts info3
  have := run_make (P := Try.prog) W 43 3 i0 _ Try.underlying43 hi hz .i64 .i64 2 2 (by omega) (by omega) (by rw [hb]; omega) (by omega)
  have e : madeCells (Value.int .i64 0).cells (Int.toNat 2 * 1) = frC fun _ => 0 := by kernel_rfl
  rw [this, hs, e]
  rfl
theorem mk47 (W : World) : (Instr.makeSlice 47 (.int .i64 2) (.int .i64 2)).run Try.prog W = .ok (.slice (some ⟨W.heap.size, 0, none⟩) 2 2) (W.alloc (.cells (plC fun _ => z82) 82)) := by
  obtain ⟨i0, hi, hz, hs, hb⟩ := info_parts info82
  have := run_make (P := Try.prog) W 47 82 i0 _ Try.underlying47 hi hz .i64 .i64 2 2 (by omega) (by omega) (by rw [hb]; omega) (by omega)
  have e : madeCells (Value.agg #[.int .i64 0, .int .i64 0, .int .i64 0, .int .i64 0]).cells (Int.toNat 2 * 4) = plC fun _ => z82 := by kernel_rfl
  rw [this, hs, e]
  rfl
def tasksAre (l0 : List S45) : Prop := l0.length = 2 ∧ ∀ j : Nat, j < 2 → (rd_T45 l0 (j : Int)).f0 = runT j ∧ (rd_T45 l0 (j : Int)).f1 = secT j ∧ (rd_T45 l0 (j : Int)).f2 = false ∧ (rd_T45 l0 (j : Int)).f3 = []
set_option maxHeartbeats 16000000 in
set_option maxRecDepth 100000 in
theorem best_calls (A0 : Option Addr) (c0 : Nat) (l0 : List S45) (A1 : Option Addr) (c1 : Nat) (r : List S82) (w : World) (hr0 : Kd.C k45 w A0 l0.length l0) (ht : tasksAre l0) (hb : (searchS 2 0 s0P).b = some r) :
    Calls Try.prog 26 #[.slice A0 2 c0, .slice A1 2 c1] w fun e w' => ∃ v0_ : Value, e = .returned v0_ ∧ Kd.R k82 82 w' w.heap.size (fun _ => True) v0_ r ∧ Below w.heap.size w w' := by
  have hu72 := Try.underlying72
  have hu46 := Try.underlying46
  have hu49 := Try.underlying49
  have hu43 := Try.underlying43
  have hu47 := Try.underlying47
  have mka := mk43
  have mkb := mk47
  obtain ⟨hl, hts⟩ := ht
  obtain ⟨ad, A30, c30, e0, a0, a1, a2, a3, -, -⟩ := at_T45 hr0 0 (by omega) (by omega)
  obtain ⟨ad', A31, c31, e1, b0, b1, b2, b3, -, -⟩ := at_T45 hr0 1 (by omega) (by omega)
  subst e0
  cases e1
  have h0 := hts 0 (by omega)
  have h1 := hts 1 (by omega)
  have TASK : Aside0 (∀ W, Below w.heap.size w W → ∀ j, j < 2 → W.cell? (ad.add (j * 4)) = some (.int .i64 (runT j)) ∧ W.cell? ⟨(ad.add (j * 4)).block, (ad.add (j * 4)).off + 1, none⟩ = some (.int .i64 (secT j)) ∧ W.cell? ⟨(ad.add (j * 4)).block, (ad.add (j * 4)).off + 2, none⟩ = some (.bool false) ∧ W.cell? ⟨(ad.add (j * 4)).block, (ad.add (j * 4)).off + 3, none⟩ = some (.slice (if j = 0 then A30 else A31) 0 (if j = 0 then c30 else c31))) := ⟨fun W hW j hj => by
    have q : ∀ {p : Addr} {v : Value}, w.cell? p = some v → W.cell? p = some v := fun hp => (hW.cell (World.block_lt_of_cell? w _ hp)).trans hp
    obtain rfl | rfl : j = 0 ∨ j = 1 := by omega
    · have h0' : (rd_T45 l0 0).f0 = runT 0 ∧ (rd_T45 l0 0).f1 = secT 0 ∧ (rd_T45 l0 0).f2 = false ∧ (rd_T45 l0 0).f3 = [] := h0
      rw [h0'.1] at a0; rw [h0'.2.1] at a1; rw [h0'.2.2.1] at a2; rw [h0'.2.2.2] at a3
      exact ⟨q a0, q a1, q a2, q a3⟩
    · have h1' : (rd_T45 l0 1).f0 = runT 1 ∧ (rd_T45 l0 1).f1 = secT 1 ∧ (rd_T45 l0 1).f2 = false ∧ (rd_T45 l0 1).f3 = [] := h1
      rw [h1'.1] at b0; rw [h1'.2.1] at b1; rw [h1'.2.2.1] at b2; rw [h1'.2.2.2] at b3
      exact ⟨q b0, q b1, q b2, q b3⟩⟩
  have HAD := Aside0.mk (show ad.block < w.heap.size by have := World.block_lt_of_cell? w _ a0; rwa [add_block_] at this)
  have HB := Aside0.mk hb
  clear a0 a1 a2 a3 b0 b1 b2 b3 h0 h1 hts hr0 hl hb
  have BW := Aside0.mk (below_drew1 (Below.refl w.heap.size w))
  go_enter Try.func26, Try.ntmps26
  go_wp2_with (fail)
  refine start_ (n := 11) (S := fun _ => True) (ds := []) #[false, false, false, false, false, false, false, false, false, false, false] (by kernel_rfl) rfl rfl trivial (fun hHeld => ?_)
  refine with_tabW best_tab3 best_bits3 (fun HT_ HW_ => ?_)
  have WD : Aside0 (w.heap.size ≤ w.drew.heap.size) := ⟨Nat.le_refl _⟩
  generalize w.drew = wd at BW WD hHeld ⊢
  refine pure_ (i := 0) (N := some 9) (v := ?_) (a' := ?_) #[true, false, false, false, false, false, false, false, false, false, false] rfl rfl (any_of HT_.out (by kernel_rfl)) (fun _ _ _ h => h) (Or.inl ⟨by rfl, ?_⟩) ?_ ?_
  rotate_left
  · intro w'
    go_simp
    with_reducible rfl
  rotate_left
  · simp only [Act.put, List.setIfInBounds_toArray, List.set_cons_zero, List.set_cons_succ, i64_w, i32_w]
    rfl
  refine pure_ (i := 1) (N := some 10) (v := ?_) (a' := ?_) #[true, true, false, false, false, false, false, false, false, false, false] rfl rfl (any_of HT_.out (by kernel_rfl)) (fun _ _ _ h => h) (Or.inl ⟨by rfl, ?_⟩) ?_ ?_
  rotate_left
  · intro w'
    go_simp
    with_reducible rfl
  rotate_left
  · simp only [Act.put, List.setIfInBounds_toArray, List.set_cons_zero, List.set_cons_succ, i64_w, i32_w]
    rfl
  refine pure_ (i := 2) (N := some 11) (v := ?_) (a' := ?_) #[true, true, true, false, false, false, false, false, false, false, false] rfl rfl (any_of HT_.out (by kernel_rfl)) (fun _ _ _ h => h) (Or.inl ⟨by rfl, ?_⟩) ?_ ?_
  rotate_left
  · intro w'
    go_simp
    with_reducible rfl
  rotate_left
  · simp only [Act.put, List.setIfInBounds_toArray, List.set_cons_zero, List.set_cons_succ, i64_w, i32_w]
    rfl
  refine pure_ (i := 3) (N := some 12) (v := ?_) (a' := ?_) #[true, true, true, true, false, false, false, false, false, false, false] rfl rfl (any_of HT_.out (by kernel_rfl)) (fun _ _ _ h => h) (Or.inl ⟨by rfl, ?_⟩) ?_ ?_
  rotate_left
  · intro w'
    go_simp
    with_reducible rfl
  rotate_left
  · simp only [Act.put, List.setIfInBounds_toArray, List.set_cons_zero, List.set_cons_succ, i64_w, i32_w]
    rfl
  refine pure_ (i := 5) (N := some 14) (v := ?_) (a' := ?_) #[true, true, true, true, false, true, false, false, false, false, false] rfl rfl (any_of HT_.out (by kernel_rfl)) (fun _ _ _ h => h) (Or.inl ⟨by rfl, ?_⟩) ?_ ?_
  rotate_left
  · intro w'
    go_simp
    with_reducible rfl
  rotate_left
  · simp only [Act.put, List.setIfInBounds_toArray, List.set_cons_zero, List.set_cons_succ, i64_w, i32_w]
    rfl
  refine pure_ (i := 6) (N := some 15) (v := ?_) (a' := ?_) #[true, true, true, true, false, true, true, false, false, false, false] rfl rfl (any_of HT_.out (by kernel_rfl)) (fun _ _ _ h => h) (Or.inl ⟨by rfl, ?_⟩) ?_ ?_
  rotate_left
  · intro w'
    go_simp
    with_reducible rfl
  rotate_left
  · simp only [Act.put, List.setIfInBounds_toArray, List.set_cons_zero, List.set_cons_succ, i64_w, i32_w]
    rfl
  refine join_ (σ := Nat × Nat) 3 #[true, true, true, true, true, true, true, true, false, false, false] (fun s_ => [(13, .slice (some ⟨s_.1, 0, none⟩) 2 2), (16, .slice (some ⟨s_.2, 0, none⟩) 2 2)]) (fun s_ w' => w'.heap[s_.1]? = some (.cells (frC fun _ => 0) 3 (0, 0)) ∧ w'.heap[s_.2]? = some (.cells (plC fun _ => z82) 82 (0, 0)) ∧ s_.1 ≠ s_.2 ∧ w.heap.size ≤ s_.1 ∧ w.heap.size ≤ s_.2 ∧ Below w.heap.size w w') ?_ ?_
  rotate_left
  · intro hCont
    refine two_ (i := 4) (j := 7) (Ni := some 13) (Nj := some 16) #[true, true, true, true, true, true, true, false, false, false, false] #[true, true, true, true, false, true, true, true, false, false, false] rfl rfl rfl rfl (two_of HT_.out (by kernel_rfl)) (by decide) (by decide) (fun K hK => ?_) (fun K hK => ?_)
    · skip
      refine value_ (v := .slice (some ⟨(wd).heap.size, 0, none⟩) 2 2) (w1 := (wd).alloc (.cells (frC fun _ => 0) 3)) (by rfl) rfl ?_ ?_
      · first | (go_simp; done) | (go_simp; rfl) | (simp [execOp, mka, mkb])
      refine hK.out _ _ trivial (fun hHeld => ?_)
      clear hK K
      refine norm_ (a' := ?_) ?_ ?_
      rotate_left
      · show Act.put _ (some 13) _ = _
        simp only [Act.put, List.setIfInBounds_toArray, List.set_cons_zero, List.set_cons_succ, i64_w, i32_w]
        rfl
      refine one_ (i := 7) (N := some 16) #[true, true, true, true, true, true, true, true, false, false, false] rfl rfl (one_of HT_.out (by kernel_rfl)) (by decide) (fun K hK => ?_)
      refine value_ (v := .slice (some ⟨(wd.alloc (.cells (frC fun _ => 0) 3)).heap.size, 0, none⟩) 2 2) (w1 := (wd.alloc (.cells (frC fun _ => 0) 3)).alloc (.cells (plC fun _ => z82) 82)) (by rfl) rfl ?_ ?_
      · first | (go_simp; done) | (go_simp; rfl) | (simp [execOp, mka, mkb])
      refine hK.out _ _ trivial (fun hHeld => ?_)
      clear hK K
      refine norm_ (a' := ?_) ?_ ?_
      rotate_left
      · show Act.put _ (some 16) _ = _
        simp only [Act.put, List.setIfInBounds_toArray, List.set_cons_zero, List.set_cons_succ, i64_w, i32_w]
        rfl
      exact norm_ (by simp only [putAll, Act.put, List.setIfInBounds_toArray, List.set_cons_zero, List.set_cons_succ]) (hCont ((wd.heap.size, (wd.alloc (.cells (frC fun _ => 0) 3)).heap.size)) _ ⟨blk_alloc (blk_new wd _) _, blk_new _ _, by simp, WD.out, by have := WD.out; simp; omega, below_alloc (below_alloc BW.out _) _⟩)
    · skip
      refine value_ (v := .slice (some ⟨(wd).heap.size, 0, none⟩) 2 2) (w1 := (wd).alloc (.cells (plC fun _ => z82) 82)) (by rfl) rfl ?_ ?_
      · first | (go_simp; done) | (go_simp; rfl) | (simp [execOp, mka, mkb])
      refine hK.out _ _ trivial (fun hHeld => ?_)
      clear hK K
      refine norm_ (a' := ?_) ?_ ?_
      rotate_left
      · show Act.put _ (some 16) _ = _
        simp only [Act.put, List.setIfInBounds_toArray, List.set_cons_zero, List.set_cons_succ, i64_w, i32_w]
        rfl
      refine one_ (i := 4) (N := some 13) #[true, true, true, true, true, true, true, true, false, false, false] rfl rfl (one_of HT_.out (by kernel_rfl)) (by decide) (fun K hK => ?_)
      refine value_ (v := .slice (some ⟨(wd.alloc (.cells (plC fun _ => z82) 82)).heap.size, 0, none⟩) 2 2) (w1 := (wd.alloc (.cells (plC fun _ => z82) 82)).alloc (.cells (frC fun _ => 0) 3)) (by rfl) rfl ?_ ?_
      · first | (go_simp; done) | (go_simp; rfl) | (simp [execOp, mka, mkb])
      refine hK.out _ _ trivial (fun hHeld => ?_)
      clear hK K
      refine norm_ (a' := ?_) ?_ ?_
      rotate_left
      · show Act.put _ (some 13) _ = _
        simp only [Act.put, List.setIfInBounds_toArray, List.set_cons_zero, List.set_cons_succ, i64_w, i32_w]
        rfl
      exact norm_ (by simp only [putAll, Act.put, List.setIfInBounds_toArray, List.set_cons_zero, List.set_cons_succ]) (hCont (((wd.alloc (.cells (plC fun _ => z82) 82)).heap.size, wd.heap.size)) _ ⟨blk_new _ _, blk_alloc (blk_new wd _) _, by simp, by have := WD.out; simp; omega, WD.out, below_alloc (below_alloc BW.out _) _⟩)
  clear hHeld BW WD
  rintro ⟨F, Q⟩ w4 ⟨hF, hQ, hFQ, hNF, hNQ, hB4⟩
  dsimp only at hF hQ hFQ hNF hNQ
  have hHeld : True := trivial
  have HF := Aside0.mk hF
  have HQ := Aside0.mk hQ
  have HFQ := Aside0.mk hFQ
  have HNF := Aside0.mk hNF
  have HNQ := Aside0.mk hNQ
  have HB4 := Aside0.mk hB4
  clear hF hQ hFQ hNF hNQ hB4
  refine norm_ (a' := ?_) ?_ ?_
  rotate_left
  · simp only [putAll, Act.put, List.setIfInBounds_toArray, List.set_cons_zero, List.set_cons_succ]
    rfl
  refine pure_ (i := 8) (N := some 17) (v := ?_) (a' := ?_) #[true, true, true, true, true, true, true, true, true, false, false] rfl rfl (any_of HT_.out (by kernel_rfl)) (fun _ _ _ h => h) (Or.inl ⟨by rfl, ?_⟩) ?_ ?_
  rotate_left
  · intro w'
    go_simp
    with_reducible rfl
  rotate_left
  · simp only [Act.put, List.setIfInBounds_toArray, List.set_cons_zero, List.set_cons_succ, i64_w, i32_w]
    rfl
  refine one_ (i := 9) (N := some 18) #[true, true, true, true, true, true, true, true, true, true, false] rfl rfl (one_of HT_.out (by kernel_rfl)) (by decide) (fun K hK => ?_)
  refine value_ (w1 := ?_) (v := ?_) (by rfl) rfl ?_ ?_
  rotate_left 2
  · go_simp
    constructor
    · rfl
    · rfl
  refine hK.out _ _ trivial (fun hHeld => ?_)
  clear hK K
  refine norm_ (a' := ?_) ?_ ?_
  rotate_left
  · show Act.put _ (some 18) _ = _
    simp only [Act.put, List.setIfInBounds_toArray, List.set_cons_zero, List.set_cons_succ, i64_w, i32_w]
    rfl
  refine pure_ (i := 10) (N := some 5) (v := ?_) (a' := ?_) #[true, true, true, true, true, true, true, true, true, true, true] rfl rfl (any_of HT_.out (by kernel_rfl)) (fun _ _ _ h => h) (Or.inl ⟨by rfl, ?_⟩) ?_ ?_
  rotate_left
  · intro w'
    go_simp
    with_reducible rfl
  rotate_left
  · simp only [Act.put, List.setIfInBounds_toArray, List.set_cons_zero, List.set_cons_succ, i64_w, i32_w]
    rfl
  refine done_ (done_of HT_.out (by kernel_rfl)) ?_
  clear HT_ HW_
  obtain ⟨wh, hwh⟩ : ∃ wh : Wh, wh = ⟨w4.heap.size, F, Q, w.heap.size, ad, c0, A1, c1, fun j => if j = 0 then A30 else A31, fun j => if j = 0 then c30 else c31⟩ := ⟨_, rfl⟩
  have lF := blk_lt HF.out
  have lQ := blk_lt HQ.out
  have hS4 := HB4.out.size
  have APT : Apt wh := by
    subst hwh
    have := HAD.out
    have := HFQ.out
    have := HNF.out
    have := HNQ.out
    exact ⟨by show w4.heap.size ≠ F; omega, by show w4.heap.size ≠ Q; omega, by show F ≠ Q; omega, by show ad.block ≠ w4.heap.size; omega, by show ad.block ≠ F; omega, by show ad.block ≠ Q; omega⟩
  have hN : ∀ W s, TP wh W s → wh.N ≤ W.heap.size := fun W s x => by
    obtain ⟨vb, hx, -⟩ := x.box
    have := blk_lt hx
    subst hwh
    show w.heap.size ≤ _
    have : w4.heap.size < W.heap.size := this
    omega
  have T0 : TP wh (w4.alloc (.cells #[.slice (some ad) 2 c0, .slice A1 2 c1, .slice (some ⟨F, 0, none⟩) 2 2, .slice (some ⟨Q, 0, none⟩) 2 2, .slice none 0 0, .int .i64 0] 72)) s0P := by
    subst hwh
    refine ⟨⟨.slice none 0 0, blk_new w4 _, rfl⟩, blk_alloc HF.out _, blk_alloc HQ.out _, fun j hj => TASK.out _ (below_alloc HB4.out _) j hj, ?_⟩
    have := HAD.out
    show ad.block < _
    simp
    omega
  have SR := Aside0.mk (search_all wh APT hN 2 (Nat.le_refl _) s0P 0 _ T0)
  have FINB : Aside0 (∀ w7, TP wh w7 (searchS 2 0 s0P) → KWq wh (w4.alloc (.cells #[.slice (some ad) 2 c0, .slice A1 2 c1, .slice (some ⟨F, 0, none⟩) 2 2, .slice (some ⟨Q, 0, none⟩) 2 2, .slice none 0 0, .int .i64 0] 72)) w7 → ∃ vb, w7.cell? ⟨w4.heap.size, 4, none⟩ = some vb ∧ Kd.R k82 82 w7 w.heap.size (fun _ => True) vb r ∧ Below w.heap.size w w7) := ⟨fun w7 x k => by
    obtain ⟨vb, hb, -, -, -, -, -, q4, -⟩ := x.cells
    rw [HB.out] at hb
    subst hwh
    refine ⟨vb, q4, Kd.R_mono hb.2 (fun _ _ => trivial), ?_⟩
    have hb4 := below_alloc HB4.out (.cells #[.slice (some ad) 2 c0, .slice A1 2 c1, .slice (some ⟨F, 0, none⟩) 2 2, .slice (some ⟨Q, 0, none⟩) 2 2, .slice none 0 0, .int .i64 0] 72)
    exact hb4.trans (KQ.to_below k hb4.size hS4 HNF.out HNQ.out)⟩
  have hwP : wh.P = w4.heap.size := by subst hwh; rfl
  rw [hwP] at SR
  clear T0 hN APT hwP lF lQ hHeld
  go_wp2_with (go_at_call 42; refine SR.out.mono ?_; rintro e' w7 ⟨rfl, hT7, hK7⟩; obtain ⟨vb, q4, hR, hBb⟩ := FINB.out w7 hT7 hK7; have HR := Aside0.mk hR; have HBB := Aside0.mk hBb; clear hT7 hK7 hR hBb)
  go_ret
  exact ⟨_, rfl, HR.out, HBB.out⟩
def route_Best.f (l0 : List S45) (l1 : List Bool) : Option (List S82) := match l0, l1 with
  | [x, y], [_, _] => if x.f0 = 1 ∧ x.f1 = 10 ∧ x.f2 = false ∧ x.f3 = [] ∧ y.f0 = 2 ∧ y.f1 = 20 ∧ y.f2 = false ∧ y.f3 = [] then (searchS 2 0 s0P).b else none
  | _, _ => none
theorem route_Best.calls (A0 : Option Addr) (c0 : Nat) (l0 : List S45) (A1 : Option Addr) (c1 : Nat) (l1 : List Bool) (r : List S82) (w : World) (hr0 : Kd.C k45 w A0 l0.length l0) (hc0 : l0.length ≤ c0) (hr1 : Kd.C Kd.bool w A1 l1.length l1) (hc1 : l1.length ≤ c1) (h : route_Best.f l0 l1 = some r) :
    Calls Try.prog 26 #[.slice A0 l0.length c0, .slice A1 l1.length c1] w fun e w' => ∃ v0_ : Value, e = .returned v0_ ∧ Kd.R k82 82 w' w.heap.size (fun _ => True) v0_ r ∧ Below w.heap.size w w' := by
  unfold route_Best.f at h
  split at h
  · rename_i x y _ _
    split at h
    · rename_i hc
      obtain ⟨x0, x1, x2, x3, y0, y1, y2, y3⟩ := hc
      refine best_calls A0 c0 [x, y] A1 c1 r w hr0 ⟨rfl, fun j hj => ?_⟩ h
      obtain rfl | rfl : j = 0 ∨ j = 1 := by omega
      · exact ⟨x0, x1, x2, x3⟩
      · exact ⟨y0, y1, y2, y3⟩
    · cases h
  · cases h

end Go.Proofs.Ytedejkhopjhnbaa.P
