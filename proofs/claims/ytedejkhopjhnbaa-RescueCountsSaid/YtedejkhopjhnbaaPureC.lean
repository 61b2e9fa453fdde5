/- Pure facts on numbers: Left and Bound. -/
import Derived.Test.YtedejkhopjhnbaaPureV
import Derived.Test.YtedejkhopjhnbaaPx31
import Derived.Test.YtedejkhopjhnbaaPx32
import Derived.Test.YtedejkhopjhnbaaPx18
namespace Go.Proofs.Ytedejkhopjhnbaa.Pure
open Go.RowKit Go.Proofs.YtedejkhopjhnbaaW.PrintWords Go.Proofs.YtedejkhopjhnbaaW.PrintLast Go.Proofs.YtedejkhopjhnbaaW.PrintMore Go.Proofs.Ytedejkhopjhnbaa.P
set_option linter.unusedVariables false
set_option linter.unusedSimpArgs false

theorem lref_l1 (l : List S33) (hl : l.length ≤ 8) (js : List S35) (hj40 : js.length ≤ 40) (t n : Int) (i : Nat) (hi : i < l.length) (R : Bool → Int)
    (hT : Ev (fun k => skiarearef21_Left.l0 k l js t n (wrap64 ((i : Int) + 1))) (R true)) (hF : Ev (fun k => skiarearef21_Left.l0 k l js t (wrap64 (n + (l.getD i z33).f1)) (wrap64 ((i : Int) + 1))) (R false)) :
    ∀ (d j : Nat) (b : Bool), j + d = js.length → Ev (fun k => skiarearef21_Left.l1 k l js t n (i : Int) b (j : Int)) (R (b || (js.drop j).any (doneP (l.getD i z33).f0 t))) := by
  intro d
  induction d with
  | zero =>
    intro j b hj
    rw [List.drop_eq_nil_of_le (by omega), List.any_nil, Bool.or_false]
    cases b with
    | true => exact Ev.step (f := fun k => skiarearef21_Left.l0 k l js t n (wrap64 ((i : Int) + 1))) (fun k => by simp only [skiarearef21_Left.l1]; rw [if_neg (by omega), if_pos trivial]) hT
    | false => exact Ev.step (f := fun k => skiarearef21_Left.l0 k l js t (wrap64 (n + (l.getD i z33).f1)) (wrap64 ((i : Int) + 1))) (fun k => by simp only [skiarearef21_Left.l1, rd_at]; rw [if_neg (by omega), if_neg (by simp), if_pos (by omega), if_pos (by omega)]) hF
  | succ d ih =>
    intro j b hj
    have hw := wrap_succ j (by omega)
    have hlt : j < js.length := by omega
    have hdr : js.drop j = js.getD j z35 :: js.drop (j + 1) := by rw [List.drop_eq_getElem_cons hlt, getD_eq js z35 j hlt]
    generalize hy : js.getD j z35 = y at *
    cases b with
    | true =>
      rw [Bool.true_or]
      have := ih (j + 1) true (by omega)
      rw [Bool.true_or] at this
      exact Ev.step (f := fun k => skiarearef21_Left.l1 k l js t n (i : Int) true ((j + 1 : Nat) : Int)) (fun k => by simp only [skiarearef21_Left.l1, hw]; rw [if_pos (by omega), if_pos trivial]) this
    | false =>
      rw [Bool.false_or, hdr, List.any_cons]
      have := ih (j + 1) (doneP (l.getD i z33).f0 t y) (by omega)
      refine Ev.step (f := fun k => skiarearef21_Left.l1 k l js t n (i : Int) (doneP (l.getD i z33).f0 t y) ((j + 1 : Nat) : Int)) (fun k => ?_) this
      simp only [skiarearef21_Left.l1, rd_at, rd_at5, hy, hw]
      rw [if_pos (by omega), if_neg (by simp), if_pos (by omega), if_pos (by omega), if_pos (by omega)]
      by_cases h : y.f1 = (l.getD i z33).f0
      · rw [if_pos h]
        have : doneP (l.getD i z33).f0 t y = decide (y.f3 ≤ t) := by unfold doneP; rw [beq_iff_eq.2 h, Bool.true_and]
        rw [this]
      · rw [if_neg h]
        have : doneP (l.getD i z33).f0 t y = false := by unfold doneP; rw [beq_eq_false_iff_ne.2 h, Bool.false_and]
        rw [this]
theorem lref_l0 (l : List S33) (hl : l.length ≤ 8) (js : List S35) (hj40 : js.length ≤ 40) (t : Int) : ∀ (d i : Nat) (n : Int), i + d = l.length → Ev (fun k => skiarearef21_Left.l0 k l js t n (i : Int)) (leftGo l js t d i n) := by
  intro d
  induction d with
  | zero =>
    intro i n hi
    exact Ev.step (f := fun k => some n) (fun k => by simp only [skiarearef21_Left.l0]; rw [if_neg (by omega)]) (Ev.now n)
  | succ d ih =>
    intro i n hi
    have hw := wrap_succ i (by omega)
    have h1 := lref_l1 l hl js hj40 t n i (by omega) (fun b => leftGo l js t d (i + 1) (if b then n else wrap64 (n + (l.getD i z33).f1))) (by rw [hw]; exact ih (i + 1) _ (by omega)) (by rw [hw]; exact ih (i + 1) _ (by omega)) js.length 0 false (by omega)
    rw [List.drop_zero, Bool.false_or] at h1
    have hg : leftGo l js t (d + 1) i n = leftGo l js t d (i + 1) (if js.any (doneP (l.getD i z33).f0 t) then n else wrap64 (n + (l.getD i z33).f1)) := by rw [← rd_at]; rfl
    rw [hg]
    exact Ev.step (f := fun k => skiarearef21_Left.l1 k l js t n (i : Int) false 0) (fun k => by simp only [skiarearef21_Left.l0]; rw [if_pos (by omega)]) (by simpa using h1)
theorem ref_Left (l : List S33) (hl : l.length ≤ 8) (js : List S35) (hj : js.length ≤ 40) (t : Int) : Ev (fun k => skiarearef21_Left.f k l js t) (leftP l js t) := by
  have := lref_l0 l hl js hj t l.length 0 0 (by omega)
  simpa [skiarearef21_Left.f, leftP] using this
def bGo : List S33 → Int → Int → Int × Int
  | [], most, sum => (most, sum)
  | x :: r, most, sum => bGo r (mx most x.f2) (wrap64 (sum + x.f2))
def bFin (n most sum : Int) : Int := if Int.tmod sum n = 0 then mx most (wrap64 (Int.tdiv sum n)) else mx most (wrap64 (wrap64 (Int.tdiv sum n) + 1))
def boundP (t : List S33) (n : Int) : Int := if n < 1 then 0 else bFin n (bGo t 0 0).1 (bGo t 0 0).2
theorem bprog_l0 (t : List S33) (ht : t.length ≤ 8) (n : Int) (hn : ¬ n < 1) : ∀ (d i : Nat) (most sum : Int), i + d = t.length → Ev (fun k => rescue_Bound.l0 k n most sum t (t.length : Int) (i : Int)) (bFin n (bGo (t.drop i) most sum).1 (bGo (t.drop i) most sum).2) := by
  intro d
  induction d with
  | zero =>
    intro i most sum hi
    rw [List.drop_eq_nil_of_le (by omega)]
    refine Ev.step (f := fun k => some (bFin n most sum)) (fun k => ?_) (Ev.now _)
    simp only [rescue_Bound.l0]
    rw [if_neg (by omega), if_neg (by omega)]
    unfold bFin
    by_cases h : Int.tmod sum n = 0
    · rw [if_pos h, if_pos h]
    · rw [if_neg h, if_neg h]
  | succ d ih =>
    intro i most sum hi
    have hw := wrap_succ i (by omega)
    have hlt : i < t.length := by omega
    have hdr : t.drop i = t.getD i z33 :: t.drop (i + 1) := by rw [List.drop_eq_getElem_cons hlt, getD_eq t z33 i hlt]
    rw [hdr]
    refine Ev.step (f := fun k => rescue_Bound.l0 k n (mx most (t.getD i z33).f2) (wrap64 (sum + (t.getD i z33).f2)) t (t.length : Int) ((i + 1 : Nat) : Int)) (fun k => ?_) (ih (i + 1) _ _ (by omega))
    simp only [rescue_Bound.l0, rd_at, hw]
    rw [if_pos (by omega), if_pos (by omega), if_pos (by omega)]
theorem bref_l0 (t : List S33) (ht : t.length ≤ 8) (n : Int) (hn : ¬ n < 1) : ∀ (d i : Nat) (most sum : Int), i + d = t.length → Ev (fun k => skiarearef21_Bound.l0 k n t sum most (i : Int)) (bFin n (bGo (t.drop i) most sum).1 (bGo (t.drop i) most sum).2) := by
  intro d
  induction d with
  | zero =>
    intro i most sum hi
    rw [List.drop_eq_nil_of_le (by omega)]
    refine Ev.step (f := fun k => some (bFin n most sum)) (fun k => ?_) (Ev.now _)
    simp only [skiarearef21_Bound.l0]
    rw [if_neg (by omega), if_neg (by omega)]
    unfold bFin
    by_cases h : Int.tmod sum n = 0
    · rw [if_pos h, if_pos h]
    · rw [if_neg h, if_neg h]
  | succ d ih =>
    intro i most sum hi
    have hw := wrap_succ i (by omega)
    have hlt : i < t.length := by omega
    have hdr : t.drop i = t.getD i z33 :: t.drop (i + 1) := by rw [List.drop_eq_getElem_cons hlt, getD_eq t z33 i hlt]
    rw [hdr]
    refine Ev.step (f := fun k => skiarearef21_Bound.l0 k n t (wrap64 (sum + (t.getD i z33).f2)) (mx most (t.getD i z33).f2) ((i + 1 : Nat) : Int)) (fun k => ?_) (ih (i + 1) _ _ (by omega))
    simp only [skiarearef21_Bound.l0, rd_at, hw]
    rw [if_pos (by omega), if_pos (by omega)]
theorem prog_Bound (l : List S33) (hl : l.length ≤ 8) (n : Int) : Ev (fun k => rescue_Bound.f k l n) (boundP (td l) n) := by
  unfold boundP
  by_cases h : n < 1
  · rw [if_pos h]
    exact Ev.congr (f := fun k => some 0) (fun k => by unfold rescue_Bound.f; rw [if_pos h]) (Ev.now 0)
  · rw [if_neg h]
    refine Ev.congr (f := fun k => rescue_Bound.l0 k n 0 0 (td l) ((td l).length : Int) 0) (fun k => by unfold rescue_Bound.f; rw [if_neg h, needing_f l hl, Option.bind_some]) ?_
    have := bprog_l0 (td l) (Nat.le_trans (td_len l) hl) n h (td l).length 0 0 0 (by omega)
    simpa using this
theorem ref_Bound (l : List S33) (hl : l.length ≤ 8) (n : Int) : Ev (fun k => skiarearef21_Bound.f k l n) (boundP (td l) n) := by
  unfold boundP
  by_cases h : n < 1
  · rw [if_pos h]
    exact Ev.congr (f := fun k => some 0) (fun k => by unfold skiarearef21_Bound.f; rw [if_pos h]) (Ev.now 0)
  · rw [if_neg h]
    refine Ev.congr (fun k => by unfold skiarearef21_Bound.f; rw [if_neg h]) (Ev.bind (ref_need l hl) ?_)
    have := bref_l0 (td l) (Nat.le_trans (td_len l) hl) n h (td l).length 0 0 0 (by omega)
    simpa using this
end Go.Proofs.Ytedejkhopjhnbaa.Pure
