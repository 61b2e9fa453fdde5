/- Pure facts on observations: the reference's Right, Last and sums; what the program's own reckon. -/
import Derived.Test.YthndidjhdijpnaaPx4
import Derived.Test.YthndidjhdijpnaaPx14
import Derived.Test.YthndidjhdijpnaaPx5
import Derived.Test.YthndidjhdijpnaaPx16
import Derived.Test.YthndidjhdijpnaaPx7
import Derived.Test.YthndidjhdijpnaaPx8
import Derived.Test.YthndidjhdijpnaaPx9
import Derived.Test.YthndidjhdijpnaaPx18
import Derived.Test.YthndidjhdijpnaaPx20
import Derived.Test.YthndidjhdijpnaaPx17
import Derived.Test.YthndidjhdijpnaaPx29
namespace Go.Proofs.Ythndidjhdijpnaa.Pure
open Go.RowKit Go.Proofs.YthndidjhdijpnaaW.PrintWords Go.Proofs.YthndidjhdijpnaaW.PrintLast Go.Proofs.YthndidjhdijpnaaW.PrintMore Go.Proofs.Ythndidjhdijpnaa.P
set_option linter.unusedVariables false
set_option linter.unusedSimpArgs false

theorem wrap_id {x : Int} (h1 : -9223372036854775808 ≤ x) (h2 : x ≤ 9223372036854775807) : wrap64 x = x := by unfold wrap64; omega
theorem rd_at (l : List S30) (i : Nat) : rd_T30 l (i : Int) = l.getD i z30 := by simp [rd_T30]
theorem getD_eq {α : Type} (l : List α) (z : α) (i : Nat) (h : i < l.length) : l.getD i z = l[i] := by simp [List.getD_eq_getElem?_getD, List.getElem?_eq_getElem h]
theorem drop_take_cons {α : Type} (l : List α) (z : α) (i j : Nat) (h : j < i) (hi : i ≤ l.length) : (l.take i).drop j = l.getD j z :: (l.take i).drop (j + 1) := by
  have hj : j < (l.take i).length := by simp; omega
  rw [List.drop_eq_getElem_cons hj, getD_eq l z j (by omega)]
  simp
def sameP (y q : S30) : Bool := q.f0 == y.f0 && q.f1 == y.f1
theorem seen_eq (l : List S30) (i : Nat) : seenP l i = (l.take i).any (sameP (l.getD i z30)) := by
  unfold seenP
  rw [rd_at, List.any_map]
  rfl
theorem ref_l1 (l : List S30) (hl : l.length ≤ 1000) (i : Nat) (hi : i < l.length) (y : S30) (R : Int) (hR : Ev (fun k => skiarearef12_Right.l0 k l (wrap64 ((i : Int) + 1))) R) :
    ∀ (d j : Nat), j + d = i → Ev (fun k => skiarearef12_Right.l1 k l (i : Int) (j : Int) y.f0 y.f1 y.f2 y.f3 y.f4 y.f5) (if ((l.take i).drop j).any (sameP y) then 7 else R) := by
  intro d
  induction d with
  | zero =>
    intro j hj
    obtain rfl : j = i := by omega
    rw [List.drop_eq_nil_of_le (by simp; omega)]
    exact Ev.step (f := fun k => skiarearef12_Right.l0 k l (wrap64 ((j : Int) + 1))) (fun k => by simp only [skiarearef12_Right.l1]; rw [if_neg (by omega)]) (by simpa using hR)
  | succ d ih =>
    intro j hj
    have hw : wrap64 ((j : Int) + 1) = ((j + 1 : Nat) : Int) := by rw [wrap_id (by omega) (by omega)]; omega
    have hc := drop_take_cons l z30 i j (by omega) (by omega)
    have step : ∀ k, skiarearef12_Right.l1 (k + 1) l (i : Int) (j : Int) y.f0 y.f1 y.f2 y.f3 y.f4 y.f5 = if (l.getD j z30).f0 = y.f0 then (if (l.getD j z30).f1 = y.f1 then some 7 else skiarearef12_Right.l1 k l i ((j + 1 : Nat) : Int) y.f0 y.f1 y.f2 y.f3 y.f4 y.f5) else skiarearef12_Right.l1 k l i ((j + 1 : Nat) : Int) y.f0 y.f1 y.f2 y.f3 y.f4 y.f5 := fun k => by
      simp only [skiarearef12_Right.l1, rd_at, hw]
      rw [if_pos (by omega), if_pos (by omega), if_pos (by omega)]
    refine Ev.step step ?_
    rw [hc]
    simp only [List.any_cons]
    by_cases h1 : (l.getD j z30).f0 = y.f0
    · by_cases h2 : (l.getD j z30).f1 = y.f1
      · simp only [h1, h2, if_true, sameP, beq_self_eq_true, Bool.and_self, Bool.true_or]
        exact Ev.now 7
      · have ht : sameP y (l.getD j z30) = false := by show ((l.getD j z30).f0 == y.f0 && (l.getD j z30).f1 == y.f1) = false; rw [beq_eq_false_iff_ne.2 h2, Bool.and_false]
        simp only [h1, h2, if_true, if_false, ht, Bool.false_or]
        exact ih (j + 1) (by omega)
    · have ht : sameP y (l.getD j z30) = false := by show ((l.getD j z30).f0 == y.f0 && (l.getD j z30).f1 == y.f1) = false; rw [beq_eq_false_iff_ne.2 h1, Bool.false_and]
      simp only [h1, if_false, ht, Bool.false_or]
      exact ih (j + 1) (by omega)
theorem ref_l0 (l : List S30) (hl : l.length ≤ 1000) : ∀ (d i : Nat), i + d = l.length → Ev (fun k => skiarearef12_Right.l0 k l (i : Int)) (rightGo l d i) := by
  intro d
  induction d with
  | zero =>
    intro i hi
    exact Ev.step (f := fun k => some 0) (fun k => by simp only [skiarearef12_Right.l0]; rw [if_neg (by omega)]) (Ev.now 0)
  | succ d ih =>
    intro i hi
    have hw : wrap64 ((i : Int) + 1) = ((i + 1 : Nat) : Int) := by rw [wrap_id (by omega) (by omega)]; omega
    have hn := ih (i + 1) (by omega)
    rw [← hw] at hn
    have hg : rightGo l (d + 1) i = if badP (rd_T30 l (i : Int)) then 2 else if lateP l i then 11 else if seenP l i then 7 else rightGo l d (i + 1) := rfl
    rw [hg, seen_eq, rd_at]
    have hlate : lateP l i = (decide (0 < i) && decide ((l.getD i z30).f1 < (rd_T30 l (wrap64 ((i : Int) - 1))).f1)) := by
      unfold lateP
      rw [rd_at]
      by_cases h0 : 0 < i
      · rw [wrap_id (x := (i : Int) - 1) (by omega) (by omega), show ((i - 1 : Nat) : Int) = (i : Int) - 1 by omega]
      · simp [h0]
    generalize hy : l.getD i z30 = y at *
    have h1 := ref_l1 l hl i (by omega) y _ hn i 0 (by omega)
    rw [List.drop_zero] at h1
    have h2 : Ev (fun k => skiarearef12_Right.j2 k l (i : Int) (lateP l i) y.f0 y.f1 y.f2 y.f3 y.f4 y.f5) (if lateP l i then 11 else if (l.take i).any (sameP y) then 7 else rightGo l d (i + 1)) := by
      cases lateP l i with
      | true => exact Ev.step (f := fun k => some 11) (fun k => by simp only [skiarearef12_Right.j2, if_true]) (Ev.now 11)
      | false => exact Ev.step (f := fun k => skiarearef12_Right.l1 k l (i : Int) 0 y.f0 y.f1 y.f2 y.f3 y.f4 y.f5) (fun k => by simp only [skiarearef12_Right.j2]; rw [if_neg (by simp)]) h1
    have h3 : Ev (fun k => skiarearef12_Right.j1 k l (i : Int) (badP y) y.f0 y.f1 y.f2 y.f3 y.f4 y.f5) (if badP y then 2 else if lateP l i then 11 else if (l.take i).any (sameP y) then 7 else rightGo l d (i + 1)) := by
      cases badP y with
      | true => exact Ev.step (f := fun k => some 2) (fun k => by simp only [skiarearef12_Right.j1, if_true]) (Ev.now 2)
      | false =>
        refine Ev.step (f := fun k => skiarearef12_Right.j2 k l (i : Int) (lateP l i) y.f0 y.f1 y.f2 y.f3 y.f4 y.f5) (fun k => ?_) h2
        simp only [skiarearef12_Right.j1]
        rw [if_neg (by simp), hlate]
        by_cases h0 : 0 < i
        · have hwi : wrap64 ((i : Int) - 1) = (i : Int) - 1 := wrap_id (by omega) (by omega)
          rw [if_pos (by omega), if_pos (by omega), if_pos (by omega)]
          simp [h0]
        · rw [if_neg (by omega)]
          simp [h0]
    refine Ev.step (f := fun k => skiarearef12_Right.j1 k l (i : Int) (badP y) y.f0 y.f1 y.f2 y.f3 y.f4 y.f5) (fun k => ?_) h3
    simp only [skiarearef12_Right.l0, rd_at, hy]
    rw [if_pos (by omega), if_pos (by omega)]
    unfold badP inB
    by_cases c1 : y.f0 < 1
    · rw [if_pos c1]; simp [show ¬ 1 ≤ y.f0 from by omega]
    rw [if_neg c1]
    by_cases c2 : y.f0 > 9999
    · rw [if_pos c2]; simp [show ¬ y.f0 ≤ 9999 from by omega]
    rw [if_neg c2]
    by_cases c3 : y.f1 < 0
    · rw [if_pos c3]; simp [show ¬ 0 ≤ y.f1 from by omega]
    rw [if_neg c3]
    by_cases c4 : y.f1 > 20000000
    · rw [if_pos c4]; simp [show ¬ y.f1 ≤ 20000000 from by omega]
    rw [if_neg c4]
    by_cases c5 : y.f2 < 0
    · rw [if_pos c5]; simp [show ¬ 0 ≤ y.f2 from by omega]
    rw [if_neg c5]
    by_cases c6 : y.f2 > 100000
    · rw [if_pos c6]; simp [show ¬ y.f2 ≤ 100000 from by omega]
    rw [if_neg c6]
    by_cases c7 : y.f3 < -600
    · rw [if_pos c7]; simp [show ¬ -600 ≤ y.f3 from by omega]
    rw [if_neg c7]
    by_cases c8 : y.f3 > 600
    · rw [if_pos c8]; simp [show ¬ y.f3 ≤ 600 from by omega]
    rw [if_neg c8]
    by_cases c9 : y.f4 < 0
    · rw [if_pos c9]; simp [show ¬ 0 ≤ y.f4 from by omega]
    rw [if_neg c9]
    by_cases c10 : y.f4 > 1000
    · rw [if_pos c10]; simp [show ¬ y.f4 ≤ 1000 from by omega]
    rw [if_neg c10]
    by_cases c11 : y.f5 < 0
    · rw [if_pos c11]; simp [show ¬ 0 ≤ y.f5 from by omega]
    rw [if_neg c11]
    have e : (!(decide (1 ≤ y.f0) && decide (y.f0 ≤ 9999)) || !(decide (0 ≤ y.f1) && decide (y.f1 ≤ 20000000)) || !(decide (0 ≤ y.f2) && decide (y.f2 ≤ 100000)) || !(decide (-600 ≤ y.f3) && decide (y.f3 ≤ 600)) || !(decide (0 ≤ y.f4) && decide (y.f4 ≤ 1000)) || !(decide (0 ≤ y.f5) && decide (y.f5 ≤ 2000))) = decide (y.f5 > 2000) := by
      by_cases c12 : y.f5 > 2000
      · simp [show 1 ≤ y.f0 from by omega, show y.f0 ≤ 9999 from by omega, show 0 ≤ y.f1 from by omega, show y.f1 ≤ 20000000 from by omega, show 0 ≤ y.f2 from by omega, show y.f2 ≤ 100000 from by omega, show -600 ≤ y.f3 from by omega, show y.f3 ≤ 600 from by omega, show 0 ≤ y.f4 from by omega, show y.f4 ≤ 1000 from by omega, show 0 ≤ y.f5 from by omega, show ¬ y.f5 ≤ 2000 from by omega, show 2000 < y.f5 from c12]
      · simp [show 1 ≤ y.f0 from by omega, show y.f0 ≤ 9999 from by omega, show 0 ≤ y.f1 from by omega, show y.f1 ≤ 20000000 from by omega, show 0 ≤ y.f2 from by omega, show y.f2 ≤ 100000 from by omega, show -600 ≤ y.f3 from by omega, show y.f3 ≤ 600 from by omega, show 0 ≤ y.f4 from by omega, show y.f4 ≤ 1000 from by omega, show 0 ≤ y.f5 from by omega, show y.f5 ≤ 2000 from by omega, show ¬ 2000 < y.f5 from c12]
    rw [e]
theorem ref_Right (l : List S30) : Ev (fun k => skiarearef12_Right.f k l) (rightP l) := by
  unfold rightP
  by_cases h : 1000 < l.length
  · rw [if_pos h]
    exact Ev.congr (f := fun k => some 4) (fun k => by unfold skiarearef12_Right.f; rw [if_pos (by omega)]) (Ev.now 4)
  · rw [if_neg h]
    have := ref_l0 l (by omega) l.length 0 (by omega)
    exact Ev.congr (fun k => by unfold skiarearef12_Right.f; rw [if_neg (by omega)]; rfl) this
/-! Last -/
theorem ref_Last_l0 (l : List S30) (hl : l.length ≤ 1000) (s t : Int) : ∀ (n : Nat), n ≤ l.length → Ev (fun k => skiarearef12_Last.l0 k l s t ((n : Int) - 1)) (((((l.take n).reverse.find? (hitP s t)).getD z30)).f0, ((((l.take n).reverse.find? (hitP s t)).getD z30)).f1, ((((l.take n).reverse.find? (hitP s t)).getD z30)).f2, ((((l.take n).reverse.find? (hitP s t)).getD z30)).f3, ((((l.take n).reverse.find? (hitP s t)).getD z30)).f4, ((((l.take n).reverse.find? (hitP s t)).getD z30)).f5, ((l.take n).reverse.find? (hitP s t)).isSome)
  | 0, _ => Ev.step (f := fun k => some (0, 0, 0, 0, 0, 0, false)) (fun k => by simp only [skiarearef12_Last.l0]; rw [if_neg (by omega)]) (Ev.now _)
  | n + 1, hn => by
    have ih := ref_Last_l0 l hl s t n (by omega)
    have hlt : n < l.length := by omega
    have hw : wrap64 ((n : Int) - 1) = (n : Int) - 1 := wrap_id (by omega) (by omega)
    rw [List.take_succ_eq_append_getElem hlt, List.reverse_append, List.reverse_singleton, List.singleton_append, ← getD_eq l z30 n hlt]
    have hi : ((n + 1 : Nat) : Int) - 1 = (n : Int) := by omega
    have step : ∀ k, skiarearef12_Last.l0 (k + 1) l s t (((n + 1 : Nat) : Int) - 1) = if (l.getD n z30).f0 = s then (if (l.getD n z30).f1 ≤ t then some ((l.getD n z30).f0, (l.getD n z30).f1, (l.getD n z30).f2, (l.getD n z30).f3, (l.getD n z30).f4, (l.getD n z30).f5, true) else skiarearef12_Last.l0 k l s t ((n : Int) - 1)) else skiarearef12_Last.l0 k l s t ((n : Int) - 1) := fun k => by
      rw [hi]
      simp only [skiarearef12_Last.l0, rd_at, hw]
      rw [if_pos (by omega), if_pos (by omega), if_pos (by omega)]
    refine Ev.step step ?_
    generalize l.getD n z30 = y
    by_cases h1 : y.f0 = s
    · by_cases h2 : y.f1 ≤ t
      · have hh : hitP s t y = true := by simp [hitP, h1, h2]
        simp only [h1, h2, if_true, List.find?_cons, hh]
        rw [← h1]
        exact Ev.now _
      · have hh : hitP s t y = false := by simp [hitP, h2]
        simp only [h1, h2, if_true, if_false, List.find?_cons, hh]
        exact ih
    · have hh : hitP s t y = false := by simp [hitP, h1]
      simp only [h1, if_false, List.find?_cons, hh]
      exact ih
theorem ref_Last (l : List S30) (hl : l.length ≤ 1000) (s t : Int) : Ev (fun k => skiarearef12_Last.f k l s t) ((lastP l s t).1.f0, (lastP l s t).1.f1, (lastP l s t).1.f2, (lastP l s t).1.f3, (lastP l s t).1.f4, (lastP l s t).1.f5, (lastP l s t).2) := by
  have h := ref_Last_l0 l hl s t l.length (Nat.le_refl _)
  rw [List.take_of_length_le (Nat.le_refl _)] at h
  have e : lastP l s t = ((l.reverse.find? (hitP s t)).getD z30, (l.reverse.find? (hitP s t)).isSome) := by
    unfold lastP
    cases l.reverse.find? (hitP s t) <;> rfl
  rw [e]
  refine Ev.congr (fun k => ?_) h
  unfold skiarearef12_Last.f
  rw [wrap_id (by omega) (by omega)]
end Go.Proofs.Ythndidjhdijpnaa.Pure
