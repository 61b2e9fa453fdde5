/- Pure facts on the checks of pipes: the reference comes to the same first error as the program. -/
import Derived.Test.YtfmafpplnpiahaaPx2
import Derived.Test.YtfmafpplnpiahaaPx10
namespace Go.Proofs.Ytfmafpplnpiahaa.Pure
open Go.RowKit Go.Proofs.YtfmafpplnpiahaaW.PrintWords Go.Proofs.YtfmafpplnpiahaaW.PrintLast Go.Proofs.YtfmafpplnpiahaaW.PrintMore Go.Proofs.Ytfmafpplnpiahaa.P
set_option linter.unusedVariables false
set_option linter.unusedSimpArgs false

theorem wrap_id {x : Int} (h1 : -9223372036854775808 ≤ x) (h2 : x ≤ 9223372036854775807) : wrap64 x = x := by unfold wrap64; omega
theorem rd_at (l : List S45) (i : Nat) : rd_T45 l (i : Int) = l.getD i z45 := by simp [rd_T45]
theorem getD_eq {α : Type} (l : List α) (z : α) (i : Nat) (h : i < l.length) : l.getD i z = l[i] := by simp [List.getD_eq_getElem?_getD, List.getElem?_eq_getElem h]
theorem drop_take_cons {α : Type} (l : List α) (z : α) (i j : Nat) (h : j < i) (hi : i ≤ l.length) : (l.take i).drop j = l.getD j z :: (l.take i).drop (j + 1) := by
  have hj : j < (l.take i).length := by simp; omega
  rw [List.drop_eq_getElem_cons hj, getD_eq l z j (by omega)]
  simp

theorem ref_l1 (l : List S45) (hl : l.length ≤ 1000) (i : Nat) (hi : i < l.length) (y : S45) (R : Int) (hR : Ev (fun k => skiarearef40_Right.l0 k l (wrap64 ((i : Int) + 1))) R) :
    ∀ (d j : Nat), j + d = i → ∀ b : Bool, Ev (fun k => skiarearef40_Right.l1 k l (i : Int) b (j : Int) y.f0 y.f1 y.f2 y.f3 y.f4)
      (if ((l.take i).drop j).any (twiceP y) then 7 else if b || ((l.take i).drop j).any (fun q => q.f2 == y.f1) then R else 8) := by
  intro d
  induction d with
  | zero =>
    intro j hj b
    obtain rfl : j = i := by omega
    rw [List.drop_eq_nil_of_le (by simp; omega)]
    cases b with
    | true => exact Ev.step (f := fun k => skiarearef40_Right.l0 k l (wrap64 ((j : Int) + 1))) (fun k => by simp only [skiarearef40_Right.l1]; rw [if_neg (by omega)]; simp) (by simpa using hR)
    | false => exact Ev.step (f := fun k => some 8) (fun k => by simp only [skiarearef40_Right.l1]; rw [if_neg (by omega), if_neg (by simp)]) (by simpa using Ev.now 8)
  | succ d ih =>
    intro j hj b
    have hw : wrap64 ((j : Int) + 1) = ((j + 1 : Nat) : Int) := by rw [wrap_id (by omega) (by omega)]; omega
    have hc := drop_take_cons l z45 i j (by omega) (by omega)
    have step : ∀ k, skiarearef40_Right.l1 (k + 1) l (i : Int) b (j : Int) y.f0 y.f1 y.f2 y.f3 y.f4 = if ((l.getD j z45).f0) = y.f0 then (some 7) else (if ((l.getD j z45).f2) = y.f2 then (some 7) else (if b = true then (skiarearef40_Right.l1 k l i true ((j + 1 : Nat) : Int) y.f0 y.f1 y.f2 y.f3 y.f4) else (skiarearef40_Right.l1 k l i ((l.getD j z45).f2 == y.f1) ((j + 1 : Nat) : Int) y.f0 y.f1 y.f2 y.f3 y.f4))) := fun k => by
      simp only [skiarearef40_Right.l1, rd_at, hw]
      rw [if_pos (by omega), if_pos (by omega), if_pos (by omega)]
    refine Ev.step step ?_
    rw [hc]
    simp only [List.any_cons]
    by_cases h1 : (l.getD j z45).f0 = y.f0
    · simp only [h1, if_true, twiceP, beq_self_eq_true, Bool.true_or]
      exact Ev.now 7
    · by_cases h2 : (l.getD j z45).f2 = y.f2
      · simp only [h1, h2, if_true, if_false, twiceP, beq_self_eq_true, Bool.true_or, Bool.or_true]
        exact Ev.now 7
      · have ht : twiceP y (l.getD j z45) = false := by simp only [twiceP, Bool.or_eq_false_iff, beq_eq_false_iff_ne]; exact ⟨h1, h2⟩
        simp only [h1, h2, if_false, ht, Bool.false_or]
        cases b with
        | true => simpa using ih (j + 1) (by omega) true
        | false => simpa [Bool.or_assoc] using ih (j + 1) (by omega) ((l.getD j z45).f2 == y.f1)

theorem ref_none (pre : List S45) (p : S45) : noneP pre p = !((p.f1 == 0) || pre.any (fun q => q.f2 == p.f1)) := by
  have h := fidx_any (fun q : S45 => q.f2 == p.f1) pre
  unfold noneP toIdx
  rw [← h]
  by_cases h0 : p.f1 = 0
  · simp [h0]
  · have : (p.f1 == 0) = false := by simp [h0]
    have h1 : (p.f1 != 0) = true := by simp [h0]
    rw [h1, this, Bool.true_and, Bool.false_or]
    rw [Bool.eq_iff_iff]
    simp

theorem ref_l0 (l : List S45) (hl : l.length ≤ 1000) : ∀ (d i : Nat), i + d = l.length → Ev (fun k => skiarearef40_Right.l0 k l (i : Int)) (rightGo (l.take i) (l.drop i)) := by
  intro d
  induction d with
  | zero =>
    intro i hi
    rw [rightGo_end l i (by omega)]
    exact Ev.step (f := fun k => some 0) (fun k => by simp only [skiarearef40_Right.l0]; rw [if_neg (by omega)]) (Ev.now 0)
  | succ d ih =>
    intro i hi
    have hw : wrap64 ((i : Int) + 1) = ((i + 1 : Nat) : Int) := by rw [wrap_id (by omega) (by omega)]; omega
    have hn := ih (i + 1) (by omega)
    rw [← hw] at hn
    rw [rightGo_at l i (by omega)]
    generalize hy : l.getD i z45 = y
    have hj : Ev (fun k => skiarearef40_Right.j1 k l (i : Int) (badP y) y.f0 y.f1 y.f2 y.f3 y.f4) (if badP y then 2 else if (l.take i).any (twiceP y) then 7 else if noneP (l.take i) y then 8 else rightGo (l.take (i + 1)) (l.drop (i + 1))) := by
      cases hb : badP y with
      | true => exact Ev.step (f := fun k => some 2) (fun k => by simp only [skiarearef40_Right.j1, if_true]) (Ev.now 2)
      | false =>
        have h1 := ref_l1 l hl i (by omega) y _ hn i 0 (by omega) (y.f1 == 0)
        refine Ev.step (f := fun k => skiarearef40_Right.l1 k l (i : Int) (y.f1 == 0) 0 y.f0 y.f1 y.f2 y.f3 y.f4) (fun k => by simp only [skiarearef40_Right.j1]; rw [if_neg (by simp)]) ?_
        rw [ref_none]
        rw [List.drop_zero] at h1
        have e : (if !(y.f1 == 0 || (l.take i).any fun q => q.f2 == y.f1) then (8 : Int) else rightGo (l.take (i + 1)) (l.drop (i + 1))) = (if (y.f1 == 0 || (l.take i).any fun q => q.f2 == y.f1) then rightGo (l.take (i + 1)) (l.drop (i + 1)) else 8) := by
          cases (y.f1 == 0 || (l.take i).any fun q => q.f2 == y.f1) <;> rfl
        simp only [Bool.false_eq_true, if_false]
        rw [e]
        exact h1
    refine Ev.step (f := fun k => skiarearef40_Right.j1 k l (i : Int) (badP y) y.f0 y.f1 y.f2 y.f3 y.f4) (fun k => ?_) hj
    simp only [skiarearef40_Right.l0, rd_at, hy]
    rw [if_pos (by omega), if_pos (by omega)]
    unfold badP idB
    by_cases c1 : y.f0 < 1
    · rw [if_pos c1]; simp [show ¬ 1 ≤ y.f0 from by omega]
    · by_cases c2 : y.f0 > 9999
      · rw [if_neg c1, if_pos c2]; simp [show ¬ y.f0 ≤ 9999 from by omega]
      · by_cases c3 : y.f2 < 1
        · rw [if_neg c1, if_neg c2, if_pos c3]; simp [show ¬ 1 ≤ y.f2 from by omega]
        · by_cases c4 : y.f2 > 9999
          · rw [if_neg c1, if_neg c2, if_neg c3, if_pos c4]; simp [show ¬ y.f2 ≤ 9999 from by omega]
          · by_cases c5 : y.f3 < 0
            · rw [if_neg c1, if_neg c2, if_neg c3, if_neg c4, if_pos c5]; simp [c5]
            · by_cases c6 : y.f3 > 100000
              · rw [if_neg c1, if_neg c2, if_neg c3, if_neg c4, if_neg c5, if_pos c6]; simp [show 100000 < y.f3 from c6]
              · by_cases c7 : y.f4 < -100000
                · rw [if_neg c1, if_neg c2, if_neg c3, if_neg c4, if_neg c5, if_neg c6, if_pos c7]; simp [c7]
                · rw [if_neg c1, if_neg c2, if_neg c3, if_neg c4, if_neg c5, if_neg c6, if_neg c7]
                  simp [show 1 ≤ y.f0 from by omega, show y.f0 ≤ 9999 from by omega, show 1 ≤ y.f2 from by omega, show y.f2 ≤ 9999 from by omega, show ¬ y.f3 < 0 from c5, show ¬ 100000 < y.f3 from c6, show ¬ y.f4 < -100000 from c7]

theorem ref_Right (l : List S45) : Ev (fun k => skiarearef40_Right.f k l) (rightP l) := by
  unfold rightP
  by_cases h : 64 < l.length
  · rw [if_pos h]
    exact Ev.congr (f := fun k => some 4) (fun k => by unfold skiarearef40_Right.f; rw [if_pos (by omega)]) (Ev.now 4)
  · rw [if_neg h]
    have := ref_l0 l (by omega) l.length 0 (by omega)
    exact Ev.congr (fun k => by unfold skiarearef40_Right.f; rw [if_neg (by omega)]) (by simpa using this)
end Go.Proofs.Ytfmafpplnpiahaa.Pure
