/- Pure facts on sections: what Right says. -/
import Derived.Test.YtedejkhopjhnbaaPx14
import Derived.Test.YtedejkhopjhnbaaPx19
import Derived.Test.YtedejkhopjhnbaaPx16
import Derived.Test.YtedejkhopjhnbaaPx17
namespace Go.Proofs.Ytedejkhopjhnbaa.Pure
open Go.RowKit Go.Proofs.YtedejkhopjhnbaaW.PrintWords Go.Proofs.YtedejkhopjhnbaaW.PrintLast Go.Proofs.YtedejkhopjhnbaaW.PrintMore Go.Proofs.Ytedejkhopjhnbaa.P
set_option linter.unusedVariables false
set_option linter.unusedSimpArgs false

theorem wrap_id {x : Int} (h1 : -9223372036854775808 ≤ x) (h2 : x ≤ 9223372036854775807) : wrap64 x = x := by unfold wrap64; omega
theorem rd_at (l : List S33) (i : Nat) : rd_T33 l (i : Int) = l.getD i z33 := by simp [rd_T33]
theorem rd_at5 (l : List S35) (i : Nat) : rd_T35 l (i : Int) = l.getD i z35 := by simp [rd_T35]
theorem getD_eq {α : Type} (l : List α) (z : α) (i : Nat) (h : i < l.length) : l.getD i z = l[i] := by simp [List.getD_eq_getElem?_getD, List.getElem?_eq_getElem h]
theorem drop_take_cons {α : Type} (l : List α) (z : α) (i j : Nat) (h : j < i) (hi : i ≤ l.length) : (l.take i).drop j = l.getD j z :: (l.take i).drop (j + 1) := by
  have hj : j < (l.take i).length := by simp; omega
  rw [List.drop_eq_getElem_cons hj, getD_eq l z j (by omega)]
  simp
theorem wrap_succ (j : Nat) (h : j < 9223372036854775807) : wrap64 ((j : Int) + 1) = ((j + 1 : Nat) : Int) := by rw [wrap_id (by omega) (by omega)]; omega
theorem ref_l1 (l : List S33) (hl : l.length ≤ 8) (i : Nat) (hi : i < l.length) (R : Int) (hR : Ev (fun k => skiarearef21_Right.l0 k l (wrap64 ((i : Int) + 1))) R) :
    ∀ (d j : Nat), j + d = i → Ev (fun k => skiarearef21_Right.l1 k l (i : Int) (j : Int)) (if ((l.take i).drop j).any (idP (l.getD i z33).f0) then 7 else R) := by
  intro d
  induction d with
  | zero =>
    intro j hj
    obtain rfl : j = i := by omega
    rw [List.drop_eq_nil_of_le (by simp; omega)]
    exact Ev.step (f := fun k => skiarearef21_Right.l0 k l (wrap64 ((j : Int) + 1))) (fun k => by simp only [skiarearef21_Right.l1]; rw [if_neg (by omega)]) (by simpa using hR)
  | succ d ih =>
    intro j hj
    have hw := wrap_succ j (by omega)
    have hc := drop_take_cons l z33 i j (by omega) (by omega)
    have step : ∀ k, skiarearef21_Right.l1 (k + 1) l (i : Int) (j : Int) = if (l.getD j z33).f0 = (l.getD i z33).f0 then some 7 else skiarearef21_Right.l1 k l i ((j + 1 : Nat) : Int) := fun k => by
      simp only [skiarearef21_Right.l1, rd_at, hw]
      rw [if_pos (by omega), if_pos (by omega), if_pos (by omega), if_pos (by omega), if_pos (by omega)]
    refine Ev.step step ?_
    by_cases h1 : (l.getD j z33).f0 = (l.getD i z33).f0
    · have e : ((l.take i).drop j).any (idP (l.getD i z33).f0) = true := by rw [hc, List.any_cons, show idP (l.getD i z33).f0 (l.getD j z33) = true from beq_iff_eq.2 h1, Bool.true_or]
      simp only [e, h1, if_true]
      exact Ev.now 7
    · have e : ((l.take i).drop j).any (idP (l.getD i z33).f0) = ((l.take i).drop (j + 1)).any (idP (l.getD i z33).f0) := by rw [hc, List.any_cons, show idP (l.getD i z33).f0 (l.getD j z33) = false from beq_eq_false_iff_ne.2 h1, Bool.false_or]
      simp only [e, h1, if_false]
      exact ih (j + 1) (by omega)
theorem ref_l0 (l : List S33) (hl : l.length ≤ 8) : ∀ (d i : Nat), i + d = l.length → Ev (fun k => skiarearef21_Right.l0 k l (i : Int)) (rightGo l d i) := by
  intro d
  induction d with
  | zero =>
    intro i hi
    exact Ev.step (f := fun k => some 0) (fun k => by simp only [skiarearef21_Right.l0]; rw [if_neg (by omega)]) (Ev.now 0)
  | succ d ih =>
    intro i hi
    have hw := wrap_succ i (by omega)
    have hn := ih (i + 1) (by omega)
    rw [← hw] at hn
    have h1 := ref_l1 l hl i (by omega) _ hn i 0 (by omega)
    rw [List.drop_zero] at h1
    have hg : rightGo l (d + 1) i = if secBad (l.getD i z33) then 2 else if (l.take i).any (idP (l.getD i z33).f0) then 7 else rightGo l d (i + 1) := by rw [← rd_at]; rfl
    rw [hg]
    have hj : ∀ b, secBad (l.getD i z33) = b → Ev (fun k => skiarearef21_Right.j1 k l (i : Int) b) (if secBad (l.getD i z33) then 2 else if (l.take i).any (idP (l.getD i z33).f0) then 7 else rightGo l d (i + 1)) := by
      intro b hb
      rw [hb]
      cases b with
      | true => exact Ev.step (f := fun k => some 2) (fun k => by simp only [skiarearef21_Right.j1, if_true]) (Ev.now 2)
      | false => exact Ev.step (f := fun k => skiarearef21_Right.l1 k l (i : Int) 0) (fun k => by simp only [skiarearef21_Right.j1]; rw [if_neg (by simp)]) (by simpa using h1)
    generalize hy : l.getD i z33 = y at *
    have st : ∀ k, skiarearef21_Right.l0 (k + 1) l (i : Int) = if y.f0 < 1 then (skiarearef21_Right.j1 k l i true) else (if y.f0 > 9999 then (skiarearef21_Right.j1 k l i true) else (if y.f1 < 0 then (skiarearef21_Right.j1 k l i true) else (if y.f1 > 1000 then (skiarearef21_Right.j1 k l i true) else (if y.f2 < 1 then (skiarearef21_Right.j1 k l i true) else (skiarearef21_Right.j1 k l i (decide (y.f2 > 86400))))))) := fun k => by
      simp only [skiarearef21_Right.l0, rd_at, hy]
      rw [if_pos (by omega), if_pos (by omega)]
    refine Ev.step st ?_
    by_cases c1 : y.f0 < 1
    · simp only [if_pos c1]; exact hj true (by simp [secBad, c1])
    by_cases c2 : y.f0 > 9999
    · simp only [if_neg c1, if_pos c2]; exact hj true (by simp [secBad, show 9999 < y.f0 from c2])
    by_cases c3 : y.f1 < 0
    · simp only [if_neg c1, if_neg c2, if_pos c3]; exact hj true (by simp [secBad, c3])
    by_cases c4 : y.f1 > 1000
    · simp only [if_neg c1, if_neg c2, if_neg c3, if_pos c4]; exact hj true (by simp [secBad, show 1000 < y.f1 from c4])
    by_cases c5 : y.f2 < 1
    · simp only [if_neg c1, if_neg c2, if_neg c3, if_neg c4, if_pos c5]; exact hj true (by simp [secBad, c5])
    · simp only [if_neg c1, if_neg c2, if_neg c3, if_neg c4, if_neg c5]
      refine hj _ ?_
      simp [secBad, c1, show ¬ 9999 < y.f0 from c2, c3, show ¬ 1000 < y.f1 from c4, c5]
theorem ref_Right (l : List S33) : Ev (fun k => skiarearef21_Right.f k l) (rightP l) := by
  unfold rightP
  by_cases h : 8 < l.length
  · rw [if_pos h]
    exact Ev.congr (f := fun k => some 4) (fun k => by unfold skiarearef21_Right.f; rw [if_pos (by omega)]) (Ev.now 4)
  · rw [if_neg h]
    exact Ev.congr (f := fun k => skiarearef21_Right.l0 k l 0) (fun k => by unfold skiarearef21_Right.f; rw [if_neg (by omega)]) (by simpa using ref_l0 l (by omega) l.length 0 (by omega))
/-- what right sections are -/
structure Good (l : List S33) : Prop where
  len : l.length ≤ 8
  id : ∀ x ∈ l, 1 ≤ x.f0 ∧ x.f0 ≤ 9999
  people : ∀ x ∈ l, 0 ≤ x.f1 ∧ x.f1 ≤ 1000
  secs : ∀ x ∈ l, 1 ≤ x.f2 ∧ x.f2 ≤ 86400
  apart : ∀ i j, i < j → j < l.length → (l.getD i z33).f0 ≠ (l.getD j z33).f0
theorem good_go (l : List S33) : ∀ (d i : Nat), i + d = l.length → rightGo l d i = 0 → ∀ j, i ≤ j → j < l.length → secBad (l.getD j z33) = false ∧ (l.take j).any (idP (l.getD j z33).f0) = false := by
  intro d
  induction d with
  | zero => intro i hi h j h1 h2; omega
  | succ d ih =>
    intro i hi h j h1 h2
    have hg : rightGo l (d + 1) i = if secBad (l.getD i z33) then 2 else if (l.take i).any (idP (l.getD i z33).f0) then 7 else rightGo l d (i + 1) := by rw [← rd_at]; rfl
    rw [hg] at h
    cases b1 : secBad (l.getD i z33) with
    | true => rw [b1] at h; simp at h
    | false =>
      rw [b1] at h
      cases b2 : (l.take i).any (idP (l.getD i z33).f0) with
      | true => rw [b2] at h; simp at h
      | false =>
        rw [b2] at h
        by_cases e : j = i
        · subst e; exact ⟨b1, b2⟩
        · exact ih (i + 1) (by omega) (by simpa using h) j (by omega) h2
theorem good_of {l : List S33} (h : rightP l = 0) : Good l := by
  unfold rightP at h
  by_cases hb : 8 < l.length
  · rw [if_pos hb] at h; cases h
  · rw [if_neg hb] at h
    have hg := good_go l l.length 0 (by omega) h
    have hm : ∀ x ∈ l, secBad x = false := fun x hx => by
      obtain ⟨j, hj, rfl⟩ := List.mem_iff_getElem.1 hx
      have := (hg j (Nat.zero_le _) hj).1
      rwa [getD_eq l z33 j hj] at this
    refine ⟨by omega, fun x hx => ?_, fun x hx => ?_, fun x hx => ?_, fun i j hij hj e => ?_⟩
    · have := hm x hx; simp [secBad] at this; omega
    · have := hm x hx; simp [secBad] at this; omega
    · have := hm x hx; simp [secBad] at this; omega
    · have := (hg j (Nat.zero_le _) hj).2
      rw [List.any_eq_false] at this
      have hi : i < l.length := by omega
      refine this (l.getD i z33) ?_ (beq_iff_eq.2 e)
      rw [getD_eq l z33 i hi]
      exact List.mem_take_iff_getElem.2 ⟨i, by omega, rfl⟩
end Go.Proofs.Ytedejkhopjhnbaa.Pure
