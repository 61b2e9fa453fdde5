/- Pure facts on sections and plans: Right, Valid, Left, Bound. -/
import Derived.Test.YtedejkhopjhnbaaPx14
import Derived.Test.YtedejkhopjhnbaaPx19
import Derived.Test.YtedejkhopjhnbaaPx16
import Derived.Test.YtedejkhopjhnbaaPx17
import Derived.Test.YtedejkhopjhnbaaPx24
import Derived.Test.YtedejkhopjhnbaaPx28
import Derived.Test.YtedejkhopjhnbaaPx29
import Derived.Test.YtedejkhopjhnbaaPx4
import Derived.Test.YtedejkhopjhnbaaPx31
import Derived.Test.YtedejkhopjhnbaaPx32
import Derived.Test.YtedejkhopjhnbaaPx18
namespace Go.Proofs.Ytedejkhopjhnbaa.Pure
open Go.RowKit Go.Proofs.YtedejkhopjhnbaaW.PrintWords Go.Proofs.YtedejkhopjhnbaaW.PrintLast Go.Proofs.YtedejkhopjhnbaaW.PrintMore Go.Proofs.Ytedejkhopjhnbaa.P
set_option linter.unusedVariables false
set_option linter.unusedSimpArgs false

theorem wrap_id {x : Int} (h1 : -9223372036854775808 ≤ x) (h2 : x ≤ 9223372036854775807) : wrap64 x = x := by unfold wrap64; omega
theorem rd_at (l : List S33) (i : Nat) : rd_T33 l (i : Int) = l.getD i z33 := by simp [rd_T33]
theorem rd_at5 (l : List S35) (i : Nat) : rd_T35 l (i : Int) = l.getD i z35 := by simp [rd_T35]
theorem getD_eq {α : Type} (l : List α) (z : α) (i : Nat) (h : i < l.length) : l.getD i z = l[i] := by simp [List.getD_eq_getElem?_getD, List.getElem?_eq_getElem h]
theorem drop_take_cons {α : Type} (l : List α) (z : α) (i j : Nat) (h : j < i) (hi : i ≤ l.length) : (l.take i).drop j = l.getD j z :: (l.take i).drop (j + 1) := by
  have hj : j < (l.take i).length := by simp; omega
  rw [List.drop_eq_getElem_cons hj, getD_eq l z j (by omega)]
  simp
theorem wrap_succ (j : Nat) (h : j < 9223372036854775807) : wrap64 ((j : Int) + 1) = ((j + 1 : Nat) : Int) := by rw [wrap_id (by omega) (by omega)]; omega
theorem ref_l1 (l : List S33) (hl : l.length ≤ 8) (i : Nat) (hi : i < l.length) (R : Int) (hR : Ev (fun k => skiarearef21_Right.l0 k l (wrap64 ((i : Int) + 1))) R) :
    ∀ (d j : Nat), j + d = i → Ev (fun k => skiarearef21_Right.l1 k l (i : Int) (j : Int)) (if ((l.take i).drop j).any (idP (l.getD i z33).f0) then 7 else R) := by
  intro d
  induction d with
  | zero =>
    intro j hj
    obtain rfl : j = i := by omega
    rw [List.drop_eq_nil_of_le (by simp; omega)]
    exact Ev.step (f := fun k => skiarearef21_Right.l0 k l (wrap64 ((j : Int) + 1))) (fun k => by simp only [skiarearef21_Right.l1]; rw [if_neg (by omega)]) (by simpa using hR)
  | succ d ih =>
    intro j hj
    have hw := wrap_succ j (by omega)
    have hc := drop_take_cons l z33 i j (by omega) (by omega)
    have step : ∀ k, skiarearef21_Right.l1 (k + 1) l (i : Int) (j : Int) = if (l.getD j z33).f0 = (l.getD i z33).f0 then some 7 else skiarearef21_Right.l1 k l i ((j + 1 : Nat) : Int) := fun k => by
      simp only [skiarearef21_Right.l1, rd_at, hw]
      rw [if_pos (by omega), if_pos (by omega), if_pos (by omega), if_pos (by omega), if_pos (by omega)]
    refine Ev.step step ?_
    by_cases h1 : (l.getD j z33).f0 = (l.getD i z33).f0
    · have e : ((l.take i).drop j).any (idP (l.getD i z33).f0) = true := by rw [hc, List.any_cons, show idP (l.getD i z33).f0 (l.getD j z33) = true from beq_iff_eq.2 h1, Bool.true_or]
      simp only [e, h1, if_true]
      exact Ev.now 7
    · have e : ((l.take i).drop j).any (idP (l.getD i z33).f0) = ((l.take i).drop (j + 1)).any (idP (l.getD i z33).f0) := by rw [hc, List.any_cons, show idP (l.getD i z33).f0 (l.getD j z33) = false from beq_eq_false_iff_ne.2 h1, Bool.false_or]
      simp only [e, h1, if_false]
      exact ih (j + 1) (by omega)
theorem ref_l0 (l : List S33) (hl : l.length ≤ 8) : ∀ (d i : Nat), i + d = l.length → Ev (fun k => skiarearef21_Right.l0 k l (i : Int)) (rightGo l d i) := by
  intro d
  induction d with
  | zero =>
    intro i hi
    exact Ev.step (f := fun k => some 0) (fun k => by simp only [skiarearef21_Right.l0]; rw [if_neg (by omega)]) (Ev.now 0)
  | succ d ih =>
    intro i hi
    have hw := wrap_succ i (by omega)
    have hn := ih (i + 1) (by omega)
    rw [← hw] at hn
    have h1 := ref_l1 l hl i (by omega) _ hn i 0 (by omega)
    rw [List.drop_zero] at h1
    have hg : rightGo l (d + 1) i = if secBad (l.getD i z33) then 2 else if (l.take i).any (idP (l.getD i z33).f0) then 7 else rightGo l d (i + 1) := by rw [← rd_at]; rfl
    rw [hg]
    have hj : ∀ b, secBad (l.getD i z33) = b → Ev (fun k => skiarearef21_Right.j1 k l (i : Int) b) (if secBad (l.getD i z33) then 2 else if (l.take i).any (idP (l.getD i z33).f0) then 7 else rightGo l d (i + 1)) := by
      intro b hb
      rw [hb]
      cases b with
      | true => exact Ev.step (f := fun k => some 2) (fun k => by simp only [skiarearef21_Right.j1, if_true]) (Ev.now 2)
      | false => exact Ev.step (f := fun k => skiarearef21_Right.l1 k l (i : Int) 0) (fun k => by simp only [skiarearef21_Right.j1]; rw [if_neg (by simp)]) (by simpa using h1)
    generalize hy : l.getD i z33 = y at *
    have st : ∀ k, skiarearef21_Right.l0 (k + 1) l (i : Int) = if y.f0 < 1 then (skiarearef21_Right.j1 k l i true) else (if y.f0 > 9999 then (skiarearef21_Right.j1 k l i true) else (if y.f1 < 0 then (skiarearef21_Right.j1 k l i true) else (if y.f1 > 1000 then (skiarearef21_Right.j1 k l i true) else (if y.f2 < 1 then (skiarearef21_Right.j1 k l i true) else (skiarearef21_Right.j1 k l i (decide (y.f2 > 86400))))))) := fun k => by
      simp only [skiarearef21_Right.l0, rd_at, hy]
      rw [if_pos (by omega), if_pos (by omega)]
    refine Ev.step st ?_
    by_cases c1 : y.f0 < 1
    · simp only [if_pos c1]; exact hj true (by simp [secBad, c1])
    by_cases c2 : y.f0 > 9999
    · simp only [if_neg c1, if_pos c2]; exact hj true (by simp [secBad, show 9999 < y.f0 from c2])
    by_cases c3 : y.f1 < 0
    · simp only [if_neg c1, if_neg c2, if_pos c3]; exact hj true (by simp [secBad, c3])
    by_cases c4 : y.f1 > 1000
    · simp only [if_neg c1, if_neg c2, if_neg c3, if_pos c4]; exact hj true (by simp [secBad, show 1000 < y.f1 from c4])
    by_cases c5 : y.f2 < 1
    · simp only [if_neg c1, if_neg c2, if_neg c3, if_neg c4, if_pos c5]; exact hj true (by simp [secBad, c5])
    · simp only [if_neg c1, if_neg c2, if_neg c3, if_neg c4, if_neg c5]
      refine hj _ ?_
      simp [secBad, c1, show ¬ 9999 < y.f0 from c2, c3, show ¬ 1000 < y.f1 from c4, c5]
theorem ref_Right (l : List S33) : Ev (fun k => skiarearef21_Right.f k l) (rightP l) := by
  unfold rightP
  by_cases h : 8 < l.length
  · rw [if_pos h]
    exact Ev.congr (f := fun k => some 4) (fun k => by unfold skiarearef21_Right.f; rw [if_pos (by omega)]) (Ev.now 4)
  · rw [if_neg h]
    exact Ev.congr (f := fun k => skiarearef21_Right.l0 k l 0) (fun k => by unfold skiarearef21_Right.f; rw [if_neg (by omega)]) (by simpa using ref_l0 l (by omega) l.length 0 (by omega))
/-- what right sections are -/
structure Good (l : List S33) : Prop where
  len : l.length ≤ 8
  id : ∀ x ∈ l, 1 ≤ x.f0 ∧ x.f0 ≤ 9999
  people : ∀ x ∈ l, 0 ≤ x.f1 ∧ x.f1 ≤ 1000
  secs : ∀ x ∈ l, 1 ≤ x.f2 ∧ x.f2 ≤ 86400
  apart : ∀ i j, i < j → j < l.length → (l.getD i z33).f0 ≠ (l.getD j z33).f0
theorem good_go (l : List S33) : ∀ (d i : Nat), i + d = l.length → rightGo l d i = 0 → ∀ j, i ≤ j → j < l.length → secBad (l.getD j z33) = false ∧ (l.take j).any (idP (l.getD j z33).f0) = false := by
  intro d
  induction d with
  | zero => intro i hi h j h1 h2; omega
  | succ d ih =>
    intro i hi h j h1 h2
    have hg : rightGo l (d + 1) i = if secBad (l.getD i z33) then 2 else if (l.take i).any (idP (l.getD i z33).f0) then 7 else rightGo l d (i + 1) := by rw [← rd_at]; rfl
    rw [hg] at h
    cases b1 : secBad (l.getD i z33) with
    | true => rw [b1] at h; simp at h
    | false =>
      rw [b1] at h
      cases b2 : (l.take i).any (idP (l.getD i z33).f0) with
      | true => rw [b2] at h; simp at h
      | false =>
        rw [b2] at h
        by_cases e : j = i
        · subst e; exact ⟨b1, b2⟩
        · exact ih (i + 1) (by omega) (by simpa using h) j (by omega) h2
theorem good_of {l : List S33} (h : rightP l = 0) : Good l := by
  unfold rightP at h
  by_cases hb : 8 < l.length
  · rw [if_pos hb] at h; cases h
  · rw [if_neg hb] at h
    have hg := good_go l l.length 0 (by omega) h
    have hm : ∀ x ∈ l, secBad x = false := fun x hx => by
      obtain ⟨j, hj, rfl⟩ := List.mem_iff_getElem.1 hx
      have := (hg j (Nat.zero_le _) hj).1
      rwa [getD_eq l z33 j hj] at this
    refine ⟨by omega, fun x hx => ?_, fun x hx => ?_, fun x hx => ?_, fun i j hij hj e => ?_⟩
    · have := hm x hx; simp [secBad] at this; omega
    · have := hm x hx; simp [secBad] at this; omega
    · have := hm x hx; simp [secBad] at this; omega
    · have := (hg j (Nat.zero_le _) hj).2
      rw [List.any_eq_false] at this
      have hi : i < l.length := by omega
      refine this (l.getD i z33) ?_ (beq_iff_eq.2 e)
      rw [getD_eq l z33 i hi]
      exact List.mem_take_iff_getElem.2 ⟨i, by omega, rfl⟩
def td (l : List S33) : List S33 := l.filter fun x => !needP x
theorem needing_f (l : List S33) (h : l.length ≤ 8) : rescue_needing.f l = some (td l) := by unfold rescue_needing.f td; rw [if_pos (by omega)]
theorem td_len (l : List S33) : (td l).length ≤ l.length := List.length_filter_le _ _
theorem need_l0 (l : List S33) (hl : l.length ≤ 8) : ∀ (d i : Nat) (acc : List S33), i + d = l.length → acc.length ≤ i → Ev (fun k => skiarearef21_need.l0 k l acc (i : Int)) (acc ++ td (l.drop i)) := by
  intro d
  induction d with
  | zero =>
    intro i acc hi ha
    rw [List.drop_eq_nil_of_le (by omega)]
    exact Ev.step (f := fun k => some acc) (fun k => by simp only [skiarearef21_need.l0]; rw [if_neg (by omega)]) (by simpa [td] using Ev.now acc)
  | succ d ih =>
    intro i acc hi ha
    have hw := wrap_succ i (by omega)
    have hlt : i < l.length := by omega
    have hdr : l.drop i = l.getD i z33 :: l.drop (i + 1) := by rw [List.drop_eq_getElem_cons hlt, getD_eq l z33 i hlt]
    rw [hdr]
    generalize hy : l.getD i z33 = y at *
    have st : ∀ k, skiarearef21_need.l0 (k + 1) l acc (i : Int) = if y.f1 = 0 then skiarearef21_need.l0 k l acc ((i + 1 : Nat) : Int) else skiarearef21_need.l0 k l (acc ++ [y]) ((i + 1 : Nat) : Int) := fun k => by
      simp only [skiarearef21_need.l0, rd_at, hy, hw]
      rw [if_pos (by omega), if_pos (by omega)]
      by_cases h : y.f1 = 0
      · rw [if_pos h, if_pos h]
      · rw [if_neg h, if_neg h, if_pos (by omega)]
    refine Ev.step st ?_
    by_cases h : y.f1 = 0
    · simp only [if_pos h]
      have e : td (y :: l.drop (i + 1)) = td (l.drop (i + 1)) := by simp [td, needP, h]
      rw [e]
      exact ih (i + 1) acc (by omega) (by omega)
    · simp only [if_neg h]
      have e : acc ++ td (y :: l.drop (i + 1)) = (acc ++ [y]) ++ td (l.drop (i + 1)) := by simp [td, needP, h]
      rw [e]
      exact ih (i + 1) (acc ++ [y]) (by omega) (by simp; omega)
theorem ref_need (l : List S33) (hl : l.length ≤ 8) : Ev (fun k => skiarearef21_need.f k l) (td l) := by
  have := need_l0 l hl l.length 0 [] (by omega) (by simp)
  simpa [skiarearef21_need.f] using this
/-- the section that a job names -/
def hasId (i : Int) (s : S33) : Bool := s.f0 == i
def found (o : Option S33) : Int × Int × Int × Bool := match o with
  | some x => (x.f0, x.f1, x.f2, true)
  | none => (0, 0, 0, false)
theorem find_l0 (l : List S33) (hl : l.length ≤ 8) (id : Int) : ∀ (d i : Nat), i + d = l.length → Ev (fun k => skiarearef21_find.l0 k l id (i : Int)) (found ((td (l.drop i)).find? (hasId id))) := by
  intro d
  induction d with
  | zero =>
    intro i hi
    rw [List.drop_eq_nil_of_le (by omega)]
    exact Ev.step (f := fun k => some (0, 0, 0, false)) (fun k => by simp only [skiarearef21_find.l0]; rw [if_neg (by omega)]) (Ev.now _)
  | succ d ih =>
    intro i hi
    have hw := wrap_succ i (by omega)
    have hlt : i < l.length := by omega
    have hdr : l.drop i = l.getD i z33 :: l.drop (i + 1) := by rw [List.drop_eq_getElem_cons hlt, getD_eq l z33 i hlt]
    rw [hdr]
    generalize hy : l.getD i z33 = y at *
    have st : ∀ k, skiarearef21_find.l0 (k + 1) l id (i : Int) = if y.f0 = id then (if y.f1 = 0 then skiarearef21_find.l0 k l id ((i + 1 : Nat) : Int) else some (y.f0, y.f1, y.f2, true)) else skiarearef21_find.l0 k l id ((i + 1 : Nat) : Int) := fun k => by
      simp only [skiarearef21_find.l0, rd_at, hy, hw]
      rw [if_pos (by omega), if_pos (by omega)]
    refine Ev.step st ?_
    by_cases h : y.f0 = id
    · by_cases h2 : y.f1 = 0
      · simp only [if_pos h, if_pos h2]
        have e : td (y :: l.drop (i + 1)) = td (l.drop (i + 1)) := by simp [td, needP, h2]
        rw [e]
        exact ih (i + 1) (by omega)
      · simp only [if_pos h, if_neg h2]
        have e : (td (y :: l.drop (i + 1))).find? (hasId id) = some y := by
          have : td (y :: l.drop (i + 1)) = y :: td (l.drop (i + 1)) := by simp [td, needP, h2]
          rw [this, List.find?_cons_of_pos (show hasId id y = true from beq_iff_eq.2 h)]
        rw [e]
        exact Ev.now _
    · simp only [if_neg h]
      have e : (td (y :: l.drop (i + 1))).find? (hasId id) = (td (l.drop (i + 1))).find? (hasId id) := by
        by_cases h2 : y.f1 = 0
        · have : td (y :: l.drop (i + 1)) = td (l.drop (i + 1)) := by simp [td, needP, h2]
          rw [this]
        · have : td (y :: l.drop (i + 1)) = y :: td (l.drop (i + 1)) := by simp [td, needP, h2]
          rw [this, List.find?_cons_of_neg (by simpa [hasId] using h)]
      rw [e]
      exact ih (i + 1) (by omega)
theorem ref_find (l : List S33) (hl : l.length ≤ 8) (id : Int) : Ev (fun k => skiarearef21_find.f k l id) (found ((td l).find? (hasId id))) := by
  have := find_l0 l hl id l.length 0 (by omega)
  simpa [skiarearef21_find.f] using this
/-- fidx and find? -/
theorem fidx_find {α : Type} (p : α → Bool) (l : List α) (d : α) : (fidx p l < 0 ∧ l.find? p = none) ∨ (0 ≤ fidx p l ∧ l.find? p = some (l.getD (fidx p l).toNat d)) := by
  unfold fidx
  cases e : l.findIdx? p with
  | none =>
    rw [List.findIdx?_eq_none_iff] at e
    exact .inl ⟨by show (-1 : Int) < 0; omega, List.find?_eq_none.2 (fun x hx => by simp [e x hx])⟩
  | some i =>
    obtain ⟨h, hp, hn⟩ := List.findIdx?_eq_some_iff_getElem.1 e
    refine .inr ⟨by show (0 : Int) ≤ (i : Int); omega, ?_⟩
    have : l.find? p = some l[i] := by
      rw [List.find?_eq_some_iff_getElem]
      exact ⟨hp, i, h, rfl, fun j hj => by simpa using hn j hj⟩
    rw [this]
    simp [List.getD_eq_getElem?_getD, List.getElem?_eq_getElem h]
/-- what a job is to be, by the section that it names -/
def jobBad2 (o : Option S33) (teams : Int) (x : S35) : Bool := match o with
  | none => true
  | some s => decide (x.f0 < 1) || (decide (teams < x.f0) || (decide (x.f2 < 0) || (decide (x.f3 < x.f2) || wrap64 (x.f3 - x.f2) != s.f2)))
theorem jobBad_eq (t : List S33) (teams : Int) (x : S35) : jobBad t teams x = jobBad2 (t.find? (hasId x.f1)) teams x := by
  unfold jobBad
  rcases fidx_find (hasId x.f1) t z33 with ⟨h, e⟩ | ⟨h, e⟩
  · rw [e]
    have : secK t x < 0 := h
    simp [this, jobBad2]
  · rw [e]
    have h1 : ¬ secK t x < 0 := by show ¬ fidx (hasId x.f1) t < 0; omega
    have h2 : rd_T33 t (secK t x) = t.getD (fidx (hasId x.f1) t).toNat z33 := rfl
    rw [h2, decide_eq_false h1, Bool.false_or]
    rfl
theorem vref_l1 (l : List S33) (teams : Int) (js : List S35) (hj40 : js.length ≤ 40) (i : Nat) (hi : i < js.length) (y : S35) (R : Bool) (hR : Ev (fun k => skiarearef21_Valid.l0 k l teams js (wrap64 ((i : Int) + 1))) R) :
    ∀ (d j : Nat), j + d = i → Ev (fun k => skiarearef21_Valid.l1 k l teams js (i : Int) (j : Int) y.f0 y.f1 y.f2 y.f3) (if ((js.take i).drop j).any (hitB y) then false else R) := by
  intro d
  induction d with
  | zero =>
    intro j hj
    obtain rfl : j = i := by omega
    rw [List.drop_eq_nil_of_le (by simp; omega)]
    exact Ev.step (f := fun k => skiarearef21_Valid.l0 k l teams js (wrap64 ((j : Int) + 1))) (fun k => by simp only [skiarearef21_Valid.l1]; rw [if_neg (by omega)]) (by simpa using hR)
  | succ d ih =>
    intro j hj
    have hw := wrap_succ j (by omega)
    have hc := drop_take_cons js z35 i j (by omega) (by omega)
    generalize hz : js.getD j z35 = z at *
    have st : ∀ k, skiarearef21_Valid.l1 (k + 1) l teams js (i : Int) (j : Int) y.f0 y.f1 y.f2 y.f3 = if hitB y z = true then some false else skiarearef21_Valid.l1 k l teams js i ((j + 1 : Nat) : Int) y.f0 y.f1 y.f2 y.f3 := fun k => by
      simp only [skiarearef21_Valid.l1, rd_at5, hz, hw]
      rw [if_pos (by omega), if_pos (by omega), if_pos (by omega)]
      by_cases h1 : z.f1 = y.f1
      · rw [if_pos h1, if_pos (by simp [hitB, h1])]
      · rw [if_neg h1]
        by_cases h2 : z.f0 = y.f0
        · rw [if_pos h2]
          by_cases h3 : z.f2 < y.f3
          · rw [if_pos h3]
            by_cases h4 : y.f2 < z.f3
            · rw [if_pos h4, if_pos (by simp [hitB, apB, h2]; right; omega)]
            · rw [if_neg h4, if_neg (by simp [hitB, apB, h1, h2]; omega)]
          · rw [if_neg h3, if_neg (by simp [hitB, apB, h1, h2]; omega)]
        · rw [if_neg h2, if_neg (by simp [hitB, apB, h1, h2])]
    refine Ev.step st ?_
    cases hh : hitB y z with
    | true =>
      have e : ((js.take i).drop j).any (hitB y) = true := by rw [hc, List.any_cons, hh, Bool.true_or]
      simp only [e, if_true]
      exact Ev.now false
    | false =>
      have e : ((js.take i).drop j).any (hitB y) = ((js.take i).drop (j + 1)).any (hitB y) := by rw [hc, List.any_cons, hh, Bool.false_or]
      simp only [e, Bool.false_eq_true, if_false]
      exact ih (j + 1) (by omega)
theorem vref_l0 (l : List S33) (hl : l.length ≤ 8) (teams : Int) (js : List S35) (hj40 : js.length ≤ 40) : ∀ (d i : Nat), i + d = js.length → Ev (fun k => skiarearef21_Valid.l0 k l teams js (i : Int)) (validGo (td l) teams js d i) := by
  intro d
  induction d with
  | zero =>
    intro i hi
    exact Ev.step (f := fun k => some true) (fun k => by simp only [skiarearef21_Valid.l0]; rw [if_neg (by omega)]) (Ev.now true)
  | succ d ih =>
    intro i hi
    have hw := wrap_succ i (by omega)
    have hn := ih (i + 1) (by omega)
    rw [← hw] at hn
    have h1 := vref_l1 l teams js hj40 i (by omega) (js.getD i z35) _ hn i 0 (by omega)
    rw [List.drop_zero] at h1
    have hg : validGo (td l) teams js (d + 1) i = if jobBad (td l) teams (js.getD i z35) then false else if (js.take i).any (hitB (js.getD i z35)) then false else validGo (td l) teams js d (i + 1) := by rw [← rd_at5]; rfl
    rw [hg, jobBad_eq]
    generalize hy : js.getD i z35 = y at *
    have hj : ∀ b, jobBad2 ((td l).find? (hasId y.f1)) teams y = b → Ev (fun k => skiarearef21_Valid.j1 k l teams js (i : Int) b y.f0 y.f1 y.f2 y.f3) (if jobBad2 ((td l).find? (hasId y.f1)) teams y then false else if (js.take i).any (hitB y) then false else validGo (td l) teams js d (i + 1)) := by
      intro b hb
      rw [hb]
      cases b with
      | true => exact Ev.step (f := fun k => some false) (fun k => by simp only [skiarearef21_Valid.j1, if_true]) (Ev.now false)
      | false => exact Ev.step (f := fun k => skiarearef21_Valid.l1 k l teams js (i : Int) 0 y.f0 y.f1 y.f2 y.f3) (fun k => by simp only [skiarearef21_Valid.j1]; rw [if_neg (by simp)]) (by simpa using h1)
    have st : ∀ k, skiarearef21_Valid.l0 (k + 1) l teams js (i : Int) = (skiarearef21_find.f k l y.f1).bind fun bt280 => (if bt280.2.2.2 = true then (if y.f0 < 1 then (skiarearef21_Valid.j1 k l teams js i true y.f0 y.f1 y.f2 y.f3) else (if y.f0 > teams then (skiarearef21_Valid.j1 k l teams js i true y.f0 y.f1 y.f2 y.f3) else (if y.f2 < 0 then (skiarearef21_Valid.j1 k l teams js i true y.f0 y.f1 y.f2 y.f3) else (if y.f3 < y.f2 then (skiarearef21_Valid.j1 k l teams js i true y.f0 y.f1 y.f2 y.f3) else (skiarearef21_Valid.j1 k l teams js i ((wrap64 (y.f3 - y.f2)) != bt280.2.2.1) y.f0 y.f1 y.f2 y.f3))))) else (skiarearef21_Valid.j1 k l teams js i true y.f0 y.f1 y.f2 y.f3)) := fun k => by
      simp only [skiarearef21_Valid.l0, rd_at5, hy]
      rw [if_pos (by omega), if_pos (by omega)]
    refine Ev.step st (Ev.bind (ref_find l hl y.f1) ?_)
    cases ho : (td l).find? (hasId y.f1) with
    | none =>
      simp only [found, Bool.false_eq_true, if_false]
      rw [ho] at hj
      exact hj true rfl
    | some s =>
      rw [ho] at hj
      simp only [found, if_true]
      by_cases c1 : y.f0 < 1
      · simp only [if_pos c1]; exact hj true (by simp [jobBad2, c1])
      by_cases c2 : y.f0 > teams
      · simp only [if_neg c1, if_pos c2]; exact hj true (by simp [jobBad2, show teams < y.f0 from c2])
      by_cases c3 : y.f2 < 0
      · simp only [if_neg c1, if_neg c2, if_pos c3]; exact hj true (by simp [jobBad2, c3])
      by_cases c4 : y.f3 < y.f2
      · simp only [if_neg c1, if_neg c2, if_neg c3, if_pos c4]; exact hj true (by simp [jobBad2, c4])
      · simp only [if_neg c1, if_neg c2, if_neg c3, if_neg c4]
        refine hj _ ?_
        simp [jobBad2, c1, show ¬ teams < y.f0 from c2, c3, c4]
theorem ref_Valid (l : List S33) (hl : l.length ≤ 8) (teams : Int) (js : List S35) (hj : js.length ≤ 40) : Ev (fun k => skiarearef21_Valid.f k l teams js) (validP (td l) teams js) := by
  unfold skiarearef21_Valid.f
  refine Ev.bind (ref_need l hl) ?_
  unfold validP
  by_cases h : js.length = (td l).length
  · rw [if_pos h]
    exact Ev.congr (f := fun k => skiarearef21_Valid.l0 k l teams js 0) (fun k => by rw [if_pos (by omega)]) (by simpa using vref_l0 l hl teams js hj js.length 0 (by omega))
  · rw [if_neg h]
    exact Ev.congr (f := fun k => some false) (fun k => by rw [if_neg (by omega)]) (Ev.now false)
theorem lref_l1 (l : List S33) (hl : l.length ≤ 8) (js : List S35) (hj40 : js.length ≤ 40) (t n : Int) (i : Nat) (hi : i < l.length) (R : Bool → Int)
    (hT : Ev (fun k => skiarearef21_Left.l0 k l js t n (wrap64 ((i : Int) + 1))) (R true)) (hF : Ev (fun k => skiarearef21_Left.l0 k l js t (wrap64 (n + (l.getD i z33).f1)) (wrap64 ((i : Int) + 1))) (R false)) :
    ∀ (d j : Nat) (b : Bool), j + d = js.length → Ev (fun k => skiarearef21_Left.l1 k l js t n (i : Int) b (j : Int)) (R (b || (js.drop j).any (doneP (l.getD i z33).f0 t))) := by
  intro d
  induction d with
  | zero =>
    intro j b hj
    rw [List.drop_eq_nil_of_le (by omega), List.any_nil, Bool.or_false]
    cases b with
    | true => exact Ev.step (f := fun k => skiarearef21_Left.l0 k l js t n (wrap64 ((i : Int) + 1))) (fun k => by simp only [skiarearef21_Left.l1]; rw [if_neg (by omega), if_pos trivial]) hT
    | false => exact Ev.step (f := fun k => skiarearef21_Left.l0 k l js t (wrap64 (n + (l.getD i z33).f1)) (wrap64 ((i : Int) + 1))) (fun k => by simp only [skiarearef21_Left.l1, rd_at]; rw [if_neg (by omega), if_neg (by simp), if_pos (by omega), if_pos (by omega)]) hF
  | succ d ih =>
    intro j b hj
    have hw := wrap_succ j (by omega)
    have hlt : j < js.length := by omega
    have hdr : js.drop j = js.getD j z35 :: js.drop (j + 1) := by rw [List.drop_eq_getElem_cons hlt, getD_eq js z35 j hlt]
    generalize hy : js.getD j z35 = y at *
    cases b with
    | true =>
      rw [Bool.true_or]
      have := ih (j + 1) true (by omega)
      rw [Bool.true_or] at this
      exact Ev.step (f := fun k => skiarearef21_Left.l1 k l js t n (i : Int) true ((j + 1 : Nat) : Int)) (fun k => by simp only [skiarearef21_Left.l1, hw]; rw [if_pos (by omega), if_pos trivial]) this
    | false =>
      rw [Bool.false_or, hdr, List.any_cons]
      have := ih (j + 1) (doneP (l.getD i z33).f0 t y) (by omega)
      refine Ev.step (f := fun k => skiarearef21_Left.l1 k l js t n (i : Int) (doneP (l.getD i z33).f0 t y) ((j + 1 : Nat) : Int)) (fun k => ?_) this
      simp only [skiarearef21_Left.l1, rd_at, rd_at5, hy, hw]
      rw [if_pos (by omega), if_neg (by simp), if_pos (by omega), if_pos (by omega), if_pos (by omega)]
      by_cases h : y.f1 = (l.getD i z33).f0
      · rw [if_pos h]
        have : doneP (l.getD i z33).f0 t y = decide (y.f3 ≤ t) := by unfold doneP; rw [beq_iff_eq.2 h, Bool.true_and]
        rw [this]
      · rw [if_neg h]
        have : doneP (l.getD i z33).f0 t y = false := by unfold doneP; rw [beq_eq_false_iff_ne.2 h, Bool.false_and]
        rw [this]
theorem lref_l0 (l : List S33) (hl : l.length ≤ 8) (js : List S35) (hj40 : js.length ≤ 40) (t : Int) : ∀ (d i : Nat) (n : Int), i + d = l.length → Ev (fun k => skiarearef21_Left.l0 k l js t n (i : Int)) (leftGo l js t d i n) := by
  intro d
  induction d with
  | zero =>
    intro i n hi
    exact Ev.step (f := fun k => some n) (fun k => by simp only [skiarearef21_Left.l0]; rw [if_neg (by omega)]) (Ev.now n)
  | succ d ih =>
    intro i n hi
    have hw := wrap_succ i (by omega)
    have h1 := lref_l1 l hl js hj40 t n i (by omega) (fun b => leftGo l js t d (i + 1) (if b then n else wrap64 (n + (l.getD i z33).f1))) (by rw [hw]; exact ih (i + 1) _ (by omega)) (by rw [hw]; exact ih (i + 1) _ (by omega)) js.length 0 false (by omega)
    rw [List.drop_zero, Bool.false_or] at h1
    have hg : leftGo l js t (d + 1) i n = leftGo l js t d (i + 1) (if js.any (doneP (l.getD i z33).f0 t) then n else wrap64 (n + (l.getD i z33).f1)) := by rw [← rd_at]; rfl
    rw [hg]
    exact Ev.step (f := fun k => skiarearef21_Left.l1 k l js t n (i : Int) false 0) (fun k => by simp only [skiarearef21_Left.l0]; rw [if_pos (by omega)]) (by simpa using h1)
theorem ref_Left (l : List S33) (hl : l.length ≤ 8) (js : List S35) (hj : js.length ≤ 40) (t : Int) : Ev (fun k => skiarearef21_Left.f k l js t) (leftP l js t) := by
  have := lref_l0 l hl js hj t l.length 0 0 (by omega)
  simpa [skiarearef21_Left.f, leftP] using this
def bGo : List S33 → Int → Int → Int × Int
  | [], most, sum => (most, sum)
  | x :: r, most, sum => bGo r (mx most x.f2) (wrap64 (sum + x.f2))
def bFin (n most sum : Int) : Int := if Int.tmod sum n = 0 then mx most (wrap64 (Int.tdiv sum n)) else mx most (wrap64 (wrap64 (Int.tdiv sum n) + 1))
def boundP (t : List S33) (n : Int) : Int := if n < 1 then 0 else bFin n (bGo t 0 0).1 (bGo t 0 0).2
theorem bprog_l0 (t : List S33) (ht : t.length ≤ 8) (n : Int) (hn : ¬ n < 1) : ∀ (d i : Nat) (most sum : Int), i + d = t.length → Ev (fun k => rescue_Bound.l0 k n most sum t (t.length : Int) (i : Int)) (bFin n (bGo (t.drop i) most sum).1 (bGo (t.drop i) most sum).2) := by
  intro d
  induction d with
  | zero =>
    intro i most sum hi
    rw [List.drop_eq_nil_of_le (by omega)]
    refine Ev.step (f := fun k => some (bFin n most sum)) (fun k => ?_) (Ev.now _)
    simp only [rescue_Bound.l0]
    rw [if_neg (by omega), if_neg (by omega)]
    unfold bFin
    by_cases h : Int.tmod sum n = 0
    · rw [if_pos h, if_pos h]
    · rw [if_neg h, if_neg h]
  | succ d ih =>
    intro i most sum hi
    have hw := wrap_succ i (by omega)
    have hlt : i < t.length := by omega
    have hdr : t.drop i = t.getD i z33 :: t.drop (i + 1) := by rw [List.drop_eq_getElem_cons hlt, getD_eq t z33 i hlt]
    rw [hdr]
    refine Ev.step (f := fun k => rescue_Bound.l0 k n (mx most (t.getD i z33).f2) (wrap64 (sum + (t.getD i z33).f2)) t (t.length : Int) ((i + 1 : Nat) : Int)) (fun k => ?_) (ih (i + 1) _ _ (by omega))
    simp only [rescue_Bound.l0, rd_at, hw]
    rw [if_pos (by omega), if_pos (by omega), if_pos (by omega)]
theorem bref_l0 (t : List S33) (ht : t.length ≤ 8) (n : Int) (hn : ¬ n < 1) : ∀ (d i : Nat) (most sum : Int), i + d = t.length → Ev (fun k => skiarearef21_Bound.l0 k n t sum most (i : Int)) (bFin n (bGo (t.drop i) most sum).1 (bGo (t.drop i) most sum).2) := by
  intro d
  induction d with
  | zero =>
    intro i most sum hi
    rw [List.drop_eq_nil_of_le (by omega)]
    refine Ev.step (f := fun k => some (bFin n most sum)) (fun k => ?_) (Ev.now _)
    simp only [skiarearef21_Bound.l0]
    rw [if_neg (by omega), if_neg (by omega)]
    unfold bFin
    by_cases h : Int.tmod sum n = 0
    · rw [if_pos h, if_pos h]
    · rw [if_neg h, if_neg h]
  | succ d ih =>
    intro i most sum hi
    have hw := wrap_succ i (by omega)
    have hlt : i < t.length := by omega
    have hdr : t.drop i = t.getD i z33 :: t.drop (i + 1) := by rw [List.drop_eq_getElem_cons hlt, getD_eq t z33 i hlt]
    rw [hdr]
    refine Ev.step (f := fun k => skiarearef21_Bound.l0 k n t (wrap64 (sum + (t.getD i z33).f2)) (mx most (t.getD i z33).f2) ((i + 1 : Nat) : Int)) (fun k => ?_) (ih (i + 1) _ _ (by omega))
    simp only [skiarearef21_Bound.l0, rd_at, hw]
    rw [if_pos (by omega), if_pos (by omega)]
theorem prog_Bound (l : List S33) (hl : l.length ≤ 8) (n : Int) : Ev (fun k => rescue_Bound.f k l n) (boundP (td l) n) := by
  unfold boundP
  by_cases h : n < 1
  · rw [if_pos h]
    exact Ev.congr (f := fun k => some 0) (fun k => by unfold rescue_Bound.f; rw [if_pos h]) (Ev.now 0)
  · rw [if_neg h]
    refine Ev.congr (f := fun k => rescue_Bound.l0 k n 0 0 (td l) ((td l).length : Int) 0) (fun k => by unfold rescue_Bound.f; rw [if_neg h, needing_f l hl, Option.bind_some]) ?_
    have := bprog_l0 (td l) (Nat.le_trans (td_len l) hl) n h (td l).length 0 0 0 (by omega)
    simpa using this
theorem ref_Bound (l : List S33) (hl : l.length ≤ 8) (n : Int) : Ev (fun k => skiarearef21_Bound.f k l n) (boundP (td l) n) := by
  unfold boundP
  by_cases h : n < 1
  · rw [if_pos h]
    exact Ev.congr (f := fun k => some 0) (fun k => by unfold skiarearef21_Bound.f; rw [if_pos h]) (Ev.now 0)
  · rw [if_neg h]
    refine Ev.congr (fun k => by unfold skiarearef21_Bound.f; rw [if_neg h]) (Ev.bind (ref_need l hl) ?_)
    have := bref_l0 (td l) (Nat.le_trans (td_len l) hl) n h (td l).length 0 0 0 (by omega)
    simpa using this
end Go.Proofs.Ytedejkhopjhnbaa.Pure
