/- Pure facts on plans: the reference's Valid. -/
import Derived.Test.YtedejkhopjhnbaaPureA
import Derived.Test.YtedejkhopjhnbaaPx24
import Derived.Test.YtedejkhopjhnbaaPx28
import Derived.Test.YtedejkhopjhnbaaPx29
import Derived.Test.YtedejkhopjhnbaaPx4
namespace Go.Proofs.Ytedejkhopjhnbaa.Pure
open Go.RowKit Go.Proofs.YtedejkhopjhnbaaW.PrintWords Go.Proofs.YtedejkhopjhnbaaW.PrintLast Go.Proofs.YtedejkhopjhnbaaW.PrintMore Go.Proofs.Ytedejkhopjhnbaa.P
set_option linter.unusedVariables false
set_option linter.unusedSimpArgs false

def td (l : List S33) : List S33 := l.filter fun x => !needP x
theorem needing_f (l : List S33) (h : l.length ≤ 8) : rescue_needing.f l = some (td l) := by unfold rescue_needing.f td; rw [if_pos (by omega)]
theorem td_len (l : List S33) : (td l).length ≤ l.length := List.length_filter_le _ _
theorem need_l0 (l : List S33) (hl : l.length ≤ 8) : ∀ (d i : Nat) (acc : List S33), i + d = l.length → acc.length ≤ i → Ev (fun k => skiarearef21_need.l0 k l acc (i : Int)) (acc ++ td (l.drop i)) := by
  intro d
  induction d with
  | zero =>
    intro i acc hi ha
    rw [List.drop_eq_nil_of_le (by omega)]
    exact Ev.step (f := fun k => some acc) (fun k => by simp only [skiarearef21_need.l0]; rw [if_neg (by omega)]) (by simpa [td] using Ev.now acc)
  | succ d ih =>
    intro i acc hi ha
    have hw := wrap_succ i (by omega)
    have hlt : i < l.length := by omega
    have hdr : l.drop i = l.getD i z33 :: l.drop (i + 1) := by rw [List.drop_eq_getElem_cons hlt, getD_eq l z33 i hlt]
    rw [hdr]
    generalize hy : l.getD i z33 = y at *
    have st : ∀ k, skiarearef21_need.l0 (k + 1) l acc (i : Int) = if y.f1 = 0 then skiarearef21_need.l0 k l acc ((i + 1 : Nat) : Int) else skiarearef21_need.l0 k l (acc ++ [y]) ((i + 1 : Nat) : Int) := fun k => by
      simp only [skiarearef21_need.l0, rd_at, hy, hw]
      rw [if_pos (by omega), if_pos (by omega)]
      by_cases h : y.f1 = 0
      · rw [if_pos h, if_pos h]
      · rw [if_neg h, if_neg h, if_pos (by omega)]
    refine Ev.step st ?_
    by_cases h : y.f1 = 0
    · simp only [if_pos h]
      have e : td (y :: l.drop (i + 1)) = td (l.drop (i + 1)) := by simp [td, needP, h]
      rw [e]
      exact ih (i + 1) acc (by omega) (by omega)
    · simp only [if_neg h]
      have e : acc ++ td (y :: l.drop (i + 1)) = (acc ++ [y]) ++ td (l.drop (i + 1)) := by simp [td, needP, h]
      rw [e]
      exact ih (i + 1) (acc ++ [y]) (by omega) (by simp; omega)
theorem ref_need (l : List S33) (hl : l.length ≤ 8) : Ev (fun k => skiarearef21_need.f k l) (td l) := by
  have := need_l0 l hl l.length 0 [] (by omega) (by simp)
  simpa [skiarearef21_need.f] using this
/-- the section that a job names -/
def hasId (i : Int) (s : S33) : Bool := s.f0 == i
def found (o : Option S33) : Int × Int × Int × Bool := match o with
  | some x => (x.f0, x.f1, x.f2, true)
  | none => (0, 0, 0, false)
theorem find_l0 (l : List S33) (hl : l.length ≤ 8) (id : Int) : ∀ (d i : Nat), i + d = l.length → Ev (fun k => skiarearef21_find.l0 k l id (i : Int)) (found ((td (l.drop i)).find? (hasId id))) := by
  intro d
  induction d with
  | zero =>
    intro i hi
    rw [List.drop_eq_nil_of_le (by omega)]
    exact Ev.step (f := fun k => some (0, 0, 0, false)) (fun k => by simp only [skiarearef21_find.l0]; rw [if_neg (by omega)]) (Ev.now _)
  | succ d ih =>
    intro i hi
    have hw := wrap_succ i (by omega)
    have hlt : i < l.length := by omega
    have hdr : l.drop i = l.getD i z33 :: l.drop (i + 1) := by rw [List.drop_eq_getElem_cons hlt, getD_eq l z33 i hlt]
    rw [hdr]
    generalize hy : l.getD i z33 = y at *
    have st : ∀ k, skiarearef21_find.l0 (k + 1) l id (i : Int) = if y.f0 = id then (if y.f1 = 0 then skiarearef21_find.l0 k l id ((i + 1 : Nat) : Int) else some (y.f0, y.f1, y.f2, true)) else skiarearef21_find.l0 k l id ((i + 1 : Nat) : Int) := fun k => by
      simp only [skiarearef21_find.l0, rd_at, hy, hw]
      rw [if_pos (by omega), if_pos (by omega)]
    refine Ev.step st ?_
    by_cases h : y.f0 = id
    · by_cases h2 : y.f1 = 0
      · simp only [if_pos h, if_pos h2]
        have e : td (y :: l.drop (i + 1)) = td (l.drop (i + 1)) := by simp [td, needP, h2]
        rw [e]
        exact ih (i + 1) (by omega)
      · simp only [if_pos h, if_neg h2]
        have e : (td (y :: l.drop (i + 1))).find? (hasId id) = some y := by
          have : td (y :: l.drop (i + 1)) = y :: td (l.drop (i + 1)) := by simp [td, needP, h2]
          rw [this, List.find?_cons_of_pos (show hasId id y = true from beq_iff_eq.2 h)]
        rw [e]
        exact Ev.now _
    · simp only [if_neg h]
      have e : (td (y :: l.drop (i + 1))).find? (hasId id) = (td (l.drop (i + 1))).find? (hasId id) := by
        by_cases h2 : y.f1 = 0
        · have : td (y :: l.drop (i + 1)) = td (l.drop (i + 1)) := by simp [td, needP, h2]
          rw [this]
        · have : td (y :: l.drop (i + 1)) = y :: td (l.drop (i + 1)) := by simp [td, needP, h2]
          rw [this, List.find?_cons_of_neg (by simpa [hasId] using h)]
      rw [e]
      exact ih (i + 1) (by omega)
theorem ref_find (l : List S33) (hl : l.length ≤ 8) (id : Int) : Ev (fun k => skiarearef21_find.f k l id) (found ((td l).find? (hasId id))) := by
  have := find_l0 l hl id l.length 0 (by omega)
  simpa [skiarearef21_find.f] using this
/-- fidx and find? -/
theorem fidx_find {α : Type} (p : α → Bool) (l : List α) (d : α) : (fidx p l < 0 ∧ l.find? p = none) ∨ (0 ≤ fidx p l ∧ l.find? p = some (l.getD (fidx p l).toNat d)) := by
  unfold fidx
  cases e : l.findIdx? p with
  | none =>
    rw [List.findIdx?_eq_none_iff] at e
    exact .inl ⟨by show (-1 : Int) < 0; omega, List.find?_eq_none.2 (fun x hx => by simp [e x hx])⟩
  | some i =>
    obtain ⟨h, hp, hn⟩ := List.findIdx?_eq_some_iff_getElem.1 e
    refine .inr ⟨by show (0 : Int) ≤ (i : Int); omega, ?_⟩
    have : l.find? p = some l[i] := by
      rw [List.find?_eq_some_iff_getElem]
      exact ⟨hp, i, h, rfl, fun j hj => by simpa using hn j hj⟩
    rw [this]
    simp [List.getD_eq_getElem?_getD, List.getElem?_eq_getElem h]
/-- what a job is to be, by the section that it names -/
def jobBad2 (o : Option S33) (teams : Int) (x : S35) : Bool := match o with
  | none => true
  | some s => decide (x.f0 < 1) || (decide (teams < x.f0) || (decide (x.f2 < 0) || (decide (x.f3 < x.f2) || wrap64 (x.f3 - x.f2) != s.f2)))
theorem jobBad_eq (t : List S33) (teams : Int) (x : S35) : jobBad t teams x = jobBad2 (t.find? (hasId x.f1)) teams x := by
  unfold jobBad
  rcases fidx_find (hasId x.f1) t z33 with ⟨h, e⟩ | ⟨h, e⟩
  · rw [e]
    have : secK t x < 0 := h
    simp [this, jobBad2]
  · rw [e]
    have h1 : ¬ secK t x < 0 := by show ¬ fidx (hasId x.f1) t < 0; omega
    have h2 : rd_T33 t (secK t x) = t.getD (fidx (hasId x.f1) t).toNat z33 := rfl
    rw [h2, decide_eq_false h1, Bool.false_or]
    rfl
theorem vref_l1 (l : List S33) (teams : Int) (js : List S35) (hj40 : js.length ≤ 40) (i : Nat) (hi : i < js.length) (y : S35) (R : Bool) (hR : Ev (fun k => skiarearef21_Valid.l0 k l teams js (wrap64 ((i : Int) + 1))) R) :
    ∀ (d j : Nat), j + d = i → Ev (fun k => skiarearef21_Valid.l1 k l teams js (i : Int) (j : Int) y.f0 y.f1 y.f2 y.f3) (if ((js.take i).drop j).any (hitB y) then false else R) := by
  intro d
  induction d with
  | zero =>
    intro j hj
    obtain rfl : j = i := by omega
    rw [List.drop_eq_nil_of_le (by simp; omega)]
    exact Ev.step (f := fun k => skiarearef21_Valid.l0 k l teams js (wrap64 ((j : Int) + 1))) (fun k => by simp only [skiarearef21_Valid.l1]; rw [if_neg (by omega)]) (by simpa using hR)
  | succ d ih =>
    intro j hj
    have hw := wrap_succ j (by omega)
    have hc := drop_take_cons js z35 i j (by omega) (by omega)
    generalize hz : js.getD j z35 = z at *
    have st : ∀ k, skiarearef21_Valid.l1 (k + 1) l teams js (i : Int) (j : Int) y.f0 y.f1 y.f2 y.f3 = if hitB y z = true then some false else skiarearef21_Valid.l1 k l teams js i ((j + 1 : Nat) : Int) y.f0 y.f1 y.f2 y.f3 := fun k => by
      simp only [skiarearef21_Valid.l1, rd_at5, hz, hw]
      rw [if_pos (by omega), if_pos (by omega), if_pos (by omega)]
      by_cases h1 : z.f1 = y.f1
      · rw [if_pos h1, if_pos (by simp [hitB, h1])]
      · rw [if_neg h1]
        by_cases h2 : z.f0 = y.f0
        · rw [if_pos h2]
          by_cases h3 : z.f2 < y.f3
          · rw [if_pos h3]
            by_cases h4 : y.f2 < z.f3
            · rw [if_pos h4, if_pos (by simp [hitB, apB, h2]; right; omega)]
            · rw [if_neg h4, if_neg (by simp [hitB, apB, h1, h2]; omega)]
          · rw [if_neg h3, if_neg (by simp [hitB, apB, h1, h2]; omega)]
        · rw [if_neg h2, if_neg (by simp [hitB, apB, h1, h2])]
    refine Ev.step st ?_
    cases hh : hitB y z with
    | true =>
      have e : ((js.take i).drop j).any (hitB y) = true := by rw [hc, List.any_cons, hh, Bool.true_or]
      simp only [e, if_true]
      exact Ev.now false
    | false =>
      have e : ((js.take i).drop j).any (hitB y) = ((js.take i).drop (j + 1)).any (hitB y) := by rw [hc, List.any_cons, hh, Bool.false_or]
      simp only [e, Bool.false_eq_true, if_false]
      exact ih (j + 1) (by omega)
theorem vref_l0 (l : List S33) (hl : l.length ≤ 8) (teams : Int) (js : List S35) (hj40 : js.length ≤ 40) : ∀ (d i : Nat), i + d = js.length → Ev (fun k => skiarearef21_Valid.l0 k l teams js (i : Int)) (validGo (td l) teams js d i) := by
  intro d
  induction d with
  | zero =>
    intro i hi
    exact Ev.step (f := fun k => some true) (fun k => by simp only [skiarearef21_Valid.l0]; rw [if_neg (by omega)]) (Ev.now true)
  | succ d ih =>
    intro i hi
    have hw := wrap_succ i (by omega)
    have hn := ih (i + 1) (by omega)
    rw [← hw] at hn
    have h1 := vref_l1 l teams js hj40 i (by omega) (js.getD i z35) _ hn i 0 (by omega)
    rw [List.drop_zero] at h1
    have hg : validGo (td l) teams js (d + 1) i = if jobBad (td l) teams (js.getD i z35) then false else if (js.take i).any (hitB (js.getD i z35)) then false else validGo (td l) teams js d (i + 1) := by rw [← rd_at5]; rfl
    rw [hg, jobBad_eq]
    generalize hy : js.getD i z35 = y at *
    have hj : ∀ b, jobBad2 ((td l).find? (hasId y.f1)) teams y = b → Ev (fun k => skiarearef21_Valid.j1 k l teams js (i : Int) b y.f0 y.f1 y.f2 y.f3) (if jobBad2 ((td l).find? (hasId y.f1)) teams y then false else if (js.take i).any (hitB y) then false else validGo (td l) teams js d (i + 1)) := by
      intro b hb
      rw [hb]
      cases b with
      | true => exact Ev.step (f := fun k => some false) (fun k => by simp only [skiarearef21_Valid.j1, if_true]) (Ev.now false)
      | false => exact Ev.step (f := fun k => skiarearef21_Valid.l1 k l teams js (i : Int) 0 y.f0 y.f1 y.f2 y.f3) (fun k => by simp only [skiarearef21_Valid.j1]; rw [if_neg (by simp)]) (by simpa using h1)
    have st : ∀ k, skiarearef21_Valid.l0 (k + 1) l teams js (i : Int) = (skiarearef21_find.f k l y.f1).bind fun bt280 => (if bt280.2.2.2 = true then (if y.f0 < 1 then (skiarearef21_Valid.j1 k l teams js i true y.f0 y.f1 y.f2 y.f3) else (if y.f0 > teams then (skiarearef21_Valid.j1 k l teams js i true y.f0 y.f1 y.f2 y.f3) else (if y.f2 < 0 then (skiarearef21_Valid.j1 k l teams js i true y.f0 y.f1 y.f2 y.f3) else (if y.f3 < y.f2 then (skiarearef21_Valid.j1 k l teams js i true y.f0 y.f1 y.f2 y.f3) else (skiarearef21_Valid.j1 k l teams js i ((wrap64 (y.f3 - y.f2)) != bt280.2.2.1) y.f0 y.f1 y.f2 y.f3))))) else (skiarearef21_Valid.j1 k l teams js i true y.f0 y.f1 y.f2 y.f3)) := fun k => by
      simp only [skiarearef21_Valid.l0, rd_at5, hy]
      rw [if_pos (by omega), if_pos (by omega)]
    refine Ev.step st (Ev.bind (ref_find l hl y.f1) ?_)
    cases ho : (td l).find? (hasId y.f1) with
    | none =>
      simp only [found, Bool.false_eq_true, if_false]
      rw [ho] at hj
      exact hj true rfl
    | some s =>
      rw [ho] at hj
      simp only [found, if_true]
      by_cases c1 : y.f0 < 1
      · simp only [if_pos c1]; exact hj true (by simp [jobBad2, c1])
      by_cases c2 : y.f0 > teams
      · simp only [if_neg c1, if_pos c2]; exact hj true (by simp [jobBad2, show teams < y.f0 from c2])
      by_cases c3 : y.f2 < 0
      · simp only [if_neg c1, if_neg c2, if_pos c3]; exact hj true (by simp [jobBad2, c3])
      by_cases c4 : y.f3 < y.f2
      · simp only [if_neg c1, if_neg c2, if_neg c3, if_pos c4]; exact hj true (by simp [jobBad2, c4])
      · simp only [if_neg c1, if_neg c2, if_neg c3, if_neg c4]
        refine hj _ ?_
        simp [jobBad2, c1, show ¬ teams < y.f0 from c2, c3, c4]
theorem ref_Valid (l : List S33) (hl : l.length ≤ 8) (teams : Int) (js : List S35) (hj : js.length ≤ 40) : Ev (fun k => skiarearef21_Valid.f k l teams js) (validP (td l) teams js) := by
  unfold skiarearef21_Valid.f
  refine Ev.bind (ref_need l hl) ?_
  unfold validP
  by_cases h : js.length = (td l).length
  · rw [if_pos h]
    exact Ev.congr (f := fun k => skiarearef21_Valid.l0 k l teams js 0) (fun k => by rw [if_pos (by omega)]) (by simpa using vref_l0 l hl teams js hj js.length 0 (by omega))
  · rw [if_neg h]
    exact Ev.congr (f := fun k => some false) (fun k => by rw [if_neg (by omega)]) (Ev.now false)
end Go.Proofs.Ytedejkhopjhnbaa.Pure
