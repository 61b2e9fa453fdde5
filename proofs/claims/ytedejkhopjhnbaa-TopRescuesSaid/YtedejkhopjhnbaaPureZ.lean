/- Pure facts on sections and plans, and that no plan ends earlier. -/
import Derived.Test.YtedejkhopjhnbaaPx17
import Derived.Test.YtedejkhopjhnbaaPx23
import Derived.Test.YtedejkhopjhnbaaPx19
import Derived.Test.YtedejkhopjhnbaaPx20
import Derived.Test.YtedejkhopjhnbaaPx4
import Derived.Test.YtedejkhopjhnbaaPx21
import Derived.Test.YtedejkhopjhnbaaPx6
namespace Go.Proofs.Ytedejkhopjhnbaa.Pure
open Go.RowKit Go.Proofs.YtedejkhopjhnbaaW.PrintWords Go.Proofs.YtedejkhopjhnbaaW.PrintLast Go.Proofs.YtedejkhopjhnbaaW.PrintMore Go.Proofs.Ytedejkhopjhnbaa.P
set_option linter.unusedVariables false
set_option linter.unusedSimpArgs false

theorem wrap_id {x : Int} (h1 : -9223372036854775808 ≤ x) (h2 : x ≤ 9223372036854775807) : wrap64 x = x := by unfold wrap64; omega
theorem rd_at (l : List S33) (i : Nat) : rd_T33 l (i : Int) = l.getD i z33 := by simp [rd_T33]
theorem rd_at5 (l : List S35) (i : Nat) : rd_T35 l (i : Int) = l.getD i z35 := by simp [rd_T35]
theorem getD_eq {α : Type} (l : List α) (z : α) (i : Nat) (h : i < l.length) : l.getD i z = l[i] := by simp [List.getD_eq_getElem?_getD, List.getElem?_eq_getElem h]
theorem drop_take_cons {α : Type} (l : List α) (z : α) (i j : Nat) (h : j < i) (hi : i ≤ l.length) : (l.take i).drop j = l.getD j z :: (l.take i).drop (j + 1) := by
  have hj : j < (l.take i).length := by simp; omega
  rw [List.drop_eq_getElem_cons hj, getD_eq l z j (by omega)]
  simp
theorem wrap_succ (j : Nat) (h : j < 9223372036854775807) : wrap64 ((j : Int) + 1) = ((j + 1 : Nat) : Int) := by rw [wrap_id (by omega) (by omega)]; omega
theorem ref_l1 (l : List S33) (hl : l.length ≤ 8) (i : Nat) (hi : i < l.length) (R : Int) (hR : Ev (fun k => skiarearef21_Right.l0 k l (wrap64 ((i : Int) + 1))) R) :
    ∀ (d j : Nat), j + d = i → Ev (fun k => skiarearef21_Right.l1 k l (i : Int) (j : Int)) (if ((l.take i).drop j).any (idP (l.getD i z33).f0) then 7 else R) := by
  intro d
  induction d with
  | zero =>
    intro j hj
    obtain rfl : j = i := by omega
    rw [List.drop_eq_nil_of_le (by simp; omega)]
    exact Ev.step (f := fun k => skiarearef21_Right.l0 k l (wrap64 ((j : Int) + 1))) (fun k => by simp only [skiarearef21_Right.l1]; rw [if_neg (by omega)]) (by simpa using hR)
  | succ d ih =>
    intro j hj
    have hw := wrap_succ j (by omega)
    have hc := drop_take_cons l z33 i j (by omega) (by omega)
    have step : ∀ k, skiarearef21_Right.l1 (k + 1) l (i : Int) (j : Int) = if (l.getD j z33).f0 = (l.getD i z33).f0 then some 7 else skiarearef21_Right.l1 k l i ((j + 1 : Nat) : Int) := fun k => by
      simp only [skiarearef21_Right.l1, rd_at, hw]
      rw [if_pos (by omega), if_pos (by omega), if_pos (by omega), if_pos (by omega), if_pos (by omega)]
    refine Ev.step step ?_
    by_cases h1 : (l.getD j z33).f0 = (l.getD i z33).f0
    · have e : ((l.take i).drop j).any (idP (l.getD i z33).f0) = true := by rw [hc, List.any_cons, show idP (l.getD i z33).f0 (l.getD j z33) = true from beq_iff_eq.2 h1, Bool.true_or]
      simp only [e, h1, if_true]
      exact Ev.now 7
    · have e : ((l.take i).drop j).any (idP (l.getD i z33).f0) = ((l.take i).drop (j + 1)).any (idP (l.getD i z33).f0) := by rw [hc, List.any_cons, show idP (l.getD i z33).f0 (l.getD j z33) = false from beq_eq_false_iff_ne.2 h1, Bool.false_or]
      simp only [e, h1, if_false]
      exact ih (j + 1) (by omega)
theorem ref_l0 (l : List S33) (hl : l.length ≤ 8) : ∀ (d i : Nat), i + d = l.length → Ev (fun k => skiarearef21_Right.l0 k l (i : Int)) (rightGo l d i) := by
  intro d
  induction d with
  | zero =>
    intro i hi
    exact Ev.step (f := fun k => some 0) (fun k => by simp only [skiarearef21_Right.l0]; rw [if_neg (by omega)]) (Ev.now 0)
  | succ d ih =>
    intro i hi
    have hw := wrap_succ i (by omega)
    have hn := ih (i + 1) (by omega)
    rw [← hw] at hn
    have h1 := ref_l1 l hl i (by omega) _ hn i 0 (by omega)
    rw [List.drop_zero] at h1
    have hg : rightGo l (d + 1) i = if secBad (l.getD i z33) then 2 else if (l.take i).any (idP (l.getD i z33).f0) then 7 else rightGo l d (i + 1) := by rw [← rd_at]; rfl
    rw [hg]
    have hj : ∀ b, secBad (l.getD i z33) = b → Ev (fun k => skiarearef21_Right.j1 k l (i : Int) b) (if secBad (l.getD i z33) then 2 else if (l.take i).any (idP (l.getD i z33).f0) then 7 else rightGo l d (i + 1)) := by
      intro b hb
      rw [hb]
      cases b with
      | true => exact Ev.step (f := fun k => some 2) (fun k => by simp only [skiarearef21_Right.j1, if_true]) (Ev.now 2)
      | false => exact Ev.step (f := fun k => skiarearef21_Right.l1 k l (i : Int) 0) (fun k => by simp only [skiarearef21_Right.j1]; rw [if_neg (by simp)]) (by simpa using h1)
    generalize hy : l.getD i z33 = y at *
    have st : ∀ k, skiarearef21_Right.l0 (k + 1) l (i : Int) = if y.f0 < 1 then (skiarearef21_Right.j1 k l i true) else (if y.f0 > 9999 then (skiarearef21_Right.j1 k l i true) else (if y.f1 < 0 then (skiarearef21_Right.j1 k l i true) else (if y.f1 > 1000 then (skiarearef21_Right.j1 k l i true) else (if y.f2 < 1 then (skiarearef21_Right.j1 k l i true) else (skiarearef21_Right.j1 k l i (decide (y.f2 > 86400))))))) := fun k => by
      simp only [skiarearef21_Right.l0, rd_at, hy]
      rw [if_pos (by omega), if_pos (by omega)]
    refine Ev.step st ?_
    by_cases c1 : y.f0 < 1
    · simp only [if_pos c1]; exact hj true (by simp [secBad, c1])
    by_cases c2 : y.f0 > 9999
    · simp only [if_neg c1, if_pos c2]; exact hj true (by simp [secBad, show 9999 < y.f0 from c2])
    by_cases c3 : y.f1 < 0
    · simp only [if_neg c1, if_neg c2, if_pos c3]; exact hj true (by simp [secBad, c3])
    by_cases c4 : y.f1 > 1000
    · simp only [if_neg c1, if_neg c2, if_neg c3, if_pos c4]; exact hj true (by simp [secBad, show 1000 < y.f1 from c4])
    by_cases c5 : y.f2 < 1
    · simp only [if_neg c1, if_neg c2, if_neg c3, if_neg c4, if_pos c5]; exact hj true (by simp [secBad, c5])
    · simp only [if_neg c1, if_neg c2, if_neg c3, if_neg c4, if_neg c5]
      refine hj _ ?_
      simp [secBad, c1, show ¬ 9999 < y.f0 from c2, c3, show ¬ 1000 < y.f1 from c4, c5]
theorem ref_Right (l : List S33) : Ev (fun k => skiarearef21_Right.f k l) (rightP l) := by
  unfold rightP
  by_cases h : 8 < l.length
  · rw [if_pos h]
    exact Ev.congr (f := fun k => some 4) (fun k => by unfold skiarearef21_Right.f; rw [if_pos (by omega)]) (Ev.now 4)
  · rw [if_neg h]
    exact Ev.congr (f := fun k => skiarearef21_Right.l0 k l 0) (fun k => by unfold skiarearef21_Right.f; rw [if_neg (by omega)]) (by simpa using ref_l0 l (by omega) l.length 0 (by omega))
/-- what right sections are -/
structure Good (l : List S33) : Prop where
  len : l.length ≤ 8
  id : ∀ x ∈ l, 1 ≤ x.f0 ∧ x.f0 ≤ 9999
  people : ∀ x ∈ l, 0 ≤ x.f1 ∧ x.f1 ≤ 1000
  secs : ∀ x ∈ l, 1 ≤ x.f2 ∧ x.f2 ≤ 86400
  apart : ∀ i j, i < j → j < l.length → (l.getD i z33).f0 ≠ (l.getD j z33).f0
theorem good_go (l : List S33) : ∀ (d i : Nat), i + d = l.length → rightGo l d i = 0 → ∀ j, i ≤ j → j < l.length → secBad (l.getD j z33) = false ∧ (l.take j).any (idP (l.getD j z33).f0) = false := by
  intro d
  induction d with
  | zero => intro i hi h j h1 h2; omega
  | succ d ih =>
    intro i hi h j h1 h2
    have hg : rightGo l (d + 1) i = if secBad (l.getD i z33) then 2 else if (l.take i).any (idP (l.getD i z33).f0) then 7 else rightGo l d (i + 1) := by rw [← rd_at]; rfl
    rw [hg] at h
    cases b1 : secBad (l.getD i z33) with
    | true => rw [b1] at h; simp at h
    | false =>
      rw [b1] at h
      cases b2 : (l.take i).any (idP (l.getD i z33).f0) with
      | true => rw [b2] at h; simp at h
      | false =>
        rw [b2] at h
        by_cases e : j = i
        · subst e; exact ⟨b1, b2⟩
        · exact ih (i + 1) (by omega) (by simpa using h) j (by omega) h2
theorem good_of {l : List S33} (h : rightP l = 0) : Good l := by
  unfold rightP at h
  by_cases hb : 8 < l.length
  · rw [if_pos hb] at h; cases h
  · rw [if_neg hb] at h
    have hg := good_go l l.length 0 (by omega) h
    have hm : ∀ x ∈ l, secBad x = false := fun x hx => by
      obtain ⟨j, hj, rfl⟩ := List.mem_iff_getElem.1 hx
      have := (hg j (Nat.zero_le _) hj).1
      rwa [getD_eq l z33 j hj] at this
    refine ⟨by omega, fun x hx => ?_, fun x hx => ?_, fun x hx => ?_, fun i j hij hj e => ?_⟩
    · have := hm x hx; simp [secBad] at this; omega
    · have := hm x hx; simp [secBad] at this; omega
    · have := hm x hx; simp [secBad] at this; omega
    · have := (hg j (Nat.zero_le _) hj).2
      rw [List.any_eq_false] at this
      have hi : i < l.length := by omega
      refine this (l.getD i z33) ?_ (beq_iff_eq.2 e)
      rw [getD_eq l z33 i hi]
      exact List.mem_take_iff_getElem.2 ⟨i, by omega, rfl⟩
def td (l : List S33) : List S33 := l.filter fun x => !needP x
theorem needing_f (l : List S33) (h : l.length ≤ 8) : rescue_needing.f l = some (td l) := by unfold rescue_needing.f td; rw [if_pos (by omega)]
theorem td_len (l : List S33) : (td l).length ≤ l.length := List.length_filter_le _ _
/-- the section that a job names -/
def hasId (i : Int) (s : S33) : Bool := s.f0 == i
/-- fidx and find? -/
theorem fidx_find {α : Type} (p : α → Bool) (l : List α) (d : α) : (fidx p l < 0 ∧ l.find? p = none) ∨ (0 ≤ fidx p l ∧ l.find? p = some (l.getD (fidx p l).toNat d)) := by
  unfold fidx
  cases e : l.findIdx? p with
  | none =>
    rw [List.findIdx?_eq_none_iff] at e
    exact .inl ⟨by show (-1 : Int) < 0; omega, List.find?_eq_none.2 (fun x hx => by simp [e x hx])⟩
  | some i =>
    obtain ⟨h, hp, hn⟩ := List.findIdx?_eq_some_iff_getElem.1 e
    refine .inr ⟨by show (0 : Int) ≤ (i : Int); omega, ?_⟩
    have : l.find? p = some l[i] := by
      rw [List.find?_eq_some_iff_getElem]
      exact ⟨hp, i, h, rfl, fun j hj => by simpa using hn j hj⟩
    rw [this]
    simp [List.getD_eq_getElem?_getD, List.getElem?_eq_getElem h]
/-- what a job is to be, by the section that it names -/
def jobBad2 (o : Option S33) (teams : Int) (x : S35) : Bool := match o with
  | none => true
  | some s => decide (x.f0 < 1) || (decide (teams < x.f0) || (decide (x.f2 < 0) || (decide (x.f3 < x.f2) || wrap64 (x.f3 - x.f2) != s.f2)))
theorem jobBad_eq (t : List S33) (teams : Int) (x : S35) : jobBad t teams x = jobBad2 (t.find? (hasId x.f1)) teams x := by
  unfold jobBad
  rcases fidx_find (hasId x.f1) t z33 with ⟨h, e⟩ | ⟨h, e⟩
  · rw [e]
    have : secK t x < 0 := h
    simp [this, jobBad2]
  · rw [e]
    have h1 : ¬ secK t x < 0 := by show ¬ fidx (hasId x.f1) t < 0; omega
    have h2 : rd_T33 t (secK t x) = t.getD (fidx (hasId x.f1) t).toNat z33 := rfl
    rw [h2, decide_eq_false h1, Bool.false_or]
    rfl
def bGo : List S33 → Int → Int → Int × Int
  | [], most, sum => (most, sum)
  | x :: r, most, sum => bGo r (mx most x.f2) (wrap64 (sum + x.f2))
def bFin (n most sum : Int) : Int := if Int.tmod sum n = 0 then mx most (wrap64 (Int.tdiv sum n)) else mx most (wrap64 (wrap64 (Int.tdiv sum n) + 1))
def boundP (t : List S33) (n : Int) : Int := if n < 1 then 0 else bFin n (bGo t 0 0).1 (bGo t 0 0).2
theorem bprog_l0 (t : List S33) (ht : t.length ≤ 8) (n : Int) (hn : ¬ n < 1) : ∀ (d i : Nat) (most sum : Int), i + d = t.length → Ev (fun k => rescue_Bound.l0 k n most sum t (t.length : Int) (i : Int)) (bFin n (bGo (t.drop i) most sum).1 (bGo (t.drop i) most sum).2) := by
  intro d
  induction d with
  | zero =>
    intro i most sum hi
    rw [List.drop_eq_nil_of_le (by omega)]
    refine Ev.step (f := fun k => some (bFin n most sum)) (fun k => ?_) (Ev.now _)
    simp only [rescue_Bound.l0]
    rw [if_neg (by omega), if_neg (by omega)]
    unfold bFin
    by_cases h : Int.tmod sum n = 0
    · rw [if_pos h, if_pos h]
    · rw [if_neg h, if_neg h]
  | succ d ih =>
    intro i most sum hi
    have hw := wrap_succ i (by omega)
    have hlt : i < t.length := by omega
    have hdr : t.drop i = t.getD i z33 :: t.drop (i + 1) := by rw [List.drop_eq_getElem_cons hlt, getD_eq t z33 i hlt]
    rw [hdr]
    refine Ev.step (f := fun k => rescue_Bound.l0 k n (mx most (t.getD i z33).f2) (wrap64 (sum + (t.getD i z33).f2)) t (t.length : Int) ((i + 1 : Nat) : Int)) (fun k => ?_) (ih (i + 1) _ _ (by omega))
    simp only [rescue_Bound.l0, rd_at, hw]
    rw [if_pos (by omega), if_pos (by omega), if_pos (by omega)]
theorem prog_Bound (l : List S33) (hl : l.length ≤ 8) (n : Int) : Ev (fun k => rescue_Bound.f k l n) (boundP (td l) n) := by
  unfold boundP
  by_cases h : n < 1
  · rw [if_pos h]
    exact Ev.congr (f := fun k => some 0) (fun k => by unfold rescue_Bound.f; rw [if_pos h]) (Ev.now 0)
  · rw [if_neg h]
    refine Ev.congr (f := fun k => rescue_Bound.l0 k n 0 0 (td l) ((td l).length : Int) 0) (fun k => by unfold rescue_Bound.f; rw [if_neg h, needing_f l hl, Option.bind_some]) ?_
    have := bprog_l0 (td l) (Nat.le_trans (td_len l) hl) n h (td l).length 0 0 0 (by omega)
    simpa using this
/-! the search, in plain lists -/
def adv (e : Int → Int) (t s : Int) : Int → Int := fun u => if u = t then e u + s else e u
def mxe (e : Int → Int) : Int := mx2 (mx2 (e 1) (e 2)) (e 3)
def finE (e : Int → Int) : List S33 → List Int → (Int → Int)
  | x :: xs, t :: ts => finE (adv e t x.f2) xs ts
  | _, _ => e
def teams (m : Nat) : List Int := (List.range m).map fun (i : Nat) => (i : Int) + 1
def leaves (m : Nat) : Nat → List (List Int)
  | 0 => [[]]
  | n + 1 => (teams m).flatMap fun t => (leaves m n).map (t :: ·)
def upd (acc : Option (List Int) × Int) (a : List Int) (en : Int) : Option (List Int) × Int := if acc.1.isSome && decide (acc.2 ≤ en) then acc else (some a, en)
def eOf (s : St) : Int → Int := fun u => if u = 1 then s.e1 else if u = 2 then s.e2 else if u = 3 then s.e3 else 0
theorem teams_succ (m : Nat) : teams (m + 1) = teams m ++ [((m : Int) + 1)] := by simp [teams, List.range_succ]
theorem mem_teams {m : Nat} {t : Int} : t ∈ teams m ↔ 1 ≤ t ∧ t ≤ m := by
  simp only [teams, List.mem_map, List.mem_range]
  constructor
  · rintro ⟨i, h, rfl⟩; omega
  · intro h; exact ⟨(t - 1).toNat, by omega, by omega⟩
theorem mem_leaves {m : Nat} : ∀ {n : Nat} {a : List Int}, a ∈ leaves m n ↔ a.length = n ∧ ∀ t ∈ a, 1 ≤ t ∧ t ≤ m
  | 0, a => by
    simp only [leaves, List.mem_singleton]
    constructor
    · rintro rfl; simp
    · intro h; exact List.length_eq_zero_iff.1 h.1
  | n + 1, a => by
    simp only [leaves, List.mem_flatMap, List.mem_map, mem_teams]
    constructor
    · rintro ⟨t, ht, b, hb, rfl⟩
      obtain ⟨h1, h2⟩ := mem_leaves.1 hb
      refine ⟨by simp [h1], fun u hu => ?_⟩
      rcases List.mem_cons.1 hu with rfl | hu
      · exact ht
      · exact h2 u hu
    · rintro ⟨h1, h2⟩
      cases a with
      | nil => simp at h1
      | cons t b => exact ⟨t, h2 t (by simp), b, mem_leaves.2 ⟨by simpa using h1, fun u hu => h2 u (by simp [hu])⟩, rfl⟩
theorem mx2_le {a b c : Int} : mx2 a b ≤ c ↔ a ≤ c ∧ b ≤ c := by unfold mx2; split <;> omega
theorem le_mx2l (a b : Int) : a ≤ mx2 a b := by unfold mx2; split <;> omega
theorem le_mx2r (a b : Int) : b ≤ mx2 a b := by unfold mx2; split <;> omega
theorem mxe_le {e : Int → Int} {c : Int} : mxe e ≤ c ↔ e 1 ≤ c ∧ e 2 ≤ c ∧ e 3 ≤ c := by unfold mxe; rw [mx2_le, mx2_le]; exact and_assoc
theorem le_mxe {e : Int → Int} {t : Int} (h1 : 1 ≤ t) (h3 : t ≤ 3) : e t ≤ mxe e := by
  have := mxe_le.1 (Int.le_refl (mxe e))
  obtain rfl | rfl | rfl : t = 1 ∨ t = 2 ∨ t = 3 := by omega
  · exact this.1
  · exact this.2.1
  · exact this.2.2
theorem mxe_mono {e f : Int → Int} (h : ∀ t, e t ≤ f t) : mxe e ≤ mxe f := mxe_le.2 ⟨Int.le_trans (h 1) (le_mxe (by omega) (by omega)), Int.le_trans (h 2) (le_mxe (by omega) (by omega)), Int.le_trans (h 3) (le_mxe (by omega) (by omega))⟩
theorem adv_le {e : Int → Int} {t s : Int} (hs : 0 ≤ s) (u : Int) : e u ≤ adv e t s u := by unfold adv; split <;> omega
theorem finE_le : ∀ (xs : List S33) (a : List Int) (e : Int → Int), (∀ x ∈ xs, 0 ≤ x.f2) → ∀ u, e u ≤ finE e xs a u
  | [], _, _, _, _ => by simp [finE]
  | _ :: _, [], _, _, _ => by simp [finE]
  | x :: xs, t :: ts, e, h, u => by
    unfold finE
    exact Int.le_trans (adv_le (h x (by simp)) u) (finE_le xs ts (adv e t x.f2) (fun y hy => h y (by simp [hy])) u)
theorem finE_bound : ∀ (xs : List S33) (a : List Int) (e : Int → Int) (c : Int), (∀ x ∈ xs, x.f2 ≤ 86400 ∧ 0 ≤ x.f2) → (∀ u, e u ≤ c) → ∀ u, finE e xs a u ≤ c + 86400 * xs.length
  | [], _, _, _, _, hc, u => by simpa [finE] using hc u
  | x :: xs, [], e, c, _, hc, u => by
    have := hc u
    show e u ≤ _
    simp only [List.length_cons]
    omega
  | x :: xs, t :: ts, e, c, h, hc, u => by
    unfold finE
    have h1 := h x (by simp)
    have := finE_bound xs ts (adv e t x.f2) (c + 86400) (fun y hy => h y (by simp [hy])) (fun v => by unfold adv; have := hc v; split <;> omega) u
    simp only [List.length_cons]
    omega
theorem foldl_fix {α β : Type} (f : α → β → α) (acc : α) (L : List β) (h : ∀ x ∈ L, f acc x = acc) : L.foldl f acc = acc := by
  induction L with
  | nil => rfl
  | cons x t ih => rw [List.foldl_cons, h x (by simp)]; exact ih (fun y hy => h y (by simp [hy]))
theorem eOf_one (s : St) : eOf s 1 = s.e1 := rfl
theorem eOf_two (s : St) : eOf s 2 = s.e2 := rfl
theorem eOf_three (s : St) : eOf s 3 = s.e3 := rfl
theorem lastS_eq (s : St) : lastS s = mxe (eOf s) := rfl
structure Fit (l : List S33) (i : Nat) (s : St) : Prop where
  len : s.tm.length = l.length
  e1 : 0 ≤ s.e1 ∧ s.e1 ≤ 86400 * i
  e2 : 0 ≤ s.e2 ∧ s.e2 ≤ 86400 * i
  e3 : 0 ≤ s.e3 ∧ s.e3 ≤ 86400 * i
/-- what a search has done -/
structure Did (l : List S33) (i : Nat) (s r : St) : Prop where
  len : r.tm.length = l.length
  pre : r.tm.take i = s.tm.take i
  e1 : r.e1 = s.e1
  e2 : r.e2 = s.e2
  e3 : r.e3 = s.e3
def step (l : List S33) (i : Nat) (s : St) (acc : Option (List Int) × Int) (a : List Int) : Option (List Int) × Int := upd acc (s.tm.take i ++ a) (mxe (finE (eOf s) (l.drop i) a))
theorem did_eOf {l : List S33} {i : Nat} {s r : St} (h : Did l i s r) : eOf r = eOf s := by unfold eOf; rw [h.e1, h.e2, h.e3]
theorem try_cutS (l : List S33) (tms rem i : Nat) (s : St) (h : cutS s = true) : tryS l tms rem i s = s := by cases rem <;> simp [tryS, h]
theorem step_fix (l : List S33) (i : Nat) (s : St) (a : List Int) (h : cutS s = true) (hs : ∀ x ∈ l, 0 ≤ x.f2) : step l i s (s.b, s.ls) a = (s.b, s.ls) := by
  unfold step upd
  unfold cutS at h
  rw [Bool.and_eq_true, decide_eq_true_eq] at h
  have h2 : s.ls ≤ mxe (finE (eOf s) (l.drop i) a) := Int.le_trans h.2 (mxe_mono (finE_le _ _ _ (fun x hx => hs x (List.mem_of_mem_drop hx))))
  rw [if_pos (by simp [h.1, h2])]
theorem take_set_succ {α : Type} (l : List α) (i : Nat) (x : α) (h : i < l.length) : (l.set i x).take (i + 1) = l.take i ++ [x] := by
  rw [List.take_succ_eq_append_getElem (by simpa using h), List.take_set_of_le (Nat.le_refl _)]
  simp
theorem tryS_spec (l : List S33) (hl : l.length ≤ 8) (hs : ∀ x ∈ l, 1 ≤ x.f2 ∧ x.f2 ≤ 86400) (tms : Nat) (htm : tms ≤ 3) : ∀ (rem i : Nat) (s : St), i + rem = l.length → Fit l i s →
    Did l i s (tryS l tms rem i s) ∧ ((tryS l tms rem i s).b, (tryS l tms rem i s).ls) = (leaves tms rem).foldl (step l i s) (s.b, s.ls) := by
  intro rem
  induction rem with
  | zero =>
    intro i s hi hf
    cases hc : cutS s with
    | true =>
      rw [try_cutS l tms 0 i s hc]
      exact ⟨⟨hf.len, rfl, rfl, rfl, rfl⟩, (foldl_fix _ _ _ (fun a _ => step_fix l i s a hc (fun x hx => by have := hs x hx; omega))).symm⟩
    | false =>
      have e : tryS l tms 0 i s = { s with b := some s.tm, ls := lastS s } := by simp [tryS, hc]
      rw [e]
      refine ⟨⟨hf.len, rfl, rfl, rfl, rfl⟩, ?_⟩
      have ht : s.tm.take i = s.tm := List.take_of_length_le (by rw [hf.len]; omega)
      have hd : l.drop i = [] := List.drop_eq_nil_of_le (by omega)
      simp only [leaves, List.foldl_cons, List.foldl_nil, step, upd, ht, hd, finE, List.append_nil]
      rw [← lastS_eq]
      unfold cutS at hc
      rw [if_neg (by simp only [hc]; simp)]
  | succ rem ih =>
    intro i s hi hf
    cases hc : cutS s with
    | true =>
      rw [try_cutS l tms (rem + 1) i s hc]
      exact ⟨⟨hf.len, rfl, rfl, rfl, rfl⟩, (foldl_fix _ _ _ (fun a _ => step_fix l i s a hc (fun x hx => by have := hs x hx; omega))).symm⟩
    | false =>
      have e : tryS l tms (rem + 1) i s = loopS (tryS l tms rem (i + 1)) i (rd_T33 l (i : Int)).f2 tms s := by simp [tryS, hc]
      rw [e]
      have hlt : i < l.length := by omega
      have hdr : l.drop i = l.getD i z33 :: l.drop (i + 1) := by rw [List.drop_eq_getElem_cons hlt, getD_eq l z33 i hlt]
      have hx : l.getD i z33 ∈ l := by rw [getD_eq l z33 i hlt]; exact List.getElem_mem hlt
      rw [rd_at]
      have hsec := hs _ hx
      generalize hy : l.getD i z33 = y at *
      have key : ∀ t : Nat, t ≤ tms → Did l i s (loopS (tryS l tms rem (i + 1)) i y.f2 t s) ∧
          ((loopS (tryS l tms rem (i + 1)) i y.f2 t s).b, (loopS (tryS l tms rem (i + 1)) i y.f2 t s).ls) = ((teams t).flatMap fun t => (leaves tms rem).map (t :: ·)).foldl (step l i s) (s.b, s.ls) := by
        intro t
        induction t with
        | zero => intro _; exact ⟨⟨hf.len, rfl, rfl, rfl, rfl⟩, by simp [teams, loopS]⟩
        | succ t iht =>
          intro ht
          obtain ⟨hd, hb⟩ := iht (by omega)
          generalize hs1 : loopS (tryS l tms rem (i + 1)) i y.f2 t s = s1 at *
          have e2 : loopS (tryS l tms rem (i + 1)) i y.f2 (t + 1) s = bck (t + 1) y.f2 (tryS l tms rem (i + 1) (fwd i (t + 1) y.f2 s1)) := by rw [← hs1]; rfl
          rw [e2, teams_succ, List.flatMap_append, List.foldl_append, ← hb]
          simp only [List.flatMap_cons, List.flatMap_nil, List.append_nil, List.foldl_map]
          have hlen1 := hd.len
          have hi1 : i < s1.tm.length := by omega
          have b1 := hf.e1
          have b2 := hf.e2
          have b3 := hf.e3
          have d1 := hd.e1
          have d2 := hd.e2
          have d3 := hd.e3
          have hi8 : i ≤ 8 := by omega
          -- one team
          have team : ∀ (t1 : Int) (f : St), f = fwd i (t + 1) y.f2 s1 → t1 = (t : Int) + 1 → f.tm = s1.tm.set i t1 → eOf f = adv (eOf s) t1 y.f2 → f.b = s1.b → f.ls = s1.ls → Fit l (i + 1) f →
              (∀ r, Did l (i + 1) f r → Did l i s (bck (t + 1) y.f2 r)) → (∀ r, (bck (t + 1) y.f2 r).b = r.b ∧ (bck (t + 1) y.f2 r).ls = r.ls) →
              Did l i s (bck (t + 1) y.f2 (tryS l tms rem (i + 1) (fwd i (t + 1) y.f2 s1))) ∧ ((bck (t + 1) y.f2 (tryS l tms rem (i + 1) (fwd i (t + 1) y.f2 s1))).b, (bck (t + 1) y.f2 (tryS l tms rem (i + 1) (fwd i (t + 1) y.f2 s1))).ls) =
                (leaves tms rem).foldl (fun acc a => step l i s acc (((t : Int) + 1) :: a)) (s1.b, s1.ls) := by
            intro t1 f hf1 ht1 htm1 he1 hfb hfl hfit hback hkeep
            obtain ⟨q1, q2⟩ := ih (i + 1) f (by omega) hfit
            rw [← hf1]
            refine ⟨hback _ q1, ?_⟩
            rw [(hkeep _).1, (hkeep _).2, q2, hfb, hfl]
            congr 1
            funext acc a
            unfold step
            rw [htm1, take_set_succ s1.tm i t1 hi1, hd.pre, he1, hdr, List.append_assoc]
            have : finE (eOf s) (y :: l.drop (i + 1)) (((t : Int) + 1) :: a) = finE (adv (eOf s) t1 y.f2) (l.drop (i + 1)) a := by rw [ht1]; rfl
            rw [this, ht1]
            rfl
          have preOf : ∀ (t1 : Int) (r : St), r.tm.length = l.length → r.tm.take (i + 1) = (s1.tm.set i t1).take (i + 1) → r.tm.take i = s.tm.take i := by
            intro t1 r hr1 hr2
            have h1 : (r.tm.take (i + 1)).take i = ((s1.tm.set i t1).take (i + 1)).take i := by rw [hr2]
            rw [List.take_take, List.take_take, Nat.min_eq_left (by omega), List.take_set_of_le (Nat.le_refl _)] at h1
            rw [h1, hd.pre]
          obtain rfl | rfl | rfl : t = 0 ∨ t = 1 ∨ t = 2 := by omega
          · have w1 : wrap64 (s1.e1 + y.f2) = s.e1 + y.f2 := by rw [d1, wrap_id (by omega) (by omega)]
            refine team 1 { s1 with tm := s1.tm.set i 1, e1 := wrap64 (s1.e1 + y.f2) } rfl rfl rfl ?_ rfl rfl ⟨by simpa using hlen1, by show 0 ≤ wrap64 _ ∧ wrap64 _ ≤ _; rw [w1]; omega, by show 0 ≤ s1.e2 ∧ s1.e2 ≤ _; omega, by show 0 ≤ s1.e3 ∧ s1.e3 ≤ _; omega⟩ ?_ (fun r => ⟨rfl, rfl⟩)
            · funext u
              simp only [eOf, adv, w1, d2, d3]
              by_cases h1 : u = 1
              · subst h1; simp
              · simp [h1]
            · intro r q
              have r1 := q.e1
              have r2 := q.e2
              have r3 := q.e3
              refine ⟨q.len, preOf 1 r q.len q.pre, ?_, by show r.e2 = s.e2; rw [r2]; exact d2, by show r.e3 = s.e3; rw [r3]; exact d3⟩
              show wrap64 (r.e1 - y.f2) = s.e1
              rw [r1]
              show wrap64 (wrap64 (s1.e1 + y.f2) - y.f2) = s.e1
              rw [w1, wrap_id (by omega) (by omega)]
              omega
          · have w1 : wrap64 (s1.e2 + y.f2) = s.e2 + y.f2 := by rw [d2, wrap_id (by omega) (by omega)]
            refine team 2 { s1 with tm := s1.tm.set i 2, e2 := wrap64 (s1.e2 + y.f2) } rfl rfl rfl ?_ rfl rfl ⟨by simpa using hlen1, by show 0 ≤ s1.e1 ∧ s1.e1 ≤ _; omega, by show 0 ≤ wrap64 _ ∧ wrap64 _ ≤ _; rw [w1]; omega, by show 0 ≤ s1.e3 ∧ s1.e3 ≤ _; omega⟩ ?_ (fun r => ⟨rfl, rfl⟩)
            · funext u
              simp only [eOf, adv, w1, d1, d3]
              by_cases h2 : u = 2
              · subst h2; simp
              · simp [h2]
            · intro r q
              have r1 := q.e1
              have r2 := q.e2
              have r3 := q.e3
              refine ⟨q.len, preOf 2 r q.len q.pre, by show r.e1 = s.e1; rw [r1]; exact d1, ?_, by show r.e3 = s.e3; rw [r3]; exact d3⟩
              show wrap64 (r.e2 - y.f2) = s.e2
              rw [r2]
              show wrap64 (wrap64 (s1.e2 + y.f2) - y.f2) = s.e2
              rw [w1, wrap_id (by omega) (by omega)]
              omega
          · have w1 : wrap64 (s1.e3 + y.f2) = s.e3 + y.f2 := by rw [d3, wrap_id (by omega) (by omega)]
            refine team 3 { s1 with tm := s1.tm.set i 3, e3 := wrap64 (s1.e3 + y.f2) } rfl rfl rfl ?_ rfl rfl ⟨by simpa using hlen1, by show 0 ≤ s1.e1 ∧ s1.e1 ≤ _; omega, by show 0 ≤ s1.e2 ∧ s1.e2 ≤ _; omega, by show 0 ≤ wrap64 _ ∧ wrap64 _ ≤ _; rw [w1]; omega⟩ ?_ (fun r => ⟨rfl, rfl⟩)
            · funext u
              simp only [eOf, adv, w1, d1, d2]
              by_cases h3 : u = 3
              · subst h3; simp
              · simp [h3]
            · intro r q
              have r1 := q.e1
              have r2 := q.e2
              have r3 := q.e3
              refine ⟨q.len, preOf 3 r q.len q.pre, by show r.e1 = s.e1; rw [r1]; exact d1, by show r.e2 = s.e2; rw [r2]; exact d2, ?_⟩
              show wrap64 (r.e3 - y.f2) = s.e3
              rw [r3]
              show wrap64 (wrap64 (s1.e3 + y.f2) - y.f2) = s.e3
              rw [w1, wrap_id (by omega) (by omega)]
              omega
      have := key tms (Nat.le_refl _)
      exact this
/-! the first of the least -/
theorem foldl_first {α : Type} (en : α → Int) (f : Option α × Int → α → Option α × Int) (hf : ∀ acc a, f acc a = if acc.1.isSome && decide (acc.2 ≤ en a) then acc else (some a, en a)) :
    ∀ (L : List α) (b : α), ∃ a, L.foldl f (some b, en b) = (some a, en a) ∧ (a = b ∨ a ∈ L) ∧ en a ≤ en b ∧ ∀ x ∈ L, en a ≤ en x
  | [], b => ⟨b, rfl, .inl rfl, Int.le_refl _, by simp⟩
  | x :: r, b => by
    rw [List.foldl_cons, hf]
    by_cases h : en b ≤ en x
    · rw [if_pos (by simp [h])]
      obtain ⟨a, h1, h2, h3, h4⟩ := foldl_first en f hf r b
      refine ⟨a, h1, ?_, h3, fun y hy => ?_⟩
      · rcases h2 with h2 | h2
        · exact .inl h2
        · exact .inr (by simp [h2])
      · rcases List.mem_cons.1 hy with rfl | hy
        · omega
        · exact h4 y hy
    · rw [if_neg (by simp [h])]
      obtain ⟨a, h1, h2, h3, h4⟩ := foldl_first en f hf r x
      refine ⟨a, h1, ?_, by omega, fun y hy => ?_⟩
      · rcases h2 with h2 | h2
        · exact .inr (by simp [h2])
        · exact .inr (by simp [h2])
      · rcases List.mem_cons.1 hy with rfl | hy
        · exact h3
        · exact h4 y hy
def zeroE : Int → Int := fun _ => 0
/-- when an assignment is done -/
def endOf (t : List S33) (a : List Int) : Int := mxe (finE zeroE t a)
def jobsL (e : Int → Int) : List S33 → List Int → List S35
  | x :: xs, t :: ts => ⟨t, x.f0, e t, e t + x.f2⟩ :: jobsL (adv e t x.f2) xs ts
  | _, _ => []
/-- the first of the assignments that end earliest -/
def bestOf (m : Nat) (t : List S33) : Option (List Int) × Int := (leaves m t.length).foldl (fun acc a => upd acc a (endOf t a)) (none, 0)
theorem leaves_ne (m : Nat) (hm : 1 ≤ m) : ∀ n, ∃ b r, leaves m n = b :: r
  | 0 => ⟨[], [], rfl⟩
  | n + 1 => by
    obtain ⟨b, r, h⟩ := leaves_ne m hm n
    obtain ⟨m, rfl⟩ : ∃ k, m = k + 1 := ⟨m - 1, by omega⟩
    have : teams (m + 1) = 1 :: (List.range m).map (fun (i : Nat) => ((i + 1 : Nat) : Int) + 1) := by simp [teams, List.range_succ_eq_map, Function.comp_def]
    simp only [leaves, this, h, List.flatMap_cons, List.map_cons, List.cons_append]
    exact ⟨_, _, rfl⟩
theorem bestOf_spec (m : Nat) (hm : 1 ≤ m) (t : List S33) : ∃ a, bestOf m t = (some a, endOf t a) ∧ a ∈ leaves m t.length ∧ ∀ x ∈ leaves m t.length, endOf t a ≤ endOf t x := by
  obtain ⟨b, r, h⟩ := leaves_ne m hm t.length
  unfold bestOf
  rw [h, List.foldl_cons]
  have e : upd (none, 0) b (endOf t b) = (some b, endOf t b) := rfl
  rw [e]
  obtain ⟨a, h1, h2, h3, h4⟩ := foldl_first (endOf t) (fun acc a => upd acc a (endOf t a)) (fun acc a => rfl) r b
  refine ⟨a, h1, ?_, fun x hx => ?_⟩
  · rcases h2 with rfl | h2
    · simp
    · simp [h2]
  · rcases List.mem_cons.1 hx with rfl | hx
    · exact h3
    · exact h4 x hx
theorem adv_one (e : Int → Int) (t s : Int) : adv e t s t = e t + s := by simp [adv]
theorem jobsGo_eq (l : List S33) (hl : l.length ≤ 8) (hs : ∀ x ∈ l, 1 ≤ x.f2 ∧ x.f2 ≤ 86400) (a : List Int) (ha : a.length = l.length) (ha3 : ∀ t ∈ a, 1 ≤ t ∧ t ≤ 3) : ∀ (d i : Nat) (js : List S35) (e : Int → Int), i + d = l.length → (∀ u, 0 ≤ e u ∧ e u ≤ 86400 * i) →
    jobsGo l a d i js (e 1) (e 2) (e 3) = some (js ++ jobsL e (l.drop i) (a.drop i)) := by
  intro d
  induction d with
  | zero =>
    intro i js e hi he
    rw [List.drop_eq_nil_of_le (by omega)]
    simp [jobsGo, jobsL]
  | succ d ih =>
    intro i js e hi he
    have hlt : i < l.length := by omega
    have hdr : l.drop i = l.getD i z33 :: l.drop (i + 1) := by rw [List.drop_eq_getElem_cons hlt, getD_eq l z33 i hlt]
    have hda : a.drop i = a.getD i 0 :: a.drop (i + 1) := by rw [List.drop_eq_getElem_cons (by omega), getD_eq a 0 i (by omega)]
    have hx : l.getD i z33 ∈ l := by rw [getD_eq l z33 i hlt]; exact List.getElem_mem hlt
    have ht : a.getD i 0 ∈ a := by rw [getD_eq a 0 i (by omega)]; exact List.getElem_mem _
    have hsec := hs _ hx
    have htt := ha3 _ ht
    rw [hdr, hda]
    simp only [jobsGo, rd_at]
    generalize l.getD i z33 = y at *
    generalize a.getD i 0 = t at *
    have he' : ∀ u, 0 ≤ adv e t y.f2 u ∧ adv e t y.f2 u ≤ 86400 * ((i + 1 : Nat) : Int) := fun u => by
      have := he u
      unfold adv
      split <;> omega
    have hwr : ∀ u, wrap64 (e u + y.f2) = e u + y.f2 := fun u => by
      have := he u
      exact wrap_id (by omega) (by omega)
    have hcons : ∀ js, js ++ jobsL e (y :: l.drop (i + 1)) (t :: a.drop (i + 1)) = (js ++ [⟨t, y.f0, e t, e t + y.f2⟩]) ++ jobsL (adv e t y.f2) (l.drop (i + 1)) (a.drop (i + 1)) := fun js => by simp [jobsL]
    rw [hcons]
    have := ih (i + 1) (js ++ [⟨t, y.f0, e t, e t + y.f2⟩]) (adv e t y.f2) (by omega) he'
    obtain rfl | rfl | rfl : t = 1 ∨ t = 2 ∨ t = 3 := by omega
    · rw [if_pos rfl, hwr]
      rw [← this]
      simp [adv]
    · rw [if_neg (by omega), if_pos rfl, hwr]
      rw [← this]
      simp [adv]
    · rw [if_neg (by omega), if_neg (by omega), if_pos rfl, hwr]
      rw [← this]
      simp [adv]
theorem td_mem {l : List S33} {x : S33} (h : x ∈ td l) : x ∈ l ∧ x.f1 ≠ 0 := by
  unfold td at h
  rw [List.mem_filter] at h
  exact ⟨h.1, by have := h.2; simpa [needP] using this⟩
theorem td_secs {l : List S33} (hg : Good l) : ∀ x ∈ td l, 1 ≤ x.f2 ∧ x.f2 ≤ 86400 := fun x hx => hg.secs x (td_mem hx).1
/-- what Plan makes -/
theorem plan_spec (l : List S33) (hg : Good l) (m : Nat) (hm : 1 ≤ m) (hm3 : m ≤ 3) : ∃ a, bestOf m (td l) = (some a, endOf (td l) a) ∧ a ∈ leaves m (td l).length ∧ (∀ x ∈ leaves m (td l).length, endOf (td l) a ≤ endOf (td l) x) ∧
    rescue_Plan.f l (m : Int) = some (jobsL zeroE (td l) a, endOf (td l) a, 0) := by
  obtain ⟨a, h1, h2, h3⟩ := bestOf_spec m hm (td l)
  refine ⟨a, h1, h2, h3, ?_⟩
  have hl8 : (td l).length ≤ 8 := Nat.le_trans (td_len l) hg.len
  unfold rescue_Plan.f
  rw [if_neg (by omega), needing_f l hg.len, Option.bind_some]
  by_cases h0 : (td l).length = 0
  · rw [if_pos h0]
    have e1 : td l = [] := List.length_eq_zero_iff.1 h0
    rw [e1] at h2 ⊢
    have e2 : a = [] := by simpa [leaves] using h2
    subst e2
    rfl
  · rw [if_neg h0]
    obtain ⟨hal, ha3⟩ := mem_leaves.1 h2
    have hf : Fit (td l) 0 (st0 (td l).length) := ⟨by simp [st0], by simp [st0], by simp [st0], by simp [st0]⟩
    obtain ⟨_, hb⟩ := tryS_spec (td l) hl8 (td_secs hg) m hm3 (td l).length 0 (st0 (td l).length) (by omega) hf
    have hfun : step (td l) 0 (st0 (td l).length) = fun acc a => upd acc a (endOf (td l) a) := by
      funext acc a
      unfold step endOf
      have : eOf (st0 (td l).length) = zeroE := by funext u; simp [eOf, st0, zeroE]
      rw [this]
      simp
    rw [hfun] at hb
    have hb2 : ((tryS (td l) m (td l).length 0 (st0 (td l).length)).b, (tryS (td l) m (td l).length 0 (st0 (td l).length)).ls) = (some a, endOf (td l) a) := by rw [hb]; exact h1
    have e1 := congrArg Prod.fst hb2
    have e2 := congrArg Prod.snd hb2
    simp only at e1 e2
    unfold planP
    rw [Int.toNat_natCast, e1, e2, Option.bind_some]
    have := jobsGo_eq (td l) hl8 (td_secs hg) a hal (fun t ht => by have := ha3 t ht; omega) (td l).length 0 [] zeroE (by omega) (fun u => by simp [zeroE])
    rw [show (zeroE 1) = 0 from rfl, show (zeroE 2) = 0 from rfl, show (zeroE 3) = 0 from rfl] at this
    rw [this]
    rfl
theorem endOf_nonneg (t : List S33) (ht : ∀ x ∈ t, 1 ≤ x.f2 ∧ x.f2 ≤ 86400) (a : List Int) : 0 ≤ endOf t a := by
  have h1 : mxe zeroE ≤ mxe (finE zeroE t a) := mxe_mono (finE_le t a zeroE (fun x hx => by have := ht x hx; omega))
  have h2 : mxe zeroE = 0 := rfl
  unfold endOf
  omega
theorem jobsL_length : ∀ (t : List S33) (a : List Int) (e : Int → Int), a.length = t.length → (jobsL e t a).length = t.length
  | [], a, e, h => by cases a <;> rfl
  | x :: xs, [], e, h => by simp at h
  | x :: xs, u :: us, e, h => by simp only [jobsL, List.length_cons]; rw [jobsL_length xs us _ (by simpa using h)]
theorem plan_out_f (l : List S33) (m : Int) (h : m < 1 ∨ 3 < m) : rescue_Plan.f l m = some ([], 0, 2) := by unfold rescue_Plan.f; rw [if_pos h]
/-! plans that are right -/
def lastP (js : List S35) : Int := js.foldl (fun n j => mx n j.f3) 0
theorem mx_le {a b c : Int} : mx a b ≤ c ↔ a ≤ c ∧ b ≤ c := by unfold mx; split <;> omega
theorem foldl_mx_le : ∀ (js : List S35) (n c : Int), js.foldl (fun n j => mx n j.f3) n ≤ c ↔ n ≤ c ∧ ∀ j ∈ js, j.f3 ≤ c
  | [], n, c => by simp
  | x :: r, n, c => by
    rw [List.foldl_cons, foldl_mx_le r, mx_le]
    simp only [List.mem_cons, forall_eq_or_imp]
    exact and_assoc
theorem le_lastP {js : List S35} {j : S35} (h : j ∈ js) : j.f3 ≤ lastP js := ((foldl_mx_le js 0 (lastP js)).1 (Int.le_refl _)).2 j h
theorem lastP_nonneg (js : List S35) : 0 ≤ lastP js := ((foldl_mx_le js 0 (lastP js)).1 (Int.le_refl _)).1
theorem mx_adv (e : Int → Int) (he : ∀ u, 0 ≤ e u) (u s : Int) (hu : 1 ≤ u ∧ u ≤ 3) (hs : 0 ≤ s) : mx (mxe e) (e u + s) = mxe (adv e u s) := by
  have e1 := he 1
  have e2 := he 2
  have e3 := he 3
  obtain rfl | rfl | rfl : u = 1 ∨ u = 2 ∨ u = 3 := by omega
  all_goals
    simp only [mx, mxe, mx2, adv]
    simp only [Int.reduceEq, if_true, if_false]
    repeat' split
    all_goals omega
theorem adv_nonneg {e : Int → Int} (he : ∀ u, 0 ≤ e u) (t s : Int) (hs : 0 ≤ s) (u : Int) : 0 ≤ adv e t s u := Int.le_trans (he u) (adv_le hs u)
theorem last_jobs : ∀ (t : List S33) (a : List Int) (e : Int → Int), (∀ x ∈ t, 0 ≤ x.f2) → (∀ u ∈ a, 1 ≤ u ∧ u ≤ 3) → (∀ u, 0 ≤ e u) → (jobsL e t a).foldl (fun n j => mx n j.f3) (mxe e) = mxe (finE e t a)
  | [], a, e, _, _, _ => by cases a <;> rfl
  | x :: xs, [], e, _, _, _ => rfl
  | x :: xs, u :: us, e, h1, h2, h3 => by
    simp only [jobsL, List.foldl_cons, finE]
    rw [mx_adv e h3 u x.f2 (h2 u (by simp)) (h1 x (by simp))]
    exact last_jobs xs us _ (fun y hy => h1 y (by simp [hy])) (fun v hv => h2 v (by simp [hv])) (adv_nonneg h3 _ _ (h1 x (by simp)))
theorem lastP_jobs (t : List S33) (a : List Int) (h1 : ∀ x ∈ t, 0 ≤ x.f2) (h2 : ∀ u ∈ a, 1 ≤ u ∧ u ≤ 3) : lastP (jobsL zeroE t a) = endOf t a := last_jobs t a zeroE h1 h2 (fun _ => Int.le_refl _)
/-- what a valid plan is -/
structure VP (t : List S33) (m : Int) (js : List S35) : Prop where
  len : js.length = t.length
  good : ∀ i, i < js.length → jobBad2 (t.find? (hasId (js.getD i z35).f1)) m (js.getD i z35) = false
  apart : ∀ i k, k < i → i < js.length → hitB (js.getD i z35) (js.getD k z35) = false
theorem validGo_iff (t : List S33) (m : Int) (js : List S35) : ∀ (d i : Nat), i + d = js.length → (validGo t m js d i = true ↔ ∀ j, i ≤ j → j < js.length → jobBad2 (t.find? (hasId (js.getD j z35).f1)) m (js.getD j z35) = false ∧ (js.take j).any (hitB (js.getD j z35)) = false) := by
  intro d
  induction d with
  | zero => intro i hi; exact ⟨fun _ j h1 h2 => by omega, fun _ => rfl⟩
  | succ d ih =>
    intro i hi
    have hg : validGo t m js (d + 1) i = if jobBad2 (t.find? (hasId (js.getD i z35).f1)) m (js.getD i z35) then false else if (js.take i).any (hitB (js.getD i z35)) then false else validGo t m js d (i + 1) := by rw [← jobBad_eq, ← rd_at5]; rfl
    rw [hg]
    have h := ih (i + 1) (by omega)
    cases b1 : jobBad2 (t.find? (hasId (js.getD i z35).f1)) m (js.getD i z35) with
    | true => simp only [if_true]; exact ⟨fun h => (by cases h), fun h => by have := (h i (Nat.le_refl _) (by omega)).1; rw [b1] at this; cases this⟩
    | false =>
      cases b2 : (js.take i).any (hitB (js.getD i z35)) with
      | true => simp only [if_true, Bool.false_eq_true, if_false]; exact ⟨fun h => (by cases h), fun h => by have := (h i (Nat.le_refl _) (by omega)).2; rw [b2] at this; cases this⟩
      | false =>
        simp only [Bool.false_eq_true, if_false]
        rw [h]
        constructor
        · intro hh j h1 h2
          by_cases e : j = i
          · subst e; exact ⟨b1, b2⟩
          · exact hh j (by omega) h2
        · intro hh j h1 h2; exact hh j (by omega) h2
theorem any_take_false {α : Type} (p : α → Bool) (l : List α) (d : α) (i : Nat) (hi : i ≤ l.length) : (l.take i).any p = false ↔ ∀ k, k < i → p (l.getD k d) = false := by
  rw [List.any_eq_false]
  constructor
  · intro h k hk
    have hl : k < l.length := by omega
    have := h l[k] (List.mem_take_iff_getElem.2 ⟨k, by omega, rfl⟩)
    rw [getD_eq l d k hl]
    simpa using this
  · intro h x hx
    obtain ⟨k, hk, rfl⟩ := List.mem_take_iff_getElem.1 hx
    have := h k (by omega)
    rw [getD_eq l d k (by omega)] at this
    simpa using this
theorem validP_iff (t : List S33) (m : Int) (js : List S35) : validP t m js = true ↔ VP t m js := by
  unfold validP
  by_cases hl : js.length = t.length
  · rw [if_pos hl, validGo_iff t m js js.length 0 (by omega)]
    constructor
    · intro h
      refine ⟨hl, fun i hi => (h i (Nat.zero_le _) hi).1, fun i k hk hi => ?_⟩
      exact (any_take_false _ js z35 i (by omega)).1 (h i (Nat.zero_le _) hi).2 k hk
    · intro h j _ hj
      exact ⟨h.good j hj, (any_take_false _ js z35 j (by omega)).2 (fun k hk => h.apart j k hk hj)⟩
  · rw [if_neg hl]
    exact ⟨fun h => (by cases h), fun h => absurd h.len hl⟩
/-! sections of their own IDs -/
def Own (t : List S33) : Prop := t.Pairwise fun x y => x.f0 ≠ y.f0
theorem own_of_good {l : List S33} (hg : Good l) : Own l := by
  unfold Own
  rw [List.pairwise_iff_getElem]
  intro i j hi hj hij
  have := hg.apart i j hij hj
  rwa [getD_eq l z33 i hi, getD_eq l z33 j hj] at this
theorem own_td {l : List S33} (hg : Good l) : Own (td l) := List.Pairwise.filter _ (own_of_good hg)
theorem own_inj {t : List S33} (h : Own t) {x y : S33} (hx : x ∈ t) (hy : y ∈ t) (e : x.f0 = y.f0) : x = y := by
  induction t with
  | nil => cases hx
  | cons z r ih =>
    obtain ⟨h1, h2⟩ := List.pairwise_cons.1 h
    rcases List.mem_cons.1 hx with ex | hx'
    · rcases List.mem_cons.1 hy with ey | hy'
      · rw [ex, ey]
      · exact absurd (by rw [← ex]; exact e) (h1 y hy')
    · rcases List.mem_cons.1 hy with ey | hy'
      · exact absurd (by rw [← ey]; exact e.symm) (h1 x hx')
      · exact ih h2 hx' hy'
theorem find_own {t : List S33} (h : Own t) {x : S33} (hx : x ∈ t) : t.find? (hasId x.f0) = some x := by
  cases e : t.find? (hasId x.f0) with
  | none =>
    rw [List.find?_eq_none] at e
    exact absurd (beq_iff_eq.2 rfl) (e x hx)
  | some y =>
    have h1 := List.mem_of_find?_eq_some e
    have h2 : y.f0 = x.f0 := beq_iff_eq.1 (show hasId x.f0 y = true from List.find?_some e)
    rw [own_inj h h1 hx h2]
/-! the jobs of an assignment are a plan -/
theorem jobsL_getD : ∀ (t : List S33) (a : List Int) (e : Int → Int) (i : Nat), a.length = t.length → i < t.length →
    (jobsL e t a).getD i z35 = ⟨a.getD i 0, (t.getD i z33).f0, finE e (t.take i) (a.take i) (a.getD i 0), finE e (t.take i) (a.take i) (a.getD i 0) + (t.getD i z33).f2⟩
  | x :: xs, u :: us, e, 0, _, _ => rfl
  | x :: xs, u :: us, e, i + 1, h, hi => by
    have := jobsL_getD xs us (adv e u x.f2) i (by simpa using h) (by simpa using hi)
    simp only [jobsL, List.getD_cons_succ, List.take_succ_cons, finE]
    exact this
theorem finE_take_succ : ∀ (t : List S33) (a : List Int) (e : Int → Int) (i : Nat), a.length = t.length → i < t.length → finE e (t.take (i + 1)) (a.take (i + 1)) = adv (finE e (t.take i) (a.take i)) (a.getD i 0) (t.getD i z33).f2
  | x :: xs, u :: us, e, 0, _, _ => by simp [finE]
  | x :: xs, u :: us, e, i + 1, h, hi => by
    have := finE_take_succ xs us (adv e u x.f2) i (by simpa using h) (by simpa using hi)
    simp only [List.take_succ_cons, finE, List.getD_cons_succ] at this ⊢
    exact this
theorem finE_take_mono (t : List S33) (a : List Int) (e : Int → Int) (hs : ∀ x ∈ t, 0 ≤ x.f2) (hl : a.length = t.length) (i : Nat) : ∀ (d : Nat), i + d ≤ t.length → ∀ u, finE e (t.take i) (a.take i) u ≤ finE e (t.take (i + d)) (a.take (i + d)) u
  | 0, _, u => Int.le_refl _
  | d + 1, h, u => by
    have h1 := finE_take_mono t a e hs hl i d (by omega) u
    have h2 := finE_take_succ t a e (i + d) hl (by omega)
    rw [show i + (d + 1) = (i + d) + 1 by omega, h2]
    have hx : t.getD (i + d) z33 ∈ t := by rw [getD_eq t z33 (i + d) (by omega)]; exact List.getElem_mem _
    exact Int.le_trans h1 (adv_le (hs _ hx) u)
theorem finE_take_ge (t : List S33) (a : List Int) (e : Int → Int) (hs : ∀ x ∈ t, 0 ≤ x.f2) (u : Int) (i : Nat) : e u ≤ finE e (t.take i) (a.take i) u := finE_le _ _ e (fun x hx => hs x (List.mem_of_mem_take hx)) u
theorem finE_take_bound (t : List S33) (a : List Int) (hs : ∀ x ∈ t, 1 ≤ x.f2 ∧ x.f2 ≤ 86400) (ht : t.length ≤ 8) (u : Int) (i : Nat) : finE zeroE (t.take i) (a.take i) u ≤ 691200 := by
  have := finE_bound (t.take i) (a.take i) zeroE 0 (fun x hx => by have := hs x (List.mem_of_mem_take hx); omega) (fun _ => Int.le_refl _) u
  have h2 : (t.take i).length ≤ 8 := by rw [List.length_take]; omega
  omega
theorem plan_valid (t : List S33) (ho : Own t) (ht : t.length ≤ 8) (hs : ∀ x ∈ t, 1 ≤ x.f2 ∧ x.f2 ≤ 86400) (m : Nat) (hm3 : m ≤ 3) (a : List Int) (ha : a ∈ leaves m t.length) : validP t m (jobsL zeroE t a) = true := by
  obtain ⟨hl, ha3⟩ := mem_leaves.1 ha
  have hs0 : ∀ x ∈ t, 0 ≤ x.f2 := fun x hx => by have := hs x hx; omega
  have hjl := jobsL_length t a zeroE hl
  rw [validP_iff]
  refine ⟨hjl, fun i hi => ?_, fun i k hk hi => ?_⟩
  · rw [hjl] at hi
    have hx : t.getD i z33 ∈ t := by rw [getD_eq t z33 i hi]; exact List.getElem_mem _
    have hu : a.getD i 0 ∈ a := by rw [getD_eq a 0 i (by omega)]; exact List.getElem_mem _
    have h1 := hs _ hx
    have h2 := ha3 _ hu
    have h3 := finE_take_ge t a zeroE hs0 (a.getD i 0) i
    have h4 := finE_take_bound t a hs ht (a.getD i 0) i
    have h5 : zeroE (a.getD i 0) = 0 := rfl
    rw [jobsL_getD t a zeroE i hl hi]
    simp only
    rw [find_own ho hx]
    generalize finE zeroE (t.take i) (a.take i) (a.getD i 0) = E at *
    simp only [jobBad2]
    have hw : wrap64 (E + (t.getD i z33).f2 - E) = (t.getD i z33).f2 := by rw [wrap_id (by omega) (by omega)]; omega
    rw [hw, decide_eq_false (by omega), decide_eq_false (by omega), decide_eq_false (by omega), decide_eq_false (by omega)]
    simp
  · rw [hjl] at hi
    rw [jobsL_getD t a zeroE i hl hi, jobsL_getD t a zeroE k hl (by omega)]
    have hne : (t.getD k z33).f0 ≠ (t.getD i z33).f0 := by
      have := (List.pairwise_iff_getElem.1 ho) k i (by omega) hi hk
      rwa [getD_eq t z33 i hi, getD_eq t z33 k (by omega)]
    have hap : apB ⟨a.getD k 0, (t.getD k z33).f0, finE zeroE (t.take k) (a.take k) (a.getD k 0), finE zeroE (t.take k) (a.take k) (a.getD k 0) + (t.getD k z33).f2⟩ ⟨a.getD i 0, (t.getD i z33).f0, finE zeroE (t.take i) (a.take i) (a.getD i 0), finE zeroE (t.take i) (a.take i) (a.getD i 0) + (t.getD i z33).f2⟩ = true := by
      unfold apB
      by_cases hu : a.getD k 0 = a.getD i 0
      · have h1 := finE_take_mono t a zeroE hs0 hl (k + 1) (i - (k + 1)) (by omega) (a.getD i 0)
        rw [show k + 1 + (i - (k + 1)) = i by omega, finE_take_succ t a zeroE k hl (by omega), hu, adv_one] at h1
        simp only [hu]
        rw [decide_eq_true h1]
        simp
      · simp only [bne_iff_ne.2 hu, Bool.true_or]
    unfold hitB
    rw [hap]
    simp only [Bool.not_true, Bool.or_false]
    exact beq_eq_false_iff_ne.2 hne
/-! no plan ends earlier -/
def lenSum : List S35 → Int
  | [] => 0
  | j :: r => (j.f3 - j.f2) + lenSum r
def cut (L : Nat) (j : S35) : Int := (if j.f3 < L then j.f3 else L) - (if j.f2 < L then j.f2 else (L : Int))
def cutSum (L : Nat) : List S35 → Int
  | [] => 0
  | j :: r => cut L j + cutSum L r
def Far (x y : S35) : Prop := x.f3 ≤ y.f2 ∨ y.f3 ≤ x.f2
def onB (L : Nat) (j : S35) : Int := if j.f2 ≤ L ∧ (L : Int) < j.f3 then 1 else 0
def onSum (L : Nat) : List S35 → Int
  | [] => 0
  | j :: r => onB L j + onSum L r
theorem cut_succ (L : Nat) (j : S35) (h : j.f2 ≤ j.f3) : cut (L + 1) j = cut L j + onB L j := by
  unfold cut onB
  repeat' split
  all_goals omega
theorem cutSum_succ (L : Nat) : ∀ (js : List S35), (∀ j ∈ js, j.f2 ≤ j.f3) → cutSum (L + 1) js = cutSum L js + onSum L js
  | [], _ => rfl
  | j :: r, h => by
    simp only [cutSum, onSum]
    rw [cut_succ L j (h j (by simp)), cutSum_succ L r (fun x hx => h x (by simp [hx]))]
    omega
theorem onSum_zero (L : Nat) : ∀ (js : List S35), (∀ j ∈ js, onB L j = 0) → onSum L js = 0
  | [], _ => rfl
  | j :: r, h => by simp only [onSum]; rw [h j (by simp), onSum_zero L r (fun x hx => h x (by simp [hx]))]; rfl
theorem onSum_le (L : Nat) : ∀ (js : List S35), js.Pairwise Far → onSum L js ≤ 1
  | [], _ => by simp [onSum]
  | j :: r, h => by
    obtain ⟨h1, h2⟩ := List.pairwise_cons.1 h
    simp only [onSum]
    by_cases hj : j.f2 ≤ L ∧ (L : Int) < j.f3
    · have : onSum L r = 0 := onSum_zero L r (fun x hx => by
        have := h1 x hx
        unfold Far at this
        unfold onB
        rw [if_neg (by omega)])
      unfold onB
      rw [if_pos hj, this]
      omega
    · have := onSum_le L r h2
      unfold onB
      rw [if_neg hj]
      omega
theorem cutSum_le (js : List S35) (h1 : ∀ j ∈ js, 0 ≤ j.f2 ∧ j.f2 ≤ j.f3) (h2 : js.Pairwise Far) : ∀ L : Nat, cutSum L js ≤ L
  | 0 => by
    have : cutSum 0 js = 0 := by
      clear h2
      induction js with
      | nil => rfl
      | cons j r ih =>
        have hj := h1 j (by simp)
        simp only [cutSum]
        rw [ih (fun x hx => h1 x (by simp [hx]))]
        unfold cut
        rw [if_neg (by omega), if_neg (by omega)]
        simp
    rw [this]
    simp
  | L + 1 => by
    have := cutSum_le js h1 h2 L
    have h3 := cutSum_succ L js (fun j hj => (h1 j hj).2)
    have h4 := onSum_le L js h2
    omega
theorem cutSum_all (L : Nat) : ∀ (js : List S35), (∀ j ∈ js, j.f2 ≤ j.f3 ∧ j.f3 ≤ L) → cutSum L js = lenSum js
  | [], _ => rfl
  | j :: r, h => by
    have hj := h j (by simp)
    simp only [cutSum, lenSum]
    rw [cutSum_all L r (fun x hx => h x (by simp [hx]))]
    congr 1
    unfold cut
    repeat' split
    all_goals omega
theorem lenSum_le (js : List S35) (c : Int) (hc : 0 ≤ c) (h1 : ∀ j ∈ js, 0 ≤ j.f2 ∧ j.f2 ≤ j.f3 ∧ j.f3 ≤ c) (h2 : js.Pairwise Far) : lenSum js ≤ c := by
  obtain ⟨L, rfl⟩ : ∃ L : Nat, c = L := ⟨c.toNat, by omega⟩
  rw [← cutSum_all L js (fun j hj => ⟨(h1 j hj).2.1, (h1 j hj).2.2⟩)]
  exact cutSum_le js (fun j hj => ⟨(h1 j hj).1, (h1 j hj).2.1⟩) h2 L
/-! as many IDs of one list as of another: all are named -/
theorem nodup_len {α : Type} [DecidableEq α] : ∀ (A B : List α), A.Nodup → (∀ x ∈ A, x ∈ B) → A.length ≤ B.length
  | [], _, _, _ => by simp
  | a :: A, B, hn, hs => by
    obtain ⟨h1, h2⟩ := List.nodup_cons.1 hn
    have ha : a ∈ B := hs a (by simp)
    have := nodup_len A (B.erase a) h2 (fun x hx => (List.mem_erase_of_ne (fun (e : x = a) => h1 (by rw [← e]; exact hx))).2 (hs x (by simp [hx])))
    rw [List.length_erase_of_mem ha] at this
    have hp := List.length_pos_of_mem ha
    simp only [List.length_cons]
    omega
theorem nodup_all {α : Type} [DecidableEq α] (A B : List α) (hn : A.Nodup) (hs : ∀ x ∈ A, x ∈ B) (hl : B.length ≤ A.length) : ∀ x ∈ B, x ∈ A := by
  intro x hx
  apply Classical.byContradiction
  intro hxA
  have := nodup_len A (B.erase x) hn (fun y hy => (List.mem_erase_of_ne (fun (e : y = x) => hxA (by rw [← e]; exact hy))).2 (hs y hy))
  rw [List.length_erase_of_mem hx] at this
  have hp := List.length_pos_of_mem hx
  omega
/-- the job of a section -/
def jobOf (js : List S35) (s : S33) : S35 := (js.find? fun j => j.f1 == s.f0).getD z35
theorem vp_ids {t : List S33} {m : Int} {js : List S35} (h : VP t m js) : ∀ s ∈ t, jobOf js s ∈ js ∧ (jobOf js s).f1 = s.f0 := by
  have hn : (js.map fun j => j.f1).Nodup := by
    unfold List.Nodup
    rw [List.pairwise_map, List.pairwise_iff_getElem]
    intro i j hi hj hij
    have := h.apart j i hij hj
    rw [getD_eq js z35 j hj, getD_eq js z35 i hi] at this
    unfold hitB at this
    rw [Bool.or_eq_false_iff] at this
    exact beq_eq_false_iff_ne.1 this.1
  have hs : ∀ x ∈ js.map (fun j => j.f1), x ∈ t.map (fun s => s.f0) := by
    intro x hx
    obtain ⟨j, hj, rfl⟩ := List.mem_map.1 hx
    obtain ⟨i, hi, rfl⟩ := List.mem_iff_getElem.1 hj
    have := h.good i hi
    rw [getD_eq js z35 i hi] at this
    cases e : t.find? (hasId js[i].f1) with
    | none => rw [e] at this; cases this
    | some s => exact List.mem_map.2 ⟨s, List.mem_of_find?_eq_some e, beq_iff_eq.1 (show hasId js[i].f1 s = true from List.find?_some e)⟩
  have ha := nodup_all _ _ hn hs (by rw [List.length_map, List.length_map, h.len]; exact Nat.le_refl _)
  intro s hs'
  obtain ⟨j, hj, ej⟩ := List.mem_map.1 (ha s.f0 (List.mem_map.2 ⟨s, hs', rfl⟩))
  unfold jobOf
  cases e : js.find? (fun j => j.f1 == s.f0) with
  | none =>
    rw [List.find?_eq_none] at e
    exact absurd (beq_iff_eq.2 ej) (e j hj)
  | some j' => exact ⟨List.mem_of_find?_eq_some e, by have h5 := List.find?_some e; simpa using h5⟩
theorem vp_far {t : List S33} {m : Int} {js : List S35} (h : VP t m js) {x y : S35} (hx : x ∈ js) (hy : y ∈ js) (hne : x.f1 ≠ y.f1) (hu : x.f0 = y.f0) : Far x y := by
  obtain ⟨i, hi, rfl⟩ := List.mem_iff_getElem.1 hx
  obtain ⟨k, hk, rfl⟩ := List.mem_iff_getElem.1 hy
  have key : ∀ i k (hi : i < js.length) (hk : k < js.length), k < i → js[i].f0 = js[k].f0 → js[k].f3 ≤ js[i].f2 ∨ js[i].f3 ≤ js[k].f2 := by
    intro i k hi hk hlt hu
    have := h.apart i k hlt hi
    rw [getD_eq js z35 i hi, getD_eq js z35 k hk] at this
    unfold hitB apB at this
    rw [Bool.or_eq_false_iff, Bool.not_eq_false', hu] at this
    have h2 := this.2
    simp only [bne_self_eq_false, Bool.false_or, Bool.or_eq_true, decide_eq_true_eq] at h2
    exact h2
  rcases Nat.lt_trichotomy i k with hlt | rfl | hlt
  · rcases key k i hk hi hlt hu.symm with h1 | h1
    · exact .inl h1
    · exact .inr h1
  · exact absurd rfl hne
  · rcases key i k hi hk hlt hu with h1 | h1
    · exact .inr h1
    · exact .inl h1
theorem vp_job {t : List S33} (ho : Own t) {m : Int} {js : List S35} (h : VP t m js) (hj : ∀ j ∈ js, -9223372036854775808 ≤ j.f3 ∧ j.f3 ≤ 9223372036854775807) {s : S33} (hs : s ∈ t) :
    1 ≤ (jobOf js s).f0 ∧ (jobOf js s).f0 ≤ m ∧ 0 ≤ (jobOf js s).f2 ∧ (jobOf js s).f2 ≤ (jobOf js s).f3 ∧ (jobOf js s).f3 - (jobOf js s).f2 = s.f2 := by
  obtain ⟨h1, h2⟩ := vp_ids h s hs
  have h3 := hj _ h1
  obtain ⟨i, hi, ei⟩ := List.mem_iff_getElem.1 h1
  have h4 := h.good i hi
  rw [getD_eq js z35 i hi, ei, h2, find_own ho hs] at h4
  simp only [jobBad2, Bool.or_eq_false_iff, decide_eq_false_iff_not, bne_eq_false_iff_eq] at h4
  obtain ⟨q1, q2, q3, q4, q5⟩ := h4
  rw [wrap_id (by omega) (by omega)] at q5
  exact ⟨by omega, by omega, by omega, by omega, q5⟩
/-- the assignment of a plan -/
def asgOf (js : List S35) (t : List S33) : List Int := t.map fun s => (jobOf js s).f0
theorem finE_asg (js : List S35) (u : Int) : ∀ (t : List S33) (e : Int → Int), (∀ s ∈ t, (jobOf js s).f3 - (jobOf js s).f2 = s.f2) → finE e t (asgOf js t) u = e u + lenSum ((t.filter fun s => (jobOf js s).f0 == u).map (jobOf js))
  | [], e, _ => by simp [finE, lenSum]
  | x :: xs, e, h => by
    have hx := h x (by simp)
    simp only [asgOf, List.map_cons, finE]
    have ih := finE_asg js u xs (adv e (jobOf js x).f0 x.f2) (fun s hs => h s (by simp [hs]))
    unfold asgOf at ih
    rw [ih]
    by_cases hu : (jobOf js x).f0 = u
    · rw [List.filter_cons_of_pos (by simpa using hu), List.map_cons]
      simp only [lenSum]
      rw [hx, ← hu, adv_one]
      omega
    · rw [List.filter_cons_of_neg (by simpa using hu)]
      unfold adv
      rw [if_neg (fun e => hu e.symm)]
theorem vp_end {t : List S33} (ho : Own t) {m : Nat} (hm3 : m ≤ 3) {js : List S35} (h : VP t m js) (hj : ∀ j ∈ js, -9223372036854775808 ≤ j.f3 ∧ j.f3 ≤ 9223372036854775807) :
    asgOf js t ∈ leaves m t.length ∧ endOf t (asgOf js t) ≤ lastP js := by
  refine ⟨mem_leaves.2 ⟨by simp [asgOf], fun u hu => ?_⟩, ?_⟩
  · obtain ⟨s, hs, rfl⟩ := List.mem_map.1 hu
    have := vp_job ho h hj hs
    omega
  · have key : ∀ u, finE zeroE t (asgOf js t) u ≤ lastP js := by
      intro u
      rw [finE_asg js u t zeroE (fun s hs => (vp_job ho h hj hs).2.2.2.2)]
      have h0 : zeroE u = 0 := rfl
      rw [h0, Int.zero_add]
      refine lenSum_le _ _ (lastP_nonneg js) (fun j hj' => ?_) ?_
      · obtain ⟨s, hs, rfl⟩ := List.mem_map.1 hj'
        have hs' := (List.mem_filter.1 hs).1
        have := vp_job ho h hj hs'
        exact ⟨this.2.2.1, this.2.2.2.1, le_lastP (vp_ids h s hs').1⟩
      · rw [List.pairwise_map]
        have hp : (t.filter fun s => (jobOf js s).f0 == u).Pairwise fun x y => x.f0 ≠ y.f0 := List.Pairwise.filter _ ho
        refine List.Pairwise.imp_of_mem (fun {x y} hx hy hxy => ?_) hp
        obtain ⟨x1, x2⟩ := List.mem_filter.1 hx
        obtain ⟨y1, y2⟩ := List.mem_filter.1 hy
        obtain ⟨jx, ex⟩ := vp_ids h x x1
        obtain ⟨jy, ey⟩ := vp_ids h y y1
        exact vp_far h jx jy (by rw [ex, ey]; exact hxy) (by rw [beq_iff_eq.1 x2, beq_iff_eq.1 y2])
    exact mxe_le.2 ⟨key 1, key 2, key 3⟩
/-! the bound -/
def secSum : List S33 → Int
  | [] => 0
  | x :: r => x.f2 + secSum r
theorem bGo_eq : ∀ (t : List S33) (most sum c : Int), (∀ x ∈ t, 1 ≤ x.f2 ∧ x.f2 ≤ 86400) → 0 ≤ sum → sum + 86400 * t.length ≤ 1000000 → most ≤ c → (∀ x ∈ t, x.f2 ≤ c) → (bGo t most sum).2 = sum + secSum t ∧ (bGo t most sum).1 ≤ c
  | [], most, sum, c, _, _, _, hm, _ => by simp [bGo, secSum, hm]
  | x :: r, most, sum, c, h, h0, h1, hm, hc => by
    have hx := h x (by simp)
    simp only [List.length_cons] at h1
    have hw : wrap64 (sum + x.f2) = sum + x.f2 := wrap_id (by omega) (by omega)
    simp only [bGo, hw, secSum]
    have := bGo_eq r (mx most x.f2) (sum + x.f2) c (fun y hy => h y (by simp [hy])) (by omega) (by omega) (mx_le.2 ⟨hm, hc x (by simp)⟩) (fun y hy => hc y (by simp [hy]))
    exact ⟨by rw [this.1]; omega, this.2⟩
theorem secSum_bound : ∀ (t : List S33), (∀ x ∈ t, 1 ≤ x.f2 ∧ x.f2 ≤ 86400) → 0 ≤ secSum t ∧ secSum t ≤ 86400 * t.length
  | [], _ => by simp [secSum]
  | x :: r, h => by
    have := secSum_bound r (fun y hy => h y (by simp [hy]))
    have hx := h x (by simp)
    simp only [secSum, List.length_cons]
    omega
theorem finE_sum : ∀ (t : List S33) (a : List Int) (e : Int → Int), a.length = t.length → (∀ u ∈ a, 1 ≤ u ∧ u ≤ 3) → finE e t a 1 + finE e t a 2 + finE e t a 3 = e 1 + e 2 + e 3 + secSum t
  | [], a, e, h, _ => by cases a <;> simp [finE, secSum]
  | x :: xs, [], e, h, _ => by simp at h
  | x :: xs, u :: us, e, h, h3 => by
    have ih := finE_sum xs us (adv e u x.f2) (by simpa using h) (fun v hv => h3 v (by simp [hv]))
    have hu := h3 u (by simp)
    simp only [finE, secSum]
    rw [ih]
    obtain rfl | rfl | rfl : u = 1 ∨ u = 2 ∨ u = 3 := by omega
    all_goals
      simp only [adv]
      simp only [Int.reduceEq, if_true, if_false]
      omega
theorem finE_not : ∀ (t : List S33) (a : List Int) (e : Int → Int) (u : Int), u ∉ a → finE e t a u = e u
  | [], a, e, u, _ => by cases a <;> rfl
  | x :: xs, [], e, u, _ => rfl
  | x :: xs, v :: us, e, u, h => by
    simp only [finE]
    rw [finE_not xs us _ u (fun hh => h (by simp [hh]))]
    unfold adv
    rw [if_neg (fun hh => h (by simp [hh]))]
theorem finE_sec : ∀ (t : List S33) (a : List Int) (e : Int → Int), a.length = t.length → (∀ x ∈ t, 0 ≤ x.f2) → (∀ u, 0 ≤ e u) → (∀ u ∈ a, 1 ≤ u ∧ u ≤ 3) → ∀ x ∈ t, x.f2 ≤ mxe (finE e t a)
  | y :: ys, [], e, h, _, _, _, x, _ => by simp at h
  | y :: ys, u :: us, e, h, hs, he, h3, x, hx => by
    simp only [finE]
    rcases List.mem_cons.1 hx with rfl | hx
    · have hu := h3 u (by simp)
      have h1 := finE_le ys us (adv e u x.f2) (fun z hz => hs z (by simp [hz])) u
      rw [adv_one] at h1
      have h2 := le_mxe (e := finE (adv e u x.f2) ys us) hu.1 hu.2
      have h4 := he u
      omega
    · exact finE_sec ys us (adv e u y.f2) (by simpa using h) (fun z hz => hs z (by simp [hz])) (adv_nonneg he _ _ (hs y (by simp))) (fun v hv => h3 v (by simp [hv])) x hx
theorem sum_le_end (t : List S33) (ht : ∀ x ∈ t, 1 ≤ x.f2 ∧ x.f2 ≤ 86400) (m : Nat) (hm : 1 ≤ m) (hm3 : m ≤ 3) (a : List Int) (ha : a ∈ leaves m t.length) : secSum t ≤ m * endOf t a := by
  obtain ⟨hl, h3⟩ := mem_leaves.1 ha
  have hs := finE_sum t a zeroE hl (fun u hu => by have := h3 u hu; omega)
  have hz : ∀ u, zeroE u = 0 := fun _ => rfl
  rw [hz, hz, hz] at hs
  have hx := mxe_le.1 (Int.le_refl (mxe (finE zeroE t a)))
  unfold endOf
  obtain rfl | rfl | rfl : m = 1 ∨ m = 2 ∨ m = 3 := by omega
  · have h2 := finE_not t a zeroE 2 (fun hh => by have := h3 2 hh; omega)
    have h3' := finE_not t a zeroE 3 (fun hh => by have := h3 3 hh; omega)
    rw [hz] at h2 h3'
    omega
  · have h3' := finE_not t a zeroE 3 (fun hh => by have := h3 3 hh; omega)
    rw [hz] at h3'
    omega
  · omega
theorem tdiv_tmod_le (s E : Int) (m : Nat) (hm : 1 ≤ m) (hm3 : m ≤ 3) (hs : 0 ≤ s) (h : s ≤ m * E) : Int.tdiv s m ≤ E ∧ (Int.tmod s m ≠ 0 → Int.tdiv s m + 1 ≤ E) ∧ 0 ≤ Int.tdiv s m ∧ Int.tdiv s m ≤ s := by
  rw [Int.tdiv_eq_ediv_of_nonneg hs, Int.tmod_eq_emod_of_nonneg hs]
  obtain rfl | rfl | rfl : m = 1 ∨ m = 2 ∨ m = 3 := by omega
  · simp only [Int.natCast_one] at *; omega
  · have e : ((2 : Nat) : Int) = 2 := rfl
    rw [e] at *; omega
  · have e : ((3 : Nat) : Int) = 3 := rfl
    rw [e] at *; omega
theorem bound_le (t : List S33) (ht8 : t.length ≤ 8) (ht : ∀ x ∈ t, 1 ≤ x.f2 ∧ x.f2 ≤ 86400) (m : Nat) (hm : 1 ≤ m) (hm3 : m ≤ 3) (a : List Int) (ha : a ∈ leaves m t.length) : boundP t m ≤ endOf t a := by
  obtain ⟨hl, h3⟩ := mem_leaves.1 ha
  have h1 := finE_sec t a zeroE hl (fun x hx => by have := ht x hx; omega) (fun _ => Int.le_refl _) (fun u hu => by have := h3 u hu; omega)
  have h2 := bGo_eq t 0 0 (endOf t a) ht (Int.le_refl _) (by omega) (endOf_nonneg t ht a) h1
  have h4 := sum_le_end t ht m hm hm3 a ha
  have h5 := secSum_bound t ht
  rw [Int.zero_add] at h2
  obtain ⟨d1, d2, d3, d4⟩ := tdiv_tmod_le (secSum t) (endOf t a) m hm hm3 h5.1 h4
  unfold boundP bFin
  rw [if_neg (by omega), h2.1]
  have hw : wrap64 (Int.tdiv (secSum t) m) = Int.tdiv (secSum t) m := wrap_id (by omega) (by omega)
  rw [hw]
  by_cases hq : Int.tmod (secSum t) m = 0
  · rw [if_pos hq]
    exact mx_le.2 ⟨h2.2, d1⟩
  · rw [if_neg hq, wrap_id (by omega) (by omega)]
    exact mx_le.2 ⟨h2.2, d2 hq⟩
/-! who is left -/
def leftS (js : List S35) (t : Int) : List S33 → Int
  | [] => 0
  | s :: r => (if js.any (doneP s.f0 t) then 0 else s.f1) + leftS js t r
def people : List S33 → Int
  | [] => 0
  | s :: r => s.f1 + people r
theorem leftS_bound (js : List S35) (t : Int) : ∀ (l : List S33), (∀ x ∈ l, 0 ≤ x.f1 ∧ x.f1 ≤ 1000) → 0 ≤ leftS js t l ∧ leftS js t l ≤ 1000 * l.length
  | [], _ => by simp [leftS]
  | s :: r, h => by
    have hs := h s (by simp)
    have := leftS_bound js t r (fun x hx => h x (by simp [hx]))
    simp only [leftS, List.length_cons]
    split <;> omega
theorem people_bound : ∀ (l : List S33), (∀ x ∈ l, 0 ≤ x.f1 ∧ x.f1 ≤ 1000) → 0 ≤ people l ∧ people l ≤ 1000 * l.length
  | [], _ => by simp [people]
  | s :: r, h => by
    have hs := h s (by simp)
    have := people_bound r (fun x hx => h x (by simp [hx]))
    simp only [people, List.length_cons]
    omega
theorem people_snoc (l : List S33) (s : S33) : people (l ++ [s]) = people l + s.f1 := by
  induction l with
  | nil => simp [people]
  | cons x r ih => simp only [List.cons_append, people]; rw [ih]; omega
theorem leftGo_eq (l : List S33) (hl : l.length ≤ 8) (hp : ∀ x ∈ l, 0 ≤ x.f1 ∧ x.f1 ≤ 1000) (js : List S35) (t : Int) : ∀ (d i : Nat) (n : Int), i + d = l.length → 0 ≤ n → n ≤ 1000 * i → leftGo l js t d i n = n + leftS js t (l.drop i) := by
  intro d
  induction d with
  | zero =>
    intro i n hi h0 h1
    rw [List.drop_eq_nil_of_le (by omega)]
    simp [leftGo, leftS]
  | succ d ih =>
    intro i n hi h0 h1
    have hlt : i < l.length := by omega
    have hdr : l.drop i = l.getD i z33 :: l.drop (i + 1) := by rw [List.drop_eq_getElem_cons hlt, getD_eq l z33 i hlt]
    have hx : l.getD i z33 ∈ l := by rw [getD_eq l z33 i hlt]; exact List.getElem_mem hlt
    have hs := hp _ hx
    have hg : leftGo l js t (d + 1) i n = leftGo l js t d (i + 1) (if js.any (doneP (l.getD i z33).f0 t) then n else wrap64 (n + (l.getD i z33).f1)) := by rw [← rd_at]; rfl
    rw [hg, hdr]
    simp only [leftS]
    cases b : js.any (doneP (l.getD i z33).f0 t) with
    | true =>
      simp only [if_true]
      rw [ih (i + 1) n (by omega) h0 (by omega)]
      omega
    | false =>
      simp only [Bool.false_eq_true, if_false]
      rw [wrap_id (by omega) (by omega), ih (i + 1) _ (by omega) (by omega) (by omega)]
      omega
theorem leftP_eq (l : List S33) (hg : Good l) (js : List S35) (t : Int) : leftP l js t = leftS js t l := by
  have := leftGo_eq l hg.len hg.people js t l.length 0 0 (by omega) (Int.le_refl _) (by omega)
  simpa [leftP] using this
theorem leftS_all (js : List S35) (t : Int) : ∀ (l : List S33), (∀ s ∈ l, s.f1 = 0 ∨ js.any (doneP s.f0 t) = true) → leftS js t l = 0
  | [], _ => rfl
  | s :: r, h => by
    simp only [leftS]
    rw [leftS_all js t r (fun x hx => h x (by simp [hx]))]
    rcases h s (by simp) with h1 | h1
    · rw [h1]; split <;> rfl
    · rw [if_pos h1]; rfl
theorem leftS_none (js : List S35) (t : Int) : ∀ (l : List S33), (∀ s ∈ l, js.any (doneP s.f0 t) = false) → leftS js t l = people l
  | [], _ => rfl
  | s :: r, h => by
    simp only [leftS, people]
    rw [leftS_none js t r (fun x hx => h x (by simp [hx])), h s (by simp)]
    rfl
theorem leftS_pos (js : List S35) (t : Int) : ∀ (l : List S33), (∀ x ∈ l, 0 ≤ x.f1 ∧ x.f1 ≤ 1000) → (∃ s ∈ l, s.f1 ≠ 0 ∧ js.any (doneP s.f0 t) = false) → 0 < leftS js t l
  | [], _, h => by obtain ⟨s, hs, _⟩ := h; cases hs
  | x :: r, hp, h => by
    obtain ⟨s, hs, h1, h2⟩ := h
    have hx := hp x (by simp)
    have hr := leftS_bound js t r (fun y hy => hp y (by simp [hy]))
    simp only [leftS]
    rcases List.mem_cons.1 hs with rfl | hs
    · rw [h2]
      simp only [Bool.false_eq_true, if_false]
      omega
    · have := leftS_pos js t r (fun y hy => hp y (by simp [hy])) ⟨s, hs, h1, h2⟩
      split <;> omega
theorem leftS_mono (js : List S35) (t u : Int) (h : t ≤ u) : ∀ (l : List S33), (∀ x ∈ l, 0 ≤ x.f1 ∧ x.f1 ≤ 1000) → leftS js u l ≤ leftS js t l
  | [], _ => Int.le_refl _
  | s :: r, hp => by
    have hs := hp s (by simp)
    have ih := leftS_mono js t u h r (fun y hy => hp y (by simp [hy]))
    simp only [leftS]
    cases b : js.any (doneP s.f0 t) with
    | true =>
      have : js.any (doneP s.f0 u) = true := by
        rw [List.any_eq_true] at b ⊢
        obtain ⟨j, hj, e⟩ := b
        refine ⟨j, hj, ?_⟩
        unfold doneP at e ⊢
        simp only [Bool.and_eq_true, decide_eq_true_eq] at e ⊢
        exact ⟨e.1, by omega⟩
      rw [this]
      simp only [if_true]
      omega
    | false =>
      simp only [Bool.false_eq_true, if_false]
      split <;> omega
theorem people_zero : ∀ (l : List S33), (∀ x ∈ l, 0 ≤ x.f1 ∧ x.f1 ≤ 1000) → 0 < people l → ∃ s ∈ l, s.f1 ≠ 0
  | [], _, h => by simp [people] at h
  | x :: r, hp, h => by
    by_cases hx : x.f1 = 0
    · simp only [people, hx] at h
      obtain ⟨s, hs, h1⟩ := people_zero r (fun y hy => hp y (by simp [hy])) (by omega)
      exact ⟨s, by simp [hs], h1⟩
    · exact ⟨x, by simp, hx⟩
theorem mem_td {l : List S33} {x : S33} (hx : x ∈ l) (h : x.f1 ≠ 0) : x ∈ td l := by
  unfold td
  rw [List.mem_filter]
  exact ⟨hx, by simp [needP, h]⟩
theorem foldl_mx_mem : ∀ (js : List S35) (n : Int), js.foldl (fun n j => mx n j.f3) n = n ∨ ∃ j ∈ js, j.f3 = js.foldl (fun n j => mx n j.f3) n
  | [], n => .inl rfl
  | x :: r, n => by
    rw [List.foldl_cons]
    rcases foldl_mx_mem r (mx n x.f3) with h | ⟨j, hj, h⟩
    · rw [h]
      unfold mx
      split
      · exact .inr ⟨x, by simp, rfl⟩
      · exact .inl rfl
    · exact .inr ⟨j, by simp [hj], h⟩
/-- what is said of a plan and of those on the line -/
structure LeftFacts (l : List S33) (js : List S35) (E : Int) : Prop where
  done : leftP l js E = 0
  before : 0 < people l → leftP l js (E - 1) ≠ 0
  nobody : leftP l [] E = people l
  atStart : leftP l js 0 = people l
  mono : ∀ t u, t ≤ u → leftP l js u ≤ leftP l js t
  lo : 0 ≤ E
  hi : E ≤ 691200
theorem left_facts (l : List S33) (hg : Good l) (m : Nat) (hm : 1 ≤ m) (hm3 : m ≤ 3) : ∃ a, rescue_Plan.f l (m : Int) = some (jobsL zeroE (td l) a, endOf (td l) a, 0) ∧ LeftFacts l (jobsL zeroE (td l) a) (endOf (td l) a) := by
  obtain ⟨a, q1, q2, q3, q4⟩ := plan_spec l hg m hm hm3
  refine ⟨a, q4, ?_⟩
  have ht8 : (td l).length ≤ 8 := Nat.le_trans (td_len l) hg.len
  have hs := td_secs hg
  have hs0 : ∀ x ∈ td l, 0 ≤ x.f2 := fun x hx => by have := hs x hx; omega
  obtain ⟨hal, ha3⟩ := mem_leaves.1 q2
  have hjl := jobsL_length (td l) a zeroE hal
  have hla := lastP_jobs (td l) a hs0 (fun u hu => by have := ha3 u hu; omega)
  have hE0 := endOf_nonneg (td l) hs a
  -- each job, by its number
  have job : ∀ i, i < (td l).length → ∃ j ∈ jobsL zeroE (td l) a, j.f1 = ((td l).getD i z33).f0 ∧ 1 ≤ j.f3 ∧ j.f3 ≤ endOf (td l) a := by
    intro i hi
    have hx : (td l).getD i z33 ∈ td l := by rw [getD_eq (td l) z33 i hi]; exact List.getElem_mem _
    have h1 := hs _ hx
    have h3 := finE_take_ge (td l) a zeroE hs0 (a.getD i 0) i
    have h5 : zeroE (a.getD i 0) = 0 := rfl
    have hj := jobsL_getD (td l) a zeroE i hal hi
    have hmem : (jobsL zeroE (td l) a).getD i z35 ∈ jobsL zeroE (td l) a := by rw [getD_eq _ z35 i (by omega)]; exact List.getElem_mem _
    refine ⟨_, hmem, by rw [hj], by rw [hj]; show 1 ≤ _ + _; omega, by rw [← hla]; exact le_lastP hmem⟩
  have named : ∀ j ∈ jobsL zeroE (td l) a, 1 ≤ j.f3 ∧ ∃ s ∈ td l, j.f1 = s.f0 := by
    intro j hj
    obtain ⟨i, hi, rfl⟩ := List.mem_iff_getElem.1 hj
    rw [hjl] at hi
    have hx : (td l).getD i z33 ∈ td l := by rw [getD_eq (td l) z33 i hi]; exact List.getElem_mem _
    have h1 := hs _ hx
    have h3 := finE_take_ge (td l) a zeroE hs0 (a.getD i 0) i
    have h5 : zeroE (a.getD i 0) = 0 := rfl
    have hj := jobsL_getD (td l) a zeroE i hal hi
    rw [getD_eq _ z35 i (by omega)] at hj
    rw [hj]
    exact ⟨by show 1 ≤ _ + _; omega, _, hx, rfl⟩
  have hEm : endOf (td l) a ≤ 691200 := by
    rw [← hla]
    refine (foldl_mx_le _ 0 691200).2 ⟨by omega, fun j hj => ?_⟩
    obtain ⟨i, hi, rfl⟩ := List.mem_iff_getElem.1 hj
    rw [hjl] at hi
    have h1 := finE_take_succ (td l) a zeroE i hal hi
    have h2 := finE_take_bound (td l) a hs ht8 (a.getD i 0) (i + 1)
    rw [h1, adv_one] at h2
    have hj := jobsL_getD (td l) a zeroE i hal hi
    rw [getD_eq _ z35 i (by omega)] at hj
    rw [hj]
    exact h2
  refine ⟨?_, ?_, ?_, ?_, ?_, hE0, hEm⟩
  · rw [leftP_eq l hg]
    refine leftS_all _ _ l (fun s hsl => ?_)
    by_cases h0 : s.f1 = 0
    · exact .inl h0
    · obtain ⟨i, hi, ei⟩ := List.mem_iff_getElem.1 (mem_td hsl h0)
      obtain ⟨j, hj, e1, _, e2⟩ := job i hi
      rw [getD_eq (td l) z33 i hi, ei] at e1
      refine .inr (List.any_eq_true.2 ⟨j, hj, ?_⟩)
      unfold doneP
      rw [beq_iff_eq.2 e1, decide_eq_true e2]
      rfl
  · intro hp
    rw [leftP_eq l hg]
    obtain ⟨s0, hs0l, hs0n⟩ := people_zero l hg.people hp
    -- the job that ends last
    have hpos : 0 < endOf (td l) a := by
      obtain ⟨i, hi, _⟩ := List.mem_iff_getElem.1 (mem_td hs0l hs0n)
      obtain ⟨j, _, _, e1, e2⟩ := job i hi
      omega
    rcases foldl_mx_mem (jobsL zeroE (td l) a) 0 with h | ⟨j, hj, h⟩
    · have : lastP (jobsL zeroE (td l) a) = 0 := h
      omega
    · have hjE : j.f3 = endOf (td l) a := by rw [← hla]; exact h
      obtain ⟨_, s, hst, e1⟩ := named j hj
      have hsl := (td_mem hst).1
      have hne : 0 < leftS (jobsL zeroE (td l) a) (endOf (td l) a - 1) l := by
        refine leftS_pos _ _ l hg.people ⟨s, hsl, (td_mem hst).2, ?_⟩
        rw [List.any_eq_false]
        intro j' hj' hd
        unfold doneP at hd
        simp only [Bool.and_eq_true, beq_iff_eq, decide_eq_true_eq] at hd
        -- the same job
        have hv := (validP_iff _ _ _).1 (plan_valid (td l) (own_td hg) ht8 hs m hm3 a q2)
        have : j' = j := by
          obtain ⟨i, hi, rfl⟩ := List.mem_iff_getElem.1 hj
          obtain ⟨k, hk, rfl⟩ := List.mem_iff_getElem.1 hj'
          have hne : ∀ p q (hp : p < (jobsL zeroE (td l) a).length) (hq : q < (jobsL zeroE (td l) a).length), q < p → (jobsL zeroE (td l) a)[q].f1 ≠ (jobsL zeroE (td l) a)[p].f1 := by
            intro p q hp hq hlt
            have := hv.apart p q hlt hp
            rw [getD_eq _ z35 p hp, getD_eq _ z35 q hq] at this
            unfold hitB at this
            rw [Bool.or_eq_false_iff] at this
            exact beq_eq_false_iff_ne.1 this.1
          rcases Nat.lt_trichotomy i k with hlt | heq | hlt
          · exact absurd (by rw [e1, hd.1]) (hne k i hk hi hlt)
          · subst heq; rfl
          · exact absurd (by rw [e1, hd.1]) (hne i k hi hk hlt)
        rw [this, hjE] at hd
        omega
      omega
  · rw [leftP_eq l hg]
    exact leftS_none _ _ l (fun s _ => rfl)
  · rw [leftP_eq l hg]
    refine leftS_none _ _ l (fun s _ => ?_)
    rw [List.any_eq_false]
    intro j hj hd
    unfold doneP at hd
    simp only [Bool.and_eq_true, beq_iff_eq, decide_eq_true_eq] at hd
    have := (named j hj).1
    omega
  · intro t u htu
    rw [leftP_eq l hg, leftP_eq l hg]
    exact leftS_mono _ t u htu l hg.people
end Go.Proofs.Ytedejkhopjhnbaa.Pure
