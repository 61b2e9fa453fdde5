/- The pure statement of the law WeatherSnow: sums and peaks of an interval out of those of its parts. -/
import Derived.Test.YthndidjhdijpnaaPureB
import Derived.Test.YthndidjhdijpnaaPx21
import Derived.Test.YthndidjhdijpnaaOpen
namespace Go.Proofs.Ythndidjhdijpnaa.Pure
open Go.RowKit Go.Proofs.YthndidjhdijpnaaW.PrintWords Go.Proofs.YthndidjhdijpnaaW.PrintLast Go.Proofs.YthndidjhdijpnaaW.PrintMore Go.Proofs.Ythndidjhdijpnaa.P Go.Proofs.Ythndidjhdijpnaa.Open
set_option linter.unusedVariables false
set_option linter.unusedSimpArgs false

theorem right_ok (l : List S30) (h : rightP l = 0) : ∀ i, i < l.length → badP (l.getD i z30) = false := by
  unfold rightP at h
  split at h
  · exact absurd h (by decide)
  · have key : ∀ (d i : Nat), i + d = l.length → rightGo l d i = 0 → ∀ j, i ≤ j → j < l.length → badP (l.getD j z30) = false := by
      intro d
      induction d with
      | zero => intro i hi _ j h1 h2; omega
      | succ d ih =>
        intro i hi hg j h1 h2
        have hg' : (if badP (rd_T30 l (i : Int)) then (2 : Int) else if lateP l i then 11 else if seenP l i then 7 else rightGo l d (i + 1)) = 0 := hg
        rw [rd_at] at hg'
        cases hb : badP (l.getD i z30) with
        | true => rw [hb] at hg'; exact absurd hg' (by simp)
        | false =>
          rw [hb] at hg'
          by_cases e : j = i
          · rw [e]; exact hb
          · refine ih (i + 1) (by omega) ?_ j (by omega) h2
            cases h3 : lateP l i with
            | true => rw [h3] at hg'; exact absurd hg' (by simp)
            | false =>
              rw [h3] at hg'
              cases h4 : seenP l i with
              | true => rw [h4] at hg'; exact absurd hg' (by simp)
              | false => rw [h4] at hg'; exact hg'
    intro i hi
    exact key l.length 0 (by omega) h i (by omega) hi
def sm : List S30 → Int
  | [] => 0
  | x :: t => x.f5 + sm t
theorem sm_bd : ∀ (F : List S30), (∀ x ∈ F, 0 ≤ x.f5 ∧ x.f5 ≤ 2000) → 0 ≤ sm F ∧ sm F ≤ 2000 * (F.length : Int)
  | [], _ => by simp [sm]
  | x :: t, h => by
    have h1 := h x (by simp)
    have h2 := sm_bd t (fun y hy => h y (by simp [hy]))
    simp only [sm, List.length_cons]
    omega
theorem fr_sm (F : List S30) : ∀ (n : Int), (∀ x ∈ F, 0 ≤ x.f5 ∧ x.f5 ≤ 2000) → 0 ≤ n → n + 2000 * (F.length : Int) ≤ 10000000 → fr n F = n + sm F := by
  induction F with
  | nil => intro n _ _ _; show n = n + 0; omega
  | cons x t ih =>
    intro n h h0 h1
    have hx := h x List.mem_cons_self
    rw [List.length_cons] at h1
    have hw : wrap64 (n + x.f5) = n + x.f5 := wrap_id (by omega) (by omega)
    have := ih (n + x.f5) (fun y hy => h y (List.mem_cons_of_mem _ hy)) (by omega) (by omega)
    have e : fr n (x :: t) = fr (wrap64 (n + x.f5)) t := rfl
    rw [e, hw, this]
    have e2 : sm (x :: t) = x.f5 + sm t := rfl
    omega
def sup : List S30 → Int
  | [] => -1
  | x :: t => mx x.f2 (sup t)
theorem pk_sup : ∀ (F : List S30) (m : Int), 0 ≤ m → pk m F = mx m (sup F)
  | [], m, h => by show m = mx m (-1); unfold mx; split <;> omega
  | x :: t, m, h => by
    show pk (mx m x.f2) t = mx m (mx x.f2 (sup t))
    have h2 : 0 ≤ mx m x.f2 := by unfold mx; split <;> omega
    rw [pk_sup t _ h2]
    unfold mx
    repeat' split
    all_goals omega
theorem peak_sup (F : List S30) (h : ∀ x ∈ F, 0 ≤ x.f2) : peakR F = sup F := by
  cases F with
  | nil => rfl
  | cons x t => exact pk_sup t x.f2 (h x (by simp))
theorem sup_ge (F : List S30) (h : ∀ x ∈ F, 0 ≤ x.f2) : -1 ≤ sup F := by
  cases F with
  | nil => exact Int.le_refl _
  | cons x t =>
    have := h x (by simp)
    show -1 ≤ mx x.f2 (sup t)
    unfold mx; split <;> omega
theorem parts (s f t m : Int) (h1 : f ≤ m) (h2 : m ≤ t) : ∀ (l : List S30), (∀ x ∈ l, 0 ≤ x.f2) → sm (inL l s f t) = sm (inL l s f m) + sm (inL l s m t) ∧ sup (inL l s f t) = mx (sup (inL l s f m)) (sup (inL l s m t))
  | [], _ => ⟨rfl, by show (-1 : Int) = mx (-1) (-1); rw [mx_self]⟩
  | x :: u, hb => by
    obtain ⟨ih1, ih2⟩ := parts s f t m h1 h2 u (fun y hy => hb y (by simp [hy]))
    have hc : ∀ a b, inL (x :: u) s a b = if inP s a b x = true then x :: inL u s a b else inL u s a b := fun a b => by unfold inL; rw [List.filter_cons]
    have hp : ∀ a b, inP s a b x = decide (x.f0 = s ∧ a ≤ x.f1 ∧ x.f1 < b) := fun a b => by
      unfold inP ofP
      by_cases q1 : x.f0 = s
      · by_cases q2 : x.f1 < a
        · simp [q1, q2, show ¬ a ≤ x.f1 by omega]
        · by_cases q3 : b ≤ x.f1
          · simp [q1, q2, q3, show ¬ x.f1 < b by omega]
          · simp [q1, q2, q3, show x.f1 < b by omega, show a ≤ x.f1 by omega]
      · have : (x.f0 != s) = true := by simp [q1]
        simp [this, q1]
    rw [hc f t, hc f m, hc m t, hp f t, hp f m, hp m t]
    by_cases q1 : x.f0 = s ∧ f ≤ x.f1 ∧ x.f1 < t
    · by_cases q2 : x.f1 < m
      · rw [decide_eq_true q1, decide_eq_true (show x.f0 = s ∧ f ≤ x.f1 ∧ x.f1 < m from ⟨q1.1, q1.2.1, q2⟩), decide_eq_false (show ¬ (x.f0 = s ∧ m ≤ x.f1 ∧ x.f1 < t) from fun hh => by omega)]
        simp only [if_true, Bool.false_eq_true, if_false, sm, sup]
        rw [ih1, ih2]
        refine ⟨by omega, ?_⟩
        unfold mx
        repeat' split
        all_goals omega
      · rw [decide_eq_true q1, decide_eq_false (show ¬ (x.f0 = s ∧ f ≤ x.f1 ∧ x.f1 < m) from fun hh => by omega), decide_eq_true (show x.f0 = s ∧ m ≤ x.f1 ∧ x.f1 < t from ⟨q1.1, by omega, q1.2.2⟩)]
        simp only [if_true, Bool.false_eq_true, if_false, sm, sup]
        rw [ih1, ih2]
        refine ⟨by omega, ?_⟩
        unfold mx
        repeat' split
        all_goals omega
    · rw [decide_eq_false q1, decide_eq_false (show ¬ (x.f0 = s ∧ f ≤ x.f1 ∧ x.f1 < m) from fun hh => q1 ⟨hh.1, hh.2.1, by omega⟩), decide_eq_false (show ¬ (x.f0 = s ∧ m ≤ x.f1 ∧ x.f1 < t) from fun hh => q1 ⟨hh.1, by omega, hh.2.2⟩)]
      simp only [Bool.false_eq_true, if_false]
      exact ⟨ih1, ih2⟩
theorem WeatherSnow (l : List S30) (hz : ∀ p ∈ l, wf30 p) (s : Int) (w1 : is_i64 s) (m : Int) (w2 : is_i64 m) (span : S28) (hz3 : wf28 span) : ∃ k, skiarealaw12_WeatherSnow.f k l s m span.f0 span.f1 = some true := by
  refine Ev.rounds ?_
  have hout : Ev (fun k => skiarealaw12_WeatherSnow.j0 k l s m true span.f0 span.f1) true := Ev.step (f := fun k => some true) (fun k => by simp only [skiarealaw12_WeatherSnow.j0, if_true]) (Ev.now _)
  by_cases h : (l.length : Int) > 200
  · exact Ev.congr (fun k => by unfold skiarealaw12_WeatherSnow.f skiarealaw12_alive.f; rw [Option.bind_some, if_pos rfl, if_pos h]) hout
  · refine Ev.congr (fun k => by unfold skiarealaw12_WeatherSnow.f skiarealaw12_alive.f; rw [Option.bind_some, if_pos rfl, if_neg h]) (Ev.bind (ref_Right l) ?_)
    by_cases hr : rightP l = 0
    · have hok : ∀ x ∈ l, badP x = false := fun x hx => by
        obtain ⟨i, hi, rfl⟩ := List.mem_iff_getElem.1 hx
        rw [← getD_eq l z30 i hi]
        exact right_ok l hr i hi
      have hb : ∀ x ∈ l, (0 ≤ x.f5 ∧ x.f5 ≤ 2000) ∧ 0 ≤ x.f2 := fun x hx => by
        have := hok x hx
        simp [badP, inB] at this
        omega
      have hin : ∀ a b x, x ∈ inL l s a b → x ∈ l := fun a b x hx => (List.mem_filter.1 hx).1
      have hfr : ∀ a b, fr 0 (inL l s a b) = sm (inL l s a b) := fun a b => by
        have hlen := inL_len l s a b
        rw [fr_sm _ 0 (fun x hx => (hb x (hin a b x hx)).1) (by omega) (by omega)]
        omega
      have hpk : ∀ a b, peakR (inL l s a b) = sup (inL l s a b) := fun a b => peak_sup _ (fun x hx => (hb x (hin a b x hx)).2)
      have hsb : ∀ a b, 0 ≤ sm (inL l s a b) ∧ sm (inL l s a b) ≤ 400000 := fun a b => by
        have h1 := sm_bd (inL l s a b) (fun x hx => (hb x (hin a b x hx)).1)
        have hlen := inL_len l s a b
        omega
      rw [hr]
      have hout1 : Ev (fun k => skiarealaw12_WeatherSnow.j1 k l s m (fr 0 (inL l s span.f0 span.f1)) true span.f0 span.f1) true := Ev.step (f := fun k => some true) (fun k => by simp only [skiarealaw12_WeatherSnow.j1, if_true]) (Ev.now _)
      refine Ev.step (fun k => by simp only [skiarealaw12_WeatherSnow.j0]; rw [if_neg (by simp)]) (Ev.bind (prog_Fresh l (by omega) s span.f0 span.f1) ?_)
      refine Ev.bind (ref_Fresh l (by omega) s span.f0 span.f1) ?_
      by_cases q1 : m < span.f0
      · exact Ev.congr (fun k => by rw [if_pos rfl, if_pos q1]) hout1
      · by_cases q2 : m > span.f1
        · exact Ev.congr (fun k => by rw [if_pos rfl, if_neg q1, show decide (m > span.f1) = true from decide_eq_true q2]) hout1
        · obtain ⟨e1, e2⟩ := parts s span.f0 span.f1 m (by omega) (by omega) l (fun x hx => (hb x hx).2)
          have b1 := hsb span.f0 m
          have b2 := hsb m span.f1
          refine Ev.congr (fun k => by rw [if_pos rfl, if_neg q1, show decide (m > span.f1) = false from decide_eq_false q2]) (Ev.step (fun k => by simp only [skiarealaw12_WeatherSnow.j1]; rw [if_neg (by simp)]) (Ev.bind (prog_Fresh l (by omega) s span.f0 m) ?_))
          refine Ev.bind (prog_Fresh l (by omega) s m span.f1) ?_
          refine Ev.congr (fun k => by rw [if_pos (by rw [hfr, hfr, hfr, wrap_id (by omega) (by omega)]; exact e1)]) (Ev.bind (prog_Peak l (by omega) s span.f0 span.f1) ?_)
          refine Ev.bind (prog_Peak l (by omega) s span.f0 m) ?_
          refine Ev.bind (prog_Peak l (by omega) s m span.f1) ?_
          refine Ev.congr (f := fun k => some true) (fun k => ?_) (Ev.now _)
          rw [hpk, hpk, hpk, e2]
          simp
    · rw [show (rightP l != 0) = true from bne_iff_ne.2 hr]
      exact hout
end Go.Proofs.Ythndidjhdijpnaa.Pure
