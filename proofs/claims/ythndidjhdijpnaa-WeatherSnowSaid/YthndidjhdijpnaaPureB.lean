/- Pure facts on sums and peaks of observations in an interval. -/
import Derived.Test.YthndidjhdijpnaaPureA
import Derived.Test.YthndidjhdijpnaaPx8
import Derived.Test.YthndidjhdijpnaaPx9
import Derived.Test.YthndidjhdijpnaaPx18
import Derived.Test.YthndidjhdijpnaaPx20
namespace Go.Proofs.Ythndidjhdijpnaa.Pure
open Go.RowKit Go.Proofs.YthndidjhdijpnaaW.PrintWords Go.Proofs.YthndidjhdijpnaaW.PrintLast Go.Proofs.YthndidjhdijpnaaW.PrintMore Go.Proofs.Ythndidjhdijpnaa.P
set_option linter.unusedVariables false
set_option linter.unusedSimpArgs false

def inP (s f t : Int) (x : S30) : Bool := !ofP s f t x
def inL (l : List S30) (s f t : Int) : List S30 := l.filter (inP s f t)
theorem within_eq (s f t : Int) (x : S30) : skiarearef12_within.f x.f0 x.f1 x.f2 x.f3 x.f4 x.f5 s f t = some (inP s f t x) := by
  unfold skiarearef12_within.f inP ofP
  by_cases h1 : x.f0 = s
  · rw [if_pos h1]
    by_cases h2 : x.f1 ≥ f
    · rw [if_pos h2]
      by_cases h3 : x.f1 < t
      · simp [h1, show ¬ x.f1 < f by omega, h3]
      · simp [h1, show ¬ x.f1 < f by omega, h3, show t ≤ x.f1 by omega]
    · rw [if_neg h2]; simp [show x.f1 < f by omega]
  · rw [if_neg h1]
    have : (x.f0 != s) = true := by simp [h1]
    simp [this]
def pk (m : Int) (F : List S30) : Int := F.foldl (fun m x => mx m x.f2) m
def fr (n : Int) (F : List S30) : Int := F.foldl (fun n x => wrap64 (n + x.f5)) n
def peakR (F : List S30) : Int := match F with
  | [] => -1
  | x :: t => pk x.f2 t
theorem mx_self (m : Int) : mx m m = m := by unfold mx; split <;> rfl
theorem prog_Peak_l0 (F : List S30) (hl : F.length ≤ 1000) : ∀ (d i : Nat) (m : Int), i + d = F.length → Ev (fun k => weather_Peak.l0 k m F (F.length : Int) (i : Int)) (pk m (F.drop i)) := by
  intro d
  induction d with
  | zero =>
    intro i m hi
    rw [List.drop_eq_nil_of_le (by omega)]
    exact Ev.step (f := fun k => some m) (fun k => by simp only [weather_Peak.l0]; rw [if_neg (by omega)]) (Ev.now _)
  | succ d ih =>
    intro i m hi
    have hlt : i < F.length := by omega
    have hw : wrap64 ((i : Int) + 1) = ((i + 1 : Nat) : Int) := by rw [wrap_id (by omega) (by omega)]; omega
    rw [List.drop_eq_getElem_cons hlt, ← getD_eq F z30 i hlt]
    refine Ev.step (fun k => ?_) (ih (i + 1) (mx m (F.getD i z30).f2) (by omega))
    simp only [weather_Peak.l0, rd_at, hw]
    rw [if_pos (by omega), if_pos (by omega), if_pos (by omega)]
theorem inL_len (l : List S30) (s f t : Int) : (inL l s f t).length ≤ l.length := List.length_filter_le _ _
theorem prog_Peak (l : List S30) (hl : l.length ≤ 1000) (s f t : Int) : Ev (fun k => weather_Peak.f k l s f t) (peakR (inL l s f t)) := by
  have hF := inL_len l s f t
  have e : weather_of.f l s f t = some (inL l s f t) := by unfold weather_of.f; rw [if_pos (by omega)]; rfl
  have hp := prog_Peak_l0 (inL l s f t) (by omega) (inL l s f t).length 0
  generalize inL l s f t = F at *
  cases F with
  | nil => exact Ev.congr (f := fun k => some (-1)) (fun k => by unfold weather_Peak.f; rw [e, Option.bind_some]; rfl) (Ev.now _)
  | cons x u =>
    have h1 := hp (x.f2) (by omega)
    have h2 : pk x.f2 (List.drop 0 (x :: u)) = peakR (x :: u) := by show pk (mx x.f2 x.f2) u = pk x.f2 u; rw [mx_self]
    rw [h2] at h1
    refine Ev.congr (fun k => ?_) h1
    unfold weather_Peak.f
    rw [e, Option.bind_some, if_neg (by rw [List.length_cons]; omega), if_pos (by rw [List.length_cons]; omega)]
    rfl
theorem prog_Fresh_l0 (F : List S30) (hl : F.length ≤ 1000) : ∀ (d i : Nat) (m : Int), i + d = F.length → Ev (fun k => weather_Fresh.l0 k m F (F.length : Int) (i : Int)) (fr m (F.drop i)) := by
  intro d
  induction d with
  | zero =>
    intro i m hi
    rw [List.drop_eq_nil_of_le (by omega)]
    exact Ev.step (f := fun k => some m) (fun k => by simp only [weather_Fresh.l0]; rw [if_neg (by omega)]) (Ev.now _)
  | succ d ih =>
    intro i m hi
    have hlt : i < F.length := by omega
    have hw : wrap64 ((i : Int) + 1) = ((i + 1 : Nat) : Int) := by rw [wrap_id (by omega) (by omega)]; omega
    rw [List.drop_eq_getElem_cons hlt, ← getD_eq F z30 i hlt]
    refine Ev.step (fun k => ?_) (ih (i + 1) (wrap64 (m + (F.getD i z30).f5)) (by omega))
    simp only [weather_Fresh.l0, rd_at, hw]
    rw [if_pos (by omega), if_pos (by omega), if_pos (by omega)]
theorem prog_Fresh (l : List S30) (hl : l.length ≤ 1000) (s f t : Int) : Ev (fun k => weather_Fresh.f k l s f t) (fr 0 (inL l s f t)) := by
  have hF := inL_len l s f t
  have e : weather_of.f l s f t = some (inL l s f t) := by unfold weather_of.f; rw [if_pos (by omega)]; rfl
  have hp := prog_Fresh_l0 (inL l s f t) (by omega) (inL l s f t).length 0 0 (by omega)
  exact Ev.congr (fun k => by unfold weather_Fresh.f; rw [e, Option.bind_some]; rfl) hp
theorem ref_Fresh_l0 (l : List S30) (hl : l.length ≤ 1000) (s f t : Int) : ∀ (d i : Nat) (m : Int), i + d = l.length → Ev (fun k => skiarearef12_Fresh.l0 k l s m (i : Int) f t) (fr m ((l.drop i).filter (inP s f t))) := by
  intro d
  induction d with
  | zero =>
    intro i m hi
    rw [List.drop_eq_nil_of_le (by omega)]
    exact Ev.step (f := fun k => some m) (fun k => by simp only [skiarearef12_Fresh.l0]; rw [if_neg (by omega)]) (Ev.now _)
  | succ d ih =>
    intro i m hi
    have hlt : i < l.length := by omega
    have hw : wrap64 ((i : Int) + 1) = ((i + 1 : Nat) : Int) := by rw [wrap_id (by omega) (by omega)]; omega
    rw [List.drop_eq_getElem_cons hlt, ← getD_eq l z30 i hlt]
    cases hq : inP s f t (l.getD i z30) with
    | true =>
      rw [List.filter_cons_of_pos (by exact hq)]
      refine Ev.step (fun k => ?_) (ih (i + 1) (wrap64 (m + (l.getD i z30).f5)) (by omega))
      simp only [skiarearef12_Fresh.l0, rd_at, hw, within_eq, hq]
      rw [if_pos (by omega), if_pos (by omega), Option.bind_some, if_pos rfl]
    | false =>
      rw [List.filter_cons_of_neg (by rw [hq]; simp)]
      refine Ev.step (fun k => ?_) (ih (i + 1) m (by omega))
      simp only [skiarearef12_Fresh.l0, rd_at, hw, within_eq, hq]
      rw [if_pos (by omega), if_pos (by omega), Option.bind_some, if_neg (by simp)]
theorem ref_Fresh (l : List S30) (hl : l.length ≤ 1000) (s f t : Int) : Ev (fun k => skiarearef12_Fresh.f k l s f t) (fr 0 (inL l s f t)) := by
  have := ref_Fresh_l0 l hl s f t l.length 0 0 (by omega)
  exact this
def pkB (m : Int) (b : Bool) (F : List S30) : Int := match b with
  | true => pk m F
  | false => match F with
    | [] => m
    | x :: t => pk x.f2 t
theorem ref_Peak_l0 (l : List S30) (hl : l.length ≤ 1000) (s f t : Int) : ∀ (d i : Nat) (m : Int) (b : Bool), i + d = l.length → Ev (fun k => skiarearef12_Peak.l0 k l s m b (i : Int) f t) (pkB m b ((l.drop i).filter (inP s f t))) := by
  intro d
  induction d with
  | zero =>
    intro i m b hi
    rw [List.drop_eq_nil_of_le (by omega)]
    have e : pkB m b ([].filter (inP s f t)) = m := by cases b <;> rfl
    rw [e]
    exact Ev.step (f := fun k => some m) (fun k => by simp only [skiarearef12_Peak.l0]; rw [if_neg (by omega)]) (Ev.now _)
  | succ d ih =>
    intro i m b hi
    have hlt : i < l.length := by omega
    have hw : wrap64 ((i : Int) + 1) = ((i + 1 : Nat) : Int) := by rw [wrap_id (by omega) (by omega)]; omega
    rw [List.drop_eq_getElem_cons hlt, ← getD_eq l z30 i hlt]
    cases hq : inP s f t (l.getD i z30) with
    | true =>
      rw [List.filter_cons_of_pos (by exact hq)]
      cases b with
      | true =>
        by_cases hg : (l.getD i z30).f2 > m
        · have hmx : pkB m true (l.getD i z30 :: ((l.drop (i + 1)).filter (inP s f t))) = pkB (l.getD i z30).f2 true ((l.drop (i + 1)).filter (inP s f t)) := by
            show pk (mx m (l.getD i z30).f2) _ = pk _ _
            rw [show mx m (l.getD i z30).f2 = (l.getD i z30).f2 by unfold mx; rw [if_pos hg]]
          rw [hmx]
          refine Ev.step (fun k => ?_) (ih (i + 1) _ true (by omega))
          simp only [skiarearef12_Peak.l0, rd_at, hw, within_eq, hq]
          rw [if_pos (by omega), if_pos (by omega), Option.bind_some, if_pos rfl, if_pos trivial, if_pos hg]
        · have hmx : pkB m true (l.getD i z30 :: ((l.drop (i + 1)).filter (inP s f t))) = pkB m true ((l.drop (i + 1)).filter (inP s f t)) := by
            show pk (mx m (l.getD i z30).f2) _ = pk _ _
            rw [show mx m (l.getD i z30).f2 = m by unfold mx; rw [if_neg (by omega)]]
          rw [hmx]
          refine Ev.step (fun k => ?_) (ih (i + 1) _ true (by omega))
          simp only [skiarearef12_Peak.l0, rd_at, hw, within_eq, hq]
          rw [if_pos (by omega), if_pos (by omega), Option.bind_some, if_pos rfl, if_pos trivial, if_neg hg]
      | false =>
        have hmx : pkB m false (l.getD i z30 :: ((l.drop (i + 1)).filter (inP s f t))) = pkB (l.getD i z30).f2 true ((l.drop (i + 1)).filter (inP s f t)) := rfl
        rw [hmx]
        refine Ev.step (fun k => ?_) (ih (i + 1) _ true (by omega))
        simp only [skiarearef12_Peak.l0, rd_at, hw, within_eq, hq]
        rw [if_pos (by omega), if_pos (by omega), Option.bind_some, if_pos rfl, if_neg (by simp)]
    | false =>
      rw [List.filter_cons_of_neg (by rw [hq]; simp)]
      refine Ev.step (fun k => ?_) (ih (i + 1) m b (by omega))
      simp only [skiarearef12_Peak.l0, rd_at, hw, within_eq, hq]
      rw [if_pos (by omega), if_pos (by omega), Option.bind_some, if_neg (by simp)]
theorem ref_Peak (l : List S30) (hl : l.length ≤ 1000) (s f t : Int) : Ev (fun k => skiarearef12_Peak.f k l s f t) (peakR (inL l s f t)) := by
  have h := ref_Peak_l0 l hl s f t l.length 0 (-1) false (by omega)
  have e : pkB (-1) false ((l.drop 0).filter (inP s f t)) = peakR (inL l s f t) := by
    show pkB (-1) false (inL l s f t) = _
    generalize inL l s f t = F
    cases F <;> rfl
  rw [e] at h
  exact h
end Go.Proofs.Ythndidjhdijpnaa.Pure
