/- The pure statement of the law RescueTeams. -/
import Derived.Test.YtedejkhopjhnbaaPureB
import Derived.Test.YtedejkhopjhnbaaPureY
import Derived.Test.YtedejkhopjhnbaaPx37
import Derived.Test.YtedejkhopjhnbaaOpen
namespace Go.Proofs.Ytedejkhopjhnbaa.Pure
open Go.RowKit Go.Proofs.YtedejkhopjhnbaaW.PrintWords Go.Proofs.YtedejkhopjhnbaaW.PrintLast Go.Proofs.YtedejkhopjhnbaaW.PrintMore Go.Proofs.Ytedejkhopjhnbaa.P Go.Proofs.Ytedejkhopjhnbaa.Open
set_option linter.unusedVariables false
set_option linter.unusedSimpArgs false

theorem td_td (l : List S33) : td (td l) = td l := by unfold td; rw [List.filter_filter]; simp
theorem good_td {l : List S33} (hg : Good l) : Good (td l) := by
  have hs : ∀ x ∈ td l, x ∈ l := fun x hx => (td_mem hx).1
  refine ⟨Nat.le_trans (td_len l) hg.len, fun x hx => hg.id x (hs x hx), fun x hx => hg.people x (hs x hx), fun x hx => hg.secs x (hs x hx), fun i j hij hj => ?_⟩
  have := (List.pairwise_iff_getElem.1 (own_td hg)) i j (by omega) hj hij
  rwa [getD_eq _ z33 i (by omega), getD_eq _ z33 j hj]
theorem leaves_sub {m n : Nat} (h : m ≤ n) {k : Nat} {a : List Int} (ha : a ∈ leaves m k) : a ∈ leaves n k := by
  obtain ⟨h1, h2⟩ := mem_leaves.1 ha
  exact mem_leaves.2 ⟨h1, fun u hu => by have := h2 u hu; omega⟩
theorem teams_l0 (l : List S33) (hg : Good l) : ∀ (d i : Nat), i + d = l.length → Ev (fun k => skiarealaw21_RescueTeams.l0 k l (td (l.take i)) (secSum (td (l.take i))) (i : Int)) true := by
  intro d
  induction d with
  | zero =>
    intro i hi
    rw [List.take_of_length_le (by omega)]
    obtain ⟨a, a1, a2, a3, a4⟩ := plan_spec l hg 1 (by omega) (by omega)
    obtain ⟨b, b1, b2, b3, b4⟩ := plan_spec l hg 2 (by omega) (by omega)
    obtain ⟨c, c1, c2, c3, c4⟩ := plan_spec l hg 3 (by omega) (by omega)
    obtain ⟨x, x1, x2, x3, x4⟩ := plan_spec (td l) (good_td hg) 2 (by omega) (by omega)
    rw [td_td] at x1 x2 x3 x4
    have ex : x = b := by rw [x1] at b1; have := congrArg Prod.fst b1; exact Option.some.inj this
    subst ex
    have ht8 : (td l).length ≤ 8 := Nat.le_trans (td_len l) hg.len
    have hs := td_secs hg
    have la := mem_leaves.1 a2
    have e1 := sum_le_end (td l) hs 1 (by omega) (by omega) a a2
    have e2 : endOf (td l) a = secSum (td l) := by
      have hsum := finE_sum (td l) a zeroE la.1 (fun u hu => by have := la.2 u hu; omega)
      have h2 := finE_not (td l) a zeroE 2 (fun hh => by have := la.2 2 hh; omega)
      have h3 := finE_not (td l) a zeroE 3 (fun hh => by have := la.2 3 hh; omega)
      have hz : ∀ u, zeroE u = 0 := fun _ => rfl
      rw [hz] at h2 h3
      rw [hz, hz, hz] at hsum
      have h0 := (secSum_bound (td l) hs).1
      have : endOf (td l) a ≤ secSum (td l) := mxe_le.2 ⟨by omega, by omega, by omega⟩
      simp only [Int.natCast_one] at e1
      omega
    have h21 := b3 a (leaves_sub (by omega) a2)
    have h32 := c3 x (leaves_sub (by omega) x2)
    have hb1 := bound_le (td l) ht8 hs 1 (by omega) (by omega) a a2
    have hbd : boundP (td l) 1 = secSum (td l) := by
      have h5 := secSum_bound (td l) hs
      have h1 := bGo_eq (td l) 0 0 (secSum (td l)) hs (Int.le_refl _) (by omega) h5.1 (fun y hy => by
        have hh := finE_sec (td l) a zeroE la.1 (fun x hx => by have := hs x hx; omega) (fun _ => Int.le_refl _) (fun u hu => by have := la.2 u hu; omega) y hy
        have : mxe (finE zeroE (td l) a) = secSum (td l) := e2
        omega)
      unfold boundP bFin
      rw [if_neg (by omega), h1.1, Int.zero_add]
      have t1 : Int.tmod (secSum (td l)) 1 = 0 := Int.tmod_one _
      have t2 : Int.tdiv (secSum (td l)) 1 = secSum (td l) := Int.tdiv_one _
      rw [if_pos t1, t2, wrap_id (by omega) (by omega)]
      have := h1.2
      unfold mx
      split <;> omega
    have ja := jobsL_length (td l) a zeroE la.1
    have jc := jobsL_length (td l) c zeroE (mem_leaves.1 c2).1
    have jx := jobsL_length (td l) x zeroE (mem_leaves.1 x2).1
    refine Ev.step (f := fun k => (skiarearef21_Same.f k (jobsL zeroE (td l) x) (jobsL zeroE (td l) x)).bind fun t306 => (if t306 = true then ((rescue_Bound.f k l 1).bind fun t307 => (some (t307 == secSum (td l)))) else (some false))) (fun k => ?_) ?_
    · simp only [skiarealaw21_RescueTeams.l0]
      have r1 : rescue_Plan.f l 1 = some (jobsL zeroE (td l) a, endOf (td l) a, 0) := a4
      have r2 : rescue_Plan.f l 2 = some (jobsL zeroE (td l) x, endOf (td l) x, 0) := b4
      have r3 : rescue_Plan.f l 3 = some (jobsL zeroE (td l) c, endOf (td l) c, 0) := c4
      have r4 : rescue_Plan.f (td l) 2 = some (jobsL zeroE (td l) x, endOf (td l) x, 0) := x4
      rw [if_neg (by omega), r1, r2, r3, r4]
      simp only [Option.bind_some]
      rw [if_pos e2, if_pos h21, if_pos h32, if_pos (by omega), if_pos (by omega)]
    · refine Ev.bind (same_ev _ (by omega)) ?_
      refine Ev.congr (fun k => by rw [if_pos rfl]) (Ev.bind (prog_Bound l hg.len 1) ?_)
      rw [hbd]
      exact Ev.congr (f := fun _ => some true) (fun k => by simp) (Ev.now _)
  | succ d ih =>
    intro i hi
    have hw := wrap_succ i (by have := hg.len; omega)
    have hlt : i < l.length := by omega
    have htk : l.take (i + 1) = l.take i ++ [l.getD i z33] := by rw [List.take_succ_eq_append_getElem hlt, getD_eq l z33 i hlt]
    have hx : l.getD i z33 ∈ l := by rw [getD_eq l z33 i hlt]; exact List.getElem_mem hlt
    have hp := hg.people _ hx
    have hsx := hg.secs _ hx
    have h1 := ih (i + 1) (by omega)
    rw [htk] at h1
    have hlen : (td (l.take i)).length ≤ 8 := Nat.le_trans (td_len _) (by rw [List.length_take]; have := hg.len; omega)
    have hsum := secSum_bound (td (l.take i)) (fun y hy => hg.secs y (List.mem_of_mem_take (td_mem hy).1))
    have hss : ∀ (t : List S33) (y : S33), secSum (t ++ [y]) = secSum t + y.f2 := fun t y => by
      induction t with
      | nil => simp [secSum]
      | cons z r ihh => simp only [List.cons_append, secSum]; rw [ihh]; omega
    generalize hy : l.getD i z33 = y at *
    have st : ∀ k, skiarealaw21_RescueTeams.l0 (k + 1) l (td (l.take i)) (secSum (td (l.take i))) (i : Int) = if y.f1 > 0 then skiarealaw21_RescueTeams.l0 k l (td (l.take i) ++ [y]) (wrap64 (secSum (td (l.take i)) + y.f2)) ((i + 1 : Nat) : Int) else skiarealaw21_RescueTeams.l0 k l (td (l.take i)) (secSum (td (l.take i))) ((i + 1 : Nat) : Int) := fun k => by
      simp only [skiarealaw21_RescueTeams.l0, rd_at, hy, hw]
      rw [if_pos (by omega), if_pos (by omega)]
      by_cases h : y.f1 > 0
      · rw [if_pos h, if_pos h, if_pos (by omega)]
      · rw [if_neg h, if_neg h]
    refine Ev.step st ?_
    by_cases h : y.f1 > 0
    · have e : td (l.take i ++ [y]) = td (l.take i) ++ [y] := by unfold td; rw [List.filter_append]; simp [needP]; omega
      rw [e, hss] at h1
      rw [wrap_id (by omega) (by omega)]
      simp only [if_pos h]
      exact h1
    · have e : td (l.take i ++ [y]) = td (l.take i) := by unfold td; rw [List.filter_append]; simp [needP]; omega
      rw [e] at h1
      simp only [if_neg h]
      exact h1
theorem RescueTeams (l : List S33) (hz : ∀ p ∈ l, wf33 p) : ∃ k, skiarealaw21_RescueTeams.f k l = some true := by
  refine Ev.rounds ?_
  refine Ev.congr (fun k => by unfold skiarealaw21_RescueTeams.f skiarealaw21_alive.f; rw [Option.bind_some, if_pos rfl]) (Ev.bind (right_ev l) ?_)
  by_cases hr : rightP l = 0
  · have hg := good_of hr
    rw [show (rightP l == 0) = true by simp [hr]]
    exact Ev.congr (f := fun k => skiarealaw21_RescueTeams.l0 k l [] 0 0) (fun k => by rw [if_pos rfl]) (by simpa [td, secSum] using teams_l0 l hg l.length 0 (by omega))
  · rw [show (rightP l == 0) = false by simpa using hr]
    exact Ev.congr (f := fun k => some true) (fun k => by rw [if_neg (by simp)]) (Ev.now _)
end Go.Proofs.Ytedejkhopjhnbaa.Pure
