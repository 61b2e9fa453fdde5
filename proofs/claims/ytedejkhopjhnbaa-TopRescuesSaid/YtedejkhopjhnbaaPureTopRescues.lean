/- The pure statement of the law TopRescues. -/
import Derived.Test.YtedejkhopjhnbaaPureZ
import Derived.Test.YtedejkhopjhnbaaPx22
import Derived.Test.YtedejkhopjhnbaaPx16
import Derived.Test.YtedejkhopjhnbaaOpen
namespace Go.Proofs.Ytedejkhopjhnbaa.Pure
open Go.RowKit Go.Proofs.YtedejkhopjhnbaaW.PrintWords Go.Proofs.YtedejkhopjhnbaaW.PrintLast Go.Proofs.YtedejkhopjhnbaaW.PrintMore Go.Proofs.Ytedejkhopjhnbaa.P Go.Proofs.Ytedejkhopjhnbaa.Open
set_option linter.unusedVariables false
set_option linter.unusedSimpArgs false

theorem top_l1 (l : List S33) (hg : Good l) (m : Nat) (hm : 1 ≤ m) (hm3 : m ≤ 3) (js : List S35) (hj : ∀ p ∈ js, wf35 p) (h20 : js.length ≤ 20) (E : Int) (hE : ∀ x, x ∈ leaves m (td l).length → E ≤ endOf (td l) x) :
    ∀ (d i : Nat) (n : Int), i + d = js.length → n = (js.take i).foldl (fun n j => mx n j.f3) 0 → Ev (fun k => skiareatop_TopRescues.l1 k l (m : Int) js E n (i : Int)) true := by
  intro d
  induction d with
  | zero =>
    intro i n hi hn
    rw [List.take_of_length_le (by omega)] at hn
    refine Ev.step (f := fun k => some true) (fun k => ?_) (Ev.now _)
    simp only [skiareatop_TopRescues.l1]
    rw [if_neg (by omega)]
    unfold rescue_Valid.f
    rw [needing_f l hg.len, Option.bind_some, Option.bind_some]
    cases hv : validP (td l) (m : Int) js with
    | false => rw [if_neg (by simp)]
    | true =>
      rw [if_pos rfl]
      obtain ⟨e1, e2⟩ := vp_end (own_td hg) hm3 ((validP_iff _ _ _).1 hv) (fun j hjj => (hj j hjj).2.2.2)
      have := hE _ e1
      have h3 : n = lastP js := hn
      rw [decide_eq_true (show n ≥ E by omega)]
  | succ d ih =>
    intro i n hi hn
    have hw := wrap_succ i (by omega)
    have hlt : i < js.length := by omega
    have htk : js.take (i + 1) = js.take i ++ [js.getD i z35] := by rw [List.take_succ_eq_append_getElem hlt, getD_eq js z35 i hlt]
    have hs : (js.take (i + 1)).foldl (fun n j => mx n j.f3) 0 = mx n (js.getD i z35).f3 := by rw [htk, List.foldl_append, ← hn]; rfl
    refine Ev.step (f := fun k => skiareatop_TopRescues.l1 k l (m : Int) js E (mx n (js.getD i z35).f3) ((i + 1 : Nat) : Int)) (fun k => ?_) (ih (i + 1) _ (by omega) hs.symm)
    simp only [skiareatop_TopRescues.l1, rd_at5, hw]
    rw [if_pos (by omega), if_pos (by omega)]
    unfold mx
    by_cases h : (js.getD i z35).f3 > n
    · rw [if_pos h, if_pos (by omega)]
    · rw [if_neg h, if_neg (by omega)]
theorem top_l0 (l : List S33) (hg : Good l) (m : Nat) (js jl : List S35) (E : Int) (F : LeftFacts l jl E) (h3 : Ev (fun k => skiareatop_TopRescues.j3 k l (m : Int) js E false) true) :
    ∀ (d i : Nat), i + d = l.length → Ev (fun k => skiareatop_TopRescues.l0 k l (m : Int) js jl E (people (l.take i)) (i : Int)) true := by
  intro d
  induction d with
  | zero =>
    intro i hi
    rw [List.take_of_length_le (by omega)]
    by_cases hp : people l > 0
    · have hb := F.before hp
      refine Ev.step (f := fun k => skiareatop_TopRescues.j3 k l (m : Int) js E false) (fun k => ?_) h3
      simp only [skiareatop_TopRescues.l0]
      have lo := F.lo
      have hi := F.hi
      rw [if_neg (by omega), if_pos hp, wrap_id (by omega) (by omega)]
      unfold rescue_Left.f
      rw [Option.bind_some, show (leftP l jl (E - 1) == 0) = false from beq_eq_false_iff_ne.2 hb]
    · refine Ev.step (f := fun k => skiareatop_TopRescues.j3 k l (m : Int) js E false) (fun k => ?_) h3
      simp only [skiareatop_TopRescues.l0]
      rw [if_neg (by omega), if_neg hp]
  | succ d ih =>
    intro i hi
    have hw := wrap_succ i (by have := hg.len; omega)
    have hlt : i < l.length := by omega
    have htk : l.take (i + 1) = l.take i ++ [l.getD i z33] := by rw [List.take_succ_eq_append_getElem hlt, getD_eq l z33 i hlt]
    have hpb := people_bound (l.take (i + 1)) (fun x hx => hg.people x (List.mem_of_mem_take hx))
    have hl9 : (l.take (i + 1)).length ≤ 8 := by rw [List.length_take]; have := hg.len; omega
    rw [htk, people_snoc] at hpb
    have h1 := ih (i + 1) (by omega)
    rw [htk, people_snoc] at h1
    rw [htk] at hl9
    refine Ev.step (f := fun k => skiareatop_TopRescues.l0 k l (m : Int) js jl E (people (l.take i) + (l.getD i z33).f1) ((i + 1 : Nat) : Int)) (fun k => ?_) h1
    simp only [skiareatop_TopRescues.l0, rd_at, hw]
    rw [if_pos (by omega), if_pos (by omega), wrap_id (by omega) (by omega)]
theorem TopRescues (l : List S33) (hz : ∀ p ∈ l, wf33 p) (a1 : Int) (w1 : is_i64 a1) (js : List S35) (hj : ∀ p ∈ js, wf35 p) : ∃ k, skiareatop_TopRescues.f k l a1 js = some true := by
  refine Ev.rounds ?_
  have jt : Ev (fun k => skiareatop_TopRescues.j0 k l a1 js true) true := Ev.step (f := fun k => some true) (fun k => by simp only [skiareatop_TopRescues.j0, if_true]) (Ev.now _)
  unfold skiareatop_TopRescues.f skiareatop_plansAlive.f
  by_cases h8 : (l.length : Int) > 8
  · exact Ev.congr (fun k => by rw [Option.bind_some, if_pos rfl, if_pos h8]) jt
  by_cases h20 : (js.length : Int) > 20
  · exact Ev.congr (fun k => by rw [Option.bind_some, if_pos rfl, if_neg h8, if_pos h20]) jt
  refine Ev.congr (fun k => by rw [Option.bind_some, if_pos rfl, if_neg h8, if_neg h20]) (Ev.bind (ref_Right l) ?_)
  by_cases hr : rightP l = 0
  · have hg := good_of hr
    by_cases c1 : a1 < 1
    · exact Ev.congr (fun k => by rw [if_pos hr, if_pos c1]) jt
    · refine Ev.congr (f := fun k => skiareatop_TopRescues.j0 k l a1 js (decide (a1 > 3))) (fun k => by rw [if_pos hr, if_neg c1]) ?_
      by_cases c2 : a1 > 3
      · rw [decide_eq_true c2]; exact jt
      · rw [decide_eq_false c2]
        obtain ⟨m, rfl⟩ : ∃ m : Nat, a1 = m := ⟨a1.toNat, by omega⟩
        have hm : 1 ≤ m := by omega
        have hm3 : m ≤ 3 := by omega
        obtain ⟨a, q1, q2, q3, q4⟩ := plan_spec l hg m hm hm3
        obtain ⟨a', p1, F⟩ := left_facts l hg m hm hm3
        have eJ : jobsL zeroE (td l) a' = jobsL zeroE (td l) a ∧ endOf (td l) a' = endOf (td l) a := by
          rw [q4] at p1
          have := Option.some.inj p1
          simp only [Prod.mk.injEq] at this
          exact ⟨this.1.symm, this.2.1.symm⟩
        rw [eJ.1, eJ.2] at F
        have ht8 : (td l).length ≤ 8 := Nat.le_trans (td_len l) hg.len
        have hv := plan_valid (td l) (own_td hg) ht8 (td_secs hg) m hm3 a q2
        have hb := bound_le (td l) ht8 (td_secs hg) m hm hm3 a q2
        have h1 := top_l1 l hg m hm hm3 js hj (by omega) (endOf (td l) a) q3 js.length 0 0 (by omega) rfl
        have h3 : Ev (fun k => skiareatop_TopRescues.j3 k l (m : Int) js (endOf (td l) a) false) true := Ev.step (f := fun k => skiareatop_TopRescues.l1 k l (m : Int) js (endOf (td l) a) 0 0) (fun k => by simp only [skiareatop_TopRescues.j3]; rw [if_neg (by simp)]) (by simpa using h1)
        have h0 := top_l0 l hg m js _ _ F h3 l.length 0 (by omega)
        refine Ev.step (f := fun k => (rescue_Bound.f k l m).bind fun t194 => skiareatop_TopRescues.j1 k l m js (jobsL zeroE (td l) a) (endOf (td l) a) (decide (endOf (td l) a < t194))) (fun k => ?_) ?_
        · simp only [skiareatop_TopRescues.j0]
          rw [if_neg (by simp), q4, Option.bind_some, if_pos rfl]
          unfold rescue_Valid.f rescue_Left.f
          rw [needing_f l hg.len, Option.bind_some, Option.bind_some, hv, if_pos rfl, Option.bind_some, if_pos F.done]
        · refine Ev.bind (prog_Bound l hg.len m) ?_
          rw [decide_eq_false (by omega)]
          refine Ev.step (f := fun k => skiareatop_TopRescues.l0 k l m js (jobsL zeroE (td l) a) (endOf (td l) a) 0 0) (fun k => by simp only [skiareatop_TopRescues.j1]; rw [if_neg (by simp)]) ?_
          simpa [people] using h0
  · exact Ev.congr (fun k => by rw [if_neg hr]) jt
end Go.Proofs.Ytedejkhopjhnbaa.Pure
