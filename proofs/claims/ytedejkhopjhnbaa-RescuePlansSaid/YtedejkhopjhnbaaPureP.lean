/- The reference's Plan, in plain lists. -/
import Derived.Test.YtedejkhopjhnbaaPureT
import Derived.Test.YtedejkhopjhnbaaPx25
import Derived.Test.YtedejkhopjhnbaaPx26
namespace Go.Proofs.Ytedejkhopjhnbaa.Pure
open Go.RowKit Go.Proofs.YtedejkhopjhnbaaW.PrintWords Go.Proofs.YtedejkhopjhnbaaW.PrintLast Go.Proofs.YtedejkhopjhnbaaW.PrintMore Go.Proofs.Ytedejkhopjhnbaa.P
set_option linter.unusedVariables false
set_option linter.unusedSimpArgs false

/-! the reference's Plan: all assignments, by number -/
def digS (m : Nat) : Nat → Nat → List Int
  | 0, _ => []
  | n + 1, j => digS m n (j / m) ++ [1 + ((j % m : Nat) : Int)]
theorem leaves_snoc (m : Nat) : ∀ n, leaves m (n + 1) = (leaves m n).flatMap fun a => (teams m).map fun t => a ++ [t]
  | 0 => by
    simp only [leaves, List.flatMap_cons, List.flatMap_nil, List.append_nil, List.map_cons, List.map_nil, List.nil_append]
    induction teams m with
    | nil => rfl
    | cons x r ih => simpa using ih
  | n + 1 => by
    have h : leaves m (n + 2) = (teams m).flatMap fun t => (leaves m (n + 1)).map (t :: ·) := rfl
    rw [h, leaves_snoc m n]
    have h2 : leaves m (n + 1) = (teams m).flatMap fun t => (leaves m n).map (t :: ·) := rfl
    rw [← leaves_snoc m n, h2]
    rw [List.flatMap_assoc]
    congr 1
    funext t
    rw [← h2, leaves_snoc m n, List.map_flatMap, List.flatMap_map]
    congr 1
    funext a
    simp [Function.comp_def]
theorem range_mul (m : Nat) : ∀ n, List.range (n * m) = (List.range n).flatMap fun q => (List.range m).map fun r => q * m + r
  | 0 => by simp
  | n + 1 => by
    rw [Nat.succ_mul, List.range_add, range_mul m n, List.range_succ, List.flatMap_append]
    simp
theorem leaves_dig (m : Nat) : ∀ n, leaves m n = (List.range (m ^ n)).map (digS m n)
  | 0 => by simp [leaves, digS]
  | n + 1 => by
    rw [leaves_snoc, leaves_dig m n, Nat.pow_succ, range_mul, List.map_flatMap, List.flatMap_map]
    congr 1
    funext q
    rw [List.map_map]
    by_cases hm : m = 0
    · subst hm; rfl
    · have hm : 0 < m := by omega
      unfold teams
      rw [List.map_map]
      apply List.map_congr_left
      intro r hr
      have hr : r < m := List.mem_range.1 hr
      simp only [Function.comp_apply, digS]
      rw [Nat.mul_comm q m, Nat.mul_add_div hm, Nat.div_eq_of_lt hr, Nat.mul_add_mod, Nat.mod_eq_of_lt hr, Nat.add_zero]
      congr 2
      omega
/-- the reference's choice -/
def pick (acc : List S35 × Int) (js : List S35) (en : Int) : List S35 × Int := if acc.2 < 0 then (js, en) else if en < acc.2 then (js, en) else acc
def shown (t : List S33) (acc : Option (List Int) × Int) : List S35 × Int := match acc with
  | (some a, en) => (jobsL zeroE t a, en)
  | (none, _) => ([], -1)
theorem endOf_nonneg (t : List S33) (ht : ∀ x ∈ t, 1 ≤ x.f2 ∧ x.f2 ≤ 86400) (a : List Int) : 0 ≤ endOf t a := by
  have h1 : mxe zeroE ≤ mxe (finE zeroE t a) := mxe_mono (finE_le t a zeroE (fun x hx => by have := ht x hx; omega))
  have h2 : mxe zeroE = 0 := rfl
  unfold endOf
  omega
theorem pick_shown (t : List S33) (ht : ∀ x ∈ t, 1 ≤ x.f2 ∧ x.f2 ≤ 86400) (acc : Option (List Int) × Int) (hacc : acc.1.isSome → 0 ≤ acc.2) (a : List Int) : pick (shown t acc) (jobsL zeroE t a) (endOf t a) = shown t (upd acc a (endOf t a)) := by
  obtain ⟨b, en⟩ := acc
  cases b with
  | none => rfl
  | some b =>
    have h : 0 ≤ en := hacc rfl
    have e1 : shown t (some b, en) = (jobsL zeroE t b, en) := rfl
    have e2 : pick (jobsL zeroE t b, en) (jobsL zeroE t a) (endOf t a) = if endOf t a < en then (jobsL zeroE t a, endOf t a) else (jobsL zeroE t b, en) := by
      unfold pick
      exact if_neg (by simpa using h)
    rw [e1, e2]
    by_cases h2 : en ≤ endOf t a
    · have e3 : upd (some b, en) a (endOf t a) = (some b, en) := by unfold upd; rw [if_pos (by simp [h2])]
      rw [e3, if_neg (by omega)]
      rfl
    · have e3 : upd (some b, en) a (endOf t a) = (some a, endOf t a) := by unfold upd; rw [if_neg (by simp [h2])]
      rw [e3, if_pos (by omega)]
      rfl
theorem rd_one (l : List Int) (i : Int) : rd l i = l.getD i.toNat 0 := rfl
/-- the reference's jobs -/
theorem jref_l0 (t : List S33) (ht8 : t.length ≤ 8) (hs : ∀ x ∈ t, 1 ≤ x.f2 ∧ x.f2 ≤ 86400) (a : List Int) (ha : a.length = t.length) (ha3 : ∀ u ∈ a, 1 ≤ u ∧ u ≤ 3) : ∀ (d i : Nat) (js : List S35) (e : Int → Int), i + d = t.length → js.length = i → (∀ u, 0 ≤ e u ∧ e u ≤ 86400 * i) →
    Ev (fun k => skiarearef21_jobs.l0 k t a js (mxe e) [0, e 1, e 2, e 3] (i : Int)) (js ++ jobsL e (t.drop i) (a.drop i), mxe (finE e (t.drop i) (a.drop i))) := by
  intro d
  induction d with
  | zero =>
    intro i js e hi hjl he
    have hn : t.drop i = [] := List.drop_eq_nil_of_le (by omega)
    rw [hn]
    refine Ev.step (f := fun k => some (js, mxe e)) (fun k => by simp only [skiarearef21_jobs.l0]; rw [if_neg (by omega)]) ?_
    simpa [jobsL, finE] using Ev.now (js, mxe e)
  | succ d ih =>
    intro i js e hi hjl he
    have hw := wrap_succ i (by omega)
    have hlt : i < t.length := by omega
    have hdr : t.drop i = t.getD i z33 :: t.drop (i + 1) := by rw [List.drop_eq_getElem_cons hlt, getD_eq t z33 i hlt]
    have hda : a.drop i = a.getD i 0 :: a.drop (i + 1) := by rw [List.drop_eq_getElem_cons (by omega), getD_eq a 0 i (by omega)]
    have hx : t.getD i z33 ∈ t := by rw [getD_eq t z33 i hlt]; exact List.getElem_mem hlt
    have hu : a.getD i 0 ∈ a := by rw [getD_eq a 0 i (by omega)]; exact List.getElem_mem _
    have hsec := hs _ hx
    have htt := ha3 _ hu
    have hra : rd a (i : Int) = a.getD i 0 := by rw [rd_one, Int.toNat_natCast]
    rw [hdr, hda]
    generalize hy : t.getD i z33 = y at *
    generalize hu' : a.getD i 0 = u at *
    have he' : ∀ v, 0 ≤ adv e u y.f2 v ∧ adv e u y.f2 v ≤ 86400 * ((i + 1 : Nat) : Int) := fun v => by
      have := he v
      unfold adv
      split <;> omega
    have hwr : wrap64 (e u + y.f2) = e u + y.f2 := by
      have := he u
      exact wrap_id (by omega) (by omega)
    have hrb : rd [0, e 1, e 2, e 3] u = e u := by
      obtain rfl | rfl | rfl : u = 1 ∨ u = 2 ∨ u = 3 := by omega
      · rfl
      · rfl
      · rfl
    have hset : [0, e 1, e 2, e 3].set u.toNat (e u + y.f2) = [0, adv e u y.f2 1, adv e u y.f2 2, adv e u y.f2 3] := by
      obtain rfl | rfl | rfl : u = 1 ∨ u = 2 ∨ u = 3 := by omega
      · simp [adv]
      · simp [adv]
      · simp [adv]
    have hrs : rd [0, adv e u y.f2 1, adv e u y.f2 2, adv e u y.f2 3] u = e u + y.f2 := by
      obtain rfl | rfl | rfl : u = 1 ∨ u = 2 ∨ u = 3 := by omega
      · show adv e 1 y.f2 1 = _; exact adv_one _ _ _
      · show adv e 2 y.f2 2 = _; exact adv_one _ _ _
      · show adv e 3 y.f2 3 = _; exact adv_one _ _ _
    have hmx : mx (mxe e) (e u + y.f2) = mxe (adv e u y.f2) := by
      have e1 := he 1
      have e2 := he 2
      have e3 := he 3
      obtain rfl | rfl | rfl : u = 1 ∨ u = 2 ∨ u = 3 := by omega
      all_goals
        simp only [mx, mxe, mx2, adv]
        simp only [Int.reduceEq, if_true, if_false]
        repeat' split
        all_goals omega
    have := ih (i + 1) (js ++ [⟨u, y.f0, e u, e u + y.f2⟩]) (adv e u y.f2) (by omega) (by simp; omega) he'
    have hcons : (js ++ jobsL e (y :: t.drop (i + 1)) (u :: a.drop (i + 1)), mxe (finE e (y :: t.drop (i + 1)) (u :: a.drop (i + 1)))) = ((js ++ [⟨u, y.f0, e u, e u + y.f2⟩]) ++ jobsL (adv e u y.f2) (t.drop (i + 1)) (a.drop (i + 1)), mxe (finE (adv e u y.f2) (t.drop (i + 1)) (a.drop (i + 1)))) := by simp [jobsL, finE]
    rw [hcons]
    refine Ev.step (f := fun k => skiarearef21_jobs.l0 k t a (js ++ [⟨u, y.f0, e u, e u + y.f2⟩]) (mxe (adv e u y.f2)) [0, adv e u y.f2 1, adv e u y.f2 2, adv e u y.f2 3] ((i + 1 : Nat) : Int)) (fun k => ?_) this
    simp only [skiarearef21_jobs.l0, rd_at, hy, hra, hw, hrb, hwr, hset, hmx]
    have l4 : (([0, e 1, e 2, e 3] : List Int).length : Int) = 4 := rfl
    rw [if_pos (by omega), if_pos (by omega), if_pos (by omega), if_pos (by omega), l4, if_pos (by omega), Option.bind_some, hrs, if_pos (by omega)]
theorem ref_jobs (t : List S33) (ht8 : t.length ≤ 8) (hs : ∀ x ∈ t, 1 ≤ x.f2 ∧ x.f2 ≤ 86400) (a : List Int) (ha : a.length = t.length) (ha3 : ∀ u ∈ a, 1 ≤ u ∧ u ≤ 3) : Ev (fun k => skiarearef21_jobs.f k t a) (jobsL zeroE t a, endOf t a) := by
  have := jref_l0 t ht8 hs a ha ha3 t.length 0 [] zeroE (by omega) rfl (fun u => by simp [zeroE])
  rw [List.drop_zero, List.drop_zero, List.nil_append] at this
  refine Ev.congr (f := fun k => skiarearef21_jobs.l0 k t a [] 0 (List.replicate 4 0) 0) (fun k => by unfold skiarearef21_jobs.f; rw [if_pos (by omega)]) ?_
  exact this
theorem digS_length (m : Nat) : ∀ n j, (digS m n j).length = n
  | 0, _ => rfl
  | n + 1, j => by simp [digS, digS_length m n]
theorem digS_mem (m : Nat) (hm : 1 ≤ m) : ∀ n j, ∀ u ∈ digS m n j, 1 ≤ u ∧ u ≤ m
  | 0, _, u, h => by simp [digS] at h
  | n + 1, j, u, h => by
    simp only [digS, List.mem_append, List.mem_singleton] at h
    rcases h with h | rfl
    · exact digS_mem m hm n _ u h
    · have := Nat.mod_lt j (show 0 < m by omega)
      omega
/-- the digits are laid from the last on -/
theorem pref_l2 (m : Nat) (hm : 1 ≤ m) (hm3 : m ≤ 3) (t : List S33) (ht8 : t.length ≤ 8) (all : Int) (best : List S35) (least : Int) (n : Nat) (R : List S35 × Int × Int) (f : List Int → Nat → Option (List S35 × Int × Int))
    (hf : ∀ a k, f a k = (skiarearef21_jobs.f k t a).bind fun b => if least < 0 then skiarearef21_Plan.l1 k m t all b.1 b.2 (wrap64 ((n : Int) + 1)) else if b.2 < least then skiarearef21_Plan.l1 k m t all b.1 b.2 (wrap64 ((n : Int) + 1)) else skiarearef21_Plan.l1 k m t all best least (wrap64 ((n : Int) + 1))) :
    ∀ (i j : Nat) (suf : List Int), i + suf.length = t.length → j ≤ 100000 → Ev (fun k => f (digS m i j ++ suf) k) R → Ev (fun k => skiarearef21_Plan.l2 k m t all best least (n : Int) (List.replicate i 0 ++ suf) (j : Int) ((i : Int) - 1)) R := by
  intro i
  induction i with
  | zero =>
    intro j suf hl hj h
    refine Ev.step (f := fun k => f (digS m 0 j ++ suf) k) (fun k => ?_) h
    simp only [skiarearef21_Plan.l2, digS, List.replicate_zero, List.nil_append]
    rw [if_neg (by omega), hf]
  | succ i ih =>
    intro j suf hl hj h
    have h2 := ih (j / m) ((1 + ((j % m : Nat) : Int)) :: suf) (by simp; omega) (Nat.le_trans (Nat.div_le_self _ _) hj) (by simpa [digS] using h)
    refine Ev.step (f := fun k => skiarearef21_Plan.l2 k m t all best least (n : Int) (List.replicate i 0 ++ ((1 + ((j % m : Nat) : Int)) :: suf)) ((j / m : Nat) : Int) ((i : Int) - 1)) (fun k => ?_) h2
    simp only [skiarearef21_Plan.l2]
    have hml := Nat.mod_lt j (show 0 < m by omega)
    have e0 : ((i + 1 : Nat) : Int) - 1 = (i : Int) := by omega
    have e1 : Int.tmod (j : Int) (m : Int) = ((j % m : Nat) : Int) := by rw [Int.ofNat_tmod]
    have e2 : Int.tdiv (j : Int) (m : Int) = ((j / m : Nat) : Int) := by rw [Int.ofNat_tdiv]
    have hdl := Nat.div_le_self j m
    rw [e0, e1, e2, wrap_id (x := 1 + ((j % m : Nat) : Int)) (by omega) (by omega), wrap_id (x := ((j / m : Nat) : Int)) (Int.le_trans (by decide) (Int.natCast_nonneg _)) (Int.le_trans (Int.ofNat_le.2 hdl) (by omega)), wrap_id (x := (i : Int) - 1) (by omega) (by omega), Int.toNat_natCast]
    rw [if_pos (by omega), if_neg (by omega), if_pos (by omega), if_pos (by simp; omega)]
    congr 1
    rw [List.replicate_succ', List.append_assoc, List.set_append_right _ _ (by simp)]
    simp
theorem pow_le (m n : Nat) (hm : m ≤ 3) (hn : n ≤ 8) : m ^ n ≤ 6561 := Nat.le_trans (Nat.pow_le_pow_left hm n) (Nat.le_trans (Nat.pow_le_pow_right (by omega) hn) (by decide))
theorem pref_l1 (m : Nat) (hm : 1 ≤ m) (hm3 : m ≤ 3) (t : List S33) (ht8 : t.length ≤ 8) (hs : ∀ x ∈ t, 1 ≤ x.f2 ∧ x.f2 ≤ 86400) : ∀ (d n : Nat) (acc : Option (List Int) × Int), n + d = m ^ t.length → (acc.1.isSome → 0 ≤ acc.2) →
    Ev (fun k => skiarearef21_Plan.l1 k m t ((m ^ t.length : Nat) : Int) (shown t acc).1 (shown t acc).2 (n : Int)) ((shown t (((List.range' n d).map (digS m t.length)).foldl (fun acc a => upd acc a (endOf t a)) acc)).1, (shown t (((List.range' n d).map (digS m t.length)).foldl (fun acc a => upd acc a (endOf t a)) acc)).2, 0) := by
  intro d
  induction d with
  | zero =>
    intro n acc hn hacc
    exact Ev.step (f := fun k => some ((shown t acc).1, (shown t acc).2, 0)) (fun k => by simp only [skiarearef21_Plan.l1]; rw [if_neg (by omega)]) (Ev.now _)
  | succ d ih =>
    intro n acc hn hacc
    have hpow := pow_le m t.length hm3 ht8
    have hw := wrap_succ n (by omega)
    have hal := digS_length m t.length n
    have ha3 : ∀ u ∈ digS m t.length n, 1 ≤ u ∧ u ≤ 3 := fun u hu => by have := digS_mem m hm t.length n u hu; omega
    have hacc' : (upd acc (digS m t.length n) (endOf t (digS m t.length n))).1.isSome → 0 ≤ (upd acc (digS m t.length n) (endOf t (digS m t.length n))).2 := by
      intro _
      unfold upd
      split
      · rename_i h
        exact hacc (by simp at h; exact h.1)
      · exact endOf_nonneg t hs _
    have h1 := ih (n + 1) (upd acc (digS m t.length n) (endOf t (digS m t.length n))) (by omega) hacc'
    rw [List.range'_succ, List.map_cons, List.foldl_cons]
    refine Ev.step (f := fun k => skiarearef21_Plan.l2 k m t ((m ^ t.length : Nat) : Int) (shown t acc).1 (shown t acc).2 (n : Int) (List.replicate t.length 0 ++ []) (n : Int) ((t.length : Int) - 1)) (fun k => ?_) ?_
    · simp only [skiarearef21_Plan.l1]
      rw [if_pos (by omega), if_pos (by omega), Int.toNat_natCast, if_pos (by omega), wrap_id (x := (t.length : Int) - 1) (by omega) (by omega), List.append_nil]
    · refine pref_l2 m hm hm3 t ht8 _ _ _ n _ _ (fun a k => rfl) t.length n [] (by simp) (by omega) ?_
      rw [List.append_nil]
      refine Ev.bind (ref_jobs t ht8 hs _ hal ha3) ?_
      rw [← pick_shown t hs acc hacc] at h1
      unfold pick at h1
      rw [hw]
      by_cases q1 : (shown t acc).2 < 0
      · simp only [if_pos q1] at h1 ⊢
        exact h1
      · by_cases q2 : endOf t (digS m t.length n) < (shown t acc).2
        · simp only [if_neg q1, if_pos q2] at h1 ⊢
          exact h1
        · simp only [if_neg q1, if_neg q2] at h1 ⊢
          exact h1
theorem pref_l0 (m : Nat) (hm : 1 ≤ m) (hm3 : m ≤ 3) (t : List S33) (ht8 : t.length ≤ 8) (R : List S35 × Int × Int) (h : Ev (fun k => skiarearef21_Plan.l1 k m t ((m ^ t.length : Nat) : Int) [] (-1) 0) R) : ∀ (d i : Nat), i + d = t.length → Ev (fun k => skiarearef21_Plan.l0 k m t ((m ^ i : Nat) : Int) (i : Int)) R := by
  intro d
  induction d with
  | zero =>
    intro i hi
    obtain rfl : i = t.length := by omega
    exact Ev.step (f := fun k => skiarearef21_Plan.l1 k m t ((m ^ t.length : Nat) : Int) [] (-1) 0) (fun k => by simp only [skiarearef21_Plan.l0]; rw [if_neg (by omega)]) h
  | succ d ih =>
    intro i hi
    have hpow := pow_le m (i + 1) hm3 (by omega)
    have hw := wrap_succ i (by omega)
    have e : ((m ^ i : Nat) : Int) * (m : Int) = ((m ^ (i + 1) : Nat) : Int) := by rw [Nat.pow_succ, Int.natCast_mul]
    refine Ev.step (f := fun k => skiarearef21_Plan.l0 k m t ((m ^ (i + 1) : Nat) : Int) ((i + 1 : Nat) : Int)) (fun k => ?_) (ih (i + 1) (by omega))
    simp only [skiarearef21_Plan.l0]
    rw [if_pos (by omega), e, hw, wrap_id (by omega) (by omega)]
theorem ref_Plan (l : List S33) (hg : Good l) (m : Nat) (hm : 1 ≤ m) (hm3 : m ≤ 3) : ∃ a, rescue_Plan.f l (m : Int) = some (jobsL zeroE (td l) a, endOf (td l) a, 0) ∧ Ev (fun k => skiarearef21_Plan.f k l (m : Int)) (jobsL zeroE (td l) a, endOf (td l) a, 0) := by
  obtain ⟨a, h1, h2, h3, h4⟩ := plan_spec l hg m hm hm3
  refine ⟨a, h4, ?_⟩
  have ht8 : (td l).length ≤ 8 := Nat.le_trans (td_len l) hg.len
  refine Ev.congr (f := fun k => skiarearef21_Plan.j0 k l (m : Int) false) (fun k => by unfold skiarearef21_Plan.f; rw [if_neg (by omega), show decide ((m : Int) > 3) = false from decide_eq_false (by omega)]) ?_
  refine Ev.step (f := fun k => (skiarearef21_need.f k l).bind fun t => skiarearef21_Plan.l0 k (m : Int) t 1 0) (fun k => by simp only [skiarearef21_Plan.j0]; rw [if_neg (by simp)]) (Ev.bind (ref_need l hg.len) ?_)
  have := pref_l0 m hm hm3 (td l) ht8 (jobsL zeroE (td l) a, endOf (td l) a, 0) ?_ (td l).length 0 (by omega)
  · simpa using this
  · have h5 := pref_l1 m hm hm3 (td l) ht8 (td_secs hg) (m ^ (td l).length) 0 (none, 0) (by omega) (by simp)
    rw [← List.range_eq_range', ← leaves_dig] at h5
    have h6 : (leaves m (td l).length).foldl (fun acc a => upd acc a (endOf (td l) a)) (none, 0) = (some a, endOf (td l) a) := h1
    rw [h6] at h5
    exact h5
end Go.Proofs.Ytedejkhopjhnbaa.Pure
