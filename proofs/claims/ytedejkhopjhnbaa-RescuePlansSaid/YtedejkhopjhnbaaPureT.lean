/- The search, in plain lists. -/
import Derived.Test.YtedejkhopjhnbaaPureV
import Derived.Test.YtedejkhopjhnbaaPx6
namespace Go.Proofs.Ytedejkhopjhnbaa.Pure
open Go.RowKit Go.Proofs.YtedejkhopjhnbaaW.PrintWords Go.Proofs.YtedejkhopjhnbaaW.PrintLast Go.Proofs.YtedejkhopjhnbaaW.PrintMore Go.Proofs.Ytedejkhopjhnbaa.P
set_option linter.unusedVariables false
set_option linter.unusedSimpArgs false

/-! the search, in plain lists -/
def adv (e : Int → Int) (t s : Int) : Int → Int := fun u => if u = t then e u + s else e u
def mxe (e : Int → Int) : Int := mx2 (mx2 (e 1) (e 2)) (e 3)
def finE (e : Int → Int) : List S33 → List Int → (Int → Int)
  | x :: xs, t :: ts => finE (adv e t x.f2) xs ts
  | _, _ => e
def teams (m : Nat) : List Int := (List.range m).map fun (i : Nat) => (i : Int) + 1
def leaves (m : Nat) : Nat → List (List Int)
  | 0 => [[]]
  | n + 1 => (teams m).flatMap fun t => (leaves m n).map (t :: ·)
def upd (acc : Option (List Int) × Int) (a : List Int) (en : Int) : Option (List Int) × Int := if acc.1.isSome && decide (acc.2 ≤ en) then acc else (some a, en)
def eOf (s : St) : Int → Int := fun u => if u = 1 then s.e1 else if u = 2 then s.e2 else if u = 3 then s.e3 else 0
theorem teams_succ (m : Nat) : teams (m + 1) = teams m ++ [((m : Int) + 1)] := by simp [teams, List.range_succ]
theorem mem_teams {m : Nat} {t : Int} : t ∈ teams m ↔ 1 ≤ t ∧ t ≤ m := by
  simp only [teams, List.mem_map, List.mem_range]
  constructor
  · rintro ⟨i, h, rfl⟩; omega
  · intro h; exact ⟨(t - 1).toNat, by omega, by omega⟩
theorem mem_leaves {m : Nat} : ∀ {n : Nat} {a : List Int}, a ∈ leaves m n ↔ a.length = n ∧ ∀ t ∈ a, 1 ≤ t ∧ t ≤ m
  | 0, a => by
    simp only [leaves, List.mem_singleton]
    constructor
    · rintro rfl; simp
    · intro h; exact List.length_eq_zero_iff.1 h.1
  | n + 1, a => by
    simp only [leaves, List.mem_flatMap, List.mem_map, mem_teams]
    constructor
    · rintro ⟨t, ht, b, hb, rfl⟩
      obtain ⟨h1, h2⟩ := mem_leaves.1 hb
      refine ⟨by simp [h1], fun u hu => ?_⟩
      rcases List.mem_cons.1 hu with rfl | hu
      · exact ht
      · exact h2 u hu
    · rintro ⟨h1, h2⟩
      cases a with
      | nil => simp at h1
      | cons t b => exact ⟨t, h2 t (by simp), b, mem_leaves.2 ⟨by simpa using h1, fun u hu => h2 u (by simp [hu])⟩, rfl⟩
theorem mx2_le {a b c : Int} : mx2 a b ≤ c ↔ a ≤ c ∧ b ≤ c := by unfold mx2; split <;> omega
theorem le_mx2l (a b : Int) : a ≤ mx2 a b := by unfold mx2; split <;> omega
theorem le_mx2r (a b : Int) : b ≤ mx2 a b := by unfold mx2; split <;> omega
theorem mxe_le {e : Int → Int} {c : Int} : mxe e ≤ c ↔ e 1 ≤ c ∧ e 2 ≤ c ∧ e 3 ≤ c := by unfold mxe; rw [mx2_le, mx2_le]; exact and_assoc
theorem le_mxe {e : Int → Int} {t : Int} (h1 : 1 ≤ t) (h3 : t ≤ 3) : e t ≤ mxe e := by
  have := mxe_le.1 (Int.le_refl (mxe e))
  obtain rfl | rfl | rfl : t = 1 ∨ t = 2 ∨ t = 3 := by omega
  · exact this.1
  · exact this.2.1
  · exact this.2.2
theorem mxe_mono {e f : Int → Int} (h : ∀ t, e t ≤ f t) : mxe e ≤ mxe f := mxe_le.2 ⟨Int.le_trans (h 1) (le_mxe (by omega) (by omega)), Int.le_trans (h 2) (le_mxe (by omega) (by omega)), Int.le_trans (h 3) (le_mxe (by omega) (by omega))⟩
theorem adv_le {e : Int → Int} {t s : Int} (hs : 0 ≤ s) (u : Int) : e u ≤ adv e t s u := by unfold adv; split <;> omega
theorem finE_le : ∀ (xs : List S33) (a : List Int) (e : Int → Int), (∀ x ∈ xs, 0 ≤ x.f2) → ∀ u, e u ≤ finE e xs a u
  | [], _, _, _, _ => by simp [finE]
  | _ :: _, [], _, _, _ => by simp [finE]
  | x :: xs, t :: ts, e, h, u => by
    unfold finE
    exact Int.le_trans (adv_le (h x (by simp)) u) (finE_le xs ts (adv e t x.f2) (fun y hy => h y (by simp [hy])) u)
theorem finE_bound : ∀ (xs : List S33) (a : List Int) (e : Int → Int) (c : Int), (∀ x ∈ xs, x.f2 ≤ 86400 ∧ 0 ≤ x.f2) → (∀ u, e u ≤ c) → ∀ u, finE e xs a u ≤ c + 86400 * xs.length
  | [], _, _, _, _, hc, u => by simpa [finE] using hc u
  | x :: xs, [], e, c, _, hc, u => by
    have := hc u
    show e u ≤ _
    simp only [List.length_cons]
    omega
  | x :: xs, t :: ts, e, c, h, hc, u => by
    unfold finE
    have h1 := h x (by simp)
    have := finE_bound xs ts (adv e t x.f2) (c + 86400) (fun y hy => h y (by simp [hy])) (fun v => by unfold adv; have := hc v; split <;> omega) u
    simp only [List.length_cons]
    omega
theorem foldl_fix {α β : Type} (f : α → β → α) (acc : α) (L : List β) (h : ∀ x ∈ L, f acc x = acc) : L.foldl f acc = acc := by
  induction L with
  | nil => rfl
  | cons x t ih => rw [List.foldl_cons, h x (by simp)]; exact ih (fun y hy => h y (by simp [hy]))
theorem eOf_one (s : St) : eOf s 1 = s.e1 := rfl
theorem eOf_two (s : St) : eOf s 2 = s.e2 := rfl
theorem eOf_three (s : St) : eOf s 3 = s.e3 := rfl
theorem lastS_eq (s : St) : lastS s = mxe (eOf s) := rfl
structure Fit (l : List S33) (i : Nat) (s : St) : Prop where
  len : s.tm.length = l.length
  e1 : 0 ≤ s.e1 ∧ s.e1 ≤ 86400 * i
  e2 : 0 ≤ s.e2 ∧ s.e2 ≤ 86400 * i
  e3 : 0 ≤ s.e3 ∧ s.e3 ≤ 86400 * i
/-- what a search has done -/
structure Did (l : List S33) (i : Nat) (s r : St) : Prop where
  len : r.tm.length = l.length
  pre : r.tm.take i = s.tm.take i
  e1 : r.e1 = s.e1
  e2 : r.e2 = s.e2
  e3 : r.e3 = s.e3
def step (l : List S33) (i : Nat) (s : St) (acc : Option (List Int) × Int) (a : List Int) : Option (List Int) × Int := upd acc (s.tm.take i ++ a) (mxe (finE (eOf s) (l.drop i) a))
theorem did_eOf {l : List S33} {i : Nat} {s r : St} (h : Did l i s r) : eOf r = eOf s := by unfold eOf; rw [h.e1, h.e2, h.e3]
theorem try_cutS (l : List S33) (tms rem i : Nat) (s : St) (h : cutS s = true) : tryS l tms rem i s = s := by cases rem <;> simp [tryS, h]
theorem step_fix (l : List S33) (i : Nat) (s : St) (a : List Int) (h : cutS s = true) (hs : ∀ x ∈ l, 0 ≤ x.f2) : step l i s (s.b, s.ls) a = (s.b, s.ls) := by
  unfold step upd
  unfold cutS at h
  rw [Bool.and_eq_true, decide_eq_true_eq] at h
  have h2 : s.ls ≤ mxe (finE (eOf s) (l.drop i) a) := Int.le_trans h.2 (mxe_mono (finE_le _ _ _ (fun x hx => hs x (List.mem_of_mem_drop hx))))
  rw [if_pos (by simp [h.1, h2])]
theorem take_set_succ {α : Type} (l : List α) (i : Nat) (x : α) (h : i < l.length) : (l.set i x).take (i + 1) = l.take i ++ [x] := by
  rw [List.take_succ_eq_append_getElem (by simpa using h), List.take_set_of_le (Nat.le_refl _)]
  simp
theorem tryS_spec (l : List S33) (hl : l.length ≤ 8) (hs : ∀ x ∈ l, 1 ≤ x.f2 ∧ x.f2 ≤ 86400) (tms : Nat) (htm : tms ≤ 3) : ∀ (rem i : Nat) (s : St), i + rem = l.length → Fit l i s →
    Did l i s (tryS l tms rem i s) ∧ ((tryS l tms rem i s).b, (tryS l tms rem i s).ls) = (leaves tms rem).foldl (step l i s) (s.b, s.ls) := by
  intro rem
  induction rem with
  | zero =>
    intro i s hi hf
    cases hc : cutS s with
    | true =>
      rw [try_cutS l tms 0 i s hc]
      exact ⟨⟨hf.len, rfl, rfl, rfl, rfl⟩, (foldl_fix _ _ _ (fun a _ => step_fix l i s a hc (fun x hx => by have := hs x hx; omega))).symm⟩
    | false =>
      have e : tryS l tms 0 i s = { s with b := some s.tm, ls := lastS s } := by simp [tryS, hc]
      rw [e]
      refine ⟨⟨hf.len, rfl, rfl, rfl, rfl⟩, ?_⟩
      have ht : s.tm.take i = s.tm := List.take_of_length_le (by rw [hf.len]; omega)
      have hd : l.drop i = [] := List.drop_eq_nil_of_le (by omega)
      simp only [leaves, List.foldl_cons, List.foldl_nil, step, upd, ht, hd, finE, List.append_nil]
      rw [← lastS_eq]
      unfold cutS at hc
      rw [if_neg (by simp only [hc]; simp)]
  | succ rem ih =>
    intro i s hi hf
    cases hc : cutS s with
    | true =>
      rw [try_cutS l tms (rem + 1) i s hc]
      exact ⟨⟨hf.len, rfl, rfl, rfl, rfl⟩, (foldl_fix _ _ _ (fun a _ => step_fix l i s a hc (fun x hx => by have := hs x hx; omega))).symm⟩
    | false =>
      have e : tryS l tms (rem + 1) i s = loopS (tryS l tms rem (i + 1)) i (rd_T33 l (i : Int)).f2 tms s := by simp [tryS, hc]
      rw [e]
      have hlt : i < l.length := by omega
      have hdr : l.drop i = l.getD i z33 :: l.drop (i + 1) := by rw [List.drop_eq_getElem_cons hlt, getD_eq l z33 i hlt]
      have hx : l.getD i z33 ∈ l := by rw [getD_eq l z33 i hlt]; exact List.getElem_mem hlt
      rw [rd_at]
      have hsec := hs _ hx
      generalize hy : l.getD i z33 = y at *
      have key : ∀ t : Nat, t ≤ tms → Did l i s (loopS (tryS l tms rem (i + 1)) i y.f2 t s) ∧
          ((loopS (tryS l tms rem (i + 1)) i y.f2 t s).b, (loopS (tryS l tms rem (i + 1)) i y.f2 t s).ls) = ((teams t).flatMap fun t => (leaves tms rem).map (t :: ·)).foldl (step l i s) (s.b, s.ls) := by
        intro t
        induction t with
        | zero => intro _; exact ⟨⟨hf.len, rfl, rfl, rfl, rfl⟩, by simp [teams, loopS]⟩
        | succ t iht =>
          intro ht
          obtain ⟨hd, hb⟩ := iht (by omega)
          generalize hs1 : loopS (tryS l tms rem (i + 1)) i y.f2 t s = s1 at *
          have e2 : loopS (tryS l tms rem (i + 1)) i y.f2 (t + 1) s = bck (t + 1) y.f2 (tryS l tms rem (i + 1) (fwd i (t + 1) y.f2 s1)) := by rw [← hs1]; rfl
          rw [e2, teams_succ, List.flatMap_append, List.foldl_append, ← hb]
          simp only [List.flatMap_cons, List.flatMap_nil, List.append_nil, List.foldl_map]
          have hlen1 := hd.len
          have hi1 : i < s1.tm.length := by omega
          have b1 := hf.e1
          have b2 := hf.e2
          have b3 := hf.e3
          have d1 := hd.e1
          have d2 := hd.e2
          have d3 := hd.e3
          have hi8 : i ≤ 8 := by omega
          -- one team
          have team : ∀ (t1 : Int) (f : St), f = fwd i (t + 1) y.f2 s1 → t1 = (t : Int) + 1 → f.tm = s1.tm.set i t1 → eOf f = adv (eOf s) t1 y.f2 → f.b = s1.b → f.ls = s1.ls → Fit l (i + 1) f →
              (∀ r, Did l (i + 1) f r → Did l i s (bck (t + 1) y.f2 r)) → (∀ r, (bck (t + 1) y.f2 r).b = r.b ∧ (bck (t + 1) y.f2 r).ls = r.ls) →
              Did l i s (bck (t + 1) y.f2 (tryS l tms rem (i + 1) (fwd i (t + 1) y.f2 s1))) ∧ ((bck (t + 1) y.f2 (tryS l tms rem (i + 1) (fwd i (t + 1) y.f2 s1))).b, (bck (t + 1) y.f2 (tryS l tms rem (i + 1) (fwd i (t + 1) y.f2 s1))).ls) =
                (leaves tms rem).foldl (fun acc a => step l i s acc (((t : Int) + 1) :: a)) (s1.b, s1.ls) := by
            intro t1 f hf1 ht1 htm1 he1 hfb hfl hfit hback hkeep
            obtain ⟨q1, q2⟩ := ih (i + 1) f (by omega) hfit
            rw [← hf1]
            refine ⟨hback _ q1, ?_⟩
            rw [(hkeep _).1, (hkeep _).2, q2, hfb, hfl]
            congr 1
            funext acc a
            unfold step
            rw [htm1, take_set_succ s1.tm i t1 hi1, hd.pre, he1, hdr, List.append_assoc]
            have : finE (eOf s) (y :: l.drop (i + 1)) (((t : Int) + 1) :: a) = finE (adv (eOf s) t1 y.f2) (l.drop (i + 1)) a := by rw [ht1]; rfl
            rw [this, ht1]
            rfl
          have preOf : ∀ (t1 : Int) (r : St), r.tm.length = l.length → r.tm.take (i + 1) = (s1.tm.set i t1).take (i + 1) → r.tm.take i = s.tm.take i := by
            intro t1 r hr1 hr2
            have h1 : (r.tm.take (i + 1)).take i = ((s1.tm.set i t1).take (i + 1)).take i := by rw [hr2]
            rw [List.take_take, List.take_take, Nat.min_eq_left (by omega), List.take_set_of_le (Nat.le_refl _)] at h1
            rw [h1, hd.pre]
          obtain rfl | rfl | rfl : t = 0 ∨ t = 1 ∨ t = 2 := by omega
          · have w1 : wrap64 (s1.e1 + y.f2) = s.e1 + y.f2 := by rw [d1, wrap_id (by omega) (by omega)]
            refine team 1 { s1 with tm := s1.tm.set i 1, e1 := wrap64 (s1.e1 + y.f2) } rfl rfl rfl ?_ rfl rfl ⟨by simpa using hlen1, by show 0 ≤ wrap64 _ ∧ wrap64 _ ≤ _; rw [w1]; omega, by show 0 ≤ s1.e2 ∧ s1.e2 ≤ _; omega, by show 0 ≤ s1.e3 ∧ s1.e3 ≤ _; omega⟩ ?_ (fun r => ⟨rfl, rfl⟩)
            · funext u
              simp only [eOf, adv, w1, d2, d3]
              by_cases h1 : u = 1
              · subst h1; simp
              · simp [h1]
            · intro r q
              have r1 := q.e1
              have r2 := q.e2
              have r3 := q.e3
              refine ⟨q.len, preOf 1 r q.len q.pre, ?_, by show r.e2 = s.e2; rw [r2]; exact d2, by show r.e3 = s.e3; rw [r3]; exact d3⟩
              show wrap64 (r.e1 - y.f2) = s.e1
              rw [r1]
              show wrap64 (wrap64 (s1.e1 + y.f2) - y.f2) = s.e1
              rw [w1, wrap_id (by omega) (by omega)]
              omega
          · have w1 : wrap64 (s1.e2 + y.f2) = s.e2 + y.f2 := by rw [d2, wrap_id (by omega) (by omega)]
            refine team 2 { s1 with tm := s1.tm.set i 2, e2 := wrap64 (s1.e2 + y.f2) } rfl rfl rfl ?_ rfl rfl ⟨by simpa using hlen1, by show 0 ≤ s1.e1 ∧ s1.e1 ≤ _; omega, by show 0 ≤ wrap64 _ ∧ wrap64 _ ≤ _; rw [w1]; omega, by show 0 ≤ s1.e3 ∧ s1.e3 ≤ _; omega⟩ ?_ (fun r => ⟨rfl, rfl⟩)
            · funext u
              simp only [eOf, adv, w1, d1, d3]
              by_cases h2 : u = 2
              · subst h2; simp
              · simp [h2]
            · intro r q
              have r1 := q.e1
              have r2 := q.e2
              have r3 := q.e3
              refine ⟨q.len, preOf 2 r q.len q.pre, by show r.e1 = s.e1; rw [r1]; exact d1, ?_, by show r.e3 = s.e3; rw [r3]; exact d3⟩
              show wrap64 (r.e2 - y.f2) = s.e2
              rw [r2]
              show wrap64 (wrap64 (s1.e2 + y.f2) - y.f2) = s.e2
              rw [w1, wrap_id (by omega) (by omega)]
              omega
          · have w1 : wrap64 (s1.e3 + y.f2) = s.e3 + y.f2 := by rw [d3, wrap_id (by omega) (by omega)]
            refine team 3 { s1 with tm := s1.tm.set i 3, e3 := wrap64 (s1.e3 + y.f2) } rfl rfl rfl ?_ rfl rfl ⟨by simpa using hlen1, by show 0 ≤ s1.e1 ∧ s1.e1 ≤ _; omega, by show 0 ≤ s1.e2 ∧ s1.e2 ≤ _; omega, by show 0 ≤ wrap64 _ ∧ wrap64 _ ≤ _; rw [w1]; omega⟩ ?_ (fun r => ⟨rfl, rfl⟩)
            · funext u
              simp only [eOf, adv, w1, d1, d2]
              by_cases h3 : u = 3
              · subst h3; simp
              · simp [h3]
            · intro r q
              have r1 := q.e1
              have r2 := q.e2
              have r3 := q.e3
              refine ⟨q.len, preOf 3 r q.len q.pre, by show r.e1 = s.e1; rw [r1]; exact d1, by show r.e2 = s.e2; rw [r2]; exact d2, ?_⟩
              show wrap64 (r.e3 - y.f2) = s.e3
              rw [r3]
              show wrap64 (wrap64 (s1.e3 + y.f2) - y.f2) = s.e3
              rw [w1, wrap_id (by omega) (by omega)]
              omega
      have := key tms (Nat.le_refl _)
      exact this
/-! the first of the least -/
theorem foldl_first {α : Type} (en : α → Int) (f : Option α × Int → α → Option α × Int) (hf : ∀ acc a, f acc a = if acc.1.isSome && decide (acc.2 ≤ en a) then acc else (some a, en a)) :
    ∀ (L : List α) (b : α), ∃ a, L.foldl f (some b, en b) = (some a, en a) ∧ (a = b ∨ a ∈ L) ∧ en a ≤ en b ∧ ∀ x ∈ L, en a ≤ en x
  | [], b => ⟨b, rfl, .inl rfl, Int.le_refl _, by simp⟩
  | x :: r, b => by
    rw [List.foldl_cons, hf]
    by_cases h : en b ≤ en x
    · rw [if_pos (by simp [h])]
      obtain ⟨a, h1, h2, h3, h4⟩ := foldl_first en f hf r b
      refine ⟨a, h1, ?_, h3, fun y hy => ?_⟩
      · rcases h2 with h2 | h2
        · exact .inl h2
        · exact .inr (by simp [h2])
      · rcases List.mem_cons.1 hy with rfl | hy
        · omega
        · exact h4 y hy
    · rw [if_neg (by simp [h])]
      obtain ⟨a, h1, h2, h3, h4⟩ := foldl_first en f hf r x
      refine ⟨a, h1, ?_, by omega, fun y hy => ?_⟩
      · rcases h2 with h2 | h2
        · exact .inr (by simp [h2])
        · exact .inr (by simp [h2])
      · rcases List.mem_cons.1 hy with rfl | hy
        · exact h3
        · exact h4 y hy
def zeroE : Int → Int := fun _ => 0
/-- when an assignment is done -/
def endOf (t : List S33) (a : List Int) : Int := mxe (finE zeroE t a)
def jobsL (e : Int → Int) : List S33 → List Int → List S35
  | x :: xs, t :: ts => ⟨t, x.f0, e t, e t + x.f2⟩ :: jobsL (adv e t x.f2) xs ts
  | _, _ => []
/-- the first of the assignments that end earliest -/
def bestOf (m : Nat) (t : List S33) : Option (List Int) × Int := (leaves m t.length).foldl (fun acc a => upd acc a (endOf t a)) (none, 0)
theorem leaves_ne (m : Nat) (hm : 1 ≤ m) : ∀ n, ∃ b r, leaves m n = b :: r
  | 0 => ⟨[], [], rfl⟩
  | n + 1 => by
    obtain ⟨b, r, h⟩ := leaves_ne m hm n
    obtain ⟨m, rfl⟩ : ∃ k, m = k + 1 := ⟨m - 1, by omega⟩
    have : teams (m + 1) = 1 :: (List.range m).map (fun (i : Nat) => ((i + 1 : Nat) : Int) + 1) := by simp [teams, List.range_succ_eq_map, Function.comp_def]
    simp only [leaves, this, h, List.flatMap_cons, List.map_cons, List.cons_append]
    exact ⟨_, _, rfl⟩
theorem bestOf_spec (m : Nat) (hm : 1 ≤ m) (t : List S33) : ∃ a, bestOf m t = (some a, endOf t a) ∧ a ∈ leaves m t.length ∧ ∀ x ∈ leaves m t.length, endOf t a ≤ endOf t x := by
  obtain ⟨b, r, h⟩ := leaves_ne m hm t.length
  unfold bestOf
  rw [h, List.foldl_cons]
  have e : upd (none, 0) b (endOf t b) = (some b, endOf t b) := rfl
  rw [e]
  obtain ⟨a, h1, h2, h3, h4⟩ := foldl_first (endOf t) (fun acc a => upd acc a (endOf t a)) (fun acc a => rfl) r b
  refine ⟨a, h1, ?_, fun x hx => ?_⟩
  · rcases h2 with rfl | h2
    · simp
    · simp [h2]
  · rcases List.mem_cons.1 hx with rfl | hx
    · exact h3
    · exact h4 x hx
theorem adv_one (e : Int → Int) (t s : Int) : adv e t s t = e t + s := by simp [adv]
theorem jobsGo_eq (l : List S33) (hl : l.length ≤ 8) (hs : ∀ x ∈ l, 1 ≤ x.f2 ∧ x.f2 ≤ 86400) (a : List Int) (ha : a.length = l.length) (ha3 : ∀ t ∈ a, 1 ≤ t ∧ t ≤ 3) : ∀ (d i : Nat) (js : List S35) (e : Int → Int), i + d = l.length → (∀ u, 0 ≤ e u ∧ e u ≤ 86400 * i) →
    jobsGo l a d i js (e 1) (e 2) (e 3) = some (js ++ jobsL e (l.drop i) (a.drop i)) := by
  intro d
  induction d with
  | zero =>
    intro i js e hi he
    rw [List.drop_eq_nil_of_le (by omega)]
    simp [jobsGo, jobsL]
  | succ d ih =>
    intro i js e hi he
    have hlt : i < l.length := by omega
    have hdr : l.drop i = l.getD i z33 :: l.drop (i + 1) := by rw [List.drop_eq_getElem_cons hlt, getD_eq l z33 i hlt]
    have hda : a.drop i = a.getD i 0 :: a.drop (i + 1) := by rw [List.drop_eq_getElem_cons (by omega), getD_eq a 0 i (by omega)]
    have hx : l.getD i z33 ∈ l := by rw [getD_eq l z33 i hlt]; exact List.getElem_mem hlt
    have ht : a.getD i 0 ∈ a := by rw [getD_eq a 0 i (by omega)]; exact List.getElem_mem _
    have hsec := hs _ hx
    have htt := ha3 _ ht
    rw [hdr, hda]
    simp only [jobsGo, rd_at]
    generalize l.getD i z33 = y at *
    generalize a.getD i 0 = t at *
    have he' : ∀ u, 0 ≤ adv e t y.f2 u ∧ adv e t y.f2 u ≤ 86400 * ((i + 1 : Nat) : Int) := fun u => by
      have := he u
      unfold adv
      split <;> omega
    have hwr : ∀ u, wrap64 (e u + y.f2) = e u + y.f2 := fun u => by
      have := he u
      exact wrap_id (by omega) (by omega)
    have hcons : ∀ js, js ++ jobsL e (y :: l.drop (i + 1)) (t :: a.drop (i + 1)) = (js ++ [⟨t, y.f0, e t, e t + y.f2⟩]) ++ jobsL (adv e t y.f2) (l.drop (i + 1)) (a.drop (i + 1)) := fun js => by simp [jobsL]
    rw [hcons]
    have := ih (i + 1) (js ++ [⟨t, y.f0, e t, e t + y.f2⟩]) (adv e t y.f2) (by omega) he'
    obtain rfl | rfl | rfl : t = 1 ∨ t = 2 ∨ t = 3 := by omega
    · rw [if_pos rfl, hwr]
      rw [← this]
      simp [adv]
    · rw [if_neg (by omega), if_pos rfl, hwr]
      rw [← this]
      simp [adv]
    · rw [if_neg (by omega), if_neg (by omega), if_pos rfl, hwr]
      rw [← this]
      simp [adv]
theorem td_mem {l : List S33} {x : S33} (h : x ∈ td l) : x ∈ l ∧ x.f1 ≠ 0 := by
  unfold td at h
  rw [List.mem_filter] at h
  exact ⟨h.1, by have := h.2; simpa [needP] using this⟩
theorem td_secs {l : List S33} (hg : Good l) : ∀ x ∈ td l, 1 ≤ x.f2 ∧ x.f2 ≤ 86400 := fun x hx => hg.secs x (td_mem hx).1
/-- what Plan makes -/
theorem plan_spec (l : List S33) (hg : Good l) (m : Nat) (hm : 1 ≤ m) (hm3 : m ≤ 3) : ∃ a, bestOf m (td l) = (some a, endOf (td l) a) ∧ a ∈ leaves m (td l).length ∧ (∀ x ∈ leaves m (td l).length, endOf (td l) a ≤ endOf (td l) x) ∧
    rescue_Plan.f l (m : Int) = some (jobsL zeroE (td l) a, endOf (td l) a, 0) := by
  obtain ⟨a, h1, h2, h3⟩ := bestOf_spec m hm (td l)
  refine ⟨a, h1, h2, h3, ?_⟩
  have hl8 : (td l).length ≤ 8 := Nat.le_trans (td_len l) hg.len
  unfold rescue_Plan.f
  rw [if_neg (by omega), needing_f l hg.len, Option.bind_some]
  by_cases h0 : (td l).length = 0
  · rw [if_pos h0]
    have e1 : td l = [] := List.length_eq_zero_iff.1 h0
    rw [e1] at h2 ⊢
    have e2 : a = [] := by simpa [leaves] using h2
    subst e2
    rfl
  · rw [if_neg h0]
    obtain ⟨hal, ha3⟩ := mem_leaves.1 h2
    have hf : Fit (td l) 0 (st0 (td l).length) := ⟨by simp [st0], by simp [st0], by simp [st0], by simp [st0]⟩
    obtain ⟨_, hb⟩ := tryS_spec (td l) hl8 (td_secs hg) m hm3 (td l).length 0 (st0 (td l).length) (by omega) hf
    have hfun : step (td l) 0 (st0 (td l).length) = fun acc a => upd acc a (endOf (td l) a) := by
      funext acc a
      unfold step endOf
      have : eOf (st0 (td l).length) = zeroE := by funext u; simp [eOf, st0, zeroE]
      rw [this]
      simp
    rw [hfun] at hb
    have hb2 : ((tryS (td l) m (td l).length 0 (st0 (td l).length)).b, (tryS (td l) m (td l).length 0 (st0 (td l).length)).ls) = (some a, endOf (td l) a) := by rw [hb]; exact h1
    have e1 := congrArg Prod.fst hb2
    have e2 := congrArg Prod.snd hb2
    simp only at e1 e2
    unfold planP
    rw [Int.toNat_natCast, e1, e2, Option.bind_some]
    have := jobsGo_eq (td l) hl8 (td_secs hg) a hal (fun t ht => by have := ha3 t ht; omega) (td l).length 0 [] zeroE (by omega) (fun u => by simp [zeroE])
    rw [show (zeroE 1) = 0 from rfl, show (zeroE 2) = 0 from rfl, show (zeroE 3) = 0 from rfl] at this
    rw [this]
    rfl
end Go.Proofs.Ytedejkhopjhnbaa.Pure
