/- Pure facts on the flows of pipes: what the program and the reference reckon is the sum of the draws behind each pipe. -/
import Derived.Test.YtfmafpplnpiahaaPureB
import Derived.Test.YtfmafpplnpiahaaPx5
import Derived.Test.YtfmafpplnpiahaaPx13
import Derived.Test.YtfmafpplnpiahaaPx15
namespace Go.Proofs.Ytfmafpplnpiahaa.Pure
open Go.RowKit Go.Proofs.YtfmafpplnpiahaaW.PrintWords Go.Proofs.YtfmafpplnpiahaaW.PrintLast Go.Proofs.YtfmafpplnpiahaaW.PrintMore Go.Proofs.Ytfmafpplnpiahaa.P
set_option linter.unusedVariables false
set_option linter.unusedSimpArgs false

def tot {α : Type} (f : α → Int) : List α → Int
  | [] => 0
  | a :: t => f a + tot f t
theorem tot_append {α : Type} (f : α → Int) (a b : List α) : tot f (a ++ b) = tot f a + tot f b := by
  induction a with
  | nil => simp [tot]
  | cons x t ih => simp [tot, ih, Int.add_assoc]
theorem tot_nonneg {α : Type} (f : α → Int) (a : List α) (h : ∀ x ∈ a, 0 ≤ f x) : 0 ≤ tot f a := by
  induction a with
  | nil => simp [tot]
  | cons x t ih =>
    have h1 := h x (by simp)
    have h2 := ih (fun y hy => h y (by simp [hy]))
    simp only [tot]; omega
theorem tot_le {α : Type} (f g : α → Int) (a : List α) (h : ∀ x ∈ a, f x ≤ g x) : tot f a ≤ tot g a := by
  induction a with
  | nil => simp [tot]
  | cons x t ih =>
    have h1 := h x (by simp)
    have h2 := ih (fun y hy => h y (by simp [hy]))
    simp only [tot]; omega
theorem tot_congr {α : Type} (f g : α → Int) (a : List α) (h : ∀ x ∈ a, f x = g x) : tot f a = tot g a := by
  induction a with
  | nil => rfl
  | cons x t ih => simp only [tot]; rw [h x (by simp), ih (fun y hy => h y (by simp [hy]))]
theorem tot_add {α : Type} (f g : α → Int) (a : List α) : tot (fun x => f x + g x) a = tot f a + tot g a := by
  induction a with
  | nil => rfl
  | cons x t ih => simp only [tot, ih]; omega
theorem tot_zero {α : Type} (a : List α) : tot (fun _ => 0) a = 0 := by
  induction a with
  | nil => rfl
  | cons x t ih => simp only [tot, ih]; rfl
theorem tot_reverse {α : Type} (f : α → Int) (a : List α) : tot f a.reverse = tot f a := by
  induction a with
  | nil => rfl
  | cons x t ih => rw [List.reverse_cons, tot_append, ih]; simp only [tot]; omega

/-- the flow in pipe i -/
def flow (l : List S45) (ds : List S42) (i : Nat) : Int := tot (fun d => if i ∈ up l l.length d.f0 then d.f1 else 0) ds
def cnt (ds : List S42) : Int := tot (fun d => if 0 < d.f1 then 1 else 0) ds
/-- draws that are accepted -/
structure DOk (ds : List S42) : Prop where
  bd : ∀ d ∈ ds, 0 ≤ d.f1 ∧ d.f1 ≤ 100000
  few : cnt ds ≤ 64
theorem flow_nonneg (l : List S45) (ds : List S42) (h : ∀ d ∈ ds, 0 ≤ d.f1) (i : Nat) : 0 ≤ flow l ds i :=
  tot_nonneg _ _ (fun d hd => by have := h d hd; show 0 ≤ ite _ _ _; split <;> omega)
theorem flow_le (l : List S45) (ds : List S42) (h : ∀ d ∈ ds, 0 ≤ d.f1 ∧ d.f1 ≤ 100000) (i : Nat) : flow l ds i ≤ 100000 * cnt ds := by
  induction ds with
  | nil => simp [flow, cnt, tot]
  | cons d t ih =>
    have h1 := h d (by simp)
    have h2 := ih (fun x hx => h x (by simp [hx]))
    simp only [flow, cnt, tot] at h2 ⊢
    have e : (if i ∈ up l l.length d.f0 then d.f1 else 0) ≤ 100000 * (if 0 < d.f1 then (1 : Int) else 0) := by
      split <;> split <;> omega
    omega
theorem flow_app (l : List S45) (a b : List S42) (i : Nat) : flow l (a ++ b) i = flow l a i + flow l b i := tot_append _ a b
theorem flow_bd (l : List S45) (ds : List S42) (h : DOk ds) (i : Nat) : 0 ≤ flow l ds i ∧ flow l ds i ≤ 6400000 := by
  have h1 := flow_nonneg l ds (fun d hd => (h.bd d hd).1) i
  have h2 := flow_le l ds h.bd i
  have h3 := h.few
  omega
theorem flow_pre (l : List S45) (a b : List S42) (h : DOk (a ++ b)) (i : Nat) : 0 ≤ flow l a i ∧ flow l a i ≤ 6400000 := by
  have h1 := flow_bd l _ h i
  rw [flow_app] at h1
  have h2 := flow_nonneg l a (fun d hd => (h.bd d (by simp [hd])).1) i
  have h3 := flow_nonneg l b (fun d hd => (h.bd d (by simp [hd])).1) i
  omega
def IsF (l : List S45) (ds : List S42) (out : List Int) : Prop := out.length = l.length ∧ ∀ i, i < l.length → out.getD i 0 = flow l ds i
theorem isF_eq {l : List S45} {ds : List S42} {a b : List Int} (ha : IsF l ds a) (hb : IsF l ds b) : a = b := by
  apply List.ext_getElem
  · rw [ha.1, hb.1]
  · intro i h1 h2
    have e1 := ha.2 i (by rw [← ha.1]; exact h1)
    have e2 := hb.2 i (by rw [← ha.1]; exact h1)
    rw [getD_eq _ _ _ h1] at e1
    rw [getD_eq _ _ _ h2] at e2
    rw [e1, e2]
theorem addAll_bump (f : Int) : ∀ (U : List Nat) (out : List Int), U.Nodup → (∀ j ∈ U, j < out.length) → ∃ o2, addAll out f (ints U) = some o2 ∧ o2.length = out.length ∧ ∀ i, o2.getD i 0 = if i ∈ U then wrap64 (out.getD i 0 + f) else out.getD i 0
  | [], out, _, _ => ⟨out, rfl, rfl, by simp⟩
  | u :: U, out, hn, hb => by
    have hu := hb u (by simp)
    obtain ⟨o2, h1, h2, h3⟩ := addAll_bump f U (out.set u (wrap64 (out.getD u 0 + f))) (List.nodup_cons.1 hn).2 (fun j hj => by simpa using hb j (by simp [hj]))
    refine ⟨o2, ?_, by simpa using h2, fun i => ?_⟩
    · show addAll out f ((u : Int) :: ints U) = some o2
      unfold addAll
      rw [if_pos (by omega), if_pos (by omega)]
      simpa [rd] using h1
    · rw [h3 i]
      have hnot := (List.nodup_cons.1 hn).1
      by_cases e : i = u
      · subst e
        rw [if_neg hnot]
        simp [List.getD_eq_getElem?_getD, List.getElem?_set, hu]
      · have e' : u ≠ i := fun h => e h.symm
        simp [List.getD_eq_getElem?_getD, List.getElem?_set, e, e']
theorem isF_step {l : List S45} {ds : List S42} {out : List Int} (d : S42) (rest : List S42) (hF : IsF l ds out) (hd : DOk (ds ++ d :: rest)) (U : List Nat) (hU : U.Nodup) (hm : ∀ i, i ∈ U ↔ i ∈ up l l.length d.f0) :
    ∃ o2, addAll out d.f1 (ints U) = some o2 ∧ IsF l (ds ++ [d]) o2 := by
  obtain ⟨o2, h1, h2, h3⟩ := addAll_bump d.f1 U out hU (fun j hj => by rw [hF.1]; exact up_lt l l.length _ j ((hm j).1 hj))
  refine ⟨o2, h1, by rw [h2, hF.1], fun i hi => ?_⟩
  have hb := flow_pre l (ds ++ [d]) rest (by simpa using hd) i
  rw [h3 i, hF.2 i hi, flow_app] at *
  simp only [flow, tot] at hb ⊢
  by_cases hu : i ∈ U
  · rw [if_pos hu, if_pos ((hm i).1 hu)] at *
    rw [wrap_id (by omega) (by omega)]
    omega
  · rw [if_neg hu, if_neg (fun h => hu ((hm i).2 h))]
    omega
theorem isF_skip {l : List S45} {ds : List S42} {out : List Int} (d : S42) (hF : IsF l ds out) (h0 : d.f1 = 0) : IsF l (ds ++ [d]) out :=
  ⟨hF.1, fun i hi => by rw [hF.2 i hi, flow_app]; simp [flow, tot, h0]⟩

theorem prog_flowsGo (l : List S45) (hv : Val l) : ∀ (rest pre : List S42) (out : List Int), IsF l pre out → DOk (pre ++ rest) → ∃ R, Ev (fun k => flowsGo k l out rest) R ∧ IsF l (pre ++ rest) R
  | [], pre, out, hF, _ => ⟨out, Ev.congr (f := fun k => some out) (fun k => rfl) (Ev.now out), by simpa using hF⟩
  | d :: t, pre, out, hF, hd => by
    by_cases h0 : d.f1 = 0
    · obtain ⟨R, h1, h2⟩ := prog_flowsGo l hv t (pre ++ [d]) out (isF_skip d hF h0) (by simpa using hd)
      exact ⟨R, Ev.congr (f := fun k => flowsGo k l out t) (fun k => by rw [flowsGo, if_pos h0]) h1, by simpa using h2⟩
    · obtain ⟨o2, ho, hF2⟩ := isF_step d t hF hd (up l l.length d.f0) (up_nodup l _ _) (fun i => Iff.rfl)
      obtain ⟨R, h1, h2⟩ := prog_flowsGo l hv t (pre ++ [d]) o2 hF2 (by simpa using hd)
      refine ⟨R, ?_, by simpa using h2⟩
      refine Ev.congr (f := fun k => (pipe_way.f k l d.f0).bind fun ps => (addAll out d.f1 ps.1).bind fun o2 => flowsGo k l o2 t) (fun k => by rw [flowsGo]; rw [if_neg h0]) ?_
      refine Ev.bind (prog_way l hv d.f0) ?_
      refine Ev.congr (f := fun k => flowsGo k l o2 t) (fun k => ?_) h1
      show (addAll out d.f1 (ints (up l l.length d.f0))).bind _ = _
      rw [ho]
      rfl
theorem isF_nil (l : List S45) : IsF l [] (List.replicate l.length 0) := ⟨by simp, fun i hi => by simp [flow, tot, List.getD_eq_getElem?_getD, List.getElem?_replicate, hi]⟩
theorem prog_Flows (l : List S45) (hv : Val l) (ds : List S42) (hd : DOk ds) : ∃ R, Ev (fun k => pipe_Flows.f k l ds) R ∧ IsF l ds R := by
  have hl := hv.len
  obtain ⟨R, h1, h2⟩ := prog_flowsGo l hv ds [] _ (isF_nil l) (by simpa using hd)
  exact ⟨R, Ev.congr (f := fun k => flowsGo k l (List.replicate l.length 0) ds) (fun k => by unfold pipe_Flows.f; rw [if_pos (by omega)]) h1, by simpa using h2⟩

theorem rd_draw (ds : List S42) (i : Nat) : rd_T42 ds (i : Int) = ds.getD i z42 := by simp [rd_T42]
theorem rd_ints (U : List Nat) (i : Nat) (h : i < U.length) : rd (ints U) (i : Int) = ((U[i] : Nat) : Int) := by
  simp [rd, ints, List.getD_eq_getElem?_getD, List.getElem?_eq_getElem h]
theorem ref_flows_l1 (l : List S45) (ds : List S42) (hl : ds.length ≤ 1000) (j : Nat) (hj : j < ds.length) (U : List Nat) (hU : U.length ≤ 1000) (R : List Int) : ∀ (n i : Nat) (out o2 : List Int), i + n = U.length → addAll out (ds.getD j z42).f1 (ints (U.drop i)) = some o2 →
    Ev (fun k => skiarearef40_Flows.l0 k l ds o2 (wrap64 ((j : Int) + 1))) R → Ev (fun k => skiarearef40_Flows.l1 k l ds out (j : Int) (ints U) true (i : Int)) R := by
  intro n
  induction n with
  | zero =>
    intro i out o2 hi ho hR
    rw [List.drop_eq_nil_of_le (by omega)] at ho
    obtain rfl : out = o2 := Option.some.inj ho
    exact Ev.step (f := fun k => skiarearef40_Flows.l0 k l ds out (wrap64 ((j : Int) + 1))) (fun k => by simp only [skiarearef40_Flows.l1]; rw [if_neg (by simp [ints]; omega)]) hR
  | succ n ih =>
    intro i out o2 hi ho hR
    have hlt : i < U.length := by omega
    rw [List.drop_eq_getElem_cons hlt] at ho
    have ho' : addAll out (ds.getD j z42).f1 ((U[i] : Int) :: ints (U.drop (i + 1))) = some o2 := ho
    unfold addAll at ho'
    split at ho'
    · split at ho'
      · rename_i h1 h2
        have hw : wrap64 ((i : Int) + 1) = ((i + 1 : Nat) : Int) := by rw [wrap_id (by omega) (by omega)]; omega
        refine Ev.step (fun k => ?_) (ih (i + 1) _ o2 (by omega) ho' hR)
        simp only [skiarearef40_Flows.l1, rd_ints U i hlt, rd_draw, hw]
        rw [if_pos (by simp [ints]; omega)]
        simp only [if_true]
        rw [if_pos (by omega), if_pos h1, if_pos h2, if_pos (by omega), if_pos (by omega)]
      · exact absurd ho' (by simp)
    · exact absurd ho' (by simp)
theorem ref_flows_l0 (l : List S45) (hv : Val l) (ds : List S42) (hd : DOk ds) (hl : ds.length ≤ 1000) : ∀ (n j : Nat) (out : List Int), j + n = ds.length → IsF l (ds.take j) out → ∃ R, Ev (fun k => skiarearef40_Flows.l0 k l ds out (j : Int)) R ∧ IsF l ds R := by
  intro n
  induction n with
  | zero =>
    intro j out hj hF
    rw [List.take_of_length_le (by omega)] at hF
    exact ⟨out, Ev.step (f := fun k => some out) (fun k => by simp only [skiarearef40_Flows.l0]; rw [if_neg (by omega)]) (Ev.now out), hF⟩
  | succ n ih =>
    intro j out hj hF
    have hlt : j < ds.length := by omega
    have hw : wrap64 ((j : Int) + 1) = ((j + 1 : Nat) : Int) := by rw [wrap_id (by omega) (by omega)]; omega
    have hsp : ds = ds.take j ++ ds.getD j z42 :: ds.drop (j + 1) := by rw [getD_eq _ _ _ hlt, ← List.drop_eq_getElem_cons hlt, List.take_append_drop]
    have htk : ds.take (j + 1) = ds.take j ++ [ds.getD j z42] := by rw [List.take_succ_eq_append_getElem hlt, getD_eq _ _ _ hlt]
    have hd' : DOk (ds.take j ++ ds.getD j z42 :: ds.drop (j + 1)) := by rw [← hsp]; exact hd
    obtain ⟨o2, ho, hF2⟩ := isF_step (ds.getD j z42) (ds.drop (j + 1)) hF hd' (up l l.length (ds.getD j z42).f0).reverse (List.pairwise_reverse.2 ((up_nodup l _ _).imp (fun h => Ne.symm h))) (fun i => by simp)
    rw [← htk] at hF2
    obtain ⟨R, h1, h2⟩ := ih (j + 1) o2 (by omega) hF2
    rw [← hw] at h1
    refine ⟨R, ?_, h2⟩
    have hlen := hv.len
    have hul := up_len l l.length (ds.getD j z42).f0
    have hstep : Ev (fun k => skiarearef40_Flows.l1 k l ds out (j : Int) (ints (up l l.length (ds.getD j z42).f0).reverse) (okB l (ds.getD j z42).f0) 0) R := by
      cases hok : okB l (ds.getD j z42).f0 with
      | true => exact ref_flows_l1 l ds hl j hlt _ (by rw [List.length_reverse]; omega) R _ 0 out o2 (Nat.zero_add _) (by simpa using ho) h1
      | false =>
        have hn : ¬ has l l.length (ds.getD j z42).f0 := fun h => by rw [(okB_iff l hv _).2 h] at hok; exact absurd hok (by simp)
        rw [up_not l _ hn] at ho ⊢
        obtain rfl : out = o2 := Option.some.inj ho
        exact Ev.step (f := fun k => skiarearef40_Flows.l0 k l ds out (wrap64 ((j : Int) + 1))) (fun k => by simp only [skiarearef40_Flows.l1]; rw [if_neg (by simp [ints])]) h1
    refine Ev.step (f := fun k => (skiarearef40_way.f k l (ds.getD j z42).f0).bind fun b => skiarearef40_Flows.l1 k l ds out (j : Int) b.1 b.2 0) (fun k => ?_) ?_
    · simp only [skiarearef40_Flows.l0, rd_draw]
      rw [if_pos (by omega), if_pos (by omega)]
    · exact Ev.bind (ref_way l (by omega) _) hstep
theorem ref_Flows (l : List S45) (hv : Val l) (ds : List S42) (hd : DOk ds) (hl : ds.length ≤ 1000) : ∃ R, Ev (fun k => skiarearef40_Flows.f k l ds) R ∧ IsF l ds R := by
  have hlen := hv.len
  obtain ⟨R, h1, h2⟩ := ref_flows_l0 l hv ds hd hl ds.length 0 (List.replicate l.length 0) (by omega) (by simpa using isF_nil l)
  refine ⟨R, Ev.congr (fun k => ?_) h1, h2⟩
  unfold skiarearef40_Flows.f
  rw [if_pos (by omega), if_pos (by omega)]
  simp

/-! accepted -/
def drawsP : Int → List S42 → Bool
  | n, [] => decide (n ≤ 64)
  | n, d :: t => if d.f1 < 0 ∨ 100000 < d.f1 then false else drawsP (if 0 < d.f1 then n + 1 else n) t
theorem drawsP_ok : ∀ (ds : List S42) (n : Int), drawsP n ds = true → (∀ d ∈ ds, 0 ≤ d.f1 ∧ d.f1 ≤ 100000) ∧ n + cnt ds ≤ 64
  | [], n, h => ⟨by simp, by simpa [drawsP, cnt, tot] using h⟩
  | d :: t, n, h => by
    unfold drawsP at h
    split at h
    · exact absurd h (by simp)
    · obtain ⟨h1, h2⟩ := drawsP_ok t _ h
      refine ⟨fun x hx => ?_, ?_⟩
      · rcases List.mem_cons.1 hx with rfl | hx
        · omega
        · exact h1 x hx
      · simp only [cnt, tot] at h2 ⊢
        split at h2 <;> split <;> omega
theorem ref_Draws_l0 (ds : List S42) (hl : ds.length ≤ 1000) : ∀ (n j : Nat) (m : Int), j + n = ds.length → 0 ≤ m → m ≤ j → Ev (fun k => skiarearef40_Draws.l0 k ds m (j : Int)) (drawsP m (ds.drop j)) := by
  intro n
  induction n with
  | zero =>
    intro j m hj h0 hm
    rw [List.drop_eq_nil_of_le (by omega)]
    exact Ev.step (f := fun k => some (decide (m ≤ 64))) (fun k => by simp only [skiarearef40_Draws.l0]; rw [if_neg (by omega)]) (Ev.now _)
  | succ n ih =>
    intro j m hj h0 hm
    have hlt : j < ds.length := by omega
    have hw : wrap64 ((j : Int) + 1) = ((j + 1 : Nat) : Int) := by rw [wrap_id (by omega) (by omega)]; omega
    have hw2 : wrap64 (m + 1) = m + 1 := wrap_id (by omega) (by omega)
    rw [List.drop_eq_getElem_cons hlt]
    have hg := getD_eq ds z42 j hlt
    rw [← hg]
    generalize hd : ds.getD j z42 = d
    have hj1 : Ev (fun k => skiarearef40_Draws.j1 k ds m (j : Int) (decide (d.f1 < 0 ∨ 100000 < d.f1))) (drawsP m (d :: ds.drop (j + 1))) := by
      unfold drawsP
      by_cases hb : d.f1 < 0 ∨ 100000 < d.f1
      · rw [if_pos hb]
        exact Ev.step (f := fun k => some false) (fun k => by simp only [skiarearef40_Draws.j1, hb, decide_true, if_true]) (Ev.now _)
      · rw [if_neg hb]
        by_cases hp : 0 < d.f1
        · rw [if_pos hp]
          refine Ev.step (fun k => ?_) (ih (j + 1) (m + 1) (by omega) (by omega) (by omega))
          simp only [skiarearef40_Draws.j1, hb, decide_false, rd_draw, hd, hw, hw2]
          rw [if_neg (by simp), if_pos (by omega), if_pos (by omega), if_pos hp]
        · rw [if_neg hp]
          refine Ev.step (fun k => ?_) (ih (j + 1) m (by omega) (by omega) (by omega))
          simp only [skiarearef40_Draws.j1, hb, decide_false, rd_draw, hd, hw, hw2]
          rw [if_neg (by simp), if_pos (by omega), if_pos (by omega), if_neg hp]
    refine Ev.step (fun k => ?_) hj1
    simp only [skiarearef40_Draws.l0, rd_draw, hd]
    rw [if_pos (by omega), if_pos (by omega)]
    by_cases c1 : d.f1 < 0
    · rw [if_pos c1]; simp [c1]
    · rw [if_neg c1]; simp [c1]
theorem accepted_ev (l : List S45) (ds : List S42) (root : Int) : ∃ b, Ev (fun k => skiarealaw40_accepted.f k l ds root) b ∧ (b = true → Val l ∧ DOk ds ∧ ds.length ≤ 200 ∧ -10000000 ≤ root ∧ root ≤ 10000000) := by
  by_cases h1 : (l.length : Int) ≤ 64
  · by_cases h2 : rightP l = 0
    · by_cases h3 : (ds.length : Int) ≤ 200
      · have hd : Ev (fun k => skiarearef40_Draws.f k ds) (drawsP 0 ds) := by
          have := ref_Draws_l0 ds (by omega) ds.length 0 0 (by omega) (by omega) (by omega)
          simpa [skiarearef40_Draws.f] using this
        cases hp : drawsP 0 ds with
        | true =>
          rw [hp] at hd
          obtain ⟨hb, hc⟩ := drawsP_ok ds 0 hp
          by_cases h4 : root ≥ -10000000
          · refine ⟨decide (root ≤ 10000000), ?_, fun h => ⟨val_of l h2, ⟨hb, by omega⟩, by omega, h4, by simpa using h⟩⟩
            refine Ev.congr (fun k => by unfold skiarealaw40_accepted.f; rw [if_pos h1]) (Ev.bind (ref_Right l) ?_)
            refine Ev.congr (fun k => by rw [if_pos h2, if_pos h3]) (Ev.bind hd ?_)
            exact Ev.congr (fun k => by rw [if_pos rfl, if_pos h4]) (Ev.now _)
          · refine ⟨false, ?_, fun h => absurd h (by simp)⟩
            refine Ev.congr (fun k => by unfold skiarealaw40_accepted.f; rw [if_pos h1]) (Ev.bind (ref_Right l) ?_)
            refine Ev.congr (fun k => by rw [if_pos h2, if_pos h3]) (Ev.bind hd ?_)
            exact Ev.congr (fun k => by rw [if_pos rfl, if_neg h4]) (Ev.now _)
        | false =>
          rw [hp] at hd
          refine ⟨false, ?_, fun h => absurd h (by simp)⟩
          refine Ev.congr (fun k => by unfold skiarealaw40_accepted.f; rw [if_pos h1]) (Ev.bind (ref_Right l) ?_)
          refine Ev.congr (fun k => by rw [if_pos h2, if_pos h3]) (Ev.bind hd ?_)
          exact Ev.congr (fun k => by rw [if_neg (by simp)]) (Ev.now _)
      · refine ⟨false, ?_, fun h => absurd h (by simp)⟩
        refine Ev.congr (fun k => by unfold skiarealaw40_accepted.f; rw [if_pos h1]) (Ev.bind (ref_Right l) ?_)
        exact Ev.congr (fun k => by rw [if_pos h2, if_neg h3]) (Ev.now _)
    · refine ⟨false, ?_, fun h => absurd h (by simp)⟩
      refine Ev.congr (fun k => by unfold skiarealaw40_accepted.f; rw [if_pos h1]) (Ev.bind (ref_Right l) ?_)
      exact Ev.congr (fun k => by rw [if_neg h2]) (Ev.now _)
  · exact ⟨false, Ev.congr (fun k => by unfold skiarealaw40_accepted.f; rw [if_neg h1]) (Ev.now _), fun h => absurd h (by simp)⟩
end Go.Proofs.Ytfmafpplnpiahaa.Pure
