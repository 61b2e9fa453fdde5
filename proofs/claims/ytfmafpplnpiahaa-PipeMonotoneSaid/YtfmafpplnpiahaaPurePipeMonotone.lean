/- The pure statement of the law PipeMonotone: drawing less lowers no pressure, and leaves no more needs unmet. -/
import Derived.Test.YtfmafpplnpiahaaPureE
import Derived.Test.YtfmafpplnpiahaaPx22
import Derived.Test.YtfmafpplnpiahaaPx23
import Derived.Test.YtfmafpplnpiahaaOpen
namespace Go.Proofs.Ytfmafpplnpiahaa.Pure
open Go.RowKit Go.Proofs.YtfmafpplnpiahaaW.PrintWords Go.Proofs.YtfmafpplnpiahaaW.PrintLast Go.Proofs.YtfmafpplnpiahaaW.PrintMore Go.Proofs.Ytfmafpplnpiahaa.P Go.Proofs.Ytfmafpplnpiahaa.Open
set_option linter.unusedVariables false
set_option linter.unusedSimpArgs false

theorem sub_ne {a b : Int} {s t : List Int} (h : (a :: s).Sublist (b :: t)) (e : a ≠ b) : (a :: s).Sublist t := by
  cases h with
  | cons _ h => exact h
  | cons_cons _ h => exact absurd rfl e
theorem part_l0 (A B : List Int) (hA : A.length ≤ 100000) (hB : B.length ≤ 100000) : ∀ (n i j : Nat), j + n = B.length → i ≤ A.length → (A.drop i).Sublist (B.drop j) → Ev (fun k => skiarealaw40_part.l0 k A B (i : Int) (j : Int)) true := by
  intro n
  induction n with
  | zero =>
    intro i j hj hi hs
    rw [List.drop_eq_nil_of_le (show B.length ≤ j by omega)] at hs
    have he := List.sublist_nil.1 hs
    have hl : i = A.length := by
      have := congrArg List.length he
      rw [List.length_drop, List.length_nil] at this; omega
    refine Ev.step (fun k => by simp only [skiarealaw40_part.l0]; rw [if_neg (by omega)]) ?_
    exact Ev.step (f := fun k => some true) (fun k => by simp only [skiarealaw40_part.j1]; rw [if_neg (by simp)]; simp [hl]) (Ev.now _)
  | succ n ih =>
    intro i j hj hi hs
    have hlt : j < B.length := by omega
    have hwj : wrap64 ((j : Int) + 1) = ((j + 1 : Nat) : Int) := by rw [wrap_id (by omega) (by omega)]; omega
    have hwi : wrap64 ((i : Int) + 1) = ((i + 1 : Nat) : Int) := by rw [wrap_id (by omega) (by omega)]; omega
    refine Ev.step (fun k => by simp only [skiarealaw40_part.l0]; rw [if_pos (by omega)]) ?_
    by_cases h : i = A.length
    · rw [show decide ((i : Int) < (A.length : Int)) = false from decide_eq_false (by omega)]
      exact Ev.step (f := fun k => some true) (fun k => by simp only [skiarealaw40_part.j1]; rw [if_neg (by simp)]; simp [h]) (Ev.now _)
    · have hlti : i < A.length := by omega
      rw [show decide ((i : Int) < (A.length : Int)) = true from decide_eq_true (by omega)]
      rw [List.drop_eq_getElem_cons hlti, List.drop_eq_getElem_cons hlt] at hs
      have ra : rd A (i : Int) = A[i] := by simp [rd, List.getD_eq_getElem?_getD, List.getElem?_eq_getElem hlti]
      have rb : rd B (j : Int) = B[j] := by simp [rd, List.getD_eq_getElem?_getD, List.getElem?_eq_getElem hlt]
      by_cases e : A[i] = B[j]
      · have hs' : (A.drop (i + 1)).Sublist (B.drop (j + 1)) := by
          rw [e] at hs
          exact List.cons_sublist_cons.1 hs
        refine Ev.step (fun k => ?_) (ih (i + 1) (j + 1) (by omega) (by omega) hs')
        simp only [skiarealaw40_part.j1, ra, rb, hwi, hwj, if_true]
        rw [if_pos (by omega), if_pos (by omega), if_pos (by omega), if_pos (by omega), if_pos e]
      · have hs' : (A.drop i).Sublist (B.drop (j + 1)) := by
          rw [List.drop_eq_getElem_cons hlti]
          exact sub_ne hs e
        refine Ev.step (fun k => ?_) (ih i (j + 1) (by omega) (by omega) hs')
        simp only [skiarealaw40_part.j1, ra, rb, hwi, hwj, if_true]
        rw [if_pos (by omega), if_pos (by omega), if_pos (by omega), if_pos (by omega), if_neg e]
theorem mono_l1 (l : List S45) (hv : Val l) (ds cs need : List S42) (hd : DOk ds) (hfw : Fw cs ds) (hn : need.length ≤ 100) (root : Int) (h1 : -10000000 ≤ root) (h2 : root ≤ 10000000) : ∀ (n i : Nat), i + n = l.length + 1 → Ev (fun k => skiarealaw40_PipeMonotone.l1 k l ds need root cs ((i : Int) - 1)) true := by
  have hdc := fw_dok cs ds hfw hd
  obtain ⟨fd, hF, hfd, hP⟩ := prog_Pressure l hv ds hd
  obtain ⟨fc, hC, hfc, hQ⟩ := prog_Pressure l hv cs hdc
  have hlen := hv.len
  intro n
  induction n with
  | zero =>
    intro i hi
    refine Ev.step (fun k => by simp only [skiarealaw40_PipeMonotone.l1]; rw [if_neg (by omega)]) (Ev.bind (prog_Low l hv cs hdc fc hC hfc root (by omega) (by omega) need (by omega)) ?_)
    refine Ev.bind (prog_Low l hv ds hd fd hF hfd root (by omega) (by omega) need (by omega)) ?_
    have e1 := lowL_len l fc root need
    have e2 := lowL_len l fd root need
    refine Ev.bind (a := true) ?_ (Ev.now _)
    exact part_l0 _ _ (by omega) (by omega) _ 0 0 (Nat.zero_add _) (by omega) (by simpa using fw_low l hv cs ds hfw hd fc fd hC hF root need)
  | succ n ih =>
    intro i hi
    have key : ∀ node, okB l node = true → Ev (fun k => skiarealaw40_PipeMonotone.j4 k l ds need root cs ((i : Int) - 1) node) true := by
      intro node hok
      have hw : wrap64 ((i : Int) - 1 + 1) = ((i + 1 : Nat) : Int) - 1 := by rw [wrap_id (by omega) (by omega)]; omega
      have hp := fw_pres l hv cs ds hfw hd fc fd hC hF root node
      refine Ev.step (fun k => by simp only [skiarealaw40_PipeMonotone.j4]; rfl) (Ev.bind (hP root node (by omega) (by omega)) ?_)
      refine Ev.bind (hQ root node (by omega) (by omega)) ?_
      refine Ev.congr (fun k => ?_) (ih (i + 1) (by omega))
      simp only [presR, hok, if_true, hw]
      rw [if_neg (by omega)]
    by_cases h0 : i = 0
    · subst h0
      refine Ev.step (fun k => ?_) (key 0 (okB_zero l hv))
      simp only [skiarealaw40_PipeMonotone.l1]
      rw [if_pos (by omega), if_neg (by omega)]
    · refine Ev.step (fun k => ?_) (key (nth l (i - 1)).f2 (okB_to l hv (i - 1) (by omega)))
      simp only [skiarealaw40_PipeMonotone.l1]
      rw [if_pos (by omega), if_pos (by omega), if_pos (by omega)]
      rw [show ((i : Int) - 1) = ((i - 1 : Nat) : Int) by omega, rd_nth]
theorem mono_l0 (l : List S45) (hv : Val l) (ds need : List S42) (hd : DOk ds) (hl : ds.length ≤ 200) (hn : need.length ≤ 100) (root : Int) (h1 : -10000000 ≤ root) (h2 : root ≤ 10000000) (less : List Int) (hz : ∀ v ∈ less, is_u16 v) : ∀ (n i : Nat) (cs : List S42), i + n = ds.length → Fw cs ds → Ev (fun k => skiarealaw40_PipeMonotone.l0 k l ds need root less cs (i : Int)) true := by
  have hend : ∀ cs, Fw cs ds → Ev (fun k => skiarealaw40_PipeMonotone.j2 k l ds need root cs) true := fun cs hfw =>
    Ev.step (fun k => by simp only [skiarealaw40_PipeMonotone.j2]; rfl) (mono_l1 l hv ds cs need hd hfw hn root h1 h2 (l.length + 1) 0 (by omega))
  intro n
  induction n with
  | zero =>
    intro i cs hi hfw
    have := fw_len cs ds hfw
    exact Ev.step (fun k => by simp only [skiarealaw40_PipeMonotone.l0]; rw [if_neg (by omega)]) (hend cs hfw)
  | succ n ih =>
    intro i cs hi hfw
    have hcl := fw_len cs ds hfw
    by_cases h : i < less.length
    · have hw : wrap64 ((i : Int) + 1) = ((i + 1 : Nat) : Int) := by rw [wrap_id (by omega) (by omega)]; omega
      have hv' : rd less (i : Int) = less[i] := by simp [rd, List.getD_eq_getElem?_getD, List.getElem?_eq_getElem h]
      have hu := hz less[i] (List.getElem_mem h)
      have hc := fw_bd cs ds hfw hd.bd (cs.getD i z42) (by rw [getD_eq _ _ _ (show i < cs.length by omega)]; exact List.getElem_mem _)
      have hu1 := hu.1
      have hu2 := hu.2
      refine Ev.step (fun k => ?_) (ih (i + 1) (cs.set i ⟨(cs.getD i z42).f0, mx 0 (wrap64 ((cs.getD i z42).f1 - wrap64 less[i]))⟩) (by omega) (fw_set cs ds i _ hfw (by omega) rfl ?_ ?_))
      · simp only [skiarealaw40_PipeMonotone.l0, rd_draw, hv', hw]
        rw [if_pos (by omega), if_pos (by omega), if_pos (by omega)]
        rfl
      · show 0 ≤ mx 0 _
        unfold mx; split <;> omega
      · show mx 0 _ ≤ _
        rw [wrap_id (x := less[i]) (by omega) (by omega), wrap_id (by omega) (by omega)]
        unfold mx; split <;> omega
    · exact Ev.step (fun k => by simp only [skiarealaw40_PipeMonotone.l0]; rw [if_pos (by omega), if_neg (by omega)]) (hend cs hfw)
theorem PipeMonotone (l : List S45) (hz : ∀ p ∈ l, wf45 p) (ds : List S42) (hz1 : ∀ p ∈ ds, wf42 p) (need : List S42) (hz2 : ∀ p ∈ need, wf42 p) (root : Int) (w3 : is_i64 root) (less : List Int) (hz4 : ∀ v ∈ less, is_u16 v) : ∃ k, skiarealaw40_PipeMonotone.f k l ds need root less = some true := by
  refine Ev.rounds ?_
  obtain ⟨b, hb, hacc⟩ := accepted_ev l ds root
  refine Ev.congr (fun k => by unfold skiarealaw40_PipeMonotone.f skiarealaw40_alive.f; rw [Option.bind_some, if_pos rfl]) (Ev.bind hb ?_)
  have hout : Ev (fun k => skiarealaw40_PipeMonotone.j0 k l ds need root less true) true := Ev.step (f := fun k => some true) (fun k => by simp only [skiarealaw40_PipeMonotone.j0, if_true]) (Ev.now _)
  cases b with
  | false => exact Ev.congr (fun k => by rw [if_neg (by simp)]) hout
  | true =>
    obtain ⟨hv, hd, hl, hr1, hr2⟩ := hacc rfl
    refine Ev.congr (fun k => by rw [if_pos rfl]) ?_
    by_cases hn : (need.length : Int) > 100
    · rw [show decide ((need.length : Int) > 100) = true from decide_eq_true hn]
      exact hout
    · rw [show decide ((need.length : Int) > 100) = false from decide_eq_false hn]
      refine Ev.step (fun k => ?_) (mono_l0 l hv ds need hd (by omega) (by omega) root hr1 hr2 less hz4 ds.length 0 ds (by omega) (fw_refl ds (fun d hd' => (hd.bd d hd').1)))
      simp only [skiarealaw40_PipeMonotone.j0, Option.bind_some]
      rw [if_neg (by simp), if_pos (by simp; omega)]
      rfl
end Go.Proofs.Ytfmafpplnpiahaa.Pure
