/- The pure statement of the law PipeAdds: what flows in a pipe is what is drawn at its end and what flows on; what flows from the root is what is drawn. -/
import Derived.Test.YtfmafpplnpiahaaPureE
import Derived.Test.YtfmafpplnpiahaaPx24
import Derived.Test.YtfmafpplnpiahaaOpen
namespace Go.Proofs.Ytfmafpplnpiahaa.Pure
open Go.RowKit Go.Proofs.YtfmafpplnpiahaaW.PrintWords Go.Proofs.YtfmafpplnpiahaaW.PrintLast Go.Proofs.YtfmafpplnpiahaaW.PrintMore Go.Proofs.Ytfmafpplnpiahaa.P Go.Proofs.Ytfmafpplnpiahaa.Open
set_option linter.unusedVariables false
set_option linter.unusedSimpArgs false

def kidF (l : List S45) (ds : List S42) (i k : Nat) : Int := if (nth l k).f1 = (nth l i).f2 then flow l ds k else 0
def oneF (l : List S45) (ds : List S42) (i : Nat) : Int := if (nth l i).f1 = 0 then flow l ds i else 0
theorem tot_snoc (g : Nat → Int) (j : Nat) : tot g (List.range (j + 1)) = tot g (List.range j) + g j := by rw [List.range_succ, tot_append]; simp [tot]
theorem range_bd (l : List S45) (ds : List S42) (hd : DOk ds) (g : Nat → Int) (hg : ∀ k, g k = flow l ds k ∨ g k = 0) (j : Nat) : 0 ≤ tot g (List.range j) ∧ tot g (List.range j) ≤ 6400000 * (j : Int) := by
  have hb : ∀ k, 0 ≤ g k ∧ g k ≤ 6400000 := by
    intro k
    have := flow_bd l ds hd k
    rcases hg k with h | h <;> rw [h] <;> omega
  refine ⟨tot_nonneg _ _ (fun k _ => (hb k).1), ?_⟩
  have := tot_le_len g 6400000 (List.range j) (fun k _ => (hb k).2)
  simpa using this
theorem adds_l2 (l : List S45) (hv : Val l) (ds : List S42) (hd : DOk ds) (fl : List Int) (hF : IsF l ds fl) (x6 x7 : Int) (i : Nat) (hi : i < l.length)
    (hR : Ev (fun k => skiarealaw40_PipeAdds.l0 k l ds fl (if (nth l i).f1 = 0 then wrap64 (x6 + flow l ds i) else x6) x7 (wrap64 ((i : Int) + 1))) true) :
    ∀ (n j : Nat) (x9 : Int), j + n = l.length → x9 = drawn ds (nth l i).f2 + tot (kidF l ds i) (List.range j) → Ev (fun k => skiarealaw40_PipeAdds.l2 k l ds fl x6 x7 (i : Int) x9 (j : Int)) true := by
  have hlen := hv.len
  have hfl := hF.1
  intro n
  induction n with
  | zero =>
    intro j x9 hj hx
    obtain rfl : j = l.length := by omega
    have hk := flow_kids l hv i hi ds
    have hri : rd fl (i : Int) = flow l ds i := by rw [← hF.2 i hi]; simp [rd]
    have hx' : flow l ds i = x9 := by rw [hx, hk]; rfl
    refine Ev.step (fun k => ?_) hR
    simp only [skiarealaw40_PipeAdds.l2, hri, rd_nth]
    rw [if_neg (by omega), if_pos (by omega), if_pos (by omega), if_pos hx', if_pos (by omega)]
    split <;> rfl
  | succ n ih =>
    intro j x9 hj hx
    have hlt : j < l.length := by omega
    have hw : wrap64 ((j : Int) + 1) = ((j + 1 : Nat) : Int) := by rw [wrap_id (by omega) (by omega)]; omega
    have hrj : rd fl (j : Int) = flow l ds j := by rw [← hF.2 j hlt]; simp [rd]
    have hsn := tot_snoc (kidF l ds i) j
    have hdb := drawn_bd ds [] (by simpa using hd) (nth l i).f2
    have hrb := range_bd l ds hd (kidF l ds i) (fun k => by unfold kidF; split <;> simp) j
    have hfb := flow_bd l ds hd j
    by_cases h : (nth l j).f1 = (nth l i).f2
    · have hkj : kidF l ds i j = flow l ds j := if_pos h
      refine Ev.step (fun k => ?_) (ih (j + 1) (x9 + flow l ds j) (by omega) (by omega))
      simp only [skiarealaw40_PipeAdds.l2, hrj, rd_nth, hw]
      rw [if_pos (by omega), if_pos (by omega), if_pos (by omega), if_pos (by omega), if_pos h, if_pos (by omega), wrap_id (by omega) (by omega)]
    · have hkj : kidF l ds i j = 0 := if_neg h
      refine Ev.step (fun k => ?_) (ih (j + 1) x9 (by omega) (by omega))
      simp only [skiarealaw40_PipeAdds.l2, hrj, rd_nth, hw]
      rw [if_pos (by omega), if_pos (by omega), if_pos (by omega), if_pos (by omega), if_neg h]
theorem adds_l1 (l : List S45) (hv : Val l) (ds : List S42) (hd : DOk ds) (hl : ds.length ≤ 1000) (fl : List Int) (x6 x7 : Int) (i : Nat) (hi : i < l.length)
    (hR : Ev (fun k => skiarealaw40_PipeAdds.l2 k l ds fl x6 (wrap64 (x7 + drawn ds (nth l i).f2)) (i : Int) (drawn ds (nth l i).f2) 0) true) :
    ∀ (n j : Nat) (x9 : Int), j + n = ds.length → x9 = drawn (ds.take j) (nth l i).f2 → Ev (fun k => skiarealaw40_PipeAdds.l1 k l ds fl x6 x7 (i : Int) x9 (j : Int)) true := by
  intro n
  induction n with
  | zero =>
    intro j x9 hj hx
    rw [List.take_of_length_le (by omega)] at hx
    refine Ev.step (fun k => ?_) hR
    simp only [skiarealaw40_PipeAdds.l1]
    rw [if_neg (by omega), hx]
  | succ n ih =>
    intro j x9 hj hx
    have hlt : j < ds.length := by omega
    have hw : wrap64 ((j : Int) + 1) = ((j + 1 : Nat) : Int) := by rw [wrap_id (by omega) (by omega)]; omega
    have htk : ds.take (j + 1) = ds.take j ++ [ds.getD j z42] := by rw [List.take_succ_eq_append_getElem hlt, getD_eq _ _ _ hlt]
    have hdn : drawn (ds.take (j + 1)) (nth l i).f2 = drawn (ds.take j) (nth l i).f2 + (if (ds.getD j z42).f0 = (nth l i).f2 then (ds.getD j z42).f1 else 0) := by
      rw [htk]; unfold drawn; rw [tot_append]; simp [tot]
    have hb1 := drawn_bd (ds.take j) (ds.drop j) (by rw [List.take_append_drop]; exact hd) (nth l i).f2
    have hb2 := drawn_bd (ds.take (j + 1)) (ds.drop (j + 1)) (by rw [List.take_append_drop]; exact hd) (nth l i).f2
    by_cases h : (ds.getD j z42).f0 = (nth l i).f2
    · rw [if_pos h] at hdn
      refine Ev.step (fun k => ?_) (ih (j + 1) (x9 + (ds.getD j z42).f1) (by omega) (by omega))
      simp only [skiarealaw40_PipeAdds.l1, rd_draw, rd_nth, hw]
      rw [if_pos (by omega), if_pos (by omega), if_pos (by omega), if_pos (by omega), if_pos h, wrap_id (by omega) (by omega)]
    · rw [if_neg h] at hdn
      refine Ev.step (fun k => ?_) (ih (j + 1) x9 (by omega) (by omega))
      simp only [skiarealaw40_PipeAdds.l1, rd_draw, rd_nth, hw]
      rw [if_pos (by omega), if_pos (by omega), if_pos (by omega), if_pos (by omega), if_neg h]
theorem adds_l0 (l : List S45) (hv : Val l) (ds : List S42) (hd : DOk ds) (hl : ds.length ≤ 1000) (fl : List Int) (hF : IsF l ds fl) :
    ∀ (n i : Nat) (x6 x7 : Int), i + n = l.length → x6 = tot (oneF l ds) (List.range i) → x7 = tot (fun i => drawn ds (nth l i).f2) (List.range i) → Ev (fun k => skiarealaw40_PipeAdds.l0 k l ds fl x6 x7 (i : Int)) true := by
  have hlen := hv.len
  intro n
  induction n with
  | zero =>
    intro i x6 x7 hi h6 h7
    obtain rfl : i = l.length := by omega
    refine Ev.step (f := fun k => some true) (fun k => ?_) (Ev.now _)
    simp only [skiarealaw40_PipeAdds.l0]
    rw [if_neg (by omega), h6, h7]
    have := flow_first l hv ds
    have e : tot (oneF l ds) (List.range l.length) = tot (fun i => drawn ds (nth l i).f2) (List.range l.length) := this
    rw [e]; simp
  | succ n ih =>
    intro i x6 x7 hi h6 h7
    have hlt : i < l.length := by omega
    have hw : wrap64 ((i : Int) + 1) = ((i + 1 : Nat) : Int) := by rw [wrap_id (by omega) (by omega)]; omega
    have hs6 := tot_snoc (oneF l ds) i
    have hs7 := tot_snoc (fun i => drawn ds (nth l i).f2) i
    have hrb := range_bd l ds hd (oneF l ds) (fun k => by unfold oneF; split <;> simp) i
    have hfb := flow_bd l ds hd i
    have hdb := drawn_bd ds [] (by simpa using hd) (nth l i).f2
    have h7b := tot_le_len (fun i => drawn ds (nth l i).f2) 6400000 (List.range i) (fun k _ => (drawn_bd ds [] (by simpa using hd) (nth l k).f2).2)
    have h7c := tot_nonneg (fun i => drawn ds (nth l i).f2) (List.range i) (fun k _ => (drawn_bd ds [] (by simpa using hd) (nth l k).f2).1)
    rw [List.length_range] at h7b
    have hnx := ih (i + 1) (if (nth l i).f1 = 0 then wrap64 (x6 + flow l ds i) else x6) (wrap64 (x7 + drawn ds (nth l i).f2)) (by omega) (by
      unfold oneF at hs6 h6 hrb ⊢
      split
      · rename_i h; rw [if_pos h] at hs6; rw [wrap_id (by omega) (by omega)]; omega
      · rename_i h; rw [if_neg h] at hs6; omega) (by rw [wrap_id (by omega) (by omega)]; omega)
    rw [← hw] at hnx
    refine Ev.step (fun k => by simp only [skiarealaw40_PipeAdds.l0]; rw [if_pos (by omega)]) ?_
    refine adds_l1 l hv ds hd hl fl x6 x7 i hlt ?_ ds.length 0 0 (by omega) (by simp [drawn, tot])
    exact adds_l2 l hv ds hd fl hF x6 _ i hlt hnx l.length 0 _ (by omega) (by simp [tot])
theorem PipeAdds (l : List S45) (hz : ∀ p ∈ l, wf45 p) (ds : List S42) (hz1 : ∀ p ∈ ds, wf42 p) : ∃ k, skiarealaw40_PipeAdds.f k l ds = some true := by
  refine Ev.rounds ?_
  obtain ⟨b, hb, hacc⟩ := accepted_ev l ds 0
  refine Ev.congr (fun k => by unfold skiarealaw40_PipeAdds.f skiarealaw40_alive.f; rw [Option.bind_some, if_pos rfl]) (Ev.bind hb ?_)
  cases b with
  | false => exact Ev.congr (fun k => by rw [if_neg (by simp)]) (Ev.now _)
  | true =>
    obtain ⟨hv, hd, hl, hr1, hr2⟩ := hacc rfl
    obtain ⟨fl, hF, hfl, hP⟩ := prog_Pressure l hv ds hd
    have hlen := hF.1
    refine Ev.congr (fun k => by rw [if_pos rfl]) (Ev.bind hfl ?_)
    refine Ev.congr (fun k => by rw [if_pos (by omega)]) ?_
    exact adds_l0 l hv ds hd (by omega) fl hF l.length 0 0 0 (by omega) (by simp [tot]) (by simp [tot])
end Go.Proofs.Ytfmafpplnpiahaa.Pure
