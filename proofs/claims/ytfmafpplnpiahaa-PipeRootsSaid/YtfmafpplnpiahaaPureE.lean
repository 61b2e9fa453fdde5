/- Pure facts on smaller draws, on what flows on at the end of a pipe, and on the pressures along a pipe. -/
import Derived.Test.YtfmafpplnpiahaaPureD
namespace Go.Proofs.Ytfmafpplnpiahaa.Pure
open Go.RowKit Go.Proofs.YtfmafpplnpiahaaW.PrintWords Go.Proofs.YtfmafpplnpiahaaW.PrintLast Go.Proofs.YtfmafpplnpiahaaW.PrintMore Go.Proofs.Ytfmafpplnpiahaa.P
set_option linter.unusedVariables false
set_option linter.unusedSimpArgs false

/-! smaller draws -/
def Fw : List S42 → List S42 → Prop
  | [], [] => True
  | c :: cs, d :: ds => (c.f0 = d.f0 ∧ 0 ≤ c.f1 ∧ c.f1 ≤ d.f1) ∧ Fw cs ds
  | [], _ :: _ => False
  | _ :: _, [] => False
theorem fw_refl : ∀ ds : List S42, (∀ d ∈ ds, 0 ≤ d.f1) → Fw ds ds
  | [], _ => trivial
  | d :: t, h => ⟨⟨rfl, h d (by simp), Int.le_refl _⟩, fw_refl t (fun x hx => h x (by simp [hx]))⟩
theorem fw_len : ∀ cs ds : List S42, Fw cs ds → cs.length = ds.length
  | [], [], _ => rfl
  | c :: cs, d :: ds, h => by simp [fw_len cs ds h.2]
  | [], _ :: _, h => h.elim
  | _ :: _, [], h => h.elim
theorem fw_set : ∀ (cs ds : List S42) (i : Nat) (x : S42), Fw cs ds → i < cs.length → x.f0 = (cs.getD i z42).f0 → 0 ≤ x.f1 → x.f1 ≤ (cs.getD i z42).f1 → Fw (cs.set i x) ds
  | [], [], i, x, h, hi, _, _, _ => by simp at hi
  | c :: cs, d :: ds, 0, x, h, hi, h1, h2, h3 => ⟨⟨h1.trans h.1.1, h2, Int.le_trans h3 h.1.2.2⟩, h.2⟩
  | c :: cs, d :: ds, i + 1, x, h, hi, h1, h2, h3 => ⟨h.1, fw_set cs ds i x h.2 (by simpa using hi) h1 h2 h3⟩
  | [], _ :: _, i, x, h, _, _, _, _ => h.elim
  | _ :: _, [], i, x, h, _, _, _, _ => h.elim
theorem fw_bd : ∀ (cs ds : List S42), Fw cs ds → (∀ d ∈ ds, 0 ≤ d.f1 ∧ d.f1 ≤ 100000) → (∀ d ∈ cs, 0 ≤ d.f1 ∧ d.f1 ≤ 100000)
  | [], [], _, _ => by simp
  | c :: cs, d :: ds, h, hb => by
    intro x hx
    rcases List.mem_cons.1 hx with rfl | hx
    · have := hb d (by simp); have := h.1; omega
    · exact fw_bd cs ds h.2 (fun y hy => hb y (by simp [hy])) x hx
  | [], _ :: _, h, _ => h.elim
  | _ :: _, [], h, _ => h.elim
theorem fw_cnt : ∀ (cs ds : List S42), Fw cs ds → cnt cs ≤ cnt ds
  | [], [], _ => Int.le_refl _
  | c :: cs, d :: ds, h => by
    have h1 := fw_cnt cs ds h.2
    have h2 := h.1
    simp only [cnt, tot] at h1 ⊢
    split <;> split <;> omega
  | [], _ :: _, h => h.elim
  | _ :: _, [], h => h.elim
theorem fw_flow (l : List S45) (i : Nat) : ∀ (cs ds : List S42), Fw cs ds → flow l cs i ≤ flow l ds i
  | [], [], _ => Int.le_refl _
  | c :: cs, d :: ds, h => by
    have h1 := fw_flow l i cs ds h.2
    have h2 := h.1
    simp only [flow, tot] at h1 ⊢
    rw [h2.1]
    split <;> omega
  | [], _ :: _, h => h.elim
  | _ :: _, [], h => h.elim
theorem fw_dok (cs ds : List S42) (h : Fw cs ds) (hd : DOk ds) : DOk cs := ⟨fw_bd cs ds h hd.bd, Int.le_trans (fw_cnt cs ds h) hd.few⟩
theorem tdiv_mono {x y : Int} (h0 : 0 ≤ x) (h : x ≤ y) : Int.tdiv x 1000 ≤ Int.tdiv y 1000 := by
  rw [Int.tdiv_eq_ediv_of_nonneg h0, Int.tdiv_eq_ediv_of_nonneg (Int.le_trans h0 h)]; omega
theorem fw_pres (l : List S45) (hv : Val l) (cs ds : List S42) (h : Fw cs ds) (hd : DOk ds) (fc fd : List Int) (hc : IsF l cs fc) (hF : IsF l ds fd) (root node : Int) : pres l fd root node ≤ pres l fc root node := by
  unfold pres
  have : tot (amt l fc) (up l l.length node) ≤ tot (amt l fd) (up l l.length node) := by
    refine tot_le _ _ _ (fun i hi => ?_)
    have hlt := up_lt l l.length node i hi
    have h1 := (amt_bd l hv cs (fw_dok cs ds h hd) fc hc i hlt).1
    unfold amt
    have h2 : fc.getD i 0 ≤ fd.getD i 0 := by rw [hc.2 i hlt, hF.2 i hlt]; exact fw_flow l i cs ds h
    have h3 : (nth l i).f3 * fc.getD i 0 ≤ (nth l i).f3 * fd.getD i 0 := Int.mul_le_mul_of_nonneg_left h2 (hv.bd i hlt).2.2.1
    have := tdiv_mono h1 h3
    omega
  omega
theorem fw_met (l : List S45) (hv : Val l) (cs ds : List S42) (h : Fw cs ds) (hd : DOk ds) (fc fd : List Int) (hc : IsF l cs fc) (hF : IsF l ds fd) (root : Int) (d : S42) (hm : metB l fd root d = true) : metB l fc root d = true := by
  simp only [metB, Bool.and_eq_true, decide_eq_true_eq] at hm ⊢
  have := fw_pres l hv cs ds h hd fc fd hc hF root d.f0
  exact ⟨hm.1, by omega⟩
theorem fw_low (l : List S45) (hv : Val l) (cs ds : List S42) (h : Fw cs ds) (hd : DOk ds) (fc fd : List Int) (hc : IsF l cs fc) (hF : IsF l ds fd) (root : Int) : ∀ need : List S42, (lowL l fc root need).Sublist (lowL l fd root need)
  | [] => List.Sublist.refl _
  | d :: t => by
    have ih := fw_low l hv cs ds h hd fc fd hc hF root t
    rw [lowL_cons, lowL_cons]
    cases h1 : metB l fd root d with
    | true => rw [fw_met l hv cs ds h hd fc fd hc hF root d h1]; exact ih
    | false =>
      cases h2 : metB l fc root d with
      | true => exact ih.cons _
      | false => exact ih.cons_cons _
theorem okB_zero (l : List S45) (hv : Val l) : okB l 0 = true := (okB_iff l hv 0).2 (Or.inl rfl)
theorem okB_to (l : List S45) (hv : Val l) (i : Nat) (hi : i < l.length) : okB l (nth l i).f2 = true := (okB_iff l hv _).2 (Or.inr ⟨i, hi, rfl⟩)
theorem okB_from (l : List S45) (hv : Val l) (i : Nat) (hi : i < l.length) : okB l (nth l i).f1 = true := by
  refine (okB_iff l hv _).2 ?_
  rcases hv.from_ i hi with h | ⟨j, hj, h⟩
  · exact Or.inl h
  · exact Or.inr ⟨j, by omega, h⟩

/-! sums -/
theorem tot_none {α : Type} (f : α → Int) (a : List α) (h : ∀ x ∈ a, f x = 0) : tot f a = 0 := (tot_congr f (fun _ => 0) a h).trans (tot_zero a)
theorem tot_le_len {α : Type} (f : α → Int) (K : Int) (a : List α) (h : ∀ x ∈ a, f x ≤ K) : tot f a ≤ K * (a.length : Int) := by
  induction a with
  | nil => simp [tot]
  | cons x t ih =>
    have h1 := h x (by simp)
    have h2 := ih (fun y hy => h y (by simp [hy]))
    simp only [tot, List.length_cons]
    rw [show ((t.length + 1 : Nat) : Int) = (t.length : Int) + 1 from rfl, Int.mul_add]
    omega
theorem len_le_tot {α : Type} (f : α → Int) (K : Int) (a : List α) (h : ∀ x ∈ a, K ≤ f x) : K * (a.length : Int) ≤ tot f a := by
  induction a with
  | nil => simp [tot]
  | cons x t ih =>
    have h1 := h x (by simp)
    have h2 := ih (fun y hy => h y (by simp [hy]))
    simp only [tot, List.length_cons]
    rw [show ((t.length + 1 : Nat) : Int) = (t.length : Int) + 1 from rfl, Int.mul_add]
    omega
theorem pres_bd (l : List S45) (hv : Val l) (ds : List S42) (hd : DOk ds) (fl : List Int) (hF : IsF l ds fl) (root node : Int) : root - 640100000 * 64 ≤ pres l fl root node ∧ pres l fl root node ≤ root + 100000 * 64 := by
  have h1 := tot_le_len (amt l fl) 640100000 (up l l.length node) (fun i hi => (amt_bd l hv ds hd fl hF i (up_lt l l.length node i hi)).2.2.2.2.2)
  have h2 := len_le_tot (amt l fl) (-100000) (up l l.length node) (fun i hi => (amt_bd l hv ds hd fl hF i (up_lt l l.length node i hi)).2.2.2.2.1)
  have h3 := up_len l l.length node
  have h4 := hv.len
  unfold pres
  omega
theorem tot_range_mem (g : Nat → Int) (n : Nat) : ∀ (U : List Nat), U.Nodup → (∀ j ∈ U, j < n) → tot (fun k => if k ∈ U then g k else 0) (List.range n) = tot g U
  | [], _, _ => by simp [tot, tot_zero]
  | u :: U, hn, hb => by
    have hnot := (List.nodup_cons.1 hn).1
    have ih := tot_range_mem g n U (List.nodup_cons.1 hn).2 (fun j hj => hb j (by simp [hj]))
    have hone : ∀ n, u < n → tot (fun k => if k = u then g k else 0) (List.range n) = g u := by
      intro n
      induction n with
      | zero => intro h; omega
      | succ n ihn =>
        intro h
        rw [List.range_succ, tot_append]
        by_cases e : n = u
        · subst e
          have : tot (fun k => if k = n then g k else 0) (List.range n) = 0 := by
            refine tot_none _ _ (fun x hx => ?_)
            have := List.mem_range.1 hx
            rw [if_neg (by omega)]
          rw [this]; simp [tot]
        · rw [ihn (by omega)]; simp [tot, e]
    rw [tot, ← ih, ← hone n (hb u (by simp)), ← tot_add]
    refine tot_congr _ _ _ (fun k _ => ?_)
    by_cases e : k = u
    · subst e; simp [hnot]
    · simp [e]
/-- what is drawn at a node -/
def drawn (ds : List S42) (node : Int) : Int := tot (fun d => if d.f0 = node then d.f1 else 0) ds
theorem up_kids (l : List S45) (hv : Val l) (i : Nat) (hi : i < l.length) (v : Int) : ∀ (n : Nat) (node : Int), n ≤ l.length → has l n node →
    (if i ∈ up l n node then v else 0) = (if node = (nth l i).f2 then v else 0) + tot (fun k => if (nth l k).f1 = (nth l i).f2 then v else 0) (up l n node) := by
  intro n
  induction n using Nat.strongRecOn with
  | _ n ih =>
    intro node hn h
    have hb := hv.bd i hi
    rcases h with rfl | ⟨j, hj, rfl⟩
    · rw [(up_zero l hv n hn).1, if_neg (by simp), if_neg (show ¬ (0 : Int) = (nth l i).f2 by omega)]
      simp [tot]
    · rw [(up_some l hv j n hj hn).1]
      have h1 := ih j hj (nth l j).f1 (by omega) (has_from l hv j (by omega))
      simp only [tot]
      by_cases e : i = j
      · subst e
        have hnot : i ∉ up l i (nth l i).f1 := fun h => by have := up_lt l i _ i h; omega
        rw [if_neg hnot] at h1
        simp only [List.mem_cons, true_or, if_true]
        omega
      · have hne : (nth l j).f2 ≠ (nth l i).f2 := by
          intro he
          rcases Nat.lt_or_ge i j with hlt | hge
          · exact hv.inj j i (by omega) hlt he.symm
          · exact hv.inj i j (by omega) (by omega) he
        simp only [List.mem_cons, e, false_or, if_neg hne]
        omega
theorem flow_kids (l : List S45) (hv : Val l) (i : Nat) (hi : i < l.length) : ∀ (ds : List S42), flow l ds i = drawn ds (nth l i).f2 + tot (fun k => if (nth l k).f1 = (nth l i).f2 then flow l ds k else 0) (List.range l.length)
  | [] => by
    have : tot (fun k => if (nth l k).f1 = (nth l i).f2 then flow l [] k else 0) (List.range l.length) = 0 := by
      exact tot_none _ _ (fun x _ => by simp [flow, tot])
    rw [this]; rfl
  | d :: t => by
    have ih := flow_kids l hv i hi t
    have e1 : flow l (d :: t) i = (if i ∈ up l l.length d.f0 then d.f1 else 0) + flow l t i := rfl
    have e2 : drawn (d :: t) (nth l i).f2 = (if d.f0 = (nth l i).f2 then d.f1 else 0) + drawn t (nth l i).f2 := rfl
    have e3 : tot (fun k => if (nth l k).f1 = (nth l i).f2 then flow l (d :: t) k else 0) (List.range l.length) = tot (fun k => if k ∈ up l l.length d.f0 then (if (nth l k).f1 = (nth l i).f2 then d.f1 else 0) else 0) (List.range l.length) + tot (fun k => if (nth l k).f1 = (nth l i).f2 then flow l t k else 0) (List.range l.length) := by
      rw [← tot_add]
      refine tot_congr _ _ _ (fun k _ => ?_)
      show (if _ then (if k ∈ up l l.length d.f0 then d.f1 else 0) + flow l t k else 0) = _
      split <;> split <;> simp
    rw [e1, e2, e3, ih, tot_range_mem _ _ _ (up_nodup l _ _) (up_lt l _ _)]
    have key : (if i ∈ up l l.length d.f0 then d.f1 else 0) = (if d.f0 = (nth l i).f2 then d.f1 else 0) + tot (fun k => if (nth l k).f1 = (nth l i).f2 then d.f1 else 0) (up l l.length d.f0) := by
      by_cases h : has l l.length d.f0
      · exact up_kids l hv i hi d.f1 l.length d.f0 (Nat.le_refl _) h
      · rw [up_not l d.f0 h, if_neg (by simp), if_neg (fun e : d.f0 = (nth l i).f2 => h (Or.inr ⟨i, hi, e.symm⟩))]
        simp [tot]
    omega
theorem up_first (l : List S45) (hv : Val l) (v : Int) : ∀ (n : Nat) (node : Int), n ≤ l.length → has l n node →
    tot (fun k => if (nth l k).f1 = 0 then v else 0) (up l n node) = if node = 0 then 0 else v := by
  intro n
  induction n using Nat.strongRecOn with
  | _ n ih =>
    intro node hn h
    rcases h with rfl | ⟨j, hj, rfl⟩
    · rw [(up_zero l hv n hn).1]; simp [tot]
    · rw [(up_some l hv j n hj hn).1]
      have h1 := ih j hj (nth l j).f1 (by omega) (has_from l hv j (by omega))
      have hb := hv.bd j (by omega)
      simp only [tot]
      rw [h1, if_neg (show (nth l j).f2 ≠ 0 by omega)]
      split <;> omega
theorem flow_first (l : List S45) (hv : Val l) : ∀ (ds : List S42), tot (fun i => if (nth l i).f1 = 0 then flow l ds i else 0) (List.range l.length) = tot (fun i => drawn ds (nth l i).f2) (List.range l.length)
  | [] => tot_congr _ _ _ (fun x _ => by simp [flow, drawn, tot])
  | d :: t => by
    have ih := flow_first l hv t
    have e1 : tot (fun i => if (nth l i).f1 = 0 then flow l (d :: t) i else 0) (List.range l.length) = tot (fun i => if i ∈ up l l.length d.f0 then (if (nth l i).f1 = 0 then d.f1 else 0) else 0) (List.range l.length) + tot (fun i => if (nth l i).f1 = 0 then flow l t i else 0) (List.range l.length) := by
      rw [← tot_add]
      refine tot_congr _ _ _ (fun k _ => ?_)
      show (if _ then (if k ∈ up l l.length d.f0 then d.f1 else 0) + flow l t k else 0) = _
      split <;> split <;> simp
    have e2 : tot (fun i => drawn (d :: t) (nth l i).f2) (List.range l.length) = tot (fun i => if d.f0 = (nth l i).f2 then d.f1 else 0) (List.range l.length) + tot (fun i => drawn t (nth l i).f2) (List.range l.length) := by
      rw [← tot_add]; rfl
    rw [e1, e2, ih, tot_range_mem _ _ _ (up_nodup l _ _) (up_lt l _ _)]
    congr 1
    by_cases h : has l l.length d.f0
    · rw [up_first l hv d.f1 l.length d.f0 (Nat.le_refl _) h]
      rcases h with h0 | ⟨j, hj, he⟩
      · rw [if_pos h0]
        refine (tot_none _ _ (fun k hk => ?_)).symm
        have := (hv.bd k (List.mem_range.1 hk)).1
        rw [if_neg (by omega)]
      · have hb := (hv.bd j hj).1
        rw [if_neg (by omega)]
        have : tot (fun i => if d.f0 = (nth l i).f2 then d.f1 else 0) (List.range l.length) = tot (fun i => if i ∈ [j] then d.f1 else 0) (List.range l.length) := by
          refine tot_congr _ _ _ (fun k hk => ?_)
          have hk := List.mem_range.1 hk
          by_cases e : k = j
          · subst e; simp [he]
          · have hne : (nth l j).f2 ≠ (nth l k).f2 := by
              intro hh
              rcases Nat.lt_or_ge k j with hlt | hge
              · exact hv.inj j k (by omega) hlt hh.symm
              · exact hv.inj k j (by omega) (by omega) hh
            rw [← he, if_neg hne, if_neg (by simp [e])]
        rw [this, tot_range_mem (fun _ => d.f1) _ [j] (by simp) (by simp [hj])]
        simp [tot]
    · rw [up_not l d.f0 h]
      rw [show tot (fun i => if (nth l i).f1 = 0 then d.f1 else 0) [] = 0 from rfl]
      refine (tot_none _ _ (fun k hk => ?_)).symm
      rw [if_neg (fun e => h (Or.inr ⟨k, List.mem_range.1 hk, e.symm⟩))]
theorem drawn_bd (a b : List S42) (h : DOk (a ++ b)) (node : Int) : 0 ≤ drawn a node ∧ drawn a node ≤ 6400000 := by
  have h1 : 0 ≤ drawn a node := tot_nonneg _ _ (fun d hd => by have := (h.bd d (by simp [hd])).1; show 0 ≤ ite _ _ _; split <;> omega)
  have h2 : ∀ ds : List S42, (∀ d ∈ ds, 0 ≤ d.f1 ∧ d.f1 ≤ 100000) → drawn ds node ≤ 100000 * cnt ds := by
    intro ds
    induction ds with
    | nil => intro _; simp [drawn, cnt, tot]
    | cons d t ih =>
      intro hb
      have h1 := hb d (by simp)
      have h2 := ih (fun x hx => hb x (by simp [hx]))
      simp only [drawn, cnt, tot] at h2 ⊢
      have e : (if d.f0 = node then d.f1 else 0) ≤ 100000 * (if 0 < d.f1 then (1 : Int) else 0) := by
        split <;> split <;> omega
      omega
  have h3 := h2 a (fun d hd => h.bd d (by simp [hd]))
  have h4 : cnt a ≤ cnt (a ++ b) := by
    unfold cnt
    rw [tot_append]
    have : 0 ≤ tot (fun d : S42 => if 0 < d.f1 then 1 else 0) b := tot_nonneg _ _ (fun d _ => by show (0 : Int) ≤ ite _ _ _; split <;> omega)
    omega
  have h5 := h.few
  exact ⟨h1, by omega⟩
/-! along a pipe -/
theorem up_from (l : List S45) (hv : Val l) (i : Nat) (hi : i < l.length) : up l l.length (nth l i).f1 = up l i (nth l i).f1 := by
  rcases hv.from_ i hi with h | ⟨j, hj, h⟩
  · rw [h, (up_zero l hv _ (Nat.le_refl _)).1, (up_zero l hv i (by omega)).1]
  · rw [← h, (up_some l hv j _ (by omega) (Nat.le_refl _)).1, (up_some l hv j i hj (by omega)).1]
theorem pres_along (l : List S45) (hv : Val l) (fl : List Int) (root : Int) (i : Nat) (hi : i < l.length) : pres l fl root (nth l i).f2 = pres l fl root (nth l i).f1 - amt l fl i := by
  unfold pres
  rw [(up_some l hv i _ hi (Nat.le_refl _)).1, up_from l hv i hi]
  simp only [tot]
  omega
end Go.Proofs.Ytfmafpplnpiahaa.Pure
