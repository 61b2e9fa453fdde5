/- Pure facts on networks of pipes that Right accepts: the way to a node; what the program's and the reference's walks to a node come to. -/
import Derived.Test.YtfmafpplnpiahaaPureA
import Derived.Test.YtfmafpplnpiahaaPx4
import Derived.Test.YtfmafpplnpiahaaPx14
namespace Go.Proofs.Ytfmafpplnpiahaa.Pure
open Go.RowKit Go.Proofs.YtfmafpplnpiahaaW.PrintWords Go.Proofs.YtfmafpplnpiahaaW.PrintLast Go.Proofs.YtfmafpplnpiahaaW.PrintMore Go.Proofs.Ytfmafpplnpiahaa.P
set_option linter.unusedVariables false
set_option linter.unusedSimpArgs false

def nth (l : List S45) (i : Nat) : S45 := l.getD i z45
/-- pipes that Right accepts -/
structure Val (l : List S45) : Prop where
  len : l.length ≤ 64
  bd : ∀ i, i < l.length → 1 ≤ (nth l i).f2 ∧ (nth l i).f2 ≤ 9999 ∧ 0 ≤ (nth l i).f3 ∧ (nth l i).f3 ≤ 100000 ∧ -100000 ≤ (nth l i).f4 ∧ (nth l i).f4 ≤ 100000
  inj : ∀ i j, i < l.length → j < i → (nth l j).f2 ≠ (nth l i).f2
  from_ : ∀ i, i < l.length → (nth l i).f1 = 0 ∨ ∃ j, j < i ∧ (nth l j).f2 = (nth l i).f1
theorem rightGo_zero (l : List S45) (h : rightGo [] l = 0) : ∀ i, i ≤ l.length → rightGo (l.take i) (l.drop i) = 0
  | 0, _ => by simpa using h
  | i + 1, hi => by
    have := rightGo_zero l h i (by omega)
    rw [rightGo_at l i (by omega)] at this
    split at this
    · exact absurd this (by decide)
    · split at this
      · exact absurd this (by decide)
      · split at this
        · exact absurd this (by decide)
        · exact this
theorem take_getD (l : List S45) (i j : Nat) (h : j < i) : (l.take i).getD j z45 = l.getD j z45 := by
  simp only [List.getD_eq_getElem?_getD, List.getElem?_take_of_lt h]
theorem val_of (l : List S45) (h : rightP l = 0) : Val l := by
  unfold rightP at h
  split at h
  · exact absurd h (by decide)
  · rename_i hl
    have key : ∀ i, i < l.length → badP (nth l i) = false ∧ (l.take i).any (twiceP (nth l i)) = false ∧ noneP (l.take i) (nth l i) = false := by
      intro i hi
      have := rightGo_zero l h i (by omega)
      rw [rightGo_at l i hi] at this
      refine ⟨?_, ?_, ?_⟩
      · cases hb : badP (nth l i) with
        | false => rfl
        | true => unfold nth at hb; rw [hb] at this; simp at this
      · cases hb : (l.take i).any (twiceP (nth l i)) with
        | false => rfl
        | true =>
          unfold nth at hb; rw [hb] at this
          split at this <;> simp at this
      · cases hb : noneP (l.take i) (nth l i) with
        | false => rfl
        | true =>
          unfold nth at hb; rw [hb] at this
          split at this
          · simp at this
          · split at this <;> simp at this
    refine ⟨by omega, fun i hi => ?_, fun i j hi hj => ?_, fun i hi => ?_⟩
    · obtain ⟨hb, _, _⟩ := key i hi
      simp [badP, idB] at hb
      omega
    · obtain ⟨_, hb, _⟩ := key i hi
      intro he
      rw [List.any_eq_false] at hb
      have hm : nth l j ∈ l.take i := by
        have hlt : j < (l.take i).length := by simp; omega
        have : nth l j = (l.take i)[j] := by rw [← getD_eq _ z45 j hlt, take_getD l i j hj]; rfl
        rw [this]
        exact List.getElem_mem hlt
      exact hb _ hm (by simp [twiceP, he])
    · obtain ⟨_, _, hb⟩ := key i hi
      rw [ref_none] at hb
      simp only [Bool.not_eq_false', Bool.or_eq_true, beq_iff_eq, List.any_eq_true] at hb
      rcases hb with hb | ⟨q, hq, hb⟩
      · exact Or.inl hb
      · obtain ⟨j, hj, rfl⟩ := List.mem_iff_getElem.1 hq
        have hlt : j < i := by simp at hj; omega
        refine Or.inr ⟨j, hlt, ?_⟩
        rw [← hb, ← getD_eq _ z45 j hj, take_getD l i j hlt]
        rfl

/-- the way to a node, from the node on, by the first n pipes -/
def up (l : List S45) : Nat → Int → List Nat
  | 0, _ => []
  | n + 1, node => if (nth l n).f2 = node then n :: up l n (nth l n).f1 else up l n node
/-- where it ends -/
def endn (l : List S45) : Nat → Int → Int
  | 0, node => node
  | n + 1, node => if (nth l n).f2 = node then endn l n (nth l n).f1 else endn l n node
theorem up_succ (l : List S45) (n : Nat) (node : Int) : up l (n + 1) node = if (nth l n).f2 = node then n :: up l n (nth l n).f1 else up l n node := rfl
theorem endn_succ (l : List S45) (n : Nat) (node : Int) : endn l (n + 1) node = if (nth l n).f2 = node then endn l n (nth l n).f1 else endn l n node := rfl
theorem rd_nth (l : List S45) (i : Nat) : rd_T45 l (i : Int) = nth l i := rd_at l i
/-- the network has the node -/
def has (l : List S45) (n : Nat) (node : Int) : Prop := node = 0 ∨ ∃ j, j < n ∧ (nth l j).f2 = node
theorem up_none (l : List S45) : ∀ (n : Nat) (node : Int), (∀ j, j < n → (nth l j).f2 ≠ node) → up l n node = [] ∧ endn l n node = node
  | 0, _, _ => ⟨rfl, rfl⟩
  | n + 1, node, h => by
    rw [up_succ, endn_succ]
    rw [if_neg (h n (by omega)), if_neg (h n (by omega))]
    exact up_none l n node (fun j hj => h j (by omega))
theorem up_zero (l : List S45) (hv : Val l) (n : Nat) (hn : n ≤ l.length) : up l n 0 = [] ∧ endn l n 0 = 0 :=
  up_none l n 0 (fun j hj => by have := (hv.bd j (by omega)).1; omega)
theorem up_some (l : List S45) (hv : Val l) (i : Nat) : ∀ n, i < n → n ≤ l.length → up l n (nth l i).f2 = i :: up l i (nth l i).f1 ∧ endn l n (nth l i).f2 = endn l i (nth l i).f1
  | 0, h, _ => by omega
  | n + 1, h, hn => by
    rw [up_succ, endn_succ]
    by_cases e : i = n
    · subst e
      rw [if_pos rfl, if_pos rfl]
      exact ⟨rfl, rfl⟩
    · have hne : (nth l n).f2 ≠ (nth l i).f2 := fun he => hv.inj n i (by omega) (by omega) he.symm
      rw [if_neg hne, if_neg hne]
      exact up_some l hv i n (by omega) (by omega)
theorem has_from (l : List S45) (hv : Val l) (i : Nat) (hi : i < l.length) : has l i (nth l i).f1 := hv.from_ i hi
theorem endn_has (l : List S45) (hv : Val l) : ∀ (n : Nat) (node : Int), n ≤ l.length → has l n node → endn l n node = 0 := by
  intro n
  induction n using Nat.strongRecOn with
  | _ n ih =>
    intro node hn h
    rcases h with rfl | ⟨j, hj, rfl⟩
    · exact (up_zero l hv n hn).2
    · rw [(up_some l hv j n hj hn).2]
      exact ih j hj _ (by omega) (has_from l hv j (by omega))
theorem endn_iff (l : List S45) (hv : Val l) (node : Int) : endn l l.length node = 0 ↔ has l l.length node := by
  constructor
  · intro h
    by_cases hh : ∃ j, j < l.length ∧ (nth l j).f2 = node
    · exact Or.inr hh
    · left
      rw [← h]
      exact (up_none l l.length node (fun j hj he => hh ⟨j, hj, he⟩)).2.symm
  · exact endn_has l hv l.length node (Nat.le_refl _)
theorem up_not (l : List S45) (node : Int) (h : ¬ has l l.length node) : up l l.length node = [] :=
  (up_none l l.length node (fun j hj he => h (Or.inr ⟨j, hj, he⟩))).1
theorem up_lt (l : List S45) : ∀ (n : Nat) (node : Int), ∀ j ∈ up l n node, j < n
  | 0, _ => by simp [up]
  | n + 1, node => by
    intro j hj
    unfold up at hj
    split at hj
    · rcases List.mem_cons.1 hj with rfl | hj
      · omega
      · have := up_lt l n _ j hj; omega
    · have := up_lt l n _ j hj; omega
theorem up_nodup (l : List S45) : ∀ (n : Nat) (node : Int), (up l n node).Nodup
  | 0, _ => by simp [up]
  | n + 1, node => by
    unfold up
    split
    · exact List.nodup_cons.2 ⟨fun h => by have := up_lt l n _ n h; omega, up_nodup l n _⟩
    · exact up_nodup l n _
theorem up_len (l : List S45) : ∀ (n : Nat) (node : Int), (up l n node).length ≤ n
  | 0, _ => by simp [up]
  | n + 1, node => by
    unfold up
    split
    · have := up_len l n (nth l n).f1; simp; omega
    · have := up_len l n node; omega

def ints (u : List Nat) : List Int := u.map (fun (i : Nat) => (i : Int))
theorem toIdx_some (l : List S45) (hv : Val l) (i : Nat) (hi : i < l.length) : toIdx l (nth l i).f2 = (i : Int) := by
  unfold toIdx
  exact fidx_hit _ l z45 i hi (by show ((nth l i).f2 == (nth l i).f2) = true; simp) (fun j hj => by show ((nth l j).f2 == (nth l i).f2) = false; simp [hv.inj i j hi hj])
theorem toIdx_none (l : List S45) (node : Int) (h : ∀ j, j < l.length → (nth l j).f2 ≠ node) : toIdx l node = -1 := by
  unfold toIdx
  exact fidx_miss _ l z45 (fun j hj => by show ((nth l j).f2 == node) = false; simp [h j hj])

theorem prog_way_l0 (l : List S45) (hv : Val l) : ∀ (n : Nat) (node : Int) (acc : List Int), n ≤ l.length → has l n node → acc.length + n ≤ 1000 →
    Ev (fun k => pipe_way.l0 k l node acc) (acc ++ ints (up l n node), true) := by
  intro n
  induction n using Nat.strongRecOn with
  | _ n ih =>
    intro node acc hn h ha
    by_cases h0 : node = 0
    · subst h0
      rw [(up_zero l hv n hn).1]
      exact Ev.step (f := fun k => some (acc, true)) (fun k => by simp only [pipe_way.l0, if_true]) (by simpa [ints] using Ev.now (acc, true))
    · rcases h with h | ⟨j, hj, rfl⟩
      · exact absurd h h0
      · have hlen := hv.len
        rw [(up_some l hv j n hj hn).1]
        have h1 := ih j hj (nth l j).f1 (acc ++ [(j : Int)]) (by omega) (has_from l hv j (by omega)) (by simp; omega)
        refine Ev.step (f := fun k => pipe_way.l0 k l (nth l j).f1 (acc ++ [(j : Int)])) (fun k => ?_) (by simpa [ints] using h1)
        simp only [pipe_way.l0]
        rw [if_neg h0]
        simp only [pipe_to.f, toIdx_some l hv j (by omega), Option.bind_some]
        rw [if_neg (by omega), if_pos (by omega), if_pos (by omega), if_pos (by omega), rd_at]
        rfl
def okB (l : List S45) (node : Int) : Bool := endn l l.length node == 0
theorem okB_iff (l : List S45) (hv : Val l) (node : Int) : okB l node = true ↔ has l l.length node := by
  unfold okB
  rw [beq_iff_eq]
  exact endn_iff l hv node
theorem prog_way (l : List S45) (hv : Val l) (node : Int) : Ev (fun k => pipe_way.f k l node) (ints (up l l.length node), okB l node) := by
  have hlen := hv.len
  by_cases h : has l l.length node
  · rw [(okB_iff l hv node).2 h]
    exact Ev.congr (f := fun k => pipe_way.l0 k l node []) (fun k => rfl) (by simpa using prog_way_l0 l hv l.length node [] (Nat.le_refl _) h (by simp; omega))
  · have h0 : okB l node = false := by
      cases hb : okB l node with
      | false => rfl
      | true => exact absurd ((okB_iff l hv node).1 hb) h
    rw [h0, up_not l node h]
    have hn : node ≠ 0 := fun e => h (Or.inl e)
    refine Ev.step (f := fun k => some ([], false)) (fun k => ?_) (by simpa [ints] using Ev.now (([] : List Int), false))
    simp only [pipe_way.f, pipe_way.l0]
    rw [if_neg hn]
    simp only [pipe_to.f, toIdx_none l node (fun j hj he => h (Or.inr ⟨j, hj, he⟩)), Option.bind_some]
    rw [if_pos (by omega)]

theorem ref_way_l0 (l : List S45) (hl : l.length ≤ 64) : ∀ (n : Nat) (node : Int) (acc : List Int), n ≤ l.length → acc.length + n ≤ 1000 →
    Ev (fun k => skiarearef40_way.l0 k l node acc ((n : Int) - 1)) (ints (up l n node).reverse ++ acc, endn l n node == 0)
  | 0, node, acc, _, _ => by
    exact Ev.step (f := fun k => some (acc, node == 0)) (fun k => by simp only [skiarearef40_way.l0]; rw [if_neg (by omega)]) (by simpa [ints, up, endn] using Ev.now (acc, node == 0))
  | n + 1, node, acc, hn, ha => by
    have hw : wrap64 (((n + 1 : Nat) : Int) - 1 - 1) = (n : Int) - 1 := by rw [wrap_id (by omega) (by omega)]; omega
    have hi : ((n + 1 : Nat) : Int) - 1 = (n : Int) := by omega
    rw [up_succ, endn_succ]
    by_cases h : (nth l n).f2 = node
    · rw [if_pos h, if_pos h]
      have h1 := ref_way_l0 l hl n (nth l n).f1 ((n : Int) :: acc) (by omega) (by simp; omega)
      refine Ev.step (f := fun k => skiarearef40_way.l0 k l (nth l n).f1 ((n : Int) :: acc) ((n : Int) - 1)) (fun k => ?_) (by simpa [ints] using h1)
      simp only [skiarearef40_way.l0, hi]
      rw [if_pos (by omega), if_pos (by omega), if_pos (by omega), rd_nth, if_pos h]
      simp only [Option.bind_some]
      rw [if_pos (by simp; omega)]
      rw [hi] at hw
      rw [hw]
      rfl
    · rw [if_neg h, if_neg h]
      have h1 := ref_way_l0 l hl n node acc (by omega) (by omega)
      refine Ev.step (f := fun k => skiarearef40_way.l0 k l node acc ((n : Int) - 1)) (fun k => ?_) h1
      simp only [skiarearef40_way.l0, hi]
      rw [if_pos (by omega), if_pos (by omega), if_pos (by omega), rd_nth, if_neg h]
      rw [hi] at hw
      rw [hw]
theorem ref_way (l : List S45) (hl : l.length ≤ 64) (node : Int) : Ev (fun k => skiarearef40_way.f k l node) (ints (up l l.length node).reverse, okB l node) := by
  have h := ref_way_l0 l hl l.length node [] (Nat.le_refl _) (by simp; omega)
  refine Ev.congr (f := fun k => skiarearef40_way.l0 k l node [] ((l.length : Int) - 1)) (fun k => ?_) (by simpa [okB] using h)
  unfold skiarearef40_way.f
  rw [wrap_id (by omega) (by omega)]
end Go.Proofs.Ytfmafpplnpiahaa.Pure
