/- Pure facts on the pressures and the lists of pipes: what the program and the reference reckon from the same flows. -/
import Derived.Test.YtfmafpplnpiahaaPureC
import Derived.Test.YtfmafpplnpiahaaPx3
import Derived.Test.YtfmafpplnpiahaaPx6
import Derived.Test.YtfmafpplnpiahaaPx17
import Derived.Test.YtfmafpplnpiahaaPx7
import Derived.Test.YtfmafpplnpiahaaPx19
import Derived.Test.YtfmafpplnpiahaaPx8
import Derived.Test.YtfmafpplnpiahaaPx20
namespace Go.Proofs.Ytfmafpplnpiahaa.Pure
open Go.RowKit Go.Proofs.YtfmafpplnpiahaaW.PrintWords Go.Proofs.YtfmafpplnpiahaaW.PrintLast Go.Proofs.YtfmafpplnpiahaaW.PrintMore Go.Proofs.Ytfmafpplnpiahaa.P
set_option linter.unusedVariables false
set_option linter.unusedSimpArgs false

theorem same_l0 (a : List Int) (hl : a.length ≤ 100000) : ∀ (n i : Nat), i + n = a.length → Ev (fun k => skiarearef40_Same.l0 k a a (i : Int)) true := by
  intro n
  induction n with
  | zero =>
    intro i hi
    exact Ev.step (f := fun k => some true) (fun k => by simp only [skiarearef40_Same.l0]; rw [if_neg (by omega)]) (Ev.now _)
  | succ n ih =>
    intro i hi
    have hw : wrap64 ((i : Int) + 1) = ((i + 1 : Nat) : Int) := by rw [wrap_id (by omega) (by omega)]; omega
    refine Ev.step (fun k => ?_) (ih (i + 1) (by omega))
    simp only [skiarearef40_Same.l0, hw]
    rw [if_pos (by omega), if_pos (by omega), if_pos (by omega), if_pos trivial]
theorem same_ev (a : List Int) (hl : a.length ≤ 100000) : Ev (fun k => skiarearef40_Same.f k a a) true := by
  have := same_l0 a hl a.length 0 (by omega)
  exact Ev.congr (fun k => by unfold skiarearef40_Same.f; rw [if_pos rfl]; rfl) this

/-! pressures -/
def amt (l : List S45) (fl : List Int) (i : Nat) : Int := (nth l i).f4 + Int.tdiv ((nth l i).f3 * fl.getD i 0) 1000
theorem tdiv_bd {x : Int} (h0 : 0 ≤ x) (h1 : x ≤ 640000000000) : 0 ≤ Int.tdiv x 1000 ∧ Int.tdiv x 1000 ≤ 640000000 := by
  rw [Int.tdiv_eq_ediv_of_nonneg h0]; omega
theorem mul_bd {a b : Int} (h0 : 0 ≤ a) (h1 : a ≤ 100000) (h2 : 0 ≤ b) (h3 : b ≤ 6400000) : 0 ≤ a * b ∧ a * b ≤ 640000000000 := by
  refine ⟨Int.mul_nonneg h0 h2, ?_⟩
  calc a * b ≤ 100000 * b := Int.mul_le_mul_of_nonneg_right h1 h2
    _ ≤ 640000000000 := by omega
theorem amt_bd (l : List S45) (hv : Val l) (ds : List S42) (hd : DOk ds) (fl : List Int) (hF : IsF l ds fl) (i : Nat) (hi : i < l.length) :
    0 ≤ (nth l i).f3 * fl.getD i 0 ∧ (nth l i).f3 * fl.getD i 0 ≤ 640000000000 ∧ 0 ≤ Int.tdiv ((nth l i).f3 * fl.getD i 0) 1000 ∧ Int.tdiv ((nth l i).f3 * fl.getD i 0) 1000 ≤ 640000000 ∧ -100000 ≤ amt l fl i ∧ amt l fl i ≤ 640100000 := by
  obtain ⟨_, _, b3, b4, b5, b6⟩ := hv.bd i hi
  have hf := flow_bd l ds hd i
  rw [← hF.2 i hi] at hf
  have hm := mul_bd b3 b4 hf.1 hf.2
  have ht := tdiv_bd hm.1 hm.2
  unfold amt
  exact ⟨hm.1, hm.2, ht.1, ht.2, by omega, by omega⟩
theorem pres_go (l : List S45) (hv : Val l) (ds : List S42) (hd : DOk ds) (fl : List Int) (hF : IsF l ds fl) : ∀ (U : List Nat) (n : Int), (∀ j ∈ U, j < l.length) →
    -1000000000000 - 640100000 * ((64 : Int) - U.length) ≤ n → n ≤ 1000000000000 + 100000 * ((64 : Int) - U.length) → U.length ≤ 64 → presGo l fl n (ints U) = some (n - tot (amt l fl) U)
  | [], n, _, _, _, _ => by simp [presGo, ints, tot]
  | u :: U, n, hb, h1, h2, h3 => by
    have hu := hb u (by simp)
    obtain ⟨m1, m2, t1, t2, a1, a2⟩ := amt_bd l hv ds hd fl hF u hu
    obtain ⟨_, _, b3, b4, b5, b6⟩ := hv.bd u hu
    have hlen : ((u :: U).length : Int) = U.length + 1 := by simp
    rw [hlen] at h1 h2
    have hU : U.length + 1 ≤ 64 := by simpa using h3
    show presGo l fl n ((u : Int) :: ints U) = _
    have hs : presStep l fl n (u : Int) = n - amt l fl u := by
      unfold presStep amt
      rw [rd_nth]
      have hr : rd fl (u : Int) = fl.getD u 0 := by simp [rd]
      rw [hr, wrap_id (x := (nth l u).f3 * fl.getD u 0) (by omega) (by omega), wrap_id (x := Int.tdiv _ _) (by omega) (by omega)]
      unfold amt at a1 a2
      rw [wrap_id (x := (nth l u).f4 + _) (by omega) (by omega), wrap_id (by omega) (by omega)]
    have hfl := hF.1
    unfold presGo
    rw [if_pos (by omega), if_pos (by omega), if_pos (by omega), hs]
    rw [pres_go l hv ds hd fl hF U (n - amt l fl u) (fun j hj => hb j (by simp [hj])) (by omega) (by omega) (by omega)]
    simp only [tot]
    congr 1
    omega
def pres (l : List S45) (fl : List Int) (root node : Int) : Int := root - tot (amt l fl) (up l l.length node)
def presR (l : List S45) (fl : List Int) (root node : Int) : Int × Bool := if okB l node then (pres l fl root node, true) else (0, false)
theorem presAt_ev (l : List S45) (hv : Val l) (ds : List S42) (hd : DOk ds) (fl : List Int) (hF : IsF l ds fl) (root node : Int) (h1 : -100000000000 ≤ root) (h2 : root ≤ 100000000000) : Ev (fun k => presAt k l fl root node) (presR l fl root node) := by
  refine Ev.bind (prog_way l hv node) ?_
  have hlen := hv.len
  have hul := up_len l l.length node
  cases hok : okB l node with
  | true =>
    refine Ev.congr (f := fun k => some (pres l fl root node, true)) (fun k => ?_) (by simpa [presR, hok] using Ev.now _)
    show (if true = true then _ else _) = _
    rw [if_pos rfl, pres_go l hv ds hd fl hF _ root (up_lt l l.length node) (by omega) (by omega) (by omega)]
    rfl
  | false =>
    exact Ev.congr (f := fun k => some (0, false)) (fun k => by show (if false = true then _ else _) = _; rw [if_neg (by simp)]) (by simpa [presR, hok] using Ev.now _)
theorem prog_Pressure (l : List S45) (hv : Val l) (ds : List S42) (hd : DOk ds) : ∃ fl, IsF l ds fl ∧ Ev (fun k => pipe_Flows.f k l ds) fl ∧ ∀ root node : Int, -100000000000 ≤ root → root ≤ 100000000000 → Ev (fun k => pipe_Pressure.f k l ds root node) (presR l fl root node) := by
  obtain ⟨fl, h1, hF⟩ := prog_Flows l hv ds hd
  exact ⟨fl, hF, h1, fun root node a b => Ev.bind h1 (presAt_ev l hv ds hd fl hF root node a b)⟩
theorem ref_Pressure_l0 (l : List S45) (hv : Val l) (ds : List S42) (hd : DOk ds) (fl : List Int) (hF : IsF l ds fl) (U : List Nat) (hb : ∀ j ∈ U, j < l.length) (hU : U.length ≤ 64) (r : Int) : ∀ (d i : Nat) (n : Int), i + d = U.length →
    -100000000000 - 640100000 * (i : Int) ≤ n → n ≤ 100000000000 + 100000 * (i : Int) → n - tot (amt l fl) (U.drop i) = r → Ev (fun k => skiarearef40_Pressure.l0 k l (ints U) fl n (i : Int)) (r, true) := by
  intro d
  induction d with
  | zero =>
    intro i n hi h1 h2 hr
    rw [List.drop_eq_nil_of_le (by omega)] at hr
    simp only [tot] at hr
    obtain rfl : n = r := by omega
    exact Ev.step (f := fun k => some (n, true)) (fun k => by simp only [skiarearef40_Pressure.l0]; rw [if_neg (by simp [ints]; omega)]) (Ev.now _)
  | succ d ih =>
    intro i n hi h1 h2 hr
    have hlt : i < U.length := by omega
    have hu := hb U[i] (List.getElem_mem hlt)
    rw [List.drop_eq_getElem_cons hlt] at hr
    simp only [tot] at hr
    have hw : wrap64 ((i : Int) + 1) = ((i + 1 : Nat) : Int) := by rw [wrap_id (by omega) (by omega)]; omega
    obtain ⟨m1, m2, t1, t2, a1, a2⟩ := amt_bd l hv ds hd fl hF U[i] hu
    obtain ⟨_, _, b3, b4, b5, b6⟩ := hv.bd U[i] hu
    have hfl := hF.1
    generalize hv' : U[i] = v at *
    have hrd : rd (ints U) (i : Int) = (v : Int) := by rw [rd_ints U i hlt, hv']
    have hs : wrap64 (wrap64 (n - (nth l v).f4) - wrap64 (Int.tdiv (wrap64 ((nth l v).f3 * rd fl (v : Int))) 1000)) = n - amt l fl v := by
      have hr' : rd fl (v : Int) = fl.getD v 0 := by simp [rd]
      unfold amt
      rw [hr', wrap_id (x := (nth l v).f3 * fl.getD v 0) (by omega) (by omega), wrap_id (x := Int.tdiv _ _) (by omega) (by omega), wrap_id (x := n - (nth l v).f4) (by omega) (by omega), wrap_id (by omega) (by omega)]
      omega
    refine Ev.step (fun k => ?_) (ih (i + 1) (n - amt l fl v) (by omega) (by omega) (by omega) (by omega))
    simp only [skiarearef40_Pressure.l0, hrd, hw, rd_nth, hs]
    rw [if_pos (by simp [ints]; omega), if_pos (by omega), if_pos (by omega), if_pos (by omega), if_pos (by omega)]
theorem ref_Pressure (l : List S45) (hv : Val l) (ds : List S42) (hd : DOk ds) (hl : ds.length ≤ 1000) (fl : List Int) (hF : IsF l ds fl) (root node : Int) (h1 : -100000000000 ≤ root) (h2 : root ≤ 100000000000) : Ev (fun k => skiarearef40_Pressure.f k l ds root node) (presR l fl root node) := by
  have hlen := hv.len
  have hul := up_len l l.length node
  refine Ev.bind (ref_way l hlen node) ?_
  cases hok : okB l node with
  | true =>
    obtain ⟨R, hR, hR2⟩ := ref_Flows l hv ds hd hl
    have := isF_eq hR2 hF
    subst this
    refine Ev.congr (fun k => by show (if true = true then _ else _) = _; rw [if_pos rfl]) (Ev.bind hR ?_)
    have := ref_Pressure_l0 l hv ds hd R hF (up l l.length node).reverse (fun j hj => up_lt l l.length node j (by simpa using hj)) (by rw [List.length_reverse]; omega) (pres l R root node) _ 0 root (Nat.zero_add _) (by omega) (by omega) (by rw [List.drop_zero, tot_reverse]; rfl)
    simpa [presR, hok] using this
  | false =>
    exact Ev.congr (f := fun k => some (0, false)) (fun k => by show (if false = true then _ else _) = _; rw [if_neg (by simp)]) (by simpa [presR, hok] using Ev.now _)

/-! the lists -/
def pathL (l : List S45) (node : Int) : List Int := (up l l.length node).reverse.map (fun i => (nth l i).f0)
theorem pathGo_ok (l : List S45) : ∀ (U : List Nat) (out : List Int), (∀ j ∈ U, j < l.length) → out.length + U.length ≤ 1000 → pathGo l out (ints U) = some (out ++ U.map (fun i => (nth l i).f0))
  | [], out, _, _ => by simp [pathGo, ints]
  | u :: U, out, hb, h => by
    have hu := hb u (by simp)
    have hU : out.length + (U.length + 1) ≤ 1000 := by simpa using h
    show pathGo l out ((u : Int) :: ints U) = _
    unfold pathGo
    rw [if_pos (by omega), if_pos (by omega), if_pos (by omega), rd_nth, pathGo_ok l U _ (fun j hj => hb j (by simp [hj])) (by simp; omega)]
    simp
theorem ints_reverse (U : List Nat) : (ints U).reverse = ints U.reverse := by simp [ints]
theorem prog_Path (l : List S45) (hv : Val l) (node : Int) : Ev (fun k => pipe_Path.f k l node) (pathL l node, okB l node) := by
  have hlen := hv.len
  have hul := up_len l l.length node
  refine Ev.bind (prog_way l hv node) ?_
  refine Ev.congr (f := fun k => some (pathL l node, okB l node)) (fun k => ?_) (Ev.now _)
  show (pathGo l [] (ints (up l l.length node)).reverse).bind _ = _
  rw [ints_reverse, pathGo_ok l _ [] (fun j hj => up_lt l l.length node j (by simpa using hj)) (by simp; omega)]
  rfl
theorem ref_Path_l0 (l : List S45) (U : List Nat) (hb : ∀ j ∈ U, j < l.length) (hU : U.length ≤ 64) : ∀ (d i : Nat) (out : List Int), i + d = U.length → out.length ≤ i →
    Ev (fun k => skiarearef40_Path.l0 k l (ints U) out (i : Int)) (out ++ (U.drop i).map (fun i => (nth l i).f0), true) := by
  intro d
  induction d with
  | zero =>
    intro i out hi ho
    rw [List.drop_eq_nil_of_le (by omega)]
    exact Ev.step (f := fun k => some (out, true)) (fun k => by simp only [skiarearef40_Path.l0]; rw [if_neg (by simp [ints]; omega)]) (by simpa using Ev.now _)
  | succ d ih =>
    intro i out hi ho
    have hlt : i < U.length := by omega
    have hu := hb U[i] (List.getElem_mem hlt)
    rw [List.drop_eq_getElem_cons hlt]
    have hw : wrap64 ((i : Int) + 1) = ((i + 1 : Nat) : Int) := by rw [wrap_id (by omega) (by omega)]; omega
    generalize hv' : U[i] = v at *
    have hrd : rd (ints U) (i : Int) = (v : Int) := by rw [rd_ints U i hlt, hv']
    have h1 := ih (i + 1) (out ++ [(nth l v).f0]) (by omega) (by simp; omega)
    refine Ev.step (f := fun k => skiarearef40_Path.l0 k l (ints U) (out ++ [(nth l v).f0]) ((i + 1 : Nat) : Int)) (fun k => ?_) (by simpa using h1)
    simp only [skiarearef40_Path.l0, hrd, hw, rd_nth]
    rw [if_pos (by simp [ints]; omega), if_pos (by omega), if_pos (by omega), if_pos (by omega), if_pos (by omega)]
theorem pathL_not (l : List S45) (hv : Val l) (node : Int) (h : okB l node = false) : pathL l node = [] := by
  unfold pathL
  rw [up_not l node (fun hh => by rw [(okB_iff l hv node).2 hh] at h; exact absurd h (by simp))]
  rfl
theorem ref_Path (l : List S45) (hv : Val l) (node : Int) : Ev (fun k => skiarearef40_Path.f k l node) (pathL l node, okB l node) := by
  have hlen := hv.len
  have hul := up_len l l.length node
  refine Ev.bind (ref_way l hlen node) ?_
  cases hok : okB l node with
  | true =>
    have := ref_Path_l0 l (up l l.length node).reverse (fun j hj => up_lt l l.length node j (by simpa using hj)) (by rw [List.length_reverse]; omega) _ 0 [] (Nat.zero_add _) (by simp)
    exact Ev.congr (fun k => by show (if true = true then _ else _) = _; rw [if_pos rfl]) (by simpa [pathL] using this)
  | false =>
    rw [pathL_not l hv node hok]
    exact Ev.congr (f := fun k => some ([], false)) (fun k => by show (if false = true then _ else _) = _; rw [if_neg (by simp)]) (Ev.now _)

/-- a need that is met -/
def metB (l : List S45) (fl : List Int) (root : Int) (d : S42) : Bool := okB l d.f0 && decide (¬ pres l fl root d.f0 < d.f1)
def lowL (l : List S45) (fl : List Int) (root : Int) (need : List S42) : List Int := (need.filter (fun d => !metB l fl root d)).map (fun d => d.f0)
theorem lowL_cons (l : List S45) (fl : List Int) (root : Int) (d : S42) (t : List S42) : lowL l fl root (d :: t) = if metB l fl root d then lowL l fl root t else d.f0 :: lowL l fl root t := by
  unfold lowL
  cases h : metB l fl root d <;> simp [h]
theorem prog_lowGo (l : List S45) (hv : Val l) (ds : List S42) (hd : DOk ds) (fl : List Int) (hF : IsF l ds fl) (root : Int) (h1 : -100000000000 ≤ root) (h2 : root ≤ 100000000000) : ∀ (need : List S42) (out : List Int), out.length + need.length ≤ 1000 → Ev (fun k => lowGo k l fl root out need) (out ++ lowL l fl root need)
  | [], out, _ => Ev.congr (f := fun k => some out) (fun k => rfl) (by simpa [lowL] using Ev.now out)
  | d :: t, out, h => by
    have h' : out.length + (t.length + 1) ≤ 1000 := by simpa using h
    rw [lowL_cons]
    refine Ev.congr (fun k => by rw [lowGo]) (Ev.bind (presAt_ev l hv ds hd fl hF root d.f0 h1 h2) ?_)
    cases hm : metB l fl root d with
    | true =>
      have hm' := hm
      simp only [metB, Bool.and_eq_true, decide_eq_true_eq] at hm'
      refine Ev.congr (fun k => ?_) (by simpa using prog_lowGo l hv ds hd fl hF root h1 h2 t out (by omega))
      rw [if_pos]
      simp only [presR, hm'.1, if_true]
      exact ⟨trivial, hm'.2⟩
    | false =>
      refine Ev.congr (fun k => ?_) (by simpa using prog_lowGo l hv ds hd fl hF root h1 h2 t (out ++ [d.f0]) (by simp; omega))
      rw [if_neg, if_pos (by omega)]
      unfold presR
      split
      · rename_i hok
        intro hh
        have : metB l fl root d = true := by simp only [metB, Bool.and_eq_true, decide_eq_true_eq]; exact ⟨hok, hh.2⟩
        rw [this] at hm; exact absurd hm (by simp)
      · simp
theorem prog_Low (l : List S45) (hv : Val l) (ds : List S42) (hd : DOk ds) (fl : List Int) (hF : IsF l ds fl) (hfl : Ev (fun k => pipe_Flows.f k l ds) fl) (root : Int) (h1 : -100000000000 ≤ root) (h2 : root ≤ 100000000000) (need : List S42) (hn : need.length ≤ 1000) : Ev (fun k => pipe_Low.f k l ds root need) (lowL l fl root need) := by
  refine Ev.bind hfl ?_
  simpa using prog_lowGo l hv ds hd fl hF root h1 h2 need [] (by simpa using hn)
theorem ref_Low_l0 (l : List S45) (hv : Val l) (ds : List S42) (hd : DOk ds) (hl : ds.length ≤ 1000) (fl : List Int) (hF : IsF l ds fl) (root : Int) (h1 : -100000000000 ≤ root) (h2 : root ≤ 100000000000) (need : List S42) (hn : need.length ≤ 1000) : ∀ (n j : Nat) (out : List Int), j + n = need.length → out.length ≤ j →
    Ev (fun k => skiarearef40_Low.l0 k l ds root need out (j : Int)) (out ++ lowL l fl root (need.drop j)) := by
  intro n
  induction n with
  | zero =>
    intro j out hj ho
    rw [List.drop_eq_nil_of_le (by omega)]
    exact Ev.step (f := fun k => some out) (fun k => by simp only [skiarearef40_Low.l0]; rw [if_neg (by omega)]) (by simpa [lowL] using Ev.now out)
  | succ n ih =>
    intro j out hj ho
    have hlt : j < need.length := by omega
    have hw : wrap64 ((j : Int) + 1) = ((j + 1 : Nat) : Int) := by rw [wrap_id (by omega) (by omega)]; omega
    rw [List.drop_eq_getElem_cons hlt, ← getD_eq need z42 j hlt, lowL_cons]
    generalize hd' : need.getD j z42 = d
    have hrd : rd_T42 need (j : Int) = d := by rw [rd_draw, hd']
    refine Ev.step (f := fun k => (skiarearef40_Pressure.f k l ds root d.f0).bind fun bt186 => (if bt186.2 = true then (if bt186.1 < d.f1 then (if out.length < 17592186044416 then (skiarearef40_Low.l0 k l ds root need (out ++ [d.f0]) ((j + 1 : Nat) : Int)) else (none)) else (skiarearef40_Low.l0 k l ds root need out ((j + 1 : Nat) : Int))) else (if out.length < 17592186044416 then (skiarearef40_Low.l0 k l ds root need (out ++ [d.f0]) ((j + 1 : Nat) : Int)) else (none)))) (fun k => ?_) ?_
    · simp only [skiarearef40_Low.l0, hrd, hw]
      rw [if_pos (by omega), if_pos (by omega)]
    · refine Ev.bind (ref_Pressure l hv ds hd hl fl hF root d.f0 h1 h2) ?_
      cases hm : metB l fl root d with
      | true =>
        have hm' := hm
        simp only [metB, Bool.and_eq_true, decide_eq_true_eq] at hm'
        refine Ev.congr (fun k => ?_) (by simpa using ih (j + 1) out (by omega) (by omega))
        simp only [presR, hm'.1, if_true]
        rw [if_neg hm'.2]; rfl
      | false =>
        refine Ev.congr (fun k => ?_) (by simpa using ih (j + 1) (out ++ [d.f0]) (by omega) (by simp; omega))
        unfold presR
        split
        · rename_i hok
          have : pres l fl root d.f0 < d.f1 := by
            by_cases hh : pres l fl root d.f0 < d.f1
            · exact hh
            · have : metB l fl root d = true := by simp only [metB, Bool.and_eq_true, decide_eq_true_eq]; exact ⟨hok, hh⟩
              rw [this] at hm; exact absurd hm (by simp)
          simp only [if_true]
          rw [if_pos this, if_pos (by omega)]; rfl
        · simp only [Bool.false_eq_true, if_false]
          rw [if_pos (by omega)]; rfl
theorem ref_Low (l : List S45) (hv : Val l) (ds : List S42) (hd : DOk ds) (hl : ds.length ≤ 1000) (fl : List Int) (hF : IsF l ds fl) (root : Int) (h1 : -100000000000 ≤ root) (h2 : root ≤ 100000000000) (need : List S42) (hn : need.length ≤ 1000) : Ev (fun k => skiarearef40_Low.f k l ds root need) (lowL l fl root need) := by
  simpa [skiarearef40_Low.f] using ref_Low_l0 l hv ds hd hl fl hF root h1 h2 need hn _ 0 [] (Nat.zero_add _) (by simp)
theorem lowL_len (l : List S45) (fl : List Int) (root : Int) (need : List S42) : (lowL l fl root need).length ≤ need.length := by
  unfold lowL
  rw [List.length_map]
  exact List.length_filter_le _ _
end Go.Proofs.Ytfmafpplnpiahaa.Pure
