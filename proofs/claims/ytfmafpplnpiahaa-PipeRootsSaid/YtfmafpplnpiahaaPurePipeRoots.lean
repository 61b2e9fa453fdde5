/- The pure statement of the law PipeRoots: a higher pressure at the root is a higher pressure at each node, and along each pipe it falls as it should. -/
import Derived.Test.YtfmafpplnpiahaaPureE
import Derived.Test.YtfmafpplnpiahaaPx25
import Derived.Test.YtfmafpplnpiahaaOpen
namespace Go.Proofs.Ytfmafpplnpiahaa.Pure
open Go.RowKit Go.Proofs.YtfmafpplnpiahaaW.PrintWords Go.Proofs.YtfmafpplnpiahaaW.PrintLast Go.Proofs.YtfmafpplnpiahaaW.PrintMore Go.Proofs.Ytfmafpplnpiahaa.P Go.Proofs.Ytfmafpplnpiahaa.Open
set_option linter.unusedVariables false
set_option linter.unusedSimpArgs false

theorem roots_l0 (l : List S45) (hv : Val l) (ds : List S42) (hd : DOk ds) (fl : List Int) (hF : IsF l ds fl) (root v : Int) (hP : ∀ root node : Int, -100000000000 ≤ root → root ≤ 100000000000 → Ev (fun k => pipe_Pressure.f k l ds root node) (presR l fl root node)) (hr1 : -10000000 ≤ root) (hr2 : root ≤ 10000000) (hv0 : 0 ≤ v) (hv1 : v ≤ 65535) :
    ∀ (n i : Nat), i + n = l.length → Ev (fun k => skiarealaw40_PipeRoots.l0 k l ds root v fl (i : Int)) true := by
  intro n
  induction n with
  | zero =>
    intro i hi
    exact Ev.step (f := fun k => some true) (fun k => by simp only [skiarealaw40_PipeRoots.l0]; rw [if_neg (by omega)]) (Ev.now _)
  | succ n ih =>
    intro i hi
    have hlen := hv.len
    have hlt : i < l.length := by omega
    have hw : wrap64 ((i : Int) + 1) = ((i + 1 : Nat) : Int) := by rw [wrap_id (by omega) (by omega)]; omega
    have hwv : wrap64 v = v := wrap_id (by omega) (by omega)
    have hwr : wrap64 (root + v) = root + v := wrap_id (by omega) (by omega)
    refine Ev.step (fun k => by simp only [skiarealaw40_PipeRoots.l0, rd_nth, hwv, hwr]; rw [if_pos (by omega), if_pos (by omega)]) (Ev.bind (hP root (nth l i).f2 (by omega) (by omega)) ?_)
    refine Ev.bind (hP (root + v) (nth l i).f2 (by omega) (by omega)) ?_
    refine Ev.bind (hP root (nth l i).f1 (by omega) (by omega)) ?_
    refine Ev.congr (fun k => ?_) (ih (i + 1) (by omega))
    have hfl := hF.1
    obtain ⟨p1, p2⟩ := pres_bd l hv ds hd fl hF root (nth l i).f2
    obtain ⟨p3, p4⟩ := pres_bd l hv ds hd fl hF root (nth l i).f1
    obtain ⟨m1, m2, t1, t2, a1, a2⟩ := amt_bd l hv ds hd fl hF i hlt
    obtain ⟨_, _, b3, b4, b5, b6⟩ := hv.bd i hlt
    have hal := pres_along l hv fl root i hlt
    have hpv : pres l fl (root + v) (nth l i).f2 = pres l fl root (nth l i).f2 + v := by unfold pres; omega
    have hr' : rd fl (i : Int) = fl.getD i 0 := by simp [rd]
    simp only [presR, okB_to l hv i hlt, okB_from l hv i hlt, if_true, hw]
    rw [if_pos (by rw [hpv, wrap_id (by omega) (by omega)]), if_pos (by omega), if_pos]
    · rw [hr', wrap_id (x := (nth l i).f3 * fl.getD i 0) (by omega) (by omega), wrap_id (x := Int.tdiv _ _) (by omega) (by omega), wrap_id (x := pres l fl root (nth l i).f1 - (nth l i).f4) (by omega) (by omega)]
      unfold amt at hal
      rw [wrap_id (by omega) (by omega)]
      omega
theorem PipeRoots (l : List S45) (hz : ∀ p ∈ l, wf45 p) (ds : List S42) (hz1 : ∀ p ∈ ds, wf42 p) (root : Int) (w2 : is_i64 root) (v : Int) (w3 : is_u16 v) : ∃ k, skiarealaw40_PipeRoots.f k l ds root v = some true := by
  refine Ev.rounds ?_
  obtain ⟨b, hb, hacc⟩ := accepted_ev l ds root
  refine Ev.congr (fun k => by unfold skiarealaw40_PipeRoots.f skiarealaw40_alive.f; rw [Option.bind_some, if_pos rfl]) (Ev.bind hb ?_)
  have hout : Ev (fun k => skiarealaw40_PipeRoots.j0 k l ds root v true) true := Ev.step (f := fun k => some true) (fun k => by simp only [skiarealaw40_PipeRoots.j0, if_true]) (Ev.now _)
  cases b with
  | false => exact Ev.congr (fun k => by rw [if_neg (by simp)]) hout
  | true =>
    obtain ⟨hv, hd, hl, hr1, hr2⟩ := hacc rfl
    have hv0 := w3.1
    have hv1 := w3.2
    refine Ev.congr (fun k => by rw [if_pos rfl]) ?_
    cases hx : decide ((wrap64 (root + (wrap64 (v)))) > 10000000) with
    | true => exact hout
    | false =>
      obtain ⟨fl, hF, hfl, hP⟩ := prog_Pressure l hv ds hd
      refine Ev.step (fun k => by simp only [skiarealaw40_PipeRoots.j0]; rw [if_neg (by simp)]) (Ev.bind hfl ?_)
      exact roots_l0 l hv ds hd fl hF root v hP hr1 hr2 hv0 hv1 l.length 0 (by omega)
end Go.Proofs.Ytfmafpplnpiahaa.Pure
