/- How the arguments of this seat's laws read: a slice of structs or numbers as a list, each number within its kind. -/
import Derived.Test.YtedejkhopjhnbaaPx0
import Derived.Deep.Slices
import Derived.Deep.Fields
import Derived.ProofKit
namespace Go.Proofs.Ytedejkhopjhnbaa.Open
open Go.ChangeShapes Go.WideShapes Go.RowKit Go.Deep Go.Proofs.YtedejkhopjhnbaaW.PrintWords Go.Proofs.Ytedejkhopjhnbaa.P
set_option linter.unusedVariables false
set_option linter.unusedSimpArgs false

def is_i64 (n : Int) : Prop := -9223372036854775808 ≤ n ∧ n ≤ 9223372036854775807
theorem is_i64_of {n : Int} (h : (Lit.int .i64 n).wf = true) : is_i64 n := by
  simpa [is_i64, Lit.wf, IntKind.min, IntKind.max, IntKind.signed, IntKind.bits] using h
section
variable {α H : Type} {enc : TypeId × Value → H} {P : Program} {w : World} {base : Nat} {spare : Nat → Bool} {held : Bool}
theorem rows_build {K : α → List Value → Prop} {Z : α → Prop} {sz : Nat} {ad : Addr} (n : Nat) (h : ∀ i, i < n → ∃ p c, Z p ∧ c.length = sz ∧ K p c ∧ ∀ j u, c[j]? = some u → w.cell? (ad.add (i * sz + j)) = some u) :
    ∃ ps : List α, ps.length = n ∧ (∀ p ∈ ps, Z p) ∧ ∀ j p, ps[j]? = some p → ∃ c, c.length = sz ∧ K p c ∧ ∀ i u, c[i]? = some u → w.cell? (ad.add (j * sz + i)) = some u := by
  induction n with
  | zero => exact ⟨[], rfl, by simp, by simp⟩
  | succ n ih =>
    obtain ⟨ps, h1, h2, h3⟩ := ih (fun i hi => h i (by omega))
    obtain ⟨p, c, hz, hc⟩ := h n (by omega)
    refine ⟨ps ++ [p], by simp [h1], fun q hq => ?_, fun j q hj => ?_⟩
    · rcases List.mem_append.1 hq with hq | hq
      · exact h2 q hq
      · rw [List.mem_singleton.1 hq]; exact hz
    · rcases Nat.lt_or_ge j ps.length with hlt | hge
      · rw [List.getElem?_append_left hlt] at hj
        exact h3 j q hj
      · have : j = n := by
          have := (List.getElem?_eq_some_iff.1 hj).1
          simp at this
          omega
        subst this
        have : p = q := by simpa [h1] using hj
        subst this
        exact ⟨c, hc⟩
theorem open_rows {t e : TypeId} {fuel : Nat} {a : Option Addr} {len cap sz : Nat} {x : DataW H × List MemPlace} {K : α → List Value → Prop} {Z : α → Prop} (ht : P.underlying t = some (.slice e)) (hC : P.cellsOf e = sz)
    (hel : ∀ n cs y, cs.length = sz → DataW.trod enc P w base spare held n e cs = some y → ∃ p, K p cs ∧ Z p) (h : DataW.trod enc P w base spare held fuel t [.slice a len cap] = some x) :
    ∃ ps : List α, ps.length = len ∧ len ≤ cap ∧ (∀ p ∈ ps, Z p) ∧ ReadsRow K sz w a len ps := by
  rcases open_slice ht h with ⟨h0, _⟩ | ⟨ad, l, c, m, n, D, Pl, hcs, _, hl, hm, hmm, _, hi⟩
  · simp at h0
    obtain ⟨rfl, rfl, rfl⟩ := h0
    exact ⟨[], rfl, Nat.le_refl _, by simp, rfl, by omega, fun h => absurd h (Nat.lt_irrefl 0)⟩
  · simp at hcs
    obtain ⟨rfl, rfl, rfl⟩ := hcs
    have hlm : len ≤ m := by rw [hmm]; split <;> omega
    unfold maxLen at hm
    obtain ⟨ps, h1, h2, h3⟩ := rows_build (K := K) (Z := Z) (sz := sz) (ad := ad) (w := w) len (fun i hi' => by
      obtain ⟨cs', h1, h2⟩ := hi i (by omega)
      obtain ⟨_, hcl, hat⟩ := World.cells?_some h1
      rw [hC] at hcl hat
      obtain ⟨p, hk, hz⟩ := hel n cs' _ hcl h2
      refine ⟨p, cs', hz, hcl, hk, fun j u hu => ?_⟩
      have hj : j < sz := by have := (List.getElem?_eq_some_iff.1 hu).1; omega
      have := hat j hj
      rw [Go.Deep.add_add] at this
      rw [this, hu])
    exact ⟨ps, h1, hl, h2, h1, by omega, fun _ => ⟨ad, rfl, h3⟩⟩
end


def wf33 (p : S33) : Prop := is_i64 p.f0 ∧ is_i64 p.f1 ∧ is_i64 p.f2
theorem el33 {H : Type} {enc : TypeId × Value → H} {w : World} {base : Nat} {spare : Nat → Bool} {held : Bool} (n : Nat) (cs : List Value) (y : DataW H × List MemPlace) (hl : cs.length = 3) (h : DataW.trod enc Try.prog w base spare held n 33 cs = some y) :
    ∃ p : S33, k33.K w p cs ∧ wf33 p := by
  obtain ⟨xs, m, _, _, _, hx, hf⟩ := DataW.trod_struct Try.underlying33 h
  have hc3 : Try.prog.cellsOf 3 = 1 := by kernel_rfl
  match cs, hl with
  | [c0, c1, c2], _ =>
    match xs, hx with
    | [x0, x1, x2], _ =>
      have h0 := hf 0 _ rfl
      have h1 := hf 1 _ rfl
      have h2 := hf 2 _ rfl
      simp [hc3] at h0 h1 h2
      obtain ⟨n0, e0, _, w0⟩ := DataW.trod_int Try.underlying3 h0
      obtain ⟨n1, e1, _, w1⟩ := DataW.trod_int Try.underlying3 h1
      obtain ⟨n2, e2, _, w2⟩ := DataW.trod_int Try.underlying3 h2
      simp at e0 e1 e2
      subst e0 e1 e2
      exact ⟨⟨n0, n1, n2⟩, k33_mk w _, is_i64_of w0, is_i64_of w1, is_i64_of w2⟩
def wf35 (p : S35) : Prop := is_i64 p.f0 ∧ is_i64 p.f1 ∧ is_i64 p.f2 ∧ is_i64 p.f3
theorem el35 {H : Type} {enc : TypeId × Value → H} {w : World} {base : Nat} {spare : Nat → Bool} {held : Bool} (n : Nat) (cs : List Value) (y : DataW H × List MemPlace) (hl : cs.length = 4) (h : DataW.trod enc Try.prog w base spare held n 35 cs = some y) :
    ∃ p : S35, k35.K w p cs ∧ wf35 p := by
  obtain ⟨xs, m, _, _, _, hx, hf⟩ := DataW.trod_struct Try.underlying35 h
  have hc3 : Try.prog.cellsOf 3 = 1 := by kernel_rfl
  match cs, hl with
  | [c0, c1, c2, c3], _ =>
    match xs, hx with
    | [x0, x1, x2, x3], _ =>
      have h0 := hf 0 _ rfl
      have h1 := hf 1 _ rfl
      have h2 := hf 2 _ rfl
      have h3 := hf 3 _ rfl
      simp [hc3] at h0 h1 h2 h3
      obtain ⟨n0, e0, _, w0⟩ := DataW.trod_int Try.underlying3 h0
      obtain ⟨n1, e1, _, w1⟩ := DataW.trod_int Try.underlying3 h1
      obtain ⟨n2, e2, _, w2⟩ := DataW.trod_int Try.underlying3 h2
      obtain ⟨n3, e3, _, w3⟩ := DataW.trod_int Try.underlying3 h3
      simp at e0 e1 e2 e3
      subst e0 e1 e2 e3
      exact ⟨⟨n0, n1, n2, n3⟩, k35_mk w _, is_i64_of w0, is_i64_of w1, is_i64_of w2, is_i64_of w3⟩
theorem elI_i64 {H : Type} {enc : TypeId × Value → H} {w : World} {base : Nat} {spare : Nat → Bool} {held : Bool} (n : Nat) (cs : List Value) (y : DataW H × List MemPlace) (hl : cs.length = 1) (h : DataW.trod enc Try.prog w base spare held n 3 cs = some y) :
    ∃ p : Int, (Kd.int .i64).K w p cs ∧ is_i64 p := by
  obtain ⟨n0, e0, _, w0⟩ := DataW.trod_int Try.underlying3 h
  exact ⟨n0, e0, is_i64_of w0⟩
end Go.Proofs.Ytedejkhopjhnbaa.Open
