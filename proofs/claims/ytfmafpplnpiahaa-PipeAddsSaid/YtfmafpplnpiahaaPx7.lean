-- Printed for this claim by a program of the session, out of Lean's own print of the translation.
import Derived.Test.YtfmafpplnpiahaaPx0
import Derived.Test.YtfmafpplnpiahaaPx4
namespace Go.Proofs.Ytfmafpplnpiahaa.P
open Go.RowKit Go.Proofs.YtfmafpplnpiahaaW.PrintWords Go.Proofs.YtfmafpplnpiahaaW.PrintLast Go.Proofs.YtfmafpplnpiahaaW.PrintMore
attribute [local go_sem] max2_int min2_int max_two min_two max_three min_three max_four min_four   -- for this text's walks alone
set_option linter.unusedVariables false
set_option linter.unusedSimpArgs false

/-! ### pipe_Path: function 19 -/
section
open Go.Shelf
attribute [local go_sem] Oper.semAt_some

/-- what a round keeps: all below block N but block bo -/
def KB (N bo : Nat) (A B : World) : Prop := A.heap.size ≤ B.heap.size ∧ ∀ k, k < N → k ≠ bo → B.heap[k]? = A.heap[k]?
theorem KB.refl (N bo : Nat) (A : World) : KB N bo A A := ⟨Nat.le_refl _, fun _ _ _ => rfl⟩
theorem KB.trans {N bo : Nat} {A B C : World} (h : KB N bo A B) (k : KB N bo B C) : KB N bo A C := ⟨Nat.le_trans h.1 k.1, fun i hi hn => (k.2 i hi hn).trans (h.2 i hi hn)⟩
theorem KB.cell {N bo : Nat} {A B : World} (h : KB N bo A B) {p : Addr} (h1 : p.block < N) (h2 : p.block ≠ bo) : B.cell? p = A.cell? p := World.cell?_of_block (w := A) (h.2 p.block h1 h2)

/-- what has come when k rounds are over -/
def bk {α : Type} (zs : List α) (z : α) (k : Nat) : List (Int × α) := (List.range k).map fun (j : Nat) => (((zs.length : Int) - 1 - (j : Int)), zs.getD (zs.length - 1 - j) z)
theorem bk_succ {α : Type} (zs : List α) (z : α) (k : Nat) : bk zs z (k + 1) = bk zs z k ++ [(((zs.length : Int) - 1 - (k : Int)), zs.getD (zs.length - 1 - k) z)] := by simp [bk, List.range_succ]
theorem bk_length {α : Type} (zs : List α) (z : α) (k : Nat) : (bk zs z k).length = k := by simp [bk]
theorem add_block (a : Addr) (j : Nat) : (a.add j).block = a.block := by unfold Addr.add; split <;> rfl

set_option maxRecDepth 100000 in
set_option maxHeartbeats 2000000 in
theorem backward_in (n : Nat) (hn : 1 ≤ n) (l Bs N bo : Nat) (A : Option Addr) (cap : Nat) {p : Int → Prop} (zs : List {v : Int // p v}) (z : {v : Int // p v}) (hbs : Bs < N ∧ Bs ≠ bo) (hA : ∀ ad, A = some ad → ad.block < N ∧ ad.block ≠ bo) (J Jx : List (Int × {v : Int // p v}) → World → Prop)
    (hY : ∀ pre x W, J pre W → pre.length < zs.length → YieldAt Fence.wide (n - 1) Try.prog l #[.int .i64 x.1, .int .i64 x.2.1] W fun e W' =>
      (e = .returned (.bool true) ∧ J (pre ++ [x]) W' ∧ KB N bo W W') ∨ (e = .returned (.bool false) ∧ Jx (pre ++ [x]) W'))
    (W : World) (hBs : W.cell? ⟨Bs, 0, none⟩ = some (.slice A zs.length cap)) (hc : Kd.C (Kd.int .i64) W A (zs.map (·.1)).length (zs.map (·.1))) (h0 : J [] W) :
    CallsIn Fence.wide n Try.prog 39 #[.func (.yield l) #[] #[], .pointer (some ⟨Bs, 0, none⟩)] W fun e W' => (∃ v, e = .returned v) ∧
      ((∃ ys, ys = bk zs z zs.length ∧ J ys W') ∨ (∃ pre, (∃ k, k ≤ zs.length ∧ pre = bk zs z k) ∧ Jx pre W')) := by
  have hlen : zs.length ≤ 9223372036854775807 := by have := hc.2.1; simpa using this
  have HC := Aside0.mk hc
  have HY := Aside0.mk hY
  clear hc hY
  refine callsIn_of_wp Try.func39 rfl trivial ?_ rfl
  simp only [Try.ntmps39, List.size_toArray, List.length_cons, List.length_nil, Nat.reduceAdd, Nat.reduceSub, Array.replicate_succ, Array.replicate_zero, List.push_toArray, List.append_toArray, List.nil_append, List.cons_append]
  gi_wp2
  gi_loopw [3] (fun i wr => ∃ k : Nat, k ≤ zs.length ∧ i = .int .i64 ((zs.length : Int) - 1 - k) ∧ Aside0 (J (bk zs z k) wr) ∧ Aside0 (KB N bo W wr))
    (fun i _ => (intOf i + 1).toNat)
  case atStart => exact ⟨0, Nat.zero_le _, by simp, ⟨h0⟩, ⟨KB.refl _ _ _⟩⟩
  case round =>
    obtain ⟨k, hk, rfl, HJ, KW⟩ := hrel
    have hBs' := (KW.out.cell (p := ⟨Bs, 0, none⟩) hbs.1 hbs.2).trans hBs
    by_cases hlt : k < zs.length
    · have c1 : 0 ≤ (zs.length : Int) - 1 - k := by omega
      have c2 : (zs.length : Int) - 1 - k < ((zs.map (·.1)).length : Int) := by simp; omega
      obtain ⟨ad, e1, hx⟩ := Kd.at_int HC.out ((zs.length : Int) - 1 - k) c1 c2
      cases e1
      have hb := hA ad rfl
      replace hx := (KW.out.cell (p := ad.add _) (by rw [add_block]; exact hb.1) (by rw [add_block]; exact hb.2)).trans hx
      have hv : rd (zs.map (·.1)) ((zs.length : Int) - 1 - k) = (zs.getD (zs.length - 1 - k) z).1 := by
        have e : ((zs.length : Int) - 1 - k).toNat = zs.length - 1 - k := by omega
        have h2 : zs.length - 1 - k < zs.length := by omega
        simp [rd, e, List.getD_eq_getElem?_getD, List.getElem?_eq_getElem h2]
      rw [hv, show ((zs.length : Int) - 1 - k).toNat = zs.length - 1 - k from by omega] at hx
      obtain ⟨fn, tmps, assign, body, hy, hR⟩ := HY.out _ ((zs.length : Int) - 1 - k, zs.getD (zs.length - 1 - k) z) wr HJ.out (by rw [bk_length]; exact hlt)
      dsimp only at hy
      have HS := Aside0.mk (bk_succ zs z k)
      clear hv hb
      have c3 : (zs.length : Int) - 1 - k < (zs.length : Int) := by omega
      generalize hq : zs.getD (zs.length - 1 - k) z = q at *
      clear hq
      gi_wp2
      refine hR.mono ?_
      rintro e W3 (⟨rfl, hJ3, hk3⟩ | ⟨rfl, hJx3⟩)
      · gi_wp2
        go_roundw
        case rel => exact ⟨k + 1, by omega, by (have e : (zs.length : Int) - 1 - k - 1 = (zs.length : Int) - 1 - ((k + 1 : Nat) : Int) := by omega); rw [← e], ⟨by rw [HS.out]; exact hJ3⟩, ⟨KW.out.trans hk3⟩⟩
        case measure => simp [intOf]; omega
      · gi_wp2
        refine bodyPost_ret (results_none rfl _ _ _) rfl ?_
        exact ⟨⟨_, rfl⟩, .inr ⟨_, ⟨k + 1, by omega, HS.out.symm⟩, hJx3⟩⟩
    · obtain rfl : k = zs.length := by omega
      have c1 : (zs.length : Int) - 1 - (zs.length : Int) = -1 := by omega
      gi_wp2
      go_end0
      exact ⟨⟨_, rfl⟩, .inl ⟨_, rfl, HJ.out⟩⟩

theorem backward_mk (n : Nat) (a : Option Addr) (len cap : Nat) (w : World) :
    CallsIn Fence.wide n Try.prog 35 #[.slice a len cap] w fun e w' => e = .returned (.func (.func 39) #[] #[.pointer (some ⟨w.heap.size, 0, none⟩)]) ∧ w' = w.alloc (.cells #[.slice a len cap] 30) := by
  refine callsIn_of_wp Try.func35 rfl trivial ?_ rfl
  simp only [Try.ntmps35, List.size_toArray, List.length_cons, List.length_nil, Nat.reduceAdd, Nat.reduceSub, Array.replicate_succ, Array.replicate_zero, List.push_toArray, List.append_toArray, List.nil_append, List.cons_append]
  gi_wp2
  go_ret
  exact ⟨rfl, rfl⟩

section
variable {P : Program} {ops : Array Oper} {Q : Exit → Act → World → Prop} {md : Region.Mode} {l n : Nat}
theorem uponIn_round_wide {o : Oper} {a : Act} {K : Act → World → Prop} (r : Result Next) (h : o.upon P a K Q r) : o.uponIn (Fence.wide.inRound l) n P a K Q r := by
  cases r with
  | ok x w' =>
    cases x with
    | value v => exact h
    | skip => exact h
    | defer d => exact h
    | enter f args => exact ⟨fun hd => by simp [Fence.inRound, Fence.wide] at hd, CallsIn.inRound l (callsIn_wide.2 h)⟩
    | row row args => exact ⟨fun hd => by simp [Fence.inRound, Fence.wide] at hd, fun c cs _ => let ⟨v, w2, hr, hs⟩ := h c cs; ⟨v, w2, hr, stepsIn_wide.2 hs⟩⟩
    | _ => exact absurd h (by simp [Oper.upon])
  | halt x w' =>
    cases x <;> first | exact h | exact absurd h (by simp [Oper.upon])
theorem wpOpIn_round_wide (hlo : ¬ LetsOut Q) (hdef : ∀ (i : Nat) (o : Oper), ops[i]? = some o → ∀ c, o.op ≠ Op.defer c) {i : Nat} {K : Act → World → Prop} {a : Act} {w : World} (h : wpOp P ops Q i K a w) : wpOpIn (Fence.wide.inRound l) n P ops Q i K a w := by
  unfold wpOp at h
  unfold wpOpIn
  cases ho : ops[i]? with
  | none => rw [ho] at h; exact h
  | some o =>
    rw [ho] at h
    simp only at h ⊢
    split
    · rename_i hw
      rw [if_pos hw] at h
      refine ⟨fun _ _ => trivial, ?_⟩
      rw [Oper.semAt_eq _ _ _ (hdef i o ho)]
      exact uponIn_round_wide _ (h.resolve_right (fun hr => hlo hr.2))
    · rename_i hw
      rw [if_neg hw] at h
      exact ⟨fun _ _ => trivial, h⟩
theorem wpAnyIn_round_wide (hlo : ¬ LetsOut Q) (hdef : ∀ (i : Nat) (o : Oper), ops[i]? = some o → ∀ c, o.op ≠ Op.defer c) : ∀ (fuel : Nat) (listed : Array Bool) (a : Act) (w : World), wpAny P md ops Q fuel listed a w → wpAnyIn (Fence.wide.inRound l) n P md ops Q fuel listed a w
  | 0, _, _, _, h => h
  | fuel + 1, _, _, _, h => ⟨h.1, fun i hi => wpOpIn_round_wide hlo hdef (wpOp_mono (fun a' w' h' => wpAnyIn_round_wide hlo hdef fuel _ a' w' h') (h.2 i hi))⟩
def noDefer (o : Oper) : Bool := match o.op with
  | .defer _ => false
  | _ => true
theorem startIn_ {S : World → Prop} {ds : List Nat} {id m : Nat} {a : Act} {w : World} (lst : Array Bool) (hlo : ¬ LetsOut Q) (hm : P.follows .mixedOrders = true) (hdef : ops.all noDefer = true) (hn : ops.size = m) (hl : Array.replicate m false = lst) (hS : S w.drew)
    (h : S w.drew → wpAnyLast P .any ops Q S ds m lst a w.drew) : (Code.region id ops true).wpIn (Fence.wide.inRound l) n P Q a w := by
  subst hn
  subst hl
  refine wpIn_region_any hm (wpAnyIn_round_wide hlo (fun i o ho c hc => ?_) _ _ _ _ (wpAny_of_last _ _ _ _ (h hS)))
  have := Array.all_eq_true.1 hdef i (Array.getElem?_eq_some_iff.1 ho).1
  rw [(Array.getElem?_eq_some_iff.1 ho).2] at this
  unfold noDefer at this
  rw [hc] at this
  exact absurd this (by simp)
end

theorem KB.below {N bo : Nat} {A B : World} (h : Below N A B) : KB N bo A B := ⟨h.size, fun k hk _ => h.block k hk⟩
theorem KB.setCell {N bo : Nat} {A B : World} (h : KB N bo A B) (j : Nat) (u : Value) : KB N bo A (B.setCell ⟨bo, j, none⟩ u) :=
  ⟨by simpa [World.setCell] using h.1, fun k hk hn => (Below.heap_setCell B ⟨bo, j, none⟩ u k hn).trans (h.2 k hk hn)⟩
theorem KB.drew {N bo : Nat} {A B : World} (h : KB N bo A B) : KB N bo A B.drew := h

theorem backward_stops (n : Nat) (hn : 1 ≤ n) (Bs N bo : Nat) (A : Option Addr) (cap : Nat) {p : Int → Prop} (zs : List {v : Int // p v}) (z : {v : Int // p v}) (hbs : Bs < N ∧ Bs ≠ bo) (hA : ∀ ad, A = some ad → ad.block < N ∧ ad.block ≠ bo)
    (w : World) (hBs : w.cell? ⟨Bs, 0, none⟩ = some (.slice A zs.length cap)) (hc : Kd.C (Kd.int .i64) w A (zs.map (·.1)).length (zs.map (·.1))) :
    SeqStopsK Fence.wide n Try.prog 39 #[.pointer (some ⟨Bs, 0, none⟩)] (fun x : Int × {v : Int // p v} => #[Value.int .i64 x.1, Value.int .i64 x.2.1]) (KB N bo) (fun ys => ys = bk zs z zs.length)
      (fun pre => ∃ k, k ≤ zs.length ∧ pre = bk zs z k) zs.length w := fun l J Jx W hW _ _ hY h0 =>
  backward_in n hn l Bs N bo A cap zs z hbs hA J Jx hY W (pw_cell_below hW hBs) (Kd.C_below hc hW) h0

/-- what the loop of Path keeps -/
structure PI (w W1 : World) (l0 : List S45) (N bo : Nat) (ids : List Int) (W : World) (v : Value) : Prop where
  box : W.heap[bo]? = some (.cells #[v] 30 (0, 0))
  row : Kd.R (Kd.int .i64) 3 W N (fun _ => True) v ids
  keep : KB N bo W1 W
  bel : Below w.heap.size w W

theorem PI.own {w W1 : World} {l0 : List S45} {N bo : Nat} {ids : List Int} (hbo : bo < N) (hN : N ≤ W1.heap.size) (hw : w.heap.size ≤ N) {W W' : World} {v : Value} (h : PI w W1 l0 N bo ids W v) {row : Option Nat} (hg : W.grownBy W' row) (hr : ∀ r, row = some r → N ≤ r ∧ ∃ o : Obj, W.heap[r]? = some o ∧ o.isCells = false) : PI w W1 l0 N bo ids W' v where
  box := (hg.block bo (blk_lt h.box) (fun e => by have := (hr bo e.symm).1; omega)).trans h.box
  row := Kd.R_mono (Kd.R_move (Kd.R_bound h.row) (fun k hk => by
    obtain ⟨_, _, hlt, q, _, cells, hc⟩ := hk
    refine hg.block k hlt (fun e => ?_)
    obtain ⟨_, o, ho, hn⟩ := hr k e.symm
    rw [hc] at ho
    injection ho with ho
    subst ho
    simp [Obj.isCells] at hn)) (fun _ _ => trivial)
  keep := ⟨Nat.le_trans h.keep.1 hg.size, fun k hk hne => (hg.block k (by have := h.keep.1; omega) (fun e => by have := (hr k e.symm).1; omega)).trans (h.keep.2 k hk hne)⟩
  bel := h.bel.grown hg h.bel.size (fun k e => by have := (hr k e).1; omega)

theorem bk_rev {α β : Type} (zs : List α) (z : α) (f : α → β) : (bk zs z zs.length).map (fun x => f x.2) = zs.reverse.map f := by
  apply List.ext_getElem
  · simp [bk]
  · intro i h1 h2
    have : zs.length - 1 - i < zs.length := by simp [bk] at h1; omega
    simp [bk, List.getD_eq_getElem?_getD, List.getElem?_eq_getElem this]
def pathGo (l : List S45) : List Int → List Int → Option (List Int)
  | out, [] => some out
  | out, i :: is => if 0 ≤ i then (if i < (l.length : Int) then (if out.length < 17592186044416 then pathGo l (out ++ [(rd_T45 l i).f0]) is else none) else none) else none
def pipe_Path.f (k : Nat) (l0 : List S45) (a1 : Int) : Option (List Int × Bool) := (pipe_way.f k l0 a1).bind fun p => (pathGo l0 [] p.1.reverse).bind fun out => some (out, p.2)
theorem pathGo_all (l : List S45) (is : List Int) (out r : List Int) (h : pathGo l out is = some r) : (∀ i ∈ is, 0 ≤ i ∧ i < (l.length : Int)) ∧ r = out ++ is.map (fun i => (rd_T45 l i).f0) ∧ (is ≠ [] → out.length + is.length ≤ 17592186044416) := by
  induction is generalizing out with
  | nil =>
    have : out = r := Option.some.inj h
    subst this
    simp
  | cons i t ih =>
    unfold pathGo at h
    split at h
    · split at h
      · split at h
        · obtain ⟨h1, h2, h3⟩ := ih _ h
          refine ⟨fun j hj => ?_, by rw [h2]; simp, fun _ => ?_⟩
          · rcases List.mem_cons.1 hj with rfl | hj
            · exact ⟨by assumption, by assumption⟩
            · exact h1 j hj
          · cases t with
            | nil => simp; omega
            | cons a b => have := h3 (by simp); simp at this ⊢; omega
        · exact absurd h (by simp)
      · exact absurd h (by simp)
    · exact absurd h (by simp)

theorem path_open {W : World} {base : Nat} {ok : Nat → Prop} {v : Value} {xs : List Int} {x : Int} (h : Kd.R (Kd.int .i64) 3 W base ok v (xs ++ [x])) : ∃ g cap, v = .slice (some ⟨g, 0, none⟩) (xs.length + 1) cap := by
  obtain ⟨inner, ho⟩ := Kd.R_own h
  rcases ho.2 with ⟨rfl, h0⟩ | ⟨g, cap, cur, rfl, _⟩
  · simp at h0
  · exact ⟨g, cap, by simp⟩
def path_T5 : Bool × List (List Nat × List Nat) := (true, [([], []), ([], []), ([], []), ([1, 2], [1, 2]), ([3], [3]), ([4], [4]), ([5], [5]), ([0, 6], [0, 6]), ([7, 7, 0, 1, 2, 3, 4, 5, 6, 7], [7])])
theorem path_tab5 : rtab .any (opsOf Try.f19 5) = path_T5 := by kernel_rfl
set_option maxHeartbeats 8000000 in
set_option maxRecDepth 100000 in
theorem pipe_Path.calls (k : Nat) (A0 : Option Addr) (c0 : Nat) (l0 : List S45) (a1 : Int) (r1 : List Int) (r2 : Bool) (w : World) (hr0 : Kd.C k45 w A0 l0.length l0) (hc0 : l0.length ≤ c0) (h : pipe_Path.f k l0 a1 = some (r1, r2)) :
    Calls Try.prog 19 #[.slice A0 l0.length c0, .int .i64 a1] w fun e w' => ∃ v0_ : Value, e = .returned (.tuple #[v0_, .bool r2]) ∧ Kd.R (Kd.int .i64) 3 w' w.heap.size (fun _ => True) v0_ r1 ∧ Below w.heap.size w w' := by
  have hu45 := Try.underlying45
  obtain ⟨⟨ps, okb⟩, hps, h2⟩ := Option.bind_eq_some_iff.1 h
  obtain ⟨out, hout, h3⟩ := Option.bind_eq_some_iff.1 h2
  have h4 : (out, okb) = (r1, r2) := Option.some.inj h3
  injection h4 with e1 e2
  subst e1
  subst e2
  obtain ⟨hin, hr, hsz⟩ := pathGo_all l0 _ _ _ hout
  have HIN := Aside0.mk hin
  have HR := Aside0.mk hr
  have HSZ := Aside0.mk hsz
  have HR0 := Aside0.mk hr0
  have HC0 := Aside0.mk hc0
  have HPS := Aside0.mk hps
  clear h h2 h3 hout hin hr hsz hps hr0 hc0
  refine (callsIn_wide (n := 8)).1 ?_
  refine callsIn_of_wp_marks Try.func19 rfl trivial ?_ rfl
  simp only [Try.ntmps19, List.size_toArray, List.length_cons, List.length_nil, Nat.reduceAdd, Nat.reduceSub, Array.replicate_succ, Array.replicate_zero, List.push_toArray, List.append_toArray, List.nil_append, List.cons_append]
  gi_wp2_with (first | (refine ⟨trivial, ?_⟩; gi_at_call 32; refine (callsIn_wide.2 (pipe_way.calls k A0 c0 l0 a1 ps okb _ (Kd.C_alloc HR0.out _) HC0.out HPS.out)).mono ?_; rintro e w2 ⟨v0, rfl, hR, hB⟩; obtain ⟨A, c, rfl, hlc, hC⟩ := Kd.R_reads hR; have HR2 := Aside0.mk hR; have HB2 := Aside0.mk hB; have HC2 := Aside0.mk hC; clear hR hB hC hlc) | (refine ⟨trivial, ?_⟩; gi_at_call 35; refine (backward_mk _ _ _ _ _).mono ?_; rintro e w' ⟨rfl, rfl⟩))
  have hps' : ∀ v ∈ ps, 0 ≤ v ∧ v < (l0.length : Int) := fun v hv => HIN.out v (by simpa using hv)
  obtain ⟨zs, hzs⟩ : ∃ zs : List {v : Int // 0 ≤ v ∧ v < (l0.length : Int) ∨ l0.length = 0}, zs.map (·.1) = ps := ⟨ps.attach.map (fun v => ⟨v.1, .inl (hps' v.1 v.2)⟩), by simp [List.map_map, Function.comp_def]⟩
  have hzl : zs.length = ps.length := by rw [← hzs]; simp
  obtain ⟨W1, hW1⟩ : ∃ W1, (w2.alloc (.cells #[.slice none 0 0] 30)).alloc (.cells #[.slice A ps.length c] 30) = W1 := ⟨_, rfl⟩
  have hs1 : W1.heap.size = w2.heap.size + 2 := by rw [← hW1]; simp
  have hsw : w.heap.size + 1 ≤ w2.heap.size := by have := HB2.out.size; simpa using this
  have hB2w : Below w.heap.size w w2 := below_then (below_alloc (Below.refl _ _) _) (by simp) HB2.out
  have hB21 : Below w2.heap.size w2 W1 := by rw [← hW1]; exact below_alloc (below_alloc (Below.refl _ _) _) _
  have hBw1 : Below w.heap.size w W1 := below_then hB2w hB2w.size hB21
  have hbox : W1.heap[w2.heap.size]? = some (.cells #[.slice none 0 0] 30 (0, 0)) := by rw [← hW1]; exact blk_alloc (blk_new _ _) _
  have hbs : W1.cell? ⟨w2.heap.size + 1, 0, none⟩ = some (.slice A ps.length c) := by
    have := blk_new (w2.alloc (.cells #[.slice none 0 0] 30)) (.cells #[.slice A ps.length c] 30)
    simp only [World.size_alloc] at this
    rw [hW1] at this
    exact (blk_cell this 0).trans rfl
  have hlb : W1.heap[w.heap.size]? = some (.cells #[.slice A0 l0.length c0] 22 (0, 0)) := blk_below (blk_below (blk_new w (.cells #[.slice A0 l0.length c0] 22)) HB2.out) hB21
  have hC1 : Kd.C (Kd.int .i64) W1 A ps.length ps := Kd.C_below HC2.out hB21
  have hAb : ∀ ad, A = some ad → ad.block < w2.heap.size + 2 ∧ ad.block ≠ w2.heap.size := fun ad hA => by
    have := Kd.R_lt HR2.out ad.block (by rw [hA]; rfl)
    omega
  rw [hW1]
  have hstops := backward_stops (8 - 1) (by omega) (w2.heap.size + 1) (w2.heap.size + 2) w2.heap.size A c zs ⟨0, by omega⟩ ⟨by omega, by omega⟩ hAb W1 (by rw [hzl]; exact hbs) (by rw [hzs]; exact hC1)
  refine wpIn_rangeFunc_ownG rfl (by omega) (gf := 39) (lb := #[.pointer (some ⟨w2.heap.size + 1, 0, none⟩)]) rfl trivial (enters_of Try.func39 (by kernel_rfl) rfl) hstops KB.trans
    (fun W l o o' hl hlo hc1 _ => ⟨(grownBy_putObj' W l o').size, fun k_ hk _ => (grownBy_putObj' W l o').block k_ (by have := (Array.getElem?_eq_some_iff.1 hlo).1; omega) (fun e => by cases e; omega)⟩) (Below.refl _ _) (fun _ => rfl)
    (fun pre W => ∃ v, PI w W1 l0 (w2.heap.size + 2) w2.heap.size (pre.map fun x => (rd_T45 l0 x.2.1).f0) W v) (fun _ _ _ => False)
    (fun s X Y row hs hg hr => ?own) (fun _ _ _ _ _ hs _ _ => hs) ?start
    (fun x => { tmps := #[.slice A0 l0.length c0, .int .i64 a1, .pointer (some ⟨w.heap.size, 0, none⟩), undef, .slice none 0 0, .bool false, .slice A ps.length c, .bool okb, .pointer (some ⟨w2.heap.size, 0, none⟩), undef, .int .i64 x.2.1, .tuple #[.slice A ps.length c, .bool okb], .slice A0 l0.length c0, .int .i64 a1, .tuple #[.slice A ps.length c, .bool okb], .slice A ps.length c, .bool okb, .slice A ps.length c, .func (.func 39) #[] #[.pointer (some ⟨w2.heap.size + 1, 0, none⟩)], .int .i64 x.1, .int .i64 x.2.1, undef, undef, undef, undef, undef, undef, undef, undef, undef, undef], defers := [] }) ?assign ?body ?done ?stop
  case own =>
    obtain ⟨v, hv⟩ := hs
    exact ⟨v, hv.own (by omega) (by omega) (by omega) hg (fun r e => by have := hr r e; rw [hs1] at this; exact this)⟩
  case start => exact ⟨_, hbox, Kd.R_nil _ _ _ _ _, KB.refl _ _ _, hBw1⟩
  case assign =>
    intro l x W K hK
    gi_wp2
    exact hK
  case body =>
    rintro l pre x W ⟨v, hv⟩ hlen
    have hx : 0 ≤ x.2.1 ∧ x.2.1 < (l0.length : Int) := by
      rcases x.2.2 with h | h
      · exact h
      · have : ps = [] := by
          cases ps with
          | nil => rfl
          | cons a b => have h1 := hps' a (by simp); omega
        rw [this] at hzl
        simp at hzl
        simp [hzl] at hlen
    have hbo : W.cell? ⟨w2.heap.size, 0, none⟩ = some v := (blk_cell hv.box 0).trans rfl
    have hbl : W.cell? ⟨w.heap.size, 0, none⟩ = some (.slice A0 l0.length c0) := (hv.keep.cell (p := ⟨w.heap.size, 0, none⟩) (by simp; omega) (by simp; omega)).trans ((blk_cell hlb 0).trans rfl)
    obtain ⟨ad1, e1, q0, q1, q2, q3, q4⟩ := at_T45 (Kd.C_below HR0.out hv.bel) x.2.1 hx.1 hx.2
    subst e1
    obtain ⟨hx1, hx2⟩ := hx
    generalize hy : rd_T45 l0 x.2.1 = y at *
    have HY := Aside0.mk hy
    have HV := Aside0.mk hv
    clear q1 q2 q3 q4 hv hy
    gi_wp2
    have HT := path_tab5
    have HSZ' : pre.length < 17592186044416 := by
      have h1 := HSZ.out (by intro e; have : ps = [] := by simpa using e
                             rw [this] at hzl; simp at hzl; simp [hzl] at hlen)
      simp at h1
      omega
    refine startIn_ (m := 9) (S := fun W' => W'.cell? ⟨w2.heap.size, 0, none⟩ = some v ∧ W'.cell? ⟨w.heap.size, 0, none⟩ = some (.slice (some ad1) l0.length c0) ∧ W'.cell? (ad1.add (x.2.1.toNat * 5)) = some (.int .i64 y.f0)) (ds := [7, 8]) #[false, false, false, false, false, false, false, false, false] (by rintro ⟨a_, w_, h_⟩; exact h_) (by kernel_rfl) (by kernel_rfl) rfl rfl ⟨hbo, hbl, q0⟩ (fun hHeld => ?_)
    refine take_ (i := 0) (N := some 21) (v := ?_) (a' := ?_) #[true, false, false, false, false, false, false, false, false] rfl rfl (take_of HT (by kernel_rfl)) (fun _ _ _ h => h) (Or.inl ⟨by rfl, ?_⟩) hHeld ?_ ?_
    rotate_left
    · rintro w' ⟨s0, s1, s2⟩
      go_simp
      with_reducible rfl
    rotate_left
    · simp only [Act.put, List.setIfInBounds_toArray, List.set_cons_zero, List.set_cons_succ]
      rfl
    refine take_ (i := 1) (N := some 22) (v := ?_) (a' := ?_) #[true, true, false, false, false, false, false, false, false] rfl rfl (take_of HT (by kernel_rfl)) (fun _ _ _ h => h) (Or.inl ⟨by rfl, ?_⟩) hHeld ?_ ?_
    rotate_left
    · rintro w' ⟨s0, s1, s2⟩
      go_simp
      with_reducible rfl
    rotate_left
    · simp only [Act.put, List.setIfInBounds_toArray, List.set_cons_zero, List.set_cons_succ]
      rfl
    refine pure_ (i := 2) (N := some 23) (v := ?_) (a' := ?_) #[true, true, true, false, false, false, false, false, false] rfl rfl (any_of HT (by kernel_rfl)) (fun _ _ _ h => h) (Or.inl ⟨by rfl, ?_⟩) ?_ ?_
    rotate_left
    · intro w'
      go_simp
      with_reducible rfl
    rotate_left
    · simp only [Act.put, List.setIfInBounds_toArray, List.set_cons_zero, List.set_cons_succ]
      rfl
    refine pure_ (i := 3) (N := some 24) (v := ?_) (a' := ?_) #[true, true, true, true, false, false, false, false, false] rfl rfl (any_of HT (by kernel_rfl)) (fun _ _ _ h => h) (Or.inl ⟨by rfl, ?_⟩) ?_ ?_
    rotate_left
    · intro w'
      go_simp
      with_reducible rfl
    rotate_left
    · simp only [Act.put, List.setIfInBounds_toArray, List.set_cons_zero, List.set_cons_succ]
      rfl
    refine pure_ (i := 4) (N := some 25) (v := ?_) (a' := ?_) #[true, true, true, true, true, false, false, false, false] rfl rfl (any_of HT (by kernel_rfl)) (fun _ _ _ h => h) (Or.inl ⟨by rfl, ?_⟩) ?_ ?_
    rotate_left
    · intro w'
      go_simp
      with_reducible rfl
    rotate_left
    · simp only [Act.put, List.setIfInBounds_toArray, List.set_cons_zero, List.set_cons_succ]
      rfl
    refine take_ (i := 5) (N := some 26) (v := ?_) (a' := ?_) #[true, true, true, true, true, true, false, false, false] rfl rfl (take_of HT (by kernel_rfl)) (fun _ _ _ h => h) (Or.inl ⟨by rfl, ?_⟩) hHeld ?_ ?_
    rotate_left
    · rintro w' ⟨s0, s1, s2⟩
      go_simp
      with_reducible rfl
    rotate_left
    · simp only [Act.put, List.setIfInBounds_toArray, List.set_cons_zero, List.set_cons_succ]
      rfl
    refine one_ (i := 6) (N := some 27) #[true, true, true, true, true, true, true, false, false] rfl rfl (one_of HT (by kernel_rfl)) (by decide) (fun K hK => ?_)
    refine value_ (v := .slice (some ⟨W.heap.size, 0, none⟩) 1 1) (w1 := (W.drew).alloc (.cells #[.int .i64 y.f0] 3)) (by rfl) rfl ?_ ?_
    · go_simp
    refine hK.out _ _ ⟨(pw_cell_below (below_alloc (Below.refl _ _) _) hHeld.1), (pw_cell_below (below_alloc (Below.refl _ _) _) hHeld.2.1), (pw_cell_below (below_alloc (Below.refl _ _) _) hHeld.2.2)⟩ (fun hHeld2 => ?_)
    clear hK K
    refine norm_ (a' := ?_) ?_ ?_
    rotate_left
    · simp only [Act.put, List.setIfInBounds_toArray, List.set_cons_zero, List.set_cons_succ]
      rfl
    refine last_ (i := 7) (N := some 28) #[true, true, true, true, true, true, true, true, false] rfl rfl (one_of HT (by kernel_rfl)) (by decide) (fun K hK => ?_)
    refine Kd.R_append_step (Kd.int .i64) (w0 := W.drew) (W := W.drew) (w2.heap.size + 2) (by rfl) (.tmp 21) (.tmp 27) 30 3 (.int .i64 0) 8 rfl Try.underlying30 info3 rfl (by decide) (by omega) v (pre.map fun x => (rd_T45 l0 x.2.1).f0) y.f0 [.int .i64 y.f0] (fun _ => True) (fun _ => False) rfl rfl rfl (fun _ hk => hk.elim) (fun _ _ => trivial) (Kd.R_drew HV.out.row) (Below.refl _ _) (by have := HV.out.keep.1; rw [hs1] at this; exact this) (by have := HSZ'; simp; omega) ?_
    intro v1 w3 ho hb hg hat
    refine hK.out _ _ ?_
    clear hK K
    obtain ⟨g1, cap1, rfl⟩ := path_open ho
    have hne : some w2.heap.size ≠ v.ownBlock := fun e => by
      obtain ⟨inner, ho'⟩ := Kd.R_own HV.out.row
      have := own_base ho' w2.heap.size e.symm
      omega
    have hbo3 : w3.heap[w2.heap.size]? = some (.cells #[v] 30 (0, 0)) := blk_grown (blk_drew HV.out.box) hg hne
    have hc3 : w3.cell? ⟨w2.heap.size, 0, none⟩ = some v := (blk_cell hbo3 0).trans rfl
    have hf3 : w3.frozen? ⟨w2.heap.size, 0, none⟩ = false := blk_frozen hbo3 0
    refine norm_ (a' := ?_) ?_ ?_
    rotate_left
    · simp only [Act.put, List.setIfInBounds_toArray, List.set_cons_zero, List.set_cons_succ]
      rfl
    refine last_ (i := 8) (N := none) #[true, true, true, true, true, true, true, true, true] rfl rfl (one_of HT (by kernel_rfl)) (by decide) (fun K hK => ?_)
    refine skip_ (w1 := w3.setCell ⟨w2.heap.size, 0, none⟩ (.slice (some ⟨g1, 0, none⟩) ((pre.map fun x => (rd_T45 l0 x.2.1).f0).length + 1) cap1)) (by rfl) rfl ?_ ?_
    · go_simp
    refine hK.out _ _ ?_
    clear hK K
    refine done_ (done_of HT (by kernel_rfl)) ?_
    have hne2 : g1 ≠ w2.heap.size := fun e => by
      obtain ⟨inner, ho'⟩ := Kd.R_own ho
      have := own_base ho' g1 rfl
      omega
    have hb' : Below (w2.heap.size + 2) W w3 := ⟨hb.os, hb.tape, hb.output, hb.size, hb.block⟩
    have hKB : KB (w2.heap.size + 2) w2.heap.size W w3 := KB.below hb'
    have hsz2 : w2.heap.size + 2 ≤ W.heap.size := by have := HV.out.keep.1; rw [hs1] at this; exact this
    refine ⟨⟨?_, ?_⟩, hKB.setCell 0 _, .slice (some ⟨g1, 0, none⟩) ((pre.map fun x => (rd_T45 l0 x.2.1).f0).length + 1) cap1, ⟨?_, ?_, HV.out.keep.trans (hKB.setCell 0 _), ?_⟩⟩
    · simpa [World.setCell] using hb.size
    · intro j o hj ho2 hnc
      rw [hs1] at hj
      refine (Below.heap_setCell w3 _ _ j (by show j ≠ w2.heap.size; omega)).trans ((hg.block j (Array.getElem?_eq_some_iff.1 ho2).1 (fun e => ?_)).trans ho2)
      obtain ⟨inner, ho'⟩ := Kd.R_own HV.out.row
      obtain ⟨cells, hcs⟩ := own_typed ho' j e.symm
      rw [hcs] at ho2
      injection ho2 with ho2
      subst ho2
      simp [Obj.isCells] at hnc
    · exact blk_set hbo3 0 _
    · rw [List.map_append, List.map_cons, List.map_nil, HY.out]
      exact Kd.R_mono (Kd.R_far (p := ⟨w2.heap.size, 0, none⟩) (Kd.R_bound ho) (fun k_ hk => by have := hk.2.1; show k_ ≠ w2.heap.size; omega) _) (fun _ _ => trivial)
    · exact ((HV.out.bel.trans (hb'.mono (by omega))).setCell (p := ⟨w2.heap.size, 0, none⟩) (by show w.heap.size ≤ w2.heap.size; omega) _)
  case done =>
    rintro D ys W hD rfl ⟨v, hv⟩ hK
    have hb := (blk_cell hv.box 0).trans rfl
    gi_wp2
    have hP := hv.own (by omega) (by omega) (by omega) (grownBy_putObj' W D (.deferred none)) (fun r e => by cases e; exact ⟨by omega, _, hK, rfl⟩)
    refine ⟨by simp, .inl ⟨_, _, rfl, run_takeDeferred hK, ?_⟩⟩
    refine ⟨.tuple #[v, .bool okb], by simp [results, Try.results19, go_sem], v, rfl, ?_, hP.bel⟩
    have e : out = (bk zs ⟨0, by omega⟩ zs.length).map (fun x => (rd_T45 l0 x.2.1).f0) := by
      rw [HR.out, bk_rev zs ⟨0, by omega⟩ (fun (v : {v : Int // 0 ≤ v ∧ v < (l0.length : Int) ∨ l0.length = 0}) => (rd_T45 l0 v.1).f0), ← hzs]
      simp
    rw [e]
    exact Kd.R_lower hP.row (by omega)
  case stop =>
    rintro D c pre W _ _ h _
    exact h.elim

end
theorem pipe_Path.mono : ∀ a0 a1 k, LeO (pipe_Path.f k a0 a1) (pipe_Path.f (k + 1) a0 a1) := by
  intro a0 a1 k
  unfold pipe_Path.f
  exact LeO.bind (pipe_way.mono _ _ _) (fun _ => LeO.refl _)

end Go.Proofs.Ytfmafpplnpiahaa.P
