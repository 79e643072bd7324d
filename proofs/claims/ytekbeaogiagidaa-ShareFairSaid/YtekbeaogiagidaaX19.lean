-- written by xprint.py, an own overlay over the kit's print; not trusted: Lean checks it
import Derived.Test.YtekbeaogiagidaaX0
import Derived.Test.YtekbeaogiagidaaX1
import Derived.Test.YtekbeaogiagidaaX2
import Derived.Test.YtekbeaogiagidaaX3
namespace Go.Proofs.Ytekbeaogiagidaa.X
open Go.RowKit Go.Proofs.YtekbeaogiagidaaW.PrintWords Go.Proofs.YtekbeaogiagidaaW.PrintLast Go.Proofs.YtekbeaogiagidaaW.PrintMore
attribute [local go_sem] max2_int min2_int max_two min_two max_three min_three max_four min_four   -- for this text's walks alone
set_option linter.unusedVariables false
set_option linter.unusedSimpArgs false

/-! ### share_Stages: function 13 -/
/-! #### Stages, told plainly -/
def share_Stages.upto {α : Type} (f : Nat → α) (k : Nat) : List α := (List.range k).map f
theorem share_Stages.upto_succ {α : Type} (f : Nat → α) (k : Nat) : share_Stages.upto f (k + 1) = share_Stages.upto f k ++ [f k] := by simp [share_Stages.upto, List.range_succ]
theorem share_Stages.upto_length {α : Type} (f : Nat → α) (k : Nat) : (share_Stages.upto f k).length = k := by simp [share_Stages.upto]
/-- What has been given out, and what the last stage was. -/
def share_Stages.st (l : List Int) : List Int × Int := l.foldl (fun s x => (s.1 ++ [wrap64 (x - s.2)], x)) ([], 0)
theorem share_Stages.st_snoc (l : List Int) (x : Int) : share_Stages.st (l ++ [x]) = ((share_Stages.st l).1 ++ [wrap64 (x - (share_Stages.st l).2)], x) := by unfold share_Stages.st; rw [List.foldl_append]; rfl
theorem share_Stages.st_length (l : List Int) : (share_Stages.st l).1.length = l.length := by
  suffices h : ∀ (l : List Int) s, (l.foldl (fun (s : List Int × Int) x => (s.1 ++ [wrap64 (x - s.2)], x)) s).1.length = s.1.length + l.length by
    have := h l ([], 0); simp at this; exact this
  intro l
  induction l with
  | nil => intro s; simp
  | cons x l ih => intro s; rw [List.foldl_cons, ih]; simp; omega
/-- What is given out after the stage k. -/
def share_Stages.q (T n : Int) (k : Nat) : Int := T * ((k + 1 : Nat) : Int) / n
def share_Stages.res (a0 a1 : Int) : List Int × Int := if 0 ≤ a0 ∧ a0 ≤ 1099511627776 ∧ 1 ≤ a1 ∧ a1 ≤ 512 then ((share_Stages.st (share_Stages.upto (share_Stages.q a0 a1) a1.toNat)).1, 0) else ([], 1)
def share_Stages.f (a0 a1 : Int) : Option (List Int × Int) := some (share_Stages.res a0 a1)
theorem share_Stages.floor_f (a b : Int) (h0 : 0 < b) (h1 : b ≤ 8192) (h2 : 0 ≤ a) (h3 : a ≤ 1125899906842624) : num_Floor.f 5 a b = some (a / b, a % b, 0) := by
  have e1 : Int.tdiv a b = a / b := Int.tdiv_eq_ediv_of_nonneg h2
  have e2 : Int.tmod a b = a % b := Int.tmod_eq_emod_of_nonneg h2
  have q0 : 0 ≤ a / b := Int.ediv_nonneg h2 (by omega)
  have q1 : a / b ≤ a := Int.ediv_le_self _ h2
  have r0 : 0 ≤ a % b := Int.emod_nonneg _ (by omega)
  have hs : num_small.f 5 [a, b] = some true := by
    unfold num_small.f
    rw [show (([a, b] : List Int).length : Int) = 2 from rfl]
    have w1 : wrap64 (0 + 1) = 1 := by unfold wrap64; omega
    have w2 : wrap64 (1 + 1) = 2 := by unfold wrap64; omega
    have d0 : rd [a, b] 0 = a := rfl
    have d1 : rd [a, b] 1 = b := rfl
    simp only [num_small.l0, List.length_cons, List.length_nil, d0, d1, w1, w2]
    rw [if_pos (by omega), if_pos (by omega), if_pos (by omega), if_neg (by omega), if_neg (by omega), if_pos (by omega), if_pos (by omega), if_pos (by omega), if_neg (by omega), if_neg (by omega), if_neg (by omega)]
  have hd : num_divide.f a b = some (a / b, a % b) := by
    unfold num_divide.f
    rw [if_neg (by omega), e1, e2, if_neg (by omega), show wrap64 (a / b) = a / b by unfold wrap64; omega]
  unfold num_Floor.f
  rw [hs, Option.bind_some, if_pos rfl, if_neg (by omega), if_neg (by omega), hd, Option.bind_some]
theorem share_Stages.wrap_self (M : Int) (h0 : 0 ≤ M) (h1 : M ≤ 1125899906842624) : wrap64 M = M := by unfold wrap64; omega
section
attribute [local go_sem] Oper.semAt_some
set_option maxHeartbeats 4000000 in
set_option maxRecDepth 100000 in
/-- The iterator: each stage, till a round says no. -/
theorem share_Stages.stages1_in (Kp : World → World → Prop) (hKr : ∀ A, Kp A A) (hKt : ∀ {A B C : World}, Kp A B → Kp B C → Kp A C) (hKb : ∀ A B : World, Below A.heap.size A B → Kp A B) (n : Nat) (l Bn Bt : Nat) (T : Int) (N : Nat) (hT0 : 0 ≤ T) (hT1 : T ≤ 1099511627776) (hN0 : 1 ≤ N) (hN1 : N ≤ 512)
    (hKn : ∀ A B : World, Kp A B → ∀ v, A.cell? ⟨Bn, 0, none⟩ = some v → B.cell? ⟨Bn, 0, none⟩ = some v) (hKc : ∀ A B : World, Kp A B → ∀ v, A.cell? ⟨Bt, 0, none⟩ = some v → B.cell? ⟨Bt, 0, none⟩ = some v) (J Jx : List Int → World → Prop)
    (hY : ∀ pre x W, J pre W → pre.length < N → YieldAt Fence.wide (n - 1) Try.prog l #[.int .i64 x] W fun e W' =>
      (e = .returned (.bool true) ∧ J (pre ++ [x]) W' ∧ Kp W W') ∨ (e = .returned (.bool false) ∧ Jx (pre ++ [x]) W'))
    (W : World) (hJ : AbidesFrom W.heap.size J) (hBn : W.cell? ⟨Bn, 0, none⟩ = some (.int .i64 (N : Int))) (hBt : W.cell? ⟨Bt, 0, none⟩ = some (.int .i64 T)) (h0 : J [] W) :
    CallsIn Fence.wide n Try.prog 33 #[.func (.yield l) #[] #[], .pointer (some ⟨Bn, 0, none⟩), .pointer (some ⟨Bt, 0, none⟩)] W fun e W' => (∃ v, e = .returned v) ∧
      ((∃ ys, ys = share_Stages.upto (share_Stages.q T N) N ∧ J ys W') ∨ (∃ pre, (∃ k, k ≤ N ∧ pre = share_Stages.upto (share_Stages.q T N) k) ∧ Jx pre W')) := by
  refine callsIn_of_wp Try.func33 rfl trivial ?_ rfl
  simp only [Try.ntmps33, List.size_toArray, List.length_cons, List.length_nil, Nat.reduceAdd, Nat.reduceSub, Array.replicate_succ, Array.replicate_zero, List.push_toArray, List.append_toArray, List.nil_append, List.cons_append]
  have hfn : Fence.wide.fn 34 := trivial
  gi_wp2
  gi_loopw [9] (fun i wr => ∃ k : Nat, i = .int .i64 ((k : Nat) : Int) ∧ k ≤ N ∧ J (share_Stages.upto (share_Stages.q T N) k) wr ∧ Kp W wr)
    (fun i _ => N - (intOf i).toNat)
  case atStart => exact ⟨0, rfl, Nat.zero_le _, h0, hKr _⟩
  case round =>
    obtain ⟨k, rfl, hk, hJs, hnx⟩ := hrel
    have cn := hKn _ _ hnx _ hBn
    have ct := hKc _ _ hnx _ hBt
    by_cases hlt : k < N
    · obtain ⟨j, hj⟩ : ∃ j : Nat, k + 1 = j := ⟨_, rfl⟩
      obtain ⟨M, hM⟩ : ∃ M, T * (j : Int) = M := ⟨_, rfl⟩
      have hM0 : 0 ≤ M := hM ▸ Int.mul_nonneg hT0 (by omega)
      have hM1 : M ≤ 1099511627776 * 512 := hM ▸ Int.mul_le_mul hT1 (by omega) (by omega) (by omega)
      have hq : share_Stages.q T N k = M / (N : Int) := by unfold share_Stages.q; rw [hj, hM]
      have hfl := share_Stages.floor_f M N (by omega) (by omega) hM0 (by omega)
      have wk : IntKind.i64.wrap ((k : Int) + 1) = (j : Int) := by rw [i64_w]; unfold wrap64; omega
      have wk2 : wrap64 ((k : Int) + 1) = (j : Int) := by unfold wrap64; omega
      have wm2 : wrap64 (T * (j : Int)) = M := (congrArg wrap64 hM).trans (share_Stages.wrap_self M hM0 (by omega))
      have wm : IntKind.i64.wrap (T * (j : Int)) = M := (i64_w _).trans wm2
      have hltz : (k : Int) < (N : Int) := by omega
      have HJ := Aside0.mk hj
      have HL := Aside0.mk hlt
      have HQ := Aside0.mk hq
      clear hM hM0 hM1 hj hq hlt
      gi_wp2
      refine ⟨fun hd => absurd hd (by simp [Fence.wide]), (callsIn_wide.2 (num_Floor.calls 5 _ _ _ _ 0 _ hfl)).mono ?_⟩
      rintro e W1 ⟨rfl, hb⟩
      have hJ1 : J (share_Stages.upto (share_Stages.q T N) k) W1 := hJ _ _ _ none hJs (grown_of_below hb none) (fun r e => by cases e)
      have hK1 := hKb _ _ hb
      obtain ⟨fn, tmps, assign, body, hy, hR⟩ := hY _ (share_Stages.q T N k) W1 hJ1 (by rw [share_Stages.upto_length]; exact HL.out)
      rw [HQ.out] at hy
      have hR2 : RoundIn Fence.wide (n - 1) Try.prog l fn tmps assign body W1 fun e W' => ∃ b, e = .returned (.bool b) ∧ ((b = true ∧ J (share_Stages.upto (share_Stages.q T N) k ++ [share_Stages.q T N k]) W' ∧ Kp W1 W') ∨ (b = false ∧ Jx (share_Stages.upto (share_Stages.q T N) k ++ [share_Stages.q T N k]) W')) := hR.mono (fun e W' h => by
        rcases h with ⟨rfl, h⟩ | ⟨rfl, h⟩
        · exact ⟨true, rfl, .inl ⟨rfl, h⟩⟩
        · exact ⟨false, rfl, .inr ⟨rfl, h⟩⟩)
      clear hR hb cn ct hfl
      gi_wp2
      refine ⟨fun hd => absurd hd (by simp [Fence.wide]), hR2.mono ?_⟩
      rintro e W3 ⟨b, rfl, ⟨rfl, hJ3, hk3⟩ | ⟨rfl, hJx3⟩⟩
      · gi_wp2
        go_roundw
        case rel => exact ⟨k + 1, congrArg (Value.int .i64) (by have := HJ.out; omega), HL.out, by rw [share_Stages.upto_succ]; exact hJ3, hKt hnx (hKt hK1 hk3)⟩
        case measure => have := HL.out; have := HJ.out; simp [intOf]; omega
      · gi_wp2
        refine bodyPost_ret (results_none rfl _ _ _) rfl ?_
        exact ⟨⟨_, rfl⟩, .inr ⟨_, ⟨k + 1, HL.out, (share_Stages.upto_succ _ _).symm⟩, hJx3⟩⟩
    · obtain rfl : k = N := by omega
      clear hlt
      gi_wp2
      go_end0
      exact ⟨⟨_, rfl⟩, .inl ⟨_, rfl, hJs⟩⟩
def share_Stages.kp (Bn Bt : Nat) (A B : World) : Prop := (∀ o, A.heap[Bn]? = some o → B.heap[Bn]? = some o) ∧ ∀ o, A.heap[Bt]? = some o → B.heap[Bt]? = some o
theorem share_Stages.kp_t {Bn Bt : Nat} {A B C : World} (h : share_Stages.kp Bn Bt A B) (k : share_Stages.kp Bn Bt B C) : share_Stages.kp Bn Bt A C := ⟨fun o ho => k.1 o (h.1 o ho), fun o ho => k.2 o (h.2 o ho)⟩
theorem share_Stages.kp_c {Bn Bt : Nat} (A B : World) (h : share_Stages.kp Bn Bt A B) : (∀ v, A.cell? ⟨Bn, 0, none⟩ = some v → B.cell? ⟨Bn, 0, none⟩ = some v) ∧ ∀ v, A.cell? ⟨Bt, 0, none⟩ = some v → B.cell? ⟨Bt, 0, none⟩ = some v :=
  ⟨fun v hv => by obtain ⟨o, ho, _⟩ := cells_of_cell hv; exact (World.cell?_of_block ((h.1 o ho).trans ho.symm)).trans hv, fun v hv => by obtain ⟨o, ho, _⟩ := cells_of_cell hv; exact (World.cell?_of_block ((h.2 o ho).trans ho.symm)).trans hv⟩
theorem share_Stages.kp_bel {Bn Bt : Nat} (A B : World) (h : Below A.heap.size A B) : share_Stages.kp Bn Bt A B :=
  ⟨fun o ho => (h.block _ (Array.getElem?_eq_some_iff.1 ho).1).trans ho, fun o ho => (h.block _ (Array.getElem?_eq_some_iff.1 ho).1).trans ho⟩
theorem share_Stages.kp_b {Bn Bt : Nat} {w : World} (hn : Bn < w.heap.size) (hb : Bt < w.heap.size) (W : World) (l : Nat) (o o' : Obj) (hl : w.heap.size ≤ l) (h : W.heap[l]? = some o) (hc : o.isCells = false) (hw : o.isWalk = false) : share_Stages.kp Bn Bt W (W.putObj l o') :=
  ⟨fun q hq => (World.putObj_heap_other (by omega)).trans hq, fun q hq => (World.putObj_heap_other (by omega)).trans hq⟩
/-- What the iterator gives. -/
theorem share_Stages.stops (n Bn Bt : Nat) (T : Int) (N : Nat) (hT0 : 0 ≤ T) (hT1 : T ≤ 1099511627776) (hN0 : 1 ≤ N) (hN1 : N ≤ 512) (w : World) (hn : Bn < w.heap.size) (ht : Bt < w.heap.size) (cn : w.cell? ⟨Bn, 0, none⟩ = some (.int .i64 (N : Int))) (ct : w.cell? ⟨Bt, 0, none⟩ = some (.int .i64 T)) :
    SeqStopsK Fence.wide n Try.prog 33 #[.pointer (some ⟨Bn, 0, none⟩), .pointer (some ⟨Bt, 0, none⟩)] (fun x : Int => #[.int .i64 x]) (share_Stages.kp Bn Bt) (fun ys => ys = share_Stages.upto (share_Stages.q T N) N) (fun pre => ∃ k, k ≤ N ∧ pre = share_Stages.upto (share_Stages.q T N) k) N w := fun l J Jx W hW hJ _ hY h0 => by
  exact share_Stages.stages1_in (share_Stages.kp Bn Bt) (fun A => ⟨fun _ h => h, fun _ h => h⟩) share_Stages.kp_t share_Stages.kp_bel n l Bn Bt T N hT0 hT1 hN0 hN1 (fun A B h => (share_Stages.kp_c A B h).1) (fun A B h => (share_Stages.kp_c A B h).2) J Jx hY W hJ ((hW.cell (p := ⟨Bn, 0, none⟩) hn).trans cn) ((hW.cell (p := ⟨Bt, 0, none⟩) ht).trans ct) h0
end
set_option maxHeartbeats 4000000 in
theorem share_Stages.stages_calls (a0 a1 : Int) (w : World) :
    Calls Try.prog 25 #[.int .i64 a0, .int .i64 a1] w fun e w' => e = .returned (.func (.func 33) #[] #[.pointer (some ⟨w.heap.size + 1, 0, none⟩), .pointer (some ⟨w.heap.size, 0, none⟩)]) ∧ w' = (w.alloc (.cells #[.int .i64 a0] 3)).alloc (.cells #[.int .i64 a1] 3) := by
  have hmf : ∀ (fn : Fn) (first cap : Array Value) (w : World), (Instr.makeFunc fn first cap).run Try.prog w = .ok (.func fn first cap) w := fun _ _ _ _ => rfl
  go_enter Try.func25, Try.ntmps25
  go_wp2
  go_ret
  exact ⟨rfl, rfl⟩
theorem share_Stages.size_alloc (v : World) (o : Obj) : (v.alloc o).heap.size = v.heap.size + 1 := by show (v.heap.push o).size = _; simp
theorem share_Stages.ownBox {β : Type} (B g : Nat) (t : TypeId) (cs : β → Array Value) : OwnFrom B (fun (s : β) W => W.heap[g]? = some (.cells (cs s) t (0, 0))) := fun _ _ _ _ h hg hr => (grownBy_keeps_cells hg (fun r e => (hr r e).2) h rfl).trans h
theorem share_Stages.start {w : World} {b : Nat} (hb : w.heap.size = b) (x y z u : Value) : ∃ w5, w5 = (((w.alloc (.cells #[x] 22)).alloc (.cells #[y] 3)).alloc (.cells #[z] 3)).alloc (.cells #[u] 3) ∧ w5.heap.size = b + 1 + 1 + 1 + 1 ∧ Below b w w5 ∧
    w5.heap[b]? = some (.cells #[x] 22 (0, 0)) ∧ w5.heap[b + 1]? = some (.cells #[y] 3 (0, 0)) ∧ w5.heap[b + 1 + 1]? = some (.cells #[z] 3 (0, 0)) ∧ w5.heap[b + 1 + 1 + 1]? = some (.cells #[u] 3 (0, 0)) := by
  subst hb
  have s1 : ∀ (v : World) (o : Obj), (v.alloc o).heap.size = v.heap.size + 1 := fun v o => by show (v.heap.push o).size = _; simp
  refine ⟨_, rfl, by rw [s1, s1, s1, s1], ?_, ?_, ?_, ?_, ?_⟩
  · exact ((((Below.refl _ w).alloc (Nat.le_refl _) _).alloc (by rw [s1]; omega) _).alloc (by rw [s1, s1]; omega) _).alloc (by rw [s1, s1, s1]; omega) _
  · exact blk_alloc (blk_alloc (blk_alloc (blk_new w _) _) _) _
  · have h := blk_new (w.alloc (.cells #[x] 22)) (.cells #[y] 3)
    rw [s1] at h
    exact blk_alloc (blk_alloc h _) _
  · have h := blk_new ((w.alloc (.cells #[x] 22)).alloc (.cells #[y] 3)) (.cells #[z] 3)
    rw [s1, s1] at h
    exact blk_alloc h _
  · have h := blk_new (((w.alloc (.cells #[x] 22)).alloc (.cells #[y] 3)).alloc (.cells #[z] 3)) (.cells #[u] 3)
    rw [s1, s1, s1] at h
    exact h
theorem share_Stages.heap_set {w : World} {g t : Nat} {cur : Array Value} (h : w.heap[g]? = some (.cells cur t (0, 0))) (j : Nat) (v : Value) : (w.setCell ⟨g, j, none⟩ v).heap[g]? = some (.cells (cur.setIfInBounds j v) t (0, 0)) := by
  obtain ⟨hlt, hk⟩ := Array.getElem?_eq_some_iff.1 h
  show (w.heap.modify g _)[g]? = _
  rw [Array.getElem?_eq_getElem (by rw [Array.size_modify]; exact hlt), Array.getElem_modify_self, hk]
  rfl
theorem share_Stages.new1 (W : World) (a : Value) (t : TypeId) (g : Nat) (hg : g = W.heap.size) : ∀ j u, [a][j]? = some u → (W.alloc (.cells #[a] t)).cell? ((⟨g, 0, none⟩ : Addr).add j) = some u := by
  subst hg
  intro j u h
  match j, h with
  | 0, h => exact (blk_cell (blk_new W (.cells #[a] t)) 0).trans h
  | j + 1, h => simp at h
theorem share_Stages.bel_put {W : World} {b D : Nat} {o o' : Obj} (hD : b ≤ D) (h : W.heap[D]? = some o) : Below b W (W.putObj D o') :=
  (Below.refl b W).grown (grownBy_putObj' W D o') (by have := (Array.getElem?_eq_some_iff.1 h).1; omega) (fun k e => by cases e; omega)
/-- Behind 'out = append(out, ..)': all that the walk owes. -/
theorem share_Stages.appended {W w1 : World} {n0 B0 gO k m : Nat} {v v' : Value} {xs ys : List Value} {tmp : Obj} (hv : Boxed W gO 22 v) (hrow : W.ownsRow B0 3 1 v k xs) (hB0 : B0 ≤ W.heap.size) (hn : n0 ≤ gO) (hO : gO < B0)
    (hown' : w1.ownsRow B0 3 1 v' m ys) (hgrow : (W.alloc tmp).grownBy w1 v.ownBlock) :
    Boxed w1 gO 22 v ∧ Boxed (w1.setCell ⟨gO, 0, none⟩ v') gO 22 v' ∧ (w1.setCell ⟨gO, 0, none⟩ v').ownsRow B0 3 1 v' m ys ∧ KeepsOthers W (w1.setCell ⟨gO, 0, none⟩ v') ∧ Below n0 W (w1.setCell ⟨gO, 0, none⟩ v') ∧ ∀ g, g < B0 → g ≠ gO → (w1.setCell ⟨gO, 0, none⟩ v').heap[g]? = W.heap[g]? := by
  have hob : ∀ j, v.ownBlock = some j → B0 ≤ j := fun j ej => own_base hrow j ej
  have hv1 : Boxed w1 gO 22 v := (hv.alloc tmp).kept hgrow (fun e => by have := hob _ e.symm; omega)
  refine ⟨hv1, hv1.set v', ownsRow_setCell_below hown' (a := ⟨gO, 0, none⟩) hO v', ?_, ?_, ?_⟩
  · refine ((KeepsOthers.alloc W tmp).trans (KeepsOthers.of_grownBy hgrow fun j o ej hj => ?_)).trans (KeepsOthers.setCell _ _ _)
    rcases (hrow.alloc tmp).2 with ⟨rfl, _⟩ | ⟨g, cap, cur, rfl, _, hgb, _⟩
    · simp [Value.ownBlock] at ej
    · obtain rfl : g = j := by simpa [Value.ownBlock] using ej
      rw [hgb] at hj; cases hj; rfl
  · exact (((Below.refl n0 W).alloc (by omega) tmp).grown hgrow (by have := share_Stages.size_alloc W tmp; omega) fun j ej => by have := hob _ ej; omega).setCell (p := ⟨gO, 0, none⟩) hn v'
  · intro g hg hne
    refine (Below.heap_setCell w1 ⟨gO, 0, none⟩ v' g hne).trans ((hgrow.block g (by have := share_Stages.size_alloc W tmp; omega) (fun e => by have := hob _ e.symm; omega)).trans (Below.heap_alloc W tmp g (by omega)))
section
attribute [local go_sem] Oper.semAt_some
set_option maxHeartbeats 8000000 in
set_option maxRecDepth 100000 in
theorem share_Stages.walk_ok (T : Int) (N : Nat) (w : World) (hT0 : 0 ≤ T) (hT1 : T ≤ 1099511627776) (hN0 : 1 ≤ N) (hN1 : N ≤ 512) :
    Calls Try.prog 13 #[.int .i64 T, .int .i64 (N : Int)] w fun e w' => ∃ v0_, e = .returned (.tuple #[v0_, .int .i64 0]) ∧ Kd.R (Kd.int .i64) 3 w' w.heap.size (fun _ => True) v0_ (share_Stages.st (share_Stages.upto (share_Stages.q T N) N)).1 ∧ Below w.heap.size w w' := by
  have HB := Aside0.mk (Below.refl w.heap.size w)
  have b0 : ¬ T < 0 := by omega
  have b1 : ¬ 1099511627776 < T := by omega
  have b2 : ¬ (N : Int) < 1 := by omega
  have b3 : ¬ 512 < (N : Int) := by omega
  have d0 : decide (T < 0) = false := decide_eq_false b0
  have d1 : decide (T > 1099511627776) = false := decide_eq_false b1
  have d2 : decide ((N : Int) < 1) = false := decide_eq_false b2
  have d3 : decide ((N : Int) > 512) = false := decide_eq_false b3
  have d1' : decide (1099511627776 < T) = false := decide_eq_false b1
  have d3' : decide (512 < (N : Int)) = false := decide_eq_false b3
  have HT := Aside0.mk (And.intro hT0 hT1)
  have HN := Aside0.mk (And.intro hN0 hN1)
  clear b0 b1 b2 b3
  obtain ⟨i0, hi, hzz⟩ := Option.map_eq_some_iff.1 (show (Try.prog.info? 3).map (fun i => (i.zero, i.size, i.bytes)) = some (some (.int .i64 0), 1, 8) from rfl)
  simp only [Prod.mk.injEq] at hzz
  obtain ⟨hz0, hz1, hz2⟩ := hzz
  clear hT0 hT1 hN0 hN1
  have HI := Aside0.mk (And.intro hi (And.intro hz0 (And.intro hz1 hz2)))
  clear hi hz0 hz1 hz2
  refine (callsIn_wide (n := 9)).1 (callsIn_of_wp_marks Try.func13 rfl trivial ?_ rfl)
  refine wpIn_wide.2 ?_
  simp only [Try.ntmps13, List.size_toArray, List.length_cons, List.length_nil, Nat.reduceAdd, Nat.reduceSub, Array.replicate_succ, Array.replicate_zero, List.push_toArray, List.append_toArray, List.nil_append, List.cons_append]
  go_wp2_with (go_at_call 25; refine (share_Stages.stages_calls _ _ _).mono ?_; rintro e w' ⟨rfl, rfl⟩)
  obtain ⟨b, hb⟩ : ∃ b, w.heap.size = b := ⟨_, rfl⟩
  obtain ⟨w5, hw5, hs, hB, x0, x1, x2, x3⟩ := share_Stages.start hb (.slice none 0 0) (.int .i64 0) (.int .i64 T) (.int .i64 (N : Int))
  rw [hb, ← hw5]
  have hE : w.heap.size = b := hb
  have HE := Aside0.mk hE
  have HB5 := Aside0.mk hB
  clear hw5 hb hE
  have hO5 : b < w5.heap.size := by omega
  have cn : w5.cell? ⟨b + 1 + 1 + 1, 0, none⟩ = some (.int .i64 (N : Int)) := (blk_cell x3 0).trans rfl
  have ct : w5.cell? ⟨b + 1 + 1, 0, none⟩ = some (.int .i64 T) := (blk_cell x2 0).trans rfl
  refine (wpIn_wide (n := 9)).1 ?_
  refine wpIn_rangeFunc_ownH rfl (by omega) (gf := 33) (lb := #[.pointer (some ⟨b + 1 + 1 + 1, 0, none⟩), .pointer (some ⟨b + 1 + 1, 0, none⟩)]) rfl trivial (Go.Proofs.enters_of Try.func33 (by kernel_rfl) rfl)
    (share_Stages.stops 8 (b + 1 + 1 + 1) (b + 1 + 1) T N HT.out.1 HT.out.2 HN.out.1 HN.out.2 w5 (by omega) (by omega) cn ct)
    share_Stages.kp_t (share_Stages.kp_b (by omega) (by omega)) (Below.refl _ _) (fun _ => rfl)
    (fun pre W => (W.heap[b + 1]? = some (.cells #[.int .i64 (share_Stages.st pre).2] 3 (0, 0)) ∧ (W.heap[b + 1 + 1]? = some (.cells #[.int .i64 T] 3 (0, 0)) ∧ W.heap[b + 1 + 1 + 1]? = some (.cells #[.int .i64 (N : Int)] 3 (0, 0)))) ∧
      (∃ v, Boxed W b 22 v ∧ W.ownsRow w5.heap.size 3 1 v (share_Stages.st pre).1.length (encs (Value.int .i64) (share_Stages.st pre).1) ∧ True) ∧ Below b w5 W)
    (fun _ _ _ => False)
    (OwnFrom.and (OwnFrom.and (share_Stages.ownBox _ _ _ (fun pre => #[.int .i64 (share_Stages.st pre).2])) (OwnFrom.and (share_Stages.ownBox _ _ _ (fun _ => _)) (share_Stages.ownBox _ _ _ (fun _ => _)))) (OwnFrom.and (Own.from (holdsRow_own w5.heap.size b 22 3 1 (fun pre => (share_Stages.st pre).1.length) (fun pre => encs (Value.int .i64) (share_Stages.st pre).1) (fun _ _ => True)) _) (ownFrom_below (by omega) (by omega))))
    (fun c => fun _ _ _ _ h _ _ => h)
    ⟨⟨x1, x2, x3⟩, ⟨_, x0, World.ownsRow_nil _ _ _ _, trivial⟩, Below.refl _ _⟩
    (fun q a' W => a' = { tmps := #[.int .i64 T, .int .i64 (N : Int), undef, undef, .slice none 0 0, .int .i64 0, .pointer (some ⟨b, 0, none⟩), .pointer (some ⟨b + 1, 0, none⟩), .int .i64 q, .int .i64 T, .bool false, .bool false, .int .i64 T, .bool false, .bool false, .bool false, .int .i64 (N : Int), .bool false, .bool false, .bool false, .int .i64 (N : Int), .bool false, .bool false, .int .i64 T, .int .i64 (N : Int),
        .func (.func 33) #[] #[.pointer (some ⟨b + 1 + 1 + 1, 0, none⟩), .pointer (some ⟨b + 1 + 1, 0, none⟩)], .int .i64 q, undef, undef, undef, undef, undef, undef, undef, undef], defers := [] })
    ?hAx ?assign ?body ?done ?stop
  case hAx => intro q a' s A B row h _ _; exact h
  case stop => intro D c pre W hD _ h; exact h.elim
  case assign =>
    intro l' pre q W K hI hK
    gi_wp2
    exact hK _ _ (KeepsFrom.refl _ _) ⟨fun _ h => h, fun _ h => h⟩ hI rfl
  case body =>
    rintro l' pre q a' W hl' hrec ⟨⟨i1, i2, i3⟩, ⟨v, hv, hrow, _⟩, hBW⟩ rfl hlen
    have hl2 : (share_Stages.st pre).1.length = pre.length := share_Stages.st_length pre
    have hN1 : pre.length < 512 := by have := HN.out.2; omega
    have hSW : w5.heap.size ≤ W.heap.size := hBW.size
    have cO : W.cell? ⟨b, 0, none⟩ = some v := hv.cell
    have cB : W.cell? ⟨b + 1, 0, none⟩ = some (.int .i64 (share_Stages.st pre).2) := (blk_cell i1 0).trans rfl
    have I1 := Aside0.mk i1
    have I2 := Aside0.mk i2
    have I3 := Aside0.mk i3
    have HV := Aside0.mk hv
    have HROW := Aside0.mk hrow
    have HBW := Aside0.mk hBW
    have HSN := Aside0.mk (share_Stages.st_snoc pre q)
    have HL := Aside0.mk hl2
    have HL1 := Aside0.mk hN1
    have HSW := Aside0.mk hSW
    have HS5 := Aside0.mk hs
    have hmx : 300000 ≤ maxLen := by unfold maxLen; omega
    have HMX := Aside0.mk hmx
    clear i1 i2 i3 hv hrow hBW hrec hl2 hN1 hlen hSW hs x0 x1 x2 x3 cn ct hO5 hB hl' hmx
    generalize hst : share_Stages.st pre = sp at *
    obtain ⟨outs, y⟩ := sp
    dsimp only at *
    gi_wp2_with (gi_at_builtin; refine wpListIn_append_own _ rfl _ _ 22 rfl w5.heap.size 3 i0 _ 1 8 Try.underlying22 HI.out.1 HI.out.2.1 HI.out.2.2.1 HI.out.2.2.2 rfl (by decide) _ _ _ rfl (HROW.out.alloc _) ⟨W.heap.size, 0, none⟩ 1 1 [.int .i64 (wrap64 (q - y))] rfl rfl (share_Stages.new1 _ _ _ _ rfl) (by simp [Value.oneCell']) (Nat.le_trans (by have := HL.out; have := HL1.out; omega) HMX.out) (by have := HL.out; have := HL1.out; omega) (by have := HSW.out; have := share_Stages.size_alloc W (.cells #[.int .i64 (wrap64 (q - y))] 3); omega) ?_; intro v' W2 hown' hgrow _; obtain ⟨gp, cp, rfl⟩ := ownsRow_succ hown'; obtain ⟨hv1, hv2, hr2, hk2, hb2, hoth⟩ := share_Stages.appended (n0 := b) HV.out HROW.out HSW.out (Nat.le_refl _) (by have := HS5.out; omega) hown' hgrow; have cO1 := hv1.cell; have fO1 := hv1.frozen; have JB := Aside0.mk ((hoth (b + 1) (by have := HS5.out; omega) (by omega)).trans I1.out); have J2 := Aside0.mk ((hoth (b + 1 + 1) (by have := HS5.out; omega) (by omega)).trans I2.out); have J3 := Aside0.mk ((hoth (b + 1 + 1 + 1) (by have := HS5.out; omega) (by omega)).trans I3.out); have cB1 := (blk_cell JB.out 0).trans (show _ = some (Value.int .i64 y) from rfl); have fB1 := blk_frozen JB.out 0; have JV := Aside0.mk hv2; have JR := Aside0.mk hr2; have HKO := Aside0.mk hk2; have HKB := Aside0.mk hb2; clear hv1 hv2 hr2 hk2 hb2 hoth hown' hgrow)
    have hr3 := ownsRow_setCell_below JR.out (a := ⟨b + 1, 0, none⟩) (by show b + 1 < _; have := HS5.out; omega) (.int .i64 q)
    have hv3 := JV.out.other (B' := b + 1) (by omega) (.int .i64 q)
    have z1 := share_Stages.heap_set JB.out 0 (.int .i64 q)
    have z2 := (Below.heap_setCell _ ⟨b + 1, 0, none⟩ (.int .i64 q) (b + 1 + 1) (by dsimp only; omega)).trans J2.out
    have z3 := (Below.heap_setCell _ ⟨b + 1, 0, none⟩ (.int .i64 q) (b + 1 + 1 + 1) (by dsimp only; omega)).trans J3.out
    have hsn := HSN.out
    refine ⟨(HKO.out.trans (KeepsOthers.setCell _ _ _)).from _, ⟨fun o ho => by rw [I3.out] at ho; cases ho; exact z3, fun o ho => by rw [I2.out] at ho; cases ho; exact z2⟩, ⟨?_, z2, z3⟩, ⟨_, hv3, ?_, trivial⟩, (HBW.out.trans HKB.out).setCell (p := ⟨b + 1, 0, none⟩) (by show b ≤ b + 1; omega) _⟩
    · rw [hsn]; exact z1
    · rw [hsn]
      have e1 : (outs ++ [wrap64 (q - y)]).length = outs.length + 1 := by simp
      have e2 : encs (Value.int .i64) (outs ++ [wrap64 (q - y)]) = encs (Value.int .i64) outs ++ [.int .i64 (wrap64 (q - y))] := by simp [encs]
      show World.ownsRow _ _ _ _ _ (outs ++ [wrap64 (q - y)]).length (encs (Value.int .i64) (outs ++ [wrap64 (q - y)]))
      rw [e1, e2]; exact hr3
  case done =>
    rintro D ys W hD rfl ⟨⟨i1, i2, i3⟩, ⟨v, hv, hrow, _⟩, hBW⟩ hK
    have cO := hv.cell
    have HROW := Aside0.mk hrow
    have HBW := Aside0.mk hBW
    have HK0 := Aside0.mk hK
    have HS5 := Aside0.mk hs
    clear i1 i2 i3 hrow hBW hK hv x0 x1 x2 x3 cn ct hO5 hB hs
    go_wp2
    (try rw [Exit.noGoto_ret])
    refine ⟨by simp, .inl ⟨_, _, rfl, run_takeDeferred HK0.out, ?_⟩⟩
    refine ⟨.tuple #[v, .int .i64 0], by simp [results, Try.f13, go_sem], ⟨v, rfl, ?_, ?_⟩⟩
    · rw [HE.out]
      refine Kd.R_of_own ?_ (fun _ _ => trivial)
      exact ownsRow_putObj (own_weaken HROW.out (by have := HS5.out; omega)) _ HK0.out rfl
    · rw [HE.out]
      exact (HB5.out.trans HBW.out).trans (share_Stages.bel_put (by have := HS5.out; omega) HK0.out)
end
set_option maxHeartbeats 8000000 in
set_option maxRecDepth 100000 in
theorem share_Stages.walk_bad (T n : Int) (w : World) (h : ¬ (0 ≤ T ∧ T ≤ 1099511627776 ∧ 1 ≤ n ∧ n ≤ 512)) :
    Calls Try.prog 13 #[.int .i64 T, .int .i64 n] w fun e w' => e = .returned (.tuple #[.slice none 0 0, .int .i64 1]) ∧ w' = w := by
  by_cases c0 : T < 0
  · have d0 : decide (T < 0) = true := decide_eq_true c0
    clear h
    go_enter Try.func13, Try.ntmps13
    go_wp2
    go_ret2
    exact ⟨rfl, rfl⟩
  have d0 : decide (T < 0) = false := decide_eq_false c0
  by_cases c1 : 1099511627776 < T
  · have d1 : decide (T > 1099511627776) = true := decide_eq_true c1
    have d1' : decide (1099511627776 < T) = true := decide_eq_true c1
    clear h
    go_enter Try.func13, Try.ntmps13
    go_wp2
    go_ret2
    exact ⟨rfl, rfl⟩
  have d1 : decide (T > 1099511627776) = false := decide_eq_false c1
  have d1' : decide (1099511627776 < T) = false := decide_eq_false c1
  by_cases c2 : n < 1
  · have d2 : decide (n < 1) = true := decide_eq_true c2
    clear h
    go_enter Try.func13, Try.ntmps13
    go_wp2
    go_ret2
    exact ⟨rfl, rfl⟩
  have d2 : decide (n < 1) = false := decide_eq_false c2
  have c3 : 512 < n := by omega
  have d3 : decide (n > 512) = true := decide_eq_true c3
  have d3' : decide (512 < n) = true := decide_eq_true c3
  clear h
  go_enter Try.func13, Try.ntmps13
  go_wp2
  go_ret2
  exact ⟨rfl, rfl⟩
theorem share_Stages.calls (a0 a1 : Int) (r1 : List Int) (r2 : Int) (w : World) (h : share_Stages.f a0 a1 = some (r1, r2)) :
    Calls Try.prog 13 #[.int .i64 a0, .int .i64 a1] w fun e w' => ∃ v0_ : Value, e = .returned (.tuple #[v0_, .int .i64 r2]) ∧ Kd.R (Kd.int .i64) 3 w' w.heap.size (fun _ => True) v0_ r1 ∧ Below w.heap.size w w' := by
  have hres : share_Stages.res a0 a1 = (r1, r2) := Option.some.inj h
  unfold share_Stages.res at hres
  by_cases hc : 0 ≤ a0 ∧ a0 ≤ 1099511627776 ∧ 1 ≤ a1 ∧ a1 ≤ 512
  · rw [if_pos hc] at hres
    obtain ⟨rfl, rfl⟩ := Prod.mk.inj hres
    obtain ⟨N, rfl⟩ : ∃ N : Nat, a1 = (N : Int) := ⟨a1.toNat, (Int.toNat_of_nonneg (by omega)).symm⟩
    exact share_Stages.walk_ok a0 N w hc.1 hc.2.1 (by omega) (by omega)
  · rw [if_neg hc] at hres
    obtain ⟨rfl, rfl⟩ := Prod.mk.inj hres
    exact (share_Stages.walk_bad a0 a1 w hc).mono fun e w' h => ⟨_, h.1, Kd.R_nil _ _ _ _ _, by rw [h.2]; exact Below.refl _ _⟩

end Go.Proofs.Ytekbeaogiagidaa.X
