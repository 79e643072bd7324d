-- written by xprint.py, an own overlay over the kit's print; not trusted: Lean checks it
import Derived.Test.YtljjgcfifhfhdaaX0
namespace Go.Proofs.Ytljjgcfifhfhdaa.X
open Go.RowKit Go.Proofs.YtljjgcfifhfhdaaW.PrintWords Go.Proofs.YtljjgcfifhfhdaaW.PrintLast Go.Proofs.YtljjgcfifhfhdaaW.PrintMore
attribute [local go_sem] max2_int min2_int max_two min_two max_three min_three max_four min_four   -- for this text's walks alone
set_option linter.unusedVariables false
set_option linter.unusedSimpArgs false

/-! ### cue_Check: function 10 -/
/-! #### cues that follow each other -/
def cue_Check.upto {α : Type} (f : Nat → α) (k : Nat) : List α := (List.range k).map f
theorem cue_Check.upto_succ {α : Type} (f : Nat → α) (k : Nat) : cue_Check.upto f (k + 1) = cue_Check.upto f k ++ [f k] := by simp [cue_Check.upto, List.range_succ]
theorem cue_Check.upto_length {α : Type} (f : Nat → α) (k : Nat) : (cue_Check.upto f k).length = k := by simp [cue_Check.upto]
/-- The pair k of l: its cues k and k + 1. -/
def cue_Check.pr (l : List S40) (k : Nat) : S40 × S40 := (l.getD k z40, l.getD (k + 1) z40)
def cue_Check.enc (x : S40 × S40) : Array Value := #[.agg #[.int .i64 x.1.f0, .int .i64 x.1.f1], .agg #[.int .i64 x.2.f0, .int .i64 x.2.f1]]
theorem cue_Check.cells {w : World} {ad : Addr} {n : Nat} {l : List S40} (h : Kd.C k40 w (some ad) n l) (k : Nat) (hk : k < n) :
    w.cell? (ad.add (k * 2)) = some (.int .i64 (l.getD k z40).f0) ∧ w.cell? ⟨(ad.add (k * 2)).block, (ad.add (k * 2)).off + 1, none⟩ = some (.int .i64 (l.getD k z40).f1) := by
  obtain ⟨ad', e, h0, h1⟩ := at_T40 h (k : Int) (by omega) (by omega)
  cases e
  have er : rd_T40 l (k : Int) = l.getD k z40 := by unfold rd_T40; rw [Int.toNat_natCast]
  rw [er, Int.toNat_natCast] at h0 h1
  exact ⟨h0, h1⟩
/-! #### a region of reads before one call, where a loop over an iterator is near -/
theorem cue_Check.wpIn_of_still {n : Nat} {P : Program} {w : World} {o : Oper} {a : Act} {K : Act → Prop} {K' : Act → World → Prop} {Q' : Exit → Act → World → Prop} (h : ∀ a, K a → K' a w) (hh : o.still P a w K) : o.wpIn Fence.wide n P a w K' Q' := by
  unfold Oper.still at hh
  unfold Oper.wpIn
  refine ⟨fun _ _ => trivial, ?_⟩
  rw [show Fence.wide.round = none from rfl, Oper.semAt_none]
  generalize (execOp a.eval o).run P w = r at *
  cases r with
  | ok n w' =>
    cases n <;> simp only [Oper.stillUpon] at hh <;> simp only [Oper.uponIn]
    case enter f args =>
      obtain ⟨rfl, v, hc, hn⟩ := hh
      exact ⟨(fun hd => by cases hd), callsIn_wide.2 (hc.mono fun e w'' ⟨he, hw⟩ => by subst he; subst hw; exact h _ hn)⟩
    all_goals (obtain ⟨rfl, h2⟩ := hh; exact h _ h2)
  | halt x w' => simp only [Oper.stillUpon] at hh
theorem cue_Check.wpOpIn_of_stOp {n : Nat} {P : Program} {ops : Array Oper} {w : World} {i : Nat} {a : Act} {K : Act → Prop} {K' : Act → World → Prop} {Q' : Exit → Act → World → Prop} (h : ∀ a, K a → K' a w) (hh : stOp P ops w i K a) : wpOpIn Fence.wide n P ops Q' i K' a w := by
  unfold stOp at hh
  unfold wpOpIn
  split
  · rename_i ho; simp only [ho] at hh; exact h _ hh
  · rename_i o ho
    simp only [ho] at hh
    split
    · rename_i hw; simp only [hw, if_true] at hh; exact cue_Check.wpIn_of_still h hh
    · rename_i hw; simp only [hw] at hh; exact ⟨fun _ _ => trivial, h _ hh⟩
theorem cue_Check.wpAnyIn_of_head {m : Nat} {P : Program} {md : Region.Mode} {ops : Array Oper} {w : World} {n g : Nat} {L : Array Bool → Act → Prop} {Q' : Exit → Act → World → Prop} (hL : ∀ listed a, L listed a → wpAnyIn Fence.wide m P md ops Q' g listed a w) :
    ∀ (f : Nat) (listed : Array Bool) (a : Act), wpAnyL P md ops w n L f listed a → wpAnyIn Fence.wide m P md ops Q' (f + g) listed a w
  | 0, listed, a, h => by rw [Nat.zero_add]; exact hL _ _ h
  | f + 1, listed, a, h => by
    rw [show f + 1 + g = (f + g) + 1 by omega]
    exact ⟨fun h0 => absurd h0 h.1, fun i hi => cue_Check.wpOpIn_of_stOp (fun a' h' => cue_Check.wpAnyIn_of_head hL f _ a' h') (h.2 i hi).2⟩
theorem cue_Check.wpAnyIn_of_seq {m : Nat} {P : Program} {md : Region.Mode} {ops : Array Oper} {Q' : Exit → Act → World → Prop} : ∀ (l : List Oper) (k : Nat) (listed : Array Bool) (a : Act) (w : World), (∀ j, l[j]? = ops[k + j]?) →
    Region.seqB md ops l.length k listed = true → wpListIn Fence.wide m P ops Q' l a w → wpAnyIn Fence.wide m P md ops Q' l.length listed a w
  | [], _, _, _, _, _, hB, h => ⟨by simpa [Region.seqB] using hB, h⟩
  | o :: l, k, listed, a, w, hl, hB, h => by
    have h0 : ops[k]? = some o := by simpa using (hl 0).symm
    simp only [List.length_cons, Region.seqB, Bool.and_eq_true, decide_eq_true_eq] at hB
    refine ⟨fun h1 => (by rw [hB.1] at h1; cases h1), fun i hi => ?_⟩
    rw [hB.1] at hi
    have hik : i = k := by simpa using hi
    subst hik
    have hw : wpOpIn Fence.wide m P ops Q' i (wpListIn Fence.wide m P ops Q' l) a w := by unfold wpOpIn; simp only [h0]; exact h
    exact wpOpIn_mono (fun a' w' h' => cue_Check.wpAnyIn_of_seq l (i + 1) _ a' w' (fun j => by have := hl (j + 1); simpa [Nat.add_assoc, Nat.add_comm 1 j] using this) hB.2 h') hw
theorem cue_Check.region_still_tail {m : Nat} {P : Program} {id : Nat} {Q : Exit → Act → World → Prop} {a : Act} {w : World} {l : List Oper} (n : Nat) (hm : P.follows .mixedOrders = true) (hB : Region.lexTailB .any l.toArray n = true)
    (h : wpStill P l.toArray { w with drawn := w.drawn + 1 } (fun a' => wpListIn Fence.wide m P l.toArray Q (l.drop n) a' { w with drawn := w.drawn + 1 }) (l.take n) a) : (Code.region id l.toArray true).wpIn Fence.wide m P Q a w := by
  simp only [Region.lexTailB, Bool.and_eq_true, decide_eq_true_eq] at hB
  obtain ⟨⟨⟨⟨hsel, hn⟩, hs⟩, hc⟩, hlex⟩ := hB
  have hn' : n < l.length := by simpa using hn
  have htl : (l.take n).length = n := by simp; omega
  have hdl : (l.drop n).length = l.toArray.size - n := by simp
  have inv0 : HeadInv .any l.toArray n (Array.replicate l.toArray.size false) :=
    ⟨by simp, fun j oj _ hl => (by rw [getD_replicate_false] at hl; cases hl), fun t _ ht => getD_in (by simpa using ht) (getD_replicate_false _ _)⟩
  have H := wpAnyL_lex (md := .any) (g := l.toArray.size - n) hsel hs hc hn (l.take n) 0 _ a (fun j hj => by
    have hj' : j < n := by rw [htl] at hj; exact hj
    simp [hj']) (by simpa using htl) inv0 (by rw [htl]; exact hlex) h
  refine wpIn_region_any hm ?_
  have := cue_Check.wpAnyIn_of_head (m := m) (Q' := Q) (g := l.toArray.size - n) (fun listed a' hL => by
    have := cue_Check.wpAnyIn_of_seq (m := m) (md := .any) (Q' := Q) (l.drop n) n listed a' { w with drawn := w.drawn + 1 } (fun j => by simp [List.getElem?_drop]) (by rw [hdl]; exact hL.1) hL.2
    rwa [hdl] at this) _ _ _ H
  rw [htl, show n + (l.toArray.size - n) = l.toArray.size by omega] at this
  exact this
section
attribute [local go_sem] Oper.semAt_some
set_option maxHeartbeats 4000000 in
set_option maxRecDepth 100000 in
/-- The iterator: each pair, till a round says no. -/
theorem cue_Check.pairs1_in {α : Type} (encs : α → Array Value) (g : Nat → α) (Kp : World → World → Prop) (hKr : ∀ A, Kp A A) (hKt : ∀ {A B C : World}, Kp A B → Kp B C → Kp A C) (hKd : ∀ A : World, Kp A A.drew) (n : Nat) (l Bs : Nat) (ad : Addr) (cap : Nat) (zs : List S40) (hlen : zs.length ≤ 64) (hge : ∀ k, k + 1 < zs.length → encs (g k) = cue_Check.enc (cue_Check.pr zs k)) (w0 : World)
    (hKw : ∀ A B, Kp A B → Below w0.heap.size A B) (hKc : ∀ A B : World, Kp A B → ∀ v, A.cell? ⟨Bs, 0, none⟩ = some v → B.cell? ⟨Bs, 0, none⟩ = some v) (hC : Kd.C k40 w0 (some ad) zs.length zs) (J Jx : List α → World → Prop)
    (hY : ∀ pre x W, J pre W → pre.length < zs.length → YieldAt Fence.wide (n - 1) Try.prog l (encs x) W fun e W' =>
      (e = .returned (.bool true) ∧ J (pre ++ [x]) W' ∧ Kp W W') ∨ (e = .returned (.bool false) ∧ Jx (pre ++ [x]) W'))
    (W : World) (hJ : AbidesFrom W.heap.size J) (hB0 : Below w0.heap.size w0 W) (hBs : W.cell? ⟨Bs, 0, none⟩ = some (.slice (some ad) zs.length cap)) (h0 : J [] W) :
    CallsIn Fence.wide n Try.prog 30 #[.func (.yield l) #[] #[], .pointer (some ⟨Bs, 0, none⟩)] W fun e W' => (∃ v, e = .returned v) ∧
      ((∃ ys, ys = cue_Check.upto g (zs.length - 1) ∧ J ys W') ∨ (∃ pre, (∃ k, k ≤ zs.length - 1 ∧ pre = cue_Check.upto g k) ∧ Jx pre W')) := by
  refine callsIn_of_wp Try.func30 rfl trivial ?_ rfl
  simp only [Try.ntmps30, List.size_toArray, List.length_cons, List.length_nil, Nat.reduceAdd, Nat.reduceSub, Array.replicate_succ, Array.replicate_zero, List.push_toArray, List.append_toArray, List.nil_append, List.cons_append]
  have hm : Try.prog.follows .mixedOrders = true := by kernel_rfl
  gi_wp2
  gi_loopw [3] (fun i wr => ∃ k : Nat, i = .int .i64 ((k + 1 : Nat) : Int) ∧ (k ≤ zs.length - 1) ∧ J (cue_Check.upto g k) wr ∧ Kp W wr)
    (fun i _ => zs.length - (intOf i).toNat)
  case atStart => exact ⟨0, rfl, Nat.zero_le _, h0, hKr _⟩
  case round =>
    obtain ⟨k, rfl, hk, hJs, hnx⟩ := hrel
    have hBx := hKc _ _ hnx _ hBs
    by_cases hlt : k + 1 < zs.length
    · have hC2 := Kd.C_below hC (hB0.trans (hKw _ _ hnx))
      obtain ⟨a0, a1⟩ := cue_Check.cells hC2 k (by omega)
      obtain ⟨b0, b1⟩ := cue_Check.cells hC2 (k + 1) hlt
      have hJd : J (cue_Check.upto g k) wr.drew := hJ _ _ _ none hJs ⟨rfl, rfl, rfl, Nat.le_refl _, fun _ _ _ => rfl⟩ (fun r e => by cases e)
      obtain ⟨fn, tmps, assign, body, hy, hR⟩ := hY _ (g k) wr.drew hJd (by rw [cue_Check.upto_length]; omega)
      rw [hge k hlt] at hy
      unfold cue_Check.enc cue_Check.pr at hy
      dsimp only at hy
      clear hC2
      have hR2 : RoundIn Fence.wide (n - 1) Try.prog l fn tmps assign body wr.drew fun e W' => ∃ b, e = .returned (.bool b) ∧ ((b = true ∧ J (cue_Check.upto g k ++ [g k]) W' ∧ Kp wr.drew W') ∨ (b = false ∧ Jx (cue_Check.upto g k ++ [g k]) W')) := hR.mono (fun e W' h => by
        rcases h with ⟨rfl, h⟩ | ⟨rfl, h⟩
        · exact ⟨true, rfl, .inl ⟨rfl, h⟩⟩
        · exact ⟨false, rfl, .inr ⟨rfl, h⟩⟩)
      clear hR
      obtain ⟨x, hx⟩ : ∃ x, zs.getD k z40 = x := ⟨_, rfl⟩
      obtain ⟨y, hy2⟩ : ∃ y, zs.getD (k + 1) z40 = y := ⟨_, rfl⟩
      rw [hx] at a0 a1 hy
      rw [hy2] at b0 b1 hy
      clear hx hy2
      have hw : IntKind.i64.wrap (((k + 1 : Nat) : Int) - 1) = (k : Int) := by rw [i64_w]; unfold wrap64; omega
      obtain ⟨j, hj⟩ : ∃ j, k + 1 = j := ⟨_, rfl⟩
      rw [hj] at hw b0 b1 hlt ⊢
      have hk0 : k < zs.length := by omega
      have HJ := Aside0.mk hj
      clear hj
      gi_wp2
      refine cue_Check.region_still_tail 10 (by kernel_rfl) (by kernel_rfl) ?_
      simp only [List.take_succ_cons, List.take_zero, List.drop_succ_cons, List.drop_zero]
      repeat still_step
      refine wpStill_nil ?_
      change wpListIn _ _ _ _ _ _ _ wr.drew
      gi_wp2
      refine ⟨fun hd => absurd hd (by simp [Fence.wide]), hR2.mono ?_⟩
      rintro e W3 ⟨b, rfl, ⟨rfl, hJ3, hk3⟩ | ⟨rfl, hJx3⟩⟩
      · gi_wp2
        go_roundw
        case rel => exact ⟨k + 1, congrArg (Value.int .i64) (by have := HJ.out; omega), by have := HJ.out; omega, by rw [cue_Check.upto_succ]; exact hJ3, hKt hnx (hKt (hKd wr) hk3)⟩
        case measure => simp [intOf]; omega
      · gi_wp2
        refine bodyPost_ret (results_none rfl _ _ _) rfl ?_
        exact ⟨⟨_, rfl⟩, .inr ⟨_, ⟨k + 1, by have := HJ.out; omega, (cue_Check.upto_succ _ _).symm⟩, hJx3⟩⟩
    · have hke : zs.length = k + 1 ∨ zs.length = 0 := by omega
      have hge : ¬ ((k + 1 : Nat) : Int) < (zs.length : Int) := by omega
      obtain ⟨j, hj⟩ : ∃ j, k + 1 = j := ⟨_, rfl⟩
      rw [hj] at hge ⊢
      have HK := Aside0.mk (show k = zs.length - 1 by omega)
      clear hke hlt hj
      gi_wp2
      go_end0
      exact ⟨⟨_, rfl⟩, .inl (by rw [← HK.out]; exact hJs)⟩
/-- What the iterator gives. -/
theorem cue_Check.pairs_stopsK {α : Type} (encs : α → Array Value) (g : Nat → α) (Kp : World → World → Prop) (hKr : ∀ A, Kp A A) (hKt : ∀ {A B C : World}, Kp A B → Kp B C → Kp A C) (hKd : ∀ A : World, Kp A A.drew) (n : Nat) (Bs : Nat) (ad : Addr) (cap : Nat) (zs : List S40) (hlen : zs.length ≤ 64) (hge : ∀ k, k + 1 < zs.length → encs (g k) = cue_Check.enc (cue_Check.pr zs k)) (w0 w : World)
    (hKw : ∀ A B, Kp A B → Below w0.heap.size A B) (hKc : ∀ A B : World, Kp A B → ∀ v, A.cell? ⟨Bs, 0, none⟩ = some v → B.cell? ⟨Bs, 0, none⟩ = some v) (hC : Kd.C k40 w0 (some ad) zs.length zs) (hB0 : Below w0.heap.size w0 w) (hBlt : Bs < w.heap.size)
    (hBs : w.cell? ⟨Bs, 0, none⟩ = some (.slice (some ad) zs.length cap)) :
    SeqStopsK Fence.wide n Try.prog 30 #[.pointer (some ⟨Bs, 0, none⟩)] encs Kp (fun ys => ys = cue_Check.upto g (zs.length - 1)) (fun pre => ∃ k, k ≤ zs.length - 1 ∧ pre = cue_Check.upto g k) zs.length w := fun l J Jx W hW hJ _ hY h0 => by
  have hsz0 := hB0.size
  exact cue_Check.pairs1_in encs g Kp hKr hKt hKd n l Bs ad cap zs hlen hge w0 hKw hKc hC J Jx hY W hJ (hB0.trans (hW.mono hsz0)) ((hW.cell (p := ⟨Bs, 0, none⟩) hBlt).trans hBs) h0
theorem cue_Check.pairs_stops (n : Nat) (Bs : Nat) (ad : Addr) (cap : Nat) (zs : List S40) (hlen : zs.length ≤ 64) (w0 w : World) (hC : Kd.C k40 w0 (some ad) zs.length zs) (hB0 : Below w0.heap.size w0 w) (hsz : w0.heap.size ≤ Bs + 1) (hBlt : Bs < w.heap.size)
    (hBs : w.cell? ⟨Bs, 0, none⟩ = some (.slice (some ad) zs.length cap)) :
    SeqStopsK Fence.wide n Try.prog 30 #[.pointer (some ⟨Bs, 0, none⟩)] cue_Check.enc (Below (Bs + 1)) (fun ys => ys = cue_Check.upto (cue_Check.pr zs) (zs.length - 1)) (fun pre => ∃ k, k ≤ zs.length - 1 ∧ pre = cue_Check.upto (cue_Check.pr zs) k) zs.length w :=
  cue_Check.pairs_stopsK cue_Check.enc (cue_Check.pr zs) (Below (Bs + 1)) (fun A => Below.refl _ A) (fun h k => h.trans k) (fun A => below_drew1 (Below.refl (Bs + 1) A)) n Bs ad cap zs hlen (fun _ _ => rfl) w0 w (fun _ _ h => h.mono hsz) (fun _ _ h v hv => (h.cell (p := ⟨Bs, 0, none⟩) (Nat.lt_succ_self _)).trans hv) hC hB0 hBlt hBs
end
set_option maxHeartbeats 4000000 in
theorem cue_Check.pairs_calls (A0 : Option Addr) (n c0 : Nat) (w : World) :
    Calls Try.prog 22 #[.slice A0 n c0] w fun e w' => e = .returned (.func (.func 30) #[] #[.pointer (some ⟨w.heap.size, 0, none⟩)]) ∧ w' = w.alloc (.cells #[.slice A0 n c0] 22) := by
  have hmf : ∀ (fn : Fn) (first cap : Array Value) (w : World), (Instr.makeFunc fn first cap).run Try.prog w = .ok (.func fn first cap) w := fun _ _ _ _ => rfl
  go_enter Try.func22, Try.ntmps22
  go_wp2
  go_ret
  exact ⟨rfl, rfl⟩
/-! #### Check -/
theorem cue_Check.heap_set {w : World} {g t : Nat} {cur : Array Value} (h : w.heap[g]? = some (.cells cur t (0, 0))) (j : Nat) (v : Value) : (w.setCell ⟨g, j, none⟩ v).heap[g]? = some (.cells (cur.setIfInBounds j v) t (0, 0)) := by
  obtain ⟨hlt, hk⟩ := Array.getElem?_eq_some_iff.1 h
  show (w.heap.modify g _)[g]? = _
  rw [Array.getElem?_eq_getElem (by rw [Array.size_modify]; exact hlt), Array.getElem_modify_self, hk]
  rfl
def cue_Check.okc (x : S40) : Bool := decide (0 ≤ x.f0 ∧ x.f0 ≤ 8192 ∧ 0 ≤ x.f1 ∧ x.f1 ≤ 1099511627776)
def cue_Check.good (p : S40 × S40) : Bool := decide (p.1.f0 < p.2.f0 ∧ p.1.f1 < p.2.f1)
def cue_Check.allg (l : List (S40 × S40)) : Bool := l.all cue_Check.good
theorem cue_Check.allg_snoc (l : List (S40 × S40)) (q : S40 × S40) : cue_Check.allg (l ++ [q]) = (cue_Check.allg l && cue_Check.good q) := by simp [cue_Check.allg]
def cue_Check.chk (l : List S40) : Int :=
  if l.length < 2 then 4 else if 64 < l.length then 3 else if l.all cue_Check.okc = true then (if (l.getD 0 z40).f0 = 0 then (if cue_Check.allg (cue_Check.upto (cue_Check.pr l) (l.length - 1)) = true then 0 else 5) else 5) else 1
def cue_Check.f (l0 : List S40) : Option Int := some (cue_Check.chk l0)
theorem cue_Check.okc_at {l : List S40} (h : l.all cue_Check.okc = true) {i : Nat} (hi : i < l.length) : 0 ≤ (l.getD i z40).f0 ∧ (l.getD i z40).f0 ≤ 8192 ∧ 0 ≤ (l.getD i z40).f1 ∧ (l.getD i z40).f1 ≤ 1099511627776 := by
  have := List.all_eq_true.1 h (l.getD i z40) (by rw [List.getD_eq_getElem?_getD, List.getElem?_eq_getElem hi]; exact List.getElem_mem hi)
  exact of_decide_eq_true this
section
attribute [local go_sem] Oper.semAt_some
set_option maxHeartbeats 8000000 in
set_option maxRecDepth 100000 in
theorem cue_Check.walk_ok (ad : Addr) (c0 : Nat) (l : List S40) (w : World) (hC : Kd.C k40 w (some ad) l.length l) (h2 : 2 ≤ l.length) (h64 : l.length ≤ 64) (hall : l.all cue_Check.okc = true) (r : Int)
    (hr : r = if (l.getD 0 z40).f0 = 0 then (if cue_Check.allg (cue_Check.upto (cue_Check.pr l) (l.length - 1)) = true then 0 else 5) else 5) :
    Calls Try.prog 10 #[.slice (some ad) l.length c0] w fun e w' => e = .returned (.int .i64 r) ∧ Below w.heap.size w w' := by
  have HC := Aside0.mk hC
  have HA := Aside0.mk hall
  have HR := Aside0.mk hr
  have HB := Aside0.mk (Below.refl w.heap.size w)
  clear hC hall hr
  have hu40 := Try.underlying40
  have hu46 := Try.underlying46
  have hu47 := Try.underlying47
  refine (callsIn_wide (n := 9)).1 (callsIn_of_wp_marks Try.func10 rfl trivial ?_ rfl)
  refine wpIn_wide.2 ?_
  simp only [Try.ntmps10, List.size_toArray, List.length_cons, List.length_nil, Nat.reduceAdd, Nat.reduceSub, Array.replicate_succ, Array.replicate_zero, List.push_toArray, List.append_toArray, List.nil_append, List.cons_append]
  go_wp2_with ((with_reducible refine gate_dst (N := 2) rfl ?_); refine box_event ?hg (N := 2) ?hd (cs := #[.int .i64 0]) (t := 23) ?hr ?_; (case hd => rfl); (case hg => rfl); (case hr => first | (go_simp; done) | (go_simp; rfl)); intro gb hgb w1 hbox hb; have HB1 := Aside0.mk (below_step HB.out hb); have HX := Aside0.mk hbox; have HG := Aside0.mk hgb; clear hb hbox hgb)
  repeat (go_step3; go_wp2)
  go_loopg [3, 18] l.length (fun gq s3 s18 wr => ∃ i : Nat, s3 = .int .i64 0 ∧ s18 = .int .i64 i ∧ i ≤ l.length ∧ Aside0 (l.length - i ≤ gq) ∧ Aside0 (Below (gb + 1) w1 wr))
  case atStart => exact ⟨0, rfl, rfl, by omega, ⟨by omega⟩, ⟨Below.refl _ _⟩⟩
  case round =>
    obtain ⟨i, rfl, rfl, hi, HK, HBr⟩ := hrel
    by_cases hlt : i < l.length
    · have hCw := Kd.C_below HC.out (HB1.out.trans (HBr.out.mono (by rw [HG.out]; exact Nat.le_succ _)))
      obtain ⟨a0, a1⟩ := cue_Check.cells hCw i hlt
      obtain ⟨q0, q1, q2, q3⟩ := cue_Check.okc_at HA.out hlt
      clear hCw
      obtain ⟨x, hx⟩ : ∃ x, l.getD i z40 = x := ⟨_, rfl⟩
      rw [hx] at a0 a1 q0 q1 q2 q3
      clear hx
      have i0 : ∀ W, (Instr.index 47 (.agg #[.int .i64 x.f0, .int .i64 8192, .int .i64 x.f1, .int .i64 1099511627776]) (.int .i64 0)).run Try.prog W = .ok (.agg #[.int .i64 x.f0, .int .i64 8192]) W := fun _ => by kernel_rfl
      have i1 : ∀ W, (Instr.index 47 (.agg #[.int .i64 x.f0, .int .i64 8192, .int .i64 x.f1, .int .i64 1099511627776]) (.int .i64 1)).run Try.prog W = .ok (.agg #[.int .i64 x.f1, .int .i64 1099511627776]) W := fun _ => by kernel_rfl
      go_wp2
      refine wp_loop_rounds 3 ?_
      rw [rounds_succ]
      go_wp2
      rw [rounds_succ]
      go_wp2
      rw [rounds_succ]
      go_wp2
      go_roundg (l.length - (i + 1))
      case measure => have := HK.out; omega
      case rel =>
        have hsz : gb + 1 ≤ wr.heap.size := Nat.le_trans (Array.getElem?_eq_some_iff.1 HX.out).1 HBr.out.size
        have hb1 := HBr.out
        refine ⟨i + 1, rfl, by go_num, by omega, ⟨Nat.le_refl _⟩, ⟨?_⟩⟩
        go_grown
    · obtain rfl : i = l.length := by omega
      have hCw := Kd.C_below HC.out (HB1.out.trans (HBr.out.mono (by rw [HG.out]; exact Nat.le_succ _)))
      obtain ⟨a0, a1⟩ := cue_Check.cells hCw 0 (by omega)
      rw [Nat.zero_mul, show ad.add 0 = ad by first | rfl | (cases ad; rfl) | (cases ad; simp [Addr.add])] at a0 a1
      have hz : wr.heap[gb]? = some (.cells #[.int .i64 0] 23 (0, 0)) := (HBr.out.block gb (Nat.lt_succ_self _)).trans HX.out
      have HZ := Aside0.mk hz
      have z0 : wr.cell? ⟨gb, 0, none⟩ = some (.int .i64 0) := (blk_cell hz 0).trans rfl
      have z1 : wr.frozen? ⟨gb, 0, none⟩ = false := blk_frozen hz 0
      clear hCw hz
      obtain ⟨x, hx⟩ : ∃ x, l.getD 0 z40 = x := ⟨_, rfl⟩
      rw [hx] at a0 a1
      have HX0 := Aside0.mk hx
      clear hx
      have hl0 : 0 < l.length := by omega
      by_cases hf : x.f0 = 0
      · have hf1 : (x.f0 == 0) = true := by simpa using hf
        have hf2 : (x.f0 != 0) = false := by simpa using hf
        go_wp2_with (go_at_call 22; refine (cue_Check.pairs_calls _ _ _ _).mono ?_; rintro e w' ⟨rfl, rfl⟩)
        have hbw : Below w.heap.size w (wr.alloc (.cells #[.slice (some ad) l.length c0] 22)) := (HB1.out.trans (HBr.out.mono (by rw [HG.out]; exact Nat.le_succ _))).alloc (Nat.le_trans HB1.out.size HBr.out.size) _
        have hgl : gb < wr.heap.size := (Array.getElem?_eq_some_iff.1 HZ.out).1
        have hwg : w.heap.size ≤ gb := by rw [HG.out]; exact Nat.le_refl _
        have hgz : (wr.alloc (.cells #[.slice (some ad) l.length c0] 22)).heap[gb]? = some (.cells #[.int .i64 0] 23 (0, 0)) := blk_alloc HZ.out _
        refine (wpIn_wide (n := 9)).1 ?_
        refine wpIn_rangeFunc_ownH rfl (by omega) (gf := 30) (lb := #[.pointer (some ⟨wr.heap.size, 0, none⟩)]) rfl trivial (Go.Proofs.enters_of Try.func30 (by kernel_rfl) rfl)
          (cue_Check.pairs_stops 8 wr.heap.size ad c0 l h64 w _ HC.out hbw (by omega) (by simp) (by simp)) belowK_t (belowK_b (by simp)) (Below.refl _ _) (fun _ => rfl)
          (fun pre W => (cue_Check.allg pre = true ∧ W.heap[gb]? = some (.cells #[.int .i64 0] 23 (0, 0))) ∧ Below w.heap.size (wr.alloc (.cells #[.slice (some ad) l.length c0] 22)) W)
          (fun c pre W => (c = .ret ∧ cue_Check.allg pre = false ∧ W.heap[gb]? = some (.cells #[.int .i64 5] 23 (0, 0))) ∧ Below w.heap.size (wr.alloc (.cells #[.slice (some ad) l.length c0] 22)) W)
          (OwnFrom.and (fun s A B row hs hg hr => ⟨hs.1, (hg.block gb (Array.getElem?_eq_some_iff.1 hs.2).1 (fun e => by have := (hr gb e.symm).1; simp at this; omega)).trans hs.2⟩) (ownFrom_below (by simp; omega) (by simp; omega)))
          (fun c => OwnFrom.and (fun s A B row hs hg hr => ⟨hs.1, hs.2.1, (hg.block gb (Array.getElem?_eq_some_iff.1 hs.2.2).1 (fun e => by have := (hr gb e.symm).1; simp at this; omega)).trans hs.2.2⟩) (ownFrom_below (by simp; omega) (by simp; omega)))
          ⟨⟨rfl, hgz⟩, Below.refl _ _⟩
          (fun q a' W => ∃ g1 g2 : Nat, a' = { tmps :=  #[.slice (some ad) l.length c0, undef, .pointer (some ⟨gb, 0, none⟩), .int .i64 0, undef, u5, undef, u7, .pointer (some ⟨g1, 0, none⟩), .pointer (some ⟨g2, 0, none⟩), .slice (some ad) l.length c0,
          .int .i64 (l.length : Int), .bool (decide ((l.length : Int) < 2)), .slice (some ad) l.length c0, .int .i64 (l.length : Int), .bool (decide (64 < (l.length : Int))), .slice (some ad) l.length c0,
          .int .i64 (l.length : Int), .int .i64 (l.length : Int), .bool false, u20, u21, u22, u23, u24, u25, u26, u27, u28, u29, u30, u31, u32, u33, u34, u35, u36, u37, u38, u39, u40, u41, u42, u43,
          .int .i64 0, .bool false, undef, .slice (some ad) l.length c0, .pointer (some ad), .pointer (some ad), .int .i64 0, .bool false, .slice (some ad) l.length c0,
          .func (.func 30) #[] #[.pointer (some ⟨wr.heap.size, 0, none⟩)], .agg #[.int .i64 q.1.f0, .int .i64 q.1.f1], .agg #[.int .i64 q.2.f0, .int .i64 q.2.f1], undef, undef, undef, undef, undef, undef, undef, undef, undef, undef, undef, undef], defers := [] } ∧ wr.heap.size + 1 ≤ g1 ∧ wr.heap.size + 1 ≤ g2 ∧ W.heap[g1]? = some (.cells #[.int .i64 q.1.f0, .int .i64 q.1.f1] 40 (0, 0)) ∧ W.heap[g2]? = some (.cells #[.int .i64 q.2.f0, .int .i64 q.2.f1] 40 (0, 0)))
          ?hAx ?assign ?body ?done ?stop
        case hAx =>
          rintro q a' s A B row ⟨g1, g2, e, l1, l2, h1, h2⟩ hg hr
          exact ⟨g1, g2, e, l1, l2, (grownBy_keeps_cells hg (fun r e => (hr r e).2) h1 rfl).trans h1, (grownBy_keeps_cells hg (fun r e => (hr r e).2) h2 rfl).trans h2⟩
        case assign =>
          intro l' pre q W K hI hK
          have hsW : wr.heap.size + 1 ≤ W.heap.size := by have := hI.2.size; simpa using this
          unfold cue_Check.enc
          gi_wp2
          refine hK _ _ (((KeepsOthers.alloc W _).trans (KeepsOthers.alloc _ _)).from _) (((Below.refl _ W).alloc hsW _).alloc (by simp; omega) _) ⟨⟨hI.1.1, blk_alloc (blk_alloc hI.1.2 _) _⟩, (hI.2.alloc (by omega) _).alloc (by simp; omega) _⟩ ⟨W.heap.size, W.heap.size + 1, rfl, hsW, by omega, blk_alloc (blk_new W _) _, by have := blk_new (W.alloc (.cells #[.int .i64 q.1.f0, .int .i64 q.1.f1] 40)) (.cells #[.int .i64 q.2.f0, .int .i64 q.2.f1] 40); rwa [World.size_alloc] at this⟩
        case body =>
          rintro l' pre q a' W hl' hrec ⟨⟨hp, hz0⟩, hBW⟩ ⟨g1, g2, rfl, l1, l2, h1, h2⟩ hlen
          have e0 : W.cell? ⟨g1, 0, none⟩ = some (.int .i64 q.1.f0) := (blk_cell h1 0).trans rfl
          have e1 : W.cell? ⟨g1, 1, none⟩ = some (.int .i64 q.1.f1) := (blk_cell h1 1).trans rfl
          have e2 : W.cell? ⟨g2, 0, none⟩ = some (.int .i64 q.2.f0) := (blk_cell h2 0).trans rfl
          have e3 : W.cell? ⟨g2, 1, none⟩ = some (.int .i64 q.2.f1) := (blk_cell h2 1).trans rfl
          have e4 : W.cell? ⟨gb, 0, none⟩ = some (.int .i64 0) := (blk_cell hz0 0).trans rfl
          have e5 : W.frozen? ⟨gb, 0, none⟩ = false := blk_frozen hz0 0
          have HP := Aside0.mk hp
          have HZ0 := Aside0.mk hz0
          clear h1 h2 hrec hp hz0
          obtain ⟨xa, hxa⟩ : ∃ z, q.1.f0 = z := ⟨_, rfl⟩
          obtain ⟨xb, hxb⟩ : ∃ z, q.1.f1 = z := ⟨_, rfl⟩
          obtain ⟨ya, hya⟩ : ∃ z, q.2.f0 = z := ⟨_, rfl⟩
          obtain ⟨yb, hyb⟩ : ∃ z, q.2.f1 = z := ⟨_, rfl⟩
          rw [hxa] at e0 ⊢
          rw [hxb] at e1 ⊢
          rw [hya] at e2 ⊢
          rw [hyb] at e3 ⊢
          have HQ : Aside0 (cue_Check.good q = decide (xa < ya ∧ xb < yb)) := ⟨by unfold cue_Check.good; rw [hxa, hxb, hya, hyb]⟩
          clear hxa hxb hya hyb
          by_cases ca : ya ≤ xa
          · have cb : decide (ya ≤ xa) = true := decide_eq_true ca
            have hgf : cue_Check.good q = false := by rw [HQ.out]; exact decide_eq_false (by omega)
            gi_wp2
            have hs5 := cue_Check.heap_set HZ0.out 0 (.int .i64 5)
            exact ⟨(KeepsOthers.setCell _ _ _).from _, ⟨rfl, by rw [cue_Check.allg_snoc, hgf, Bool.and_false], hs5⟩, hBW.setCell (p := ⟨gb, 0, none⟩) hwg _⟩
          · by_cases cb : yb ≤ xb
            · have hgf : cue_Check.good q = false := by rw [HQ.out]; exact decide_eq_false (by omega)
              gi_wp2
              have hs5 := cue_Check.heap_set HZ0.out 0 (.int .i64 5)
              exact ⟨(KeepsOthers.setCell _ _ _).from _, ⟨rfl, by rw [cue_Check.allg_snoc, hgf, Bool.and_false], hs5⟩, hBW.setCell (p := ⟨gb, 0, none⟩) hwg _⟩
            · have hgf : cue_Check.good q = true := by rw [HQ.out]; exact decide_eq_true (by omega)
              gi_wp2
              exact ⟨KeepsFrom.refl _ _, Below.refl _ _, ⟨by rw [cue_Check.allg_snoc, HP.out, hgf]; rfl, HZ0.out⟩, hBW⟩
        case done =>
          rintro D ys W hD rfl ⟨⟨hp, hz0⟩, hBW⟩ hK
          have e4 : W.cell? ⟨gb, 0, none⟩ = some (.int .i64 0) := (blk_cell hz0 0).trans rfl
          have e5 : W.frozen? ⟨gb, 0, none⟩ = false := blk_frozen hz0 0
          have HRE : r = 0 := by rw [HR.out, HX0.out, if_pos hf, if_pos hp]
          subst HRE
          have HK0 := Aside0.mk hK
          clear HR hp hK
          go_wp2
          rw [Exit.noGoto_ret]
          have hK' := (KeepsOthers.setCell W ⟨gb, 0, none⟩ (.int .i64 0)).same D _ HK0.out rfl
          have hs0 := cue_Check.heap_set hz0 0 (.int .i64 0)
          have hDg : D ≠ gb := by simp at hD; omega
          have hc5 : (((W.setCell ⟨gb, 0, none⟩ (.int .i64 0)).putObj D (.deferred none)).cell? ⟨gb, 0, none⟩) = some (.int .i64 0) := cell_kept ((blk_cell hs0 0).trans rfl) (grownBy_putObj' _ D (.deferred none)) (fun r e => by cases e; exact ⟨_, hK', rfl⟩)
          refine ⟨by simp, .inl ⟨_, _, rfl, run_takeDeferred hK', ?_⟩⟩
          refine ⟨.int .i64 0, by simp [results, Try.f10, go_sem, hc5], rfl, ?_⟩
          exact ((hbw.trans hBW).setCell (p := ⟨gb, 0, none⟩) hwg _).trans (belowK_b (w := w) (Nat.le_refl _) _ D _ _ (by simp at hD; omega) hK' rfl rfl)
        case stop =>
          rintro D c pre W hD ⟨k, hk, rfl⟩ ⟨⟨rfl, hp, hz0⟩, hBW⟩ hK
          have HRE : r = 5 := by
            rw [HR.out, HX0.out, if_pos hf, if_neg]
            intro hh
            have : cue_Check.allg (cue_Check.upto (cue_Check.pr l) k) = true := by
              unfold cue_Check.allg at hh ⊢
              rw [List.all_eq_true] at hh ⊢
              intro z hz
              refine hh z ?_
              unfold cue_Check.upto at hz ⊢
              obtain ⟨i, hi, rfl⟩ := List.mem_map.1 hz
              exact List.mem_map.2 ⟨i, List.mem_range.2 (by have := List.mem_range.1 hi; omega), rfl⟩
            rw [hp] at this
            cases this
          subst HRE
          have HK0 := Aside0.mk hK
          clear HR hp hK
          gi_wp2
          rw [Exit.noGoto_ret]
          have hc5 : ((W.putObj D (.deferred none)).cell? ⟨gb, 0, none⟩) = some (.int .i64 5) := cell_kept ((blk_cell hz0 0).trans rfl) (grownBy_putObj' _ D (.deferred none)) (fun r e => by cases e; exact ⟨_, HK0.out, rfl⟩)
          refine ⟨by simp, .inl ⟨_, _, rfl, run_takeDeferred HK0.out, ?_⟩⟩
          refine ⟨.int .i64 5, by simp [results, Try.f10, go_sem, hc5], rfl, ?_⟩
          exact (hbw.trans hBW).trans (belowK_b (w := w) (Nat.le_refl _) _ D _ _ (by simp at hD; omega) HK0.out rfl rfl)
      · have hf1 : (x.f0 == 0) = false := by simpa using hf
        have hf2 : (x.f0 != 0) = true := by simpa using hf
        have HRE : r = 5 := by rw [HR.out, HX0.out, if_neg hf]
        subst HRE
        clear HR
        go_wp2
        rw [Exit.noGoto_ret]
        have hc5 : (wr.setCell ⟨gb, 0, none⟩ (.int .i64 5)).cell? ⟨gb, 0, none⟩ = some (.int .i64 5) := World.cell?_setCell_same' _ _ _ (by rw [z0]; rfl)
        refine ⟨.int .i64 5, by simp [results, Try.f10, go_sem, hc5], rfl, ?_⟩
        exact (HB1.out.trans (HBr.out.mono (by rw [HG.out]; exact Nat.le_succ _))).setCell (p := ⟨gb, 0, none⟩) (by rw [HG.out]; exact Nat.le_refl _) _
end
set_option maxHeartbeats 8000000 in
set_option maxRecDepth 100000 in
theorem cue_Check.walk_bad (ad : Addr) (c0 : Nat) (l : List S40) (w : World) (hC : Kd.C k40 w (some ad) l.length l) (h2 : 2 ≤ l.length) (h64 : l.length ≤ 64) (hall : l.all cue_Check.okc = false) :
    Calls Try.prog 10 #[.slice (some ad) l.length c0] w fun e w' => e = .returned (.int .i64 1) ∧ Below w.heap.size w w' := by
  have HC := Aside0.mk hC
  have HA := Aside0.mk hall
  have HB := Aside0.mk (Below.refl w.heap.size w)
  clear hC hall
  have hu40 := Try.underlying40
  have hu46 := Try.underlying46
  have hu47 := Try.underlying47
  go_enter Try.func10, Try.ntmps10
  go_wp2_with ((with_reducible refine gate_dst (N := 2) rfl ?_); refine box_event ?hg (N := 2) ?hd (cs := #[.int .i64 0]) (t := 23) ?hr ?_; (case hd => rfl); (case hg => rfl); (case hr => first | (go_simp; done) | (go_simp; rfl)); intro gb hgb w1 hbox hb; have HB1 := Aside0.mk (below_step HB.out hb); have HX := Aside0.mk hbox; have HG := Aside0.mk hgb; clear hb hbox hgb)
  repeat (go_step3; go_wp2)
  go_loopg [3, 18] l.length (fun gq s3 s18 wr => ∃ i : Nat, s3 = .int .i64 0 ∧ s18 = .int .i64 i ∧ i ≤ l.length ∧ Aside0 (l.length - i ≤ gq) ∧ Aside0 (Below (gb + 1) w1 wr) ∧ Aside0 ((l.take i).all cue_Check.okc = true))
  case atStart => exact ⟨0, rfl, rfl, by omega, ⟨by omega⟩, ⟨Below.refl _ _⟩, ⟨rfl⟩⟩
  case round =>
    obtain ⟨i, rfl, rfl, hi, HK, HBr, HP⟩ := hrel
    have hsz : gb + 1 ≤ wr.heap.size := Nat.le_trans (Array.getElem?_eq_some_iff.1 HX.out).1 HBr.out.size
    have hz : wr.heap[gb]? = some (.cells #[.int .i64 0] 23 (0, 0)) := (HBr.out.block gb (Nat.lt_succ_self _)).trans HX.out
    have HZ := Aside0.mk hz
    have z0 : wr.cell? ⟨gb, 0, none⟩ = some (.int .i64 0) := (blk_cell hz 0).trans rfl
    have z1 : wr.frozen? ⟨gb, 0, none⟩ = false := blk_frozen hz 0
    have hwg : w.heap.size ≤ gb := by rw [HG.out]; exact Nat.le_refl _
    have HBw := Aside0.mk (HB1.out.trans (HBr.out.mono (Nat.le_trans hwg (Nat.le_succ _))))
    clear hz
    by_cases hlt : i < l.length
    · obtain ⟨a0, a1⟩ := cue_Check.cells (Kd.C_below HC.out HBw.out) i hlt
      have HT : Aside0 ((l.take (i + 1)).all cue_Check.okc = (true && cue_Check.okc (l.getD i z40))) := ⟨by
        rw [List.take_succ_eq_append_getElem hlt, List.all_append, HP.out, List.getD_eq_getElem?_getD, List.getElem?_eq_getElem hlt]; simp⟩
      obtain ⟨x, hx⟩ : ∃ x, l.getD i z40 = x := ⟨_, rfl⟩
      rw [hx] at a0 a1 HT
      clear hx
      have i0 : ∀ W, (Instr.index 47 (.agg #[.int .i64 x.f0, .int .i64 8192, .int .i64 x.f1, .int .i64 1099511627776]) (.int .i64 0)).run Try.prog W = .ok (.agg #[.int .i64 x.f0, .int .i64 8192]) W := fun _ => by kernel_rfl
      have i1 : ∀ W, (Instr.index 47 (.agg #[.int .i64 x.f0, .int .i64 8192, .int .i64 x.f1, .int .i64 1099511627776]) (.int .i64 1)).run Try.prog W = .ok (.agg #[.int .i64 x.f1, .int .i64 1099511627776]) W := fun _ => by kernel_rfl
      have hb1 := HBr.out
      by_cases q0 : 0 ≤ x.f0 ∧ x.f0 ≤ 8192
      · obtain ⟨q0, q1⟩ := q0
        by_cases q2 : 0 ≤ x.f1 ∧ x.f1 ≤ 1099511627776
        · obtain ⟨q2, q3⟩ := q2
          go_wp2
          refine wp_loop_rounds 3 ?_
          rw [rounds_succ]
          go_wp2
          rw [rounds_succ]
          go_wp2
          rw [rounds_succ]
          go_wp2
          go_roundg (l.length - (i + 1))
          case measure => have := HK.out; omega
          case rel =>
            refine ⟨i + 1, rfl, by go_num, by omega, ⟨Nat.le_refl _⟩, ⟨?_⟩, ⟨by rw [HT.out, Bool.true_and]; exact decide_eq_true ⟨q0, q1, q2, q3⟩⟩⟩
            go_grown
        · by_cases q3 : x.f1 < 0
          all_goals
            have zz : ∀ o1 o2 o3, (((wr.alloc o1).alloc o2).alloc o3).cell? ⟨gb, 0, none⟩ = some (.int .i64 0) := fun o1 o2 o3 => (blk_cell (blk_alloc (blk_alloc (blk_alloc HZ.out _) _) _) 0).trans rfl
            have zf : ∀ o1 o2 o3, (((wr.alloc o1).alloc o2).alloc o3).frozen? ⟨gb, 0, none⟩ = false := fun o1 o2 o3 => blk_frozen (blk_alloc (blk_alloc (blk_alloc HZ.out _) _) _) 0
            have zs : ∀ o1 o2 o3, ((((wr.alloc o1).alloc o2).alloc o3).setCell ⟨gb, 0, none⟩ (.int .i64 1)).cell? ⟨gb, 0, none⟩ = some (.int .i64 1) := fun o1 o2 o3 => (blk_cell (cue_Check.heap_set (blk_alloc (blk_alloc (blk_alloc HZ.out _) _) _) 0 _) 0).trans rfl
            go_wp2
            refine wp_loop_rounds 3 ?_
            rw [rounds_succ]
            go_wp2
            rw [rounds_succ]
            go_wp2
            rw [Exit.noGoto_ret]
            have hbw := HBw.out
            refine bodyPost_ret (v := .int .i64 1) (by simp [results, Try.f10, go_sem, zs]) rfl ⟨rfl, ?_⟩
            clear zz zf zs
            go_grown
      · by_cases q1 : x.f0 < 0
        all_goals
          have zz : ∀ o1 o2, ((wr.alloc o1).alloc o2).cell? ⟨gb, 0, none⟩ = some (.int .i64 0) := fun o1 o2 => (blk_cell (blk_alloc (blk_alloc HZ.out _) _) 0).trans rfl
          have zf : ∀ o1 o2, ((wr.alloc o1).alloc o2).frozen? ⟨gb, 0, none⟩ = false := fun o1 o2 => blk_frozen (blk_alloc (blk_alloc HZ.out _) _) 0
          have zs : ∀ o1 o2, (((wr.alloc o1).alloc o2).setCell ⟨gb, 0, none⟩ (.int .i64 1)).cell? ⟨gb, 0, none⟩ = some (.int .i64 1) := fun o1 o2 => (blk_cell (cue_Check.heap_set (blk_alloc (blk_alloc HZ.out _) _) 0 _) 0).trans rfl
          go_wp2
          refine wp_loop_rounds 3 ?_
          rw [rounds_succ]
          go_wp2
          rw [Exit.noGoto_ret]
          have hbw := HBw.out
          refine bodyPost_ret (v := .int .i64 1) (by simp [results, Try.f10, go_sem, zs]) rfl ⟨rfl, ?_⟩
          clear zz zf zs
          go_grown
    · obtain rfl : i = l.length := by omega
      have := HP.out
      rw [List.take_length, HA.out] at this
      cases this
set_option maxHeartbeats 8000000 in
set_option maxRecDepth 100000 in
theorem cue_Check.walk_short (A0 : Option Addr) (c0 : Nat) (l : List S40) (w : World) (h : l.length < 2) :
    Calls Try.prog 10 #[.slice A0 l.length c0] w fun e w' => e = .returned (.int .i64 4) ∧ Below w.heap.size w w' := by
  have HB := Aside0.mk (Below.refl w.heap.size w)
  go_enter Try.func10, Try.ntmps10
  go_wp2_with ((with_reducible refine gate_dst (N := 2) rfl ?_); refine box_event ?hg (N := 2) ?hd (cs := #[.int .i64 0]) (t := 23) ?hr ?_; (case hd => rfl); (case hg => rfl); (case hr => first | (go_simp; done) | (go_simp; rfl)); intro gb hgb w1 hbox hb; have HB1 := Aside0.mk (below_step HB.out hb); have HX := Aside0.mk hbox; have HG := Aside0.mk hgb; clear hb hbox hgb)
  have z0 : w1.cell? ⟨gb, 0, none⟩ = some (.int .i64 0) := (blk_cell HX.out 0).trans rfl
  have z1 : w1.frozen? ⟨gb, 0, none⟩ = false := blk_frozen HX.out 0
  have hc5 : ∀ z, (w1.setCell ⟨gb, 0, none⟩ (.int .i64 z)).cell? ⟨gb, 0, none⟩ = some (.int .i64 z) := fun z => World.cell?_setCell_same' _ _ _ (by rw [z0]; rfl)
  repeat (go_step3; go_wp2)
  (try rw [Exit.noGoto_ret])
  refine bodyPost_ret (v := .int .i64 4) (by simp [results, Try.f10, go_sem, hc5]) rfl ⟨rfl, ?_⟩
  exact HB1.out.setCell (p := ⟨gb, 0, none⟩) (by rw [HG.out]; exact Nat.le_refl _) _
set_option maxHeartbeats 8000000 in
set_option maxRecDepth 100000 in
theorem cue_Check.walk_long (A0 : Option Addr) (c0 : Nat) (l : List S40) (w : World) (h : 64 < l.length) :
    Calls Try.prog 10 #[.slice A0 l.length c0] w fun e w' => e = .returned (.int .i64 3) ∧ Below w.heap.size w w' := by
  have HB := Aside0.mk (Below.refl w.heap.size w)
  go_enter Try.func10, Try.ntmps10
  go_wp2_with ((with_reducible refine gate_dst (N := 2) rfl ?_); refine box_event ?hg (N := 2) ?hd (cs := #[.int .i64 0]) (t := 23) ?hr ?_; (case hd => rfl); (case hg => rfl); (case hr => first | (go_simp; done) | (go_simp; rfl)); intro gb hgb w1 hbox hb; have HB1 := Aside0.mk (below_step HB.out hb); have HX := Aside0.mk hbox; have HG := Aside0.mk hgb; clear hb hbox hgb)
  have z0 : w1.cell? ⟨gb, 0, none⟩ = some (.int .i64 0) := (blk_cell HX.out 0).trans rfl
  have z1 : w1.frozen? ⟨gb, 0, none⟩ = false := blk_frozen HX.out 0
  have hc5 : ∀ z, (w1.setCell ⟨gb, 0, none⟩ (.int .i64 z)).cell? ⟨gb, 0, none⟩ = some (.int .i64 z) := fun z => World.cell?_setCell_same' _ _ _ (by rw [z0]; rfl)
  repeat (go_step3; go_wp2)
  (try rw [Exit.noGoto_ret])
  refine bodyPost_ret (v := .int .i64 3) (by simp [results, Try.f10, go_sem, hc5]) rfl ⟨rfl, ?_⟩
  exact HB1.out.setCell (p := ⟨gb, 0, none⟩) (by rw [HG.out]; exact Nat.le_refl _) _
theorem cue_Check.calls (A0 : Option Addr) (c0 : Nat) (l0 : List S40) (r : Int) (w : World) (hr0 : Kd.C k40 w A0 l0.length l0) (hc0 : l0.length ≤ c0) (h : cue_Check.f l0 = some r) :
    Calls Try.prog 10 #[.slice A0 l0.length c0] w fun e w' => e = .returned (.int .i64 r) ∧ Below w.heap.size w w' := by
  obtain rfl := Option.some.inj h
  unfold cue_Check.chk
  by_cases h1 : l0.length < 2
  · rw [if_pos h1]
    exact cue_Check.walk_short A0 c0 l0 w h1
  · rw [if_neg h1]
    by_cases h2 : 64 < l0.length
    · rw [if_pos h2]
      exact cue_Check.walk_long A0 c0 l0 w h2
    · rw [if_neg h2]
      obtain ⟨ad, rfl, _⟩ := at_T40 hr0 0 (by omega) (by omega)
      by_cases h3 : l0.all cue_Check.okc = true
      · rw [if_pos h3]
        exact cue_Check.walk_ok ad c0 l0 w hr0 (by omega) (by omega) h3 _ rfl
      · rw [if_neg h3]
        exact cue_Check.walk_bad ad c0 l0 w hr0 (by omega) (by omega) (by simpa using h3)

end Go.Proofs.Ytljjgcfifhfhdaa.X
