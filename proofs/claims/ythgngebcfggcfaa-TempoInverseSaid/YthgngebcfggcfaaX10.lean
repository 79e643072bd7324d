-- written by xprint.py, an own overlay over the kit's print; not trusted: Lean checks it
import Derived.Test.YthgngebcfggcfaaX0
import Derived.Test.YthgngebcfggcfaaX4
import Derived.Test.YthgngebcfggcfaaX9
namespace Go.Proofs.Ythgngebcfggcfaa.X
open Go.RowKit Go.Proofs.YthgngebcfggcfaaW.PrintWords Go.Proofs.YthgngebcfggcfaaW.PrintLast Go.Proofs.YthgngebcfggcfaaW.PrintMore
attribute [local go_sem] max2_int min2_int max_two min_two max_three min_three max_four min_four   -- for this text's walks alone
set_option linter.unusedVariables false
set_option linter.unusedSimpArgs false

/-! ### tempo_Norm: function 16 -/
def tempo_Norm.go : Int → List S38 → List S38
  | _, [] => []
  | p, x :: l => if x.f1 = p then tempo_Norm.go x.f1 l else x :: tempo_Norm.go x.f1 l
def tempo_Norm.nrm : List S38 → List S38
  | [] => []
  | x :: l => x :: tempo_Norm.go x.f1 l
def tempo_Norm.f (k : Nat) (l0 : List S38) : Option (List S38 × Int) := (tempo_Check.f k l0).bind fun t => (if t = 0 then (if 0 < l0.length then (if l0.length < 8796093022208 then (some (tempo_Norm.nrm l0, 0)) else (none)) else (none)) else (some ([], t)))
theorem tempo_Norm.mono : ∀ a0 k, LeO (tempo_Norm.f k a0) (tempo_Norm.f (k + 1) a0) := by
  intro a0 k
  unfold tempo_Norm.f
  repeat' first
    | (with_reducible exact tempo_Check.mono _ _)
    | (with_reducible exact LeO.refl _)
    | (with_reducible refine LeO.ite ?_ ?_)
    | (with_reducible refine LeO.bind ?_ (fun _ => ?_))
/-! #### lists -/
def tempo_Norm.lst (p : Int) : List S38 → Int
  | [] => p
  | x :: l => tempo_Norm.lst x.f1 l
theorem tempo_Norm.go_snoc (x : S38) : ∀ (l : List S38) (p : Int), tempo_Norm.go p (l ++ [x]) = tempo_Norm.go p l ++ (if x.f1 = tempo_Norm.lst p l then [] else [x]) := by
  intro l
  induction l with
  | nil => intro p; simp only [List.nil_append, tempo_Norm.go, tempo_Norm.lst]; rfl
  | cons y l ih =>
    intro p
    simp only [List.cons_append, tempo_Norm.go, tempo_Norm.lst]
    split
    · exact ih y.f1
    · rw [ih y.f1, List.cons_append]; rfl
theorem tempo_Norm.lst_take (xs : List S38) : ∀ (m : Nat) (p : Int), m < xs.length → tempo_Norm.lst p (xs.take (m + 1)) = (xs.getD m z38).f1 := by
  induction xs with
  | nil => intro m p h; simp at h
  | cons y l ih =>
    intro m p h
    cases m with
    | zero => simp [tempo_Norm.lst]
    | succ m => simp only [List.take_succ_cons, tempo_Norm.lst]; rw [ih m y.f1 (by simpa using h)]; simp
theorem tempo_Norm.nrm_take (xs : List S38) (m : Nat) (h1 : 1 ≤ m) (h : m < xs.length) : tempo_Norm.nrm (xs.take (m + 1)) = tempo_Norm.nrm (xs.take m) ++ (if (xs.getD m z38).f1 = (xs.getD (m - 1) z38).f1 then [] else [xs.getD m z38]) := by
  have e : xs.take (m + 1) = xs.take m ++ [xs.getD m z38] := by
    rw [List.take_succ_eq_append_getElem h, List.getD_eq_getElem?_getD, List.getElem?_eq_getElem h]; rfl
  rw [e]
  cases xs with
  | nil => simp at h
  | cons y l =>
    obtain ⟨m, rfl⟩ : ∃ q, m = q + 1 := ⟨m - 1, by omega⟩
    simp only [List.take_succ_cons, List.cons_append, tempo_Norm.nrm, tempo_Norm.go_snoc]
    cases m with
    | zero => simp [tempo_Norm.lst]
    | succ m => rw [tempo_Norm.lst_take l m y.f1 (by have := h; simp at this; omega)]; simp
theorem tempo_Norm.go_le : ∀ (l : List S38) (p : Int), (tempo_Norm.go p l).length ≤ l.length := by
  intro l
  induction l with
  | nil => intro p; simp [tempo_Norm.go]
  | cons x l ih => intro p; simp only [tempo_Norm.go]; have := ih x.f1; split <;> simp <;> omega
theorem tempo_Norm.nrm_le (l : List S38) : (tempo_Norm.nrm l).length ≤ l.length := by
  cases l with
  | nil => simp [tempo_Norm.nrm]
  | cons x l => simp only [tempo_Norm.nrm, List.length_cons]; have := tempo_Norm.go_le l x.f1; omega
/-! #### rows of the call's own -/
/-- Block g holds the row zs, with room for cap. -/
structure tempo_Norm.Row (w : World) (g cap : Nat) (zs : List S38) : Prop where
  blk : ∃ cur, w.heap[g]? = some (.cells cur 38 (0, 0)) ∧ cur.size = cap * 2
  le : zs.length ≤ cap
  at_ : ∀ i, i < zs.length → w.cell? ⟨g, i * 2, none⟩ = some (.int .i64 (zs.getD i z38).f0) ∧ w.cell? ⟨g, i * 2 + 1, none⟩ = some (.int .i64 (zs.getD i z38).f1)
theorem tempo_Norm.Row.lt {w : World} {g cap : Nat} {zs : List S38} (h : tempo_Norm.Row w g cap zs) : g < w.heap.size := by
  obtain ⟨cur, hb, _⟩ := h.blk
  exact (Array.getElem?_eq_some_iff.1 hb).1
theorem tempo_Norm.Row.frz {w : World} {g cap : Nat} {zs : List S38} (h : tempo_Norm.Row w g cap zs) (i : Nat) : w.frozen? ⟨g, i, none⟩ = false := by
  obtain ⟨cur, hb, _⟩ := h.blk
  exact blk_frozen hb i
theorem tempo_Norm.Row.below {w w' : World} {g cap : Nat} {zs : List S38} (h : tempo_Norm.Row w g cap zs) (hb : Below w.heap.size w w') : tempo_Norm.Row w' g cap zs := by
  have hl := h.lt
  obtain ⟨cur, hc, hs⟩ := h.blk
  exact ⟨⟨cur, (hb.block g hl).trans hc, hs⟩, h.le, fun i hi => ⟨(hb.cell (p := ⟨g, i * 2, none⟩) hl).trans (h.at_ i hi).1, (hb.cell (p := ⟨g, i * 2 + 1, none⟩) hl).trans (h.at_ i hi).2⟩⟩
theorem tempo_Norm.Row.drewN {w : World} {g cap : Nat} {zs : List S38} (h : tempo_Norm.Row w g cap zs) (n : Nat) : tempo_Norm.Row (w.drewN n) g cap zs := ⟨h.blk, h.le, h.at_⟩
theorem tempo_Norm.heap_set {w : World} {g t : Nat} {cur : Array Value} (h : w.heap[g]? = some (.cells cur t (0, 0))) (j : Nat) (v : Value) : (w.setCell ⟨g, j, none⟩ v).heap[g]? = some (.cells (cur.setIfInBounds j v) t (0, 0)) := by
  obtain ⟨hlt, hk⟩ := Array.getElem?_eq_some_iff.1 h
  show (w.heap.modify g _)[g]? = _
  rw [Array.getElem?_eq_getElem (by rw [Array.size_modify]; exact hlt), Array.getElem_modify_self, hk]
  rfl
theorem tempo_Norm.Row.put {w : World} {g cap : Nat} {zs : List S38} (h : tempo_Norm.Row w g cap zs) (i : Nat) (hi : i < zs.length) (x : S38) : tempo_Norm.Row ((w.setCell ⟨g, i * 2, none⟩ (.int .i64 x.f0)).setCell ⟨g, i * 2 + 1, none⟩ (.int .i64 x.f1)) g cap (zs.set i x) := by
  obtain ⟨cur, hc, hs⟩ := h.blk
  have h1 := tempo_Norm.heap_set hc (i * 2) (.int .i64 x.f0)
  have h2 := tempo_Norm.heap_set h1 (i * 2 + 1) (.int .i64 x.f1)
  refine ⟨⟨_, h2, by simp [hs]⟩, by simpa using h.le, fun j hj => ?_⟩
  have hj' : j < zs.length := by simpa using hj
  have hle := h.le
  obtain ⟨a, b⟩ := h.at_ j hj'
  have a' : cur[j * 2]? = some (.int .i64 (zs.getD j z38).f0) := by have := blk_cell hc (j * 2); rw [a] at this; exact this.symm
  have b' : cur[j * 2 + 1]? = some (.int .i64 (zs.getD j z38).f1) := by have := blk_cell hc (j * 2 + 1); rw [b] at this; exact this.symm
  rw [blk_cell h2, blk_cell h2]
  by_cases e : j = i
  · subst e
    refine ⟨?_, ?_⟩
    · rw [Array.getElem?_setIfInBounds_ne (by omega), Array.getElem?_setIfInBounds_self_of_lt (by omega)]
      simp [List.getD_eq_getElem?_getD, hj']
    · rw [Array.getElem?_setIfInBounds_self_of_lt (by simp; omega)]
      simp [List.getD_eq_getElem?_getD, hj']
  · refine ⟨?_, ?_⟩
    · rw [Array.getElem?_setIfInBounds_ne (by omega), Array.getElem?_setIfInBounds_ne (by omega), a']
      simp [List.getD_eq_getElem?_getD, List.getElem?_set_ne (Ne.symm e)]
    · rw [Array.getElem?_setIfInBounds_ne (by omega), Array.getElem?_setIfInBounds_ne (by omega), b']
      simp [List.getD_eq_getElem?_getD, List.getElem?_set_ne (Ne.symm e)]
set_option maxHeartbeats 8000000 in
set_option maxRecDepth 100000 in
/-- The closure: of the same length? -/
theorem tempo_Norm.clo (x y : S38) (b : Bool) (h : decide (x.f1 = y.f1) = b) (w : World) :
    Calls Try.prog 33 #[.agg #[.int .i64 x.f0, .int .i64 x.f1], .agg #[.int .i64 y.f0, .int .i64 y.f1]] w fun e w' => e = .returned (.bool b) ∧ Below w.heap.size w w' := by
  have h2 : (x.f1 == y.f1) = b := by rw [← h]; rfl
  have hu38 := Try.underlying38
  go_enter Try.func33, Try.ntmps33
  go_wp2_with fail
  go_ret
  exact ⟨by simp [h2], by repeat (first | exact Below.refl _ _ | apply below_alloc)⟩
theorem tempo_Norm.Row.far {w : World} {g cap : Nat} {zs : List S38} (h : tempo_Norm.Row w g cap zs) (o : Nat) (v : Value) (ho : zs.length * 2 ≤ o) : tempo_Norm.Row (w.setCell ⟨g, o, none⟩ v) g cap zs := by
  obtain ⟨cur, hc, hs⟩ := h.blk
  have h1 := tempo_Norm.heap_set hc o v
  refine ⟨⟨_, h1, by simp [hs]⟩, h.le, fun j hj => ?_⟩
  obtain ⟨a, b⟩ := h.at_ j hj
  rw [blk_cell h1, blk_cell h1, Array.getElem?_setIfInBounds_ne (by omega), Array.getElem?_setIfInBounds_ne (by omega), ← blk_cell hc, ← blk_cell hc]
  exact ⟨a, b⟩
theorem tempo_Norm.Row.cut {w : World} {g cap : Nat} {zs : List S38} (h : tempo_Norm.Row w g cap zs) (m : Nat) : tempo_Norm.Row w g cap (zs.take m) := by
  refine ⟨h.blk, by have := h.le; simp; omega, fun j hj => ?_⟩
  have hj' : j < m ∧ j < zs.length := by simp at hj; omega
  rw [show (zs.take m).getD j z38 = zs.getD j z38 by simp [List.getD_eq_getElem?_getD, List.getElem?_take, hj'.1]]
  exact h.at_ j hj'.2
theorem tempo_Norm.Row.fars {g cap : Nat} {zs : List S38} : ∀ (vs : List Value) (o : Nat) {w : World}, tempo_Norm.Row w g cap zs → zs.length * 2 ≤ o → tempo_Norm.Row (w.setCells g o vs) g cap zs := by
  intro vs
  induction vs with
  | nil => intro o w h _; exact h
  | cons v vs ih => intro o w h ho; exact ih (o + 1) (h.far o v ho) (by omega)
theorem tempo_Norm.below_sets {base g : Nat} {w0 : World} (hg : base ≤ g) : ∀ (vs : List Value) (o : Nat) {w : World}, Below base w0 w → Below base w0 (w.setCells g o vs) := by
  intro vs
  induction vs with
  | nil => intro o w h; exact h
  | cons v vs ih => intro o w h; exact ih (o + 1) (h.setCell (p := ⟨g, o, none⟩) hg v)
theorem tempo_Norm.run_clear (w : World) (t e ty : TypeId) (ht : Try.prog.underlying t = some (.slice e)) (hv : ∀ w, (zeroValue e).run Try.prog w = .ok (.agg #[.int .i64 0, .int .i64 0]) w) (b o n c : Nat) (hn : 0 < n)
    (hc : ∀ j, j < n * 2 → (w.cell? ⟨b, o + j, none⟩).isSome = true) (hf : ∀ j, j < n * 2 → w.frozen? ⟨b, o + j, none⟩ = false) :
    (Builtin.clear_ #[t] ty #[.slice (some ⟨b, o, none⟩) n c]).run Try.prog w = .ok (.tuple #[]) (w.setCells b o (List.replicate (n * 2) (.int .i64 0))) := by
  have hzc : (Builtin.zeroCells (Value.agg #[.int .i64 0, .int .i64 0]).cells n).toList = List.replicate (n * 2) (.int .i64 0) := by
    rw [show (Value.agg #[.int .i64 0, .int .i64 0]).cells = #[.int .i64 0, .int .i64 0] from rfl]
    simp [Builtin.zeroCells]
    apply List.ext_getElem
    · simp
    · intro i h1 h2
      have : i % 2 = 0 ∨ i % 2 = 1 := by omega
      rcases this with h | h <;> simp [h]
  have hst := run_storeCells_cells (P := Try.prog) b o (List.replicate (n * 2) (.int .i64 0)) 0 w (by simpa using hc) (by simpa using hf) (by intro v hv'; rw [List.eq_of_mem_replicate hv']; rfl)
  simp only [Nat.add_zero] at hst
  obtain ⟨m, rfl⟩ : ∃ m, n = m + 1 := ⟨n - 1, by omega⟩
  simp [Builtin.clear_, run_underlying ht, hv, hzc, hst]
theorem tempo_Norm.zs_at (xs ys : List S38) (m : Nat) (h : ys.length ≤ m) : (ys ++ xs.drop ys.length).getD m z38 = xs.getD m z38 := by
  simp only [List.getD_eq_getElem?_getD]
  rw [List.getElem?_append_right h, List.getElem?_drop]
  congr 2
  omega
theorem tempo_Norm.zs_len (xs ys : List S38) (h : ys.length ≤ xs.length) : (ys ++ xs.drop ys.length).length = xs.length := by simp; omega
theorem tempo_Norm.zs_set (xs ys : List S38) (h : ys.length < xs.length) (x : S38) : (ys ++ xs.drop ys.length).set ys.length x = (ys ++ [x]) ++ xs.drop (ys ++ [x]).length := by
  rw [List.set_append_right _ _ (Nat.le_refl _), Nat.sub_self, List.drop_eq_getElem_cons h, List.set_cons_zero]
  simp
theorem tempo_Norm.Row.sec {w : World} {g cap : Nat} {zs : List S38} (h : tempo_Norm.Row w g cap zs) (k j : Nat) (x : S38) (hl : k + j < zs.length) (hx : zs.getD (k + j) z38 = x) : w.cell? ⟨g, k * 2 + j * 2, none⟩ = some (.int .i64 x.f0) ∧ w.cell? ⟨g, k * 2 + j * 2 + 1, none⟩ = some (.int .i64 x.f1) := by
  have := h.at_ (k + j) hl
  rw [hx, Nat.add_mul] at this
  exact this
theorem tempo_Norm.Row.fst {w : World} {g cap : Nat} {zs : List S38} (h : tempo_Norm.Row w g cap zs) (k : Nat) (x : S38) (hl : k < zs.length) (hx : zs.getD k z38 = x) : w.cell? ⟨g, k * 2, none⟩ = some (.int .i64 x.f0) ∧ w.cell? ⟨g, k * 2 + 1, none⟩ = some (.int .i64 x.f1) := by
  have := h.at_ k hl
  rw [hx] at this
  exact this
theorem tempo_Norm.Row.some_ {w : World} {g cap : Nat} {zs : List S38} (h : tempo_Norm.Row w g cap zs) (i : Nat) (hi : i < zs.length * 2) : (w.cell? ⟨g, i, none⟩).isSome = true := by
  have := h.at_ (i / 2) (by omega)
  have hi2 : i = i / 2 * 2 ∨ i = i / 2 * 2 + 1 := by omega
  rcases hi2 with e | e
  · rw [e, this.1]; rfl
  · rw [e, this.2]; rfl
theorem tempo_Norm.Row.goes {w wr w2 : World} {base g cap : Nat} {xs : List S38} (hR : tempo_Norm.Row wr g cap xs) (hB : Below base w wr) (hg : base ≤ g) (hb : Below wr.drew.heap.size wr.drew w2) : Below base w w2 ∧ tempo_Norm.Row w2 g cap xs := by
  have h2 : Below wr.heap.size wr w2 := (below_drew1 (Below.refl wr.heap.size wr)).trans hb
  exact ⟨hB.trans (h2.mono (Nat.le_of_lt (Nat.lt_of_le_of_lt hg hR.lt))), hR.below h2⟩
set_option maxHeartbeats 8000000 in
set_option maxRecDepth 100000 in
theorem tempo_Norm.cf (base g cap : Nat) (xs : List S38) (w : World) (hR : tempo_Norm.Row w g cap xs) (hg : base ≤ g) (hn : 1 ≤ xs.length) (hm : xs.length ≤ 70368744177664) :
    Calls Try.prog 31 #[.slice (some ⟨g, 0, none⟩) xs.length cap, .func (.func 33) #[] #[]] w fun e w' => e = .returned (.slice (some ⟨g, 0, none⟩) (tempo_Norm.nrm xs).length cap) ∧ Below base w w' ∧ tempo_Norm.Row w' g cap (tempo_Norm.nrm xs) := by
  have HR0 := Aside0.mk hR
  have hcap := hR.le
  clear hR
  have hu38 := Try.underlying38
  by_cases h2 : xs.length < 2
  · have e1 : tempo_Norm.nrm xs = xs := by
      match xs, hn, h2 with
      | [x], _, _ => rfl
      | _ :: _ :: _, _, h => simp at h; omega
    rw [e1]
    clear e1
    go_enter Try.func31, Try.ntmps31
    go_wp2
    go_ret
    exact ⟨rfl, Below.refl _ _, HR0.out⟩
  · go_enter Try.func31, Try.ntmps31
    go_wp2
    go_loopg [5] xs.length (fun gq s5 wr => ∃ k : Nat, s5 = .int .i64 k ∧ 1 ≤ k ∧ k ≤ xs.length ∧ Aside0 (xs.length - k ≤ gq) ∧ Aside0 (Below base w wr) ∧ Aside0 (tempo_Norm.Row wr g cap xs) ∧ Aside0 (tempo_Norm.nrm (xs.take k) = xs.take k))
    case atStart => exact ⟨1, rfl, by omega, by omega, ⟨by omega⟩, ⟨Below.refl _ _⟩, HR0, ⟨by cases xs <;> rfl⟩⟩
    case round =>
      clear HR0
      obtain ⟨k, rfl, hk1, hk2, HK, HB, HR, HN⟩ := hrel
      by_cases hlt : k < xs.length
      · obtain ⟨j, hj⟩ : ∃ j, k = j + 1 := ⟨k - 1, by omega⟩
        have HJ := Aside0.mk hj
        have hw : IntKind.i64.wrap ((k : Int) - 1) = (j : Int) := by rw [i64_w]; unfold wrap64; omega
        have hjl : j < xs.length := by omega
        clear hj
        obtain ⟨x, hx⟩ : ∃ x, xs.getD k z38 = x := ⟨_, rfl⟩
        obtain ⟨y, hy⟩ : ∃ y, xs.getD j z38 = y := ⟨_, rfl⟩
        obtain ⟨a0, a1⟩ := HR.out.fst k x hlt hx
        obtain ⟨b0, b1⟩ := HR.out.fst j y hjl hy
        have HX := Aside0.mk hx
        have HY := Aside0.mk hy
        clear hx hy
        have HT := Aside0.mk (tempo_Norm.nrm_take xs k hk1 hlt)
        by_cases he : x.f1 = y.f1
        · have HE := Aside0.mk he
          clear he
          have hcne : ¬ cap = k := by omega
          have hck : k ≤ cap := by omega
          go_wp2_with fail
          go_still_tail 10, (by kernel_rfl)
          change wpList _ _ _ _ _ wr.drew
          go_wp2_with (go_at_call 33; (with_reducible refine (tempo_Norm.clo x y true (decide_eq_true HE.out) _).mono ?_); rintro e w2 ⟨rfl, hb2⟩; obtain ⟨hB2_, hR2_⟩ := HR.out.goes HB.out hg hb2; have HB2 := Aside0.mk hB2_; have HR2 := Aside0.mk hR2_; clear hb2 hB2_ hR2_ HR HB)
          clear hw a0 a1 b0 b1 hcne hck
          have HT2 : Aside0 (tempo_Norm.nrm (xs.take (k + 1)) = xs.take k) := ⟨by
            rw [HT.out, show k - 1 = j by have := HJ.out; omega, HX.out, HY.out, if_pos HE.out, List.append_nil, HN.out]⟩
          clear HE HX HY HT HN
          go_loopg [5, 7] xs.length (fun gq s5 s7 wr => ∃ kk k2 : Nat, s5 = .int .i64 kk ∧ s7 = .int .i64 k2 ∧ 1 ≤ k2 ∧ k + k2 ≤ xs.length ∧ kk < k + k2 ∧ Aside0 (xs.length - (k + k2) ≤ gq) ∧ Aside0 (Below base w wr) ∧ Aside0 (kk = (tempo_Norm.nrm (xs.take (k + k2))).length) ∧ Aside0 (tempo_Norm.Row wr g cap (tempo_Norm.nrm (xs.take (k + k2)) ++ xs.drop (tempo_Norm.nrm (xs.take (k + k2))).length)))
          case atStart =>
            have hl : (xs.take k).length = k := by simp; omega
            exact ⟨k, 1, rfl, rfl, by omega, by omega, by omega, ⟨by omega⟩, HB2, ⟨by rw [HT2.out, hl]⟩, ⟨by rw [HT2.out, hl, List.take_append_drop]; exact HR2.out⟩⟩
          case round =>
            clear HB2 HR2 HT2
            obtain ⟨kk, k2, rfl, rfl, h1, hle, hkk, HK2, HB, HL, HR⟩ := hrel
            have HZ := Aside0.mk (tempo_Norm.zs_len xs (tempo_Norm.nrm (xs.take (k + k2))) (by have := HL.out; omega))
            by_cases hlt2 : k + k2 < xs.length
            · obtain ⟨j2, hj2⟩ : ∃ j2, k2 = j2 + 1 := ⟨k2 - 1, by omega⟩
              have HJ2 := Aside0.mk hj2
              have hw : IntKind.i64.wrap ((k2 : Int) - 1) = (j2 : Int) := by rw [i64_w]; unfold wrap64; omega
              have hj2l : j2 < xs.length - k := by omega
              have hk2l : k2 < xs.length - k := by omega
              have hs2 : k + j2 < xs.length := by omega
              clear hj2
              obtain ⟨x, hx⟩ : ∃ x, xs.getD (k + k2) z38 = x := ⟨_, rfl⟩
              obtain ⟨y, hy⟩ : ∃ y, xs.getD (k + j2) z38 = y := ⟨_, rfl⟩
              obtain ⟨u, hu⟩ : ∃ u, xs.getD kk z38 = u := ⟨_, rfl⟩
              have HX := Aside0.mk hx
              have HY := Aside0.mk hy
              have hx2 := (tempo_Norm.zs_at xs (tempo_Norm.nrm (xs.take (k + k2))) (k + k2) (by have := HL.out; omega)).trans hx
              have hy2 := (tempo_Norm.zs_at xs (tempo_Norm.nrm (xs.take (k + k2))) (k + j2) (by have := HL.out; have := HJ2.out; omega)).trans hy
              have hu2 := (tempo_Norm.zs_at xs (tempo_Norm.nrm (xs.take (k + k2))) kk (by have := HL.out; omega)).trans hu
              obtain ⟨a0, a1⟩ := HR.out.sec k k2 x (by rw [HZ.out]; omega) hx2
              obtain ⟨b0, b1⟩ := HR.out.sec k j2 y (by rw [HZ.out]; omega) hy2
              have HX2 := Aside0.mk hx2
              have HU2 := Aside0.mk hu2
              clear hx hy hu hx2 hy2 hu2
              have HT := Aside0.mk (tempo_Norm.nrm_take xs (k + k2) (by omega) hlt2)
              by_cases he : x.f1 = y.f1
              · have HE := Aside0.mk he
                clear he
                go_wp2_with fail
                go_still_tail 10, (by kernel_rfl)
                change wpList _ _ _ _ _ wr.drew
                go_wp2_with (go_at_call 33; (with_reducible refine (tempo_Norm.clo x y true (decide_eq_true HE.out) _).mono ?_); rintro e w2 ⟨rfl, hb2⟩; obtain ⟨hB2_, hR2_⟩ := HR.out.goes HB.out hg hb2; have HB2 := Aside0.mk hB2_; have HR2 := Aside0.mk hR2_; clear hb2 hB2_ hR2_ HR HB)
                go_roundg (xs.length - (k + (k2 + 1)))
                case measure => have := HK2.out; omega
                case rel =>
                  have ht : tempo_Norm.nrm (xs.take (k + (k2 + 1))) = tempo_Norm.nrm (xs.take (k + k2)) := by
                    rw [← Nat.add_assoc, HT.out, show k + k2 - 1 = k + j2 by have := HJ2.out; omega, HX.out, HY.out, if_pos HE.out, List.append_nil]
                  exact ⟨kk, k2 + 1, rfl, by go_num, by omega, by omega, by omega, ⟨Nat.le_refl _⟩, HB2, ⟨by rw [ht]; exact HL.out⟩, ⟨by rw [ht]; exact HR2.out⟩⟩
              · have HE := Aside0.mk he
                clear he
                have hkl : kk < xs.length := by omega
                go_wp2_with fail
                go_still_tail 10, (by kernel_rfl)
                change wpList _ _ _ _ _ wr.drew
                go_wp2_with (go_at_call 33; (with_reducible refine (tempo_Norm.clo x y false (decide_eq_false HE.out) _).mono ?_); rintro e w2 ⟨rfl, hb2⟩; obtain ⟨hB2_, hR2_⟩ := HR.out.goes HB.out hg hb2; have HB2 := Aside0.mk hB2_; have HR2 := Aside0.mk hR2_; clear hb2 hB2_ hR2_ HR HB; obtain ⟨a0, a1⟩ := HR2.out.sec k k2 x (by rw [HZ.out]; omega) HX2.out; obtain ⟨d0, d1⟩ := HR2.out.fst kk u (by rw [HZ.out]; omega) HU2.out; have df0 := HR2.out.frz (kk * 2); have df1 := HR2.out.frz (kk * 2 + 1))
                go_roundg (xs.length - (k + (k2 + 1)))
                case measure => have := HK2.out; omega
                case rel =>
                  have ht : tempo_Norm.nrm (xs.take (k + (k2 + 1))) = tempo_Norm.nrm (xs.take (k + k2)) ++ [x] := by
                    rw [← Nat.add_assoc, HT.out, show k + k2 - 1 = k + j2 by have := HJ2.out; omega, HX.out, HY.out, if_neg HE.out]
                  have hp := HR2.out.put kk (by rw [HZ.out]; omega) x
                  rw [HL.out, tempo_Norm.zs_set xs _ (by have := HL.out; omega)] at hp
                  exact ⟨kk + 1, k2 + 1, by go_num, by go_num, by omega, by omega, by omega, ⟨Nat.le_refl _⟩, ⟨(HB2.out.setCell (p := ⟨g, kk * 2, none⟩) hg _).setCell (p := ⟨g, kk * 2 + 1, none⟩) hg _⟩, ⟨by rw [ht, List.length_append, List.length_singleton, HL.out]⟩, ⟨by rw [ht]; rw [HL.out]; exact hp⟩⟩
            · have hend : k + k2 = xs.length := by omega
              have hkl : kk < xs.length := by omega
              have hcl : ∀ ty, (Builtin.clear_ #[22] ty #[.slice (some ⟨g, kk * 2, none⟩) (xs.length - kk) (cap - kk)]).run Try.prog wr = .ok (.tuple #[]) (wr.setCells g (kk * 2) (List.replicate ((xs.length - kk) * 2) (.int .i64 0))) :=
                fun ty => tempo_Norm.run_clear wr 22 38 ty Try.underlying22 (fun _ => by kernel_rfl) g (kk * 2) _ _ (by omega) (fun j hj => HR.out.some_ _ (by rw [HZ.out]; omega)) (fun j hj => HR.out.frz _)
              have hcne : ¬ cap = kk := by omega
              have hckk : kk ≤ cap := by omega
              have HEn := Aside0.mk hend
              clear hend
              go_wp2
              go_ret
              have e2 : tempo_Norm.nrm (xs.take (k + k2)) = tempo_Norm.nrm xs := by rw [HEn.out, List.take_length]
              have hl := HL.out
              rw [e2] at hl
              refine ⟨by rw [hl]; rfl, tempo_Norm.below_sets hg _ _ HB.out, tempo_Norm.Row.fars _ _ ?_ (by rw [hl]; exact Nat.le_refl _)⟩
              have := HR.out.cut (tempo_Norm.nrm (xs.take (k + k2))).length
              rw [List.take_left, e2] at this
              exact this
        · have HE := Aside0.mk he
          clear he
          go_wp2_with fail
          go_still_tail 10, (by kernel_rfl)
          change wpList _ _ _ _ _ wr.drew
          go_wp2_with (go_at_call 33; (with_reducible refine (tempo_Norm.clo x y false (decide_eq_false HE.out) _).mono ?_); rintro e w2 ⟨rfl, hb2⟩; obtain ⟨hB2_, hR2_⟩ := HR.out.goes HB.out hg hb2; have HB2 := Aside0.mk hB2_; have HR2 := Aside0.mk hR2_; clear hb2 hB2_ hR2_ HR HB)
          go_roundg (xs.length - (k + 1))
          case measure => have := HK.out; omega
          case rel =>
            refine ⟨k + 1, by go_num, by omega, by omega, ⟨Nat.le_refl _⟩, HB2, HR2, ⟨?_⟩⟩
            rw [HT.out, show k - 1 = j by have := HJ.out; omega, HX.out, HY.out, if_neg HE.out, HN.out, List.take_succ_eq_append_getElem hlt]
            have := HX.out
            rw [List.getD_eq_getElem?_getD, List.getElem?_eq_getElem hlt] at this
            rw [← this]
            rfl
      · obtain rfl : k = xs.length := by omega
        go_wp2
        go_ret
        have e2 := HN.out
        rw [List.take_length] at e2
        rw [e2]
        exact ⟨rfl, HB.out, HR.out⟩
theorem tempo_Norm.Row.ofR {w : World} {base : Nat} {v : Value} {zs : List S38} (h : Kd.R k38 38 w base (fun _ => True) v zs) (hp : 0 < zs.length) : ∃ g cap, v = .slice (some ⟨g, 0, none⟩) zs.length cap ∧ base ≤ g ∧ cap ≤ maxLen ∧ tempo_Norm.Row w g cap zs := by
  obtain ⟨_, inner, ⟨hl, ho⟩, hr⟩ := id h
  rcases ho with ⟨_, h0⟩ | ⟨g, cap, cur, rfl, hb, hc, hle, hcap, hs, htk⟩
  · omega
  · refine ⟨g, cap, rfl, hb, hcap, ⟨cur, hc, hs⟩, hle, fun i hi => ?_⟩
    obtain ⟨A, c, e, _, hC⟩ := Kd.R_reads h
    cases e
    obtain ⟨ad, e, h0, h1⟩ := at_T38 hC (i : Int) (by omega) (by omega)
    cases e
    have ea : (Addr.add ⟨g, 0, none⟩ ((i : Int).toNat * 2)) = ⟨g, i * 2, none⟩ := by rw [Addr.add_lit, Nat.zero_add, Int.toNat_natCast]
    rw [ea] at h0 h1
    have er : rd_T38 zs (i : Int) = zs.getD i z38 := by unfold rd_T38; rw [Int.toNat_natCast]
    rw [er] at h0 h1
    exact ⟨h0, h1⟩
theorem tempo_Norm.two_at {L : List Value} {i : Nat} {a b : Value} (h0 : L[i]? = some a) (h1 : L[i + 1]? = some b) : (L.drop i).take 2 = [a, b] := by
  obtain ⟨hi, rfl⟩ := List.getElem?_eq_some_iff.1 h0
  obtain ⟨hj, rfl⟩ := List.getElem?_eq_some_iff.1 h1
  rw [List.drop_eq_getElem_cons hi, List.drop_eq_getElem_cons hj]
  rfl
theorem tempo_Norm.Row.toR {w : World} {base g cap : Nat} {zs : List S38} (h : tempo_Norm.Row w g cap zs) (hb : base ≤ g) (hc : cap ≤ maxLen) : Kd.R k38 38 w base (fun _ => True) (.slice (some ⟨g, 0, none⟩) zs.length cap) zs := by
  obtain ⟨cur, hcur, hs⟩ := h.blk
  have hle := h.le
  have hlen : (cur.toList.take (zs.length * 2)).length = zs.length * 2 := by simp; omega
  refine ⟨fun _ _ => trivial, cur.toList.take (zs.length * 2), ⟨hlen, .inr ⟨g, cap, cur, rfl, hb, hcur, hle, hc, hs, rfl⟩⟩, hlen, fun j p hp => ?_⟩
  obtain ⟨hj, rfl⟩ := List.getElem?_eq_some_iff.1 hp
  obtain ⟨a, b⟩ := h.at_ j hj
  have a' : cur[j * 2]? = some (.int .i64 (zs.getD j z38).f0) := by have := blk_cell hcur (j * 2); rw [a] at this; exact this.symm
  have b' : cur[j * 2 + 1]? = some (.int .i64 (zs.getD j z38).f1) := by have := blk_cell hcur (j * 2 + 1); rw [b] at this; exact this.symm
  have e : zs.getD j z38 = zs[j] := by simp [List.getD_eq_getElem?_getD, hj]
  rw [e] at a' b'
  show k38.M _ _ _ zs[j] (((cur.toList.take (zs.length * 2)).drop (j * 2)).take 2)
  rw [tempo_Norm.two_at (a := .int .i64 zs[j].f0) (b := .int .i64 zs[j].f1) (by rw [List.getElem?_take_of_lt (by omega)]; simpa using a') (by rw [List.getElem?_take_of_lt (by omega)]; simpa using b')]
  exact k38_mkM _ _ _ _
set_option maxHeartbeats 8000000 in
set_option maxRecDepth 100000 in
theorem tempo_Norm.calls (k : Nat) (A0 : Option Addr) (c0 : Nat) (l0 : List S38) (r1 : List S38) (r2 : Int) (w : World) (hr0 : Kd.C k38 w A0 l0.length l0) (hc0 : l0.length ≤ c0) (h : tempo_Norm.f k l0 = some (r1, r2)) :
    Calls Try.prog 16 #[.slice A0 l0.length c0] w fun e w' => ∃ v0_ : Value, e = .returned (.tuple #[v0_, .int .i64 r2]) ∧ Kd.R k38 38 w' w.heap.size (fun _ => True) v0_ r1 ∧ Below w.heap.size w w' := by
  have HR := Aside0.mk hr0
  have HC := Aside0.mk hc0
  clear hr0 hc0
  unfold tempo_Norm.f at h
  cases hck : tempo_Check.f k l0 with
  | none => rw [hck] at h; exact absurd h (by simp)
  | some t =>
    rw [hck, Option.bind_some] at h
    have HCK := Aside0.mk hck
    clear hck
    by_cases c0_ : t = 0
    · subst c0_
      rw [if_pos rfl] at h
      by_cases hp : 0 < l0.length
      · rw [if_pos hp] at h
        by_cases hm : l0.length < 8796093022208
        · rw [if_pos hm] at h
          obtain ⟨rfl, rfl⟩ := Prod.mk.inj (Option.some.inj h)
          clear h
          have HCL : Aside0 (api_Tempo_32.f l0 = some l0) := ⟨by unfold api_Tempo_32.f; rw [Option.bind_some, if_pos (by simpa using hm)]; rfl⟩
          go_enter Try.func16, Try.ntmps16
          go_wp2_with (first
            | (go_at_call 12; (with_reducible refine (tempo_Check.calls k A0 c0 l0 _ _ HR.out HC.out HCK.out).mono ?_); rintro e w1 ⟨rfl, hb⟩; have HB1 := Aside0.mk hb; clear hb)
            | (go_at_call 32; (with_reducible refine (api_Tempo_32.calls A0 c0 l0 l0 _ (Kd.C_below HR.out HB1.out) HC.out HCL.out).mono ?_); rintro e w2 ⟨v0, rfl, ho, hb⟩; obtain ⟨g, cap, rfl, hg, hcp, hRow⟩ := tempo_Norm.Row.ofR ho hp; have HG := Aside0.mk (Nat.le_trans HB1.out.size hg); have HCP := Aside0.mk hcp; have HB2 := Aside0.mk (below_step HB1.out hb); have HRow := Aside0.mk hRow; clear ho hb hRow hg hcp)
            | (go_at_call 31; (refine (tempo_Norm.cf w.heap.size g cap l0 _ HRow.out HG.out hp (by omega)).mono ?_); rintro e w3 ⟨rfl, hb3, hr3⟩; have HB3 := Aside0.mk (HB2.out.trans hb3); have HR3 := Aside0.mk hr3; clear hb3 hr3))
          go_ret2
          exact ⟨_, rfl, HR3.out.toR HG.out HCP.out, HB3.out⟩
        · rw [if_neg hm] at h; exact absurd h (by simp)
      · rw [if_neg hp] at h; exact absurd h (by simp)
    · rw [if_neg c0_] at h
      have hne : (t == 0) = false := by simpa using c0_
      have hne2 : (t != 0) = true := by simpa using c0_
      obtain ⟨rfl, rfl⟩ := Prod.mk.inj (Option.some.inj h)
      clear h
      go_enter Try.func16, Try.ntmps16
      go_wp2_with (go_at_call 12; (with_reducible refine (tempo_Check.calls k A0 c0 l0 _ _ HR.out HC.out HCK.out).mono ?_); rintro e w1 ⟨rfl, hb⟩; have HB1 := Aside0.mk hb; clear hb)
      go_ret2
      exact ⟨_, rfl, Kd.R_nil _ _ _ _ _, HB1.out⟩

end Go.Proofs.Ythgngebcfggcfaa.X
