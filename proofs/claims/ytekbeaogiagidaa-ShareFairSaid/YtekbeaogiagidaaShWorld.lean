/- The world of share.Split: its own four blocks (shares, rests, the box of the rests, the order). -/
import Derived.Test.YtekbeaogiagidaaXWInvWordsMore
import Derived.Test.YtekbeaogiagidaaSoUniq
import Derived.Deep.OwnRows
namespace Go.Proofs.Ytekbeaogiagidaa.Sh
set_option linter.unusedVariables false
set_option linter.unusedSimpArgs false
open Go.RowKit Go.Proofs.YtekbeaogiagidaaW.PrintWords Go.Proofs.YtekbeaogiagidaaW.PrintLast Go.Proofs.YtekbeaogiagidaaW.PrintMore
open Go.Proofs.Ytekbeaogiagidaa.So
/-- The four blocks behind the caller's own world. -/
structure St (w W : World) (N : Nat) (q r o : Nat → Int) : Prop where
  bel : Below w.heap.size w W
  out : W.rowIs w.heap.size 3 N (fun j => .int .i64 (q j))
  rst : W.rowIs (w.heap.size + 1) 37 N (fun j => .int .u64 (r j))
  box : W.rowIs (w.heap.size + 1 + 1) 36 1 (fun _ => .slice (some ⟨w.heap.size + 1, 0, none⟩) N N)
  ord : W.rowIs (w.heap.size + 1 + 1 + 1) 3 N (fun j => .int .i64 (o j))
theorem St.drewN {w W : World} {N : Nat} {q r o : Nat → Int} (h : St w W N q r o) (n : Nat) : St w (W.drewN n) N q r o := ⟨pw_below_drewN h.bel n, h.out, h.rst, h.box, h.ord⟩
theorem St.made {w w1 : World} {N : Nat} (hd : Below w.heap.size w w1) (hs : w1.heap.size = w.heap.size) : St w ((((w1.alloc (.cells (madeCells #[.int .i64 0] N) 3)).alloc (.cells (madeCells #[.int .u64 0] N) 37)).alloc (.cells #[.slice (some ⟨w.heap.size + 1, 0, none⟩) N N] 36)).alloc (.cells (madeCells #[.int .i64 0] N) 3)) N (fun _ => 0) (fun _ => 0) (fun _ => 0) := by
  have s1 : ∀ (v : World) (o : Obj), (v.alloc o).heap.size = v.heap.size + 1 := fun v o => by show (v.heap.push o).size = _; simp
  refine ⟨?_, ?_, ?_, ?_, ?_⟩
  · exact (((hd.alloc (by omega) _).alloc (by rw [s1]; omega) _).alloc (by rw [s1, s1]; omega) _).alloc (by rw [s1, s1, s1]; omega) _
  · have h := World.rowIs_made w1 (.int .i64 0) N 3
    rw [hs] at h
    exact ((h.alloc _).alloc _).alloc _
  · have h := World.rowIs_made (w1.alloc (.cells (madeCells #[.int .i64 0] N) 3)) (.int .u64 0) N 37
    rw [s1, hs] at h
    exact (h.alloc _).alloc _
  · have h := World.rowIs_alloc ((w1.alloc (.cells (madeCells #[.int .i64 0] N) 3)).alloc (.cells (madeCells #[.int .u64 0] N) 37)) #[.slice (some ⟨w.heap.size + 1, 0, none⟩) N N] 36 (fun _ => .slice (some ⟨w.heap.size + 1, 0, none⟩) N N) (fun i hi => by
      have : i = 0 := by simpa using hi
      subst this; rfl)
    rw [s1, s1, hs] at h
    exact h.alloc _
  · have h := World.rowIs_made (((w1.alloc (.cells (madeCells #[.int .i64 0] N) 3)).alloc (.cells (madeCells #[.int .u64 0] N) 37)).alloc (.cells #[.slice (some ⟨w.heap.size + 1, 0, none⟩) N N] 36)) (.int .i64 0) N 3
    rw [s1, s1, s1, hs] at h
    exact h
theorem St.congr {w W : World} {N : Nat} {q r o q' r' o' : Nat → Int} (h : St w W N q r o) (e : ∀ j, j < N → q j = q' j ∧ r j = r' j ∧ o j = o' j) : St w W N q' r' o' :=
  ⟨h.bel, h.out.congr fun j hj => by show Value.int .i64 (q j) = _; rw [(e j hj).1], h.rst.congr fun j hj => by show Value.int .u64 (r j) = _; rw [(e j hj).2.1], h.box, h.ord.congr fun j hj => by show Value.int .i64 (o j) = _; rw [(e j hj).2.2]⟩
/-- What the three stores of a round want, and what they leave. -/
theorem St.stores {w W : World} {N : Nat} {q r o : Nat → Int} (h : St w W N q r o) (i : Nat) (hi : i < N) (a c d : Int) :
    W.cell? ⟨w.heap.size + 1 + 1, 0, none⟩ = some (.slice (some ⟨w.heap.size + 1, 0, none⟩) N N) ∧
    W.cell? ⟨w.heap.size, i, none⟩ = some (.int .i64 (q i)) ∧ W.frozen? ⟨w.heap.size, i, none⟩ = false ∧
    W.cell? ⟨w.heap.size + 1, i, none⟩ = some (.int .u64 (r i)) ∧ W.frozen? ⟨w.heap.size + 1, i, none⟩ = false ∧
    W.cell? ⟨w.heap.size + 1 + 1 + 1, i, none⟩ = some (.int .i64 (o i)) ∧ W.frozen? ⟨w.heap.size + 1 + 1 + 1, i, none⟩ = false ∧
    (W.setCell ⟨w.heap.size, i, none⟩ (.int .i64 a)).cell? ⟨w.heap.size + 1, i, none⟩ = some (.int .u64 (r i)) ∧
    ((W.setCell ⟨w.heap.size, i, none⟩ (.int .i64 a)).setCell ⟨w.heap.size + 1, i, none⟩ (.int .u64 c)).cell? ⟨w.heap.size + 1 + 1 + 1, i, none⟩ = some (.int .i64 (o i)) ∧
    St w (((W.setCell ⟨w.heap.size, i, none⟩ (.int .i64 a)).setCell ⟨w.heap.size + 1, i, none⟩ (.int .u64 c)).setCell ⟨w.heap.size + 1 + 1 + 1, i, none⟩ (.int .i64 d)) N
      (fun j => if j = i then a else q j) (fun j => if j = i then c else r j) (fun j => if j = i then d else o j) := by
  have hb := h.bel.size
  have x1 := h.rst.setOther (a := ⟨w.heap.size, i, none⟩) (by dsimp only; omega) (.int .i64 a)
  have x2 := (h.ord.setOther (a := ⟨w.heap.size, i, none⟩) (by dsimp only; omega) (.int .i64 a)).setOther (a := ⟨w.heap.size + 1, i, none⟩) (by dsimp only; omega) (.int .u64 c)
  refine ⟨h.box.cell (by omega), h.out.cell hi, h.out.frozen i, h.rst.cell hi, h.rst.frozen i, h.ord.cell hi, h.ord.frozen i, x1.cell hi, x2.cell hi, ?_, ?_, ?_, ?_, ?_⟩
  · exact ((h.bel.setCell (p := ⟨w.heap.size, i, none⟩) (Nat.le_refl _) _).setCell (p := ⟨w.heap.size + 1, i, none⟩) (by show _ ≤ w.heap.size + 1; omega) _).setCell (p := ⟨w.heap.size + 1 + 1 + 1, i, none⟩) (by show _ ≤ w.heap.size + 1 + 1 + 1; omega) _
  · exact ((((h.out.set i (.int .i64 a)).setOther (a := ⟨w.heap.size + 1, i, none⟩) (by dsimp only; omega) _).setOther (a := ⟨w.heap.size + 1 + 1 + 1, i, none⟩) (by dsimp only; omega) _)).congr (fun j _ => by show (if j = i then _ else _) = _; split <;> rfl)
  · exact ((x1.set i (.int .u64 c)).setOther (a := ⟨w.heap.size + 1 + 1 + 1, i, none⟩) (by dsimp only; omega) _).congr (fun j _ => by show (if j = i then _ else _) = _; split <;> rfl)
  · exact ((h.box.setOther (a := ⟨w.heap.size, i, none⟩) (by dsimp only; omega) _).setOther (a := ⟨w.heap.size + 1, i, none⟩) (by dsimp only; omega) _).setOther (a := ⟨w.heap.size + 1 + 1 + 1, i, none⟩) (by dsimp only; omega) _
  · exact (x2.set i (.int .i64 d)).congr (fun j _ => by show (if j = i then _ else _) = _; split <;> rfl)
/-- One more of the shares. -/
theorem St.inc {w W : World} {N : Nat} {q r o : Nat → Int} (h : St w W N q r o) (x : Nat) (hx : x < N) (a : Int) :
    W.cell? ⟨w.heap.size, x, none⟩ = some (.int .i64 (q x)) ∧ W.frozen? ⟨w.heap.size, x, none⟩ = false ∧ St w (W.setCell ⟨w.heap.size, x, none⟩ (.int .i64 a)) N (fun j => if j = x then a else q j) r o := by
  refine ⟨h.out.cell hx, h.out.frozen x, h.bel.setCell (p := ⟨w.heap.size, x, none⟩) (Nat.le_refl _) _, (h.out.set x (.int .i64 a)).congr (fun j _ => by show (if j = x then _ else _) = _; split <;> rfl), h.rst.setOther (by dsimp only; omega) _, h.box.setOther (by dsimp only; omega) _, h.ord.setOther (by dsimp only; omega) _⟩
/-- The sort turns the order alone. -/
theorem at_heap {w0 W : World} {blk : Nat} {d : Array Nat} (h : At w0 blk d W) {b : Nat} (hb : b ≠ blk) (hl : b < w0.heap.size) : W.heap[b]? = w0.heap[b]? := by
  obtain ⟨n, os, rfl⟩ := h
  show ((Go.Sort.putRow en (Go.Sort.ahead w0 n) blk 0 d).heap ++ os)[b]? = _
  rw [Array.getElem?_append, if_pos (by rw [size_putRow]; exact hl)]
  show ((Go.Sort.ahead w0 n).heap.modify blk _)[b]? = _
  rw [Array.getElem?_modify, if_neg (fun e => hb e.symm)]
  rfl
theorem St.row {w W : World} {N : Nat} {q r : Nat → Int} {O : List Nat} (hO : O.length = N) (hf : N ≤ 100000) (h : St w W N q r (fun j => ((O.getD j 0 : Nat) : Int))) : Row W (w.heap.size + 1 + 1 + 1) N ∧ At W (w.heap.size + 1 + 1 + 1) O.toArray W := by
  have hh : Go.Sort.Holds en W (w.heap.size + 1 + 1 + 1) 0 O.toArray := by
    intro j hj
    have hj' : j < N := by simpa [hO] using hj
    refine ⟨?_, ?_⟩
    · rw [Nat.zero_add, h.ord.cell hj']
      have : O.getD j 0 = O.toArray[j]! := by simp [List.getD_eq_getElem?_getD, getElem!_def, List.getElem?_eq_getElem (show j < O.length by omega)]
      show some (Value.int .i64 ((O.getD j 0 : Nat) : Int)) = some (en _)
      rw [this]; rfl
    · exact h.ord.frozen _
  exact ⟨⟨h.ord.lt, ⟨O.toArray, by simp [hO], hh⟩, hf⟩, Go.Proofs.SW.start hh⟩
theorem St.sorted {w W W2 : World} {N : Nat} {q r : Nat → Int} {O O2 : List Nat} (hO : O.length = N) (hO2 : O2.length = N) (hf : N ≤ 100000) (h : St w W N q r (fun j => ((O.getD j 0 : Nat) : Int))) (ha : At W (w.heap.size + 1 + 1 + 1) O2.toArray W2) : St w W2 N q r (fun j => ((O2.getD j 0 : Nat) : Int)) := by
  have hrow := (h.row hO hf).1
  have hlt : w.heap.size + 1 + 1 + 1 < W.heap.size := h.ord.lt
  have hk : ∀ b, b ≠ w.heap.size + 1 + 1 + 1 → b < W.heap.size → W2.heap[b]? = W.heap[b]? := fun b h1 h2 => at_heap ha h1 h2
  have h2 : Below w.heap.size W W2 := by
    refine ⟨?_, ?_, ?_, ha.le, fun k hk' => hk k (by omega) (by omega)⟩ <;> (obtain ⟨n, os, rfl⟩ := ha; rfl)
  refine ⟨h.bel.trans h2, h.out.of_block (hk _ (by omega) (by omega)), h.rst.of_block (hk _ (by omega) (by omega)), h.box.of_block (hk _ (by omega) (by omega)), ?_⟩
  obtain ⟨c, hb, hn, hc⟩ := h.ord
  obtain ⟨n, os, rfl⟩ := ha
  refine ⟨Go.Sort.putCells en 0 O2.toArray c, ?_, ?_, ?_⟩
  · show ((Go.Sort.putRow en (Go.Sort.ahead W n) (w.heap.size + 1 + 1 + 1) 0 O2.toArray).heap ++ os)[_]? = _
    rw [Array.getElem?_append, if_pos (by rw [size_putRow]; exact hlt)]
    show ((Go.Sort.ahead W n).heap.modify (w.heap.size + 1 + 1 + 1) _)[w.heap.size + 1 + 1 + 1]? = _
    rw [Array.getElem?_modify, if_pos rfl]
    show Option.map _ (W.heap[w.heap.size + 1 + 1 + 1]?) = _
    rw [hb]; rfl
  · simp [Go.Sort.putCells, hn]
  · intro i hi
    simp only [Go.Sort.putCells, Array.getElem?_mapIdx, hc i hi, Option.map_some]
    rw [if_pos ⟨Nat.zero_le _, by simp [hO2]; omega⟩]
    have : O2.getD i 0 = O2.toArray[i]! := by simp [List.getD_eq_getElem?_getD, getElem!_def, List.getElem?_eq_getElem (show i < O2.length by omega)]
    show some (en O2.toArray[i - 0]!) = some (Value.int .i64 ((O2.getD i 0 : Nat) : Int))
    rw [this]; rfl
/-- What the comparison reads. -/
theorem St.rests {w W : World} {N : Nat} {q o : Nat → Int} {rs : Nat → Nat} (h : St w W N q (fun j => (rs j : Int)) o) : Rests W (w.heap.size + 1 + 1 + 1) (w.heap.size + 1 + 1) (w.heap.size + 1) N N rs :=
  ⟨h.box.cell (by omega), by omega, h.box.lt, fun k hk => h.rst.cell hk, by omega, h.rst.lt⟩
/-- The shares as a list. -/
theorem St.reads {w W : World} {N : Nat} {r o : Nat → Int} {Q : List Int} (hQ : Q.length = N) (hf : N ≤ 100000) (h : St w W N (fun j => Q.getD j 0) r o) : Kd.C (Kd.int .i64) W (some ⟨w.heap.size, 0, none⟩) Q.length Q := by
  refine Kd.C_of_reads (d := (0 : Int)) ⟨rfl, ?_, fun _ => ⟨⟨w.heap.size, 0, none⟩, rfl, fun j hj => ?_⟩⟩
  · omega
  · have := h.out.cell (i := j) (by omega)
    rw [add_plain]
    exact this
theorem St.own {w W : World} {N : Nat} {r o : Nat → Int} {Q : List Int} (hQ : Q.length = N) (hf : N ≤ 100000) (h : St w W N (fun j => Q.getD j 0) r o) (ok : Nat → Prop) (hok : ok w.heap.size) : Kd.R (Kd.int .i64) 3 W w.heap.size ok (.slice (some ⟨w.heap.size, 0, none⟩) N N) Q := by
  subst hQ
  refine Kd.R_of_own ?_ (fun k hk => by simp [Value.ownBlock] at hk; exact hk ▸ hok)
  obtain ⟨c, hb, hn, hc⟩ := h.out
  refine ⟨by simp [encs], Or.inr ⟨_, _, c, rfl, Nat.le_refl _, hb, Nat.le_refl _, by unfold maxLen; omega, by simp [hn], ?_⟩⟩
  apply List.ext_getElem?
  intro j
  rcases Nat.lt_or_ge j Q.length with hj | hj
  · rw [List.getElem?_take, if_pos (by omega), Array.getElem?_toList, hc j hj]
    simp [encs, List.getD_eq_getElem?_getD, List.getElem?_eq_getElem hj]
  · rw [List.getElem?_eq_none (by simp; omega), List.getElem?_eq_none (by simp [encs]; omega)]
end Go.Proofs.Ytekbeaogiagidaa.Sh
