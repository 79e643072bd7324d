/- Boxes of many cells: a whole struct (an array among its fields) stored at once; what is then known of its cells. -/
import Derived.Test.YteflngoiebgdaaaXWInvWordsMore
import Derived.Laws.CopyOwn
import Derived.Laws.Tables
import Derived.Deep.MidRow
import Derived.Deep.Slices
namespace Go.Proofs.YteflngoiebgdaaaW.PrintWords
open Go.ChangeShapes Go.WideShapes Go.Deep Go.RowKit
/-- The cells c lie from p on. -/
def RowAt (w : World) (p : Addr) (c : List Value) : Prop := ∀ j u, c[j]? = some u → w.cell? (p.add j) = some u
theorem RowAt.below {w w1 : World} {p : Addr} {c : List Value} (h : RowAt w p c) (hb : Below w.heap.size w w1) : RowAt w1 p c := fun j u hu => (hb.cell (World.block_lt_of_cell? _ _ (h j u hu))).trans (h j u hu)
theorem RowAt.of_block {w : World} {g : Nat} {t : TypeId} {cs : Array Value} {vs : List Value} (h : w.heap[g]? = some (.cells cs t (0, 0))) (e : cs.toList = vs) : RowAt w ⟨g, 0, none⟩ vs := fun j u hu => by
  rw [Addr.add_mid, Nat.zero_add, blk_cell h j]
  subst e
  simpa using hu
theorem Kd.C_rowAt {α : Type} {d : Kd α} {w : World} {A : Option Addr} {n : Nat} {xs : List α} (h : d.C w A n xs) (z : α) (i : Int) (h0 : 0 ≤ i) (h1 : i < n) : ∃ ad c, A = some ad ∧ d.K w (xs.getD i.toNat z) c ∧ RowAt w (ad.add (i.toNat * d.sz)) c := by
  obtain ⟨ad, c, e, _, hK, hc⟩ := Kd.C_get h z i h0 h1
  exact ⟨ad, c, e, hK, fun j u hu => by rw [Go.Deep.add_add]; exact hc j u hu⟩
/-- A part of a block whose cells are known. -/
theorem range_of_block {w : World} {b : Nat} {C : Array Value} {t : TypeId} {fr : Nat × Nat} (hb : w.heap[b]? = some (.cells C t fr)) (o n : Nat) (vs : List Value) (h : (C.toList.drop o).take n = vs) : w.rangeAt b o vs := fun j v hv => by
  rw [cell_of_row w b (o + j) C t fr hb]
  subst h
  rw [List.getElem?_take] at hv
  split at hv
  · rw [List.getElem?_drop] at hv
    simpa using hv
  · cases hv
section
variable {P : Program} {ops : Array Oper} {rest : List Oper} {o : Oper} {a : Act} {Q : Exit → Act → World → Prop}
/-- Only where a store comes next. -/
theorem row_gate {W : World} {t : TypeId} {p : Tmp} {v : Operand} (_ho : o.op = .store t (.tmp p) v) (h : wpList P ops Q (o :: rest) a W) : wpList P ops Q (o :: rest) a W := h
/-- A whole struct stored into its variable. -/
theorem row_event {W : World} (hgd : o.guard = none) (ty : TypeId) (x y : Operand) (ho : o.op = .store ty x y) (hd : o.dst = none)
    (g : Nat) (cells : Array Value) (hx : a.eval x = .pointer (some ⟨g, 0, none⟩)) (hy : a.eval y = .agg cells)
    (t : TypeId) (old : Array Value) (hg : W.heap[g]? = some (.cells old t (0, 0))) (hi : (P.info? ty).map (·.size) = some cells.size)
    (hold : old.size = cells.size) (h1 : cells.all (·.oneCell') = true)
    (h : ∀ w1, w1.heap[g]? = some (.cells cells t (0, 0)) → (∀ b, b ≠ g → w1.heap[b]? = W.heap[b]?) → (∀ n w0, Below n w0 W → n ≤ g → Below n w0 w1) → wpList P ops Q rest a w1) :
    wpList P ops Q (o :: rest) a W :=
  wpList_store_row hgd ty x y ho g cells hx hy t old hg hi hold h1 (by
    rw [hd]
    exact h _ (setRow_heap W g old cells t (0, 0) hg) (fun b hb => setRow_other W g b cells hb) (fun n w0 hb hn => below_setRow hb hn cells))
/-- A value of many cells, loaded whole. -/
theorem load_big {W : World} (hgd : o.guard = none) (ty : TypeId) (x : Operand) (ho : o.op = .load ty x) (p : Addr) (hx : a.eval x = .pointer (some p)) (vs : List Value) (d : TypeDesc) (hc : RowAt W p vs)
    (hu : P.underlying ty = some d) (hd : d.isRow = true) (hi : (P.info? ty).map (·.size) = some vs.length)
    (h : wpList P ops Q rest (a.put o.dst (.agg vs.toArray)) W) : wpList P ops Q (o :: rest) a W := by
  refine wpList_plain hgd fun _ hK => ?_
  have hl : (loadCells p vs.length).run P W = .ok vs.toArray W := run_loadCells_list (P := P) W p vs hc
  have hv : (loadVar ty p).run P W = .ok (.agg vs.toArray) W := by
    cases hq : P.info? ty with
    | none => simp [hq] at hi
    | some i =>
      have hs : i.size = vs.length := by simpa [hq] using hi
      have hagg : (isAgg ty).run P W = .ok true W := by
        unfold isAgg
        rw [Sem.run_bind, run_underlying hu W]
        cases d <;> simp_all
      simp [loadVar, Sem.run_bind, hagg, sizeOf, typeInfo, hq, hs, hl]
  unfold Oper.wp execOp
  simp only [ho, hx, Instr.loadAt, Instr.sureAddr, Sem.run_bind, Sem.run_pure, Result.andThen_ok, hv]
  exact hK _ _ h
end
end Go.Proofs.YteflngoiebgdaaaW.PrintWords
