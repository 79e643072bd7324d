/- Words of our own beside the print's: a make with a capacity; []byte("..") of a constant. -/
import Derived.Test.YtmmnhokejadgaaaXWInvWordsMore
import Derived.Lib.SlBytesConst
namespace Go.Proofs.YtmmnhokejadgaaaW.PrintWords
open Go.RowKit
namespace Kd
section
variable {P : Program} {ops : Array Oper} {rest : List Oper} {o : Oper} {a : Act} {Q : Exit → Act → World → Prop}
variable {α : Type}
/-- make([]T, 0, n): an empty row with room for n elements. -/
theorem R_makecap (d : Kd α) {w0 W : World} (base e : Nat) (hgd : o.guard = none) {N : Tmp} (_hd : o.dst = some N) (t : TypeId) (x y : Operand) (ho : o.op = .makeSlice t x y) (n : Int) (hx : a.eval x = .int .i64 0) (hy : a.eval y = .int .i64 n)
    (ht : P.underlying t = some (.slice e)) (z : Value) (bytes : Nat) (hinfo : (P.info? e).map (fun i => (i.zero, i.size, i.bytes)) = some (some z, d.sz, bytes)) (_hz : z.cells.size = d.sz) (_hs0 : 0 < d.sz) (hb0 : 0 < bytes)
    (z0 : α) {ok okp : Nat → Prop} (_hzero : d.M W base okp z0 z.cells.toList) (_hok : ∀ k, okp k → ok k) (hfresh : ok W.heap.size) (h0 : 0 ≤ n) (hl : n.toNat * bytes ≤ 281474976710656) (HB : Below base w0 W) (hbase : base ≤ W.heap.size)
    (h : ∀ v1 w1, d.R e w1 base ok v1 ([] : List α) → Below base w0 w1 → W.grownBy w1 none → (∃ b, v1.ownBlock = some b ∧ W.heap.size ≤ b) → wpList P ops Q rest (a.put o.dst v1) w1) : wpList P ops Q (o :: rest) a W := by
  obtain ⟨m, rfl⟩ := Int.eq_ofNat_of_zero_le h0
  simp only [Int.toNat_natCast] at hl h
  obtain ⟨i0, hi, hzz⟩ := Option.map_eq_some_iff.1 hinfo
  simp only [Prod.mk.injEq] at hzz
  obtain ⟨hz0, hz1, hz2⟩ := hzz
  have hm : m ≤ 281474976710656 := Nat.le_trans (Nat.le_mul_of_pos_right _ hb0) hl
  have hr := run_make (P := P) W t e i0 z ht hi hz0 .i64 .i64 0 (m : Int) (by omega) (by omega)
    (by
      have h3 : ((i0.bytes * m : Nat) : Int) ≤ 281474976710656 := by rw [hz2, Nat.mul_comm]; omega
      rwa [Int.natCast_mul] at h3) (by omega)
  simp only [Int.toNat_natCast, Int.toNat_zero] at hr
  rw [hz1] at hr
  have hrow := World.ownsRow_made (base := base) (e := e) (size := d.sz) W (madeCells z.cells (m * d.sz)) m hbase (by simp [maxLen]; omega) (size_madeCells _ _)
  refine event_run hgd (by simp [execOp, ho, hx, hy, hr]) (h _ _ ⟨fun k hk => ?_, [], hrow, ⟨by simp, fun j p hj => by simp at hj⟩⟩ (HB.alloc hbase _) (World.grownBy_alloc W _ none) ⟨W.heap.size, by simp [Value.ownBlock], Nat.le_refl _⟩)
  have : W.heap.size = k := by simpa [Value.ownBlock] using hk
  subst this
  exact hfresh
/-- The row of a constant's bytes, marked by the conversion: its cells are read as they are, whatever is done elsewhere. -/
theorem V_blit {w0 W : World} (base e : Nat) {o2 : Oper} (hgd : o.guard = none) {N : Tmp} (_hd : o.dst = some N) {ns : List Int}
    (hrun : (execOp a.eval o).run P W = .ok (.value (.slice (some ⟨W.heap.size, 0, none⟩) ns.length ns.length)) (W.alloc (.cells (ns.map (Value.int .u8)).toArray e)))
    (hgd2 : o2.guard = none)
    (hrun2 : (execOp (a.put o.dst (.slice (some ⟨W.heap.size, 0, none⟩) ns.length ns.length)).eval o2).run P (W.alloc (.cells (ns.map (Value.int .u8)).toArray e)) = .ok (.value (.slice (some ⟨W.heap.size, 0, none⟩) ns.length ns.length)) (W.alloc (.cells (ns.map (Value.int .u8)).toArray e ((ns.map (Value.int .u8)).toArray.size, (ns.map (Value.int .u8)).toArray.size + 1))))
    (HB : Below base w0 W) (hbase : base ≤ W.heap.size) (hm : ns.length ≤ 9223372036854775807)
    (h : ∀ v1 w1, V (Kd.int .u8) e w1 base (fun k => True ∧ W.heap.size ≤ k ∧ True) v1 ns → Below base w0 w1 → W.grownBy w1 none → True → wpList P ops Q rest ((a.put o.dst v1).put o2.dst v1) w1) : wpList P ops Q (o :: o2 :: rest) a W := by
  refine event_run hgd hrun (event_run hgd2 hrun2 (h _ _ ?_ (HB.alloc hbase _) (World.grownBy_alloc W _ none) trivial))
  refine ⟨some ⟨W.heap.size, 0, none⟩, ns.length, rfl, Nat.le_refl _, ?_⟩
  intro W' hW
  have hg : W'.heap[W.heap.size]? = some (.cells (ns.map (Value.int .u8)).toArray e ((ns.map (Value.int .u8)).toArray.size, (ns.map (Value.int .u8)).toArray.size + 1)) := by
    rw [hW _ ⟨trivial, Nat.le_refl _, trivial⟩ (by simp)]
    exact heap_alloc_new W _
  refine C_of_reads (enc := Value.int .u8) (d := (0 : Int)) (h1 := fun _ => rfl) ⟨rfl, hm, fun _ => ⟨_, rfl, fun j hj => ?_⟩⟩
  have e1 : (Addr.add ⟨W.heap.size, 0, none⟩ j) = ⟨W.heap.size, j, none⟩ := by rw [Addr.add_lit, Nat.zero_add]
  rw [e1]
  simp [World.cell?, hg, List.getElem?_eq_getElem hj, List.getD_eq_getElem?_getD]
theorem blit_run {t e : Nat} (ht : P.underlying t = some (.slice e)) (he : P.underlying e = some (.int .u8)) {W : World} {n c : Nat} {C : Array Value} {M : Tmp} (ho : o.op = .convert t t (.tmp M)) (hv : a.eval (.tmp M) = .slice (some ⟨W.heap.size, 0, none⟩) n c) :
    (execOp a.eval o).run P (W.alloc (.cells C e)) = .ok (.value (.slice (some ⟨W.heap.size, 0, none⟩) n c)) (W.alloc (.cells C e (C.size, C.size + 1))) := by
  simp [execOp, ho, hv, Lib.run_convert_bytes_const W t e C n c ht he]
end
end Kd
theorem cAs {α : Type} {d : Kd α} {w : World} {A : Option Addr} {xs ys : List α} (e : ys = xs) (h : d.C w A xs.length xs) : d.C w A ys.length ys := by rw [e]; exact h
end Go.Proofs.YtmmnhokejadgaaaW.PrintWords
