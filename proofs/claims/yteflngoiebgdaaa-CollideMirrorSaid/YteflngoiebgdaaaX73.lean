-- written by xprint.py, an own overlay over the kit's print; not trusted: Lean checks it
import Derived.Test.YteflngoiebgdaaaX0
import Derived.Test.YteflngoiebgdaaaX6
import Derived.Test.YteflngoiebgdaaaX7
import Derived.Test.YteflngoiebgdaaaX8
import Derived.Test.YteflngoiebgdaaaX81
import Derived.Test.YteflngoiebgdaaaX82
namespace Go.Proofs.Yteflngoiebgdaaa.X
open Go.RowKit Go.Proofs.YteflngoiebgdaaaW.PrintWords Go.Proofs.YteflngoiebgdaaaW.PrintLast Go.Proofs.YteflngoiebgdaaaW.PrintMore
attribute [local go_sem] max2_int min2_int max_two min_two max_three min_three max_four min_four   -- for this text's walks alone
set_option linter.unusedVariables false
set_option linter.unusedSimpArgs false

/-! ### movement_Mirror: function 24 -/
/-! #### the mirror image of a valid pose, told plainly -/
/-- An angle in the mirror. -/
def posture_MirrorPose.nm (a : Int) : Int := Int.tmod (wrap64 ((Int.tmod a 256) + 256)) 256
def posture_MirrorPose.am (a : Int) : Int := posture_MirrorPose.nm (wrap64 (-(posture_MirrorPose.nm a)))
theorem posture_MirrorPose.angle (a : Int) : angle_Mirror.f a = some (posture_MirrorPose.am a) := rfl
theorem posture_MirrorPose.put3 {W : World} {g : Nat} {x y z : Value} (h : W.heap[g]? = some (.cells #[x, y, z] 51 (0, 0))) (v : Value) :
    W.cell? ⟨g, 0, none⟩ = some x ∧ W.cell? ⟨g, 1, none⟩ = some y ∧ W.cell? ⟨g, 2, none⟩ = some z ∧ W.frozen? ⟨g, 0, none⟩ = false ∧ W.frozen? ⟨g, 1, none⟩ = false ∧ W.frozen? ⟨g, 2, none⟩ = false ∧ (W.setCell ⟨g, 0, none⟩ v).heap[g]? = some (.cells #[v, y, z] 51 (0, 0)) :=
  ⟨(blk_cell h 0).trans rfl, (blk_cell h 1).trans rfl, (blk_cell h 2).trans rfl, blk_frozen h 0, blk_frozen h 1, blk_frozen h 2, (blk_put h 0 v rfl)⟩
set_option maxHeartbeats 4000000 in
set_option maxRecDepth 100000 in
theorem posture_MirrorPose.aim_calls (k : Nat) (i x y z : Int) (w : World) (h : aim_Check.f k i x y z = some 0) :
    Calls Try.prog 63 #[.int .i64 i, .agg #[.int .i64 x, .int .i64 y, .int .i64 z]] w fun e w' => e = .returned (.tuple #[.agg #[.int .i64 (posture_MirrorPose.am x), .int .i64 y, .int .i64 z], .int .i64 0]) ∧ Below w.heap.size w w' := by
  have hu51 := Try.underlying51
  have HB := Aside0.mk (Below.refl w.heap.size w)
  have A3 := Aside0.mk h
  clear h
  go_enter Try.func63, Try.ntmps63
  go_wp2_with (first
    | ((with_reducible refine gate_dst (N := 3) rfl ?_); refine box_event ?hg (N := 3) ?hd (cs := #[.int .i64 x, .int .i64 y, .int .i64 z]) (t := 51) ?hr ?_; (case hd => rfl); (case hg => rfl); (case hr => first | (go_simp; done) | (go_simp; rfl)); intro g3 hg3 w1 hbox hb; have HB1 := Aside0.mk (below_step HB.out hb); have HX3 := Aside0.mk hbox; have HG3 := Aside0.mk hg3; clear hb hbox hg3)
    | ((with_reducible refine gate_dst (N := 4) rfl ?_); refine box_event ?hg (N := 4) ?hd (cs := #[.int .i64 0, .int .i64 0, .int .i64 0]) (t := 51) ?hr ?_; (case hd => rfl); (case hg => rfl); (case hr => first | (go_simp; done) | (go_simp; rfl)); intro g4 hg4 w2 hbox hb; have HB2 := Aside0.mk (below_step HB1.out hb); have HX4 := Aside0.mk hbox; have HY3 := Aside0.mk (blk_below HX3.out hb); have HG4 := Aside0.mk hg4; have NE := Aside0.mk (show g4 ≠ g3 from fun e => by have := blk_lt HX3.out; omega); obtain ⟨c0, c1, c2, _, _, _, _⟩ := posture_MirrorPose.put3 HY3.out (.int .i64 0); clear hb hbox hg4)
    | (go_at_call 67; (with_reducible refine (aim_Check.calls k i x y z 0 _ A3.out).mono ?_); rintro e w3 ⟨rfl, hb⟩; have HB3 := Aside0.mk (below_step HB2.out hb); have HZ3 := Aside0.mk (blk_below HY3.out hb); have HZ4 := Aside0.mk (blk_below HX4.out hb); clear hb c0 c1 c2; obtain ⟨c0, c1, c2, f0, _, _, _⟩ := posture_MirrorPose.put3 HZ3.out (.int .i64 0))
    | (go_at_call 61; (with_reducible refine (angle_Mirror.calls x _ _ (posture_MirrorPose.angle x)).mono ?_); rintro e w4 ⟨rfl, hd⟩; have hb := hd.below; clear hd; have HB4 := Aside0.mk (below_step HB3.out hb); have HV3 := Aside0.mk (blk_below HZ3.out hb); have HV4 := Aside0.mk (blk_below HZ4.out hb); clear hb c0 c1 c2 f0; obtain ⟨c0, c1, c2, f0, _, _, p3⟩ := posture_MirrorPose.put3 HV3.out (.int .i64 (posture_MirrorPose.am x)); obtain ⟨d0, d1, d2, _, _, _, _⟩ := posture_MirrorPose.put3 p3 (.int .i64 0); have P4 := (Below.heap_setCell w4 ⟨g3, 0, none⟩ (.int .i64 (posture_MirrorPose.am x)) g4 NE.out).trans HV4.out; obtain ⟨e0, _, _, e1, _, _, P5⟩ := posture_MirrorPose.put3 P4 (.int .i64 (posture_MirrorPose.am x)); obtain ⟨_, e2, _, _, e3, _, _⟩ := posture_MirrorPose.put3 P5 (.int .i64 0); have P6 := blk_put P5 1 (.int .i64 y) rfl; have e4 := (blk_cell P6 2).trans (show _ = some (Value.int .i64 0) from rfl); have e5 := blk_frozen P6 2; have P7 := blk_put P6 2 (.int .i64 z) rfl; have HP7 := Aside0.mk P7; clear P4 P5 P6 P7 p3))
  refine bodyPost_ret (results_ct rfl _ _ g4 51 #[.int .i64 (posture_MirrorPose.am x), .int .i64 y, .int .i64 z] (0, 0) _ rfl HP7.out Try.underlying51 rfl (by kernel_rfl)) rfl ?_
  have k3 : w.heap.size ≤ g3 := by rw [HG3.out]; exact Nat.le_refl _
  have k4 : w.heap.size ≤ g4 := by rw [HG4.out]; exact HB1.out.size
  exact ⟨rfl, (((HB4.out.setCell (p := ⟨g3, 0, none⟩) k3 _).setCell (p := ⟨g4, 0, none⟩) k4 _).setCell (p := ⟨g4, 1, none⟩) k4 _).setCell (p := ⟨g4, 2, none⟩) k4 _⟩
theorem posture_MirrorPose.swap : aim_Swap.f 0 = some (1, 0) ∧ aim_Swap.f 1 = some (0, 0) ∧ aim_Swap.f 2 = some (2, 0) ∧ aim_Swap.f 3 = some (4, 0) ∧ aim_Swap.f 4 = some (3, 0) ∧ aim_Swap.f 5 = some (5, 0) := ⟨rfl, rfl, rfl, rfl, rfl, rfl⟩
def posture_MirrorPose.T4 : Bool × List (List Nat × List Nat) := (true, [([], []), ([0], [0]), ([1], [1]), ([2], [2]), ([], []), ([4], [4]), ([5], [5]), ([3, 6], [3, 6]), ([], []), ([8], [8]), ([9], [9]), ([], []), ([11], [11]), ([7, 10, 12], [7, 10, 12]), ([], []), ([14, 13, 10, 0, 1, 2, 3, 4, 5, 6, 7, 8, 9, 10, 11, 12, 13, 14], [13, 14])])
def posture_MirrorPose.B4 : List Nat := [0, 1, 3, 7, 0, 16, 48, 127, 0, 256, 768, 0, 2048, 8191, 0, 32767]
theorem posture_MirrorPose.tab4 : rtab .any (opsOf Try.f39 4) = posture_MirrorPose.T4 := by kernel_rfl
theorem posture_MirrorPose.bits4 : waitsOk posture_MirrorPose.T4.2 posture_MirrorPose.B4 = true := by kernel_rfl
theorem posture_MirrorPose.aims_at {W : World} {g : Nat} {a0 a1 a2 a3 a4 a5 a6 a7 a8 a9 a10 a11 a12 a13 a14 a15 a16 a17 a18 a19 a20 a21 : Int} (h : W.heap[g]? = some (.cells #[.int .i64 a0, .int .i64 a1, .int .i64 a2, .int .i64 a3, .int .i64 a4, .int .i64 a5, .int .i64 a6, .int .i64 a7, .int .i64 a8, .int .i64 a9, .int .i64 a10, .int .i64 a11, .int .i64 a12, .int .i64 a13, .int .i64 a14, .int .i64 a15, .int .i64 a16, .int .i64 a17, .int .i64 a18, .int .i64 a19, .int .i64 a20, .int .i64 a21] 54 (0, 0))) : RowAt W ⟨g, 4, none⟩ [.int .i64 a4, .int .i64 a5, .int .i64 a6, .int .i64 a7, .int .i64 a8, .int .i64 a9, .int .i64 a10, .int .i64 a11, .int .i64 a12, .int .i64 a13, .int .i64 a14, .int .i64 a15, .int .i64 a16, .int .i64 a17, .int .i64 a18, .int .i64 a19, .int .i64 a20, .int .i64 a21] := fun j u hu => by
  rw [Addr.add_mid, blk_cell h (4 + j)]
  rw [List.getElem?_toArray, Nat.add_comm]; exact hu
theorem posture_MirrorPose.ix0 (a4 a5 a6 a7 a8 a9 a10 a11 a12 a13 a14 a15 a16 a17 a18 a19 a20 a21 : Int) : ∀ w, (Instr.index 52 (.agg #[.int .i64 a4, .int .i64 a5, .int .i64 a6, .int .i64 a7, .int .i64 a8, .int .i64 a9, .int .i64 a10, .int .i64 a11, .int .i64 a12, .int .i64 a13, .int .i64 a14, .int .i64 a15, .int .i64 a16, .int .i64 a17, .int .i64 a18, .int .i64 a19, .int .i64 a20, .int .i64 a21]) (.int .i64 0)).run Try.prog w = .ok (.agg #[.int .i64 a4, .int .i64 a5, .int .i64 a6]) w := fun _ => by kernel_rfl
theorem posture_MirrorPose.ix1 (a4 a5 a6 a7 a8 a9 a10 a11 a12 a13 a14 a15 a16 a17 a18 a19 a20 a21 : Int) : ∀ w, (Instr.index 52 (.agg #[.int .i64 a4, .int .i64 a5, .int .i64 a6, .int .i64 a7, .int .i64 a8, .int .i64 a9, .int .i64 a10, .int .i64 a11, .int .i64 a12, .int .i64 a13, .int .i64 a14, .int .i64 a15, .int .i64 a16, .int .i64 a17, .int .i64 a18, .int .i64 a19, .int .i64 a20, .int .i64 a21]) (.int .i64 1)).run Try.prog w = .ok (.agg #[.int .i64 a7, .int .i64 a8, .int .i64 a9]) w := fun _ => by kernel_rfl
theorem posture_MirrorPose.ix2 (a4 a5 a6 a7 a8 a9 a10 a11 a12 a13 a14 a15 a16 a17 a18 a19 a20 a21 : Int) : ∀ w, (Instr.index 52 (.agg #[.int .i64 a4, .int .i64 a5, .int .i64 a6, .int .i64 a7, .int .i64 a8, .int .i64 a9, .int .i64 a10, .int .i64 a11, .int .i64 a12, .int .i64 a13, .int .i64 a14, .int .i64 a15, .int .i64 a16, .int .i64 a17, .int .i64 a18, .int .i64 a19, .int .i64 a20, .int .i64 a21]) (.int .i64 2)).run Try.prog w = .ok (.agg #[.int .i64 a10, .int .i64 a11, .int .i64 a12]) w := fun _ => by kernel_rfl
theorem posture_MirrorPose.ix3 (a4 a5 a6 a7 a8 a9 a10 a11 a12 a13 a14 a15 a16 a17 a18 a19 a20 a21 : Int) : ∀ w, (Instr.index 52 (.agg #[.int .i64 a4, .int .i64 a5, .int .i64 a6, .int .i64 a7, .int .i64 a8, .int .i64 a9, .int .i64 a10, .int .i64 a11, .int .i64 a12, .int .i64 a13, .int .i64 a14, .int .i64 a15, .int .i64 a16, .int .i64 a17, .int .i64 a18, .int .i64 a19, .int .i64 a20, .int .i64 a21]) (.int .i64 3)).run Try.prog w = .ok (.agg #[.int .i64 a13, .int .i64 a14, .int .i64 a15]) w := fun _ => by kernel_rfl
theorem posture_MirrorPose.ix4 (a4 a5 a6 a7 a8 a9 a10 a11 a12 a13 a14 a15 a16 a17 a18 a19 a20 a21 : Int) : ∀ w, (Instr.index 52 (.agg #[.int .i64 a4, .int .i64 a5, .int .i64 a6, .int .i64 a7, .int .i64 a8, .int .i64 a9, .int .i64 a10, .int .i64 a11, .int .i64 a12, .int .i64 a13, .int .i64 a14, .int .i64 a15, .int .i64 a16, .int .i64 a17, .int .i64 a18, .int .i64 a19, .int .i64 a20, .int .i64 a21]) (.int .i64 4)).run Try.prog w = .ok (.agg #[.int .i64 a16, .int .i64 a17, .int .i64 a18]) w := fun _ => by kernel_rfl
theorem posture_MirrorPose.ix5 (a4 a5 a6 a7 a8 a9 a10 a11 a12 a13 a14 a15 a16 a17 a18 a19 a20 a21 : Int) : ∀ w, (Instr.index 52 (.agg #[.int .i64 a4, .int .i64 a5, .int .i64 a6, .int .i64 a7, .int .i64 a8, .int .i64 a9, .int .i64 a10, .int .i64 a11, .int .i64 a12, .int .i64 a13, .int .i64 a14, .int .i64 a15, .int .i64 a16, .int .i64 a17, .int .i64 a18, .int .i64 a19, .int .i64 a20, .int .i64 a21]) (.int .i64 5)).run Try.prog w = .ok (.agg #[.int .i64 a19, .int .i64 a20, .int .i64 a21]) w := fun _ => by kernel_rfl
set_option maxHeartbeats 8000000 in
set_option maxRecDepth 100000 in
theorem posture_MirrorPose.ok (k : Nat) (a0 a1 a2 a3 a4 a5 a6 a7 a8 a9 a10 a11 a12 a13 a14 a15 a16 a17 a18 a19 a20 a21 : Int) (w : World) (hv : posture_Valid.f k a0 a1 a2 a3 a4 a5 a6 a7 a8 a9 a10 a11 a12 a13 a14 a15 a16 a17 a18 a19 a20 a21 = some 0) (h0 : aim_Check.f k 0 a4 a5 a6 = some 0) (h1 : aim_Check.f k 1 a7 a8 a9 = some 0) (h2 : aim_Check.f k 2 a10 a11 a12 = some 0) (h3 : aim_Check.f k 3 a13 a14 a15 = some 0) (h4 : aim_Check.f k 4 a16 a17 a18 = some 0) (h5 : aim_Check.f k 5 a19 a20 a21 = some 0) :
  Calls Try.prog 39 #[.agg #[.int .i64 a0, .int .i64 a1, .int .i64 a2, .int .i64 a3, .int .i64 a4, .int .i64 a5, .int .i64 a6, .int .i64 a7, .int .i64 a8, .int .i64 a9, .int .i64 a10, .int .i64 a11, .int .i64 a12, .int .i64 a13, .int .i64 a14, .int .i64 a15, .int .i64 a16, .int .i64 a17, .int .i64 a18, .int .i64 a19, .int .i64 a20, .int .i64 a21]] w fun e w' => e = .returned (.tuple #[.agg #[.int .i64 (wrap64 (-a0)), .int .i64 a1, .int .i64 (posture_MirrorPose.am a2), .int .i64 a3, .int .i64 (posture_MirrorPose.am a7), .int .i64 a8, .int .i64 a9, .int .i64 (posture_MirrorPose.am a4), .int .i64 a5, .int .i64 a6, .int .i64 (posture_MirrorPose.am a10), .int .i64 a11, .int .i64 a12, .int .i64 (posture_MirrorPose.am a16), .int .i64 a17, .int .i64 a18, .int .i64 (posture_MirrorPose.am a13), .int .i64 a14, .int .i64 a15, .int .i64 (posture_MirrorPose.am a19), .int .i64 a20, .int .i64 a21], .int .i64 0]) ∧ Below w.heap.size w w' := by
  have hu1 := Try.underlying54
  have hu2 := Try.underlying51
  have hu3 := Try.underlying49
  have HB := Aside0.mk (Below.refl w.heap.size w)
  have HV := Aside0.mk hv
  have mixed : Try.prog.follows .mixedOrders = true := by kernel_rfl
  have M0 := Aside0.mk h0
  have M1 := Aside0.mk h1
  have M2 := Aside0.mk h2
  have M3 := Aside0.mk h3
  have M4 := Aside0.mk h4
  have M5 := Aside0.mk h5
  clear hv h0 h1 h2 h3 h4 h5
  have i0 := posture_MirrorPose.ix0 a4 a5 a6 a7 a8 a9 a10 a11 a12 a13 a14 a15 a16 a17 a18 a19 a20 a21
  have i1 := posture_MirrorPose.ix1 a4 a5 a6 a7 a8 a9 a10 a11 a12 a13 a14 a15 a16 a17 a18 a19 a20 a21
  have i2 := posture_MirrorPose.ix2 a4 a5 a6 a7 a8 a9 a10 a11 a12 a13 a14 a15 a16 a17 a18 a19 a20 a21
  have i3 := posture_MirrorPose.ix3 a4 a5 a6 a7 a8 a9 a10 a11 a12 a13 a14 a15 a16 a17 a18 a19 a20 a21
  have i4 := posture_MirrorPose.ix4 a4 a5 a6 a7 a8 a9 a10 a11 a12 a13 a14 a15 a16 a17 a18 a19 a20 a21
  have i5 := posture_MirrorPose.ix5 a4 a5 a6 a7 a8 a9 a10 a11 a12 a13 a14 a15 a16 a17 a18 a19 a20 a21
  go_enter Try.func39, Try.ntmps39
  go_wp2_with (first
    | ((with_reducible refine gate_dst (N := 1) rfl ?_); refine box_event ?hg (N := 1) ?hd (cs := #[.int .i64 a0, .int .i64 a1, .int .i64 a2, .int .i64 a3, .int .i64 a4, .int .i64 a5, .int .i64 a6, .int .i64 a7, .int .i64 a8, .int .i64 a9, .int .i64 a10, .int .i64 a11, .int .i64 a12, .int .i64 a13, .int .i64 a14, .int .i64 a15, .int .i64 a16, .int .i64 a17, .int .i64 a18, .int .i64 a19, .int .i64 a20, .int .i64 a21]) (t := 54) ?hr ?_; (case hd => rfl); (case hg => rfl); (case hr => first | (go_simp; done) | (go_simp; rfl)); intro g1 hg1 w1 hbox hb; have HB1 := Aside0.mk (below_step HB.out hb); have HX1 := Aside0.mk hbox; have HG1 := Aside0.mk hg1; clear hb hbox hg1)
    | ((with_reducible refine gate_dst (N := 2) rfl ?_); refine box_event ?hg (N := 2) ?hd (cs := #[.int .i64 0, .int .i64 0, .int .i64 0, .int .i64 0, .int .i64 0, .int .i64 0, .int .i64 0, .int .i64 0, .int .i64 0, .int .i64 0, .int .i64 0, .int .i64 0, .int .i64 0, .int .i64 0, .int .i64 0, .int .i64 0, .int .i64 0, .int .i64 0, .int .i64 0, .int .i64 0, .int .i64 0, .int .i64 0]) (t := 54) ?hr ?_; (case hd => rfl); (case hg => rfl); (case hr => first | (go_simp; done) | (go_simp; rfl)); intro g2 hg2 w2 hbox hb; have HB2 := Aside0.mk (below_step HB1.out hb); have HX2 := Aside0.mk hbox; have HX12 := Aside0.mk (blk_below HX1.out hb); have HG2 := Aside0.mk hg2; clear hb hbox hg2)
    | ((with_reducible refine gate_dst (N := 10) rfl ?_); refine load_big ?h0 54 (.tmp 1) ?ho ⟨g1, 0, none⟩ ?hx [.int .i64 a0, .int .i64 a1, .int .i64 a2, .int .i64 a3, .int .i64 a4, .int .i64 a5, .int .i64 a6, .int .i64 a7, .int .i64 a8, .int .i64 a9, .int .i64 a10, .int .i64 a11, .int .i64 a12, .int .i64 a13, .int .i64 a14, .int .i64 a15, .int .i64 a16, .int .i64 a17, .int .i64 a18, .int .i64 a19, .int .i64 a20, .int .i64 a21] _ ?hc Try.underlying54 ?hd ?hi ?_; (case h0 => rfl); (case ho => rfl); (case hx => first | rfl | (go_simp; rfl)); (case hc => exact RowAt.of_block (cs := #[.int .i64 a0, .int .i64 a1, .int .i64 a2, .int .i64 a3, .int .i64 a4, .int .i64 a5, .int .i64 a6, .int .i64 a7, .int .i64 a8, .int .i64 a9, .int .i64 a10, .int .i64 a11, .int .i64 a12, .int .i64 a13, .int .i64 a14, .int .i64 a15, .int .i64 a16, .int .i64 a17, .int .i64 a18, .int .i64 a19, .int .i64 a20, .int .i64 a21]) HX12.out rfl); (case hd => rfl); (case hi => rfl))
    | (go_at_call 49; (with_reducible refine (posture_Valid.calls k a0 a1 a2 a3 a4 a5 a6 a7 a8 a9 a10 a11 a12 a13 a14 a15 a16 a17 a18 a19 a20 a21 0 _ HV.out).mono ?_); rintro e w3 ⟨rfl, hb⟩; have HB3 := Aside0.mk (below_step HB2.out hb); have HZ1 := Aside0.mk (blk_below HX12.out hb); have HZ2 := Aside0.mk (blk_below HX2.out hb); clear hb; have z0 : w3.cell? ⟨g1, 0, none⟩ = some (.int .i64 a0) := (blk_cell HZ1.out 0).trans rfl; have z1 : w3.cell? ⟨g1, 1, none⟩ = some (.int .i64 a1) := (blk_cell HZ1.out 1).trans rfl; have z2 : w3.cell? ⟨g1, 2, none⟩ = some (.int .i64 a2) := (blk_cell HZ1.out 2).trans rfl; have z3 : w3.cell? ⟨g1, 3, none⟩ = some (.int .i64 a3) := (blk_cell HZ1.out 3).trans rfl))
  refine start_ (n := 16) (S := (fun w' => w'.cell? ⟨g1, 0, none⟩ = some (.int .i64 a0) ∧ w'.cell? ⟨g1, 1, none⟩ = some (.int .i64 a1) ∧ w'.cell? ⟨g1, 2, none⟩ = some (.int .i64 a2) ∧ w'.cell? ⟨g1, 3, none⟩ = some (.int .i64 a3))) (ds := []) #[false, false, false, false, false, false, false, false, false, false, false, false, false, false, false, false] (by kernel_rfl) rfl rfl ⟨z0, z1, z2, z3⟩ (fun hHeld => ?_); refine with_tabW posture_MirrorPose.tab4 posture_MirrorPose.bits4 (fun HT_ HW_ => ?_)
  have HD := Aside0.mk (below_drew1 HB3.out)
  have HD1 := Aside0.mk (blk_drew HZ1.out)
  have HD2 := Aside0.mk (blk_drew HZ2.out)
  clear z0 z1 z2 z3
  generalize w3.drew = w4 at HD HD1 HD2 hHeld ⊢
  refine pure_ (i := 0) (N := some 16) (v := ?_) (a' := ?_) #[true, false, false, false, false, false, false, false, false, false, false, false, false, false, false, false] rfl rfl (any_of HT_.out (by kernel_rfl)) (fun _ _ _ h => h) (Or.inl ⟨by rfl, ?_⟩) ?_ ?_; rotate_left; (intro w'; go_simp; with_reducible rfl); rotate_left; (simp only [Act.put, List.setIfInBounds_toArray, List.set_cons_zero, List.set_cons_succ, i64_w, i32_w]; rfl)
  refine pure_ (i := 1) (N := some 17) (v := ?_) (a' := ?_) #[true, true, false, false, false, false, false, false, false, false, false, false, false, false, false, false] rfl rfl (any_of HT_.out (by kernel_rfl)) (fun _ _ _ h => h) (Or.inl ⟨by rfl, ?_⟩) ?_ ?_; rotate_left; (intro w'; go_simp; with_reducible rfl); rotate_left; (simp only [Act.put, List.setIfInBounds_toArray, List.set_cons_zero, List.set_cons_succ, i64_w, i32_w]; rfl)
  refine pure_ (i := 4) (N := some 20) (v := ?_) (a' := ?_) #[true, true, false, false, true, false, false, false, false, false, false, false, false, false, false, false] rfl rfl (any_of HT_.out (by kernel_rfl)) (fun _ _ _ h => h) (Or.inl ⟨by rfl, ?_⟩) ?_ ?_; rotate_left; (intro w'; go_simp; with_reducible rfl); rotate_left; (simp only [Act.put, List.setIfInBounds_toArray, List.set_cons_zero, List.set_cons_succ, i64_w, i32_w]; rfl)
  refine pure_ (i := 5) (N := some 21) (v := ?_) (a' := ?_) #[true, true, false, false, true, true, false, false, false, false, false, false, false, false, false, false] rfl rfl (any_of HT_.out (by kernel_rfl)) (fun _ _ _ h => h) (Or.inl ⟨by rfl, ?_⟩) ?_ ?_; rotate_left; (intro w'; go_simp; with_reducible rfl); rotate_left; (simp only [Act.put, List.setIfInBounds_toArray, List.set_cons_zero, List.set_cons_succ, i64_w, i32_w]; rfl)
  refine pure_ (i := 8) (N := some 24) (v := ?_) (a' := ?_) #[true, true, false, false, true, true, false, false, true, false, false, false, false, false, false, false] rfl rfl (any_of HT_.out (by kernel_rfl)) (fun _ _ _ h => h) (Or.inl ⟨by rfl, ?_⟩) ?_ ?_; rotate_left; (intro w'; go_simp; with_reducible rfl); rotate_left; (simp only [Act.put, List.setIfInBounds_toArray, List.set_cons_zero, List.set_cons_succ, i64_w, i32_w]; rfl)
  refine pure_ (i := 11) (N := some 27) (v := ?_) (a' := ?_) #[true, true, false, false, true, true, false, false, true, false, false, true, false, false, false, false] rfl rfl (any_of HT_.out (by kernel_rfl)) (fun _ _ _ h => h) (Or.inl ⟨by rfl, ?_⟩) ?_ ?_; rotate_left; (intro w'; go_simp; with_reducible rfl); rotate_left; (simp only [Act.put, List.setIfInBounds_toArray, List.set_cons_zero, List.set_cons_succ, i64_w, i32_w]; rfl)
  refine take_ (i := 2) (N := some 18) (v := ?_) (a' := ?_) #[true, true, true, false, true, true, false, false, true, false, false, true, false, false, false, false] rfl rfl (take_ofW HT_.out HW_.out (by kernel_rfl)) (fun _ _ _ h => h) (Or.inl ⟨by rfl, ?_⟩) hHeld ?_ ?_; rotate_left; (rintro w' ⟨s0, s1, s2, s3⟩; go_simp; with_reducible rfl); rotate_left; (simp only [Act.put, List.setIfInBounds_toArray, List.set_cons_zero, List.set_cons_succ, i64_w, i32_w]; rfl)
  refine pure_ (i := 3) (N := some 19) (v := ?_) (a' := ?_) #[true, true, true, true, true, true, false, false, true, false, false, true, false, false, false, false] rfl rfl (any_of HT_.out (by kernel_rfl)) (fun _ _ _ h => h) (Or.inl ⟨by rfl, ?_⟩) ?_ ?_; rotate_left; (intro w'; go_simp; with_reducible rfl); rotate_left; (simp only [Act.put, List.setIfInBounds_toArray, List.set_cons_zero, List.set_cons_succ, i64_w, i32_w]; rfl)
  refine take_ (i := 6) (N := some 22) (v := ?_) (a' := ?_) #[true, true, true, true, true, true, true, false, true, false, false, true, false, false, false, false] rfl rfl (take_ofW HT_.out HW_.out (by kernel_rfl)) (fun _ _ _ h => h) (Or.inl ⟨by rfl, ?_⟩) hHeld ?_ ?_; rotate_left; (rintro w' ⟨s0, s1, s2, s3⟩; go_simp; with_reducible rfl); rotate_left; (simp only [Act.put, List.setIfInBounds_toArray, List.set_cons_zero, List.set_cons_succ, i64_w, i32_w]; rfl)
  refine pure_ (i := 7) (N := some 23) (v := ?_) (a' := ?_) #[true, true, true, true, true, true, true, true, true, false, false, true, false, false, false, false] rfl rfl (any_of HT_.out (by kernel_rfl)) (fun _ _ _ h => h) (Or.inl ⟨by rfl, ?_⟩) ?_ ?_; rotate_left; (intro w'; go_simp; with_reducible rfl); rotate_left; (simp only [Act.put, List.setIfInBounds_toArray, List.set_cons_zero, List.set_cons_succ, i64_w, i32_w]; rfl)
  refine take_ (i := 9) (N := some 25) (v := ?_) (a' := ?_) #[true, true, true, true, true, true, true, true, true, true, false, true, false, false, false, false] rfl rfl (take_ofW HT_.out HW_.out (by kernel_rfl)) (fun _ _ _ h => h) (Or.inl ⟨by rfl, ?_⟩) hHeld ?_ ?_; rotate_left; (rintro w' ⟨s0, s1, s2, s3⟩; go_simp; with_reducible rfl); rotate_left; (simp only [Act.put, List.setIfInBounds_toArray, List.set_cons_zero, List.set_cons_succ, i64_w, i32_w]; rfl)
  refine take_ (i := 12) (N := some 28) (v := ?_) (a' := ?_) #[true, true, true, true, true, true, true, true, true, true, false, true, true, false, false, false] rfl rfl (take_ofW HT_.out HW_.out (by kernel_rfl)) (fun _ _ _ h => h) (Or.inl ⟨by rfl, ?_⟩) hHeld ?_ ?_; rotate_left; (rintro w' ⟨s0, s1, s2, s3⟩; go_simp; with_reducible rfl); rotate_left; (simp only [Act.put, List.setIfInBounds_toArray, List.set_cons_zero, List.set_cons_succ, i64_w, i32_w]; rfl)
  refine join_ (σ := Nat) 1 #[true, true, true, true, true, true, true, true, true, true, true, true, true, true, true, false] (fun g5 => [(26, .int .i64 (posture_MirrorPose.am a2)), (5, .pointer (some ⟨g5, 0, none⟩)), (29, .agg #[(.int .i64 (wrap64 (-a0))), (.int .i64 a1), (.int .i64 (posture_MirrorPose.am a2)), (.int .i64 a3), (.int .i64 0), (.int .i64 0), (.int .i64 0), (.int .i64 0), (.int .i64 0), (.int .i64 0), (.int .i64 0), (.int .i64 0), (.int .i64 0), (.int .i64 0), (.int .i64 0), (.int .i64 0), (.int .i64 0), (.int .i64 0), (.int .i64 0), (.int .i64 0), (.int .i64 0), (.int .i64 0)])]) (fun g5 w' => (w'.cell? ⟨g1, 0, none⟩ = some (.int .i64 a0) ∧ w'.cell? ⟨g1, 1, none⟩ = some (.int .i64 a1) ∧ w'.cell? ⟨g1, 2, none⟩ = some (.int .i64 a2) ∧ w'.cell? ⟨g1, 3, none⟩ = some (.int .i64 a3)) ∧ w'.heap[g1]? = some (.cells #[.int .i64 a0, .int .i64 a1, .int .i64 a2, .int .i64 a3, .int .i64 a4, .int .i64 a5, .int .i64 a6, .int .i64 a7, .int .i64 a8, .int .i64 a9, .int .i64 a10, .int .i64 a11, .int .i64 a12, .int .i64 a13, .int .i64 a14, .int .i64 a15, .int .i64 a16, .int .i64 a17, .int .i64 a18, .int .i64 a19, .int .i64 a20, .int .i64 a21] 54 (0, 0)) ∧ w'.heap[g2]? = some (.cells #[.int .i64 0, .int .i64 0, .int .i64 0, .int .i64 0, .int .i64 0, .int .i64 0, .int .i64 0, .int .i64 0, .int .i64 0, .int .i64 0, .int .i64 0, .int .i64 0, .int .i64 0, .int .i64 0, .int .i64 0, .int .i64 0, .int .i64 0, .int .i64 0, .int .i64 0, .int .i64 0, .int .i64 0, .int .i64 0] 54 (0, 0)) ∧ w'.heap[g5]? = some (.cells #[.int .i64 0, .int .i64 0, .int .i64 0, .int .i64 0, .int .i64 0, .int .i64 0, .int .i64 0, .int .i64 0, .int .i64 0, .int .i64 0, .int .i64 0, .int .i64 0, .int .i64 0, .int .i64 0, .int .i64 0, .int .i64 0, .int .i64 0, .int .i64 0, .int .i64 0, .int .i64 0, .int .i64 0, .int .i64 0] 54 (0, 0)) ∧ w.heap.size ≤ g5 ∧ g1 ≠ g5 ∧ g2 ≠ g5 ∧ Below w.heap.size w w') ?_ ?_
  rotate_left
  · intro hCont
    refine two_ (i := 10) (j := 14) (Ni := some 26) (Nj := some 5) #[true, true, true, true, true, true, true, true, true, true, true, true, true, false, false, false] #[true, true, true, true, true, true, true, true, true, true, false, true, true, false, true, false] rfl rfl rfl rfl (two_of HT_.out (by kernel_rfl)) (by decide) (by decide) (fun K hK => ?_) (fun K hK => ?_)
    · refine goes_ Try.func61 (by kernel_rfl) rfl #[.int .i64 a2] (by rfl) rfl rfl (by (try simp only [List.map_toArray, List.map_cons, List.map_nil]); first | done | rfl) ?_
      with_reducible refine (angle_Mirror.calls a2 _ _ (posture_MirrorPose.angle a2)).mono ?_
      rintro e w5 ⟨rfl, hd⟩
      have hb := hd.below
      refine ⟨_, rfl, ?_⟩
      have E0 := Aside0.mk (below_step HD.out hb)
      have E1 := Aside0.mk (blk_below HD1.out hb)
      have E2 := Aside0.mk (blk_below HD2.out hb)
      clear hd hb
      refine hK.out _ _ ⟨(blk_cell E1.out 0).trans rfl, (blk_cell E1.out 1).trans rfl, (blk_cell E1.out 2).trans rfl, (blk_cell E1.out 3).trans rfl⟩ (fun hHeld => ?_)
      clear hK K
      refine norm_ (a' := ?_) ?_ ?_
      rotate_left
      · show Act.put _ (some 26) _ = _; simp only [Act.put, List.setIfInBounds_toArray, List.set_cons_zero, List.set_cons_succ, i64_w, i32_w]; rfl
      refine pure_ (i := 13) (N := some 29) (v := ?_) (a' := ?_) #[true, true, true, true, true, true, true, true, true, true, true, true, true, true, false, false] rfl rfl (any_of HT_.out (by kernel_rfl)) (fun _ _ _ h => h) (Or.inl ⟨by rfl, ?_⟩) ?_ ?_; rotate_left; (intro w'; go_simp; with_reducible rfl); rotate_left; (simp only [Act.put, List.setIfInBounds_toArray, List.set_cons_zero, List.set_cons_succ, i64_w, i32_w]; rfl)
      refine one_ (i := 14) (N := some 5) #[true, true, true, true, true, true, true, true, true, true, true, true, true, true, true, false] rfl rfl (one_of HT_.out (by kernel_rfl)) (by decide) (fun K hK => ?_)
      refine box_step ?hg (N := 5) ?hd (cs := #[.int .i64 0, .int .i64 0, .int .i64 0, .int .i64 0, .int .i64 0, .int .i64 0, .int .i64 0, .int .i64 0, .int .i64 0, .int .i64 0, .int .i64 0, .int .i64 0, .int .i64 0, .int .i64 0, .int .i64 0, .int .i64 0, .int .i64 0, .int .i64 0, .int .i64 0, .int .i64 0, .int .i64 0, .int .i64 0]) (t := 54) ?hr ?_; (case hd => rfl); (case hg => rfl); (case hr => first | (go_simp; done) | (go_simp; rfl))
      intro g5 hg5 w6 hbox hb
      have G0 := Aside0.mk (below_step E0.out hb)
      have G1 := Aside0.mk (blk_below E1.out hb)
      have G2 := Aside0.mk (blk_below E2.out hb)
      have G5 := Aside0.mk hbox
      have GN := Aside0.mk (show w.heap.size ≤ g5 ∧ g1 ≠ g5 ∧ g2 ≠ g5 from ⟨by rw [hg5]; exact E0.out.size, by rw [hg5]; exact Nat.ne_of_lt (blk_lt E1.out), by rw [hg5]; exact Nat.ne_of_lt (blk_lt E2.out)⟩)
      clear hbox hb hg5
      refine hK.out _ _ ⟨(blk_cell G1.out 0).trans rfl, (blk_cell G1.out 1).trans rfl, (blk_cell G1.out 2).trans rfl, (blk_cell G1.out 3).trans rfl⟩ (fun hHeld => ?_)
      clear hK K
      refine norm_ (a' := ?_) ?_ ?_
      rotate_left
      · show Act.put _ (some 5) _ = _; simp only [Act.put, List.setIfInBounds_toArray, List.set_cons_zero, List.set_cons_succ, i64_w, i32_w]; rfl
      exact norm_ (by simp only [putAll, Act.put, List.setIfInBounds_toArray, List.set_cons_zero, List.set_cons_succ]) (hCont g5 _ ⟨hHeld, G1.out, G2.out, G5.out, GN.out.1, GN.out.2.1, GN.out.2.2, G0.out⟩)
    · refine box_step ?hg (N := 5) ?hd (cs := #[.int .i64 0, .int .i64 0, .int .i64 0, .int .i64 0, .int .i64 0, .int .i64 0, .int .i64 0, .int .i64 0, .int .i64 0, .int .i64 0, .int .i64 0, .int .i64 0, .int .i64 0, .int .i64 0, .int .i64 0, .int .i64 0, .int .i64 0, .int .i64 0, .int .i64 0, .int .i64 0, .int .i64 0, .int .i64 0]) (t := 54) ?hr ?_; (case hd => rfl); (case hg => rfl); (case hr => first | (go_simp; done) | (go_simp; rfl))
      intro g5 hg5 w6 hbox hb
      have G0 := Aside0.mk (below_step HD.out hb)
      have G1 := Aside0.mk (blk_below HD1.out hb)
      have G2 := Aside0.mk (blk_below HD2.out hb)
      have G5 := Aside0.mk hbox
      have GN := Aside0.mk (show w.heap.size ≤ g5 ∧ g1 ≠ g5 ∧ g2 ≠ g5 from ⟨by rw [hg5]; exact HD.out.size, by rw [hg5]; exact Nat.ne_of_lt (blk_lt HD1.out), by rw [hg5]; exact Nat.ne_of_lt (blk_lt HD2.out)⟩)
      clear hbox hb hg5
      refine hK.out _ _ ⟨(blk_cell G1.out 0).trans rfl, (blk_cell G1.out 1).trans rfl, (blk_cell G1.out 2).trans rfl, (blk_cell G1.out 3).trans rfl⟩ (fun hHeld => ?_)
      clear hK K
      refine norm_ (a' := ?_) ?_ ?_
      rotate_left
      · show Act.put _ (some 5) _ = _; simp only [Act.put, List.setIfInBounds_toArray, List.set_cons_zero, List.set_cons_succ, i64_w, i32_w]; rfl
      refine one_ (i := 10) (N := some 26) #[true, true, true, true, true, true, true, true, true, true, true, true, true, false, true, false] rfl rfl (one_of HT_.out (by kernel_rfl)) (by decide) (fun K hK => ?_)
      refine goes_ Try.func61 (by kernel_rfl) rfl #[.int .i64 a2] (by rfl) rfl rfl (by (try simp only [List.map_toArray, List.map_cons, List.map_nil]); first | done | rfl) ?_
      with_reducible refine (angle_Mirror.calls a2 _ _ (posture_MirrorPose.angle a2)).mono ?_
      rintro e w5 ⟨rfl, hd⟩
      have hb := hd.below
      refine ⟨_, rfl, ?_⟩
      have E0 := Aside0.mk (below_step G0.out hb)
      have E1 := Aside0.mk (blk_below G1.out hb)
      have E2 := Aside0.mk (blk_below G2.out hb)
      have E5 := Aside0.mk (blk_below G5.out hb)
      clear hd hb
      refine hK.out _ _ ⟨(blk_cell E1.out 0).trans rfl, (blk_cell E1.out 1).trans rfl, (blk_cell E1.out 2).trans rfl, (blk_cell E1.out 3).trans rfl⟩ (fun hHeld => ?_)
      clear hK K
      refine norm_ (a' := ?_) ?_ ?_
      rotate_left
      · show Act.put _ (some 26) _ = _; simp only [Act.put, List.setIfInBounds_toArray, List.set_cons_zero, List.set_cons_succ, i64_w, i32_w]; rfl
      refine pure_ (i := 13) (N := some 29) (v := ?_) (a' := ?_) #[true, true, true, true, true, true, true, true, true, true, true, true, true, true, true, false] rfl rfl (any_of HT_.out (by kernel_rfl)) (fun _ _ _ h => h) (Or.inl ⟨by rfl, ?_⟩) ?_ ?_; rotate_left; (intro w'; go_simp; with_reducible rfl); rotate_left; (simp only [Act.put, List.setIfInBounds_toArray, List.set_cons_zero, List.set_cons_succ, i64_w, i32_w]; rfl)
      exact norm_ (by simp only [putAll, Act.put, List.setIfInBounds_toArray, List.set_cons_zero, List.set_cons_succ]) (hCont g5 _ ⟨hHeld, E1.out, E2.out, E5.out, GN.out.1, GN.out.2.1, GN.out.2.2, E0.out⟩)
  intro g5 w6 ⟨hHeld, k1, k2, k5, gn, n1, n2, kb⟩
  have K1 := Aside0.mk k1; have K2 := Aside0.mk k2; have K5 := Aside0.mk k5; have GN := Aside0.mk (And.intro gn (And.intro n1 n2)); have KB := Aside0.mk kb
  clear k1 k2 k5 gn n1 n2 kb HD HD1 HD2
  refine norm_ (a' := ?_) ?_ ?_
  rotate_left
  · simp only [putAll, Act.put, List.setIfInBounds_toArray, List.set_cons_zero, List.set_cons_succ]; rfl
  refine one_ (i := 15) (N := none) #[true, true, true, true, true, true, true, true, true, true, true, true, true, true, true, true] rfl rfl (one_of HT_.out (by kernel_rfl)) (by decide) (fun K hK => ?_)
  rw [if_pos (by rfl)]
  refine wp_store_row 54 (.tmp 5) (.tmp 29) rfl g5 #[(.int .i64 (wrap64 (-a0))), (.int .i64 a1), (.int .i64 (posture_MirrorPose.am a2)), (.int .i64 a3), (.int .i64 0), (.int .i64 0), (.int .i64 0), (.int .i64 0), (.int .i64 0), (.int .i64 0), (.int .i64 0), (.int .i64 0), (.int .i64 0), (.int .i64 0), (.int .i64 0), (.int .i64 0), (.int .i64 0), (.int .i64 0), (.int .i64 0), (.int .i64 0), (.int .i64 0), (.int .i64 0)] rfl rfl 54 _ K5.out (by rfl) rfl (by kernel_rfl) ?_
  have s5 := setRow_heap w6 g5 _ #[(.int .i64 (wrap64 (-a0))), (.int .i64 a1), (.int .i64 (posture_MirrorPose.am a2)), (.int .i64 a3), (.int .i64 0), (.int .i64 0), (.int .i64 0), (.int .i64 0), (.int .i64 0), (.int .i64 0), (.int .i64 0), (.int .i64 0), (.int .i64 0), (.int .i64 0), (.int .i64 0), (.int .i64 0), (.int .i64 0), (.int .i64 0), (.int .i64 0), (.int .i64 0), (.int .i64 0), (.int .i64 0)] 54 (0, 0) K5.out
  have s1 := (setRow_other w6 g5 g1 #[(.int .i64 (wrap64 (-a0))), (.int .i64 a1), (.int .i64 (posture_MirrorPose.am a2)), (.int .i64 a3), (.int .i64 0), (.int .i64 0), (.int .i64 0), (.int .i64 0), (.int .i64 0), (.int .i64 0), (.int .i64 0), (.int .i64 0), (.int .i64 0), (.int .i64 0), (.int .i64 0), (.int .i64 0), (.int .i64 0), (.int .i64 0), (.int .i64 0), (.int .i64 0), (.int .i64 0), (.int .i64 0)] GN.out.2.1).trans K1.out
  have s2 := (setRow_other w6 g5 g2 #[(.int .i64 (wrap64 (-a0))), (.int .i64 a1), (.int .i64 (posture_MirrorPose.am a2)), (.int .i64 a3), (.int .i64 0), (.int .i64 0), (.int .i64 0), (.int .i64 0), (.int .i64 0), (.int .i64 0), (.int .i64 0), (.int .i64 0), (.int .i64 0), (.int .i64 0), (.int .i64 0), (.int .i64 0), (.int .i64 0), (.int .i64 0), (.int .i64 0), (.int .i64 0), (.int .i64 0), (.int .i64 0)] GN.out.2.2).trans K2.out
  have sb := below_setRow KB.out GN.out.1 #[(.int .i64 (wrap64 (-a0))), (.int .i64 a1), (.int .i64 (posture_MirrorPose.am a2)), (.int .i64 a3), (.int .i64 0), (.int .i64 0), (.int .i64 0), (.int .i64 0), (.int .i64 0), (.int .i64 0), (.int .i64 0), (.int .i64 0), (.int .i64 0), (.int .i64 0), (.int .i64 0), (.int .i64 0), (.int .i64 0), (.int .i64 0), (.int .i64 0), (.int .i64 0), (.int .i64 0), (.int .i64 0)]
  generalize World.setRow w6 g5 _ = w7 at s5 s1 s2 sb ⊢
  have K5' := Aside0.mk s5; have K1' := Aside0.mk s1; have K2' := Aside0.mk s2; have KB' := Aside0.mk sb
  clear s5 s1 s2 sb K5 K1 K2 KB hHeld
  refine hK.out _ _ ⟨(blk_cell K1'.out 0).trans rfl, (blk_cell K1'.out 1).trans rfl, (blk_cell K1'.out 2).trans rfl, (blk_cell K1'.out 3).trans rfl⟩ (fun hHeld => ?_)
  clear hK K hHeld
  refine done_ (done_of HT_.out (by kernel_rfl)) ?_
  have HB1k := Aside0.mk HB1.out.size; have N25 := Aside0.mk GN.out.2.2
  clear HT_ HW_ HB HB1 HB2 HB3 HX1 HX2 HX12 HZ1 HZ2
  go_wp2_with (first | ((with_reducible refine gate_dst (N := 31) rfl ?_); refine load_big ?h0 52 (.tmp 30) ?ho ⟨g1, 4, none⟩ ?hx [.int .i64 a4, .int .i64 a5, .int .i64 a6, .int .i64 a7, .int .i64 a8, .int .i64 a9, .int .i64 a10, .int .i64 a11, .int .i64 a12, .int .i64 a13, .int .i64 a14, .int .i64 a15, .int .i64 a16, .int .i64 a17, .int .i64 a18, .int .i64 a19, .int .i64 a20, .int .i64 a21] _ ?hc Try.underlying52 ?hd ?hi ?_; (case h0 => rfl); (case ho => rfl); (case hx => first | rfl | (go_simp; rfl)); (case hc => exact posture_MirrorPose.aims_at K1'.out); (case hd => rfl); (case hi => rfl)))
  refine wp_loop_rounds 7 ?_
  have B5 := K5'; have B2 := K2'; have HBW := KB'; have GN5 := Aside0.mk GN.out.1
  have G2 := Aside0.mk (show w.heap.size ≤ g2 from by rw [HG2.out]; exact HB1k.out)
  clear K5' K2' KB' K1' GN
  rw [rounds_succ]
  go_wp2_with (first
    | ((with_reducible refine gate_dst (N := 7) rfl ?_); refine box_event ?hg (N := 7) ?hd (cs := #[.int .i64 0, .int .i64 0, .int .i64 0]) (t := 51) ?hr ?_; (case hd => rfl); (case hg => rfl); (case hr => first | (go_simp; done) | (go_simp; rfl)); intro g7 hg7 v1 hbox hb; have A0 := Aside0.mk (below_step HBW.out hb); have A2 := Aside0.mk (blk_below B2.out hb); have A5 := Aside0.mk (blk_below B5.out hb); have A7 := Aside0.mk hbox; have N7 := Aside0.mk (show w.heap.size ≤ g7 ∧ g5 ≠ g7 ∧ g2 ≠ g7 from ⟨by rw [hg7]; exact HBW.out.size, by rw [hg7]; exact Nat.ne_of_lt (blk_lt B5.out), by rw [hg7]; exact Nat.ne_of_lt (blk_lt B2.out)⟩); clear hbox hb hg7)
    | ((with_reducible refine row_gate (t := 51) (p := 7) rfl ?_); refine row_event ?h0 51 (.tmp 7) (.tmp 35) ?ho ?hd g7 #[.int .i64 a4, .int .i64 a5, .int .i64 a6] ?hx ?hy _ _ A7.out ?hi ?hs ?h1 ?_; (case h0 => rfl); (case ho => rfl); (case hd => rfl); (case hx => first | rfl | (go_simp; rfl)); (case hy => first | rfl | (go_simp; rfl)); (case hi => rfl); (case hs => rfl); (case h1 => kernel_rfl); intro v2 e7 eo eb; have D0 := Aside0.mk (eb _ _ A0.out N7.out.1); have D2 := Aside0.mk ((eo g2 N7.out.2.2).trans A2.out); have D5 := Aside0.mk ((eo g5 N7.out.2.1).trans A5.out); have D7 := Aside0.mk e7; clear e7 eo eb)
    | (go_at_call 62; (with_reducible refine (aim_Swap.calls 0 1 0 _ rfl).mono ?_); rintro e v3 ⟨rfl, hd⟩; have hb := hd.below; clear hd; have F0 := Aside0.mk (below_step D0.out hb); have F2 := Aside0.mk (blk_below D2.out hb); have F5 := Aside0.mk (blk_below D5.out hb); have F7 := Aside0.mk (blk_below D7.out hb); clear hb; obtain ⟨c0, c1, c2, _, _, _, _⟩ := posture_MirrorPose.put3 F7.out (.int .i64 0))
    | (go_at_call 63; (with_reducible refine (posture_MirrorPose.aim_calls k 0 a4 a5 a6 _ M0.out).mono ?_); rintro e v4 ⟨rfl, hb⟩; have H0 := Aside0.mk (below_step F0.out hb); have H2 := Aside0.mk (blk_below F2.out hb); have H5 := Aside0.mk (blk_below F5.out hb); clear hb c0 c1 c2; have q0 := (blk_cell H5.out 7).trans (show _ = some (Value.int .i64 0) from rfl); have f0 := blk_frozen H5.out 7; have P1 := blk_put (cs' := #[(.int .i64 (wrap64 (-a0))), (.int .i64 a1), (.int .i64 (posture_MirrorPose.am a2)), (.int .i64 a3), (.int .i64 0), (.int .i64 0), (.int .i64 0), (.int .i64 (posture_MirrorPose.am a4)), (.int .i64 0), (.int .i64 0), (.int .i64 0), (.int .i64 0), (.int .i64 0), (.int .i64 0), (.int .i64 0), (.int .i64 0), (.int .i64 0), (.int .i64 0), (.int .i64 0), (.int .i64 0), (.int .i64 0), (.int .i64 0)]) H5.out 7 (.int .i64 (posture_MirrorPose.am a4)) rfl; have q1 := (blk_cell P1 8).trans (show _ = some (Value.int .i64 0) from rfl); have f1 := blk_frozen P1 8; have P2 := blk_put (cs' := #[(.int .i64 (wrap64 (-a0))), (.int .i64 a1), (.int .i64 (posture_MirrorPose.am a2)), (.int .i64 a3), (.int .i64 0), (.int .i64 0), (.int .i64 0), (.int .i64 (posture_MirrorPose.am a4)), (.int .i64 a5), (.int .i64 0), (.int .i64 0), (.int .i64 0), (.int .i64 0), (.int .i64 0), (.int .i64 0), (.int .i64 0), (.int .i64 0), (.int .i64 0), (.int .i64 0), (.int .i64 0), (.int .i64 0), (.int .i64 0)]) P1 8 (.int .i64 a5) rfl; have q2 := (blk_cell P2 9).trans (show _ = some (Value.int .i64 0) from rfl); have f2 := blk_frozen P2 9; have P3 := Aside0.mk (blk_put (cs' := #[(.int .i64 (wrap64 (-a0))), (.int .i64 a1), (.int .i64 (posture_MirrorPose.am a2)), (.int .i64 a3), (.int .i64 0), (.int .i64 0), (.int .i64 0), (.int .i64 (posture_MirrorPose.am a4)), (.int .i64 a5), (.int .i64 a6), (.int .i64 0), (.int .i64 0), (.int .i64 0), (.int .i64 0), (.int .i64 0), (.int .i64 0), (.int .i64 0), (.int .i64 0), (.int .i64 0), (.int .i64 0), (.int .i64 0), (.int .i64 0)]) P2 9 (.int .i64 a6) rfl); clear P1 P2))
  have R2 := Aside0.mk (blk_far (p := ⟨g5, 9, none⟩) (blk_far (p := ⟨g5, 8, none⟩) (blk_far (p := ⟨g5, 7, none⟩) H2.out N25.out (.int .i64 (posture_MirrorPose.am a4))) N25.out (.int .i64 a5)) N25.out (.int .i64 a6))
  have R0 := Aside0.mk (((H0.out.setCell (p := ⟨g5, 7, none⟩) GN5.out (.int .i64 (posture_MirrorPose.am a4))).setCell (p := ⟨g5, 8, none⟩) GN5.out (.int .i64 a5)).setCell (p := ⟨g5, 9, none⟩) GN5.out (.int .i64 a6))
  generalize World.setCell (World.setCell (World.setCell v4 _ _) _ _) _ _ = u0 at P3 R2 R0 ⊢
  clear q0 f0 q1 f1 q2 f2 H0 H2 H5 F0 F2 F5 F7 D0 D2 D5 D7 A0 A2 A5 A7 N7 B5 B2 HBW
  have B5 := P3; have B2 := R2; have HBW := R0
  clear P3 R2 R0
  rw [rounds_succ]
  go_wp2_with (first
    | ((with_reducible refine gate_dst (N := 7) rfl ?_); refine box_event ?hg (N := 7) ?hd (cs := #[.int .i64 0, .int .i64 0, .int .i64 0]) (t := 51) ?hr ?_; (case hd => rfl); (case hg => rfl); (case hr => first | (go_simp; done) | (go_simp; rfl)); intro g7 hg7 v1 hbox hb; have A0 := Aside0.mk (below_step HBW.out hb); have A2 := Aside0.mk (blk_below B2.out hb); have A5 := Aside0.mk (blk_below B5.out hb); have A7 := Aside0.mk hbox; have N7 := Aside0.mk (show w.heap.size ≤ g7 ∧ g5 ≠ g7 ∧ g2 ≠ g7 from ⟨by rw [hg7]; exact HBW.out.size, by rw [hg7]; exact Nat.ne_of_lt (blk_lt B5.out), by rw [hg7]; exact Nat.ne_of_lt (blk_lt B2.out)⟩); clear hbox hb hg7)
    | ((with_reducible refine row_gate (t := 51) (p := 7) rfl ?_); refine row_event ?h0 51 (.tmp 7) (.tmp 35) ?ho ?hd g7 #[.int .i64 a7, .int .i64 a8, .int .i64 a9] ?hx ?hy _ _ A7.out ?hi ?hs ?h1 ?_; (case h0 => rfl); (case ho => rfl); (case hd => rfl); (case hx => first | rfl | (go_simp; rfl)); (case hy => first | rfl | (go_simp; rfl)); (case hi => rfl); (case hs => rfl); (case h1 => kernel_rfl); intro v2 e7 eo eb; have D0 := Aside0.mk (eb _ _ A0.out N7.out.1); have D2 := Aside0.mk ((eo g2 N7.out.2.2).trans A2.out); have D5 := Aside0.mk ((eo g5 N7.out.2.1).trans A5.out); have D7 := Aside0.mk e7; clear e7 eo eb)
    | (go_at_call 62; (with_reducible refine (aim_Swap.calls 1 0 0 _ rfl).mono ?_); rintro e v3 ⟨rfl, hd⟩; have hb := hd.below; clear hd; have F0 := Aside0.mk (below_step D0.out hb); have F2 := Aside0.mk (blk_below D2.out hb); have F5 := Aside0.mk (blk_below D5.out hb); have F7 := Aside0.mk (blk_below D7.out hb); clear hb; obtain ⟨c0, c1, c2, _, _, _, _⟩ := posture_MirrorPose.put3 F7.out (.int .i64 0))
    | (go_at_call 63; (with_reducible refine (posture_MirrorPose.aim_calls k 1 a7 a8 a9 _ M1.out).mono ?_); rintro e v4 ⟨rfl, hb⟩; have H0 := Aside0.mk (below_step F0.out hb); have H2 := Aside0.mk (blk_below F2.out hb); have H5 := Aside0.mk (blk_below F5.out hb); clear hb c0 c1 c2; have q0 := (blk_cell H5.out 4).trans (show _ = some (Value.int .i64 0) from rfl); have f0 := blk_frozen H5.out 4; have P1 := blk_put (cs' := #[(.int .i64 (wrap64 (-a0))), (.int .i64 a1), (.int .i64 (posture_MirrorPose.am a2)), (.int .i64 a3), (.int .i64 (posture_MirrorPose.am a7)), (.int .i64 0), (.int .i64 0), (.int .i64 (posture_MirrorPose.am a4)), (.int .i64 a5), (.int .i64 a6), (.int .i64 0), (.int .i64 0), (.int .i64 0), (.int .i64 0), (.int .i64 0), (.int .i64 0), (.int .i64 0), (.int .i64 0), (.int .i64 0), (.int .i64 0), (.int .i64 0), (.int .i64 0)]) H5.out 4 (.int .i64 (posture_MirrorPose.am a7)) rfl; have q1 := (blk_cell P1 5).trans (show _ = some (Value.int .i64 0) from rfl); have f1 := blk_frozen P1 5; have P2 := blk_put (cs' := #[(.int .i64 (wrap64 (-a0))), (.int .i64 a1), (.int .i64 (posture_MirrorPose.am a2)), (.int .i64 a3), (.int .i64 (posture_MirrorPose.am a7)), (.int .i64 a8), (.int .i64 0), (.int .i64 (posture_MirrorPose.am a4)), (.int .i64 a5), (.int .i64 a6), (.int .i64 0), (.int .i64 0), (.int .i64 0), (.int .i64 0), (.int .i64 0), (.int .i64 0), (.int .i64 0), (.int .i64 0), (.int .i64 0), (.int .i64 0), (.int .i64 0), (.int .i64 0)]) P1 5 (.int .i64 a8) rfl; have q2 := (blk_cell P2 6).trans (show _ = some (Value.int .i64 0) from rfl); have f2 := blk_frozen P2 6; have P3 := Aside0.mk (blk_put (cs' := #[(.int .i64 (wrap64 (-a0))), (.int .i64 a1), (.int .i64 (posture_MirrorPose.am a2)), (.int .i64 a3), (.int .i64 (posture_MirrorPose.am a7)), (.int .i64 a8), (.int .i64 a9), (.int .i64 (posture_MirrorPose.am a4)), (.int .i64 a5), (.int .i64 a6), (.int .i64 0), (.int .i64 0), (.int .i64 0), (.int .i64 0), (.int .i64 0), (.int .i64 0), (.int .i64 0), (.int .i64 0), (.int .i64 0), (.int .i64 0), (.int .i64 0), (.int .i64 0)]) P2 6 (.int .i64 a9) rfl); clear P1 P2))
  have R2 := Aside0.mk (blk_far (p := ⟨g5, 6, none⟩) (blk_far (p := ⟨g5, 5, none⟩) (blk_far (p := ⟨g5, 4, none⟩) H2.out N25.out (.int .i64 (posture_MirrorPose.am a7))) N25.out (.int .i64 a8)) N25.out (.int .i64 a9))
  have R0 := Aside0.mk (((H0.out.setCell (p := ⟨g5, 4, none⟩) GN5.out (.int .i64 (posture_MirrorPose.am a7))).setCell (p := ⟨g5, 5, none⟩) GN5.out (.int .i64 a8)).setCell (p := ⟨g5, 6, none⟩) GN5.out (.int .i64 a9))
  generalize World.setCell (World.setCell (World.setCell v4 _ _) _ _) _ _ = u1 at P3 R2 R0 ⊢
  clear q0 f0 q1 f1 q2 f2 H0 H2 H5 F0 F2 F5 F7 D0 D2 D5 D7 A0 A2 A5 A7 N7 B5 B2 HBW
  have B5 := P3; have B2 := R2; have HBW := R0
  clear P3 R2 R0
  rw [rounds_succ]
  go_wp2_with (first
    | ((with_reducible refine gate_dst (N := 7) rfl ?_); refine box_event ?hg (N := 7) ?hd (cs := #[.int .i64 0, .int .i64 0, .int .i64 0]) (t := 51) ?hr ?_; (case hd => rfl); (case hg => rfl); (case hr => first | (go_simp; done) | (go_simp; rfl)); intro g7 hg7 v1 hbox hb; have A0 := Aside0.mk (below_step HBW.out hb); have A2 := Aside0.mk (blk_below B2.out hb); have A5 := Aside0.mk (blk_below B5.out hb); have A7 := Aside0.mk hbox; have N7 := Aside0.mk (show w.heap.size ≤ g7 ∧ g5 ≠ g7 ∧ g2 ≠ g7 from ⟨by rw [hg7]; exact HBW.out.size, by rw [hg7]; exact Nat.ne_of_lt (blk_lt B5.out), by rw [hg7]; exact Nat.ne_of_lt (blk_lt B2.out)⟩); clear hbox hb hg7)
    | ((with_reducible refine row_gate (t := 51) (p := 7) rfl ?_); refine row_event ?h0 51 (.tmp 7) (.tmp 35) ?ho ?hd g7 #[.int .i64 a10, .int .i64 a11, .int .i64 a12] ?hx ?hy _ _ A7.out ?hi ?hs ?h1 ?_; (case h0 => rfl); (case ho => rfl); (case hd => rfl); (case hx => first | rfl | (go_simp; rfl)); (case hy => first | rfl | (go_simp; rfl)); (case hi => rfl); (case hs => rfl); (case h1 => kernel_rfl); intro v2 e7 eo eb; have D0 := Aside0.mk (eb _ _ A0.out N7.out.1); have D2 := Aside0.mk ((eo g2 N7.out.2.2).trans A2.out); have D5 := Aside0.mk ((eo g5 N7.out.2.1).trans A5.out); have D7 := Aside0.mk e7; clear e7 eo eb)
    | (go_at_call 62; (with_reducible refine (aim_Swap.calls 2 2 0 _ rfl).mono ?_); rintro e v3 ⟨rfl, hd⟩; have hb := hd.below; clear hd; have F0 := Aside0.mk (below_step D0.out hb); have F2 := Aside0.mk (blk_below D2.out hb); have F5 := Aside0.mk (blk_below D5.out hb); have F7 := Aside0.mk (blk_below D7.out hb); clear hb; obtain ⟨c0, c1, c2, _, _, _, _⟩ := posture_MirrorPose.put3 F7.out (.int .i64 0))
    | (go_at_call 63; (with_reducible refine (posture_MirrorPose.aim_calls k 2 a10 a11 a12 _ M2.out).mono ?_); rintro e v4 ⟨rfl, hb⟩; have H0 := Aside0.mk (below_step F0.out hb); have H2 := Aside0.mk (blk_below F2.out hb); have H5 := Aside0.mk (blk_below F5.out hb); clear hb c0 c1 c2; have q0 := (blk_cell H5.out 10).trans (show _ = some (Value.int .i64 0) from rfl); have f0 := blk_frozen H5.out 10; have P1 := blk_put (cs' := #[(.int .i64 (wrap64 (-a0))), (.int .i64 a1), (.int .i64 (posture_MirrorPose.am a2)), (.int .i64 a3), (.int .i64 (posture_MirrorPose.am a7)), (.int .i64 a8), (.int .i64 a9), (.int .i64 (posture_MirrorPose.am a4)), (.int .i64 a5), (.int .i64 a6), (.int .i64 (posture_MirrorPose.am a10)), (.int .i64 0), (.int .i64 0), (.int .i64 0), (.int .i64 0), (.int .i64 0), (.int .i64 0), (.int .i64 0), (.int .i64 0), (.int .i64 0), (.int .i64 0), (.int .i64 0)]) H5.out 10 (.int .i64 (posture_MirrorPose.am a10)) rfl; have q1 := (blk_cell P1 11).trans (show _ = some (Value.int .i64 0) from rfl); have f1 := blk_frozen P1 11; have P2 := blk_put (cs' := #[(.int .i64 (wrap64 (-a0))), (.int .i64 a1), (.int .i64 (posture_MirrorPose.am a2)), (.int .i64 a3), (.int .i64 (posture_MirrorPose.am a7)), (.int .i64 a8), (.int .i64 a9), (.int .i64 (posture_MirrorPose.am a4)), (.int .i64 a5), (.int .i64 a6), (.int .i64 (posture_MirrorPose.am a10)), (.int .i64 a11), (.int .i64 0), (.int .i64 0), (.int .i64 0), (.int .i64 0), (.int .i64 0), (.int .i64 0), (.int .i64 0), (.int .i64 0), (.int .i64 0), (.int .i64 0)]) P1 11 (.int .i64 a11) rfl; have q2 := (blk_cell P2 12).trans (show _ = some (Value.int .i64 0) from rfl); have f2 := blk_frozen P2 12; have P3 := Aside0.mk (blk_put (cs' := #[(.int .i64 (wrap64 (-a0))), (.int .i64 a1), (.int .i64 (posture_MirrorPose.am a2)), (.int .i64 a3), (.int .i64 (posture_MirrorPose.am a7)), (.int .i64 a8), (.int .i64 a9), (.int .i64 (posture_MirrorPose.am a4)), (.int .i64 a5), (.int .i64 a6), (.int .i64 (posture_MirrorPose.am a10)), (.int .i64 a11), (.int .i64 a12), (.int .i64 0), (.int .i64 0), (.int .i64 0), (.int .i64 0), (.int .i64 0), (.int .i64 0), (.int .i64 0), (.int .i64 0), (.int .i64 0)]) P2 12 (.int .i64 a12) rfl); clear P1 P2))
  have R2 := Aside0.mk (blk_far (p := ⟨g5, 12, none⟩) (blk_far (p := ⟨g5, 11, none⟩) (blk_far (p := ⟨g5, 10, none⟩) H2.out N25.out (.int .i64 (posture_MirrorPose.am a10))) N25.out (.int .i64 a11)) N25.out (.int .i64 a12))
  have R0 := Aside0.mk (((H0.out.setCell (p := ⟨g5, 10, none⟩) GN5.out (.int .i64 (posture_MirrorPose.am a10))).setCell (p := ⟨g5, 11, none⟩) GN5.out (.int .i64 a11)).setCell (p := ⟨g5, 12, none⟩) GN5.out (.int .i64 a12))
  generalize World.setCell (World.setCell (World.setCell v4 _ _) _ _) _ _ = u2 at P3 R2 R0 ⊢
  clear q0 f0 q1 f1 q2 f2 H0 H2 H5 F0 F2 F5 F7 D0 D2 D5 D7 A0 A2 A5 A7 N7 B5 B2 HBW
  have B5 := P3; have B2 := R2; have HBW := R0
  clear P3 R2 R0
  rw [rounds_succ]
  go_wp2_with (first
    | ((with_reducible refine gate_dst (N := 7) rfl ?_); refine box_event ?hg (N := 7) ?hd (cs := #[.int .i64 0, .int .i64 0, .int .i64 0]) (t := 51) ?hr ?_; (case hd => rfl); (case hg => rfl); (case hr => first | (go_simp; done) | (go_simp; rfl)); intro g7 hg7 v1 hbox hb; have A0 := Aside0.mk (below_step HBW.out hb); have A2 := Aside0.mk (blk_below B2.out hb); have A5 := Aside0.mk (blk_below B5.out hb); have A7 := Aside0.mk hbox; have N7 := Aside0.mk (show w.heap.size ≤ g7 ∧ g5 ≠ g7 ∧ g2 ≠ g7 from ⟨by rw [hg7]; exact HBW.out.size, by rw [hg7]; exact Nat.ne_of_lt (blk_lt B5.out), by rw [hg7]; exact Nat.ne_of_lt (blk_lt B2.out)⟩); clear hbox hb hg7)
    | ((with_reducible refine row_gate (t := 51) (p := 7) rfl ?_); refine row_event ?h0 51 (.tmp 7) (.tmp 35) ?ho ?hd g7 #[.int .i64 a13, .int .i64 a14, .int .i64 a15] ?hx ?hy _ _ A7.out ?hi ?hs ?h1 ?_; (case h0 => rfl); (case ho => rfl); (case hd => rfl); (case hx => first | rfl | (go_simp; rfl)); (case hy => first | rfl | (go_simp; rfl)); (case hi => rfl); (case hs => rfl); (case h1 => kernel_rfl); intro v2 e7 eo eb; have D0 := Aside0.mk (eb _ _ A0.out N7.out.1); have D2 := Aside0.mk ((eo g2 N7.out.2.2).trans A2.out); have D5 := Aside0.mk ((eo g5 N7.out.2.1).trans A5.out); have D7 := Aside0.mk e7; clear e7 eo eb)
    | (go_at_call 62; (with_reducible refine (aim_Swap.calls 3 4 0 _ rfl).mono ?_); rintro e v3 ⟨rfl, hd⟩; have hb := hd.below; clear hd; have F0 := Aside0.mk (below_step D0.out hb); have F2 := Aside0.mk (blk_below D2.out hb); have F5 := Aside0.mk (blk_below D5.out hb); have F7 := Aside0.mk (blk_below D7.out hb); clear hb; obtain ⟨c0, c1, c2, _, _, _, _⟩ := posture_MirrorPose.put3 F7.out (.int .i64 0))
    | (go_at_call 63; (with_reducible refine (posture_MirrorPose.aim_calls k 3 a13 a14 a15 _ M3.out).mono ?_); rintro e v4 ⟨rfl, hb⟩; have H0 := Aside0.mk (below_step F0.out hb); have H2 := Aside0.mk (blk_below F2.out hb); have H5 := Aside0.mk (blk_below F5.out hb); clear hb c0 c1 c2; have q0 := (blk_cell H5.out 16).trans (show _ = some (Value.int .i64 0) from rfl); have f0 := blk_frozen H5.out 16; have P1 := blk_put (cs' := #[(.int .i64 (wrap64 (-a0))), (.int .i64 a1), (.int .i64 (posture_MirrorPose.am a2)), (.int .i64 a3), (.int .i64 (posture_MirrorPose.am a7)), (.int .i64 a8), (.int .i64 a9), (.int .i64 (posture_MirrorPose.am a4)), (.int .i64 a5), (.int .i64 a6), (.int .i64 (posture_MirrorPose.am a10)), (.int .i64 a11), (.int .i64 a12), (.int .i64 0), (.int .i64 0), (.int .i64 0), (.int .i64 (posture_MirrorPose.am a13)), (.int .i64 0), (.int .i64 0), (.int .i64 0), (.int .i64 0), (.int .i64 0)]) H5.out 16 (.int .i64 (posture_MirrorPose.am a13)) rfl; have q1 := (blk_cell P1 17).trans (show _ = some (Value.int .i64 0) from rfl); have f1 := blk_frozen P1 17; have P2 := blk_put (cs' := #[(.int .i64 (wrap64 (-a0))), (.int .i64 a1), (.int .i64 (posture_MirrorPose.am a2)), (.int .i64 a3), (.int .i64 (posture_MirrorPose.am a7)), (.int .i64 a8), (.int .i64 a9), (.int .i64 (posture_MirrorPose.am a4)), (.int .i64 a5), (.int .i64 a6), (.int .i64 (posture_MirrorPose.am a10)), (.int .i64 a11), (.int .i64 a12), (.int .i64 0), (.int .i64 0), (.int .i64 0), (.int .i64 (posture_MirrorPose.am a13)), (.int .i64 a14), (.int .i64 0), (.int .i64 0), (.int .i64 0), (.int .i64 0)]) P1 17 (.int .i64 a14) rfl; have q2 := (blk_cell P2 18).trans (show _ = some (Value.int .i64 0) from rfl); have f2 := blk_frozen P2 18; have P3 := Aside0.mk (blk_put (cs' := #[(.int .i64 (wrap64 (-a0))), (.int .i64 a1), (.int .i64 (posture_MirrorPose.am a2)), (.int .i64 a3), (.int .i64 (posture_MirrorPose.am a7)), (.int .i64 a8), (.int .i64 a9), (.int .i64 (posture_MirrorPose.am a4)), (.int .i64 a5), (.int .i64 a6), (.int .i64 (posture_MirrorPose.am a10)), (.int .i64 a11), (.int .i64 a12), (.int .i64 0), (.int .i64 0), (.int .i64 0), (.int .i64 (posture_MirrorPose.am a13)), (.int .i64 a14), (.int .i64 a15), (.int .i64 0), (.int .i64 0), (.int .i64 0)]) P2 18 (.int .i64 a15) rfl); clear P1 P2))
  have R2 := Aside0.mk (blk_far (p := ⟨g5, 18, none⟩) (blk_far (p := ⟨g5, 17, none⟩) (blk_far (p := ⟨g5, 16, none⟩) H2.out N25.out (.int .i64 (posture_MirrorPose.am a13))) N25.out (.int .i64 a14)) N25.out (.int .i64 a15))
  have R0 := Aside0.mk (((H0.out.setCell (p := ⟨g5, 16, none⟩) GN5.out (.int .i64 (posture_MirrorPose.am a13))).setCell (p := ⟨g5, 17, none⟩) GN5.out (.int .i64 a14)).setCell (p := ⟨g5, 18, none⟩) GN5.out (.int .i64 a15))
  generalize World.setCell (World.setCell (World.setCell v4 _ _) _ _) _ _ = u3 at P3 R2 R0 ⊢
  clear q0 f0 q1 f1 q2 f2 H0 H2 H5 F0 F2 F5 F7 D0 D2 D5 D7 A0 A2 A5 A7 N7 B5 B2 HBW
  have B5 := P3; have B2 := R2; have HBW := R0
  clear P3 R2 R0
  rw [rounds_succ]
  go_wp2_with (first
    | ((with_reducible refine gate_dst (N := 7) rfl ?_); refine box_event ?hg (N := 7) ?hd (cs := #[.int .i64 0, .int .i64 0, .int .i64 0]) (t := 51) ?hr ?_; (case hd => rfl); (case hg => rfl); (case hr => first | (go_simp; done) | (go_simp; rfl)); intro g7 hg7 v1 hbox hb; have A0 := Aside0.mk (below_step HBW.out hb); have A2 := Aside0.mk (blk_below B2.out hb); have A5 := Aside0.mk (blk_below B5.out hb); have A7 := Aside0.mk hbox; have N7 := Aside0.mk (show w.heap.size ≤ g7 ∧ g5 ≠ g7 ∧ g2 ≠ g7 from ⟨by rw [hg7]; exact HBW.out.size, by rw [hg7]; exact Nat.ne_of_lt (blk_lt B5.out), by rw [hg7]; exact Nat.ne_of_lt (blk_lt B2.out)⟩); clear hbox hb hg7)
    | ((with_reducible refine row_gate (t := 51) (p := 7) rfl ?_); refine row_event ?h0 51 (.tmp 7) (.tmp 35) ?ho ?hd g7 #[.int .i64 a16, .int .i64 a17, .int .i64 a18] ?hx ?hy _ _ A7.out ?hi ?hs ?h1 ?_; (case h0 => rfl); (case ho => rfl); (case hd => rfl); (case hx => first | rfl | (go_simp; rfl)); (case hy => first | rfl | (go_simp; rfl)); (case hi => rfl); (case hs => rfl); (case h1 => kernel_rfl); intro v2 e7 eo eb; have D0 := Aside0.mk (eb _ _ A0.out N7.out.1); have D2 := Aside0.mk ((eo g2 N7.out.2.2).trans A2.out); have D5 := Aside0.mk ((eo g5 N7.out.2.1).trans A5.out); have D7 := Aside0.mk e7; clear e7 eo eb)
    | (go_at_call 62; (with_reducible refine (aim_Swap.calls 4 3 0 _ rfl).mono ?_); rintro e v3 ⟨rfl, hd⟩; have hb := hd.below; clear hd; have F0 := Aside0.mk (below_step D0.out hb); have F2 := Aside0.mk (blk_below D2.out hb); have F5 := Aside0.mk (blk_below D5.out hb); have F7 := Aside0.mk (blk_below D7.out hb); clear hb; obtain ⟨c0, c1, c2, _, _, _, _⟩ := posture_MirrorPose.put3 F7.out (.int .i64 0))
    | (go_at_call 63; (with_reducible refine (posture_MirrorPose.aim_calls k 4 a16 a17 a18 _ M4.out).mono ?_); rintro e v4 ⟨rfl, hb⟩; have H0 := Aside0.mk (below_step F0.out hb); have H2 := Aside0.mk (blk_below F2.out hb); have H5 := Aside0.mk (blk_below F5.out hb); clear hb c0 c1 c2; have q0 := (blk_cell H5.out 13).trans (show _ = some (Value.int .i64 0) from rfl); have f0 := blk_frozen H5.out 13; have P1 := blk_put (cs' := #[(.int .i64 (wrap64 (-a0))), (.int .i64 a1), (.int .i64 (posture_MirrorPose.am a2)), (.int .i64 a3), (.int .i64 (posture_MirrorPose.am a7)), (.int .i64 a8), (.int .i64 a9), (.int .i64 (posture_MirrorPose.am a4)), (.int .i64 a5), (.int .i64 a6), (.int .i64 (posture_MirrorPose.am a10)), (.int .i64 a11), (.int .i64 a12), (.int .i64 (posture_MirrorPose.am a16)), (.int .i64 0), (.int .i64 0), (.int .i64 (posture_MirrorPose.am a13)), (.int .i64 a14), (.int .i64 a15), (.int .i64 0), (.int .i64 0), (.int .i64 0)]) H5.out 13 (.int .i64 (posture_MirrorPose.am a16)) rfl; have q1 := (blk_cell P1 14).trans (show _ = some (Value.int .i64 0) from rfl); have f1 := blk_frozen P1 14; have P2 := blk_put (cs' := #[(.int .i64 (wrap64 (-a0))), (.int .i64 a1), (.int .i64 (posture_MirrorPose.am a2)), (.int .i64 a3), (.int .i64 (posture_MirrorPose.am a7)), (.int .i64 a8), (.int .i64 a9), (.int .i64 (posture_MirrorPose.am a4)), (.int .i64 a5), (.int .i64 a6), (.int .i64 (posture_MirrorPose.am a10)), (.int .i64 a11), (.int .i64 a12), (.int .i64 (posture_MirrorPose.am a16)), (.int .i64 a17), (.int .i64 0), (.int .i64 (posture_MirrorPose.am a13)), (.int .i64 a14), (.int .i64 a15), (.int .i64 0), (.int .i64 0), (.int .i64 0)]) P1 14 (.int .i64 a17) rfl; have q2 := (blk_cell P2 15).trans (show _ = some (Value.int .i64 0) from rfl); have f2 := blk_frozen P2 15; have P3 := Aside0.mk (blk_put (cs' := #[(.int .i64 (wrap64 (-a0))), (.int .i64 a1), (.int .i64 (posture_MirrorPose.am a2)), (.int .i64 a3), (.int .i64 (posture_MirrorPose.am a7)), (.int .i64 a8), (.int .i64 a9), (.int .i64 (posture_MirrorPose.am a4)), (.int .i64 a5), (.int .i64 a6), (.int .i64 (posture_MirrorPose.am a10)), (.int .i64 a11), (.int .i64 a12), (.int .i64 (posture_MirrorPose.am a16)), (.int .i64 a17), (.int .i64 a18), (.int .i64 (posture_MirrorPose.am a13)), (.int .i64 a14), (.int .i64 a15), (.int .i64 0), (.int .i64 0), (.int .i64 0)]) P2 15 (.int .i64 a18) rfl); clear P1 P2))
  have R2 := Aside0.mk (blk_far (p := ⟨g5, 15, none⟩) (blk_far (p := ⟨g5, 14, none⟩) (blk_far (p := ⟨g5, 13, none⟩) H2.out N25.out (.int .i64 (posture_MirrorPose.am a16))) N25.out (.int .i64 a17)) N25.out (.int .i64 a18))
  have R0 := Aside0.mk (((H0.out.setCell (p := ⟨g5, 13, none⟩) GN5.out (.int .i64 (posture_MirrorPose.am a16))).setCell (p := ⟨g5, 14, none⟩) GN5.out (.int .i64 a17)).setCell (p := ⟨g5, 15, none⟩) GN5.out (.int .i64 a18))
  generalize World.setCell (World.setCell (World.setCell v4 _ _) _ _) _ _ = u4 at P3 R2 R0 ⊢
  clear q0 f0 q1 f1 q2 f2 H0 H2 H5 F0 F2 F5 F7 D0 D2 D5 D7 A0 A2 A5 A7 N7 B5 B2 HBW
  have B5 := P3; have B2 := R2; have HBW := R0
  clear P3 R2 R0
  rw [rounds_succ]
  go_wp2_with (first
    | ((with_reducible refine gate_dst (N := 7) rfl ?_); refine box_event ?hg (N := 7) ?hd (cs := #[.int .i64 0, .int .i64 0, .int .i64 0]) (t := 51) ?hr ?_; (case hd => rfl); (case hg => rfl); (case hr => first | (go_simp; done) | (go_simp; rfl)); intro g7 hg7 v1 hbox hb; have A0 := Aside0.mk (below_step HBW.out hb); have A2 := Aside0.mk (blk_below B2.out hb); have A5 := Aside0.mk (blk_below B5.out hb); have A7 := Aside0.mk hbox; have N7 := Aside0.mk (show w.heap.size ≤ g7 ∧ g5 ≠ g7 ∧ g2 ≠ g7 from ⟨by rw [hg7]; exact HBW.out.size, by rw [hg7]; exact Nat.ne_of_lt (blk_lt B5.out), by rw [hg7]; exact Nat.ne_of_lt (blk_lt B2.out)⟩); clear hbox hb hg7)
    | ((with_reducible refine row_gate (t := 51) (p := 7) rfl ?_); refine row_event ?h0 51 (.tmp 7) (.tmp 35) ?ho ?hd g7 #[.int .i64 a19, .int .i64 a20, .int .i64 a21] ?hx ?hy _ _ A7.out ?hi ?hs ?h1 ?_; (case h0 => rfl); (case ho => rfl); (case hd => rfl); (case hx => first | rfl | (go_simp; rfl)); (case hy => first | rfl | (go_simp; rfl)); (case hi => rfl); (case hs => rfl); (case h1 => kernel_rfl); intro v2 e7 eo eb; have D0 := Aside0.mk (eb _ _ A0.out N7.out.1); have D2 := Aside0.mk ((eo g2 N7.out.2.2).trans A2.out); have D5 := Aside0.mk ((eo g5 N7.out.2.1).trans A5.out); have D7 := Aside0.mk e7; clear e7 eo eb)
    | (go_at_call 62; (with_reducible refine (aim_Swap.calls 5 5 0 _ rfl).mono ?_); rintro e v3 ⟨rfl, hd⟩; have hb := hd.below; clear hd; have F0 := Aside0.mk (below_step D0.out hb); have F2 := Aside0.mk (blk_below D2.out hb); have F5 := Aside0.mk (blk_below D5.out hb); have F7 := Aside0.mk (blk_below D7.out hb); clear hb; obtain ⟨c0, c1, c2, _, _, _, _⟩ := posture_MirrorPose.put3 F7.out (.int .i64 0))
    | (go_at_call 63; (with_reducible refine (posture_MirrorPose.aim_calls k 5 a19 a20 a21 _ M5.out).mono ?_); rintro e v4 ⟨rfl, hb⟩; have H0 := Aside0.mk (below_step F0.out hb); have H2 := Aside0.mk (blk_below F2.out hb); have H5 := Aside0.mk (blk_below F5.out hb); clear hb c0 c1 c2; have q0 := (blk_cell H5.out 19).trans (show _ = some (Value.int .i64 0) from rfl); have f0 := blk_frozen H5.out 19; have P1 := blk_put (cs' := #[(.int .i64 (wrap64 (-a0))), (.int .i64 a1), (.int .i64 (posture_MirrorPose.am a2)), (.int .i64 a3), (.int .i64 (posture_MirrorPose.am a7)), (.int .i64 a8), (.int .i64 a9), (.int .i64 (posture_MirrorPose.am a4)), (.int .i64 a5), (.int .i64 a6), (.int .i64 (posture_MirrorPose.am a10)), (.int .i64 a11), (.int .i64 a12), (.int .i64 (posture_MirrorPose.am a16)), (.int .i64 a17), (.int .i64 a18), (.int .i64 (posture_MirrorPose.am a13)), (.int .i64 a14), (.int .i64 a15), (.int .i64 (posture_MirrorPose.am a19)), (.int .i64 0), (.int .i64 0)]) H5.out 19 (.int .i64 (posture_MirrorPose.am a19)) rfl; have q1 := (blk_cell P1 20).trans (show _ = some (Value.int .i64 0) from rfl); have f1 := blk_frozen P1 20; have P2 := blk_put (cs' := #[(.int .i64 (wrap64 (-a0))), (.int .i64 a1), (.int .i64 (posture_MirrorPose.am a2)), (.int .i64 a3), (.int .i64 (posture_MirrorPose.am a7)), (.int .i64 a8), (.int .i64 a9), (.int .i64 (posture_MirrorPose.am a4)), (.int .i64 a5), (.int .i64 a6), (.int .i64 (posture_MirrorPose.am a10)), (.int .i64 a11), (.int .i64 a12), (.int .i64 (posture_MirrorPose.am a16)), (.int .i64 a17), (.int .i64 a18), (.int .i64 (posture_MirrorPose.am a13)), (.int .i64 a14), (.int .i64 a15), (.int .i64 (posture_MirrorPose.am a19)), (.int .i64 a20), (.int .i64 0)]) P1 20 (.int .i64 a20) rfl; have q2 := (blk_cell P2 21).trans (show _ = some (Value.int .i64 0) from rfl); have f2 := blk_frozen P2 21; have P3 := Aside0.mk (blk_put (cs' := #[(.int .i64 (wrap64 (-a0))), (.int .i64 a1), (.int .i64 (posture_MirrorPose.am a2)), (.int .i64 a3), (.int .i64 (posture_MirrorPose.am a7)), (.int .i64 a8), (.int .i64 a9), (.int .i64 (posture_MirrorPose.am a4)), (.int .i64 a5), (.int .i64 a6), (.int .i64 (posture_MirrorPose.am a10)), (.int .i64 a11), (.int .i64 a12), (.int .i64 (posture_MirrorPose.am a16)), (.int .i64 a17), (.int .i64 a18), (.int .i64 (posture_MirrorPose.am a13)), (.int .i64 a14), (.int .i64 a15), (.int .i64 (posture_MirrorPose.am a19)), (.int .i64 a20), (.int .i64 a21)]) P2 21 (.int .i64 a21) rfl); clear P1 P2))
  have R2 := Aside0.mk (blk_far (p := ⟨g5, 21, none⟩) (blk_far (p := ⟨g5, 20, none⟩) (blk_far (p := ⟨g5, 19, none⟩) H2.out N25.out (.int .i64 (posture_MirrorPose.am a19))) N25.out (.int .i64 a20)) N25.out (.int .i64 a21))
  have R0 := Aside0.mk (((H0.out.setCell (p := ⟨g5, 19, none⟩) GN5.out (.int .i64 (posture_MirrorPose.am a19))).setCell (p := ⟨g5, 20, none⟩) GN5.out (.int .i64 a20)).setCell (p := ⟨g5, 21, none⟩) GN5.out (.int .i64 a21))
  generalize World.setCell (World.setCell (World.setCell v4 _ _) _ _) _ _ = u5 at P3 R2 R0 ⊢
  clear q0 f0 q1 f1 q2 f2 H0 H2 H5 F0 F2 F5 F7 D0 D2 D5 D7 A0 A2 A5 A7 N7 B5 B2 HBW
  have B5 := P3; have B2 := R2; have HBW := R0
  clear P3 R2 R0
  rw [rounds_succ]
  go_wp2_with (first
    | ((with_reducible refine gate_dst (N := 51) rfl ?_); refine load_big ?h0 54 (.tmp 5) ?ho ⟨g5, 0, none⟩ ?hx [(.int .i64 (wrap64 (-a0))), (.int .i64 a1), (.int .i64 (posture_MirrorPose.am a2)), (.int .i64 a3), (.int .i64 (posture_MirrorPose.am a7)), (.int .i64 a8), (.int .i64 a9), (.int .i64 (posture_MirrorPose.am a4)), (.int .i64 a5), (.int .i64 a6), (.int .i64 (posture_MirrorPose.am a10)), (.int .i64 a11), (.int .i64 a12), (.int .i64 (posture_MirrorPose.am a16)), (.int .i64 a17), (.int .i64 a18), (.int .i64 (posture_MirrorPose.am a13)), (.int .i64 a14), (.int .i64 a15), (.int .i64 (posture_MirrorPose.am a19)), (.int .i64 a20), (.int .i64 a21)] _ ?hc Try.underlying54 ?hd ?hi ?_; (case h0 => rfl); (case ho => rfl); (case hx => first | rfl | (go_simp; rfl)); (case hc => exact RowAt.of_block (cs := #[(.int .i64 (wrap64 (-a0))), (.int .i64 a1), (.int .i64 (posture_MirrorPose.am a2)), (.int .i64 a3), (.int .i64 (posture_MirrorPose.am a7)), (.int .i64 a8), (.int .i64 a9), (.int .i64 (posture_MirrorPose.am a4)), (.int .i64 a5), (.int .i64 a6), (.int .i64 (posture_MirrorPose.am a10)), (.int .i64 a11), (.int .i64 a12), (.int .i64 (posture_MirrorPose.am a16)), (.int .i64 a17), (.int .i64 a18), (.int .i64 (posture_MirrorPose.am a13)), (.int .i64 a14), (.int .i64 a15), (.int .i64 (posture_MirrorPose.am a19)), (.int .i64 a20), (.int .i64 a21)]) B5.out rfl); (case hd => rfl); (case hi => rfl))
    | ((with_reducible refine row_gate (t := 54) (p := 2) rfl ?_); refine row_event ?h0 54 (.tmp 2) (.tmp 51) ?ho ?hd g2 #[(.int .i64 (wrap64 (-a0))), (.int .i64 a1), (.int .i64 (posture_MirrorPose.am a2)), (.int .i64 a3), (.int .i64 (posture_MirrorPose.am a7)), (.int .i64 a8), (.int .i64 a9), (.int .i64 (posture_MirrorPose.am a4)), (.int .i64 a5), (.int .i64 a6), (.int .i64 (posture_MirrorPose.am a10)), (.int .i64 a11), (.int .i64 a12), (.int .i64 (posture_MirrorPose.am a16)), (.int .i64 a17), (.int .i64 a18), (.int .i64 (posture_MirrorPose.am a13)), (.int .i64 a14), (.int .i64 a15), (.int .i64 (posture_MirrorPose.am a19)), (.int .i64 a20), (.int .i64 a21)] ?hx ?hy _ _ B2.out ?hi ?hs ?h1 ?_; (case h0 => rfl); (case ho => rfl); (case hd => rfl); (case hx => first | rfl | (go_simp; rfl)); (case hy => first | rfl | (go_simp; rfl)); (case hi => rfl); (case hs => rfl); (case h1 => kernel_rfl); intro v9 e9 eo eb; have X0 := Aside0.mk (eb _ _ HBW.out G2.out); have X2 := Aside0.mk e9; clear e9 eo eb))
  refine bodyPost_ret (results_ct rfl _ _ g2 54 #[(.int .i64 (wrap64 (-a0))), (.int .i64 a1), (.int .i64 (posture_MirrorPose.am a2)), (.int .i64 a3), (.int .i64 (posture_MirrorPose.am a7)), (.int .i64 a8), (.int .i64 a9), (.int .i64 (posture_MirrorPose.am a4)), (.int .i64 a5), (.int .i64 a6), (.int .i64 (posture_MirrorPose.am a10)), (.int .i64 a11), (.int .i64 a12), (.int .i64 (posture_MirrorPose.am a16)), (.int .i64 a17), (.int .i64 a18), (.int .i64 (posture_MirrorPose.am a13)), (.int .i64 a14), (.int .i64 a15), (.int .i64 (posture_MirrorPose.am a19)), (.int .i64 a20), (.int .i64 a21)] (0, 0) _ rfl X2.out Try.underlying54 rfl (by kernel_rfl)) rfl ?_
  exact ⟨rfl, X0.out⟩
/-! #### the mirror image of a movement, told plainly -/
/-- A support in the mirror. -/
def movement_Mirror.sp (x : Int) : Int := Go.bits .or .i64 (x / 2) (wrap64 (Go.bits .and .i64 x 1 * 2))
set_option maxHeartbeats 4000000 in
set_option maxRecDepth 100000 in
theorem movement_Mirror.support_calls (g1 n c : Nat) (ad : Addr) (t : Nat) (x : Int) (W : World) (ht : t < n) (hs : W.cell? ⟨g1, 1, none⟩ = some (.slice (some ad) n c)) (hx : W.cell? (ad.add t) = some (.int .i64 x)) :
    Calls Try.prog 40 #[.int .i64 (t : Int), .pointer (some ⟨g1, 0, none⟩)] W fun e w' => e = .returned (.int .i64 (movement_Mirror.sp x)) ∧ ∃ n, w' = W.drewN n := by
  have mixed : Try.prog.follows .mixedOrders = true := by kernel_rfl
  have htz : (t : Int) < (n : Int) := by omega
  clear ht
  go_enter Try.func40, Try.ntmps40
  go_wp2_with fail
  go_quiet (fail)
  go_wp2
  go_ret
  exact ⟨rfl, nq, rfl⟩
/-- A pose in the mirror. -/
def movement_Mirror.aim (a : S51) : S51 := ⟨posture_MirrorPose.am a.f0, a.f1, a.f2⟩
def movement_Mirror.ps (x : S54) : S54 := ⟨⟨wrap64 (-x.f0.f0), x.f0.f1⟩, posture_MirrorPose.am x.f1, x.f2, ⟨movement_Mirror.aim x.f3.f1, movement_Mirror.aim x.f3.f0, movement_Mirror.aim x.f3.f2, movement_Mirror.aim x.f3.f4, movement_Mirror.aim x.f3.f3, movement_Mirror.aim x.f3.f5⟩⟩
def movement_Mirror.cs (x : S54) : List Value := [.int .i64 x.f0.f0, .int .i64 x.f0.f1, .int .i64 x.f1, .int .i64 x.f2, .int .i64 x.f3.f0.f0, .int .i64 x.f3.f0.f1, .int .i64 x.f3.f0.f2, .int .i64 x.f3.f1.f0, .int .i64 x.f3.f1.f1, .int .i64 x.f3.f1.f2, .int .i64 x.f3.f2.f0, .int .i64 x.f3.f2.f1, .int .i64 x.f3.f2.f2, .int .i64 x.f3.f3.f0, .int .i64 x.f3.f3.f1, .int .i64 x.f3.f3.f2, .int .i64 x.f3.f4.f0, .int .i64 x.f3.f4.f1, .int .i64 x.f3.f4.f2, .int .i64 x.f3.f5.f0, .int .i64 x.f3.f5.f1, .int .i64 x.f3.f5.f2]
def movement_Mirror.val (k : Nat) (x : S54) : Option Int := posture_Valid.f k x.f0.f0 x.f0.f1 x.f1 x.f2 x.f3.f0.f0 x.f3.f0.f1 x.f3.f0.f2 x.f3.f1.f0 x.f3.f1.f1 x.f3.f1.f2 x.f3.f2.f0 x.f3.f2.f1 x.f3.f2.f2 x.f3.f3.f0 x.f3.f3.f1 x.f3.f3.f2 x.f3.f4.f0 x.f3.f4.f1 x.f3.f4.f2 x.f3.f5.f0 x.f3.f5.f1 x.f3.f5.f2
set_option maxHeartbeats 2000000 in
theorem movement_Mirror.aims {k : Nat} {a0 a1 a2 a3 a4 a5 a6 a7 a8 a9 a10 a11 a12 a13 a14 a15 a16 a17 a18 a19 a20 a21 : Int} (h : posture_Valid.f k a0 a1 a2 a3 a4 a5 a6 a7 a8 a9 a10 a11 a12 a13 a14 a15 a16 a17 a18 a19 a20 a21 = some 0) : aim_Check.f k 0 a4 a5 a6 = some 0 ∧ aim_Check.f k 1 a7 a8 a9 = some 0 ∧ aim_Check.f k 2 a10 a11 a12 = some 0 ∧ aim_Check.f k 3 a13 a14 a15 = some 0 ∧ aim_Check.f k 4 a16 a17 a18 = some 0 ∧ aim_Check.f k 5 a19 a20 a21 = some 0 := by
  unfold posture_Valid.f at h
  obtain ⟨t1, _, h⟩ := Option.bind_eq_some_iff.mp h
  have z : some (1 : Int) = some 0 → False := fun e => absurd (Option.some.inj e) (by decide)
  by_cases c1 : ¬ t1 = true
  · rw [if_neg c1] at h; exact (z h).elim
  rw [if_pos (Classical.not_not.mp c1)] at h
  by_cases c2 : a2 < 0
  · rw [if_pos c2] at h; exact (z h).elim
  rw [if_neg c2] at h
  by_cases c3 : a2 > 255
  · rw [if_pos c3] at h; exact (z h).elim
  rw [if_neg c3] at h
  by_cases c4 : a3 < (-8)
  · rw [if_pos c4] at h; exact (z h).elim
  rw [if_neg c4] at h
  by_cases c5 : a3 > 8
  · rw [if_pos c5] at h; exact (z h).elim
  rw [if_neg c5] at h
  obtain ⟨e0, h0, h⟩ := Option.bind_eq_some_iff.mp h
  have q0 : e0 = 0 := by
    by_cases q : e0 = 0
    · exact q
    · rw [if_neg q] at h; exact Option.some.inj h
  rw [if_pos q0] at h
  rw [q0] at h0
  obtain ⟨e1, h1, h⟩ := Option.bind_eq_some_iff.mp h
  have q1 : e1 = 0 := by
    by_cases q : e1 = 0
    · exact q
    · rw [if_neg q] at h; exact Option.some.inj h
  rw [if_pos q1] at h
  rw [q1] at h1
  obtain ⟨e2, h2, h⟩ := Option.bind_eq_some_iff.mp h
  have q2 : e2 = 0 := by
    by_cases q : e2 = 0
    · exact q
    · rw [if_neg q] at h; exact Option.some.inj h
  rw [if_pos q2] at h
  rw [q2] at h2
  obtain ⟨e3, h3, h⟩ := Option.bind_eq_some_iff.mp h
  have q3 : e3 = 0 := by
    by_cases q : e3 = 0
    · exact q
    · rw [if_neg q] at h; exact Option.some.inj h
  rw [if_pos q3] at h
  rw [q3] at h3
  obtain ⟨e4, h4, h⟩ := Option.bind_eq_some_iff.mp h
  have q4 : e4 = 0 := by
    by_cases q : e4 = 0
    · exact q
    · rw [if_neg q] at h; exact Option.some.inj h
  rw [if_pos q4] at h
  rw [q4] at h4
  obtain ⟨e5, h5, h⟩ := Option.bind_eq_some_iff.mp h
  have q5 : e5 = 0 := by
    by_cases q : e5 = 0
    · exact q
    · rw [if_neg q] at h; exact Option.some.inj h
  rw [if_pos q5] at h
  rw [q5] at h5
  exact ⟨h0, h1, h2, h3, h4, h5⟩
set_option maxHeartbeats 4000000 in
set_option maxRecDepth 100000 in
theorem movement_Mirror.pose_calls (k g1 n c : Nat) (ad : Addr) (t : Nat) (x : S54) (W : World) (ht : t < n) (hs : W.cell? ⟨g1, 0, none⟩ = some (.slice (some ad) n c)) (hx : RowAt W (ad.add (t * 22)) (movement_Mirror.cs x)) (hv : movement_Mirror.val k x = some 0) :
    Calls Try.prog 38 #[.int .i64 (t : Int), .pointer (some ⟨g1, 0, none⟩)] W fun e w' => e = .returned (.agg (movement_Mirror.cs (movement_Mirror.ps x)).toArray) ∧ Below W.heap.size W w' := by
  have hu1 := Try.underlying54
  have htz : (t : Int) < (n : Int) := by omega
  have HB := Aside0.mk (Below.refl W.heap.size W)
  have HX := Aside0.mk hx
  obtain ⟨v0, v1, v2, v3, v4, v5⟩ := movement_Mirror.aims hv
  have MC := Aside0.mk (fun w => posture_MirrorPose.ok k (x.f0.f0) (x.f0.f1) (x.f1) (x.f2) (x.f3.f0.f0) (x.f3.f0.f1) (x.f3.f0.f2) (x.f3.f1.f0) (x.f3.f1.f1) (x.f3.f1.f2) (x.f3.f2.f0) (x.f3.f2.f1) (x.f3.f2.f2) (x.f3.f3.f0) (x.f3.f3.f1) (x.f3.f3.f2) (x.f3.f4.f0) (x.f3.f4.f1) (x.f3.f4.f2) (x.f3.f5.f0) (x.f3.f5.f1) (x.f3.f5.f2) w hv v0 v1 v2 v3 v4 v5)
  clear ht hx hv v0 v1 v2 v3 v4 v5
  unfold movement_Mirror.cs at HX
  go_enter Try.func38, Try.ntmps38
  go_wp2_with (first
    | ((with_reducible refine gate_dst (N := 3) rfl ?_); refine box_event ?hg (N := 3) ?hd (cs := #[.int .i64 0, .int .i64 0, .int .i64 0, .int .i64 0, .int .i64 0, .int .i64 0, .int .i64 0, .int .i64 0, .int .i64 0, .int .i64 0, .int .i64 0, .int .i64 0, .int .i64 0, .int .i64 0, .int .i64 0, .int .i64 0, .int .i64 0, .int .i64 0, .int .i64 0, .int .i64 0, .int .i64 0, .int .i64 0]) (t := 54) ?hr ?_; (case hd => rfl); (case hg => rfl); (case hr => first | (go_simp; done) | (go_simp; rfl)); intro g3 hg3 w1 hbox hb; have HB1 := Aside0.mk (below_step HB.out hb); have HX3 := Aside0.mk hbox; have HR := Aside0.mk (HX.out.below hb); have HG3 := Aside0.mk hg3; replace hs := (hb.cell (World.block_lt_of_cell? _ _ hs)).trans hs; clear hb hbox hg3)
    | ((with_reducible refine gate_dst (N := 11) rfl ?_); refine load_big ?h0 54 (.tmp 10) ?ho (ad.add (t * 22)) ?hx [.int .i64 (x.f0.f0), .int .i64 (x.f0.f1), .int .i64 (x.f1), .int .i64 (x.f2), .int .i64 (x.f3.f0.f0), .int .i64 (x.f3.f0.f1), .int .i64 (x.f3.f0.f2), .int .i64 (x.f3.f1.f0), .int .i64 (x.f3.f1.f1), .int .i64 (x.f3.f1.f2), .int .i64 (x.f3.f2.f0), .int .i64 (x.f3.f2.f1), .int .i64 (x.f3.f2.f2), .int .i64 (x.f3.f3.f0), .int .i64 (x.f3.f3.f1), .int .i64 (x.f3.f3.f2), .int .i64 (x.f3.f4.f0), .int .i64 (x.f3.f4.f1), .int .i64 (x.f3.f4.f2), .int .i64 (x.f3.f5.f0), .int .i64 (x.f3.f5.f1), .int .i64 (x.f3.f5.f2)] _ ?hc Try.underlying54 ?hd ?hi ?_; (case h0 => rfl); (case ho => rfl); (case hx => first | rfl | (go_simp; rfl)); (case hc => exact HR.out); (case hd => rfl); (case hi => rfl))
    | (go_at_call 39; refine (MC.out _).mono ?_; rintro e w2 ⟨rfl, hb⟩; have HB2 := Aside0.mk (below_step HB1.out hb); have HY3 := Aside0.mk (blk_below HX3.out hb); clear hb)
    | ((with_reducible refine gate_dst (N := 4) rfl ?_); refine box_event ?hg (N := 4) ?hd (cs := #[.int .i64 0, .int .i64 0, .int .i64 0, .int .i64 0, .int .i64 0, .int .i64 0, .int .i64 0, .int .i64 0, .int .i64 0, .int .i64 0, .int .i64 0, .int .i64 0, .int .i64 0, .int .i64 0, .int .i64 0, .int .i64 0, .int .i64 0, .int .i64 0, .int .i64 0, .int .i64 0, .int .i64 0, .int .i64 0]) (t := 54) ?hr ?_; (case hd => rfl); (case hg => rfl); (case hr => first | (go_simp; done) | (go_simp; rfl)); intro g4 hg4 w3 hbox hb; have HB3 := Aside0.mk (below_step HB2.out hb); have HZ3 := Aside0.mk (blk_below HY3.out hb); have HX4 := Aside0.mk hbox; have HN := Aside0.mk (show W.heap.size ≤ g4 ∧ g3 ≠ g4 from ⟨by rw [hg4]; exact HB2.out.size, by rw [hg4]; exact Nat.ne_of_lt (blk_lt HY3.out)⟩); clear hb hbox hg4)
    | ((with_reducible refine row_gate (t := 54) (p := 4) rfl ?_); refine row_event ?h0 54 (.tmp 4) (.tmp 13) ?ho ?hd g4 #[.int .i64 (wrap64 (-x.f0.f0)), .int .i64 x.f0.f1, .int .i64 (posture_MirrorPose.am x.f1), .int .i64 x.f2, .int .i64 (posture_MirrorPose.am x.f3.f1.f0), .int .i64 x.f3.f1.f1, .int .i64 x.f3.f1.f2, .int .i64 (posture_MirrorPose.am x.f3.f0.f0), .int .i64 x.f3.f0.f1, .int .i64 x.f3.f0.f2, .int .i64 (posture_MirrorPose.am x.f3.f2.f0), .int .i64 x.f3.f2.f1, .int .i64 x.f3.f2.f2, .int .i64 (posture_MirrorPose.am x.f3.f4.f0), .int .i64 x.f3.f4.f1, .int .i64 x.f3.f4.f2, .int .i64 (posture_MirrorPose.am x.f3.f3.f0), .int .i64 x.f3.f3.f1, .int .i64 x.f3.f3.f2, .int .i64 (posture_MirrorPose.am x.f3.f5.f0), .int .i64 x.f3.f5.f1, .int .i64 x.f3.f5.f2] ?hx ?hy _ _ HX4.out ?hi ?hs ?h1 ?_; (case h0 => rfl); (case ho => rfl); (case hd => rfl); (case hx => first | rfl | (go_simp; rfl)); (case hy => first | rfl | (go_simp; rfl)); (case hi => rfl); (case hs => rfl); (case h1 => kernel_rfl); intro w4 e7 eo eb; have HB4 := Aside0.mk (eb _ _ HB3.out HN.out.1); have HV3 := Aside0.mk ((eo g3 HN.out.2).trans HZ3.out); have HV4 := Aside0.mk e7; clear e7 eo eb)
    | ((with_reducible refine gate_dst (N := 15) rfl ?_); refine load_big ?h0 54 (.tmp 4) ?ho ⟨g4, 0, none⟩ ?hx [.int .i64 (wrap64 (-x.f0.f0)), .int .i64 x.f0.f1, .int .i64 (posture_MirrorPose.am x.f1), .int .i64 x.f2, .int .i64 (posture_MirrorPose.am x.f3.f1.f0), .int .i64 x.f3.f1.f1, .int .i64 x.f3.f1.f2, .int .i64 (posture_MirrorPose.am x.f3.f0.f0), .int .i64 x.f3.f0.f1, .int .i64 x.f3.f0.f2, .int .i64 (posture_MirrorPose.am x.f3.f2.f0), .int .i64 x.f3.f2.f1, .int .i64 x.f3.f2.f2, .int .i64 (posture_MirrorPose.am x.f3.f4.f0), .int .i64 x.f3.f4.f1, .int .i64 x.f3.f4.f2, .int .i64 (posture_MirrorPose.am x.f3.f3.f0), .int .i64 x.f3.f3.f1, .int .i64 x.f3.f3.f2, .int .i64 (posture_MirrorPose.am x.f3.f5.f0), .int .i64 x.f3.f5.f1, .int .i64 x.f3.f5.f2] _ ?hc Try.underlying54 ?hd ?hi ?_; (case h0 => rfl); (case ho => rfl); (case hx => first | rfl | (go_simp; rfl)); (case hc => exact RowAt.of_block (cs := #[.int .i64 (wrap64 (-x.f0.f0)), .int .i64 x.f0.f1, .int .i64 (posture_MirrorPose.am x.f1), .int .i64 x.f2, .int .i64 (posture_MirrorPose.am x.f3.f1.f0), .int .i64 x.f3.f1.f1, .int .i64 x.f3.f1.f2, .int .i64 (posture_MirrorPose.am x.f3.f0.f0), .int .i64 x.f3.f0.f1, .int .i64 x.f3.f0.f2, .int .i64 (posture_MirrorPose.am x.f3.f2.f0), .int .i64 x.f3.f2.f1, .int .i64 x.f3.f2.f2, .int .i64 (posture_MirrorPose.am x.f3.f4.f0), .int .i64 x.f3.f4.f1, .int .i64 x.f3.f4.f2, .int .i64 (posture_MirrorPose.am x.f3.f3.f0), .int .i64 x.f3.f3.f1, .int .i64 x.f3.f3.f2, .int .i64 (posture_MirrorPose.am x.f3.f5.f0), .int .i64 x.f3.f5.f1, .int .i64 x.f3.f5.f2]) HV4.out rfl); (case hd => rfl); (case hi => rfl))
    | ((with_reducible refine row_gate (t := 54) (p := 3) rfl ?_); refine row_event ?h0 54 (.tmp 3) (.tmp 15) ?ho ?hd g3 #[.int .i64 (wrap64 (-x.f0.f0)), .int .i64 x.f0.f1, .int .i64 (posture_MirrorPose.am x.f1), .int .i64 x.f2, .int .i64 (posture_MirrorPose.am x.f3.f1.f0), .int .i64 x.f3.f1.f1, .int .i64 x.f3.f1.f2, .int .i64 (posture_MirrorPose.am x.f3.f0.f0), .int .i64 x.f3.f0.f1, .int .i64 x.f3.f0.f2, .int .i64 (posture_MirrorPose.am x.f3.f2.f0), .int .i64 x.f3.f2.f1, .int .i64 x.f3.f2.f2, .int .i64 (posture_MirrorPose.am x.f3.f4.f0), .int .i64 x.f3.f4.f1, .int .i64 x.f3.f4.f2, .int .i64 (posture_MirrorPose.am x.f3.f3.f0), .int .i64 x.f3.f3.f1, .int .i64 x.f3.f3.f2, .int .i64 (posture_MirrorPose.am x.f3.f5.f0), .int .i64 x.f3.f5.f1, .int .i64 x.f3.f5.f2] ?hx ?hy _ _ HV3.out ?hi ?hs ?h1 ?_; (case h0 => rfl); (case ho => rfl); (case hd => rfl); (case hx => first | rfl | (go_simp; rfl)); (case hy => first | rfl | (go_simp; rfl)); (case hi => rfl); (case hs => rfl); (case h1 => kernel_rfl); intro w5 e7 eo eb; have HB5 := Aside0.mk (eb _ _ HB4.out (by rw [HG3.out]; exact Nat.le_refl _)); have HU3 := Aside0.mk e7; clear e7 eo eb))
  refine bodyPost_ret (results_cell_row rfl _ _ g3 54 #[.int .i64 (wrap64 (-x.f0.f0)), .int .i64 x.f0.f1, .int .i64 (posture_MirrorPose.am x.f1), .int .i64 x.f2, .int .i64 (posture_MirrorPose.am x.f3.f1.f0), .int .i64 x.f3.f1.f1, .int .i64 x.f3.f1.f2, .int .i64 (posture_MirrorPose.am x.f3.f0.f0), .int .i64 x.f3.f0.f1, .int .i64 x.f3.f0.f2, .int .i64 (posture_MirrorPose.am x.f3.f2.f0), .int .i64 x.f3.f2.f1, .int .i64 x.f3.f2.f2, .int .i64 (posture_MirrorPose.am x.f3.f4.f0), .int .i64 x.f3.f4.f1, .int .i64 x.f3.f4.f2, .int .i64 (posture_MirrorPose.am x.f3.f3.f0), .int .i64 x.f3.f3.f1, .int .i64 x.f3.f3.f2, .int .i64 (posture_MirrorPose.am x.f3.f5.f0), .int .i64 x.f3.f5.f1, .int .i64 x.f3.f5.f2] (0, 0) _ rfl HU3.out Try.underlying54 rfl (by kernel_rfl)) rfl ?_
  exact ⟨rfl, HB5.out⟩
theorem movement_Mirror.new1 (W : World) (a : Value) (t : TypeId) (g : Nat) (hg : g = W.heap.size) : ∀ j u, [a][j]? = some u → (W.alloc (.cells #[a] t)).cell? ((⟨g, 0, none⟩ : Addr).add j) = some u := by
  subst hg
  intro j u h
  match j, h with
  | 0, h => exact (blk_cell (blk_new W (.cells #[a] t)) 0).trans h
  | j + 1, h => simp at h
theorem movement_Mirror.bel {w w1 w3 : World} {o : Obj} {v : Value} {e : TypeId} {sz n : Nat} {xs : List Value} (h : Below w.heap.size w w1) (hg : (w1.alloc o).grownBy w3 v.ownBlock) (hr : w1.ownsRow w.heap.size e sz v n xs) : Below w.heap.size w w3 :=
  (h.alloc h.size o).grown hg (Nat.le_trans h.size (by simp)) (fun k e => own_base hr k e)
def movement_Mirror.rowI (f : Nat → Int) (n : Nat) : List Value := (List.range n).map (fun i => .int .i64 (f i))
theorem movement_Mirror.rowI_succ (f : Nat → Int) (i : Nat) : movement_Mirror.rowI f (i + 1) = movement_Mirror.rowI f i ++ [.int .i64 (f i)] := by simp [movement_Mirror.rowI, List.range_succ]
def movement_Mirror.rowP (f : Nat → S54) (n : Nat) : List Value := (List.range n).flatMap (fun i => movement_Mirror.cs (f i))
set_option maxHeartbeats 4000000 in
set_option maxRecDepth 100000 in
theorem movement_Mirror.each_int (g1 n : Nat) (f : Nat → Int) (w : World) (hn : n ≤ 100000) (hc : ∀ W, Below w.heap.size w W → ∀ i, i < n → Calls Try.prog 40 #[.int .i64 (i : Int), .pointer (some ⟨g1, 0, none⟩)] W fun e w' => e = .returned (.int .i64 (f i)) ∧ Below W.heap.size W w') :
    Calls Try.prog 42 #[.int .i64 (n : Int), .func (.func 40) #[] #[.pointer (some ⟨g1, 0, none⟩)]] w fun e w' => ∃ v, e = .returned v ∧ w'.ownsRow w.heap.size 3 1 v n (movement_Mirror.rowI f n) ∧ Below w.heap.size w w' := by
  obtain ⟨i0, hi, hzz⟩ := Option.map_eq_some_iff.1 (show (Try.prog.info? 3).map (fun i => (i.zero, i.size, i.bytes)) = some (some (.int .i64 0), 1, 8) from rfl)
  simp only [Prod.mk.injEq] at hzz
  obtain ⟨hz0, hz1, hz2⟩ := hzz
  have hmk : ∀ W : World, (Instr.makeSlice 23 (.int .i64 0) (.int .i64 (n : Int))).run Try.prog W = .ok (.slice (some ⟨W.heap.size, 0, none⟩) 0 n) (W.alloc (.cells (madeCells (Value.cells (.int .i64 0)) (n * 1)) 3)) := fun W => by
    have h := run_make (P := Try.prog) W 23 3 i0 (.int .i64 0) rfl hi hz0 .i64 .i64 0 (n : Int) (Int.le_refl _) (by omega) (by rw [hz2]; omega) (by omega)
    rw [hz1] at h
    simpa using h
  have HI := Aside0.mk (And.intro hi (And.intro hz0 (And.intro hz1 hz2)))
  have HC := Aside0.mk hc
  have HN := Aside0.mk hn
  clear hi hz0 hz1 hz2 hc hn
  go_enter Try.func42, Try.ntmps42
  go_wp2
  have ST := Aside0.mk (World.ownsRow_made w (base := w.heap.size) (e := 3) (size := 1) _ n (Nat.le_refl _) (by unfold maxLen; have := HN.out; omega) (size_madeCells (Value.cells (.int .i64 0)) (n * 1)))
  have SB := Aside0.mk ((Below.refl w.heap.size w).alloc (Nat.le_refl _) (.cells (madeCells (Value.cells (.int .i64 0)) (n * 1)) 3))
  clear hmk
  go_loopg [5, 10] n (fun gq v5 v10 W => ∃ i : Nat, v10 = .int .i64 (i : Int) ∧ Aside0 (i ≤ n) ∧ Aside0 (n - i ≤ gq) ∧ Aside0 (W.ownsRow w.heap.size 3 1 v5 i (movement_Mirror.rowI f i)) ∧ Aside0 (Below w.heap.size w W))
  case atStart =>
    have h1 := ST.out
    have h2 := SB.out
    exact ⟨0, rfl, ⟨Nat.zero_le _⟩, ⟨Nat.le_refl _⟩, ⟨by first | exact h1 | (rw [Nat.mul_one] at h1; exact h1)⟩, ⟨by first | exact h2 | (rw [Nat.mul_one] at h2; exact h2)⟩⟩
  case round =>
    clear ST SB
    obtain ⟨i, rfl, hi, hg, HR, HB⟩ := hrel
    by_cases hlt : i < n
    · have hltz : (i : Int) < (n : Int) := by omega
      have wi : IntKind.i64.wrap ((i : Int) + 1) = ((i + 1 : Nat) : Int) := by have := HN.out; rw [i64_w]; unfold wrap64; omega
      have CC := Aside0.mk (HC.out _ HB.out i hlt)
      have HL := Aside0.mk hlt
      clear hlt
      go_wp2_with (first
        | (go_at_call 40; refine CC.out.mono ?_; rintro e w1 ⟨rfl, hb⟩; have HR1 := Aside0.mk (pw_own_below HR.out hb); have HB1 := Aside0.mk (below_step HB.out hb); clear hb)
        | ((with_reducible refine gate_builtin (b := .append) (xs := #[.tmp 13, .tmp 17]) rfl ?_); at_builtin; refine wpList_append_own _ ?g0 (.tmp 13) (.tmp 17) 23 ?e1 w.heap.size 3 i0 (.int .i64 0) 1 8 ?e2 ?e3 ?e4 ?e5 ?e6 ?e7 ?e8 u5 i (movement_Mirror.rowI f i) ?e9 ?e10 ⟨w1.heap.size, 0, none⟩ 1 1 [.int .i64 (f i)] ?e11 ?e12 ?e13 ?e14 ?e15 ?e16 ?e17 ?e18; (case g0 => rfl); (case e1 => rfl); (case e2 => exact Try.underlying23); (case e3 => exact HI.out.1); (case e4 => exact HI.out.2.1); (case e5 => exact HI.out.2.2.1); (case e6 => exact HI.out.2.2.2); (case e7 => rfl); (case e8 => decide); (case e9 => rfl); (case e10 => exact HR1.out.alloc _); (case e11 => rfl); (case e12 => rfl); (case e13 => exact movement_Mirror.new1 _ _ _ _ rfl); (case e14 => simp [Value.oneCell']); (case e15 => unfold maxLen; have := HN.out; have := HL.out; omega); (case e16 => have := HN.out; have := HL.out; omega); (case e17 => exact Nat.le_trans HB1.out.size (by simp)); intro v6 w3 ho hg3 _; have HR3 := Aside0.mk ho; have HB3 := Aside0.mk (movement_Mirror.bel HB1.out hg3 HR1.out); clear ho hg3))
      go_roundg (n - (i + 1))
      case measure => have := hg.out; have := HL.out; omega
      case rel => exact ⟨i + 1, by go_num, ⟨HL.out⟩, ⟨Nat.le_refl _⟩, ⟨by rw [movement_Mirror.rowI_succ]; exact HR3.out⟩, HB3⟩
    · obtain rfl : i = n := by have := hi.out; omega
      clear hlt
      go_wp2
      go_ret
      exact ⟨_, rfl, HR.out, HB.out⟩
theorem movement_Mirror.newN (W : World) (cs : List Value) (t : TypeId) (g : Nat) (hg : g = W.heap.size) : ∀ j u, cs[j]? = some u → (W.alloc (.cells cs.toArray t)).cell? ((⟨g, 0, none⟩ : Addr).add j) = some u := by
  subst hg
  intro j u h
  rw [Addr.add_mid, Nat.zero_add, blk_cell (blk_new W (.cells cs.toArray t)) j]
  simpa using h
theorem movement_Mirror.rowP_succ (f : Nat → S54) (i : Nat) : movement_Mirror.rowP f (i + 1) = movement_Mirror.rowP f i ++ movement_Mirror.cs (f i) := by simp [movement_Mirror.rowP, List.range_succ]
set_option maxHeartbeats 4000000 in
set_option maxRecDepth 100000 in
theorem movement_Mirror.each_pose (g1 n : Nat) (f : Nat → S54) (w : World) (hn : n ≤ 100000) (hc : ∀ W, Below w.heap.size w W → ∀ i, i < n → Calls Try.prog 38 #[.int .i64 (i : Int), .pointer (some ⟨g1, 0, none⟩)] W fun e w' => e = .returned (.agg (movement_Mirror.cs (f i)).toArray) ∧ Below W.heap.size W w') :
    Calls Try.prog 41 #[.int .i64 (n : Int), .func (.func 38) #[] #[.pointer (some ⟨g1, 0, none⟩)]] w fun e w' => ∃ v, e = .returned v ∧ w'.ownsRow w.heap.size 54 22 v n (movement_Mirror.rowP f n) ∧ Below w.heap.size w w' := by
  obtain ⟨i0, hi, hzz⟩ := Option.map_eq_some_iff.1 (show (Try.prog.info? 54).map (fun i => (i.zero, i.size, i.bytes)) = some (some (.agg #[.int .i64 0, .int .i64 0, .int .i64 0, .int .i64 0, .int .i64 0, .int .i64 0, .int .i64 0, .int .i64 0, .int .i64 0, .int .i64 0, .int .i64 0, .int .i64 0, .int .i64 0, .int .i64 0, .int .i64 0, .int .i64 0, .int .i64 0, .int .i64 0, .int .i64 0, .int .i64 0, .int .i64 0, .int .i64 0]), 22, 176) from rfl)
  simp only [Prod.mk.injEq] at hzz
  obtain ⟨hz0, hz1, hz2⟩ := hzz
  have hmk : ∀ W : World, (Instr.makeSlice 41 (.int .i64 0) (.int .i64 (n : Int))).run Try.prog W = .ok (.slice (some ⟨W.heap.size, 0, none⟩) 0 n) (W.alloc (.cells (madeCells (Value.cells (.agg #[.int .i64 0, .int .i64 0, .int .i64 0, .int .i64 0, .int .i64 0, .int .i64 0, .int .i64 0, .int .i64 0, .int .i64 0, .int .i64 0, .int .i64 0, .int .i64 0, .int .i64 0, .int .i64 0, .int .i64 0, .int .i64 0, .int .i64 0, .int .i64 0, .int .i64 0, .int .i64 0, .int .i64 0, .int .i64 0])) (n * 22)) 54)) := fun W => by
    have h := run_make (P := Try.prog) W 41 54 i0 (.agg #[.int .i64 0, .int .i64 0, .int .i64 0, .int .i64 0, .int .i64 0, .int .i64 0, .int .i64 0, .int .i64 0, .int .i64 0, .int .i64 0, .int .i64 0, .int .i64 0, .int .i64 0, .int .i64 0, .int .i64 0, .int .i64 0, .int .i64 0, .int .i64 0, .int .i64 0, .int .i64 0, .int .i64 0, .int .i64 0]) rfl hi hz0 .i64 .i64 0 (n : Int) (Int.le_refl _) (by omega) (by rw [hz2]; omega) (by omega)
    rw [hz1] at h
    simpa using h
  have HI := Aside0.mk (And.intro hi (And.intro hz0 (And.intro hz1 hz2)))
  have HC := Aside0.mk hc
  have HN := Aside0.mk hn
  clear hi hz0 hz1 hz2 hc hn
  go_enter Try.func41, Try.ntmps41
  go_wp2
  have ST := Aside0.mk (World.ownsRow_made w (base := w.heap.size) (e := 54) (size := 22) _ n (Nat.le_refl _) (by unfold maxLen; have := HN.out; omega) (size_madeCells (Value.cells (.agg #[.int .i64 0, .int .i64 0, .int .i64 0, .int .i64 0, .int .i64 0, .int .i64 0, .int .i64 0, .int .i64 0, .int .i64 0, .int .i64 0, .int .i64 0, .int .i64 0, .int .i64 0, .int .i64 0, .int .i64 0, .int .i64 0, .int .i64 0, .int .i64 0, .int .i64 0, .int .i64 0, .int .i64 0, .int .i64 0])) (n * 22)))
  have SB := Aside0.mk ((Below.refl w.heap.size w).alloc (Nat.le_refl _) (.cells (madeCells (Value.cells (.agg #[.int .i64 0, .int .i64 0, .int .i64 0, .int .i64 0, .int .i64 0, .int .i64 0, .int .i64 0, .int .i64 0, .int .i64 0, .int .i64 0, .int .i64 0, .int .i64 0, .int .i64 0, .int .i64 0, .int .i64 0, .int .i64 0, .int .i64 0, .int .i64 0, .int .i64 0, .int .i64 0, .int .i64 0, .int .i64 0])) (n * 22)) 54))
  clear hmk
  go_loopg [5, 10] n (fun gq v5 v10 W => ∃ i : Nat, v10 = .int .i64 (i : Int) ∧ Aside0 (i ≤ n) ∧ Aside0 (n - i ≤ gq) ∧ Aside0 (W.ownsRow w.heap.size 54 22 v5 i (movement_Mirror.rowP f i)) ∧ Aside0 (Below w.heap.size w W))
  case atStart =>
    have h1 := ST.out
    have h2 := SB.out
    exact ⟨0, rfl, ⟨Nat.zero_le _⟩, ⟨Nat.le_refl _⟩, ⟨by first | exact h1 | (rw [Nat.mul_one] at h1; exact h1)⟩, ⟨by first | exact h2 | (rw [Nat.mul_one] at h2; exact h2)⟩⟩
  case round =>
    clear ST SB
    obtain ⟨i, rfl, hi, hg, HR, HB⟩ := hrel
    by_cases hlt : i < n
    · have hltz : (i : Int) < (n : Int) := by omega
      have wi : IntKind.i64.wrap ((i : Int) + 1) = ((i + 1 : Nat) : Int) := by have := HN.out; rw [i64_w]; unfold wrap64; omega
      have CC0 := HC.out _ HB.out i hlt
      obtain ⟨x, hx⟩ : ∃ x, f i = x := ⟨_, rfl⟩
      rw [hx] at CC0
      unfold movement_Mirror.cs at CC0
      have CC := Aside0.mk CC0
      have HX := Aside0.mk hx
      clear CC0 hx
      have HL := Aside0.mk hlt
      clear hlt
      go_wp2_with (first
        | (go_at_call 38; refine CC.out.mono ?_; rintro e w1 ⟨rfl, hb⟩; have HR1 := Aside0.mk (pw_own_below HR.out hb); have HB1 := Aside0.mk (below_step HB.out hb); clear hb)
        | ((with_reducible refine gate_builtin (b := .append) (xs := #[.tmp 13, .tmp 17]) rfl ?_); at_builtin; refine wpList_append_own _ ?g0 (.tmp 13) (.tmp 17) 41 ?e1 w.heap.size 54 i0 (.agg #[.int .i64 0, .int .i64 0, .int .i64 0, .int .i64 0, .int .i64 0, .int .i64 0, .int .i64 0, .int .i64 0, .int .i64 0, .int .i64 0, .int .i64 0, .int .i64 0, .int .i64 0, .int .i64 0, .int .i64 0, .int .i64 0, .int .i64 0, .int .i64 0, .int .i64 0, .int .i64 0, .int .i64 0, .int .i64 0]) 22 176 ?e2 ?e3 ?e4 ?e5 ?e6 ?e7 ?e8 u5 i (movement_Mirror.rowP f i) ?e9 ?e10 ⟨w1.heap.size, 0, none⟩ 1 1 [.int .i64 x.f0.f0, .int .i64 x.f0.f1, .int .i64 x.f1, .int .i64 x.f2, .int .i64 x.f3.f0.f0, .int .i64 x.f3.f0.f1, .int .i64 x.f3.f0.f2, .int .i64 x.f3.f1.f0, .int .i64 x.f3.f1.f1, .int .i64 x.f3.f1.f2, .int .i64 x.f3.f2.f0, .int .i64 x.f3.f2.f1, .int .i64 x.f3.f2.f2, .int .i64 x.f3.f3.f0, .int .i64 x.f3.f3.f1, .int .i64 x.f3.f3.f2, .int .i64 x.f3.f4.f0, .int .i64 x.f3.f4.f1, .int .i64 x.f3.f4.f2, .int .i64 x.f3.f5.f0, .int .i64 x.f3.f5.f1, .int .i64 x.f3.f5.f2] ?e11 ?e12 ?e13 ?e14 ?e15 ?e16 ?e17 ?e18; (case g0 => rfl); (case e1 => rfl); (case e2 => exact Try.underlying41); (case e3 => exact HI.out.1); (case e4 => exact HI.out.2.1); (case e5 => exact HI.out.2.2.1); (case e6 => exact HI.out.2.2.2); (case e7 => rfl); (case e8 => decide); (case e9 => rfl); (case e10 => exact HR1.out.alloc _); (case e11 => rfl); (case e12 => rfl); (case e13 => exact movement_Mirror.newN _ [.int .i64 x.f0.f0, .int .i64 x.f0.f1, .int .i64 x.f1, .int .i64 x.f2, .int .i64 x.f3.f0.f0, .int .i64 x.f3.f0.f1, .int .i64 x.f3.f0.f2, .int .i64 x.f3.f1.f0, .int .i64 x.f3.f1.f1, .int .i64 x.f3.f1.f2, .int .i64 x.f3.f2.f0, .int .i64 x.f3.f2.f1, .int .i64 x.f3.f2.f2, .int .i64 x.f3.f3.f0, .int .i64 x.f3.f3.f1, .int .i64 x.f3.f3.f2, .int .i64 x.f3.f4.f0, .int .i64 x.f3.f4.f1, .int .i64 x.f3.f4.f2, .int .i64 x.f3.f5.f0, .int .i64 x.f3.f5.f1, .int .i64 x.f3.f5.f2] _ _ rfl); (case e14 => exact List.all_eq_true.mp rfl); (case e15 => unfold maxLen; have := HN.out; have := HL.out; omega); (case e16 => have := HN.out; have := HL.out; omega); (case e17 => exact Nat.le_trans HB1.out.size (by simp)); intro v6 w3 ho hg3 _; have HR3 := Aside0.mk ho; have HB3 := Aside0.mk (movement_Mirror.bel HB1.out hg3 HR1.out); clear ho hg3))
      go_roundg (n - (i + 1))
      case measure => have := hg.out; have := HL.out; omega
      case rel => exact ⟨i + 1, by go_num, ⟨HL.out⟩, ⟨Nat.le_refl _⟩, ⟨by rw [movement_Mirror.rowP_succ, HX.out]; exact HR3.out⟩, HB3⟩
    · obtain rfl : i = n := by have := hi.out; omega
      clear hlt
      go_wp2
      go_ret
      exact ⟨_, rfl, HR.out, HB.out⟩
def movement_Mirror.T6 : Bool × List (List Nat × List Nat) := (true, [([], []), ([0], [0]), ([1], [1]), ([], []), ([2, 3], [2, 3]), ([], []), ([5], [5]), ([6], [6]), ([], []), ([7, 8, 4], [7, 8]), ([4, 9], [4, 9]), ([10, 9, 0, 1, 2, 3, 4, 5, 6, 7, 8, 9, 10], [10]), ([11, 0, 1, 2, 3, 4, 5, 6, 7, 8, 9, 10, 11], [])])
def movement_Mirror.B6 : List Nat := [0, 1, 3, 0, 15, 0, 32, 96, 0, 511, 1023, 2047, 4095]
theorem movement_Mirror.tab6 : rtab .any (opsOf Try.f24 6) = movement_Mirror.T6 := by kernel_rfl
theorem movement_Mirror.bits6 : waitsOk movement_Mirror.T6.2 movement_Mirror.B6 = true := by kernel_rfl
set_option maxHeartbeats 8000000 in
set_option maxRecDepth 100000 in
theorem movement_Mirror.ok (k n0 n1 c0 c1 : Nat) (ad0 ad1 : Addr) (fp : Nat → S54) (fi : Nat → Int) (w : World) (h0 : n0 ≤ 100000) (h1 : n1 ≤ 100000)
    (CK : ∀ W, Below w.heap.size w W → Calls Try.prog 29 #[.agg #[.slice (some ad0) n0 c0, .slice (some ad1) n1 c1]] W fun e w' => e = .returned (.int .i64 0) ∧ Below W.heap.size W w')
    (CP : ∀ W g1, Below w.heap.size w W → W.heap[g1]? = some (.cells #[.slice (some ad0) n0 c0, .slice (some ad1) n1 c1] 43 (0, 0)) → ∀ i, i < n0 → Calls Try.prog 38 #[.int .i64 (i : Int), .pointer (some ⟨g1, 0, none⟩)] W fun e w' => e = .returned (.agg (movement_Mirror.cs (fp i)).toArray) ∧ Below W.heap.size W w')
    (CS : ∀ W g1, Below w.heap.size w W → W.heap[g1]? = some (.cells #[.slice (some ad0) n0 c0, .slice (some ad1) n1 c1] 43 (0, 0)) → ∀ i, i < n1 → Calls Try.prog 40 #[.int .i64 (i : Int), .pointer (some ⟨g1, 0, none⟩)] W fun e w' => e = .returned (.int .i64 (fi i)) ∧ Below W.heap.size W w') :
    Calls Try.prog 24 #[.agg #[.slice (some ad0) n0 c0, .slice (some ad1) n1 c1]] w fun e w' => ∃ v0 v1, e = .returned (.tuple #[.agg #[v0, v1], .int .i64 0]) ∧ w'.ownsRow w.heap.size 54 22 v0 n0 (movement_Mirror.rowP fp n0) ∧ w'.ownsRow w.heap.size 3 1 v1 n1 (movement_Mirror.rowI fi n1) ∧ Below w.heap.size w w' := by
  have hu43 := Try.underlying43
  have HB := Aside0.mk (Below.refl w.heap.size w)
  have KC := Aside0.mk CK; have KP := Aside0.mk CP; have KS := Aside0.mk CS; have KN := Aside0.mk (And.intro h0 h1)
  have mixed : Try.prog.follows .mixedOrders = true := by kernel_rfl
  clear CK CP CS h0 h1
  go_enter Try.func24, Try.ntmps24
  go_wp2_with (first
    | ((with_reducible refine gate_dst (N := 1) rfl ?_); refine box_event ?hg (N := 1) ?hd (cs := #[.slice (some ad0) n0 c0, .slice (some ad1) n1 c1]) (t := 43) ?hr ?_; (case hd => rfl); (case hg => rfl); (case hr => first | (go_simp; done) | (go_simp; rfl)); intro g1 hg1 w1 hbox hb; have HB1 := Aside0.mk (below_step HB.out hb); have HX1 := Aside0.mk hbox; have HG1 := Aside0.mk (show w.heap.size ≤ g1 by rw [hg1]; exact Nat.le_refl _); clear hb hbox hg1)
    | ((with_reducible refine gate_dst (N := 2) rfl ?_); refine box_event ?hg (N := 2) ?hd (cs := #[.slice none 0 0, .slice none 0 0]) (t := 43) ?hr ?_; (case hd => rfl); (case hg => rfl); (case hr => first | (go_simp; done) | (go_simp; rfl)); intro g2 hg2 w2 hbox hb; have HB2 := Aside0.mk (below_step HB1.out hb); have HX2 := Aside0.mk hbox; have HY1 := Aside0.mk (blk_below HX1.out hb); have HN := Aside0.mk (show w.heap.size ≤ g2 ∧ g1 ≠ g2 from ⟨by rw [hg2]; exact HB1.out.size, by rw [hg2]; exact Nat.ne_of_lt (blk_lt HX1.out)⟩); have z0 := (blk_cell HY1.out 0).trans (show _ = some (Value.slice (some ad0) n0 c0) from rfl); have z1 := (blk_cell HY1.out 1).trans (show _ = some (Value.slice (some ad1) n1 c1) from rfl); clear hb hbox hg2)
    | (go_at_call 29; refine (KC.out _ HB2.out).mono ?_; rintro e w3 ⟨rfl, hb⟩; have HB3 := Aside0.mk (below_step HB2.out hb); have HZ1 := Aside0.mk (blk_below HY1.out hb); have HZ2 := Aside0.mk (blk_below HX2.out hb); clear hb z0 z1))
  refine start_ (n := 13) (S := (fun w' => w'.cell? ⟨g1, 0, none⟩ = some (.slice (some ad0) n0 c0) ∧ w'.cell? ⟨g1, 1, none⟩ = some (.slice (some ad1) n1 c1))) (ds := []) #[false, false, false, false, false, false, false, false, false, false, false, false, false] (by kernel_rfl) rfl rfl ⟨(blk_cell HZ1.out 0).trans rfl, (blk_cell HZ1.out 1).trans rfl⟩ (fun hHeld => ?_); refine with_tabW movement_Mirror.tab6 movement_Mirror.bits6 (fun HT_ HW_ => ?_)
  have HD := Aside0.mk (below_drew1 HB3.out); have HD1 := Aside0.mk (blk_drew HZ1.out); have HD2 := Aside0.mk (blk_drew HZ2.out)
  generalize w3.drew = w4 at HD HD1 HD2 hHeld ⊢
  refine pure_ (i := 0) (N := some 15) (v := ?_) (a' := ?_) #[true, false, false, false, false, false, false, false, false, false, false, false, false] rfl rfl (any_of HT_.out (by kernel_rfl)) (fun _ _ _ h => h) (Or.inl ⟨by rfl, ?_⟩) ?_ ?_; rotate_left; (intro w'; go_simp; with_reducible rfl); rotate_left; (simp only [Act.put, List.setIfInBounds_toArray, List.set_cons_zero, List.set_cons_succ, i64_w, i32_w]; rfl)
  refine pure_ (i := 3) (N := some 18) (v := ?_) (a' := ?_) #[true, false, false, true, false, false, false, false, false, false, false, false, false] rfl rfl (any_of HT_.out (by kernel_rfl)) (fun _ _ _ h => h) (Or.inl ⟨by rfl, ?_⟩) ?_ ?_; rotate_left; (intro w'; go_simp; with_reducible rfl); rotate_left; (simp only [Act.put, List.setIfInBounds_toArray, List.set_cons_zero, List.set_cons_succ, i64_w, i32_w]; rfl)
  refine pure_ (i := 5) (N := some 20) (v := ?_) (a' := ?_) #[true, false, false, true, false, true, false, false, false, false, false, false, false] rfl rfl (any_of HT_.out (by kernel_rfl)) (fun _ _ _ h => h) (Or.inl ⟨by rfl, ?_⟩) ?_ ?_; rotate_left; (intro w'; go_simp; with_reducible rfl); rotate_left; (simp only [Act.put, List.setIfInBounds_toArray, List.set_cons_zero, List.set_cons_succ, i64_w, i32_w]; rfl)
  refine pure_ (i := 8) (N := some 23) (v := ?_) (a' := ?_) #[true, false, false, true, false, true, false, false, true, false, false, false, false] rfl rfl (any_of HT_.out (by kernel_rfl)) (fun _ _ _ h => h) (Or.inl ⟨by rfl, ?_⟩) ?_ ?_; rotate_left; (intro w'; go_simp; with_reducible rfl); rotate_left; (simp only [Act.put, List.setIfInBounds_toArray, List.set_cons_zero, List.set_cons_succ, i64_w, i32_w]; rfl)
  refine take_ (i := 1) (N := some 16) (v := ?_) (a' := ?_) #[true, true, false, true, false, true, false, false, true, false, false, false, false] rfl rfl (take_ofW HT_.out HW_.out (by kernel_rfl)) (fun _ _ _ h => h) (Or.inl ⟨by rfl, ?_⟩) hHeld ?_ ?_; rotate_left; (rintro w' ⟨s0, s1⟩; go_simp; with_reducible rfl); rotate_left; (simp only [Act.put, List.setIfInBounds_toArray, List.set_cons_zero, List.set_cons_succ, i64_w, i32_w]; rfl)
  refine take_ (i := 6) (N := some 21) (v := ?_) (a' := ?_) #[true, true, false, true, false, true, true, false, true, false, false, false, false] rfl rfl (take_ofW HT_.out HW_.out (by kernel_rfl)) (fun _ _ _ h => h) (Or.inl ⟨by rfl, ?_⟩) hHeld ?_ ?_; rotate_left; (rintro w' ⟨s0, s1⟩; go_simp; with_reducible rfl); rotate_left; (simp only [Act.put, List.setIfInBounds_toArray, List.set_cons_zero, List.set_cons_succ, i64_w, i32_w]; rfl)
  refine pure_ (i := 2) (N := some 17) (v := ?_) (a' := ?_) #[true, true, true, true, false, true, true, false, true, false, false, false, false] rfl rfl (any_of HT_.out (by kernel_rfl)) (fun _ _ _ h => h) (Or.inl ⟨by rfl, ?_⟩) ?_ ?_; rotate_left; (intro w'; go_simp; with_reducible rfl); rotate_left; (simp only [Act.put, List.setIfInBounds_toArray, List.set_cons_zero, List.set_cons_succ, i64_w, i32_w]; rfl)
  refine pure_ (i := 7) (N := some 22) (v := ?_) (a' := ?_) #[true, true, true, true, false, true, true, true, true, false, false, false, false] rfl rfl (any_of HT_.out (by kernel_rfl)) (fun _ _ _ h => h) (Or.inl ⟨by rfl, ?_⟩) ?_ ?_; rotate_left; (intro w'; go_simp; with_reducible rfl); rotate_left; (simp only [Act.put, List.setIfInBounds_toArray, List.set_cons_zero, List.set_cons_succ, i64_w, i32_w]; rfl)
  refine one_ (i := 4) (N := some 19) #[true, true, true, true, true, true, true, true, true, false, false, false, false] rfl rfl (one_of HT_.out (by kernel_rfl)) (by decide) (fun K hK => ?_)
  refine goes_ Try.func41 (by kernel_rfl) rfl #[.int .i64 (n0 : Int), .func (.func 38) #[] #[.pointer (some ⟨g1, 0, none⟩)]] (by rfl) rfl rfl (by (try simp only [List.map_toArray, List.map_cons, List.map_nil]); first | done | rfl) ?_
  refine (movement_Mirror.each_pose g1 n0 fp w4 KN.out.1 (fun W hb i hi => KP.out W g1 (below_step HD.out hb) (blk_below HD1.out hb) i hi)).mono ?_
  rintro e w5 ⟨v0, rfl, hr0, hb⟩
  refine ⟨_, rfl, ?_⟩
  obtain ⟨A0, k0, rfl⟩ := own_slice hr0
  have E0 := Aside0.mk (below_step HD.out hb); have E1 := Aside0.mk (blk_below HD1.out hb); have E2 := Aside0.mk (blk_below HD2.out hb); have R0 := Aside0.mk hr0; have S5 := Aside0.mk (show g2 < w4.heap.size ∧ w4.heap.size ≤ w5.heap.size from ⟨blk_lt HD2.out, hb.size⟩)
  clear hr0 hb
  refine hK.out _ _ ⟨(blk_cell E1.out 0).trans rfl, (blk_cell E1.out 1).trans rfl⟩ (fun hHeld => ?_)
  clear hK K
  refine norm_ (a' := ?_) ?_ ?_
  rotate_left
  · show Act.put _ (some 19) _ = _; simp only [Act.put, List.setIfInBounds_toArray, List.set_cons_zero, List.set_cons_succ, i64_w, i32_w]; rfl
  refine one_ (i := 9) (N := some 24) #[true, true, true, true, true, true, true, true, true, true, false, false, false] rfl rfl (one_of HT_.out (by kernel_rfl)) (by decide) (fun K hK => ?_)
  refine goes_ Try.func42 (by kernel_rfl) rfl #[.int .i64 (n1 : Int), .func (.func 40) #[] #[.pointer (some ⟨g1, 0, none⟩)]] (by rfl) rfl rfl (by (try simp only [List.map_toArray, List.map_cons, List.map_nil]); first | done | rfl) ?_
  refine (movement_Mirror.each_int g1 n1 fi w5 KN.out.2 (fun W hb i hi => KS.out W g1 (below_step E0.out hb) (blk_below E1.out hb) i hi)).mono ?_
  rintro e w6 ⟨v1, rfl, hr1, hb⟩
  refine ⟨_, rfl, ?_⟩
  obtain ⟨A1, k1, rfl⟩ := own_slice hr1
  have F0 := Aside0.mk (below_step E0.out hb); have F1 := Aside0.mk (blk_below E1.out hb); have F2 := Aside0.mk (blk_below E2.out hb); have Q0 := Aside0.mk (pw_own_below R0.out hb); have Q1 := Aside0.mk hr1
  clear hr1 hb
  refine hK.out _ _ ⟨(blk_cell F1.out 0).trans rfl, (blk_cell F1.out 1).trans rfl⟩ (fun hHeld => ?_)
  clear hK K
  refine norm_ (a' := ?_) ?_ ?_
  rotate_left
  · show Act.put _ (some 24) _ = _; simp only [Act.put, List.setIfInBounds_toArray, List.set_cons_zero, List.set_cons_succ, i64_w, i32_w]; rfl
  refine pure_ (i := 10) (N := some 25) (v := ?_) (a' := ?_) #[true, true, true, true, true, true, true, true, true, true, true, false, false] rfl rfl (any_of HT_.out (by kernel_rfl)) (fun _ _ _ h => h) (Or.inl ⟨by rfl, ?_⟩) ?_ ?_; rotate_left; (intro w'; go_simp; with_reducible rfl); rotate_left; (simp only [Act.put, List.setIfInBounds_toArray, List.set_cons_zero, List.set_cons_succ, i64_w, i32_w]; rfl)
  refine one_ (i := 11) (N := none) #[true, true, true, true, true, true, true, true, true, true, true, true, false] rfl rfl (one_of HT_.out (by kernel_rfl)) (by decide) (fun K hK => ?_)
  rw [if_pos (by rfl)]
  refine wp_store_row 43 (.tmp 2) (.tmp 25) rfl g2 #[.slice A0 n0 k0, .slice A1 n1 k1] rfl rfl 43 _ F2.out (by rfl) rfl (by simp [Value.oneCell']) ?_
  have s2 := setRow_heap w6 g2 _ #[.slice A0 n0 k0, .slice A1 n1 k1] 43 (0, 0) F2.out
  have s1 := (setRow_other w6 g2 g1 #[.slice A0 n0 k0, .slice A1 n1 k1] HN.out.2).trans F1.out
  have sb := below_setRow F0.out HN.out.1 #[.slice A0 n0 k0, .slice A1 n1 k1]
  have o0 := own_move Q0.out (w1 := w6.setRow g2 #[.slice A0 n0 k0, .slice A1 n1 k1]) (fun k hk => setRow_other w6 g2 k #[.slice A0 n0 k0, .slice A1 n1 k1] (by have := own_base Q0.out k hk; have := S5.out; omega))
  have o1 := own_move Q1.out (w1 := w6.setRow g2 #[.slice A0 n0 k0, .slice A1 n1 k1]) (fun k hk => setRow_other w6 g2 k #[.slice A0 n0 k0, .slice A1 n1 k1] (by have := own_base Q1.out k hk; have := S5.out; omega))
  generalize World.setRow w6 g2 _ = w7 at s2 s1 sb o0 o1 ⊢
  have G2 := Aside0.mk s2; have G1 := Aside0.mk s1; have G0 := Aside0.mk sb; have P0 := Aside0.mk (own_weaken o0 (Nat.le_trans (show w.heap.size ≤ w4.heap.size from HD.out.size) (Nat.le_refl _))); have P1 := Aside0.mk (own_weaken o1 (show w.heap.size ≤ w5.heap.size from E0.out.size))
  clear s2 s1 sb o0 o1 hHeld
  refine hK.out _ _ ⟨(blk_cell G1.out 0).trans rfl, (blk_cell G1.out 1).trans rfl⟩ (fun hHeld => ?_)
  clear hK K
  refine pure_ (i := 12) (N := some 3) (v := ?_) (a' := ?_) #[true, true, true, true, true, true, true, true, true, true, true, true, true] rfl rfl (any_of HT_.out (by kernel_rfl)) (fun _ _ _ h => h) (Or.inl ⟨by rfl, ?_⟩) ?_ ?_; rotate_left; (intro w'; go_simp; with_reducible rfl); rotate_left; (simp only [Act.put, List.setIfInBounds_toArray, List.set_cons_zero, List.set_cons_succ, i64_w, i32_w]; rfl)
  refine done_ (done_of HT_.out (by kernel_rfl)) ?_
  go_wp2
  refine bodyPost_ret (results_ct rfl _ _ g2 43 #[.slice A0 n0 k0, .slice A1 n1 k1] (0, 0) _ rfl G2.out Try.underlying43 rfl (by kernel_rfl)) rfl ?_
  exact ⟨_, _, rfl, P0.out, P1.out, G0.out⟩
theorem movement_Mirror.cs_length (x : S54) : (movement_Mirror.cs x).length = 22 := rfl
theorem movement_Mirror.flat : ∀ (l : List S54) (j : Nat) (p : S54), l[j]? = some p → ((l.flatMap movement_Mirror.cs).drop (j * 22)).take 22 = movement_Mirror.cs p
  | [], j, p, h => by simp at h
  | x :: l, 0, p, h => by
    simp only [List.getElem?_cons_zero, Option.some.injEq] at h
    subst h
    rw [Nat.zero_mul, List.drop_zero, List.flatMap_cons]
    exact List.take_left' rfl
  | x :: l, j + 1, p, h => by
    rw [List.getElem?_cons_succ] at h
    rw [List.flatMap_cons, show (j + 1) * 22 = 22 + j * 22 by omega, ← List.drop_drop, List.drop_left' (movement_Mirror.cs_length x)]
    exact movement_Mirror.flat l j p h
theorem movement_Mirror.flat_length (l : List S54) : (l.flatMap movement_Mirror.cs).length = l.length * 22 := by
  induction l with
  | nil => rfl
  | cons x l ih => rw [List.flatMap_cons, List.length_append, ih, movement_Mirror.cs_length, List.length_cons]; omega
theorem movement_Mirror.range_at {α β : Type} (l : List α) (z : α) (g : α → β) : (List.range l.length).map (fun i => g (l.getD i z)) = l.map g := by
  refine List.ext_getElem? fun i => ?_
  rcases Nat.lt_or_ge i l.length with h | h
  · rw [List.getElem?_map, List.getElem?_range h, List.getElem?_map, List.getElem?_eq_getElem h]
    simp [List.getD_eq_getElem?_getD, List.getElem?_eq_getElem h]
  · rw [List.getElem?_eq_none (by simpa using h), List.getElem?_eq_none (by simpa using h)]
def movement_Mirror.good (k : Nat) (l0 : List S54) (l1 : List Int) : Bool := decide (0 < l0.length ∧ l0.length ≤ 100000 ∧ 0 < l1.length ∧ l1.length ≤ 100000) && l0.all (fun x => movement_Mirror.val k x == some 0)
def movement_Mirror.f (k : Nat) (l0_0 : List S54) (l0_1 : List Int) : Option (List S54 × List Int × Int) := (movement_Check.f k l0_0 l0_1).bind fun e => if e = 0 then (if movement_Mirror.good k l0_0 l0_1 = true then some (l0_0.map movement_Mirror.ps, l0_1.map movement_Mirror.sp, 0) else none) else none
theorem movement_Mirror.good_mono {k : Nat} {l0 : List S54} {l1 : List Int} (h : movement_Mirror.good k l0 l1 = true) : movement_Mirror.good (k + 1) l0 l1 = true := by
  unfold movement_Mirror.good at h ⊢
  rw [Bool.and_eq_true] at h ⊢
  refine ⟨h.1, List.all_eq_true.mpr fun x hx => ?_⟩
  have := List.all_eq_true.mp h.2 x hx
  exact beq_iff_eq.mpr (posture_Valid.mono _ _ _ _ _ _ _ _ _ _ _ _ _ _ _ _ _ _ _ _ _ _ _ _ (beq_iff_eq.mp this))
theorem movement_Mirror.mono : ∀ a0 a1 k, LeO (movement_Mirror.f k a0 a1) (movement_Mirror.f (k + 1) a0 a1) := by
  intro a0 a1 k
  unfold movement_Mirror.f
  refine LeO.bind (movement_Check.mono _ _ _) fun e => LeO.ite ?_ (LeO.none _)
  intro r h
  by_cases c : movement_Mirror.good k a0 a1 = true
  · rw [if_pos c] at h
    rw [if_pos (movement_Mirror.good_mono c)]
    exact h
  · rw [if_neg c] at h; cases h
theorem movement_Mirror.calls (k : Nat) (A0_0 : Option Addr) (c0_0 : Nat) (l0_0 : List (S54)) (A0_1 : Option Addr) (c0_1 : Nat) (l0_1 : List Int) (r1 : List (S54)) (r2 : List Int) (r3 : Int) (w : World) (hr0_0 : Kd.C k54 w A0_0 l0_0.length l0_0) (hc0_0 : l0_0.length ≤ c0_0) (hr0_1 : Kd.C (Kd.int .i64) w A0_1 l0_1.length l0_1) (hc0_1 : l0_1.length ≤ c0_1) (h : movement_Mirror.f k l0_0 l0_1 = some (r1, r2, r3)) :
  Calls Try.prog 24 #[.agg #[.slice A0_0 l0_0.length c0_0, .slice A0_1 l0_1.length c0_1]] w fun e w' => ∃ v0_ v1_ : Value, e = .returned (.tuple #[.agg #[v0_, v1_], .int .i64 r3]) ∧ Kd.R k54 54 w' w.heap.size (fun _ => True) v0_ r1 ∧ Kd.R (Kd.int .i64) 3 w' w.heap.size (fun _ => True) v1_ r2 ∧ Below w.heap.size w w' := by
  unfold movement_Mirror.f at h
  obtain ⟨e, he, h2⟩ := Option.bind_eq_some_iff.mp h
  by_cases e0 : e = 0
  · subst e0
    rw [if_pos rfl] at h2
    by_cases c : movement_Mirror.good k l0_0 l0_1 = true
    · rw [if_pos c] at h2
      obtain ⟨rfl, h3⟩ := Prod.mk.inj (Option.some.inj h2)
      obtain ⟨rfl, rfl⟩ := Prod.mk.inj h3
      unfold movement_Mirror.good at c
      rw [Bool.and_eq_true, decide_eq_true_iff] at c
      obtain ⟨⟨p0, p1, p2, p3⟩, hv⟩ := c
      obtain ⟨ad0, _, rfl, _, _⟩ := Kd.C_rowAt hr0_0 z54 0 (by omega) (by omega)
      obtain ⟨ad1, rfl, _⟩ := Kd.at_int hr0_1 0 (by omega) (by omega)
      have hok := movement_Mirror.ok k l0_0.length l0_1.length c0_0 c0_1 ad0 ad1 (fun i => movement_Mirror.ps (l0_0.getD i z54)) (fun i => movement_Mirror.sp (l0_1.getD i 0)) w p1 p3
        (fun W hb => (movement_Check.calls k _ _ _ _ _ _ _ W (Kd.C_below hr0_0 hb) hc0_0 (Kd.C_below hr0_1 hb) hc0_1 he))
        (fun W g1 hb hg i hi => by
          obtain ⟨ad, c, e1, hK, hrow⟩ := Kd.C_rowAt hr0_0 z54 (i : Int) (by omega) (by omega)
          cases e1
          rw [Int.toNat_natCast] at hK hrow
          have e2 := k54_open hK
          subst e2
          refine movement_Mirror.pose_calls k g1 l0_0.length c0_0 ad0 i (l0_0.getD i z54) W hi ((blk_cell hg 0).trans rfl) (hrow.below hb) ?_
          have hm : l0_0.getD i z54 ∈ l0_0 := by rw [List.getD_eq_getElem?_getD, List.getElem?_eq_getElem hi]; exact List.getElem_mem hi
          exact beq_iff_eq.mp (List.all_eq_true.mp hv _ hm))
        (fun W g1 hb hg i hi => by
          obtain ⟨ad, e1, hx⟩ := Kd.at_int hr0_1 (i : Int) (by omega) (by omega)
          cases e1
          rw [Int.toNat_natCast] at hx
          have hx2 : W.cell? (ad1.add i) = some (.int .i64 (l0_1.getD i 0)) := (hb.cell (World.block_lt_of_cell? _ _ hx)).trans (by rw [hx]; unfold rd; rw [Int.toNat_natCast])
          refine (movement_Mirror.support_calls g1 l0_1.length c0_1 ad1 i (l0_1.getD i 0) W hi ((blk_cell hg 1).trans rfl) hx2).mono ?_
          rintro e w' ⟨h1, n, rfl⟩
          exact ⟨h1, pw_below_drewN (Below.refl _ _) n⟩)
      refine hok.mono ?_
      rintro e w' ⟨v0, v1, h1, o0, o1, hb⟩
      have e0 : movement_Mirror.rowP (fun i => movement_Mirror.ps (l0_0.getD i z54)) l0_0.length = (l0_0.map movement_Mirror.ps).flatMap movement_Mirror.cs := by
        rw [← movement_Mirror.range_at l0_0 z54 movement_Mirror.ps, List.flatMap_map]; rfl
      have e1 : movement_Mirror.rowI (fun i => movement_Mirror.sp (l0_1.getD i 0)) l0_1.length = encs (Value.int .i64) (l0_1.map movement_Mirror.sp) := by
        rw [← movement_Mirror.range_at l0_1 0 movement_Mirror.sp]; unfold encs; rw [List.map_map]; rfl
      rw [e0] at o0
      rw [e1] at o1
      refine ⟨v0, v1, h1, ⟨fun _ _ => trivial, _, by rw [List.length_map]; exact o0, ⟨movement_Mirror.flat_length _, fun j p hj => by
        have := movement_Mirror.flat _ j p hj
        show k54.M w' w.heap.size _ p (((l0_0.map movement_Mirror.ps).flatMap movement_Mirror.cs).drop (j * 22) |>.take 22)
        rw [this]; exact k54_mkM _ _ _ p⟩⟩, Kd.R_of_own (by rw [List.length_map]; exact o1) (fun _ _ => trivial), hb⟩
    · rw [if_neg c] at h2; cases h2
  · rw [if_neg e0] at h2; cases h2

end Go.Proofs.Yteflngoiebgdaaa.X
