import Derived.Test.YteflngoiebgdaaaX0
import Derived.Test.YteflngoiebgdaaaX3
import Derived.Test.YteflngoiebgdaaaX6
namespace Go.Proofs.Yteflngoiebgdaaa.X
open Go.RowKit YteflngoiebgdaaaW.PrintWords YteflngoiebgdaaaW.PrintLast YteflngoiebgdaaaW.PrintMore
attribute [local go_sem] max2_int min2_int max_two min_two max_three min_three max_four min_four
set_option linter.unusedVariables false
set_option linter.unusedSimpArgs false

/-! ### posture_Valid: function 49 -/
def posture_Valid.f (k : Nat) (a0_0 a0_1 a0_2 a0_3 a0_4 a0_5 a0_6 a0_7 a0_8 a0_9 a0_10 a0_11 a0_12 a0_13 a0_14 a0_15 a0_16 a0_17 a0_18 a0_19 a0_20 a0_21 : Int) : Option Int := (posture_on.f a0_0 a0_1).bind fun t1 => if t1 = true then (if a0_2 < 0 then (some 1) else (if a0_2 > 255 then (some 1) else (if a0_3 < (-8) then (some 1) else (if a0_3 > 8 then (some 1) else ((aim_Check.f k 0 a0_4 a0_5 a0_6).bind fun e0 => if e0 = 0 then ((aim_Check.f k 1 a0_7 a0_8 a0_9).bind fun e1 => if e1 = 0 then ((aim_Check.f k 2 a0_10 a0_11 a0_12).bind fun e2 => if e2 = 0 then ((aim_Check.f k 3 a0_13 a0_14 a0_15).bind fun e3 => if e3 = 0 then ((aim_Check.f k 4 a0_16 a0_17 a0_18).bind fun e4 => if e4 = 0 then ((aim_Check.f k 5 a0_19 a0_20 a0_21).bind fun e5 => if e5 = 0 then (some 0) else (some e5)) else (some e4)) else (some e3)) else (some e2)) else (some e1)) else (some e0)))))) else (some 1)
theorem posture_Valid.mono : ∀ a0_0 a0_1 a0_2 a0_3 a0_4 a0_5 a0_6 a0_7 a0_8 a0_9 a0_10 a0_11 a0_12 a0_13 a0_14 a0_15 a0_16 a0_17 a0_18 a0_19 a0_20 a0_21 k, LeO (posture_Valid.f k a0_0 a0_1 a0_2 a0_3 a0_4 a0_5 a0_6 a0_7 a0_8 a0_9 a0_10 a0_11 a0_12 a0_13 a0_14 a0_15 a0_16 a0_17 a0_18 a0_19 a0_20 a0_21) (posture_Valid.f (k + 1) a0_0 a0_1 a0_2 a0_3 a0_4 a0_5 a0_6 a0_7 a0_8 a0_9 a0_10 a0_11 a0_12 a0_13 a0_14 a0_15 a0_16 a0_17 a0_18 a0_19 a0_20 a0_21) := by
  intro a0_0 a0_1 a0_2 a0_3 a0_4 a0_5 a0_6 a0_7 a0_8 a0_9 a0_10 a0_11 a0_12 a0_13 a0_14 a0_15 a0_16 a0_17 a0_18 a0_19 a0_20 a0_21 k
  unfold posture_Valid.f
  repeat' first
    | (with_reducible exact aim_Check.mono _ _ _ _ _)
    | (with_reducible exact LeO.refl _)
    | (with_reducible exact LeO.none _)
    | (with_reducible refine LeO.ite ?_ ?_)
    | (with_reducible refine LeO.bind ?_ (fun _ => ?_))
    | exact LeO.none _
theorem posture_Valid.ix0 (a0_4 a0_5 a0_6 a0_7 a0_8 a0_9 a0_10 a0_11 a0_12 a0_13 a0_14 a0_15 a0_16 a0_17 a0_18 a0_19 a0_20 a0_21 : Int) : ∀ w, (Instr.index 52 (.agg #[.int .i64 a0_4, .int .i64 a0_5, .int .i64 a0_6, .int .i64 a0_7, .int .i64 a0_8, .int .i64 a0_9, .int .i64 a0_10, .int .i64 a0_11, .int .i64 a0_12, .int .i64 a0_13, .int .i64 a0_14, .int .i64 a0_15, .int .i64 a0_16, .int .i64 a0_17, .int .i64 a0_18, .int .i64 a0_19, .int .i64 a0_20, .int .i64 a0_21]) (.int .i64 0)).run Try.prog w = .ok (.agg #[.int .i64 a0_4, .int .i64 a0_5, .int .i64 a0_6]) w := fun _ => by kernel_rfl
theorem posture_Valid.ix1 (a0_4 a0_5 a0_6 a0_7 a0_8 a0_9 a0_10 a0_11 a0_12 a0_13 a0_14 a0_15 a0_16 a0_17 a0_18 a0_19 a0_20 a0_21 : Int) : ∀ w, (Instr.index 52 (.agg #[.int .i64 a0_4, .int .i64 a0_5, .int .i64 a0_6, .int .i64 a0_7, .int .i64 a0_8, .int .i64 a0_9, .int .i64 a0_10, .int .i64 a0_11, .int .i64 a0_12, .int .i64 a0_13, .int .i64 a0_14, .int .i64 a0_15, .int .i64 a0_16, .int .i64 a0_17, .int .i64 a0_18, .int .i64 a0_19, .int .i64 a0_20, .int .i64 a0_21]) (.int .i64 1)).run Try.prog w = .ok (.agg #[.int .i64 a0_7, .int .i64 a0_8, .int .i64 a0_9]) w := fun _ => by kernel_rfl
theorem posture_Valid.ix2 (a0_4 a0_5 a0_6 a0_7 a0_8 a0_9 a0_10 a0_11 a0_12 a0_13 a0_14 a0_15 a0_16 a0_17 a0_18 a0_19 a0_20 a0_21 : Int) : ∀ w, (Instr.index 52 (.agg #[.int .i64 a0_4, .int .i64 a0_5, .int .i64 a0_6, .int .i64 a0_7, .int .i64 a0_8, .int .i64 a0_9, .int .i64 a0_10, .int .i64 a0_11, .int .i64 a0_12, .int .i64 a0_13, .int .i64 a0_14, .int .i64 a0_15, .int .i64 a0_16, .int .i64 a0_17, .int .i64 a0_18, .int .i64 a0_19, .int .i64 a0_20, .int .i64 a0_21]) (.int .i64 2)).run Try.prog w = .ok (.agg #[.int .i64 a0_10, .int .i64 a0_11, .int .i64 a0_12]) w := fun _ => by kernel_rfl
theorem posture_Valid.ix3 (a0_4 a0_5 a0_6 a0_7 a0_8 a0_9 a0_10 a0_11 a0_12 a0_13 a0_14 a0_15 a0_16 a0_17 a0_18 a0_19 a0_20 a0_21 : Int) : ∀ w, (Instr.index 52 (.agg #[.int .i64 a0_4, .int .i64 a0_5, .int .i64 a0_6, .int .i64 a0_7, .int .i64 a0_8, .int .i64 a0_9, .int .i64 a0_10, .int .i64 a0_11, .int .i64 a0_12, .int .i64 a0_13, .int .i64 a0_14, .int .i64 a0_15, .int .i64 a0_16, .int .i64 a0_17, .int .i64 a0_18, .int .i64 a0_19, .int .i64 a0_20, .int .i64 a0_21]) (.int .i64 3)).run Try.prog w = .ok (.agg #[.int .i64 a0_13, .int .i64 a0_14, .int .i64 a0_15]) w := fun _ => by kernel_rfl
theorem posture_Valid.ix4 (a0_4 a0_5 a0_6 a0_7 a0_8 a0_9 a0_10 a0_11 a0_12 a0_13 a0_14 a0_15 a0_16 a0_17 a0_18 a0_19 a0_20 a0_21 : Int) : ∀ w, (Instr.index 52 (.agg #[.int .i64 a0_4, .int .i64 a0_5, .int .i64 a0_6, .int .i64 a0_7, .int .i64 a0_8, .int .i64 a0_9, .int .i64 a0_10, .int .i64 a0_11, .int .i64 a0_12, .int .i64 a0_13, .int .i64 a0_14, .int .i64 a0_15, .int .i64 a0_16, .int .i64 a0_17, .int .i64 a0_18, .int .i64 a0_19, .int .i64 a0_20, .int .i64 a0_21]) (.int .i64 4)).run Try.prog w = .ok (.agg #[.int .i64 a0_16, .int .i64 a0_17, .int .i64 a0_18]) w := fun _ => by kernel_rfl
theorem posture_Valid.ix5 (a0_4 a0_5 a0_6 a0_7 a0_8 a0_9 a0_10 a0_11 a0_12 a0_13 a0_14 a0_15 a0_16 a0_17 a0_18 a0_19 a0_20 a0_21 : Int) : ∀ w, (Instr.index 52 (.agg #[.int .i64 a0_4, .int .i64 a0_5, .int .i64 a0_6, .int .i64 a0_7, .int .i64 a0_8, .int .i64 a0_9, .int .i64 a0_10, .int .i64 a0_11, .int .i64 a0_12, .int .i64 a0_13, .int .i64 a0_14, .int .i64 a0_15, .int .i64 a0_16, .int .i64 a0_17, .int .i64 a0_18, .int .i64 a0_19, .int .i64 a0_20, .int .i64 a0_21]) (.int .i64 5)).run Try.prog w = .ok (.agg #[.int .i64 a0_19, .int .i64 a0_20, .int .i64 a0_21]) w := fun _ => by kernel_rfl
set_option maxHeartbeats 8000000 in
set_option maxRecDepth 100000 in
theorem posture_Valid.leaf0 (a0_0 a0_1 a0_2 a0_3 a0_4 a0_5 a0_6 a0_7 a0_8 a0_9 a0_10 a0_11 a0_12 a0_13 a0_14 a0_15 a0_16 a0_17 a0_18 a0_19 a0_20 a0_21 : Int) (k : Nat) (w : World) (H1 : Aside0 (posture_on.f a0_0 a0_1 = some false)) :
  Calls Try.prog 49 #[.agg #[.int .i64 a0_0, .int .i64 a0_1, .int .i64 a0_2, .int .i64 a0_3, .int .i64 a0_4, .int .i64 a0_5, .int .i64 a0_6, .int .i64 a0_7, .int .i64 a0_8, .int .i64 a0_9, .int .i64 a0_10, .int .i64 a0_11, .int .i64 a0_12, .int .i64 a0_13, .int .i64 a0_14, .int .i64 a0_15, .int .i64 a0_16, .int .i64 a0_17, .int .i64 a0_18, .int .i64 a0_19, .int .i64 a0_20, .int .i64 a0_21]] w fun e w' => e = .returned (.int .i64 1) ∧ Below w.heap.size w w' := by
  have hu1 := Try.underlying54
  have hu2 := Try.underlying51
  have hu3 := Try.underlying49
  have HB := am (Below.refl w.heap.size w)
  go_enter Try.func49, Try.ntmps49
  go_wp2_with (first | ((with_reducible refine gate_dst (N := 1) rfl ?_); refine box_event yz (N := 1) yz (cs := #[.int .i64 a0_0, .int .i64 a0_1, .int .i64 a0_2, .int .i64 a0_3, .int .i64 a0_4, .int .i64 a0_5, .int .i64 a0_6, .int .i64 a0_7, .int .i64 a0_8, .int .i64 a0_9, .int .i64 a0_10, .int .i64 a0_11, .int .i64 a0_12, .int .i64 a0_13, .int .i64 a0_14, .int .i64 a0_15, .int .i64 a0_16, .int .i64 a0_17, .int .i64 a0_18, .int .i64 a0_19, .int .i64 a0_20, .int .i64 a0_21]) (t := 54) gz ?_; intro gb hg w0 hbox hb; have HB0 := am (below_step HB.out hb); have BK0 := am hbox; have z0 : w0.cell? ⟨gb, 0, none⟩ = some (.int .i64 a0_0) := (blk_cell hbox 0).trans rfl; have z1 : w0.cell? ⟨gb, 1, none⟩ = some (.int .i64 a0_1) := (blk_cell hbox 1).trans rfl; have z2 : w0.cell? ⟨gb, 2, none⟩ = some (.int .i64 a0_2) := (blk_cell hbox 2).trans rfl; have z3 : w0.cell? ⟨gb, 3, none⟩ = some (.int .i64 a0_3) := (blk_cell hbox 3).trans rfl; clear hb hbox hg HB) | (go_at_call 66; (with_reducible refine (posture_on.calls a0_0 a0_1 false _ H1.out).mono ?_); rintro e w1 ⟨rfl, hb⟩; replace z0 := cb hb z0; replace z1 := cb hb z1; replace z2 := cb hb z2; replace z3 := cb hb z3; have BK1 := am (blk_below BK0.out hb); clear BK0; have HB1 := am (below_step (by repeat (first | exact HB0.out | apply below_alloc)) hb); clear hb HB0))
  go_ret
  exact ⟨by first | rfl | simp, HB1.out⟩
set_option maxHeartbeats 8000000 in
set_option maxRecDepth 100000 in
theorem posture_Valid.leaf1 (a0_0 a0_1 a0_2 a0_3 a0_4 a0_5 a0_6 a0_7 a0_8 a0_9 a0_10 a0_11 a0_12 a0_13 a0_14 a0_15 a0_16 a0_17 a0_18 a0_19 a0_20 a0_21 : Int) (k : Nat) (w : World) (H1 : Aside0 (posture_on.f a0_0 a0_1 = some true)) (b0 : decide (a0_2 < 0) = true) :
  Calls Try.prog 49 #[.agg #[.int .i64 a0_0, .int .i64 a0_1, .int .i64 a0_2, .int .i64 a0_3, .int .i64 a0_4, .int .i64 a0_5, .int .i64 a0_6, .int .i64 a0_7, .int .i64 a0_8, .int .i64 a0_9, .int .i64 a0_10, .int .i64 a0_11, .int .i64 a0_12, .int .i64 a0_13, .int .i64 a0_14, .int .i64 a0_15, .int .i64 a0_16, .int .i64 a0_17, .int .i64 a0_18, .int .i64 a0_19, .int .i64 a0_20, .int .i64 a0_21]] w fun e w' => e = .returned (.int .i64 1) ∧ Below w.heap.size w w' := by
  have hu1 := Try.underlying54
  have hu2 := Try.underlying51
  have hu3 := Try.underlying49
  have HB := am (Below.refl w.heap.size w)
  go_enter Try.func49, Try.ntmps49
  go_wp2_with (first | ((with_reducible refine gate_dst (N := 1) rfl ?_); refine box_event yz (N := 1) yz (cs := #[.int .i64 a0_0, .int .i64 a0_1, .int .i64 a0_2, .int .i64 a0_3, .int .i64 a0_4, .int .i64 a0_5, .int .i64 a0_6, .int .i64 a0_7, .int .i64 a0_8, .int .i64 a0_9, .int .i64 a0_10, .int .i64 a0_11, .int .i64 a0_12, .int .i64 a0_13, .int .i64 a0_14, .int .i64 a0_15, .int .i64 a0_16, .int .i64 a0_17, .int .i64 a0_18, .int .i64 a0_19, .int .i64 a0_20, .int .i64 a0_21]) (t := 54) gz ?_; intro gb hg w0 hbox hb; have HB0 := am (below_step HB.out hb); have BK0 := am hbox; have z0 : w0.cell? ⟨gb, 0, none⟩ = some (.int .i64 a0_0) := (blk_cell hbox 0).trans rfl; have z1 : w0.cell? ⟨gb, 1, none⟩ = some (.int .i64 a0_1) := (blk_cell hbox 1).trans rfl; have z2 : w0.cell? ⟨gb, 2, none⟩ = some (.int .i64 a0_2) := (blk_cell hbox 2).trans rfl; have z3 : w0.cell? ⟨gb, 3, none⟩ = some (.int .i64 a0_3) := (blk_cell hbox 3).trans rfl; clear hb hbox hg HB) | (go_at_call 66; (with_reducible refine (posture_on.calls a0_0 a0_1 true _ H1.out).mono ?_); rintro e w1 ⟨rfl, hb⟩; replace z0 := cb hb z0; replace z1 := cb hb z1; replace z2 := cb hb z2; replace z3 := cb hb z3; have BK1 := am (blk_below BK0.out hb); clear BK0; have HB1 := am (below_step (by repeat (first | exact HB0.out | apply below_alloc)) hb); clear hb HB0))
  go_ret
  exact ⟨by first | rfl | simp, HB1.out⟩
set_option maxHeartbeats 8000000 in
set_option maxRecDepth 100000 in
theorem posture_Valid.leaf2 (a0_0 a0_1 a0_2 a0_3 a0_4 a0_5 a0_6 a0_7 a0_8 a0_9 a0_10 a0_11 a0_12 a0_13 a0_14 a0_15 a0_16 a0_17 a0_18 a0_19 a0_20 a0_21 : Int) (k : Nat) (w : World) (H1 : Aside0 (posture_on.f a0_0 a0_1 = some true)) (b0 : decide (a0_2 < 0) = false) (b1 : decide (255 < a0_2) = true) :
  Calls Try.prog 49 #[.agg #[.int .i64 a0_0, .int .i64 a0_1, .int .i64 a0_2, .int .i64 a0_3, .int .i64 a0_4, .int .i64 a0_5, .int .i64 a0_6, .int .i64 a0_7, .int .i64 a0_8, .int .i64 a0_9, .int .i64 a0_10, .int .i64 a0_11, .int .i64 a0_12, .int .i64 a0_13, .int .i64 a0_14, .int .i64 a0_15, .int .i64 a0_16, .int .i64 a0_17, .int .i64 a0_18, .int .i64 a0_19, .int .i64 a0_20, .int .i64 a0_21]] w fun e w' => e = .returned (.int .i64 1) ∧ Below w.heap.size w w' := by
  have hu1 := Try.underlying54
  have hu2 := Try.underlying51
  have hu3 := Try.underlying49
  have HB := am (Below.refl w.heap.size w)
  go_enter Try.func49, Try.ntmps49
  go_wp2_with (first | ((with_reducible refine gate_dst (N := 1) rfl ?_); refine box_event yz (N := 1) yz (cs := #[.int .i64 a0_0, .int .i64 a0_1, .int .i64 a0_2, .int .i64 a0_3, .int .i64 a0_4, .int .i64 a0_5, .int .i64 a0_6, .int .i64 a0_7, .int .i64 a0_8, .int .i64 a0_9, .int .i64 a0_10, .int .i64 a0_11, .int .i64 a0_12, .int .i64 a0_13, .int .i64 a0_14, .int .i64 a0_15, .int .i64 a0_16, .int .i64 a0_17, .int .i64 a0_18, .int .i64 a0_19, .int .i64 a0_20, .int .i64 a0_21]) (t := 54) gz ?_; intro gb hg w0 hbox hb; have HB0 := am (below_step HB.out hb); have BK0 := am hbox; have z0 : w0.cell? ⟨gb, 0, none⟩ = some (.int .i64 a0_0) := (blk_cell hbox 0).trans rfl; have z1 : w0.cell? ⟨gb, 1, none⟩ = some (.int .i64 a0_1) := (blk_cell hbox 1).trans rfl; have z2 : w0.cell? ⟨gb, 2, none⟩ = some (.int .i64 a0_2) := (blk_cell hbox 2).trans rfl; have z3 : w0.cell? ⟨gb, 3, none⟩ = some (.int .i64 a0_3) := (blk_cell hbox 3).trans rfl; clear hb hbox hg HB) | (go_at_call 66; (with_reducible refine (posture_on.calls a0_0 a0_1 true _ H1.out).mono ?_); rintro e w1 ⟨rfl, hb⟩; replace z0 := cb hb z0; replace z1 := cb hb z1; replace z2 := cb hb z2; replace z3 := cb hb z3; have BK1 := am (blk_below BK0.out hb); clear BK0; have HB1 := am (below_step (by repeat (first | exact HB0.out | apply below_alloc)) hb); clear hb HB0))
  go_ret
  exact ⟨by first | rfl | simp, HB1.out⟩
set_option maxHeartbeats 8000000 in
set_option maxRecDepth 100000 in
theorem posture_Valid.leaf3 (a0_0 a0_1 a0_2 a0_3 a0_4 a0_5 a0_6 a0_7 a0_8 a0_9 a0_10 a0_11 a0_12 a0_13 a0_14 a0_15 a0_16 a0_17 a0_18 a0_19 a0_20 a0_21 : Int) (k : Nat) (w : World) (H1 : Aside0 (posture_on.f a0_0 a0_1 = some true)) (b0 : decide (a0_2 < 0) = false) (b1 : decide (255 < a0_2) = false) (b2 : decide (a0_3 < (-8)) = true) :
  Calls Try.prog 49 #[.agg #[.int .i64 a0_0, .int .i64 a0_1, .int .i64 a0_2, .int .i64 a0_3, .int .i64 a0_4, .int .i64 a0_5, .int .i64 a0_6, .int .i64 a0_7, .int .i64 a0_8, .int .i64 a0_9, .int .i64 a0_10, .int .i64 a0_11, .int .i64 a0_12, .int .i64 a0_13, .int .i64 a0_14, .int .i64 a0_15, .int .i64 a0_16, .int .i64 a0_17, .int .i64 a0_18, .int .i64 a0_19, .int .i64 a0_20, .int .i64 a0_21]] w fun e w' => e = .returned (.int .i64 1) ∧ Below w.heap.size w w' := by
  have hu1 := Try.underlying54
  have hu2 := Try.underlying51
  have hu3 := Try.underlying49
  have HB := am (Below.refl w.heap.size w)
  go_enter Try.func49, Try.ntmps49
  go_wp2_with (first | ((with_reducible refine gate_dst (N := 1) rfl ?_); refine box_event yz (N := 1) yz (cs := #[.int .i64 a0_0, .int .i64 a0_1, .int .i64 a0_2, .int .i64 a0_3, .int .i64 a0_4, .int .i64 a0_5, .int .i64 a0_6, .int .i64 a0_7, .int .i64 a0_8, .int .i64 a0_9, .int .i64 a0_10, .int .i64 a0_11, .int .i64 a0_12, .int .i64 a0_13, .int .i64 a0_14, .int .i64 a0_15, .int .i64 a0_16, .int .i64 a0_17, .int .i64 a0_18, .int .i64 a0_19, .int .i64 a0_20, .int .i64 a0_21]) (t := 54) gz ?_; intro gb hg w0 hbox hb; have HB0 := am (below_step HB.out hb); have BK0 := am hbox; have z0 : w0.cell? ⟨gb, 0, none⟩ = some (.int .i64 a0_0) := (blk_cell hbox 0).trans rfl; have z1 : w0.cell? ⟨gb, 1, none⟩ = some (.int .i64 a0_1) := (blk_cell hbox 1).trans rfl; have z2 : w0.cell? ⟨gb, 2, none⟩ = some (.int .i64 a0_2) := (blk_cell hbox 2).trans rfl; have z3 : w0.cell? ⟨gb, 3, none⟩ = some (.int .i64 a0_3) := (blk_cell hbox 3).trans rfl; clear hb hbox hg HB) | (go_at_call 66; (with_reducible refine (posture_on.calls a0_0 a0_1 true _ H1.out).mono ?_); rintro e w1 ⟨rfl, hb⟩; replace z0 := cb hb z0; replace z1 := cb hb z1; replace z2 := cb hb z2; replace z3 := cb hb z3; have BK1 := am (blk_below BK0.out hb); clear BK0; have HB1 := am (below_step (by repeat (first | exact HB0.out | apply below_alloc)) hb); clear hb HB0))
  go_ret
  exact ⟨by first | rfl | simp, HB1.out⟩
set_option maxHeartbeats 8000000 in
set_option maxRecDepth 100000 in
theorem posture_Valid.leaf4 (a0_0 a0_1 a0_2 a0_3 a0_4 a0_5 a0_6 a0_7 a0_8 a0_9 a0_10 a0_11 a0_12 a0_13 a0_14 a0_15 a0_16 a0_17 a0_18 a0_19 a0_20 a0_21 : Int) (k : Nat) (w : World) (H1 : Aside0 (posture_on.f a0_0 a0_1 = some true)) (b0 : decide (a0_2 < 0) = false) (b1 : decide (255 < a0_2) = false) (b2 : decide (a0_3 < (-8)) = false) (b3 : decide (8 < a0_3) = true) :
  Calls Try.prog 49 #[.agg #[.int .i64 a0_0, .int .i64 a0_1, .int .i64 a0_2, .int .i64 a0_3, .int .i64 a0_4, .int .i64 a0_5, .int .i64 a0_6, .int .i64 a0_7, .int .i64 a0_8, .int .i64 a0_9, .int .i64 a0_10, .int .i64 a0_11, .int .i64 a0_12, .int .i64 a0_13, .int .i64 a0_14, .int .i64 a0_15, .int .i64 a0_16, .int .i64 a0_17, .int .i64 a0_18, .int .i64 a0_19, .int .i64 a0_20, .int .i64 a0_21]] w fun e w' => e = .returned (.int .i64 1) ∧ Below w.heap.size w w' := by
  have hu1 := Try.underlying54
  have hu2 := Try.underlying51
  have hu3 := Try.underlying49
  have HB := am (Below.refl w.heap.size w)
  go_enter Try.func49, Try.ntmps49
  go_wp2_with (first | ((with_reducible refine gate_dst (N := 1) rfl ?_); refine box_event yz (N := 1) yz (cs := #[.int .i64 a0_0, .int .i64 a0_1, .int .i64 a0_2, .int .i64 a0_3, .int .i64 a0_4, .int .i64 a0_5, .int .i64 a0_6, .int .i64 a0_7, .int .i64 a0_8, .int .i64 a0_9, .int .i64 a0_10, .int .i64 a0_11, .int .i64 a0_12, .int .i64 a0_13, .int .i64 a0_14, .int .i64 a0_15, .int .i64 a0_16, .int .i64 a0_17, .int .i64 a0_18, .int .i64 a0_19, .int .i64 a0_20, .int .i64 a0_21]) (t := 54) gz ?_; intro gb hg w0 hbox hb; have HB0 := am (below_step HB.out hb); have BK0 := am hbox; have z0 : w0.cell? ⟨gb, 0, none⟩ = some (.int .i64 a0_0) := (blk_cell hbox 0).trans rfl; have z1 : w0.cell? ⟨gb, 1, none⟩ = some (.int .i64 a0_1) := (blk_cell hbox 1).trans rfl; have z2 : w0.cell? ⟨gb, 2, none⟩ = some (.int .i64 a0_2) := (blk_cell hbox 2).trans rfl; have z3 : w0.cell? ⟨gb, 3, none⟩ = some (.int .i64 a0_3) := (blk_cell hbox 3).trans rfl; clear hb hbox hg HB) | (go_at_call 66; (with_reducible refine (posture_on.calls a0_0 a0_1 true _ H1.out).mono ?_); rintro e w1 ⟨rfl, hb⟩; replace z0 := cb hb z0; replace z1 := cb hb z1; replace z2 := cb hb z2; replace z3 := cb hb z3; have BK1 := am (blk_below BK0.out hb); clear BK0; have HB1 := am (below_step (by repeat (first | exact HB0.out | apply below_alloc)) hb); clear hb HB0))
  go_ret
  exact ⟨by first | rfl | simp, HB1.out⟩
set_option maxHeartbeats 8000000 in
set_option maxRecDepth 100000 in
theorem posture_Valid.leaf5 (a0_0 a0_1 a0_2 a0_3 a0_4 a0_5 a0_6 a0_7 a0_8 a0_9 a0_10 a0_11 a0_12 a0_13 a0_14 a0_15 a0_16 a0_17 a0_18 a0_19 a0_20 a0_21 : Int) (k : Nat) (w : World) (H1 : Aside0 (posture_on.f a0_0 a0_1 = some true)) (b0 : decide (a0_2 < 0) = false) (b1 : decide (255 < a0_2) = false) (b2 : decide (a0_3 < (-8)) = false) (b3 : decide (8 < a0_3) = false) (G0 : Aside0 (aim_Check.f k 0 a0_4 a0_5 a0_6 = some 0)) (G1 : Aside0 (aim_Check.f k 1 a0_7 a0_8 a0_9 = some 0)) (G2 : Aside0 (aim_Check.f k 2 a0_10 a0_11 a0_12 = some 0)) (G3 : Aside0 (aim_Check.f k 3 a0_13 a0_14 a0_15 = some 0)) (G4 : Aside0 (aim_Check.f k 4 a0_16 a0_17 a0_18 = some 0)) (G5 : Aside0 (aim_Check.f k 5 a0_19 a0_20 a0_21 = some 0)) :
  Calls Try.prog 49 #[.agg #[.int .i64 a0_0, .int .i64 a0_1, .int .i64 a0_2, .int .i64 a0_3, .int .i64 a0_4, .int .i64 a0_5, .int .i64 a0_6, .int .i64 a0_7, .int .i64 a0_8, .int .i64 a0_9, .int .i64 a0_10, .int .i64 a0_11, .int .i64 a0_12, .int .i64 a0_13, .int .i64 a0_14, .int .i64 a0_15, .int .i64 a0_16, .int .i64 a0_17, .int .i64 a0_18, .int .i64 a0_19, .int .i64 a0_20, .int .i64 a0_21]] w fun e w' => e = .returned (.int .i64 0) ∧ Below w.heap.size w w' := by
  have hu1 := Try.underlying54
  have hu2 := Try.underlying51
  have hu3 := Try.underlying49
  have HB := am (Below.refl w.heap.size w)
  have ix0 := posture_Valid.ix0 a0_4 a0_5 a0_6 a0_7 a0_8 a0_9 a0_10 a0_11 a0_12 a0_13 a0_14 a0_15 a0_16 a0_17 a0_18 a0_19 a0_20 a0_21
  have ix1 := posture_Valid.ix1 a0_4 a0_5 a0_6 a0_7 a0_8 a0_9 a0_10 a0_11 a0_12 a0_13 a0_14 a0_15 a0_16 a0_17 a0_18 a0_19 a0_20 a0_21
  have ix2 := posture_Valid.ix2 a0_4 a0_5 a0_6 a0_7 a0_8 a0_9 a0_10 a0_11 a0_12 a0_13 a0_14 a0_15 a0_16 a0_17 a0_18 a0_19 a0_20 a0_21
  have ix3 := posture_Valid.ix3 a0_4 a0_5 a0_6 a0_7 a0_8 a0_9 a0_10 a0_11 a0_12 a0_13 a0_14 a0_15 a0_16 a0_17 a0_18 a0_19 a0_20 a0_21
  have ix4 := posture_Valid.ix4 a0_4 a0_5 a0_6 a0_7 a0_8 a0_9 a0_10 a0_11 a0_12 a0_13 a0_14 a0_15 a0_16 a0_17 a0_18 a0_19 a0_20 a0_21
  have ix5 := posture_Valid.ix5 a0_4 a0_5 a0_6 a0_7 a0_8 a0_9 a0_10 a0_11 a0_12 a0_13 a0_14 a0_15 a0_16 a0_17 a0_18 a0_19 a0_20 a0_21
  go_enter Try.func49, Try.ntmps49
  go_wp2_with (first | ((with_reducible refine gate_dst (N := 1) rfl ?_); refine box_event yz (N := 1) yz (cs := #[.int .i64 a0_0, .int .i64 a0_1, .int .i64 a0_2, .int .i64 a0_3, .int .i64 a0_4, .int .i64 a0_5, .int .i64 a0_6, .int .i64 a0_7, .int .i64 a0_8, .int .i64 a0_9, .int .i64 a0_10, .int .i64 a0_11, .int .i64 a0_12, .int .i64 a0_13, .int .i64 a0_14, .int .i64 a0_15, .int .i64 a0_16, .int .i64 a0_17, .int .i64 a0_18, .int .i64 a0_19, .int .i64 a0_20, .int .i64 a0_21]) (t := 54) gz ?_; intro gb hg w0 hbox hb; have HB0 := am (below_step HB.out hb); have BK0 := am hbox; have z0 : w0.cell? ⟨gb, 0, none⟩ = some (.int .i64 a0_0) := (blk_cell hbox 0).trans rfl; have z1 : w0.cell? ⟨gb, 1, none⟩ = some (.int .i64 a0_1) := (blk_cell hbox 1).trans rfl; have z2 : w0.cell? ⟨gb, 2, none⟩ = some (.int .i64 a0_2) := (blk_cell hbox 2).trans rfl; have z3 : w0.cell? ⟨gb, 3, none⟩ = some (.int .i64 a0_3) := (blk_cell hbox 3).trans rfl; clear hb hbox hg HB) | (go_at_call 66; (with_reducible refine (posture_on.calls a0_0 a0_1 true _ H1.out).mono ?_); rintro e w1 ⟨rfl, hb⟩; replace z0 := cb hb z0; replace z1 := cb hb z1; replace z2 := cb hb z2; replace z3 := cb hb z3; have BK1 := am (blk_below BK0.out hb); clear BK0; have HB1 := am (below_step (by repeat (first | exact HB0.out | apply below_alloc)) hb); clear hb HB0) | ((with_reducible refine gate_dst (N := 31) rfl ?_); refine wpList_load_mid ?h0 52 (.tmp 30) ?ho gb 4 ?hx [.int .i64 a0_4, .int .i64 a0_5, .int .i64 a0_6, .int .i64 a0_7, .int .i64 a0_8, .int .i64 a0_9, .int .i64 a0_10, .int .i64 a0_11, .int .i64 a0_12, .int .i64 a0_13, .int .i64 a0_14, .int .i64 a0_15, .int .i64 a0_16, .int .i64 a0_17, .int .i64 a0_18, .int .i64 a0_19, .int .i64 a0_20, .int .i64 a0_21] _ (range_of_block BK1.out 4 18 _ rfl) Try.underlying52 ?hd ?hi ?_; (case h0 => rfl); (case ho => rfl); (case hx => rfl); (case hd => rfl); (case hi => rfl)))
  refine wp_loop_rounds 7 ?_
  rw [rounds_succ]
  go_wp2_with (go_at_call 67; (with_reducible refine (aim_Check.calls k 0 a0_4 a0_5 a0_6 0 _ G0.out).mono ?_); rintro e w2 ⟨rfl, hb⟩; have HB2 := am (below_step (by repeat (first | exact HB1.out | apply below_alloc)) hb); clear hb HB1)
  rw [rounds_succ]
  go_wp2_with (go_at_call 67; (with_reducible refine (aim_Check.calls k 1 a0_7 a0_8 a0_9 0 _ G1.out).mono ?_); rintro e w3 ⟨rfl, hb⟩; have HB3 := am (below_step (by repeat (first | exact HB2.out | apply below_alloc)) hb); clear hb HB2)
  rw [rounds_succ]
  go_wp2_with (go_at_call 67; (with_reducible refine (aim_Check.calls k 2 a0_10 a0_11 a0_12 0 _ G2.out).mono ?_); rintro e w4 ⟨rfl, hb⟩; have HB4 := am (below_step (by repeat (first | exact HB3.out | apply below_alloc)) hb); clear hb HB3)
  rw [rounds_succ]
  go_wp2_with (go_at_call 67; (with_reducible refine (aim_Check.calls k 3 a0_13 a0_14 a0_15 0 _ G3.out).mono ?_); rintro e w5 ⟨rfl, hb⟩; have HB5 := am (below_step (by repeat (first | exact HB4.out | apply below_alloc)) hb); clear hb HB4)
  rw [rounds_succ]
  go_wp2_with (go_at_call 67; (with_reducible refine (aim_Check.calls k 4 a0_16 a0_17 a0_18 0 _ G4.out).mono ?_); rintro e w6 ⟨rfl, hb⟩; have HB6 := am (below_step (by repeat (first | exact HB5.out | apply below_alloc)) hb); clear hb HB5)
  rw [rounds_succ]
  go_wp2_with (go_at_call 67; (with_reducible refine (aim_Check.calls k 5 a0_19 a0_20 a0_21 0 _ G5.out).mono ?_); rintro e w7 ⟨rfl, hb⟩; have HB7 := am (below_step (by repeat (first | exact HB6.out | apply below_alloc)) hb); clear hb HB6)
  rw [rounds_succ]
  go_wp2
  go_ret
  exact ⟨by first | rfl | simp, HB7.out⟩
set_option maxHeartbeats 8000000 in
set_option maxRecDepth 100000 in
theorem posture_Valid.leaf6 (a0_0 a0_1 a0_2 a0_3 a0_4 a0_5 a0_6 a0_7 a0_8 a0_9 a0_10 a0_11 a0_12 a0_13 a0_14 a0_15 a0_16 a0_17 a0_18 a0_19 a0_20 a0_21 : Int) (k : Nat) {e5 : Int} (w : World) (H1 : Aside0 (posture_on.f a0_0 a0_1 = some true)) (b0 : decide (a0_2 < 0) = false) (b1 : decide (255 < a0_2) = false) (b2 : decide (a0_3 < (-8)) = false) (b3 : decide (8 < a0_3) = false) (G0 : Aside0 (aim_Check.f k 0 a0_4 a0_5 a0_6 = some 0)) (G1 : Aside0 (aim_Check.f k 1 a0_7 a0_8 a0_9 = some 0)) (G2 : Aside0 (aim_Check.f k 2 a0_10 a0_11 a0_12 = some 0)) (G3 : Aside0 (aim_Check.f k 3 a0_13 a0_14 a0_15 = some 0)) (G4 : Aside0 (aim_Check.f k 4 a0_16 a0_17 a0_18 = some 0)) (G5 : Aside0 (aim_Check.f k 5 a0_19 a0_20 a0_21 = some e5)) (x5 : (e5 == 0) = false) (y5 : (e5 != 0) = true) :
  Calls Try.prog 49 #[.agg #[.int .i64 a0_0, .int .i64 a0_1, .int .i64 a0_2, .int .i64 a0_3, .int .i64 a0_4, .int .i64 a0_5, .int .i64 a0_6, .int .i64 a0_7, .int .i64 a0_8, .int .i64 a0_9, .int .i64 a0_10, .int .i64 a0_11, .int .i64 a0_12, .int .i64 a0_13, .int .i64 a0_14, .int .i64 a0_15, .int .i64 a0_16, .int .i64 a0_17, .int .i64 a0_18, .int .i64 a0_19, .int .i64 a0_20, .int .i64 a0_21]] w fun e w' => e = .returned (.int .i64 e5) ∧ Below w.heap.size w w' := by
  have hu1 := Try.underlying54
  have hu2 := Try.underlying51
  have hu3 := Try.underlying49
  have HB := am (Below.refl w.heap.size w)
  have ix0 := posture_Valid.ix0 a0_4 a0_5 a0_6 a0_7 a0_8 a0_9 a0_10 a0_11 a0_12 a0_13 a0_14 a0_15 a0_16 a0_17 a0_18 a0_19 a0_20 a0_21
  have ix1 := posture_Valid.ix1 a0_4 a0_5 a0_6 a0_7 a0_8 a0_9 a0_10 a0_11 a0_12 a0_13 a0_14 a0_15 a0_16 a0_17 a0_18 a0_19 a0_20 a0_21
  have ix2 := posture_Valid.ix2 a0_4 a0_5 a0_6 a0_7 a0_8 a0_9 a0_10 a0_11 a0_12 a0_13 a0_14 a0_15 a0_16 a0_17 a0_18 a0_19 a0_20 a0_21
  have ix3 := posture_Valid.ix3 a0_4 a0_5 a0_6 a0_7 a0_8 a0_9 a0_10 a0_11 a0_12 a0_13 a0_14 a0_15 a0_16 a0_17 a0_18 a0_19 a0_20 a0_21
  have ix4 := posture_Valid.ix4 a0_4 a0_5 a0_6 a0_7 a0_8 a0_9 a0_10 a0_11 a0_12 a0_13 a0_14 a0_15 a0_16 a0_17 a0_18 a0_19 a0_20 a0_21
  have ix5 := posture_Valid.ix5 a0_4 a0_5 a0_6 a0_7 a0_8 a0_9 a0_10 a0_11 a0_12 a0_13 a0_14 a0_15 a0_16 a0_17 a0_18 a0_19 a0_20 a0_21
  go_enter Try.func49, Try.ntmps49
  go_wp2_with (first | ((with_reducible refine gate_dst (N := 1) rfl ?_); refine box_event yz (N := 1) yz (cs := #[.int .i64 a0_0, .int .i64 a0_1, .int .i64 a0_2, .int .i64 a0_3, .int .i64 a0_4, .int .i64 a0_5, .int .i64 a0_6, .int .i64 a0_7, .int .i64 a0_8, .int .i64 a0_9, .int .i64 a0_10, .int .i64 a0_11, .int .i64 a0_12, .int .i64 a0_13, .int .i64 a0_14, .int .i64 a0_15, .int .i64 a0_16, .int .i64 a0_17, .int .i64 a0_18, .int .i64 a0_19, .int .i64 a0_20, .int .i64 a0_21]) (t := 54) gz ?_; intro gb hg w0 hbox hb; have HB0 := am (below_step HB.out hb); have BK0 := am hbox; have z0 : w0.cell? ⟨gb, 0, none⟩ = some (.int .i64 a0_0) := (blk_cell hbox 0).trans rfl; have z1 : w0.cell? ⟨gb, 1, none⟩ = some (.int .i64 a0_1) := (blk_cell hbox 1).trans rfl; have z2 : w0.cell? ⟨gb, 2, none⟩ = some (.int .i64 a0_2) := (blk_cell hbox 2).trans rfl; have z3 : w0.cell? ⟨gb, 3, none⟩ = some (.int .i64 a0_3) := (blk_cell hbox 3).trans rfl; clear hb hbox hg HB) | (go_at_call 66; (with_reducible refine (posture_on.calls a0_0 a0_1 true _ H1.out).mono ?_); rintro e w1 ⟨rfl, hb⟩; replace z0 := cb hb z0; replace z1 := cb hb z1; replace z2 := cb hb z2; replace z3 := cb hb z3; have BK1 := am (blk_below BK0.out hb); clear BK0; have HB1 := am (below_step (by repeat (first | exact HB0.out | apply below_alloc)) hb); clear hb HB0) | ((with_reducible refine gate_dst (N := 31) rfl ?_); refine wpList_load_mid ?h0 52 (.tmp 30) ?ho gb 4 ?hx [.int .i64 a0_4, .int .i64 a0_5, .int .i64 a0_6, .int .i64 a0_7, .int .i64 a0_8, .int .i64 a0_9, .int .i64 a0_10, .int .i64 a0_11, .int .i64 a0_12, .int .i64 a0_13, .int .i64 a0_14, .int .i64 a0_15, .int .i64 a0_16, .int .i64 a0_17, .int .i64 a0_18, .int .i64 a0_19, .int .i64 a0_20, .int .i64 a0_21] _ (range_of_block BK1.out 4 18 _ rfl) Try.underlying52 ?hd ?hi ?_; (case h0 => rfl); (case ho => rfl); (case hx => rfl); (case hd => rfl); (case hi => rfl)))
  refine wp_loop_rounds 7 ?_
  rw [rounds_succ]
  go_wp2_with (go_at_call 67; (with_reducible refine (aim_Check.calls k 0 a0_4 a0_5 a0_6 0 _ G0.out).mono ?_); rintro e w2 ⟨rfl, hb⟩; have HB2 := am (below_step (by repeat (first | exact HB1.out | apply below_alloc)) hb); clear hb HB1)
  rw [rounds_succ]
  go_wp2_with (go_at_call 67; (with_reducible refine (aim_Check.calls k 1 a0_7 a0_8 a0_9 0 _ G1.out).mono ?_); rintro e w3 ⟨rfl, hb⟩; have HB3 := am (below_step (by repeat (first | exact HB2.out | apply below_alloc)) hb); clear hb HB2)
  rw [rounds_succ]
  go_wp2_with (go_at_call 67; (with_reducible refine (aim_Check.calls k 2 a0_10 a0_11 a0_12 0 _ G2.out).mono ?_); rintro e w4 ⟨rfl, hb⟩; have HB4 := am (below_step (by repeat (first | exact HB3.out | apply below_alloc)) hb); clear hb HB3)
  rw [rounds_succ]
  go_wp2_with (go_at_call 67; (with_reducible refine (aim_Check.calls k 3 a0_13 a0_14 a0_15 0 _ G3.out).mono ?_); rintro e w5 ⟨rfl, hb⟩; have HB5 := am (below_step (by repeat (first | exact HB4.out | apply below_alloc)) hb); clear hb HB4)
  rw [rounds_succ]
  go_wp2_with (go_at_call 67; (with_reducible refine (aim_Check.calls k 4 a0_16 a0_17 a0_18 0 _ G4.out).mono ?_); rintro e w6 ⟨rfl, hb⟩; have HB6 := am (below_step (by repeat (first | exact HB5.out | apply below_alloc)) hb); clear hb HB5)
  rw [rounds_succ]
  go_wp2_with (go_at_call 67; (with_reducible refine (aim_Check.calls k 5 a0_19 a0_20 a0_21 e5 _ G5.out).mono ?_); rintro e w7 ⟨rfl, hb⟩; have HB7 := am (below_step (by repeat (first | exact HB6.out | apply below_alloc)) hb); clear hb HB6)
  go_ret
  exact ⟨by first | rfl | simp, HB7.out⟩
set_option maxHeartbeats 8000000 in
set_option maxRecDepth 100000 in
theorem posture_Valid.leaf7 (a0_0 a0_1 a0_2 a0_3 a0_4 a0_5 a0_6 a0_7 a0_8 a0_9 a0_10 a0_11 a0_12 a0_13 a0_14 a0_15 a0_16 a0_17 a0_18 a0_19 a0_20 a0_21 : Int) (k : Nat) {e4 : Int} (w : World) (H1 : Aside0 (posture_on.f a0_0 a0_1 = some true)) (b0 : decide (a0_2 < 0) = false) (b1 : decide (255 < a0_2) = false) (b2 : decide (a0_3 < (-8)) = false) (b3 : decide (8 < a0_3) = false) (G0 : Aside0 (aim_Check.f k 0 a0_4 a0_5 a0_6 = some 0)) (G1 : Aside0 (aim_Check.f k 1 a0_7 a0_8 a0_9 = some 0)) (G2 : Aside0 (aim_Check.f k 2 a0_10 a0_11 a0_12 = some 0)) (G3 : Aside0 (aim_Check.f k 3 a0_13 a0_14 a0_15 = some 0)) (G4 : Aside0 (aim_Check.f k 4 a0_16 a0_17 a0_18 = some e4)) (x4 : (e4 == 0) = false) (y4 : (e4 != 0) = true) :
  Calls Try.prog 49 #[.agg #[.int .i64 a0_0, .int .i64 a0_1, .int .i64 a0_2, .int .i64 a0_3, .int .i64 a0_4, .int .i64 a0_5, .int .i64 a0_6, .int .i64 a0_7, .int .i64 a0_8, .int .i64 a0_9, .int .i64 a0_10, .int .i64 a0_11, .int .i64 a0_12, .int .i64 a0_13, .int .i64 a0_14, .int .i64 a0_15, .int .i64 a0_16, .int .i64 a0_17, .int .i64 a0_18, .int .i64 a0_19, .int .i64 a0_20, .int .i64 a0_21]] w fun e w' => e = .returned (.int .i64 e4) ∧ Below w.heap.size w w' := by
  have hu1 := Try.underlying54
  have hu2 := Try.underlying51
  have hu3 := Try.underlying49
  have HB := am (Below.refl w.heap.size w)
  have ix0 := posture_Valid.ix0 a0_4 a0_5 a0_6 a0_7 a0_8 a0_9 a0_10 a0_11 a0_12 a0_13 a0_14 a0_15 a0_16 a0_17 a0_18 a0_19 a0_20 a0_21
  have ix1 := posture_Valid.ix1 a0_4 a0_5 a0_6 a0_7 a0_8 a0_9 a0_10 a0_11 a0_12 a0_13 a0_14 a0_15 a0_16 a0_17 a0_18 a0_19 a0_20 a0_21
  have ix2 := posture_Valid.ix2 a0_4 a0_5 a0_6 a0_7 a0_8 a0_9 a0_10 a0_11 a0_12 a0_13 a0_14 a0_15 a0_16 a0_17 a0_18 a0_19 a0_20 a0_21
  have ix3 := posture_Valid.ix3 a0_4 a0_5 a0_6 a0_7 a0_8 a0_9 a0_10 a0_11 a0_12 a0_13 a0_14 a0_15 a0_16 a0_17 a0_18 a0_19 a0_20 a0_21
  have ix4 := posture_Valid.ix4 a0_4 a0_5 a0_6 a0_7 a0_8 a0_9 a0_10 a0_11 a0_12 a0_13 a0_14 a0_15 a0_16 a0_17 a0_18 a0_19 a0_20 a0_21
  go_enter Try.func49, Try.ntmps49
  go_wp2_with (first | ((with_reducible refine gate_dst (N := 1) rfl ?_); refine box_event yz (N := 1) yz (cs := #[.int .i64 a0_0, .int .i64 a0_1, .int .i64 a0_2, .int .i64 a0_3, .int .i64 a0_4, .int .i64 a0_5, .int .i64 a0_6, .int .i64 a0_7, .int .i64 a0_8, .int .i64 a0_9, .int .i64 a0_10, .int .i64 a0_11, .int .i64 a0_12, .int .i64 a0_13, .int .i64 a0_14, .int .i64 a0_15, .int .i64 a0_16, .int .i64 a0_17, .int .i64 a0_18, .int .i64 a0_19, .int .i64 a0_20, .int .i64 a0_21]) (t := 54) gz ?_; intro gb hg w0 hbox hb; have HB0 := am (below_step HB.out hb); have BK0 := am hbox; have z0 : w0.cell? ⟨gb, 0, none⟩ = some (.int .i64 a0_0) := (blk_cell hbox 0).trans rfl; have z1 : w0.cell? ⟨gb, 1, none⟩ = some (.int .i64 a0_1) := (blk_cell hbox 1).trans rfl; have z2 : w0.cell? ⟨gb, 2, none⟩ = some (.int .i64 a0_2) := (blk_cell hbox 2).trans rfl; have z3 : w0.cell? ⟨gb, 3, none⟩ = some (.int .i64 a0_3) := (blk_cell hbox 3).trans rfl; clear hb hbox hg HB) | (go_at_call 66; (with_reducible refine (posture_on.calls a0_0 a0_1 true _ H1.out).mono ?_); rintro e w1 ⟨rfl, hb⟩; replace z0 := cb hb z0; replace z1 := cb hb z1; replace z2 := cb hb z2; replace z3 := cb hb z3; have BK1 := am (blk_below BK0.out hb); clear BK0; have HB1 := am (below_step (by repeat (first | exact HB0.out | apply below_alloc)) hb); clear hb HB0) | ((with_reducible refine gate_dst (N := 31) rfl ?_); refine wpList_load_mid ?h0 52 (.tmp 30) ?ho gb 4 ?hx [.int .i64 a0_4, .int .i64 a0_5, .int .i64 a0_6, .int .i64 a0_7, .int .i64 a0_8, .int .i64 a0_9, .int .i64 a0_10, .int .i64 a0_11, .int .i64 a0_12, .int .i64 a0_13, .int .i64 a0_14, .int .i64 a0_15, .int .i64 a0_16, .int .i64 a0_17, .int .i64 a0_18, .int .i64 a0_19, .int .i64 a0_20, .int .i64 a0_21] _ (range_of_block BK1.out 4 18 _ rfl) Try.underlying52 ?hd ?hi ?_; (case h0 => rfl); (case ho => rfl); (case hx => rfl); (case hd => rfl); (case hi => rfl)))
  refine wp_loop_rounds 7 ?_
  rw [rounds_succ]
  go_wp2_with (go_at_call 67; (with_reducible refine (aim_Check.calls k 0 a0_4 a0_5 a0_6 0 _ G0.out).mono ?_); rintro e w2 ⟨rfl, hb⟩; have HB2 := am (below_step (by repeat (first | exact HB1.out | apply below_alloc)) hb); clear hb HB1)
  rw [rounds_succ]
  go_wp2_with (go_at_call 67; (with_reducible refine (aim_Check.calls k 1 a0_7 a0_8 a0_9 0 _ G1.out).mono ?_); rintro e w3 ⟨rfl, hb⟩; have HB3 := am (below_step (by repeat (first | exact HB2.out | apply below_alloc)) hb); clear hb HB2)
  rw [rounds_succ]
  go_wp2_with (go_at_call 67; (with_reducible refine (aim_Check.calls k 2 a0_10 a0_11 a0_12 0 _ G2.out).mono ?_); rintro e w4 ⟨rfl, hb⟩; have HB4 := am (below_step (by repeat (first | exact HB3.out | apply below_alloc)) hb); clear hb HB3)
  rw [rounds_succ]
  go_wp2_with (go_at_call 67; (with_reducible refine (aim_Check.calls k 3 a0_13 a0_14 a0_15 0 _ G3.out).mono ?_); rintro e w5 ⟨rfl, hb⟩; have HB5 := am (below_step (by repeat (first | exact HB4.out | apply below_alloc)) hb); clear hb HB4)
  rw [rounds_succ]
  go_wp2_with (go_at_call 67; (with_reducible refine (aim_Check.calls k 4 a0_16 a0_17 a0_18 e4 _ G4.out).mono ?_); rintro e w6 ⟨rfl, hb⟩; have HB6 := am (below_step (by repeat (first | exact HB5.out | apply below_alloc)) hb); clear hb HB5)
  go_ret
  exact ⟨by first | rfl | simp, HB6.out⟩
set_option maxHeartbeats 8000000 in
set_option maxRecDepth 100000 in
theorem posture_Valid.leaf8 (a0_0 a0_1 a0_2 a0_3 a0_4 a0_5 a0_6 a0_7 a0_8 a0_9 a0_10 a0_11 a0_12 a0_13 a0_14 a0_15 a0_16 a0_17 a0_18 a0_19 a0_20 a0_21 : Int) (k : Nat) {e3 : Int} (w : World) (H1 : Aside0 (posture_on.f a0_0 a0_1 = some true)) (b0 : decide (a0_2 < 0) = false) (b1 : decide (255 < a0_2) = false) (b2 : decide (a0_3 < (-8)) = false) (b3 : decide (8 < a0_3) = false) (G0 : Aside0 (aim_Check.f k 0 a0_4 a0_5 a0_6 = some 0)) (G1 : Aside0 (aim_Check.f k 1 a0_7 a0_8 a0_9 = some 0)) (G2 : Aside0 (aim_Check.f k 2 a0_10 a0_11 a0_12 = some 0)) (G3 : Aside0 (aim_Check.f k 3 a0_13 a0_14 a0_15 = some e3)) (x3 : (e3 == 0) = false) (y3 : (e3 != 0) = true) :
  Calls Try.prog 49 #[.agg #[.int .i64 a0_0, .int .i64 a0_1, .int .i64 a0_2, .int .i64 a0_3, .int .i64 a0_4, .int .i64 a0_5, .int .i64 a0_6, .int .i64 a0_7, .int .i64 a0_8, .int .i64 a0_9, .int .i64 a0_10, .int .i64 a0_11, .int .i64 a0_12, .int .i64 a0_13, .int .i64 a0_14, .int .i64 a0_15, .int .i64 a0_16, .int .i64 a0_17, .int .i64 a0_18, .int .i64 a0_19, .int .i64 a0_20, .int .i64 a0_21]] w fun e w' => e = .returned (.int .i64 e3) ∧ Below w.heap.size w w' := by
  have hu1 := Try.underlying54
  have hu2 := Try.underlying51
  have hu3 := Try.underlying49
  have HB := am (Below.refl w.heap.size w)
  have ix0 := posture_Valid.ix0 a0_4 a0_5 a0_6 a0_7 a0_8 a0_9 a0_10 a0_11 a0_12 a0_13 a0_14 a0_15 a0_16 a0_17 a0_18 a0_19 a0_20 a0_21
  have ix1 := posture_Valid.ix1 a0_4 a0_5 a0_6 a0_7 a0_8 a0_9 a0_10 a0_11 a0_12 a0_13 a0_14 a0_15 a0_16 a0_17 a0_18 a0_19 a0_20 a0_21
  have ix2 := posture_Valid.ix2 a0_4 a0_5 a0_6 a0_7 a0_8 a0_9 a0_10 a0_11 a0_12 a0_13 a0_14 a0_15 a0_16 a0_17 a0_18 a0_19 a0_20 a0_21
  have ix3 := posture_Valid.ix3 a0_4 a0_5 a0_6 a0_7 a0_8 a0_9 a0_10 a0_11 a0_12 a0_13 a0_14 a0_15 a0_16 a0_17 a0_18 a0_19 a0_20 a0_21
  go_enter Try.func49, Try.ntmps49
  go_wp2_with (first | ((with_reducible refine gate_dst (N := 1) rfl ?_); refine box_event yz (N := 1) yz (cs := #[.int .i64 a0_0, .int .i64 a0_1, .int .i64 a0_2, .int .i64 a0_3, .int .i64 a0_4, .int .i64 a0_5, .int .i64 a0_6, .int .i64 a0_7, .int .i64 a0_8, .int .i64 a0_9, .int .i64 a0_10, .int .i64 a0_11, .int .i64 a0_12, .int .i64 a0_13, .int .i64 a0_14, .int .i64 a0_15, .int .i64 a0_16, .int .i64 a0_17, .int .i64 a0_18, .int .i64 a0_19, .int .i64 a0_20, .int .i64 a0_21]) (t := 54) gz ?_; intro gb hg w0 hbox hb; have HB0 := am (below_step HB.out hb); have BK0 := am hbox; have z0 : w0.cell? ⟨gb, 0, none⟩ = some (.int .i64 a0_0) := (blk_cell hbox 0).trans rfl; have z1 : w0.cell? ⟨gb, 1, none⟩ = some (.int .i64 a0_1) := (blk_cell hbox 1).trans rfl; have z2 : w0.cell? ⟨gb, 2, none⟩ = some (.int .i64 a0_2) := (blk_cell hbox 2).trans rfl; have z3 : w0.cell? ⟨gb, 3, none⟩ = some (.int .i64 a0_3) := (blk_cell hbox 3).trans rfl; clear hb hbox hg HB) | (go_at_call 66; (with_reducible refine (posture_on.calls a0_0 a0_1 true _ H1.out).mono ?_); rintro e w1 ⟨rfl, hb⟩; replace z0 := cb hb z0; replace z1 := cb hb z1; replace z2 := cb hb z2; replace z3 := cb hb z3; have BK1 := am (blk_below BK0.out hb); clear BK0; have HB1 := am (below_step (by repeat (first | exact HB0.out | apply below_alloc)) hb); clear hb HB0) | ((with_reducible refine gate_dst (N := 31) rfl ?_); refine wpList_load_mid ?h0 52 (.tmp 30) ?ho gb 4 ?hx [.int .i64 a0_4, .int .i64 a0_5, .int .i64 a0_6, .int .i64 a0_7, .int .i64 a0_8, .int .i64 a0_9, .int .i64 a0_10, .int .i64 a0_11, .int .i64 a0_12, .int .i64 a0_13, .int .i64 a0_14, .int .i64 a0_15, .int .i64 a0_16, .int .i64 a0_17, .int .i64 a0_18, .int .i64 a0_19, .int .i64 a0_20, .int .i64 a0_21] _ (range_of_block BK1.out 4 18 _ rfl) Try.underlying52 ?hd ?hi ?_; (case h0 => rfl); (case ho => rfl); (case hx => rfl); (case hd => rfl); (case hi => rfl)))
  refine wp_loop_rounds 7 ?_
  rw [rounds_succ]
  go_wp2_with (go_at_call 67; (with_reducible refine (aim_Check.calls k 0 a0_4 a0_5 a0_6 0 _ G0.out).mono ?_); rintro e w2 ⟨rfl, hb⟩; have HB2 := am (below_step (by repeat (first | exact HB1.out | apply below_alloc)) hb); clear hb HB1)
  rw [rounds_succ]
  go_wp2_with (go_at_call 67; (with_reducible refine (aim_Check.calls k 1 a0_7 a0_8 a0_9 0 _ G1.out).mono ?_); rintro e w3 ⟨rfl, hb⟩; have HB3 := am (below_step (by repeat (first | exact HB2.out | apply below_alloc)) hb); clear hb HB2)
  rw [rounds_succ]
  go_wp2_with (go_at_call 67; (with_reducible refine (aim_Check.calls k 2 a0_10 a0_11 a0_12 0 _ G2.out).mono ?_); rintro e w4 ⟨rfl, hb⟩; have HB4 := am (below_step (by repeat (first | exact HB3.out | apply below_alloc)) hb); clear hb HB3)
  rw [rounds_succ]
  go_wp2_with (go_at_call 67; (with_reducible refine (aim_Check.calls k 3 a0_13 a0_14 a0_15 e3 _ G3.out).mono ?_); rintro e w5 ⟨rfl, hb⟩; have HB5 := am (below_step (by repeat (first | exact HB4.out | apply below_alloc)) hb); clear hb HB4)
  go_ret
  exact ⟨by first | rfl | simp, HB5.out⟩
set_option maxHeartbeats 8000000 in
set_option maxRecDepth 100000 in
theorem posture_Valid.leaf9 (a0_0 a0_1 a0_2 a0_3 a0_4 a0_5 a0_6 a0_7 a0_8 a0_9 a0_10 a0_11 a0_12 a0_13 a0_14 a0_15 a0_16 a0_17 a0_18 a0_19 a0_20 a0_21 : Int) (k : Nat) {e2 : Int} (w : World) (H1 : Aside0 (posture_on.f a0_0 a0_1 = some true)) (b0 : decide (a0_2 < 0) = false) (b1 : decide (255 < a0_2) = false) (b2 : decide (a0_3 < (-8)) = false) (b3 : decide (8 < a0_3) = false) (G0 : Aside0 (aim_Check.f k 0 a0_4 a0_5 a0_6 = some 0)) (G1 : Aside0 (aim_Check.f k 1 a0_7 a0_8 a0_9 = some 0)) (G2 : Aside0 (aim_Check.f k 2 a0_10 a0_11 a0_12 = some e2)) (x2 : (e2 == 0) = false) (y2 : (e2 != 0) = true) :
  Calls Try.prog 49 #[.agg #[.int .i64 a0_0, .int .i64 a0_1, .int .i64 a0_2, .int .i64 a0_3, .int .i64 a0_4, .int .i64 a0_5, .int .i64 a0_6, .int .i64 a0_7, .int .i64 a0_8, .int .i64 a0_9, .int .i64 a0_10, .int .i64 a0_11, .int .i64 a0_12, .int .i64 a0_13, .int .i64 a0_14, .int .i64 a0_15, .int .i64 a0_16, .int .i64 a0_17, .int .i64 a0_18, .int .i64 a0_19, .int .i64 a0_20, .int .i64 a0_21]] w fun e w' => e = .returned (.int .i64 e2) ∧ Below w.heap.size w w' := by
  have hu1 := Try.underlying54
  have hu2 := Try.underlying51
  have hu3 := Try.underlying49
  have HB := am (Below.refl w.heap.size w)
  have ix0 := posture_Valid.ix0 a0_4 a0_5 a0_6 a0_7 a0_8 a0_9 a0_10 a0_11 a0_12 a0_13 a0_14 a0_15 a0_16 a0_17 a0_18 a0_19 a0_20 a0_21
  have ix1 := posture_Valid.ix1 a0_4 a0_5 a0_6 a0_7 a0_8 a0_9 a0_10 a0_11 a0_12 a0_13 a0_14 a0_15 a0_16 a0_17 a0_18 a0_19 a0_20 a0_21
  have ix2 := posture_Valid.ix2 a0_4 a0_5 a0_6 a0_7 a0_8 a0_9 a0_10 a0_11 a0_12 a0_13 a0_14 a0_15 a0_16 a0_17 a0_18 a0_19 a0_20 a0_21
  go_enter Try.func49, Try.ntmps49
  go_wp2_with (first | ((with_reducible refine gate_dst (N := 1) rfl ?_); refine box_event yz (N := 1) yz (cs := #[.int .i64 a0_0, .int .i64 a0_1, .int .i64 a0_2, .int .i64 a0_3, .int .i64 a0_4, .int .i64 a0_5, .int .i64 a0_6, .int .i64 a0_7, .int .i64 a0_8, .int .i64 a0_9, .int .i64 a0_10, .int .i64 a0_11, .int .i64 a0_12, .int .i64 a0_13, .int .i64 a0_14, .int .i64 a0_15, .int .i64 a0_16, .int .i64 a0_17, .int .i64 a0_18, .int .i64 a0_19, .int .i64 a0_20, .int .i64 a0_21]) (t := 54) gz ?_; intro gb hg w0 hbox hb; have HB0 := am (below_step HB.out hb); have BK0 := am hbox; have z0 : w0.cell? ⟨gb, 0, none⟩ = some (.int .i64 a0_0) := (blk_cell hbox 0).trans rfl; have z1 : w0.cell? ⟨gb, 1, none⟩ = some (.int .i64 a0_1) := (blk_cell hbox 1).trans rfl; have z2 : w0.cell? ⟨gb, 2, none⟩ = some (.int .i64 a0_2) := (blk_cell hbox 2).trans rfl; have z3 : w0.cell? ⟨gb, 3, none⟩ = some (.int .i64 a0_3) := (blk_cell hbox 3).trans rfl; clear hb hbox hg HB) | (go_at_call 66; (with_reducible refine (posture_on.calls a0_0 a0_1 true _ H1.out).mono ?_); rintro e w1 ⟨rfl, hb⟩; replace z0 := cb hb z0; replace z1 := cb hb z1; replace z2 := cb hb z2; replace z3 := cb hb z3; have BK1 := am (blk_below BK0.out hb); clear BK0; have HB1 := am (below_step (by repeat (first | exact HB0.out | apply below_alloc)) hb); clear hb HB0) | ((with_reducible refine gate_dst (N := 31) rfl ?_); refine wpList_load_mid ?h0 52 (.tmp 30) ?ho gb 4 ?hx [.int .i64 a0_4, .int .i64 a0_5, .int .i64 a0_6, .int .i64 a0_7, .int .i64 a0_8, .int .i64 a0_9, .int .i64 a0_10, .int .i64 a0_11, .int .i64 a0_12, .int .i64 a0_13, .int .i64 a0_14, .int .i64 a0_15, .int .i64 a0_16, .int .i64 a0_17, .int .i64 a0_18, .int .i64 a0_19, .int .i64 a0_20, .int .i64 a0_21] _ (range_of_block BK1.out 4 18 _ rfl) Try.underlying52 ?hd ?hi ?_; (case h0 => rfl); (case ho => rfl); (case hx => rfl); (case hd => rfl); (case hi => rfl)))
  refine wp_loop_rounds 7 ?_
  rw [rounds_succ]
  go_wp2_with (go_at_call 67; (with_reducible refine (aim_Check.calls k 0 a0_4 a0_5 a0_6 0 _ G0.out).mono ?_); rintro e w2 ⟨rfl, hb⟩; have HB2 := am (below_step (by repeat (first | exact HB1.out | apply below_alloc)) hb); clear hb HB1)
  rw [rounds_succ]
  go_wp2_with (go_at_call 67; (with_reducible refine (aim_Check.calls k 1 a0_7 a0_8 a0_9 0 _ G1.out).mono ?_); rintro e w3 ⟨rfl, hb⟩; have HB3 := am (below_step (by repeat (first | exact HB2.out | apply below_alloc)) hb); clear hb HB2)
  rw [rounds_succ]
  go_wp2_with (go_at_call 67; (with_reducible refine (aim_Check.calls k 2 a0_10 a0_11 a0_12 e2 _ G2.out).mono ?_); rintro e w4 ⟨rfl, hb⟩; have HB4 := am (below_step (by repeat (first | exact HB3.out | apply below_alloc)) hb); clear hb HB3)
  go_ret
  exact ⟨by first | rfl | simp, HB4.out⟩
set_option maxHeartbeats 8000000 in
set_option maxRecDepth 100000 in
theorem posture_Valid.leaf10 (a0_0 a0_1 a0_2 a0_3 a0_4 a0_5 a0_6 a0_7 a0_8 a0_9 a0_10 a0_11 a0_12 a0_13 a0_14 a0_15 a0_16 a0_17 a0_18 a0_19 a0_20 a0_21 : Int) (k : Nat) {e1 : Int} (w : World) (H1 : Aside0 (posture_on.f a0_0 a0_1 = some true)) (b0 : decide (a0_2 < 0) = false) (b1 : decide (255 < a0_2) = false) (b2 : decide (a0_3 < (-8)) = false) (b3 : decide (8 < a0_3) = false) (G0 : Aside0 (aim_Check.f k 0 a0_4 a0_5 a0_6 = some 0)) (G1 : Aside0 (aim_Check.f k 1 a0_7 a0_8 a0_9 = some e1)) (x1 : (e1 == 0) = false) (y1 : (e1 != 0) = true) :
  Calls Try.prog 49 #[.agg #[.int .i64 a0_0, .int .i64 a0_1, .int .i64 a0_2, .int .i64 a0_3, .int .i64 a0_4, .int .i64 a0_5, .int .i64 a0_6, .int .i64 a0_7, .int .i64 a0_8, .int .i64 a0_9, .int .i64 a0_10, .int .i64 a0_11, .int .i64 a0_12, .int .i64 a0_13, .int .i64 a0_14, .int .i64 a0_15, .int .i64 a0_16, .int .i64 a0_17, .int .i64 a0_18, .int .i64 a0_19, .int .i64 a0_20, .int .i64 a0_21]] w fun e w' => e = .returned (.int .i64 e1) ∧ Below w.heap.size w w' := by
  have hu1 := Try.underlying54
  have hu2 := Try.underlying51
  have hu3 := Try.underlying49
  have HB := am (Below.refl w.heap.size w)
  have ix0 := posture_Valid.ix0 a0_4 a0_5 a0_6 a0_7 a0_8 a0_9 a0_10 a0_11 a0_12 a0_13 a0_14 a0_15 a0_16 a0_17 a0_18 a0_19 a0_20 a0_21
  have ix1 := posture_Valid.ix1 a0_4 a0_5 a0_6 a0_7 a0_8 a0_9 a0_10 a0_11 a0_12 a0_13 a0_14 a0_15 a0_16 a0_17 a0_18 a0_19 a0_20 a0_21
  go_enter Try.func49, Try.ntmps49
  go_wp2_with (first | ((with_reducible refine gate_dst (N := 1) rfl ?_); refine box_event yz (N := 1) yz (cs := #[.int .i64 a0_0, .int .i64 a0_1, .int .i64 a0_2, .int .i64 a0_3, .int .i64 a0_4, .int .i64 a0_5, .int .i64 a0_6, .int .i64 a0_7, .int .i64 a0_8, .int .i64 a0_9, .int .i64 a0_10, .int .i64 a0_11, .int .i64 a0_12, .int .i64 a0_13, .int .i64 a0_14, .int .i64 a0_15, .int .i64 a0_16, .int .i64 a0_17, .int .i64 a0_18, .int .i64 a0_19, .int .i64 a0_20, .int .i64 a0_21]) (t := 54) gz ?_; intro gb hg w0 hbox hb; have HB0 := am (below_step HB.out hb); have BK0 := am hbox; have z0 : w0.cell? ⟨gb, 0, none⟩ = some (.int .i64 a0_0) := (blk_cell hbox 0).trans rfl; have z1 : w0.cell? ⟨gb, 1, none⟩ = some (.int .i64 a0_1) := (blk_cell hbox 1).trans rfl; have z2 : w0.cell? ⟨gb, 2, none⟩ = some (.int .i64 a0_2) := (blk_cell hbox 2).trans rfl; have z3 : w0.cell? ⟨gb, 3, none⟩ = some (.int .i64 a0_3) := (blk_cell hbox 3).trans rfl; clear hb hbox hg HB) | (go_at_call 66; (with_reducible refine (posture_on.calls a0_0 a0_1 true _ H1.out).mono ?_); rintro e w1 ⟨rfl, hb⟩; replace z0 := cb hb z0; replace z1 := cb hb z1; replace z2 := cb hb z2; replace z3 := cb hb z3; have BK1 := am (blk_below BK0.out hb); clear BK0; have HB1 := am (below_step (by repeat (first | exact HB0.out | apply below_alloc)) hb); clear hb HB0) | ((with_reducible refine gate_dst (N := 31) rfl ?_); refine wpList_load_mid ?h0 52 (.tmp 30) ?ho gb 4 ?hx [.int .i64 a0_4, .int .i64 a0_5, .int .i64 a0_6, .int .i64 a0_7, .int .i64 a0_8, .int .i64 a0_9, .int .i64 a0_10, .int .i64 a0_11, .int .i64 a0_12, .int .i64 a0_13, .int .i64 a0_14, .int .i64 a0_15, .int .i64 a0_16, .int .i64 a0_17, .int .i64 a0_18, .int .i64 a0_19, .int .i64 a0_20, .int .i64 a0_21] _ (range_of_block BK1.out 4 18 _ rfl) Try.underlying52 ?hd ?hi ?_; (case h0 => rfl); (case ho => rfl); (case hx => rfl); (case hd => rfl); (case hi => rfl)))
  refine wp_loop_rounds 7 ?_
  rw [rounds_succ]
  go_wp2_with (go_at_call 67; (with_reducible refine (aim_Check.calls k 0 a0_4 a0_5 a0_6 0 _ G0.out).mono ?_); rintro e w2 ⟨rfl, hb⟩; have HB2 := am (below_step (by repeat (first | exact HB1.out | apply below_alloc)) hb); clear hb HB1)
  rw [rounds_succ]
  go_wp2_with (go_at_call 67; (with_reducible refine (aim_Check.calls k 1 a0_7 a0_8 a0_9 e1 _ G1.out).mono ?_); rintro e w3 ⟨rfl, hb⟩; have HB3 := am (below_step (by repeat (first | exact HB2.out | apply below_alloc)) hb); clear hb HB2)
  go_ret
  exact ⟨by first | rfl | simp, HB3.out⟩
set_option maxHeartbeats 8000000 in
set_option maxRecDepth 100000 in
theorem posture_Valid.leaf11 (a0_0 a0_1 a0_2 a0_3 a0_4 a0_5 a0_6 a0_7 a0_8 a0_9 a0_10 a0_11 a0_12 a0_13 a0_14 a0_15 a0_16 a0_17 a0_18 a0_19 a0_20 a0_21 : Int) (k : Nat) {e0 : Int} (w : World) (H1 : Aside0 (posture_on.f a0_0 a0_1 = some true)) (b0 : decide (a0_2 < 0) = false) (b1 : decide (255 < a0_2) = false) (b2 : decide (a0_3 < (-8)) = false) (b3 : decide (8 < a0_3) = false) (G0 : Aside0 (aim_Check.f k 0 a0_4 a0_5 a0_6 = some e0)) (x0 : (e0 == 0) = false) (y0 : (e0 != 0) = true) :
  Calls Try.prog 49 #[.agg #[.int .i64 a0_0, .int .i64 a0_1, .int .i64 a0_2, .int .i64 a0_3, .int .i64 a0_4, .int .i64 a0_5, .int .i64 a0_6, .int .i64 a0_7, .int .i64 a0_8, .int .i64 a0_9, .int .i64 a0_10, .int .i64 a0_11, .int .i64 a0_12, .int .i64 a0_13, .int .i64 a0_14, .int .i64 a0_15, .int .i64 a0_16, .int .i64 a0_17, .int .i64 a0_18, .int .i64 a0_19, .int .i64 a0_20, .int .i64 a0_21]] w fun e w' => e = .returned (.int .i64 e0) ∧ Below w.heap.size w w' := by
  have hu1 := Try.underlying54
  have hu2 := Try.underlying51
  have hu3 := Try.underlying49
  have HB := am (Below.refl w.heap.size w)
  have ix0 := posture_Valid.ix0 a0_4 a0_5 a0_6 a0_7 a0_8 a0_9 a0_10 a0_11 a0_12 a0_13 a0_14 a0_15 a0_16 a0_17 a0_18 a0_19 a0_20 a0_21
  go_enter Try.func49, Try.ntmps49
  go_wp2_with (first | ((with_reducible refine gate_dst (N := 1) rfl ?_); refine box_event yz (N := 1) yz (cs := #[.int .i64 a0_0, .int .i64 a0_1, .int .i64 a0_2, .int .i64 a0_3, .int .i64 a0_4, .int .i64 a0_5, .int .i64 a0_6, .int .i64 a0_7, .int .i64 a0_8, .int .i64 a0_9, .int .i64 a0_10, .int .i64 a0_11, .int .i64 a0_12, .int .i64 a0_13, .int .i64 a0_14, .int .i64 a0_15, .int .i64 a0_16, .int .i64 a0_17, .int .i64 a0_18, .int .i64 a0_19, .int .i64 a0_20, .int .i64 a0_21]) (t := 54) gz ?_; intro gb hg w0 hbox hb; have HB0 := am (below_step HB.out hb); have BK0 := am hbox; have z0 : w0.cell? ⟨gb, 0, none⟩ = some (.int .i64 a0_0) := (blk_cell hbox 0).trans rfl; have z1 : w0.cell? ⟨gb, 1, none⟩ = some (.int .i64 a0_1) := (blk_cell hbox 1).trans rfl; have z2 : w0.cell? ⟨gb, 2, none⟩ = some (.int .i64 a0_2) := (blk_cell hbox 2).trans rfl; have z3 : w0.cell? ⟨gb, 3, none⟩ = some (.int .i64 a0_3) := (blk_cell hbox 3).trans rfl; clear hb hbox hg HB) | (go_at_call 66; (with_reducible refine (posture_on.calls a0_0 a0_1 true _ H1.out).mono ?_); rintro e w1 ⟨rfl, hb⟩; replace z0 := cb hb z0; replace z1 := cb hb z1; replace z2 := cb hb z2; replace z3 := cb hb z3; have BK1 := am (blk_below BK0.out hb); clear BK0; have HB1 := am (below_step (by repeat (first | exact HB0.out | apply below_alloc)) hb); clear hb HB0) | ((with_reducible refine gate_dst (N := 31) rfl ?_); refine wpList_load_mid ?h0 52 (.tmp 30) ?ho gb 4 ?hx [.int .i64 a0_4, .int .i64 a0_5, .int .i64 a0_6, .int .i64 a0_7, .int .i64 a0_8, .int .i64 a0_9, .int .i64 a0_10, .int .i64 a0_11, .int .i64 a0_12, .int .i64 a0_13, .int .i64 a0_14, .int .i64 a0_15, .int .i64 a0_16, .int .i64 a0_17, .int .i64 a0_18, .int .i64 a0_19, .int .i64 a0_20, .int .i64 a0_21] _ (range_of_block BK1.out 4 18 _ rfl) Try.underlying52 ?hd ?hi ?_; (case h0 => rfl); (case ho => rfl); (case hx => rfl); (case hd => rfl); (case hi => rfl)))
  refine wp_loop_rounds 7 ?_
  rw [rounds_succ]
  go_wp2_with (go_at_call 67; (with_reducible refine (aim_Check.calls k 0 a0_4 a0_5 a0_6 e0 _ G0.out).mono ?_); rintro e w2 ⟨rfl, hb⟩; have HB2 := am (below_step (by repeat (first | exact HB1.out | apply below_alloc)) hb); clear hb HB1)
  go_ret
  exact ⟨by first | rfl | simp, HB2.out⟩
set_option maxHeartbeats 8000000 in
set_option maxRecDepth 100000 in
theorem posture_Valid.calls (k : Nat) (a0_0 a0_1 a0_2 a0_3 a0_4 a0_5 a0_6 a0_7 a0_8 a0_9 a0_10 a0_11 a0_12 a0_13 a0_14 a0_15 a0_16 a0_17 a0_18 a0_19 a0_20 a0_21 r : Int) (w : World) (h : posture_Valid.f k a0_0 a0_1 a0_2 a0_3 a0_4 a0_5 a0_6 a0_7 a0_8 a0_9 a0_10 a0_11 a0_12 a0_13 a0_14 a0_15 a0_16 a0_17 a0_18 a0_19 a0_20 a0_21 = some r) :
  Calls Try.prog 49 #[.agg #[.int .i64 a0_0, .int .i64 a0_1, .int .i64 a0_2, .int .i64 a0_3, .int .i64 a0_4, .int .i64 a0_5, .int .i64 a0_6, .int .i64 a0_7, .int .i64 a0_8, .int .i64 a0_9, .int .i64 a0_10, .int .i64 a0_11, .int .i64 a0_12, .int .i64 a0_13, .int .i64 a0_14, .int .i64 a0_15, .int .i64 a0_16, .int .i64 a0_17, .int .i64 a0_18, .int .i64 a0_19, .int .i64 a0_20, .int .i64 a0_21]] w fun e w' => e = .returned (.int .i64 r) ∧ Below w.heap.size w w' := by
  have hu1 := Try.underlying54
  have hu2 := Try.underlying51
  have hu3 := Try.underlying49
  have HB := am (Below.refl w.heap.size w)
  unfold posture_Valid.f at h
  cases h1 : posture_on.f a0_0 a0_1 with
  | none => rw [h1] at h; exact absurd h (by simp)
  | some t1 =>
    rw [h1, Option.bind_some] at h
    have H1 := am h1
    clear h1
    cases t1 with
    | false =>
      rw [if_neg (by simp)] at h
      obtain rfl := Option.some.inj h
      clear h
      exact posture_Valid.leaf0 a0_0 a0_1 a0_2 a0_3 a0_4 a0_5 a0_6 a0_7 a0_8 a0_9 a0_10 a0_11 a0_12 a0_13 a0_14 a0_15 a0_16 a0_17 a0_18 a0_19 a0_20 a0_21 k w H1
    | true =>
      rw [if_pos rfl] at h
      by_cases c0 : a0_2 < 0
      ·
        rw [if_pos c0] at h
        obtain rfl := Option.some.inj h
        have b0 : decide (a0_2 < 0) = true := decide_eq_true c0
        clear h c0
        exact posture_Valid.leaf1 a0_0 a0_1 a0_2 a0_3 a0_4 a0_5 a0_6 a0_7 a0_8 a0_9 a0_10 a0_11 a0_12 a0_13 a0_14 a0_15 a0_16 a0_17 a0_18 a0_19 a0_20 a0_21 k w H1 b0
      ·
        rw [if_neg c0] at h
        have b0 : decide (a0_2 < 0) = false := decide_eq_false c0
        clear c0
        by_cases c1 : a0_2 > 255
        ·
          rw [if_pos c1] at h
          obtain rfl := Option.some.inj h
          have b1 : decide (255 < a0_2) = true := decide_eq_true c1
          clear h c1
          exact posture_Valid.leaf2 a0_0 a0_1 a0_2 a0_3 a0_4 a0_5 a0_6 a0_7 a0_8 a0_9 a0_10 a0_11 a0_12 a0_13 a0_14 a0_15 a0_16 a0_17 a0_18 a0_19 a0_20 a0_21 k w H1 b0 b1
        ·
          rw [if_neg c1] at h
          have b1 : decide (255 < a0_2) = false := decide_eq_false c1
          clear c1
          by_cases c2 : a0_3 < (-8)
          ·
            rw [if_pos c2] at h
            obtain rfl := Option.some.inj h
            have b2 : decide (a0_3 < (-8)) = true := decide_eq_true c2
            clear h c2
            exact posture_Valid.leaf3 a0_0 a0_1 a0_2 a0_3 a0_4 a0_5 a0_6 a0_7 a0_8 a0_9 a0_10 a0_11 a0_12 a0_13 a0_14 a0_15 a0_16 a0_17 a0_18 a0_19 a0_20 a0_21 k w H1 b0 b1 b2
          ·
            rw [if_neg c2] at h
            have b2 : decide (a0_3 < (-8)) = false := decide_eq_false c2
            clear c2
            by_cases c3 : a0_3 > 8
            ·
              rw [if_pos c3] at h
              obtain rfl := Option.some.inj h
              have b3 : decide (8 < a0_3) = true := decide_eq_true c3
              clear h c3
              exact posture_Valid.leaf4 a0_0 a0_1 a0_2 a0_3 a0_4 a0_5 a0_6 a0_7 a0_8 a0_9 a0_10 a0_11 a0_12 a0_13 a0_14 a0_15 a0_16 a0_17 a0_18 a0_19 a0_20 a0_21 k w H1 b0 b1 b2 b3
            ·
              rw [if_neg c3] at h
              have b3 : decide (8 < a0_3) = false := decide_eq_false c3
              clear c3
              cases g0 : aim_Check.f k 0 a0_4 a0_5 a0_6 with
              | none => rw [g0] at h; exact absurd h (by simp)
              | some e0 =>
                rw [g0, Option.bind_some] at h
                have G0 := am g0
                clear g0
                by_cases d0 : e0 = 0
                ·
                  subst d0
                  rw [if_pos rfl] at h
                  cases g1 : aim_Check.f k 1 a0_7 a0_8 a0_9 with
                  | none => rw [g1] at h; exact absurd h (by simp)
                  | some e1 =>
                    rw [g1, Option.bind_some] at h
                    have G1 := am g1
                    clear g1
                    by_cases d1 : e1 = 0
                    ·
                      subst d1
                      rw [if_pos rfl] at h
                      cases g2 : aim_Check.f k 2 a0_10 a0_11 a0_12 with
                      | none => rw [g2] at h; exact absurd h (by simp)
                      | some e2 =>
                        rw [g2, Option.bind_some] at h
                        have G2 := am g2
                        clear g2
                        by_cases d2 : e2 = 0
                        ·
                          subst d2
                          rw [if_pos rfl] at h
                          cases g3 : aim_Check.f k 3 a0_13 a0_14 a0_15 with
                          | none => rw [g3] at h; exact absurd h (by simp)
                          | some e3 =>
                            rw [g3, Option.bind_some] at h
                            have G3 := am g3
                            clear g3
                            by_cases d3 : e3 = 0
                            ·
                              subst d3
                              rw [if_pos rfl] at h
                              cases g4 : aim_Check.f k 4 a0_16 a0_17 a0_18 with
                              | none => rw [g4] at h; exact absurd h (by simp)
                              | some e4 =>
                                rw [g4, Option.bind_some] at h
                                have G4 := am g4
                                clear g4
                                by_cases d4 : e4 = 0
                                ·
                                  subst d4
                                  rw [if_pos rfl] at h
                                  cases g5 : aim_Check.f k 5 a0_19 a0_20 a0_21 with
                                  | none => rw [g5] at h; exact absurd h (by simp)
                                  | some e5 =>
                                    rw [g5, Option.bind_some] at h
                                    have G5 := am g5
                                    clear g5
                                    by_cases d5 : e5 = 0
                                    ·
                                      subst d5
                                      rw [if_pos rfl] at h
                                      obtain rfl := Option.some.inj h
                                      clear h
                                      exact posture_Valid.leaf5 a0_0 a0_1 a0_2 a0_3 a0_4 a0_5 a0_6 a0_7 a0_8 a0_9 a0_10 a0_11 a0_12 a0_13 a0_14 a0_15 a0_16 a0_17 a0_18 a0_19 a0_20 a0_21 k w H1 b0 b1 b2 b3 G0 G1 G2 G3 G4 G5
                                    ·
                                      rw [if_neg d5] at h
                                      obtain rfl := Option.some.inj h
                                      have x5 : (e5 == 0) = false := beq_eq_false_iff_ne.mpr d5
                                      have y5 : (e5 != 0) = true := bne_iff_ne.mpr d5
                                      clear h d5
                                      exact posture_Valid.leaf6 a0_0 a0_1 a0_2 a0_3 a0_4 a0_5 a0_6 a0_7 a0_8 a0_9 a0_10 a0_11 a0_12 a0_13 a0_14 a0_15 a0_16 a0_17 a0_18 a0_19 a0_20 a0_21 k w H1 b0 b1 b2 b3 G0 G1 G2 G3 G4 G5 x5 y5
                                ·
                                  rw [if_neg d4] at h
                                  obtain rfl := Option.some.inj h
                                  have x4 : (e4 == 0) = false := beq_eq_false_iff_ne.mpr d4
                                  have y4 : (e4 != 0) = true := bne_iff_ne.mpr d4
                                  clear h d4
                                  exact posture_Valid.leaf7 a0_0 a0_1 a0_2 a0_3 a0_4 a0_5 a0_6 a0_7 a0_8 a0_9 a0_10 a0_11 a0_12 a0_13 a0_14 a0_15 a0_16 a0_17 a0_18 a0_19 a0_20 a0_21 k w H1 b0 b1 b2 b3 G0 G1 G2 G3 G4 x4 y4
                            ·
                              rw [if_neg d3] at h
                              obtain rfl := Option.some.inj h
                              have x3 : (e3 == 0) = false := beq_eq_false_iff_ne.mpr d3
                              have y3 : (e3 != 0) = true := bne_iff_ne.mpr d3
                              clear h d3
                              exact posture_Valid.leaf8 a0_0 a0_1 a0_2 a0_3 a0_4 a0_5 a0_6 a0_7 a0_8 a0_9 a0_10 a0_11 a0_12 a0_13 a0_14 a0_15 a0_16 a0_17 a0_18 a0_19 a0_20 a0_21 k w H1 b0 b1 b2 b3 G0 G1 G2 G3 x3 y3
                        ·
                          rw [if_neg d2] at h
                          obtain rfl := Option.some.inj h
                          have x2 : (e2 == 0) = false := beq_eq_false_iff_ne.mpr d2
                          have y2 : (e2 != 0) = true := bne_iff_ne.mpr d2
                          clear h d2
                          exact posture_Valid.leaf9 a0_0 a0_1 a0_2 a0_3 a0_4 a0_5 a0_6 a0_7 a0_8 a0_9 a0_10 a0_11 a0_12 a0_13 a0_14 a0_15 a0_16 a0_17 a0_18 a0_19 a0_20 a0_21 k w H1 b0 b1 b2 b3 G0 G1 G2 x2 y2
                    ·
                      rw [if_neg d1] at h
                      obtain rfl := Option.some.inj h
                      have x1 : (e1 == 0) = false := beq_eq_false_iff_ne.mpr d1
                      have y1 : (e1 != 0) = true := bne_iff_ne.mpr d1
                      clear h d1
                      exact posture_Valid.leaf10 a0_0 a0_1 a0_2 a0_3 a0_4 a0_5 a0_6 a0_7 a0_8 a0_9 a0_10 a0_11 a0_12 a0_13 a0_14 a0_15 a0_16 a0_17 a0_18 a0_19 a0_20 a0_21 k w H1 b0 b1 b2 b3 G0 G1 x1 y1
                ·
                  rw [if_neg d0] at h
                  obtain rfl := Option.some.inj h
                  have x0 : (e0 == 0) = false := beq_eq_false_iff_ne.mpr d0
                  have y0 : (e0 != 0) = true := bne_iff_ne.mpr d0
                  clear h d0
                  exact posture_Valid.leaf11 a0_0 a0_1 a0_2 a0_3 a0_4 a0_5 a0_6 a0_7 a0_8 a0_9 a0_10 a0_11 a0_12 a0_13 a0_14 a0_15 a0_16 a0_17 a0_18 a0_19 a0_20 a0_21 k w H1 b0 b1 b2 b3 G0 x0 y0

end Go.Proofs.Yteflngoiebgdaaa.X
