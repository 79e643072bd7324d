import Derived.Test.YteflngoiebgdaaaX0
namespace Go.Proofs.Yteflngoiebgdaaa.X
open Go.RowKit YteflngoiebgdaaaW.PrintWords YteflngoiebgdaaaW.PrintLast YteflngoiebgdaaaW.PrintMore
attribute [local go_sem] max2_int min2_int max_two min_two max_three min_three max_four min_four
set_option linter.unusedVariables false
set_option linter.unusedSimpArgs false

/-! ### dancestudioref01_wide: function 83 -/
def dancestudioref01_wide.f (a0 a1 : Int) : Option (Int × Int × Int) := some (wrap64 ((wrap64 ((wrap64 (Int.tdiv a0 67108864)) * (wrap64 (Int.tdiv a1 67108864)))) + (wrap64 (Int.tdiv (wrap64 ((wrap64 ((wrap64 ((wrap64 (Int.tdiv a0 67108864)) * (Int.tmod a1 67108864))) + (wrap64 ((Int.tmod a0 67108864) * (wrap64 (Int.tdiv a1 67108864)))))) + (wrap64 (Int.tdiv (wrap64 ((Int.tmod a0 67108864) * (Int.tmod a1 67108864))) 67108864)))) 67108864))), Int.tmod (wrap64 ((wrap64 ((wrap64 ((wrap64 (Int.tdiv a0 67108864)) * (Int.tmod a1 67108864))) + (wrap64 ((Int.tmod a0 67108864) * (wrap64 (Int.tdiv a1 67108864)))))) + (wrap64 (Int.tdiv (wrap64 ((Int.tmod a0 67108864) * (Int.tmod a1 67108864))) 67108864)))) 67108864, Int.tmod (wrap64 ((Int.tmod a0 67108864) * (Int.tmod a1 67108864))) 67108864)
set_option maxHeartbeats 8000000 in
set_option maxRecDepth 100000 in
theorem dancestudioref01_wide.calls (a0 a1 r1 r2 r3 : Int) (w : World) (h : dancestudioref01_wide.f a0 a1 = some (r1, r2, r3)) :
  Calls Try.prog 83 #[.int .i64 a0, .int .i64 a1] w fun e w' => e = .returned (.agg #[.int .i64 r1, .int .i64 r2, .int .i64 r3]) ∧ Below w.heap.size w w' := by
 have hu107 := Try.underlying107
 have HB := am (Below.refl w.heap.size w)
 have H : (some (wrap64 ((wrap64 ((wrap64 (Int.tdiv a0 67108864)) * (wrap64 (Int.tdiv a1 67108864)))) + (wrap64 (Int.tdiv (wrap64 ((wrap64 ((wrap64 ((wrap64 (Int.tdiv a0 67108864)) * (Int.tmod a1 67108864))) + (wrap64 ((Int.tmod a0 67108864) * (wrap64 (Int.tdiv a1 67108864)))))) + (wrap64 (Int.tdiv (wrap64 ((Int.tmod a0 67108864) * (Int.tmod a1 67108864))) 67108864)))) 67108864))), Int.tmod (wrap64 ((wrap64 ((wrap64 ((wrap64 (Int.tdiv a0 67108864)) * (Int.tmod a1 67108864))) + (wrap64 ((Int.tmod a0 67108864) * (wrap64 (Int.tdiv a1 67108864)))))) + (wrap64 (Int.tdiv (wrap64 ((Int.tmod a0 67108864) * (Int.tmod a1 67108864))) 67108864)))) 67108864, Int.tmod (wrap64 ((Int.tmod a0 67108864) * (Int.tmod a1 67108864))) 67108864)) = some (r1, r2, r3) := h
 clear h
 simp only [Option.some.injEq, Prod.mk.injEq] at H
 obtain ⟨rfl, rfl, rfl⟩ := H
 go_enter Try.func83, Try.ntmps83
 go_wp2_with (first | ((with_reducible refine gate_dst (N := 4) rfl ?_); refine box_event yz (N := 4) yz (cs := #[.int .i64 0, .int .i64 0, .int .i64 0]) (t := 107) gz ?_; intro gb450 hg w3 hbox hb; have BK450 := am (hbox); have GW450 := gwz (g := gb450) HB hg; have GE450 := GW450; replace HB := am (below_step bz hb); clear hb hbox hg; obtain ⟨hcz4_0, hcz4_1, hcz4_2, hfz4_0, hfz4_1, hfz4_2⟩ := kc3 BK450.out))
 refine bodyPost_ret (results_cell_row rfl _ _ gb450 107 #[.int .i64 (wrap64 ((wrap64 ((wrap64 (Int.tdiv a0 67108864)) * (wrap64 (Int.tdiv a1 67108864)))) + (wrap64 (Int.tdiv (wrap64 ((wrap64 ((wrap64 ((wrap64 (Int.tdiv a0 67108864)) * (Int.tmod a1 67108864))) + (wrap64 ((Int.tmod a0 67108864) * (wrap64 (Int.tdiv a1 67108864)))))) + (wrap64 (Int.tdiv (wrap64 ((Int.tmod a0 67108864) * (Int.tmod a1 67108864))) 67108864)))) 67108864)))), .int .i64 (Int.tmod (wrap64 ((wrap64 ((wrap64 ((wrap64 (Int.tdiv a0 67108864)) * (Int.tmod a1 67108864))) + (wrap64 ((Int.tmod a0 67108864) * (wrap64 (Int.tdiv a1 67108864)))))) + (wrap64 (Int.tdiv (wrap64 ((Int.tmod a0 67108864) * (Int.tmod a1 67108864))) 67108864)))) 67108864), .int .i64 (Int.tmod (wrap64 ((Int.tmod a0 67108864) * (Int.tmod a1 67108864))) 67108864)] (0, 0) _ rfl (by (with_reducible repeat first | apply kN | apply kD | apply kA); refine blk_put (cs := #[.int .i64 (wrap64 ((wrap64 ((wrap64 (Int.tdiv a0 67108864)) * (wrap64 (Int.tdiv a1 67108864)))) + (wrap64 (Int.tdiv (wrap64 ((wrap64 ((wrap64 ((wrap64 (Int.tdiv a0 67108864)) * (Int.tmod a1 67108864))) + (wrap64 ((Int.tmod a0 67108864) * (wrap64 (Int.tdiv a1 67108864)))))) + (wrap64 (Int.tdiv (wrap64 ((Int.tmod a0 67108864) * (Int.tmod a1 67108864))) 67108864)))) 67108864)))), .int .i64 (Int.tmod (wrap64 ((wrap64 ((wrap64 ((wrap64 (Int.tdiv a0 67108864)) * (Int.tmod a1 67108864))) + (wrap64 ((Int.tmod a0 67108864) * (wrap64 (Int.tdiv a1 67108864)))))) + (wrap64 (Int.tdiv (wrap64 ((Int.tmod a0 67108864) * (Int.tmod a1 67108864))) 67108864)))) 67108864), .int .i64 0]) ?_ 2 _ rfl; (with_reducible repeat first | apply kN | apply kD | apply kA); refine blk_put (cs := #[.int .i64 (wrap64 ((wrap64 ((wrap64 (Int.tdiv a0 67108864)) * (wrap64 (Int.tdiv a1 67108864)))) + (wrap64 (Int.tdiv (wrap64 ((wrap64 ((wrap64 ((wrap64 (Int.tdiv a0 67108864)) * (Int.tmod a1 67108864))) + (wrap64 ((Int.tmod a0 67108864) * (wrap64 (Int.tdiv a1 67108864)))))) + (wrap64 (Int.tdiv (wrap64 ((Int.tmod a0 67108864) * (Int.tmod a1 67108864))) 67108864)))) 67108864)))), .int .i64 0, .int .i64 0]) ?_ 1 _ rfl; (with_reducible repeat first | apply kN | apply kD | apply kA); refine blk_put (cs := #[.int .i64 0, .int .i64 0, .int .i64 0]) ?_ 0 _ rfl; (with_reducible repeat first | apply kN | apply kD | apply kA); exact BK450.out) Try.underlying107 rfl qz) rfl ?_
 exact ⟨ez, bz⟩

end Go.Proofs.Yteflngoiebgdaaa.X

namespace Go.Proofs.Yteflngoiebgdaaa.X
open Go.RowKit YteflngoiebgdaaaW.PrintWords YteflngoiebgdaaaW.PrintLast YteflngoiebgdaaaW.PrintMore
attribute [local go_sem] max2_int min2_int max_two min_two max_three min_three max_four min_four
set_option linter.unusedVariables false
set_option linter.unusedSimpArgs false

/-! ### dancestudioref01_size: function 84 -/
def dancestudioref01_size.f (a0 : Int) : Option (Int) := if a0 < 0 then (some (wrap64 (-a0))) else (some a0)
set_option maxHeartbeats 8000000 in
set_option maxRecDepth 100000 in
theorem dancestudioref01_size.calls (a0 r : Int) (w : World) (h : dancestudioref01_size.f a0 = some r) :
  Calls Try.prog 84 #[.int .i64 a0] w fun e w' => e = .returned (.int .i64 r) ∧ Drawn0 w w' := by
 have H : (if a0 < 0 then (some (wrap64 (-a0))) else (some a0)) = some r := h
 clear h
 by_cases c2 : a0 < 0
 ·
  rw [if_pos c2] at H
  have c2b0 := decide_eq_true c2
  clear c2
  obtain rfl := Option.some.inj H
  go_enter Try.func84, Try.ntmps84
  go_wp2
  go_ret
  exact ⟨by first | rfl | (simp; done) | (simp [*]; done), by repeat (first | exact Drawn0.refl _ | apply Drawn0.step)⟩
 ·
  rw [if_neg c2] at H
  have c2b0 := decide_eq_false c2
  clear c2
  obtain rfl := Option.some.inj H
  go_enter Try.func84, Try.ntmps84
  go_wp2
  go_ret
  exact ⟨by first | rfl | (simp; done) | (simp [*]; done), by repeat (first | exact Drawn0.refl _ | apply Drawn0.step)⟩

end Go.Proofs.Yteflngoiebgdaaa.X
