import Derived.Test.YteflngoiebgdaaaX0
namespace Go.Proofs.Yteflngoiebgdaaa.X
open Go.RowKit YteflngoiebgdaaaW.PrintWords YteflngoiebgdaaaW.PrintLast YteflngoiebgdaaaW.PrintMore
attribute [local go_sem] max2_int min2_int max_two min_two max_three min_three max_four min_four
set_option linter.unusedVariables false
set_option linter.unusedSimpArgs false

/-! ### geom_dot: function 54 -/
def geom_dot.f (a0_0 a0_1 a1_0 a1_1 : Int) : Option (Int) := some (wrap64 ((wrap64 (a0_0 * a1_0)) + (wrap64 (a0_1 * a1_1))))
set_option maxHeartbeats 8000000 in
set_option maxRecDepth 100000 in
theorem geom_dot.calls (a0_0 a0_1 a1_0 a1_1 r : Int) (w : World) (h : geom_dot.f a0_0 a0_1 a1_0 a1_1 = some r) :
  Calls Try.prog 54 #[.agg #[.int .i64 a0_0, .int .i64 a0_1], .agg #[.int .i64 a1_0, .int .i64 a1_1]] w fun e w' => e = .returned (.int .i64 r) ∧ Below w.heap.size w w' := by
 have hu49 := Try.underlying49
 have HB := am (Below.refl w.heap.size w)
 have H : (some (wrap64 ((wrap64 (a0_0 * a1_0)) + (wrap64 (a0_1 * a1_1))))) = some r := h
 clear h
 obtain rfl := Option.some.inj H
 go_enter Try.func54, Try.ntmps54
 go_wp2_with (first | ((with_reducible refine gate_dst (N := 2) rfl ?_); refine box_event yz (N := 2) yz (cs := #[.int .i64 a0_0, .int .i64 a0_1]) (t := 49) gz ?_; intro gb130 hg w3 hbox hb; have BK130 := am (hbox); have GW130 := gwz (g := gb130) HB hg; have GE130 := GW130; replace HB := am (below_step bz hb); clear hb hbox hg) | ((with_reducible refine gate_dst (N := 3) rfl ?_); refine box_event yz (N := 3) yz (cs := #[.int .i64 a1_0, .int .i64 a1_1]) (t := 49) gz ?_; intro gb131 hg w4 hbox hb; have BK131 := am (hbox); have GW131 := gwz (g := gb131) HB hg; have GE131 := GW131; replace HB := am (below_step bz hb); have NB130_131 := nlt (g' := gb131) BK130 hg; have NB131_130 := ngt (g' := gb131) BK130 hg; replace BK130 := am (blk_below (o := .cells #[.int .i64 a0_0, .int .i64 a0_1] 49 (0, 0)) (kz BK130) hb); clear hb hbox hg; have hnb5 := NB130_131.out; have hnc5 := NB131_130.out; obtain ⟨hcz6_0, hcz6_1, hfz6_0, hfz6_1⟩ := kc2 BK130.out; obtain ⟨hcz7_0, hcz7_1, hfz7_0, hfz7_1⟩ := kc2 BK131.out))
 go_ret
 exact ⟨ez, bz⟩

end Go.Proofs.Yteflngoiebgdaaa.X
