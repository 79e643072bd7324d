import Derived.Test.YtmdmajfgpmopbaaX0
namespace Go.Proofs.Ytmdmajfgpmopbaa.X
open Go.RowKit YtmdmajfgpmopbaaW.PrintWords YtmdmajfgpmopbaaW.PrintLast YtmdmajfgpmopbaaW.PrintMore
attribute [local go_sem] max2_int min2_int max_two min_two max_three min_three max_four min_four
set_option linter.unusedVariables false
set_option linter.unusedSimpArgs false

/-! ### geom_cross: function 63 -/
def geom_cross.f (a0_0 a0_1 a1_0 a1_1 : Int) : Option (Int) := some (wrap64 ((wrap64 (a0_0 * a1_1)) - (wrap64 (a0_1 * a1_0))))
set_option maxHeartbeats 8000000 in
set_option maxRecDepth 100000 in
theorem geom_cross.calls (a0_0 a0_1 a1_0 a1_1 r : Int) (w : World) (h : geom_cross.f a0_0 a0_1 a1_0 a1_1 = some r) :
  Calls Try.prog 63 #[.agg #[.int .i64 a0_0, .int .i64 a0_1], .agg #[.int .i64 a1_0, .int .i64 a1_1]] w fun e w' => e = .returned (.int .i64 r) ∧ Below w.heap.size w w' := by
 have hu35 := Try.underlying35
 have HB := am (Below.refl w.heap.size w)
 have H : (some (wrap64 ((wrap64 (a0_0 * a1_1)) - (wrap64 (a0_1 * a1_0))))) = some r := h
 clear h
 obtain rfl := Option.some.inj H
 go_enter Try.func63, Try.ntmps63
 go_wp2_with (first | ((with_reducible refine gate_dst (N := 2) rfl ?_); refine box_event yz (N := 2) yz (cs := #[.int .i64 a0_0, .int .i64 a0_1]) (t := 35) gz ?_; intro gb176 hg w3 hbox hb; have BK176 := am (hbox); have GW176 := gwz (g := gb176) HB hg; have GE176 := GW176; replace HB := am (below_step bz hb); clear hb hbox hg) | ((with_reducible refine gate_dst (N := 3) rfl ?_); refine box_event yz (N := 3) yz (cs := #[.int .i64 a1_0, .int .i64 a1_1]) (t := 35) gz ?_; intro gb177 hg w4 hbox hb; have BK177 := am (hbox); have GW177 := gwz (g := gb177) HB hg; have GE177 := GW177; replace HB := am (below_step bz hb); have NB176_177 := nlt (g' := gb177) BK176 hg; have NB177_176 := ngt (g' := gb177) BK176 hg; replace BK176 := am (blk_below (o := .cells #[.int .i64 a0_0, .int .i64 a0_1] 35 (0, 0)) (kz BK176) hb); clear hb hbox hg; have hnb5 := NB176_177.out; have hnc5 := NB177_176.out; obtain ⟨hcz6_0, hcz6_1, hfz6_0, hfz6_1⟩ := kc2 BK176.out; obtain ⟨hcz7_0, hcz7_1, hfz7_0, hfz7_1⟩ := kc2 BK177.out))
 go_ret
 exact ⟨ez, bz⟩

end Go.Proofs.Ytmdmajfgpmopbaa.X
