import Derived.Test.YtmdmajfgpmopbaaX0
namespace Go.Proofs.Ytmdmajfgpmopbaa.X
open Go.RowKit YtmdmajfgpmopbaaW.PrintWords YtmdmajfgpmopbaaW.PrintLast YtmdmajfgpmopbaaW.PrintMore
attribute [local go_sem] max2_int min2_int max_two min_two max_three min_three max_four min_four
set_option linter.unusedVariables false
set_option linter.unusedSimpArgs false

/-! ### geom_dot: function 62 -/
def geom_dot.f (a0_0 a0_1 a1_0 a1_1 : Int) : Option (Int) := some (wrap64 ((wrap64 (a0_0 * a1_0)) + (wrap64 (a0_1 * a1_1))))
set_option maxHeartbeats 8000000 in
set_option maxRecDepth 100000 in
theorem geom_dot.calls (a0_0 a0_1 a1_0 a1_1 r : Int) (w : World) (h : geom_dot.f a0_0 a0_1 a1_0 a1_1 = some r) :
  Calls Try.prog 62 #[.agg #[.int .i64 a0_0, .int .i64 a0_1], .agg #[.int .i64 a1_0, .int .i64 a1_1]] w fun e w' => e = .returned (.int .i64 r) ∧ Below w.heap.size w w' := by
 have hu35 := Try.underlying35
 have HB := am (Below.refl w.heap.size w)
 have H : (some (wrap64 ((wrap64 (a0_0 * a1_0)) + (wrap64 (a0_1 * a1_1))))) = some r := h
 clear h
 obtain rfl := Option.some.inj H
 go_enter Try.func62, Try.ntmps62
 go_wp2_with (first | ((with_reducible refine gate_dst (N := 2) rfl ?_); refine box_event yz (N := 2) yz (cs := #[.int .i64 a0_0, .int .i64 a0_1]) (t := 35) gz ?_; intro gb174 hg w3 hbox hb; have BK174 := am (hbox); have GW174 := gwz (g := gb174) HB hg; have GE174 := GW174; replace HB := am (below_step bz hb); clear hb hbox hg) | ((with_reducible refine gate_dst (N := 3) rfl ?_); refine box_event yz (N := 3) yz (cs := #[.int .i64 a1_0, .int .i64 a1_1]) (t := 35) gz ?_; intro gb175 hg w4 hbox hb; have BK175 := am (hbox); have GW175 := gwz (g := gb175) HB hg; have GE175 := GW175; replace HB := am (below_step bz hb); have NB174_175 := nlt (g' := gb175) BK174 hg; have NB175_174 := ngt (g' := gb175) BK174 hg; replace BK174 := am (blk_below (o := .cells #[.int .i64 a0_0, .int .i64 a0_1] 35 (0, 0)) (kz BK174) hb); clear hb hbox hg; have hnb5 := NB174_175.out; have hnc5 := NB175_174.out; obtain ⟨hcz6_0, hcz6_1, hfz6_0, hfz6_1⟩ := kc2 BK174.out; obtain ⟨hcz7_0, hcz7_1, hfz7_0, hfz7_1⟩ := kc2 BK175.out))
 go_ret
 exact ⟨ez, bz⟩

end Go.Proofs.Ytmdmajfgpmopbaa.X
