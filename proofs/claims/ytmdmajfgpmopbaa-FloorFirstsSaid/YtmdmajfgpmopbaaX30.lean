import Derived.Test.YtmdmajfgpmopbaaX0
namespace Go.Proofs.Ytmdmajfgpmopbaa.X
open Go.RowKit YtmdmajfgpmopbaaW.PrintWords YtmdmajfgpmopbaaW.PrintLast YtmdmajfgpmopbaaW.PrintMore
attribute [local go_sem] max2_int min2_int max_two min_two max_three min_three max_four min_four
set_option linter.unusedVariables false
set_option linter.unusedSimpArgs false

/-! ### geom_minus: function 50 -/
def geom_minus.f (a0_0 a0_1 a1_0 a1_1 : Int) : Option (Int × Int) := some (wrap64 (a0_0 - a1_0), wrap64 (a0_1 - a1_1))
set_option maxHeartbeats 8000000 in
set_option maxRecDepth 100000 in
theorem geom_minus.calls (a0_0 a0_1 a1_0 a1_1 r1 r2 : Int) (w : World) (h : geom_minus.f a0_0 a0_1 a1_0 a1_1 = some (r1, r2)) :
  Calls Try.prog 50 #[.agg #[.int .i64 a0_0, .int .i64 a0_1], .agg #[.int .i64 a1_0, .int .i64 a1_1]] w fun e w' => e = .returned (.agg #[.int .i64 r1, .int .i64 r2]) ∧ Below w.heap.size w w' := by
 have hu35 := Try.underlying35
 have HB := am (Below.refl w.heap.size w)
 have H : (some (wrap64 (a0_0 - a1_0), wrap64 (a0_1 - a1_1))) = some (r1, r2) := h
 clear h
 simp only [Option.some.injEq, Prod.mk.injEq] at H
 obtain ⟨rfl, rfl⟩ := H
 go_enter Try.func50, Try.ntmps50
 go_wp2_with (first | ((with_reducible refine gate_dst (N := 2) rfl ?_); refine box_event yz (N := 2) yz (cs := #[.int .i64 a0_0, .int .i64 a0_1]) (t := 35) gz ?_; intro gb211 hg w3 hbox hb; have BK211 := am (hbox); have GW211 := gwz (g := gb211) HB hg; have GE211 := GW211; replace HB := am (below_step bz hb); clear hb hbox hg) | ((with_reducible refine gate_dst (N := 3) rfl ?_); refine box_event yz (N := 3) yz (cs := #[.int .i64 a1_0, .int .i64 a1_1]) (t := 35) gz ?_; intro gb212 hg w4 hbox hb; have BK212 := am (hbox); have GW212 := gwz (g := gb212) HB hg; have GE212 := GW212; replace HB := am (below_step bz hb); have NB211_212 := nlt (g' := gb212) BK211 hg; have NB212_211 := ngt (g' := gb212) BK211 hg; replace BK211 := am (blk_below (o := .cells #[.int .i64 a0_0, .int .i64 a0_1] 35 (0, 0)) (kz BK211) hb); clear hb hbox hg) | ((with_reducible refine gate_dst (N := 4) rfl ?_); refine box_event yz (N := 4) yz (cs := #[.int .i64 0, .int .i64 0]) (t := 35) gz ?_; intro gb213 hg w5 hbox hb; have BK213 := am (hbox); have GW213 := gwz (g := gb213) HB hg; have GE213 := GW213; replace HB := am (below_step bz hb); have NB211_213 := nlt (g' := gb213) BK211 hg; have NB213_211 := ngt (g' := gb213) BK211 hg; replace BK211 := am (blk_below (o := .cells #[.int .i64 a0_0, .int .i64 a0_1] 35 (0, 0)) (kz BK211) hb); have NB212_213 := nlt (g' := gb213) BK212 hg; have NB213_212 := ngt (g' := gb213) BK212 hg; replace BK212 := am (blk_below (o := .cells #[.int .i64 a1_0, .int .i64 a1_1] 35 (0, 0)) (kz BK212) hb); clear hb hbox hg; have hnb6 := NB211_212.out; have hnc6 := NB212_211.out; have hnb7 := NB211_213.out; have hnc7 := NB213_211.out; obtain ⟨hcz8_0, hcz8_1, hfz8_0, hfz8_1⟩ := kc2 BK211.out; have hnb9 := NB212_213.out; have hnc9 := NB213_212.out; obtain ⟨hcz10_0, hcz10_1, hfz10_0, hfz10_1⟩ := kc2 BK212.out; obtain ⟨hcz11_0, hcz11_1, hfz11_0, hfz11_1⟩ := kc2 BK213.out))
 refine bodyPost_ret (results_cell_row rfl _ _ gb213 35 #[.int .i64 (wrap64 (a0_0 - a1_0)), .int .i64 (wrap64 (a0_1 - a1_1))] (0, 0) _ rfl (by (with_reducible repeat first | apply kN | apply kD | apply kA); refine blk_put (cs := #[.int .i64 (wrap64 (a0_0 - a1_0)), .int .i64 0]) ?_ 1 _ rfl; (with_reducible repeat first | apply kN | apply kD | apply kA); refine blk_put (cs := #[.int .i64 0, .int .i64 0]) ?_ 0 _ rfl; (with_reducible repeat first | apply kN | apply kD | apply kA); exact BK213.out) Try.underlying35 rfl qz) rfl ?_
 exact ⟨ez, bz⟩

end Go.Proofs.Ytmdmajfgpmopbaa.X
