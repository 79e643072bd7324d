import Derived.Test.YteflngoiebgdaaaX0
namespace Go.Proofs.Yteflngoiebgdaaa.X
open Go.RowKit YteflngoiebgdaaaW.PrintWords YteflngoiebgdaaaW.PrintLast YteflngoiebgdaaaW.PrintMore
attribute [local go_sem] max2_int min2_int max_two min_two max_three min_three max_four min_four
set_option linter.unusedVariables false
set_option linter.unusedSimpArgs false

/-! ### geom_minus: function 53 -/
def geom_minus.f (a0_0 a0_1 a1_0 a1_1 : Int) : Option (Int × Int) := some (wrap64 (a0_0 - a1_0), wrap64 (a0_1 - a1_1))
set_option maxHeartbeats 8000000 in
set_option maxRecDepth 100000 in
theorem geom_minus.calls (a0_0 a0_1 a1_0 a1_1 r1 r2 : Int) (w : World) (h : geom_minus.f a0_0 a0_1 a1_0 a1_1 = some (r1, r2)) :
  Calls Try.prog 53 #[.agg #[.int .i64 a0_0, .int .i64 a0_1], .agg #[.int .i64 a1_0, .int .i64 a1_1]] w fun e w' => e = .returned (.agg #[.int .i64 r1, .int .i64 r2]) ∧ Below w.heap.size w w' := by
 have hu49 := Try.underlying49
 have HB := am (Below.refl w.heap.size w)
 have H : (some (wrap64 (a0_0 - a1_0), wrap64 (a0_1 - a1_1))) = some (r1, r2) := h
 clear h
 simp only [Option.some.injEq, Prod.mk.injEq] at H
 obtain ⟨rfl, rfl⟩ := H
 go_enter Try.func53, Try.ntmps53
 go_wp2_with (first | ((with_reducible refine gate_dst (N := 2) rfl ?_); refine box_event yz (N := 2) yz (cs := #[.int .i64 a0_0, .int .i64 a0_1]) (t := 49) gz ?_; intro gb127 hg w3 hbox hb; have BK127 := am (hbox); have GW127 := gwz (g := gb127) HB hg; have GE127 := GW127; replace HB := am (below_step bz hb); clear hb hbox hg) | ((with_reducible refine gate_dst (N := 3) rfl ?_); refine box_event yz (N := 3) yz (cs := #[.int .i64 a1_0, .int .i64 a1_1]) (t := 49) gz ?_; intro gb128 hg w4 hbox hb; have BK128 := am (hbox); have GW128 := gwz (g := gb128) HB hg; have GE128 := GW128; replace HB := am (below_step bz hb); have NB127_128 := nlt (g' := gb128) BK127 hg; have NB128_127 := ngt (g' := gb128) BK127 hg; replace BK127 := am (blk_below (o := .cells #[.int .i64 a0_0, .int .i64 a0_1] 49 (0, 0)) (kz BK127) hb); clear hb hbox hg) | ((with_reducible refine gate_dst (N := 4) rfl ?_); refine box_event yz (N := 4) yz (cs := #[.int .i64 0, .int .i64 0]) (t := 49) gz ?_; intro gb129 hg w5 hbox hb; have BK129 := am (hbox); have GW129 := gwz (g := gb129) HB hg; have GE129 := GW129; replace HB := am (below_step bz hb); have NB127_129 := nlt (g' := gb129) BK127 hg; have NB129_127 := ngt (g' := gb129) BK127 hg; replace BK127 := am (blk_below (o := .cells #[.int .i64 a0_0, .int .i64 a0_1] 49 (0, 0)) (kz BK127) hb); have NB128_129 := nlt (g' := gb129) BK128 hg; have NB129_128 := ngt (g' := gb129) BK128 hg; replace BK128 := am (blk_below (o := .cells #[.int .i64 a1_0, .int .i64 a1_1] 49 (0, 0)) (kz BK128) hb); clear hb hbox hg; have hnb6 := NB127_128.out; have hnc6 := NB128_127.out; have hnb7 := NB127_129.out; have hnc7 := NB129_127.out; obtain ⟨hcz8_0, hcz8_1, hfz8_0, hfz8_1⟩ := kc2 BK127.out; have hnb9 := NB128_129.out; have hnc9 := NB129_128.out; obtain ⟨hcz10_0, hcz10_1, hfz10_0, hfz10_1⟩ := kc2 BK128.out; obtain ⟨hcz11_0, hcz11_1, hfz11_0, hfz11_1⟩ := kc2 BK129.out))
 refine bodyPost_ret (results_cell_row rfl _ _ gb129 49 #[.int .i64 (wrap64 (a0_0 - a1_0)), .int .i64 (wrap64 (a0_1 - a1_1))] (0, 0) _ rfl (by (with_reducible repeat first | apply kN | apply kD | apply kA); refine blk_put (cs := #[.int .i64 (wrap64 (a0_0 - a1_0)), .int .i64 0]) ?_ 1 _ rfl; (with_reducible repeat first | apply kN | apply kD | apply kA); refine blk_put (cs := #[.int .i64 0, .int .i64 0]) ?_ 0 _ rfl; (with_reducible repeat first | apply kN | apply kD | apply kA); exact BK129.out) Try.underlying49 rfl qz) rfl ?_
 exact ⟨ez, bz⟩

end Go.Proofs.Yteflngoiebgdaaa.X
