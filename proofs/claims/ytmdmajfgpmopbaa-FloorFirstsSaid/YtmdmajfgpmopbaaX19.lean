import Derived.Test.YtmdmajfgpmopbaaX0
namespace Go.Proofs.Ytmdmajfgpmopbaa.X
open Go.RowKit YtmdmajfgpmopbaaW.PrintWords YtmdmajfgpmopbaaW.PrintLast YtmdmajfgpmopbaaW.PrintMore
attribute [local go_sem] max2_int min2_int max_two min_two max_three min_three max_four min_four
set_option linter.unusedVariables false
set_option linter.unusedSimpArgs false

/-! ### stage_far: function 42 -/
def stage_far.f (a0_0 a0_1 : Int) : Option (Bool) := if a0_0 < (-32768) then (some true) else (if a0_0 > 32768 then (some true) else (if a0_1 < (-32768) then (some true) else (some (decide (a0_1 > 32768)))))
set_option maxHeartbeats 8000000 in
set_option maxRecDepth 100000 in
theorem stage_far.calls (a0_0 a0_1 : Int) (r : Bool) (w : World) (h : stage_far.f a0_0 a0_1 = some r) :
  Calls Try.prog 42 #[.agg #[.int .i64 a0_0, .int .i64 a0_1]] w fun e w' => e = .returned (.bool r) ∧ Below w.heap.size w w' := by
 have hu35 := Try.underlying35
 have HB := am (Below.refl w.heap.size w)
 have H : (if a0_0 < (-32768) then (some true) else (if a0_0 > 32768 then (some true) else (if a0_1 < (-32768) then (some true) else (some (decide (a0_1 > 32768)))))) = some r := h
 clear h
 by_cases c2 : a0_0 < (-32768)
 ·
  rw [if_pos c2] at H
  have c2b0 := decide_eq_true c2
  clear c2
  obtain rfl := Option.some.inj H
  go_enter Try.func42, Try.ntmps42
  go_wp2_with (first | ((with_reducible refine gate_dst (N := 1) rfl ?_); refine box_event yz (N := 1) yz (cs := #[.int .i64 a0_0, .int .i64 a0_1]) (t := 35) gz ?_; intro gb165 hg w3 hbox hb; have BK165 := am (hbox); have GW165 := gwz (g := gb165) HB hg; have GE165 := GW165; replace HB := am (below_step bz hb); clear hb hbox hg; obtain ⟨hcz4_0, hcz4_1, hfz4_0, hfz4_1⟩ := kc2 BK165.out))
  go_ret
  exact ⟨ez, bz⟩
 ·
  rw [if_neg c2] at H
  have c2b0 := decide_eq_false c2
  clear c2
  by_cases c5 : a0_0 > 32768
  ·
   rw [if_pos c5] at H
   have c5b0 := decide_eq_true c5
   clear c5
   obtain rfl := Option.some.inj H
   go_enter Try.func42, Try.ntmps42
   go_wp2_with (first | ((with_reducible refine gate_dst (N := 1) rfl ?_); refine box_event yz (N := 1) yz (cs := #[.int .i64 a0_0, .int .i64 a0_1]) (t := 35) gz ?_; intro gb165 hg w6 hbox hb; have BK165 := am (hbox); have GW165 := gwz (g := gb165) HB hg; have GE165 := GW165; replace HB := am (below_step bz hb); clear hb hbox hg; obtain ⟨hcz7_0, hcz7_1, hfz7_0, hfz7_1⟩ := kc2 BK165.out))
   go_ret
   exact ⟨ez, bz⟩
  ·
   rw [if_neg c5] at H
   have c5b0 := decide_eq_false c5
   clear c5
   by_cases c8 : a0_1 < (-32768)
   ·
    rw [if_pos c8] at H
    have c8b0 := decide_eq_true c8
    clear c8
    obtain rfl := Option.some.inj H
    go_enter Try.func42, Try.ntmps42
    go_wp2_with (first | ((with_reducible refine gate_dst (N := 1) rfl ?_); refine box_event yz (N := 1) yz (cs := #[.int .i64 a0_0, .int .i64 a0_1]) (t := 35) gz ?_; intro gb165 hg w9 hbox hb; have BK165 := am (hbox); have GW165 := gwz (g := gb165) HB hg; have GE165 := GW165; replace HB := am (below_step bz hb); clear hb hbox hg; obtain ⟨hcz10_0, hcz10_1, hfz10_0, hfz10_1⟩ := kc2 BK165.out))
    go_ret
    exact ⟨ez, bz⟩
   ·
    rw [if_neg c8] at H
    have c8b0 := decide_eq_false c8
    clear c8
    obtain rfl := Option.some.inj H
    go_enter Try.func42, Try.ntmps42
    go_wp2_with (first | ((with_reducible refine gate_dst (N := 1) rfl ?_); refine box_event yz (N := 1) yz (cs := #[.int .i64 a0_0, .int .i64 a0_1]) (t := 35) gz ?_; intro gb165 hg w11 hbox hb; have BK165 := am (hbox); have GW165 := gwz (g := gb165) HB hg; have GE165 := GW165; replace HB := am (below_step bz hb); clear hb hbox hg; obtain ⟨hcz12_0, hcz12_1, hfz12_0, hfz12_1⟩ := kc2 BK165.out))
    go_ret
    exact ⟨ez, bz⟩

end Go.Proofs.Ytmdmajfgpmopbaa.X
