import Derived.Test.YteflngoiebgdaaaX0
namespace Go.Proofs.Yteflngoiebgdaaa.X
open Go.RowKit YteflngoiebgdaaaW.PrintWords YteflngoiebgdaaaW.PrintLast YteflngoiebgdaaaW.PrintMore
attribute [local go_sem] max2_int min2_int max_two min_two max_three min_three max_four min_four
set_option linter.unusedVariables false
set_option linter.unusedSimpArgs false

/-! ### posture_on: function 66 -/
def posture_on.f (a0_0 a0_1 : Int) : Option (Bool) := if a0_0 ≥ (-32768) then (if a0_0 ≤ 32768 then (if a0_1 ≥ (-32768) then (some (decide (a0_1 ≤ 32768))) else (some false)) else (some false)) else (some false)
set_option maxHeartbeats 8000000 in
set_option maxRecDepth 100000 in
theorem posture_on.calls (a0_0 a0_1 : Int) (r : Bool) (w : World) (h : posture_on.f a0_0 a0_1 = some r) :
  Calls Try.prog 66 #[.agg #[.int .i64 a0_0, .int .i64 a0_1]] w fun e w' => e = .returned (.bool r) ∧ Below w.heap.size w w' := by
 have hu49 := Try.underlying49
 have HB := am (Below.refl w.heap.size w)
 have H : (if a0_0 ≥ (-32768) then (if a0_0 ≤ 32768 then (if a0_1 ≥ (-32768) then (some (decide (a0_1 ≤ 32768))) else (some false)) else (some false)) else (some false)) = some r := h
 clear h
 by_cases c2 : a0_0 ≥ (-32768)
 ·
  rw [if_pos c2] at H
  have c2b0 := decide_eq_true c2
  clear c2
  by_cases c3 : a0_0 ≤ 32768
  ·
   rw [if_pos c3] at H
   have c3b0 := decide_eq_true c3
   clear c3
   by_cases c4 : a0_1 ≥ (-32768)
   ·
    rw [if_pos c4] at H
    have c4b0 := decide_eq_true c4
    clear c4
    obtain rfl := Option.some.inj H
    go_enter Try.func66, Try.ntmps66
    go_wp2_with (first | ((with_reducible refine gate_dst (N := 1) rfl ?_); refine box_event yz (N := 1) yz (cs := #[.int .i64 a0_0, .int .i64 a0_1]) (t := 49) gz ?_; intro gb103 hg w5 hbox hb; have BK103 := am (hbox); have GW103 := gwz (g := gb103) HB hg; have GE103 := GW103; replace HB := am (below_step bz hb); clear hb hbox hg; obtain ⟨hcz6_0, hcz6_1, hfz6_0, hfz6_1⟩ := kc2 BK103.out))
    go_ret
    exact ⟨ez, bz⟩
   ·
    rw [if_neg c4] at H
    have c4b0 := decide_eq_false c4
    clear c4
    obtain rfl := Option.some.inj H
    go_enter Try.func66, Try.ntmps66
    go_wp2_with (first | ((with_reducible refine gate_dst (N := 1) rfl ?_); refine box_event yz (N := 1) yz (cs := #[.int .i64 a0_0, .int .i64 a0_1]) (t := 49) gz ?_; intro gb103 hg w7 hbox hb; have BK103 := am (hbox); have GW103 := gwz (g := gb103) HB hg; have GE103 := GW103; replace HB := am (below_step bz hb); clear hb hbox hg; obtain ⟨hcz8_0, hcz8_1, hfz8_0, hfz8_1⟩ := kc2 BK103.out))
    go_ret
    exact ⟨ez, bz⟩
  ·
   rw [if_neg c3] at H
   have c3b0 := decide_eq_false c3
   clear c3
   obtain rfl := Option.some.inj H
   go_enter Try.func66, Try.ntmps66
   go_wp2_with (first | ((with_reducible refine gate_dst (N := 1) rfl ?_); refine box_event yz (N := 1) yz (cs := #[.int .i64 a0_0, .int .i64 a0_1]) (t := 49) gz ?_; intro gb103 hg w9 hbox hb; have BK103 := am (hbox); have GW103 := gwz (g := gb103) HB hg; have GE103 := GW103; replace HB := am (below_step bz hb); clear hb hbox hg; obtain ⟨hcz10_0, hcz10_1, hfz10_0, hfz10_1⟩ := kc2 BK103.out))
   go_ret
   exact ⟨ez, bz⟩
 ·
  rw [if_neg c2] at H
  have c2b0 := decide_eq_false c2
  clear c2
  obtain rfl := Option.some.inj H
  go_enter Try.func66, Try.ntmps66
  go_wp2_with (first | ((with_reducible refine gate_dst (N := 1) rfl ?_); refine box_event yz (N := 1) yz (cs := #[.int .i64 a0_0, .int .i64 a0_1]) (t := 49) gz ?_; intro gb103 hg w11 hbox hb; have BK103 := am (hbox); have GW103 := gwz (g := gb103) HB hg; have GE103 := GW103; replace HB := am (below_step bz hb); clear hb hbox hg; obtain ⟨hcz12_0, hcz12_1, hfz12_0, hfz12_1⟩ := kc2 BK103.out))
  go_ret
  exact ⟨ez, bz⟩

end Go.Proofs.Yteflngoiebgdaaa.X
