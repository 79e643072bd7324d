import Derived.Test.YteflngoiebgdaaaX0
namespace Go.Proofs.Yteflngoiebgdaaa.X
open Go.RowKit YteflngoiebgdaaaW.PrintWords YteflngoiebgdaaaW.PrintLast YteflngoiebgdaaaW.PrintMore
attribute [local go_sem] max2_int min2_int max_two min_two max_three min_three max_four min_four
set_option linter.unusedVariables false
set_option linter.unusedSimpArgs false

/-! ### aim_upright: function 78 -/
def aim_upright.f (a0_0 a0_1 a0_2 : Int) : Option (Bool) := if a0_1 = 64 then (some true) else (some (a0_1 == (-64)))
set_option maxHeartbeats 8000000 in
set_option maxRecDepth 100000 in
theorem aim_upright.calls (a0_0 a0_1 a0_2 : Int) (r : Bool) (w : World) (h : aim_upright.f a0_0 a0_1 a0_2 = some r) :
  Calls Try.prog 78 #[.agg #[.int .i64 a0_0, .int .i64 a0_1, .int .i64 a0_2]] w fun e w' => e = .returned (.bool r) ∧ Below w.heap.size w w' := by
 have hu51 := Try.underlying51
 have HB := am (Below.refl w.heap.size w)
 have H : (if a0_1 = 64 then (some true) else (some (a0_1 == (-64)))) = some r := h
 clear h
 by_cases c2 : a0_1 = 64
 ·
  rw [if_pos c2] at H
  have c2b0 : (a0_1 == 64) = true := beq_iff_eq.mpr c2
  have c2b1 : (a0_1 != 64) = false := bne_eq_false_iff_eq.mpr c2
  clear c2
  obtain rfl := Option.some.inj H
  go_enter Try.func78, Try.ntmps78
  go_wp2_with (first | ((with_reducible refine gate_dst (N := 1) rfl ?_); refine box_event yz (N := 1) yz (cs := #[.int .i64 a0_0, .int .i64 a0_1, .int .i64 a0_2]) (t := 51) gz ?_; intro gb104 hg w3 hbox hb; have BK104 := am (hbox); have GW104 := gwz (g := gb104) HB hg; have GE104 := GW104; replace HB := am (below_step bz hb); clear hb hbox hg; obtain ⟨hcz4_0, hcz4_1, hcz4_2, hfz4_0, hfz4_1, hfz4_2⟩ := kc3 BK104.out))
  go_ret
  exact ⟨ez, bz⟩
 ·
  rw [if_neg c2] at H
  have c2b0 : (a0_1 == 64) = false := beq_eq_false_iff_ne.mpr c2
  have c2b1 : (a0_1 != 64) = true := bne_iff_ne.mpr c2
  obtain rfl := Option.some.inj H
  go_enter Try.func78, Try.ntmps78
  go_wp2_with (first | ((with_reducible refine gate_dst (N := 1) rfl ?_); refine box_event yz (N := 1) yz (cs := #[.int .i64 a0_0, .int .i64 a0_1, .int .i64 a0_2]) (t := 51) gz ?_; intro gb104 hg w5 hbox hb; have BK104 := am (hbox); have GW104 := gwz (g := gb104) HB hg; have GE104 := GW104; replace HB := am (below_step bz hb); clear hb hbox hg; obtain ⟨hcz6_0, hcz6_1, hcz6_2, hfz6_0, hfz6_1, hfz6_2⟩ := kc3 BK104.out))
  go_ret
  exact ⟨ez, bz⟩

end Go.Proofs.Yteflngoiebgdaaa.X
