import Derived.Test.YtmdmajfgpmopbaaX0
namespace Go.Proofs.Ytmdmajfgpmopbaa.X
open Go.RowKit YtmdmajfgpmopbaaW.PrintWords YtmdmajfgpmopbaaW.PrintLast YtmdmajfgpmopbaaW.PrintMore
attribute [local go_sem] max2_int min2_int max_two min_two max_three min_three max_four min_four
set_option linter.unusedVariables false
set_option linter.unusedSimpArgs false

/-! ### dancestudioref42_on: function 43 -/
def dancestudioref42_on.f (a0_0 a0_1 : Int) (l0_2 : List (S64)) (a1_0 a1_1 : Int) : Option (Bool) := if a1_0 ≥ (wrap64 (Int.tdiv (wrap64 (-a0_0)) 2)) then (if a1_0 ≤ (wrap64 (Int.tdiv a0_0 2)) then (if a1_1 ≥ 0 then (some (decide (a1_1 ≤ a0_1))) else (some false)) else (some false)) else (some false)
set_option maxHeartbeats 8000000 in
set_option maxRecDepth 100000 in
theorem dancestudioref42_on.calls (a0_0 a0_1 : Int) (A0_2 : Option Addr) (c0_2 : Nat) (l0_2 : List (S64)) (a1_0 a1_1 : Int) (r : Bool) (w : World) (hr0_2 : Kd.C k64 w A0_2 l0_2.length l0_2) (hc0_2 : l0_2.length ≤ c0_2) (h : dancestudioref42_on.f a0_0 a0_1 l0_2 a1_0 a1_1 = some r) :
  Calls Try.prog 43 #[.agg #[.int .i64 a0_0, .int .i64 a0_1, .slice A0_2 l0_2.length c0_2], .agg #[.int .i64 a1_0, .int .i64 a1_1]] w fun e w' => e = .returned (.bool r) ∧ Below w.heap.size w w' := by
 have hu42 := Try.underlying42
 have hu35 := Try.underlying35
 have HR0_2 := am hr0_2
 have HC0_2 := am hc0_2
 clear hr0_2 hc0_2
 have HB := am (Below.refl w.heap.size w)
 have H : (if a1_0 ≥ (wrap64 (Int.tdiv (wrap64 (-a0_0)) 2)) then (if a1_0 ≤ (wrap64 (Int.tdiv a0_0 2)) then (if a1_1 ≥ 0 then (some (decide (a1_1 ≤ a0_1))) else (some false)) else (some false)) else (some false)) = some r := h
 clear h
 by_cases c3 : a1_0 ≥ (wrap64 (Int.tdiv (wrap64 (-a0_0)) 2))
 ·
  rw [if_pos c3] at H
  have c3b0 := decide_eq_true c3
  clear c3
  by_cases c4 : a1_0 ≤ (wrap64 (Int.tdiv a0_0 2))
  ·
   rw [if_pos c4] at H
   have c4b0 := decide_eq_true c4
   clear c4
   by_cases c5 : a1_1 ≥ 0
   ·
    rw [if_pos c5] at H
    have c5b0 := decide_eq_true c5
    clear c5
    obtain rfl := Option.some.inj H
    go_enter Try.func43, Try.ntmps43
    go_wp2_with (first | ((with_reducible refine gate_dst (N := 2) rfl ?_); refine box_event yz (N := 2) yz (cs := #[.int .i64 a0_0, .int .i64 a0_1, .slice A0_2 l0_2.length c0_2]) (t := 42) gz ?_; intro gb417 hg w6 hbox hb; have BK417 := am (hbox); have GW417 := gwz (g := gb417) HB hg; have GE417 := GW417; replace HB := am (below_step bz hb); clear hb hbox hg) | ((with_reducible refine gate_dst (N := 3) rfl ?_); refine box_event yz (N := 3) yz (cs := #[.int .i64 a1_0, .int .i64 a1_1]) (t := 35) gz ?_; intro gb418 hg w7 hbox hb; have BK418 := am (hbox); have GW418 := gwz (g := gb418) HB hg; have GE418 := GW418; replace HB := am (below_step bz hb); have NB417_418 := nlt (g' := gb418) BK417 hg; have NB418_417 := ngt (g' := gb418) BK417 hg; replace BK417 := am (blk_below (o := .cells #[.int .i64 a0_0, .int .i64 a0_1, .slice A0_2 l0_2.length c0_2] 42 (0, 0)) (kz BK417) hb); clear hb hbox hg; have hnb8 := NB418_417.out; have hnc8 := NB417_418.out; obtain ⟨hcz9_0, hcz9_1, hfz9_0, hfz9_1⟩ := kc2 BK418.out; obtain ⟨hcz10_0, hcz10_1, hcz10_2, hfz10_0, hfz10_1, hfz10_2⟩ := kc3 BK417.out))
    go_ret
    exact ⟨ez, bz⟩
   ·
    rw [if_neg c5] at H
    have c5b0 := decide_eq_false c5
    clear c5
    obtain rfl := Option.some.inj H
    go_enter Try.func43, Try.ntmps43
    go_wp2_with (first | ((with_reducible refine gate_dst (N := 2) rfl ?_); refine box_event yz (N := 2) yz (cs := #[.int .i64 a0_0, .int .i64 a0_1, .slice A0_2 l0_2.length c0_2]) (t := 42) gz ?_; intro gb417 hg w11 hbox hb; have BK417 := am (hbox); have GW417 := gwz (g := gb417) HB hg; have GE417 := GW417; replace HB := am (below_step bz hb); clear hb hbox hg) | ((with_reducible refine gate_dst (N := 3) rfl ?_); refine box_event yz (N := 3) yz (cs := #[.int .i64 a1_0, .int .i64 a1_1]) (t := 35) gz ?_; intro gb418 hg w12 hbox hb; have BK418 := am (hbox); have GW418 := gwz (g := gb418) HB hg; have GE418 := GW418; replace HB := am (below_step bz hb); have NB417_418 := nlt (g' := gb418) BK417 hg; have NB418_417 := ngt (g' := gb418) BK417 hg; replace BK417 := am (blk_below (o := .cells #[.int .i64 a0_0, .int .i64 a0_1, .slice A0_2 l0_2.length c0_2] 42 (0, 0)) (kz BK417) hb); clear hb hbox hg; have hnb13 := NB418_417.out; have hnc13 := NB417_418.out; obtain ⟨hcz14_0, hcz14_1, hfz14_0, hfz14_1⟩ := kc2 BK418.out; obtain ⟨hcz15_0, hcz15_1, hcz15_2, hfz15_0, hfz15_1, hfz15_2⟩ := kc3 BK417.out))
    go_ret
    exact ⟨ez, bz⟩
  ·
   rw [if_neg c4] at H
   have c4b0 := decide_eq_false c4
   clear c4
   obtain rfl := Option.some.inj H
   go_enter Try.func43, Try.ntmps43
   go_wp2_with (first | ((with_reducible refine gate_dst (N := 2) rfl ?_); refine box_event yz (N := 2) yz (cs := #[.int .i64 a0_0, .int .i64 a0_1, .slice A0_2 l0_2.length c0_2]) (t := 42) gz ?_; intro gb417 hg w16 hbox hb; have BK417 := am (hbox); have GW417 := gwz (g := gb417) HB hg; have GE417 := GW417; replace HB := am (below_step bz hb); clear hb hbox hg) | ((with_reducible refine gate_dst (N := 3) rfl ?_); refine box_event yz (N := 3) yz (cs := #[.int .i64 a1_0, .int .i64 a1_1]) (t := 35) gz ?_; intro gb418 hg w17 hbox hb; have BK418 := am (hbox); have GW418 := gwz (g := gb418) HB hg; have GE418 := GW418; replace HB := am (below_step bz hb); have NB417_418 := nlt (g' := gb418) BK417 hg; have NB418_417 := ngt (g' := gb418) BK417 hg; replace BK417 := am (blk_below (o := .cells #[.int .i64 a0_0, .int .i64 a0_1, .slice A0_2 l0_2.length c0_2] 42 (0, 0)) (kz BK417) hb); clear hb hbox hg; have hnb18 := NB418_417.out; have hnc18 := NB417_418.out; obtain ⟨hcz19_0, hcz19_1, hfz19_0, hfz19_1⟩ := kc2 BK418.out; obtain ⟨hcz20_0, hcz20_1, hcz20_2, hfz20_0, hfz20_1, hfz20_2⟩ := kc3 BK417.out))
   go_ret
   exact ⟨ez, bz⟩
 ·
  rw [if_neg c3] at H
  have c3b0 := decide_eq_false c3
  clear c3
  obtain rfl := Option.some.inj H
  go_enter Try.func43, Try.ntmps43
  go_wp2_with (first | ((with_reducible refine gate_dst (N := 2) rfl ?_); refine box_event yz (N := 2) yz (cs := #[.int .i64 a0_0, .int .i64 a0_1, .slice A0_2 l0_2.length c0_2]) (t := 42) gz ?_; intro gb417 hg w21 hbox hb; have BK417 := am (hbox); have GW417 := gwz (g := gb417) HB hg; have GE417 := GW417; replace HB := am (below_step bz hb); clear hb hbox hg) | ((with_reducible refine gate_dst (N := 3) rfl ?_); refine box_event yz (N := 3) yz (cs := #[.int .i64 a1_0, .int .i64 a1_1]) (t := 35) gz ?_; intro gb418 hg w22 hbox hb; have BK418 := am (hbox); have GW418 := gwz (g := gb418) HB hg; have GE418 := GW418; replace HB := am (below_step bz hb); have NB417_418 := nlt (g' := gb418) BK417 hg; have NB418_417 := ngt (g' := gb418) BK417 hg; replace BK417 := am (blk_below (o := .cells #[.int .i64 a0_0, .int .i64 a0_1, .slice A0_2 l0_2.length c0_2] 42 (0, 0)) (kz BK417) hb); clear hb hbox hg; have hnb23 := NB418_417.out; have hnc23 := NB417_418.out; obtain ⟨hcz24_0, hcz24_1, hfz24_0, hfz24_1⟩ := kc2 BK418.out; obtain ⟨hcz25_0, hcz25_1, hcz25_2, hfz25_0, hfz25_1, hfz25_2⟩ := kc3 BK417.out))
  go_ret
  exact ⟨ez, bz⟩

end Go.Proofs.Ytmdmajfgpmopbaa.X
