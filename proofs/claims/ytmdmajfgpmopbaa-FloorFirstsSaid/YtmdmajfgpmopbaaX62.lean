import Derived.Test.YtmdmajfgpmopbaaX0
namespace Go.Proofs.Ytmdmajfgpmopbaa.X
open Go.RowKit YtmdmajfgpmopbaaW.PrintWords YtmdmajfgpmopbaaW.PrintLast YtmdmajfgpmopbaaW.PrintMore
attribute [local go_sem] max2_int min2_int max_two min_two max_three min_three max_four min_four
set_option linter.unusedVariables false
set_option linter.unusedSimpArgs false

/-! ### dancestudioref42_inside: function 45 -/
def dancestudioref42_inside.f (a0_0 a0_1 : Int) (l0_2 : List (S64)) (a1_0 a1_1 a2 : Int) : Option (Bool) := if (wrap64 (a1_0 - a2)) ≥ (wrap64 (Int.tdiv (wrap64 (-a0_0)) 2)) then (if (wrap64 (a1_0 + a2)) ≤ (wrap64 (Int.tdiv a0_0 2)) then (if (wrap64 (a1_1 - a2)) ≥ 0 then (some (decide ((wrap64 (a1_1 + a2)) ≤ a0_1))) else (some false)) else (some false)) else (some false)
set_option maxHeartbeats 8000000 in
set_option maxRecDepth 100000 in
theorem dancestudioref42_inside.calls (a0_0 a0_1 : Int) (A0_2 : Option Addr) (c0_2 : Nat) (l0_2 : List (S64)) (a1_0 a1_1 a2 : Int) (r : Bool) (w : World) (hr0_2 : Kd.C k64 w A0_2 l0_2.length l0_2) (hc0_2 : l0_2.length ≤ c0_2) (h : dancestudioref42_inside.f a0_0 a0_1 l0_2 a1_0 a1_1 a2 = some r) :
  Calls Try.prog 45 #[.agg #[.int .i64 a0_0, .int .i64 a0_1, .slice A0_2 l0_2.length c0_2], .agg #[.int .i64 a1_0, .int .i64 a1_1], .int .i64 a2] w fun e w' => e = .returned (.bool r) ∧ Below w.heap.size w w' := by
 have hu42 := Try.underlying42
 have hu35 := Try.underlying35
 have HR0_2 := am hr0_2
 have HC0_2 := am hc0_2
 clear hr0_2 hc0_2
 have HB := am (Below.refl w.heap.size w)
 have H : (if (wrap64 (a1_0 - a2)) ≥ (wrap64 (Int.tdiv (wrap64 (-a0_0)) 2)) then (if (wrap64 (a1_0 + a2)) ≤ (wrap64 (Int.tdiv a0_0 2)) then (if (wrap64 (a1_1 - a2)) ≥ 0 then (some (decide ((wrap64 (a1_1 + a2)) ≤ a0_1))) else (some false)) else (some false)) else (some false)) = some r := h
 clear h
 by_cases c4 : (wrap64 (a1_0 - a2)) ≥ (wrap64 (Int.tdiv (wrap64 (-a0_0)) 2))
 ·
  rw [if_pos c4] at H
  have c4b0 := decide_eq_true c4
  clear c4
  by_cases c5 : (wrap64 (a1_0 + a2)) ≤ (wrap64 (Int.tdiv a0_0 2))
  ·
   rw [if_pos c5] at H
   have c5b0 := decide_eq_true c5
   clear c5
   by_cases c6 : (wrap64 (a1_1 - a2)) ≥ 0
   ·
    rw [if_pos c6] at H
    have c6b0 := decide_eq_true c6
    clear c6
    obtain rfl := Option.some.inj H
    go_enter Try.func45, Try.ntmps45
    go_wp2_with (first | ((with_reducible refine gate_dst (N := 3) rfl ?_); refine box_event yz (N := 3) yz (cs := #[.int .i64 a0_0, .int .i64 a0_1, .slice A0_2 l0_2.length c0_2]) (t := 42) gz ?_; intro gb465 hg w7 hbox hb; have BK465 := am (hbox); have GW465 := gwz (g := gb465) HB hg; have GE465 := GW465; replace HB := am (below_step bz hb); clear hb hbox hg) | ((with_reducible refine gate_dst (N := 4) rfl ?_); refine box_event yz (N := 4) yz (cs := #[.int .i64 a1_0, .int .i64 a1_1]) (t := 35) gz ?_; intro gb466 hg w8 hbox hb; have BK466 := am (hbox); have GW466 := gwz (g := gb466) HB hg; have GE466 := GW466; replace HB := am (below_step bz hb); have NB465_466 := nlt (g' := gb466) BK465 hg; have NB466_465 := ngt (g' := gb466) BK465 hg; replace BK465 := am (blk_below (o := .cells #[.int .i64 a0_0, .int .i64 a0_1, .slice A0_2 l0_2.length c0_2] 42 (0, 0)) (kz BK465) hb); clear hb hbox hg; have hnb9 := NB466_465.out; have hnc9 := NB465_466.out; obtain ⟨hcz10_0, hcz10_1, hfz10_0, hfz10_1⟩ := kc2 BK466.out; obtain ⟨hcz11_0, hcz11_1, hcz11_2, hfz11_0, hfz11_1, hfz11_2⟩ := kc3 BK465.out))
    go_ret
    exact ⟨ez, bz⟩
   ·
    rw [if_neg c6] at H
    have c6b0 := decide_eq_false c6
    clear c6
    obtain rfl := Option.some.inj H
    go_enter Try.func45, Try.ntmps45
    go_wp2_with (first | ((with_reducible refine gate_dst (N := 3) rfl ?_); refine box_event yz (N := 3) yz (cs := #[.int .i64 a0_0, .int .i64 a0_1, .slice A0_2 l0_2.length c0_2]) (t := 42) gz ?_; intro gb465 hg w12 hbox hb; have BK465 := am (hbox); have GW465 := gwz (g := gb465) HB hg; have GE465 := GW465; replace HB := am (below_step bz hb); clear hb hbox hg) | ((with_reducible refine gate_dst (N := 4) rfl ?_); refine box_event yz (N := 4) yz (cs := #[.int .i64 a1_0, .int .i64 a1_1]) (t := 35) gz ?_; intro gb466 hg w13 hbox hb; have BK466 := am (hbox); have GW466 := gwz (g := gb466) HB hg; have GE466 := GW466; replace HB := am (below_step bz hb); have NB465_466 := nlt (g' := gb466) BK465 hg; have NB466_465 := ngt (g' := gb466) BK465 hg; replace BK465 := am (blk_below (o := .cells #[.int .i64 a0_0, .int .i64 a0_1, .slice A0_2 l0_2.length c0_2] 42 (0, 0)) (kz BK465) hb); clear hb hbox hg; have hnb14 := NB466_465.out; have hnc14 := NB465_466.out; obtain ⟨hcz15_0, hcz15_1, hfz15_0, hfz15_1⟩ := kc2 BK466.out; obtain ⟨hcz16_0, hcz16_1, hcz16_2, hfz16_0, hfz16_1, hfz16_2⟩ := kc3 BK465.out))
    go_ret
    exact ⟨ez, bz⟩
  ·
   rw [if_neg c5] at H
   have c5b0 := decide_eq_false c5
   clear c5
   obtain rfl := Option.some.inj H
   go_enter Try.func45, Try.ntmps45
   go_wp2_with (first | ((with_reducible refine gate_dst (N := 3) rfl ?_); refine box_event yz (N := 3) yz (cs := #[.int .i64 a0_0, .int .i64 a0_1, .slice A0_2 l0_2.length c0_2]) (t := 42) gz ?_; intro gb465 hg w17 hbox hb; have BK465 := am (hbox); have GW465 := gwz (g := gb465) HB hg; have GE465 := GW465; replace HB := am (below_step bz hb); clear hb hbox hg) | ((with_reducible refine gate_dst (N := 4) rfl ?_); refine box_event yz (N := 4) yz (cs := #[.int .i64 a1_0, .int .i64 a1_1]) (t := 35) gz ?_; intro gb466 hg w18 hbox hb; have BK466 := am (hbox); have GW466 := gwz (g := gb466) HB hg; have GE466 := GW466; replace HB := am (below_step bz hb); have NB465_466 := nlt (g' := gb466) BK465 hg; have NB466_465 := ngt (g' := gb466) BK465 hg; replace BK465 := am (blk_below (o := .cells #[.int .i64 a0_0, .int .i64 a0_1, .slice A0_2 l0_2.length c0_2] 42 (0, 0)) (kz BK465) hb); clear hb hbox hg; have hnb19 := NB466_465.out; have hnc19 := NB465_466.out; obtain ⟨hcz20_0, hcz20_1, hfz20_0, hfz20_1⟩ := kc2 BK466.out; obtain ⟨hcz21_0, hcz21_1, hcz21_2, hfz21_0, hfz21_1, hfz21_2⟩ := kc3 BK465.out))
   go_ret
   exact ⟨ez, bz⟩
 ·
  rw [if_neg c4] at H
  have c4b0 := decide_eq_false c4
  clear c4
  obtain rfl := Option.some.inj H
  go_enter Try.func45, Try.ntmps45
  go_wp2_with (first | ((with_reducible refine gate_dst (N := 3) rfl ?_); refine box_event yz (N := 3) yz (cs := #[.int .i64 a0_0, .int .i64 a0_1, .slice A0_2 l0_2.length c0_2]) (t := 42) gz ?_; intro gb465 hg w22 hbox hb; have BK465 := am (hbox); have GW465 := gwz (g := gb465) HB hg; have GE465 := GW465; replace HB := am (below_step bz hb); clear hb hbox hg) | ((with_reducible refine gate_dst (N := 4) rfl ?_); refine box_event yz (N := 4) yz (cs := #[.int .i64 a1_0, .int .i64 a1_1]) (t := 35) gz ?_; intro gb466 hg w23 hbox hb; have BK466 := am (hbox); have GW466 := gwz (g := gb466) HB hg; have GE466 := GW466; replace HB := am (below_step bz hb); have NB465_466 := nlt (g' := gb466) BK465 hg; have NB466_465 := ngt (g' := gb466) BK465 hg; replace BK465 := am (blk_below (o := .cells #[.int .i64 a0_0, .int .i64 a0_1, .slice A0_2 l0_2.length c0_2] 42 (0, 0)) (kz BK465) hb); clear hb hbox hg; have hnb24 := NB466_465.out; have hnc24 := NB465_466.out; obtain ⟨hcz25_0, hcz25_1, hfz25_0, hfz25_1⟩ := kc2 BK466.out; obtain ⟨hcz26_0, hcz26_1, hcz26_2, hfz26_0, hfz26_1, hfz26_2⟩ := kc3 BK465.out))
  go_ret
  exact ⟨ez, bz⟩

end Go.Proofs.Ytmdmajfgpmopbaa.X
