-- squeezed
-- written by xprint.py, an own overlay over the kit's print; not trusted: Lean checks it
import Derived.Test.YtmfcgmdecindnaaX0
namespace Go.Proofs.Ytmfcgmdecindnaa.X
open Go.RowKit Go.Proofs.YtmfcgmdecindnaaW.PrintWords Go.Proofs.YtmfcgmdecindnaaW.PrintLast Go.Proofs.YtmfcgmdecindnaaW.PrintMore
attribute [local go_sem] max2_int min2_int max_two min_two max_three min_three max_four min_four   -- for this text's walks alone
set_option linter.unusedVariables false
set_option linter.unusedSimpArgs false

/-! ### dancestudioref42_on: function 28 -/
def dancestudioref42_on.f (a0_0 : Int) (a0_1 : Int) (l0_2 : List (S41)) (a1_0 : Int) (a1_1 : Int) : Option (Bool) := if a1_0 ≥ (wrap64 (Int.tdiv (wrap64 (-a0_0)) 2)) then (if a1_0 ≤ (wrap64 (Int.tdiv a0_0 2)) then (if a1_1 ≥ 0 then (some (decide (a1_1 ≤ a0_1))) else (some false)) else (some false)) else (some false)
set_option maxHeartbeats 8000000 in
set_option maxRecDepth 100000 in
theorem dancestudioref42_on.calls (a0_0 : Int) (a0_1 : Int) (A0_2 : Option Addr) (c0_2 : Nat) (l0_2 : List (S41)) (a1_0 : Int) (a1_1 : Int) (r : Bool) (w : World) (hr0_2 : Kd.C k41 w A0_2 l0_2.length l0_2) (hc0_2 : l0_2.length ≤ c0_2) (h : dancestudioref42_on.f a0_0 a0_1 l0_2 a1_0 a1_1 = some r) :
  Calls Try.prog 28 #[.agg #[.int .i64 a0_0, .int .i64 a0_1, .slice A0_2 l0_2.length c0_2], .agg #[.int .i64 a1_0, .int .i64 a1_1]] w fun e w' => e = .returned (.bool r) ∧ Below w.heap.size w w' := by
 have hu24 := Try.underlying24
 have hu26 := Try.underlying26
 have HR0_2 := Aside0.mk hr0_2
 have HC0_2 := Aside0.mk hc0_2
 clear hr0_2 hc0_2
 have HB := Aside0.mk (Below.refl w.heap.size w)
 have H : (if a1_0 ≥ (wrap64 (Int.tdiv (wrap64 (-a0_0)) 2)) then (if a1_0 ≤ (wrap64 (Int.tdiv a0_0 2)) then (if a1_1 ≥ 0 then (some (decide (a1_1 ≤ a0_1))) else (some false)) else (some false)) else (some false)) = some r := h
 clear h
 by_cases c3 : a1_0 ≥ (wrap64 (Int.tdiv (wrap64 (-a0_0)) 2))
 ·
  rw [if_pos c3] at H
  have c3b0 : decide ((wrap64 (Int.tdiv (wrap64 (-a0_0)) 2)) ≤ a1_0) = true := decide_eq_true c3
  clear c3
  by_cases c4 : a1_0 ≤ (wrap64 (Int.tdiv a0_0 2))
  ·
   rw [if_pos c4] at H
   have c4b0 : decide (a1_0 ≤ (wrap64 (Int.tdiv a0_0 2))) = true := decide_eq_true c4
   clear c4
   by_cases c5 : a1_1 ≥ 0
   ·
    rw [if_pos c5] at H
    have c5b0 : decide (0 ≤ a1_1) = true := decide_eq_true c5
    clear c5
    obtain rfl := Option.some.inj H
    go_enter Try.func28, Try.ntmps28
    go_wp2_with (first | ((with_reducible refine gate_dst (N := 2) rfl ?_); refine box_event ?hg (N := 2) ?hd (cs := #[.int .i64 a0_0, .int .i64 a0_1, .slice A0_2 l0_2.length c0_2]) (t := 24) ?hr ?_; (case hd => rfl); (case hg => rfl); (case hr => first | (go_simp; done) | (go_simp; rfl)); intro gb273 hg w6 hbox hb; have BK273 := Aside0.mk (hbox); have GW273 := Aside0.mk ((by rw [hg]; exact (below_size (by repeat with_reducible first | exact HB.out | apply bA | apply bN | apply bD)) : w.heap.size ≤ gb273)); have GE273 := GW273; replace HB := Aside0.mk (below_step (by repeat with_reducible first | exact HB.out | apply bA | apply bN | apply bD) hb); clear hb hbox hg) | ((with_reducible refine gate_dst (N := 3) rfl ?_); refine box_event ?hg (N := 3) ?hd (cs := #[.int .i64 a1_0, .int .i64 a1_1]) (t := 26) ?hr ?_; (case hd => rfl); (case hg => rfl); (case hr => first | (go_simp; done) | (go_simp; rfl)); intro gb274 hg w7 hbox hb; have BK274 := Aside0.mk (hbox); have GW274 := Aside0.mk ((by rw [hg]; exact (below_size (by repeat with_reducible first | exact HB.out | apply bA | apply bN | apply bD | refine bS ?_ GE273.out)) : w.heap.size ≤ gb274)); have GE274 := GW274; replace HB := Aside0.mk (below_step (by repeat with_reducible first | exact HB.out | apply bA | apply bN | apply bD | refine bS ?_ GE273.out) hb); have NB273_274 := Aside0.mk ((by rw [hg]; exact Nat.ne_of_lt (blk_lt (by with_reducible repeat first | exact BK273.out | apply kN | apply kD | apply kA)) : gb273 ≠ gb274)); have NB274_273 := Aside0.mk ((by rw [hg]; exact Nat.ne_of_gt (blk_lt (by with_reducible repeat first | exact BK273.out | apply kN | apply kD | apply kA)) : gb274 ≠ gb273)); replace BK273 := Aside0.mk (blk_below (o := .cells #[.int .i64 a0_0, .int .i64 a0_1, .slice A0_2 l0_2.length c0_2] 24 (0, 0)) (by with_reducible repeat first | exact BK273.out | apply kN | apply kD | apply kA) hb); clear hb hbox hg; have hnb8 := NB274_273.out; have hnc8 := NB273_274.out; obtain ⟨hcz9_0, hcz9_1, hfz9_0, hfz9_1⟩ := kc2 BK274.out; obtain ⟨hcz10_0, hcz10_1, hcz10_2, hfz10_0, hfz10_1, hfz10_2⟩ := kc3 BK273.out))
    go_ret
    exact ⟨by first | rfl | (simp [errW_none, errW_some] <;> rfl) | (simp [*, errW_none, errW_some] <;> rfl), by repeat with_reducible first | exact HB.out | apply bA | apply bN | apply bD | refine bS ?_ GE273.out | refine bS ?_ GE274.out⟩
   ·
    rw [if_neg c5] at H
    have c5b0 : decide (0 ≤ a1_1) = false := decide_eq_false c5
    clear c5
    obtain rfl := Option.some.inj H
    go_enter Try.func28, Try.ntmps28
    go_wp2_with (first | ((with_reducible refine gate_dst (N := 2) rfl ?_); refine box_event ?hg (N := 2) ?hd (cs := #[.int .i64 a0_0, .int .i64 a0_1, .slice A0_2 l0_2.length c0_2]) (t := 24) ?hr ?_; (case hd => rfl); (case hg => rfl); (case hr => first | (go_simp; done) | (go_simp; rfl)); intro gb273 hg w11 hbox hb; have BK273 := Aside0.mk (hbox); have GW273 := Aside0.mk ((by rw [hg]; exact (below_size (by repeat with_reducible first | exact HB.out | apply bA | apply bN | apply bD)) : w.heap.size ≤ gb273)); have GE273 := GW273; replace HB := Aside0.mk (below_step (by repeat with_reducible first | exact HB.out | apply bA | apply bN | apply bD) hb); clear hb hbox hg) | ((with_reducible refine gate_dst (N := 3) rfl ?_); refine box_event ?hg (N := 3) ?hd (cs := #[.int .i64 a1_0, .int .i64 a1_1]) (t := 26) ?hr ?_; (case hd => rfl); (case hg => rfl); (case hr => first | (go_simp; done) | (go_simp; rfl)); intro gb274 hg w12 hbox hb; have BK274 := Aside0.mk (hbox); have GW274 := Aside0.mk ((by rw [hg]; exact (below_size (by repeat with_reducible first | exact HB.out | apply bA | apply bN | apply bD | refine bS ?_ GE273.out)) : w.heap.size ≤ gb274)); have GE274 := GW274; replace HB := Aside0.mk (below_step (by repeat with_reducible first | exact HB.out | apply bA | apply bN | apply bD | refine bS ?_ GE273.out) hb); have NB273_274 := Aside0.mk ((by rw [hg]; exact Nat.ne_of_lt (blk_lt (by with_reducible repeat first | exact BK273.out | apply kN | apply kD | apply kA)) : gb273 ≠ gb274)); have NB274_273 := Aside0.mk ((by rw [hg]; exact Nat.ne_of_gt (blk_lt (by with_reducible repeat first | exact BK273.out | apply kN | apply kD | apply kA)) : gb274 ≠ gb273)); replace BK273 := Aside0.mk (blk_below (o := .cells #[.int .i64 a0_0, .int .i64 a0_1, .slice A0_2 l0_2.length c0_2] 24 (0, 0)) (by with_reducible repeat first | exact BK273.out | apply kN | apply kD | apply kA) hb); clear hb hbox hg; have hnb13 := NB274_273.out; have hnc13 := NB273_274.out; obtain ⟨hcz14_0, hcz14_1, hfz14_0, hfz14_1⟩ := kc2 BK274.out; obtain ⟨hcz15_0, hcz15_1, hcz15_2, hfz15_0, hfz15_1, hfz15_2⟩ := kc3 BK273.out))
    go_ret
    exact ⟨by first | rfl | (simp [errW_none, errW_some] <;> rfl) | (simp [*, errW_none, errW_some] <;> rfl), by repeat with_reducible first | exact HB.out | apply bA | apply bN | apply bD | refine bS ?_ GE273.out | refine bS ?_ GE274.out⟩
  ·
   rw [if_neg c4] at H
   have c4b0 : decide (a1_0 ≤ (wrap64 (Int.tdiv a0_0 2))) = false := decide_eq_false c4
   clear c4
   obtain rfl := Option.some.inj H
   go_enter Try.func28, Try.ntmps28
   go_wp2_with (first | ((with_reducible refine gate_dst (N := 2) rfl ?_); refine box_event ?hg (N := 2) ?hd (cs := #[.int .i64 a0_0, .int .i64 a0_1, .slice A0_2 l0_2.length c0_2]) (t := 24) ?hr ?_; (case hd => rfl); (case hg => rfl); (case hr => first | (go_simp; done) | (go_simp; rfl)); intro gb273 hg w16 hbox hb; have BK273 := Aside0.mk (hbox); have GW273 := Aside0.mk ((by rw [hg]; exact (below_size (by repeat with_reducible first | exact HB.out | apply bA | apply bN | apply bD)) : w.heap.size ≤ gb273)); have GE273 := GW273; replace HB := Aside0.mk (below_step (by repeat with_reducible first | exact HB.out | apply bA | apply bN | apply bD) hb); clear hb hbox hg) | ((with_reducible refine gate_dst (N := 3) rfl ?_); refine box_event ?hg (N := 3) ?hd (cs := #[.int .i64 a1_0, .int .i64 a1_1]) (t := 26) ?hr ?_; (case hd => rfl); (case hg => rfl); (case hr => first | (go_simp; done) | (go_simp; rfl)); intro gb274 hg w17 hbox hb; have BK274 := Aside0.mk (hbox); have GW274 := Aside0.mk ((by rw [hg]; exact (below_size (by repeat with_reducible first | exact HB.out | apply bA | apply bN | apply bD | refine bS ?_ GE273.out)) : w.heap.size ≤ gb274)); have GE274 := GW274; replace HB := Aside0.mk (below_step (by repeat with_reducible first | exact HB.out | apply bA | apply bN | apply bD | refine bS ?_ GE273.out) hb); have NB273_274 := Aside0.mk ((by rw [hg]; exact Nat.ne_of_lt (blk_lt (by with_reducible repeat first | exact BK273.out | apply kN | apply kD | apply kA)) : gb273 ≠ gb274)); have NB274_273 := Aside0.mk ((by rw [hg]; exact Nat.ne_of_gt (blk_lt (by with_reducible repeat first | exact BK273.out | apply kN | apply kD | apply kA)) : gb274 ≠ gb273)); replace BK273 := Aside0.mk (blk_below (o := .cells #[.int .i64 a0_0, .int .i64 a0_1, .slice A0_2 l0_2.length c0_2] 24 (0, 0)) (by with_reducible repeat first | exact BK273.out | apply kN | apply kD | apply kA) hb); clear hb hbox hg; have hnb18 := NB274_273.out; have hnc18 := NB273_274.out; obtain ⟨hcz19_0, hcz19_1, hfz19_0, hfz19_1⟩ := kc2 BK274.out; obtain ⟨hcz20_0, hcz20_1, hcz20_2, hfz20_0, hfz20_1, hfz20_2⟩ := kc3 BK273.out))
   go_ret
   exact ⟨by first | rfl | (simp [errW_none, errW_some] <;> rfl) | (simp [*, errW_none, errW_some] <;> rfl), by repeat with_reducible first | exact HB.out | apply bA | apply bN | apply bD | refine bS ?_ GE273.out | refine bS ?_ GE274.out⟩
 ·
  rw [if_neg c3] at H
  have c3b0 : decide ((wrap64 (Int.tdiv (wrap64 (-a0_0)) 2)) ≤ a1_0) = false := decide_eq_false c3
  clear c3
  obtain rfl := Option.some.inj H
  go_enter Try.func28, Try.ntmps28
  go_wp2_with (first | ((with_reducible refine gate_dst (N := 2) rfl ?_); refine box_event ?hg (N := 2) ?hd (cs := #[.int .i64 a0_0, .int .i64 a0_1, .slice A0_2 l0_2.length c0_2]) (t := 24) ?hr ?_; (case hd => rfl); (case hg => rfl); (case hr => first | (go_simp; done) | (go_simp; rfl)); intro gb273 hg w21 hbox hb; have BK273 := Aside0.mk (hbox); have GW273 := Aside0.mk ((by rw [hg]; exact (below_size (by repeat with_reducible first | exact HB.out | apply bA | apply bN | apply bD)) : w.heap.size ≤ gb273)); have GE273 := GW273; replace HB := Aside0.mk (below_step (by repeat with_reducible first | exact HB.out | apply bA | apply bN | apply bD) hb); clear hb hbox hg) | ((with_reducible refine gate_dst (N := 3) rfl ?_); refine box_event ?hg (N := 3) ?hd (cs := #[.int .i64 a1_0, .int .i64 a1_1]) (t := 26) ?hr ?_; (case hd => rfl); (case hg => rfl); (case hr => first | (go_simp; done) | (go_simp; rfl)); intro gb274 hg w22 hbox hb; have BK274 := Aside0.mk (hbox); have GW274 := Aside0.mk ((by rw [hg]; exact (below_size (by repeat with_reducible first | exact HB.out | apply bA | apply bN | apply bD | refine bS ?_ GE273.out)) : w.heap.size ≤ gb274)); have GE274 := GW274; replace HB := Aside0.mk (below_step (by repeat with_reducible first | exact HB.out | apply bA | apply bN | apply bD | refine bS ?_ GE273.out) hb); have NB273_274 := Aside0.mk ((by rw [hg]; exact Nat.ne_of_lt (blk_lt (by with_reducible repeat first | exact BK273.out | apply kN | apply kD | apply kA)) : gb273 ≠ gb274)); have NB274_273 := Aside0.mk ((by rw [hg]; exact Nat.ne_of_gt (blk_lt (by with_reducible repeat first | exact BK273.out | apply kN | apply kD | apply kA)) : gb274 ≠ gb273)); replace BK273 := Aside0.mk (blk_below (o := .cells #[.int .i64 a0_0, .int .i64 a0_1, .slice A0_2 l0_2.length c0_2] 24 (0, 0)) (by with_reducible repeat first | exact BK273.out | apply kN | apply kD | apply kA) hb); clear hb hbox hg; have hnb23 := NB274_273.out; have hnc23 := NB273_274.out; obtain ⟨hcz24_0, hcz24_1, hfz24_0, hfz24_1⟩ := kc2 BK274.out; obtain ⟨hcz25_0, hcz25_1, hcz25_2, hfz25_0, hfz25_1, hfz25_2⟩ := kc3 BK273.out))
  go_ret
  exact ⟨by first | rfl | (simp [errW_none, errW_some] <;> rfl) | (simp [*, errW_none, errW_some] <;> rfl), by repeat with_reducible first | exact HB.out | apply bA | apply bN | apply bD | refine bS ?_ GE273.out | refine bS ?_ GE274.out⟩

end Go.Proofs.Ytmfcgmdecindnaa.X
