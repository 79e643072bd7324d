import Derived.Test.YteflngoiebgdaaaCRoomcX0
import Derived.Test.YteflngoiebgdaaaCRoom41
import Derived.Test.YteflngoiebgdaaaCRoomcX49
import Derived.Test.YteflngoiebgdaaaCRoomcX55
namespace Go.Proofs.Yteflngoiebgdaaa.X
open Go.RowKit YteflngoiebgdaaaW.PrintWords YteflngoiebgdaaaW.PrintLast YteflngoiebgdaaaW.PrintMore
attribute [local go_sem] max2_int min2_int max_two min_two max_three min_three max_four min_four
set_option linter.unusedVariables false
set_option linter.unusedSimpArgs false

/-! ### dancestudioref03_Touch: function 56 -/
mutual
def dancestudioref03_Touch.j0 : Nat → Bool → Int → Int → Int → Int → Int → Int → Int → Int → Int → Int → Option (Bool × Int)
 | 0, _, _, _, _, _, _, _, _, _, _, _ => none
 | k + 1, x22, x475000, x475001, x475002, x475003, x475004, x476000, x476001, x476002, x476003, x476004 => if x22 = true then (some (false, 1)) else ((dancestudioref03_square.f x475000 x475001 x476000 x476001).bind fun t478 => (if t478 < (wrap64 ((wrap64 (x475004 + x476004)) * (wrap64 (x475004 + x476004)))) then (dancestudioref03_Touch.j1 k (wrap64 (x475004 + x476004)) (wrap64 (x475000 - x476000)) (wrap64 (x475001 - x476001)) (wrap64 ((wrap64 (x475002 - x476002)) - (wrap64 (x475000 - x476000)))) (wrap64 ((wrap64 (x475003 - x476003)) - (wrap64 (x475001 - x476001)))) true) else ((dancestudioref03_square.f x475002 x475003 x476002 x476003).bind fun t479 => (dancestudioref03_Touch.j1 k (wrap64 (x475004 + x476004)) (wrap64 (x475000 - x476000)) (wrap64 (x475001 - x476001)) (wrap64 ((wrap64 (x475002 - x476002)) - (wrap64 (x475000 - x476000)))) (wrap64 ((wrap64 (x475003 - x476003)) - (wrap64 (x475001 - x476001)))) (decide (t479 < (wrap64 ((wrap64 (x475004 + x476004)) * (wrap64 (x475004 + x476004))))))))))
def dancestudioref03_Touch.j1 : Nat → Int → Int → Int → Int → Int → Bool → Option (Bool × Int)
 | 0, _, _, _, _, _, _ => none
 | k + 1, x6, x7, x8, x9, x10, x79 => if x79 = true then (some (true, 0)) else (if (wrap64 (-(wrap64 ((wrap64 (x7 * x9)) + (wrap64 (x8 * x10)))))) ≤ 0 then (some (false, 0)) else (if (wrap64 (-(wrap64 ((wrap64 (x7 * x9)) + (wrap64 (x8 * x10)))))) ≥ (wrap64 ((wrap64 (x9 * x9)) + (wrap64 (x10 * x10)))) then (some (false, 0)) else ((dancestudioref01_Compare.f k (wrap64 ((wrap64 (x7 * x10)) - (wrap64 (x8 * x9)))) (wrap64 ((wrap64 (x7 * x10)) - (wrap64 (x8 * x9)))) (wrap64 (x6 * x6)) (wrap64 ((wrap64 (x9 * x9)) + (wrap64 (x10 * x10))))).bind fun bt480 => (some (decide (bt480.1 < 0), 0)))))
end
def dancestudioref03_Touch.f (k : Nat) (a0_0 a0_1 a0_2 a0_3 a0_4 a1_0 a1_1 a1_2 a1_3 a1_4 : Int) : Option (Bool × Int) := (dancestudioref03_motion.f a0_0 a0_1 a0_2 a0_3 a0_4).bind fun t476 => (if t476 = true then ((dancestudioref03_motion.f a1_0 a1_1 a1_2 a1_3 a1_4).bind fun t477 => (dancestudioref03_Touch.j0 k (!t477) a0_0 a0_1 a0_2 a0_3 a0_4 a1_0 a1_1 a1_2 a1_3 a1_4)) else (dancestudioref03_Touch.j0 k true a0_0 a0_1 a0_2 a0_3 a0_4 a1_0 a1_1 a1_2 a1_3 a1_4))
theorem dancestudioref03_Touch.mono_l : ∀ k, (∀ y0 y1 y2 y3 y4 y5 y6 y7 y8 y9 y10, LeO (dancestudioref03_Touch.j0 k y0 y1 y2 y3 y4 y5 y6 y7 y8 y9 y10) (dancestudioref03_Touch.j0 (k + 1) y0 y1 y2 y3 y4 y5 y6 y7 y8 y9 y10)) ∧ (∀ y0 y1 y2 y3 y4 y5, LeO (dancestudioref03_Touch.j1 k y0 y1 y2 y3 y4 y5) (dancestudioref03_Touch.j1 (k + 1) y0 y1 y2 y3 y4 y5))
 | 0 => ⟨fun _ _ _ _ _ _ _ _ _ _ _ r h => by simp [dancestudioref03_Touch.j0] at h, fun _ _ _ _ _ _ r h => by simp [dancestudioref03_Touch.j1] at h⟩
 | k + 1 => by
  obtain ⟨ih0, ih1⟩ := dancestudioref03_Touch.mono_l k
  refine ⟨?_, ?_⟩
  ·
   intro y0 y1 y2 y3 y4 y5 y6 y7 y8 y9 y10
   unfold dancestudioref03_Touch.j0
   repeat' first
   | (with_reducible exact ih0 _ _ _ _ _ _ _ _ _ _ _)
   | (with_reducible exact ih1 _ _ _ _ _ _)
   | (with_reducible exact dancestudioref01_Compare.mono _ _ _ _ _)
   | (with_reducible exact LeO.refl _)
   | (with_reducible exact LeO.none _)
   | (with_reducible refine LeO.ite ?_ ?_)
   | (with_reducible refine LeO.bind ?_ (fun _ => ?_))
   | exact ih0 _ _ _ _ _ _ _ _ _ _ _
   | exact ih1 _ _ _ _ _ _
   | exact dancestudioref01_Compare.mono _ _ _ _ _
   | exact LeO.none _
   | refine LeO.ite ?_ ?_
   | refine LeO.bind ?_ (fun _ => ?_)
  ·
   intro y0 y1 y2 y3 y4 y5
   unfold dancestudioref03_Touch.j1
   repeat' first
   | (with_reducible exact ih0 _ _ _ _ _ _ _ _ _ _ _)
   | (with_reducible exact ih1 _ _ _ _ _ _)
   | (with_reducible exact dancestudioref01_Compare.mono _ _ _ _ _)
   | (with_reducible exact LeO.refl _)
   | (with_reducible exact LeO.none _)
   | (with_reducible refine LeO.ite ?_ ?_)
   | (with_reducible refine LeO.bind ?_ (fun _ => ?_))
   | exact ih0 _ _ _ _ _ _ _ _ _ _ _
   | exact ih1 _ _ _ _ _ _
   | exact dancestudioref01_Compare.mono _ _ _ _ _
   | exact LeO.none _
   | refine LeO.ite ?_ ?_
   | refine LeO.bind ?_ (fun _ => ?_)
theorem dancestudioref03_Touch.mono : ∀ a0 a1 a2 a3 a4 a5 a6 a7 a8 a9 k, LeO (dancestudioref03_Touch.f k a0 a1 a2 a3 a4 a5 a6 a7 a8 a9) (dancestudioref03_Touch.f (k + 1) a0 a1 a2 a3 a4 a5 a6 a7 a8 a9) := by
 intro a0 a1 a2 a3 a4 a5 a6 a7 a8 a9 k
 obtain ⟨ih0, ih1⟩ := dancestudioref03_Touch.mono_l k
 unfold dancestudioref03_Touch.f
 repeat' first
   | (with_reducible exact ih0 _ _ _ _ _ _ _ _ _ _ _)
   | (with_reducible exact ih1 _ _ _ _ _ _)
   | (with_reducible exact dancestudioref01_Compare.mono _ _ _ _ _)
   | (with_reducible exact LeO.refl _)
   | (with_reducible exact LeO.none _)
   | (with_reducible refine LeO.ite ?_ ?_)
   | (with_reducible refine LeO.bind ?_ (fun _ => ?_))
   | exact ih0 _ _ _ _ _ _ _ _ _ _ _
   | exact ih1 _ _ _ _ _ _
   | exact dancestudioref01_Compare.mono _ _ _ _ _
   | exact LeO.none _
   | refine LeO.ite ?_ ?_
   | refine LeO.bind ?_ (fun _ => ?_)
set_option maxHeartbeats 8000000 in
set_option maxRecDepth 100000 in
theorem dancestudioref03_Touch.calls (k : Nat) (a0_0 a0_1 a0_2 a0_3 a0_4 a1_0 a1_1 a1_2 a1_3 a1_4 : Int) (r1 : Bool) (r2 : Int) (w : World) (h : dancestudioref03_Touch.f k a0_0 a0_1 a0_2 a0_3 a0_4 a1_0 a1_1 a1_2 a1_3 a1_4 = some (r1, r2)) :
  Calls Try.prog 56 #[.agg #[.int .i64 a0_0, .int .i64 a0_1, .int .i64 a0_2, .int .i64 a0_3, .int .i64 a0_4], .agg #[.int .i64 a1_0, .int .i64 a1_1, .int .i64 a1_2, .int .i64 a1_3, .int .i64 a1_4]] w fun e w' => e = .returned (.tuple #[.bool r1, .int .i64 r2]) ∧ Below w.heap.size w w' := by
 have hu72 := Try.underlying72
 have hu49 := Try.underlying49
 have HB := am (Below.refl w.heap.size w)
 have H : ((dancestudioref03_motion.f a0_0 a0_1 a0_2 a0_3 a0_4).bind fun t476 => (if t476 = true then ((dancestudioref03_motion.f a1_0 a1_1 a1_2 a1_3 a1_4).bind fun t477 => (dancestudioref03_Touch.j0 k (!t477) a0_0 a0_1 a0_2 a0_3 a0_4 a1_0 a1_1 a1_2 a1_3 a1_4)) else (dancestudioref03_Touch.j0 k true a0_0 a0_1 a0_2 a0_3 a0_4 a1_0 a1_1 a1_2 a1_3 a1_4))) = some (r1, r2) := h
 clear h
 have HC3 := am H
 clear H
 go_enter Try.func56, Try.ntmps56
 go_upto_region 1 with (first | ((with_reducible refine gate_dst (N := 2) rfl ?_); refine box_event yz (N := 2) yz (cs := #[.int .i64 a0_0, .int .i64 a0_1, .int .i64 a0_2, .int .i64 a0_3, .int .i64 a0_4]) (t := 72) gz ?_; intro gb474 hg w4 hbox hb; have BK474 := am (hbox); have GW474 := gwz (g := gb474) HB hg; have GE474 := GW474; replace HB := am (below_step bz hb); clear hb hbox hg) | ((with_reducible refine gate_dst (N := 3) rfl ?_); refine box_event yz (N := 3) yz (cs := #[.int .i64 a1_0, .int .i64 a1_1, .int .i64 a1_2, .int .i64 a1_3, .int .i64 a1_4]) (t := 72) gz ?_; intro gb475 hg w5 hbox hb; have BK475 := am (hbox); have GW475 := gwz (g := gb475) HB hg; have GE475 := GW475; replace HB := am (below_step bz hb); have NB474_475 := nlt (g' := gb475) BK474 hg; have NB475_474 := ngt (g' := gb475) BK474 hg; replace BK474 := am (blk_below (o := .cells #[.int .i64 a0_0, .int .i64 a0_1, .int .i64 a0_2, .int .i64 a0_3, .int .i64 a0_4] 72 (0, 0)) (kz BK474) hb); clear hb hbox hg))
 repeat (go_quiet (fail); go_upto_region 1 with (fail))
 (try simp only [Act.put, List.setIfInBounds_toArray, List.set_cons_zero, List.set_cons_succ])
 go_cut [22] (fun v22 wc => ∃ (kq : Nat) (x22_2 : Bool), v22 = .bool x22_2 ∧ Aside0 (dancestudioref03_Touch.j0 kq x22_2 a0_0 a0_1 a0_2 a0_3 a0_4 a1_0 a1_1 a1_2 a1_3 a1_4 = some (r1, r2)) ∧ Aside0 (kq ≤ k) ∧ Aside0 (wc.heap[gb474]? = some (.cells #[.int .i64 a0_0, .int .i64 a0_1, .int .i64 a0_2, .int .i64 a0_3, .int .i64 a0_4] 72 (0, 0))) ∧ Aside0 (wc.heap[gb475]? = some (.cells #[.int .i64 a1_0, .int .i64 a1_1, .int .i64 a1_2, .int .i64 a1_3, .int .i64 a1_4] 72 (0, 0))) ∧ Aside0 (Below w.heap.size w wc))
 case first =>
  have H := HC3.out
  clear HC3
  replace H := Option.bind_eq_some_iff.mp H
  obtain ⟨t476, A60, H⟩ := H
  replace H : (if t476 = true then ((dancestudioref03_motion.f a1_0 a1_1 a1_2 a1_3 a1_4).bind fun t477 => (dancestudioref03_Touch.j0 k (!t477) a0_0 a0_1 a0_2 a0_3 a0_4 a1_0 a1_1 a1_2 a1_3 a1_4)) else (dancestudioref03_Touch.j0 k true a0_0 a0_1 a0_2 a0_3 a0_4 a1_0 a1_1 a1_2 a1_3 a1_4)) = some (r1, r2) := H
  have A6 := am A60
  clear A60
  by_cases c7 : t476 = true
  ·
   subst c7
   have H1 : ((dancestudioref03_motion.f a1_0 a1_1 a1_2 a1_3 a1_4).bind fun t477 => (dancestudioref03_Touch.j0 k (!t477) a0_0 a0_1 a0_2 a0_3 a0_4 a1_0 a1_1 a1_2 a1_3 a1_4)) = some (r1, r2) := by rw [if_pos rfl] at H; exact H
   clear H
   have H := H1
   clear H1
   replace H := Option.bind_eq_some_iff.mp H
   obtain ⟨t477, A80, H⟩ := H
   replace H : (dancestudioref03_Touch.j0 k (!t477) a0_0 a0_1 a0_2 a0_3 a0_4 a1_0 a1_1 a1_2 a1_3 a1_4) = some (r1, r2) := H
   have A8 := am A80
   clear A80
   have H' := am H
   clear H
   have hnb9 := NB474_475.out
   have hnc9 := NB475_474.out
   obtain ⟨hcz10_0, hcz10_1, hcz10_2, hcz10_3, hcz10_4, hfz10_0, hfz10_1, hfz10_2, hfz10_3, hfz10_4⟩ := kc5 BK474.out
   go_wp2_with (first | (go_at_call 70; (with_reducible refine (dancestudioref03_motion.calls a0_0 a0_1 a0_2 a0_3 a0_4 true _ A6.out).mono ?_); rintro e w11 ⟨rfl, hb⟩; replace BK474 := am (blk_below (o := .cells #[.int .i64 a0_0, .int .i64 a0_1, .int .i64 a0_2, .int .i64 a0_3, .int .i64 a0_4] 72 (0, 0)) (kz BK474) hb); replace BK475 := am (blk_below (o := .cells #[.int .i64 a1_0, .int .i64 a1_1, .int .i64 a1_2, .int .i64 a1_3, .int .i64 a1_4] 72 (0, 0)) (kz BK475) hb); replace HB := am (below_step bz hb); (try clear hb); (try clear hb2); (try clear hk); (try clear hi); obtain ⟨hcz12_0, hcz12_1, hcz12_2, hcz12_3, hcz12_4, hfz12_0, hfz12_1, hfz12_2, hfz12_3, hfz12_4⟩ := kc5 BK475.out) | (go_at_call 70; (with_reducible refine (dancestudioref03_motion.calls a1_0 a1_1 a1_2 a1_3 a1_4 t477 _ A8.out).mono ?_); rintro e w13 ⟨rfl, hb⟩; replace BK474 := am (blk_below (o := .cells #[.int .i64 a0_0, .int .i64 a0_1, .int .i64 a0_2, .int .i64 a0_3, .int .i64 a0_4] 72 (0, 0)) (kz BK474) hb); replace BK475 := am (blk_below (o := .cells #[.int .i64 a1_0, .int .i64 a1_1, .int .i64 a1_2, .int .i64 a1_3, .int .i64 a1_4] 72 (0, 0)) (kz BK475) hb); replace HB := am (below_step bz hb); (try clear hb); (try clear hb2); (try clear hk); (try clear hi)))
   repeat (go_quiet (fail); try go_wp2_with (fail))
   go_meet
   case rel => exact ⟨_, (!t477), sz, H', ⟨by first | omega | exact Nat.le_refl _⟩, ⟨kz BK474⟩, ⟨kz BK475⟩, ⟨bz⟩⟩
  ·
   replace c7 := Bool.eq_false_iff.mpr c7
   subst c7
   have H1 : (dancestudioref03_Touch.j0 k true a0_0 a0_1 a0_2 a0_3 a0_4 a1_0 a1_1 a1_2 a1_3 a1_4) = some (r1, r2) := by rw [if_neg (show ¬ (false = true) by decide)] at H; exact H
   clear H
   have H := H1
   clear H1
   have H' := am H
   clear H
   have hnb14 := NB474_475.out
   have hnc14 := NB475_474.out
   obtain ⟨hcz15_0, hcz15_1, hcz15_2, hcz15_3, hcz15_4, hfz15_0, hfz15_1, hfz15_2, hfz15_3, hfz15_4⟩ := kc5 BK474.out
   go_wp2_with (first | (go_at_call 70; (with_reducible refine (dancestudioref03_motion.calls a0_0 a0_1 a0_2 a0_3 a0_4 false _ A6.out).mono ?_); rintro e w16 ⟨rfl, hb⟩; replace BK474 := am (blk_below (o := .cells #[.int .i64 a0_0, .int .i64 a0_1, .int .i64 a0_2, .int .i64 a0_3, .int .i64 a0_4] 72 (0, 0)) (kz BK474) hb); replace BK475 := am (blk_below (o := .cells #[.int .i64 a1_0, .int .i64 a1_1, .int .i64 a1_2, .int .i64 a1_3, .int .i64 a1_4] 72 (0, 0)) (kz BK475) hb); replace HB := am (below_step bz hb); (try clear hb); (try clear hb2); (try clear hk); (try clear hi)))
   repeat (go_quiet (fail); try go_wp2_with (fail))
   go_meet
   case rel => exact ⟨_, (true), sz, H', ⟨by first | omega | exact Nat.le_refl _⟩, ⟨kz BK474⟩, ⟨kz BK475⟩, ⟨bz⟩⟩
 case rest =>
  clear HC3
  try clear c1
  try clear p2
  try clear c5
  try clear c7
  try clear c9
  try clear c14
  try clear hcz10_0
  try clear hcz10_1
  try clear hcz10_2
  try clear hcz10_3
  try clear hcz10_4
  try clear hcz12_0
  try clear hcz12_1
  try clear hcz12_2
  try clear hcz12_3
  try clear hcz12_4
  try clear hcz15_0
  try clear hcz15_1
  try clear hcz15_2
  try clear hcz15_3
  try clear hcz15_4
  try clear hfz10_0
  try clear hfz10_1
  try clear hfz10_2
  try clear hfz10_3
  try clear hfz10_4
  try clear hfz12_0
  try clear hfz12_1
  try clear hfz12_2
  try clear hfz12_3
  try clear hfz12_4
  try clear hfz15_0
  try clear hfz15_1
  try clear hfz15_2
  try clear hfz15_3
  try clear hfz15_4
  obtain ⟨kq, x22_2, rfl, HA, HJ2, BK474, BK475, HB⟩ := hcut
  cases kq with
  | zero => exact absurd HA.out (by simp [dancestudioref03_Touch.j0])
  | succ kj2 =>
   have H := HA.out
   clear HA
   simp only [dancestudioref03_Touch.j0] at H
   by_cases c17 : x22_2 = true
   ·
    subst c17
    have H1 : (some (false, 1)) = some (r1, r2) := by rw [if_pos rfl] at H; exact H
    clear H
    have H := H1
    clear H1
    simp only [Option.some.injEq, Prod.mk.injEq] at H
    obtain ⟨rfl, rfl⟩ := H
    go_wp2
    repeat (go_quiet (fail); try go_wp2)
    go_ret2
    exact ⟨ez, bz⟩
   ·
    replace c17 := Bool.eq_false_iff.mpr c17
    subst c17
    have H1 : ((dancestudioref03_square.f a0_0 a0_1 a1_0 a1_1).bind fun t478 => (if t478 < (wrap64 ((wrap64 (a0_4 + a1_4)) * (wrap64 (a0_4 + a1_4)))) then (dancestudioref03_Touch.j1 kj2 (wrap64 (a0_4 + a1_4)) (wrap64 (a0_0 - a1_0)) (wrap64 (a0_1 - a1_1)) (wrap64 ((wrap64 (a0_2 - a1_2)) - (wrap64 (a0_0 - a1_0)))) (wrap64 ((wrap64 (a0_3 - a1_3)) - (wrap64 (a0_1 - a1_1)))) true) else ((dancestudioref03_square.f a0_2 a0_3 a1_2 a1_3).bind fun t479 => (dancestudioref03_Touch.j1 kj2 (wrap64 (a0_4 + a1_4)) (wrap64 (a0_0 - a1_0)) (wrap64 (a0_1 - a1_1)) (wrap64 ((wrap64 (a0_2 - a1_2)) - (wrap64 (a0_0 - a1_0)))) (wrap64 ((wrap64 (a0_3 - a1_3)) - (wrap64 (a0_1 - a1_1)))) (decide (t479 < (wrap64 ((wrap64 (a0_4 + a1_4)) * (wrap64 (a0_4 + a1_4)))))))))) = some (r1, r2) := by rw [if_neg (show ¬ (false = true) by decide)] at H; exact H
    clear H
    have H := H1
    clear H1
    have HC18 := am H
    clear H
    have hnb19 := NB474_475.out
    have hnc19 := NB475_474.out
    obtain ⟨hcz20_0, hcz20_1, hcz20_2, hcz20_3, hcz20_4, hfz20_0, hfz20_1, hfz20_2, hfz20_3, hfz20_4⟩ := kc5 BK474.out
    obtain ⟨hcz21_0, hcz21_1, hcz21_2, hcz21_3, hcz21_4, hfz21_0, hfz21_1, hfz21_2, hfz21_3, hfz21_4⟩ := kc5 BK475.out
    go_upto_region 6 with (fail)
    repeat (go_quiet (fail); go_upto_region 6 with (fail))
    go_cut [79] (fun v79 wc => ∃ (kq : Nat) (x79_17 : Bool), v79 = .bool x79_17 ∧ Aside0 (dancestudioref03_Touch.j1 kq (wrap64 (a0_4 + a1_4)) (wrap64 (a0_0 - a1_0)) (wrap64 (a0_1 - a1_1)) (wrap64 ((wrap64 (a0_2 - a1_2)) - (wrap64 (a0_0 - a1_0)))) (wrap64 ((wrap64 (a0_3 - a1_3)) - (wrap64 (a0_1 - a1_1)))) x79_17 = some (r1, r2)) ∧ Aside0 (kq ≤ kj2) ∧ Aside0 (wc.heap[gb474]? = some (.cells #[.int .i64 a0_0, .int .i64 a0_1, .int .i64 a0_2, .int .i64 a0_3, .int .i64 a0_4] 72 (0, 0))) ∧ Aside0 (wc.heap[gb475]? = some (.cells #[.int .i64 a1_0, .int .i64 a1_1, .int .i64 a1_2, .int .i64 a1_3, .int .i64 a1_4] 72 (0, 0))) ∧ Aside0 (Below w.heap.size w wc))
    case first =>
     have H := HC18.out
     clear HC18
     replace H := Option.bind_eq_some_iff.mp H
     obtain ⟨t478, A220, H⟩ := H
     replace H : (if t478 < (wrap64 ((wrap64 (a0_4 + a1_4)) * (wrap64 (a0_4 + a1_4)))) then (dancestudioref03_Touch.j1 kj2 (wrap64 (a0_4 + a1_4)) (wrap64 (a0_0 - a1_0)) (wrap64 (a0_1 - a1_1)) (wrap64 ((wrap64 (a0_2 - a1_2)) - (wrap64 (a0_0 - a1_0)))) (wrap64 ((wrap64 (a0_3 - a1_3)) - (wrap64 (a0_1 - a1_1)))) true) else ((dancestudioref03_square.f a0_2 a0_3 a1_2 a1_3).bind fun t479 => (dancestudioref03_Touch.j1 kj2 (wrap64 (a0_4 + a1_4)) (wrap64 (a0_0 - a1_0)) (wrap64 (a0_1 - a1_1)) (wrap64 ((wrap64 (a0_2 - a1_2)) - (wrap64 (a0_0 - a1_0)))) (wrap64 ((wrap64 (a0_3 - a1_3)) - (wrap64 (a0_1 - a1_1)))) (decide (t479 < (wrap64 ((wrap64 (a0_4 + a1_4)) * (wrap64 (a0_4 + a1_4))))))))) = some (r1, r2) := H
     have A22 := am A220
     clear A220
     by_cases c23 : t478 < (wrap64 ((wrap64 (a0_4 + a1_4)) * (wrap64 (a0_4 + a1_4))))
     ·
      rw [if_pos c23] at H
      have c23b0 := decide_eq_true c23
      clear c23
      (first | rw [c23b0] | (simp only [i64_w, i32_w]; rw [c23b0]) | skip)
      have H' := am H
      clear H
      have hnb24 := NB474_475.out
      have hnc24 := NB475_474.out
      obtain ⟨hcz25_0, hcz25_1, hcz25_2, hcz25_3, hcz25_4, hfz25_0, hfz25_1, hfz25_2, hfz25_3, hfz25_4⟩ := kc5 BK474.out
      obtain ⟨hcz26_0, hcz26_1, hcz26_2, hcz26_3, hcz26_4, hfz26_0, hfz26_1, hfz26_2, hfz26_3, hfz26_4⟩ := kc5 BK475.out
      go_wp2_with (first | (go_at_call 59; (with_reducible refine (dancestudioref03_square.calls a0_0 a0_1 a1_0 a1_1 t478 _ A22.out).mono ?_); rintro e w27 ⟨rfl, hb⟩; replace BK474 := am (blk_below (o := .cells #[.int .i64 a0_0, .int .i64 a0_1, .int .i64 a0_2, .int .i64 a0_3, .int .i64 a0_4] 72 (0, 0)) (kz BK474) hb); replace BK475 := am (blk_below (o := .cells #[.int .i64 a1_0, .int .i64 a1_1, .int .i64 a1_2, .int .i64 a1_3, .int .i64 a1_4] 72 (0, 0)) (kz BK475) hb); replace HB := am (below_step bz hb); (try clear hb); (try clear hb2); (try clear hk); (try clear hi)))
      repeat (go_quiet (fail); try go_wp2_with (fail))
      go_meet
      case rel => exact ⟨_, (true), sz, H', ⟨by have := HJ2.out; first | omega | exact Nat.le_refl _⟩, ⟨kz BK474⟩, ⟨kz BK475⟩, ⟨bz⟩⟩
     ·
      rw [if_neg c23] at H
      have c23b0 := decide_eq_false c23
      clear c23
      (first | rw [c23b0] | (simp only [i64_w, i32_w]; rw [c23b0]) | skip)
      replace H := Option.bind_eq_some_iff.mp H
      obtain ⟨t479, A280, H⟩ := H
      replace H : (dancestudioref03_Touch.j1 kj2 (wrap64 (a0_4 + a1_4)) (wrap64 (a0_0 - a1_0)) (wrap64 (a0_1 - a1_1)) (wrap64 ((wrap64 (a0_2 - a1_2)) - (wrap64 (a0_0 - a1_0)))) (wrap64 ((wrap64 (a0_3 - a1_3)) - (wrap64 (a0_1 - a1_1)))) (decide (t479 < (wrap64 ((wrap64 (a0_4 + a1_4)) * (wrap64 (a0_4 + a1_4))))))) = some (r1, r2) := H
      have A28 := am A280
      clear A280
      have H' := am H
      clear H
      have hnb29 := NB474_475.out
      have hnc29 := NB475_474.out
      obtain ⟨hcz30_0, hcz30_1, hcz30_2, hcz30_3, hcz30_4, hfz30_0, hfz30_1, hfz30_2, hfz30_3, hfz30_4⟩ := kc5 BK474.out
      obtain ⟨hcz31_0, hcz31_1, hcz31_2, hcz31_3, hcz31_4, hfz31_0, hfz31_1, hfz31_2, hfz31_3, hfz31_4⟩ := kc5 BK475.out
      go_wp2_with (first | (go_at_call 59; (with_reducible refine (dancestudioref03_square.calls a0_0 a0_1 a1_0 a1_1 t478 _ A22.out).mono ?_); rintro e w32 ⟨rfl, hb⟩; replace BK474 := am (blk_below (o := .cells #[.int .i64 a0_0, .int .i64 a0_1, .int .i64 a0_2, .int .i64 a0_3, .int .i64 a0_4] 72 (0, 0)) (kz BK474) hb); replace BK475 := am (blk_below (o := .cells #[.int .i64 a1_0, .int .i64 a1_1, .int .i64 a1_2, .int .i64 a1_3, .int .i64 a1_4] 72 (0, 0)) (kz BK475) hb); replace HB := am (below_step bz hb); (try clear hb); (try clear hb2); (try clear hk); (try clear hi); obtain ⟨hcz33_0, hcz33_1, hcz33_2, hcz33_3, hcz33_4, hfz33_0, hfz33_1, hfz33_2, hfz33_3, hfz33_4⟩ := kc5 BK474.out; obtain ⟨hcz34_0, hcz34_1, hcz34_2, hcz34_3, hcz34_4, hfz34_0, hfz34_1, hfz34_2, hfz34_3, hfz34_4⟩ := kc5 BK475.out) | (go_at_call 59; (with_reducible refine (dancestudioref03_square.calls a0_2 a0_3 a1_2 a1_3 t479 _ A28.out).mono ?_); rintro e w35 ⟨rfl, hb⟩; replace BK474 := am (blk_below (o := .cells #[.int .i64 a0_0, .int .i64 a0_1, .int .i64 a0_2, .int .i64 a0_3, .int .i64 a0_4] 72 (0, 0)) (kz BK474) hb); replace BK475 := am (blk_below (o := .cells #[.int .i64 a1_0, .int .i64 a1_1, .int .i64 a1_2, .int .i64 a1_3, .int .i64 a1_4] 72 (0, 0)) (kz BK475) hb); replace HB := am (below_step bz hb); (try clear hb); (try clear hb2); (try clear hk); (try clear hi)))
      repeat (go_quiet (fail); try go_wp2_with (fail))
      go_meet
      case rel => exact ⟨_, (decide (t479 < (wrap64 ((wrap64 (a0_4 + a1_4)) * (wrap64 (a0_4 + a1_4)))))), sz, H', ⟨by have := HJ2.out; first | omega | exact Nat.le_refl _⟩, ⟨kz BK474⟩, ⟨kz BK475⟩, ⟨bz⟩⟩
    case rest =>
     clear HC18
     try clear c1
     try clear c2
     try clear p2
     try clear c5
     try clear p6
     try clear c7
     try clear c9
     try clear c14
     try clear c17
     try clear c19
     try clear c23
     try clear c23b0
     try clear c24
     try clear c29
     try clear hcz10_0
     try clear hcz10_1
     try clear hcz10_2
     try clear hcz10_3
     try clear hcz10_4
     try clear hcz12_0
     try clear hcz12_1
     try clear hcz12_2
     try clear hcz12_3
     try clear hcz12_4
     try clear hcz15_0
     try clear hcz15_1
     try clear hcz15_2
     try clear hcz15_3
     try clear hcz15_4
     try clear hcz20_0
     try clear hcz20_1
     try clear hcz20_2
     try clear hcz20_3
     try clear hcz20_4
     try clear hcz21_0
     try clear hcz21_1
     try clear hcz21_2
     try clear hcz21_3
     try clear hcz21_4
     try clear hcz25_0
     try clear hcz25_1
     try clear hcz25_2
     try clear hcz25_3
     try clear hcz25_4
     try clear hcz26_0
     try clear hcz26_1
     try clear hcz26_2
     try clear hcz26_3
     try clear hcz26_4
     try clear hcz30_0
     try clear hcz30_1
     try clear hcz30_2
     try clear hcz30_3
     try clear hcz30_4
     try clear hcz31_0
     try clear hcz31_1
     try clear hcz31_2
     try clear hcz31_3
     try clear hcz31_4
     try clear hcz33_0
     try clear hcz33_1
     try clear hcz33_2
     try clear hcz33_3
     try clear hcz33_4
     try clear hcz34_0
     try clear hcz34_1
     try clear hcz34_2
     try clear hcz34_3
     try clear hcz34_4
     try clear hfz10_0
     try clear hfz10_1
     try clear hfz10_2
     try clear hfz10_3
     try clear hfz10_4
     try clear hfz12_0
     try clear hfz12_1
     try clear hfz12_2
     try clear hfz12_3
     try clear hfz12_4
     try clear hfz15_0
     try clear hfz15_1
     try clear hfz15_2
     try clear hfz15_3
     try clear hfz15_4
     try clear hfz20_0
     try clear hfz20_1
     try clear hfz20_2
     try clear hfz20_3
     try clear hfz20_4
     try clear hfz21_0
     try clear hfz21_1
     try clear hfz21_2
     try clear hfz21_3
     try clear hfz21_4
     try clear hfz25_0
     try clear hfz25_1
     try clear hfz25_2
     try clear hfz25_3
     try clear hfz25_4
     try clear hfz26_0
     try clear hfz26_1
     try clear hfz26_2
     try clear hfz26_3
     try clear hfz26_4
     try clear hfz30_0
     try clear hfz30_1
     try clear hfz30_2
     try clear hfz30_3
     try clear hfz30_4
     try clear hfz31_0
     try clear hfz31_1
     try clear hfz31_2
     try clear hfz31_3
     try clear hfz31_4
     try clear hfz33_0
     try clear hfz33_1
     try clear hfz33_2
     try clear hfz33_3
     try clear hfz33_4
     try clear hfz34_0
     try clear hfz34_1
     try clear hfz34_2
     try clear hfz34_3
     try clear hfz34_4
     try clear p2
     obtain ⟨kq, x79_17, rfl, HA, HJ17, BK474, BK475, HB⟩ := hcut
     cases kq with
     | zero => exact absurd HA.out (by simp [dancestudioref03_Touch.j1])
     | succ kj17 =>
      have H := HA.out
      clear HA
      simp only [dancestudioref03_Touch.j1] at H
      by_cases c36 : x79_17 = true
      ·
       subst c36
       have H1 : (some (true, 0)) = some (r1, r2) := by rw [if_pos rfl] at H; exact H
       clear H
       have H := H1
       clear H1
       simp only [Option.some.injEq, Prod.mk.injEq] at H
       obtain ⟨rfl, rfl⟩ := H
       go_wp2
       repeat (go_quiet (fail); try go_wp2)
       go_ret2
       exact ⟨ez, bz⟩
      ·
       replace c36 := Bool.eq_false_iff.mpr c36
       subst c36
       have H1 : (if (wrap64 (-(wrap64 ((wrap64 ((wrap64 (a0_0 - a1_0)) * (wrap64 ((wrap64 (a0_2 - a1_2)) - (wrap64 (a0_0 - a1_0)))))) + (wrap64 ((wrap64 (a0_1 - a1_1)) * (wrap64 ((wrap64 (a0_3 - a1_3)) - (wrap64 (a0_1 - a1_1)))))))))) ≤ 0 then (some (false, 0)) else (if (wrap64 (-(wrap64 ((wrap64 ((wrap64 (a0_0 - a1_0)) * (wrap64 ((wrap64 (a0_2 - a1_2)) - (wrap64 (a0_0 - a1_0)))))) + (wrap64 ((wrap64 (a0_1 - a1_1)) * (wrap64 ((wrap64 (a0_3 - a1_3)) - (wrap64 (a0_1 - a1_1)))))))))) ≥ (wrap64 ((wrap64 ((wrap64 ((wrap64 (a0_2 - a1_2)) - (wrap64 (a0_0 - a1_0)))) * (wrap64 ((wrap64 (a0_2 - a1_2)) - (wrap64 (a0_0 - a1_0)))))) + (wrap64 ((wrap64 ((wrap64 (a0_3 - a1_3)) - (wrap64 (a0_1 - a1_1)))) * (wrap64 ((wrap64 (a0_3 - a1_3)) - (wrap64 (a0_1 - a1_1)))))))) then (some (false, 0)) else ((dancestudioref01_Compare.f kj17 (wrap64 ((wrap64 ((wrap64 (a0_0 - a1_0)) * (wrap64 ((wrap64 (a0_3 - a1_3)) - (wrap64 (a0_1 - a1_1)))))) - (wrap64 ((wrap64 (a0_1 - a1_1)) * (wrap64 ((wrap64 (a0_2 - a1_2)) - (wrap64 (a0_0 - a1_0)))))))) (wrap64 ((wrap64 ((wrap64 (a0_0 - a1_0)) * (wrap64 ((wrap64 (a0_3 - a1_3)) - (wrap64 (a0_1 - a1_1)))))) - (wrap64 ((wrap64 (a0_1 - a1_1)) * (wrap64 ((wrap64 (a0_2 - a1_2)) - (wrap64 (a0_0 - a1_0)))))))) (wrap64 ((wrap64 (a0_4 + a1_4)) * (wrap64 (a0_4 + a1_4)))) (wrap64 ((wrap64 ((wrap64 ((wrap64 (a0_2 - a1_2)) - (wrap64 (a0_0 - a1_0)))) * (wrap64 ((wrap64 (a0_2 - a1_2)) - (wrap64 (a0_0 - a1_0)))))) + (wrap64 ((wrap64 ((wrap64 (a0_3 - a1_3)) - (wrap64 (a0_1 - a1_1)))) * (wrap64 ((wrap64 (a0_3 - a1_3)) - (wrap64 (a0_1 - a1_1))))))))).bind fun bt480 => (some (decide (bt480.1 < 0), 0))))) = some (r1, r2) := by rw [if_neg (show ¬ (false = true) by decide)] at H; exact H
       clear H
       have H := H1
       clear H1
       by_cases c37 : (wrap64 (-(wrap64 ((wrap64 ((wrap64 (a0_0 - a1_0)) * (wrap64 ((wrap64 (a0_2 - a1_2)) - (wrap64 (a0_0 - a1_0)))))) + (wrap64 ((wrap64 (a0_1 - a1_1)) * (wrap64 ((wrap64 (a0_3 - a1_3)) - (wrap64 (a0_1 - a1_1)))))))))) ≤ 0
       ·
        rw [if_pos c37] at H
        have c37b0 := decide_eq_true c37
        clear c37
        simp only [Option.some.injEq, Prod.mk.injEq] at H
        obtain ⟨rfl, rfl⟩ := H
        go_wp2
        repeat (go_quiet (fail); try go_wp2)
        go_ret2
        exact ⟨ez, bz⟩
       ·
        rw [if_neg c37] at H
        have c37b0 := decide_eq_false c37
        clear c37
        by_cases c38 : (wrap64 (-(wrap64 ((wrap64 ((wrap64 (a0_0 - a1_0)) * (wrap64 ((wrap64 (a0_2 - a1_2)) - (wrap64 (a0_0 - a1_0)))))) + (wrap64 ((wrap64 (a0_1 - a1_1)) * (wrap64 ((wrap64 (a0_3 - a1_3)) - (wrap64 (a0_1 - a1_1)))))))))) ≥ (wrap64 ((wrap64 ((wrap64 ((wrap64 (a0_2 - a1_2)) - (wrap64 (a0_0 - a1_0)))) * (wrap64 ((wrap64 (a0_2 - a1_2)) - (wrap64 (a0_0 - a1_0)))))) + (wrap64 ((wrap64 ((wrap64 (a0_3 - a1_3)) - (wrap64 (a0_1 - a1_1)))) * (wrap64 ((wrap64 (a0_3 - a1_3)) - (wrap64 (a0_1 - a1_1))))))))
        ·
         rw [if_pos c38] at H
         have c38b0 := decide_eq_true c38
         clear c38
         simp only [Option.some.injEq, Prod.mk.injEq] at H
         obtain ⟨rfl, rfl⟩ := H
         go_wp2
         repeat (go_quiet (fail); try go_wp2)
         go_ret2
         exact ⟨ez, bz⟩
        ·
         rw [if_neg c38] at H
         have c38b0 := decide_eq_false c38
         clear c38
         replace H := Option.bind_eq_some_iff.mp H
         obtain ⟨⟨t480, t481⟩, A390, H⟩ := H
         replace H : (some (decide (t480 < 0), 0)) = some (r1, r2) := H
         have A39 := am A390
         clear A390
         simp only [Option.some.injEq, Prod.mk.injEq] at H
         obtain ⟨rfl, rfl⟩ := H
         go_wp2_with (first | (go_at_call 71; (with_reducible refine (dancestudioref01_Compare.calls kj17 (wrap64 ((wrap64 ((wrap64 (a0_0 - a1_0)) * (wrap64 ((wrap64 (a0_3 - a1_3)) - (wrap64 (a0_1 - a1_1)))))) - (wrap64 ((wrap64 (a0_1 - a1_1)) * (wrap64 ((wrap64 (a0_2 - a1_2)) - (wrap64 (a0_0 - a1_0)))))))) (wrap64 ((wrap64 ((wrap64 (a0_0 - a1_0)) * (wrap64 ((wrap64 (a0_3 - a1_3)) - (wrap64 (a0_1 - a1_1)))))) - (wrap64 ((wrap64 (a0_1 - a1_1)) * (wrap64 ((wrap64 (a0_2 - a1_2)) - (wrap64 (a0_0 - a1_0)))))))) (wrap64 ((wrap64 (a0_4 + a1_4)) * (wrap64 (a0_4 + a1_4)))) (wrap64 ((wrap64 ((wrap64 ((wrap64 (a0_2 - a1_2)) - (wrap64 (a0_0 - a1_0)))) * (wrap64 ((wrap64 (a0_2 - a1_2)) - (wrap64 (a0_0 - a1_0)))))) + (wrap64 ((wrap64 ((wrap64 (a0_3 - a1_3)) - (wrap64 (a0_1 - a1_1)))) * (wrap64 ((wrap64 (a0_3 - a1_3)) - (wrap64 (a0_1 - a1_1)))))))) t480 t481 _ A39.out).mono ?_); rintro e w40 ⟨rfl, hb⟩; replace BK474 := am (blk_below (o := .cells #[.int .i64 a0_0, .int .i64 a0_1, .int .i64 a0_2, .int .i64 a0_3, .int .i64 a0_4] 72 (0, 0)) (kz BK474) hb); replace BK475 := am (blk_below (o := .cells #[.int .i64 a1_0, .int .i64 a1_1, .int .i64 a1_2, .int .i64 a1_3, .int .i64 a1_4] 72 (0, 0)) (kz BK475) hb); replace HB := am (below_step bz hb); (try clear hb); (try clear hb2); (try clear hk); (try clear hi)))
         repeat (go_quiet (fail); try go_wp2_with (fail))
         go_ret2
         exact ⟨ez, bz⟩

end Go.Proofs.Yteflngoiebgdaaa.X
