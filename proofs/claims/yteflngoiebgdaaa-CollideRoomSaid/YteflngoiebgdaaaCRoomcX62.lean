import Derived.Test.YteflngoiebgdaaaCRoomcX0
import Derived.Test.YteflngoiebgdaaaCRoom41
import Derived.Test.YteflngoiebgdaaaCRoomcX47
namespace Go.Proofs.Yteflngoiebgdaaa.X
open Go.RowKit YteflngoiebgdaaaW.PrintWords YteflngoiebgdaaaW.PrintLast YteflngoiebgdaaaW.PrintMore
attribute [local go_sem] max2_int min2_int max_two min_two max_three min_three max_four min_four
set_option linter.unusedVariables false
set_option linter.unusedSimpArgs false

/-! ### dancestudioref03_Dist2: function 36 -/
def dancestudioref03_Dist2.f (a0_0 a0_1 a1_0 a1_1 : Int) : Option (Int × Int) := (dancestudioref03_Valid.f a0_0 a0_1).bind fun t571 => (if t571 = true then ((dancestudioref03_Valid.f a1_0 a1_1).bind fun t572 => (if t572 = true then ((dancestudioref03_square.f a0_0 a0_1 a1_0 a1_1).bind fun t573 => (some (t573, 0))) else (some (0, 1)))) else (some (0, 1)))
set_option maxHeartbeats 8000000 in
set_option maxRecDepth 100000 in
theorem dancestudioref03_Dist2.calls (a0_0 a0_1 a1_0 a1_1 r1 r2 : Int) (w : World) (h : dancestudioref03_Dist2.f a0_0 a0_1 a1_0 a1_1 = some (r1, r2)) :
  Calls Try.prog 36 #[.agg #[.int .i64 a0_0, .int .i64 a0_1], .agg #[.int .i64 a1_0, .int .i64 a1_1]] w fun e w' => e = .returned (.tuple #[.int .i64 r1, .int .i64 r2]) ∧ Below w.heap.size w w' := by
 have hu49 := Try.underlying49
 have HB := am (Below.refl w.heap.size w)
 have H : ((dancestudioref03_Valid.f a0_0 a0_1).bind fun t571 => (if t571 = true then ((dancestudioref03_Valid.f a1_0 a1_1).bind fun t572 => (if t572 = true then ((dancestudioref03_square.f a0_0 a0_1 a1_0 a1_1).bind fun t573 => (some (t573, 0))) else (some (0, 1)))) else (some (0, 1)))) = some (r1, r2) := h
 clear h
 replace H := Option.bind_eq_some_iff.mp H
 obtain ⟨t571, A30, H⟩ := H
 replace H : (if t571 = true then ((dancestudioref03_Valid.f a1_0 a1_1).bind fun t572 => (if t572 = true then ((dancestudioref03_square.f a0_0 a0_1 a1_0 a1_1).bind fun t573 => (some (t573, 0))) else (some (0, 1)))) else (some (0, 1))) = some (r1, r2) := H
 have A3 := am A30
 clear A30
 by_cases c4 : t571 = true
 ·
  subst c4
  have H1 : ((dancestudioref03_Valid.f a1_0 a1_1).bind fun t572 => (if t572 = true then ((dancestudioref03_square.f a0_0 a0_1 a1_0 a1_1).bind fun t573 => (some (t573, 0))) else (some (0, 1)))) = some (r1, r2) := by rw [if_pos rfl] at H; exact H
  clear H
  have H := H1
  clear H1
  replace H := Option.bind_eq_some_iff.mp H
  obtain ⟨t572, A50, H⟩ := H
  replace H : (if t572 = true then ((dancestudioref03_square.f a0_0 a0_1 a1_0 a1_1).bind fun t573 => (some (t573, 0))) else (some (0, 1))) = some (r1, r2) := H
  have A5 := am A50
  clear A50
  by_cases c6 : t572 = true
  ·
   subst c6
   have H1 : ((dancestudioref03_square.f a0_0 a0_1 a1_0 a1_1).bind fun t573 => (some (t573, 0))) = some (r1, r2) := by rw [if_pos rfl] at H; exact H
   clear H
   have H := H1
   clear H1
   replace H := Option.bind_eq_some_iff.mp H
   obtain ⟨t573, A70, H⟩ := H
   replace H : (some (t573, 0)) = some (r1, r2) := H
   have A7 := am A70
   clear A70
   simp only [Option.some.injEq, Prod.mk.injEq] at H
   obtain ⟨rfl, rfl⟩ := H
   go_enter Try.func36, Try.ntmps36
   go_wp2_with (first | ((with_reducible refine gate_dst (N := 2) rfl ?_); refine box_event yz (N := 2) yz (cs := #[.int .i64 a0_0, .int .i64 a0_1]) (t := 49) gz ?_; intro gb569 hg w8 hbox hb; have BK569 := am (hbox); have GW569 := gwz (g := gb569) HB hg; have GE569 := GW569; replace HB := am (below_step bz hb); clear hb hbox hg) | ((with_reducible refine gate_dst (N := 3) rfl ?_); refine box_event yz (N := 3) yz (cs := #[.int .i64 a1_0, .int .i64 a1_1]) (t := 49) gz ?_; intro gb570 hg w9 hbox hb; have BK570 := am (hbox); have GW570 := gwz (g := gb570) HB hg; have GE570 := GW570; replace HB := am (below_step bz hb); have NB569_570 := nlt (g' := gb570) BK569 hg; have NB570_569 := ngt (g' := gb570) BK569 hg; replace BK569 := am (blk_below (o := .cells #[.int .i64 a0_0, .int .i64 a0_1] 49 (0, 0)) (kz BK569) hb); clear hb hbox hg; have hnb10 := NB569_570.out; have hnc10 := NB570_569.out; obtain ⟨hcz11_0, hcz11_1, hfz11_0, hfz11_1⟩ := kc2 BK569.out) | ((with_reducible refine gate_callee (f := 58) rfl ?_); refine goesL_ (some 7) rfl rfl Try.func58 qz rfl #[.agg #[.int .i64 a0_0, .int .i64 a0_1]] rfl mz ?_; (with_reducible refine (dancestudioref03_Valid.calls a0_0 a0_1 true _ A3.out).mono ?_); rintro e w12 ⟨rfl, hb⟩; refine ⟨_, rfl, ?_⟩; replace BK569 := am (blk_below (o := .cells #[.int .i64 a0_0, .int .i64 a0_1] 49 (0, 0)) (kz BK569) hb); replace BK570 := am (blk_below (o := .cells #[.int .i64 a1_0, .int .i64 a1_1] 49 (0, 0)) (kz BK570) hb); replace HB := am (below_step bz hb); (try clear hb); (try clear hb2); (try clear hk); (try clear hi); obtain ⟨hcz13_0, hcz13_1, hfz13_0, hfz13_1⟩ := kc2 BK570.out) | (go_at_call 58; (with_reducible refine (dancestudioref03_Valid.calls a1_0 a1_1 true _ A5.out).mono ?_); rintro e w14 ⟨rfl, hb⟩; replace BK569 := am (blk_below (o := .cells #[.int .i64 a0_0, .int .i64 a0_1] 49 (0, 0)) (kz BK569) hb); replace BK570 := am (blk_below (o := .cells #[.int .i64 a1_0, .int .i64 a1_1] 49 (0, 0)) (kz BK570) hb); replace HB := am (below_step bz hb); (try clear hb); (try clear hb2); (try clear hk); (try clear hi); obtain ⟨hcz15_0, hcz15_1, hfz15_0, hfz15_1⟩ := kc2 BK569.out; obtain ⟨hcz16_0, hcz16_1, hfz16_0, hfz16_1⟩ := kc2 BK570.out) | ((with_reducible refine gate_callee (f := 59) rfl ?_); refine goesL_ (some 16) rfl rfl Try.func59 qz rfl #[.agg #[.int .i64 a0_0, .int .i64 a0_1], .agg #[.int .i64 a1_0, .int .i64 a1_1]] rfl mz ?_; (with_reducible refine (dancestudioref03_square.calls a0_0 a0_1 a1_0 a1_1 t573 _ A7.out).mono ?_); rintro e w17 ⟨rfl, hb⟩; refine ⟨_, rfl, ?_⟩; replace BK569 := am (blk_below (o := .cells #[.int .i64 a0_0, .int .i64 a0_1] 49 (0, 0)) (kz BK569) hb); replace BK570 := am (blk_below (o := .cells #[.int .i64 a1_0, .int .i64 a1_1] 49 (0, 0)) (kz BK570) hb); replace HB := am (below_step bz hb); (try clear hb); (try clear hb2); (try clear hk); (try clear hi)))
   go_ret2
   exact ⟨ez, bz⟩
  ·
   replace c6 := Bool.eq_false_iff.mpr c6
   subst c6
   have H1 : (some (0, 1)) = some (r1, r2) := by rw [if_neg (show ¬ (false = true) by decide)] at H; exact H
   clear H
   have H := H1
   clear H1
   simp only [Option.some.injEq, Prod.mk.injEq] at H
   obtain ⟨rfl, rfl⟩ := H
   go_enter Try.func36, Try.ntmps36
   go_wp2_with (first | ((with_reducible refine gate_dst (N := 2) rfl ?_); refine box_event yz (N := 2) yz (cs := #[.int .i64 a0_0, .int .i64 a0_1]) (t := 49) gz ?_; intro gb569 hg w18 hbox hb; have BK569 := am (hbox); have GW569 := gwz (g := gb569) HB hg; have GE569 := GW569; replace HB := am (below_step bz hb); clear hb hbox hg) | ((with_reducible refine gate_dst (N := 3) rfl ?_); refine box_event yz (N := 3) yz (cs := #[.int .i64 a1_0, .int .i64 a1_1]) (t := 49) gz ?_; intro gb570 hg w19 hbox hb; have BK570 := am (hbox); have GW570 := gwz (g := gb570) HB hg; have GE570 := GW570; replace HB := am (below_step bz hb); have NB569_570 := nlt (g' := gb570) BK569 hg; have NB570_569 := ngt (g' := gb570) BK569 hg; replace BK569 := am (blk_below (o := .cells #[.int .i64 a0_0, .int .i64 a0_1] 49 (0, 0)) (kz BK569) hb); clear hb hbox hg; have hnb20 := NB569_570.out; have hnc20 := NB570_569.out; obtain ⟨hcz21_0, hcz21_1, hfz21_0, hfz21_1⟩ := kc2 BK569.out) | ((with_reducible refine gate_callee (f := 58) rfl ?_); refine goesL_ (some 7) rfl rfl Try.func58 qz rfl #[.agg #[.int .i64 a0_0, .int .i64 a0_1]] rfl mz ?_; (with_reducible refine (dancestudioref03_Valid.calls a0_0 a0_1 true _ A3.out).mono ?_); rintro e w22 ⟨rfl, hb⟩; refine ⟨_, rfl, ?_⟩; replace BK569 := am (blk_below (o := .cells #[.int .i64 a0_0, .int .i64 a0_1] 49 (0, 0)) (kz BK569) hb); replace BK570 := am (blk_below (o := .cells #[.int .i64 a1_0, .int .i64 a1_1] 49 (0, 0)) (kz BK570) hb); replace HB := am (below_step bz hb); (try clear hb); (try clear hb2); (try clear hk); (try clear hi); obtain ⟨hcz23_0, hcz23_1, hfz23_0, hfz23_1⟩ := kc2 BK570.out) | (go_at_call 58; (with_reducible refine (dancestudioref03_Valid.calls a1_0 a1_1 false _ A5.out).mono ?_); rintro e w24 ⟨rfl, hb⟩; replace BK569 := am (blk_below (o := .cells #[.int .i64 a0_0, .int .i64 a0_1] 49 (0, 0)) (kz BK569) hb); replace BK570 := am (blk_below (o := .cells #[.int .i64 a1_0, .int .i64 a1_1] 49 (0, 0)) (kz BK570) hb); replace HB := am (below_step bz hb); (try clear hb); (try clear hb2); (try clear hk); (try clear hi)))
   go_ret2
   exact ⟨ez, bz⟩
 ·
  replace c4 := Bool.eq_false_iff.mpr c4
  subst c4
  have H1 : (some (0, 1)) = some (r1, r2) := by rw [if_neg (show ¬ (false = true) by decide)] at H; exact H
  clear H
  have H := H1
  clear H1
  simp only [Option.some.injEq, Prod.mk.injEq] at H
  obtain ⟨rfl, rfl⟩ := H
  go_enter Try.func36, Try.ntmps36
  go_wp2_with (first | ((with_reducible refine gate_dst (N := 2) rfl ?_); refine box_event yz (N := 2) yz (cs := #[.int .i64 a0_0, .int .i64 a0_1]) (t := 49) gz ?_; intro gb569 hg w25 hbox hb; have BK569 := am (hbox); have GW569 := gwz (g := gb569) HB hg; have GE569 := GW569; replace HB := am (below_step bz hb); clear hb hbox hg) | ((with_reducible refine gate_dst (N := 3) rfl ?_); refine box_event yz (N := 3) yz (cs := #[.int .i64 a1_0, .int .i64 a1_1]) (t := 49) gz ?_; intro gb570 hg w26 hbox hb; have BK570 := am (hbox); have GW570 := gwz (g := gb570) HB hg; have GE570 := GW570; replace HB := am (below_step bz hb); have NB569_570 := nlt (g' := gb570) BK569 hg; have NB570_569 := ngt (g' := gb570) BK569 hg; replace BK569 := am (blk_below (o := .cells #[.int .i64 a0_0, .int .i64 a0_1] 49 (0, 0)) (kz BK569) hb); clear hb hbox hg; have hnb27 := NB569_570.out; have hnc27 := NB570_569.out; obtain ⟨hcz28_0, hcz28_1, hfz28_0, hfz28_1⟩ := kc2 BK569.out) | ((with_reducible refine gate_callee (f := 58) rfl ?_); refine goesL_ (some 7) rfl rfl Try.func58 qz rfl #[.agg #[.int .i64 a0_0, .int .i64 a0_1]] rfl mz ?_; (with_reducible refine (dancestudioref03_Valid.calls a0_0 a0_1 false _ A3.out).mono ?_); rintro e w29 ⟨rfl, hb⟩; refine ⟨_, rfl, ?_⟩; replace BK569 := am (blk_below (o := .cells #[.int .i64 a0_0, .int .i64 a0_1] 49 (0, 0)) (kz BK569) hb); replace BK570 := am (blk_below (o := .cells #[.int .i64 a1_0, .int .i64 a1_1] 49 (0, 0)) (kz BK570) hb); replace HB := am (below_step bz hb); (try clear hb); (try clear hb2); (try clear hk); (try clear hi)))
  go_ret2
  exact ⟨ez, bz⟩

end Go.Proofs.Yteflngoiebgdaaa.X
