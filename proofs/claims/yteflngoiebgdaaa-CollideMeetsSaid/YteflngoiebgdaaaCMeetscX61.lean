import Derived.Test.YteflngoiebgdaaaX0
import Derived.Test.YteflngoiebgdaaaX1
import Derived.Test.YteflngoiebgdaaaX2
import Derived.Test.YteflngoiebgdaaaCMeetscX26
import Derived.Test.YteflngoiebgdaaaX29
import Derived.Test.YteflngoiebgdaaaCMeetscX32
import Derived.Test.YteflngoiebgdaaaCMeetscX34
import Derived.Test.YteflngoiebgdaaaCMeetscX59
import Derived.Test.YteflngoiebgdaaaCMeetscX60
namespace Go.Proofs.Yteflngoiebgdaaa.X
open Go.RowKit YteflngoiebgdaaaW.PrintWords YteflngoiebgdaaaW.PrintLast YteflngoiebgdaaaW.PrintMore
attribute [local go_sem] max2_int min2_int max_two min_two max_three min_three max_four min_four
set_option linter.unusedVariables false
set_option linter.unusedSimpArgs false

attribute [local go_sem high] eqA30
/-! ### dancestudiolaw44_CollideMeets: function 4 -/
def dancestudiolaw44_CollideMeets.f (k : Nat) (l0 : List (S43)) (l1 : List Int) (l2 : List (S62)) : Option (Bool) := (dancestudioref44_Light.f k l0 l2).bind fun t527 => (if t527 = true then ((collide_First.f k l0 l1 l2).bind fun bt549 => ((dancestudioref44_First.f k l0 l1 l2).bind fun bt554 => ((collide_All.f k l0 l1 l2).bind fun bt559 => ((dancestudioref44_All.f k l0 l1 l2).bind fun bt563 => (if (bt549.1 == bt554.1 && (bt549.2.1 == bt554.2.1 && (bt549.2.2.1 == bt554.2.2.1))) = true then (if bt549.2.2.2 = bt554.2.2.2 then ((dancestudioref44_Same.f k bt559.1 bt563.1).bind fun t567 => (if t567 = true then (if bt559.2 = bt563.2 then ((dancestudiolaw44_awake.f k).bind fun t568 => (some t568)) else (none)) else (none))) else (none)) else (none)))))) else ((dancestudiolaw44_awake.f k).bind fun t528 => (some t528)))
theorem dancestudiolaw44_CollideMeets.mono : ∀ a0 a1 a2 k, LeO (dancestudiolaw44_CollideMeets.f k a0 a1 a2) (dancestudiolaw44_CollideMeets.f (k + 1) a0 a1 a2) := by
 intro a0 a1 a2 k
 unfold dancestudiolaw44_CollideMeets.f
 repeat' first
   | (with_reducible exact collide_All.mono _ _ _ _)
   | (with_reducible exact collide_First.mono _ _ _ _)
   | (with_reducible exact dancestudiolaw44_awake.mono _)
   | (with_reducible exact dancestudioref44_All.mono _ _ _ _)
   | (with_reducible exact dancestudioref44_First.mono _ _ _ _)
   | (with_reducible exact dancestudioref44_Light.mono _ _ _)
   | (with_reducible exact dancestudioref44_Same.mono _ _ _)
   | (with_reducible exact LeO.refl _)
   | (with_reducible exact LeO.none _)
   | (with_reducible refine LeO.ite ?_ ?_)
   | (with_reducible refine LeO.bind ?_ (fun _ => ?_))
   | exact collide_All.mono _ _ _ _
   | exact collide_First.mono _ _ _ _
   | exact dancestudiolaw44_awake.mono _
   | exact dancestudioref44_All.mono _ _ _ _
   | exact dancestudioref44_First.mono _ _ _ _
   | exact dancestudioref44_Light.mono _ _ _
   | exact dancestudioref44_Same.mono _ _ _
   | exact LeO.none _
   | refine LeO.ite ?_ ?_
   | refine LeO.bind ?_ (fun _ => ?_)
set_option maxHeartbeats 8000000 in
set_option maxRecDepth 100000 in
theorem dancestudiolaw44_CollideMeets.calls (k : Nat) (A0 : Option Addr) (c0 : Nat) (l0 : List (S43)) (A1 : Option Addr) (c1 : Nat) (l1 : List Int) (A2 : Option Addr) (c2 : Nat) (l2 : List (S62)) (r : Bool) (w : World) (hr0 : Kd.C k43 w A0 l0.length l0) (hc0 : l0.length ≤ c0) (hr1 : Kd.C (Kd.int .i64) w A1 l1.length l1) (hc1 : l1.length ≤ c1) (hr2 : Kd.C k62 w A2 l2.length l2) (hc2 : l2.length ≤ c2) (h : dancestudiolaw44_CollideMeets.f k l0 l1 l2 = some r) :
  Calls Try.prog 4 #[.slice A0 l0.length c0, .slice A1 l1.length c1, .slice A2 l2.length c2] w fun e w' => e = .returned (.bool r) ∧ Below w.heap.size w w' := by
 have hu30 := Try.underlying30
 have HR0 := am hr0
 have HC0 := am hc0
 clear hr0 hc0
 have HR1 := am hr1
 have HC1 := am hc1
 clear hr1 hc1
 have HR2 := am hr2
 have HC2 := am hc2
 clear hr2 hc2
 have HB := am (Below.refl w.heap.size w)
 have H : ((dancestudioref44_Light.f k l0 l2).bind fun t527 => (if t527 = true then ((collide_First.f k l0 l1 l2).bind fun bt549 => ((dancestudioref44_First.f k l0 l1 l2).bind fun bt554 => ((collide_All.f k l0 l1 l2).bind fun bt559 => ((dancestudioref44_All.f k l0 l1 l2).bind fun bt563 => (if (bt549.1 == bt554.1 && (bt549.2.1 == bt554.2.1 && (bt549.2.2.1 == bt554.2.2.1))) = true then (if bt549.2.2.2 = bt554.2.2.2 then ((dancestudioref44_Same.f k bt559.1 bt563.1).bind fun t567 => (if t567 = true then (if bt559.2 = bt563.2 then ((dancestudiolaw44_awake.f k).bind fun t568 => (some t568)) else (none)) else (none))) else (none)) else (none)))))) else ((dancestudiolaw44_awake.f k).bind fun t528 => (some t528)))) = some r := h
 clear h
 replace H := Option.bind_eq_some_iff.mp H
 obtain ⟨t527, A40, H⟩ := H
 replace H : (if t527 = true then ((collide_First.f k l0 l1 l2).bind fun bt549 => ((dancestudioref44_First.f k l0 l1 l2).bind fun bt554 => ((collide_All.f k l0 l1 l2).bind fun bt559 => ((dancestudioref44_All.f k l0 l1 l2).bind fun bt563 => (if (bt549.1 == bt554.1 && (bt549.2.1 == bt554.2.1 && (bt549.2.2.1 == bt554.2.2.1))) = true then (if bt549.2.2.2 = bt554.2.2.2 then ((dancestudioref44_Same.f k bt559.1 bt563.1).bind fun t567 => (if t567 = true then (if bt559.2 = bt563.2 then ((dancestudiolaw44_awake.f k).bind fun t568 => (some t568)) else (none)) else (none))) else (none)) else (none)))))) else ((dancestudiolaw44_awake.f k).bind fun t528 => (some t528))) = some r := H
 have A4 := am A40
 clear A40
 by_cases c5 : t527 = true
 ·
  subst c5
  have H1 : ((collide_First.f k l0 l1 l2).bind fun bt549 => ((dancestudioref44_First.f k l0 l1 l2).bind fun bt554 => ((collide_All.f k l0 l1 l2).bind fun bt559 => ((dancestudioref44_All.f k l0 l1 l2).bind fun bt563 => (if (bt549.1 == bt554.1 && (bt549.2.1 == bt554.2.1 && (bt549.2.2.1 == bt554.2.2.1))) = true then (if bt549.2.2.2 = bt554.2.2.2 then ((dancestudioref44_Same.f k bt559.1 bt563.1).bind fun t567 => (if t567 = true then (if bt559.2 = bt563.2 then ((dancestudiolaw44_awake.f k).bind fun t568 => (some t568)) else (none)) else (none))) else (none)) else (none)))))) = some r := by rw [if_pos rfl] at H; exact H
  clear H
  have H := H1
  clear H1
  replace H := Option.bind_eq_some_iff.mp H
  obtain ⟨⟨t549, t550, t551, t552⟩, A60, H⟩ := H
  replace H : ((dancestudioref44_First.f k l0 l1 l2).bind fun bt554 => ((collide_All.f k l0 l1 l2).bind fun bt559 => ((dancestudioref44_All.f k l0 l1 l2).bind fun bt563 => (if (t549 == bt554.1 && (t550 == bt554.2.1 && (t551 == bt554.2.2.1))) = true then (if t552 = bt554.2.2.2 then ((dancestudioref44_Same.f k bt559.1 bt563.1).bind fun t567 => (if t567 = true then (if bt559.2 = bt563.2 then ((dancestudiolaw44_awake.f k).bind fun t568 => (some t568)) else (none)) else (none))) else (none)) else (none))))) = some r := H
  have A6 := am A60
  clear A60
  replace H := Option.bind_eq_some_iff.mp H
  obtain ⟨⟨t554, t555, t556, t557⟩, A70, H⟩ := H
  replace H : ((collide_All.f k l0 l1 l2).bind fun bt559 => ((dancestudioref44_All.f k l0 l1 l2).bind fun bt563 => (if (t549 == t554 && (t550 == t555 && (t551 == t556))) = true then (if t552 = t557 then ((dancestudioref44_Same.f k bt559.1 bt563.1).bind fun t567 => (if t567 = true then (if bt559.2 = bt563.2 then ((dancestudiolaw44_awake.f k).bind fun t568 => (some t568)) else (none)) else (none))) else (none)) else (none)))) = some r := H
  have A7 := am A70
  clear A70
  replace H := Option.bind_eq_some_iff.mp H
  obtain ⟨⟨t559, t560⟩, A80, H⟩ := H
  replace H : ((dancestudioref44_All.f k l0 l1 l2).bind fun bt563 => (if (t549 == t554 && (t550 == t555 && (t551 == t556))) = true then (if t552 = t557 then ((dancestudioref44_Same.f k t559 bt563.1).bind fun t567 => (if t567 = true then (if t560 = bt563.2 then ((dancestudiolaw44_awake.f k).bind fun t568 => (some t568)) else (none)) else (none))) else (none)) else (none))) = some r := H
  have A8 := am A80
  clear A80
  replace H := Option.bind_eq_some_iff.mp H
  obtain ⟨⟨t563, t564⟩, A90, H⟩ := H
  replace H : (if (t549 == t554 && (t550 == t555 && (t551 == t556))) = true then (if t552 = t557 then ((dancestudioref44_Same.f k t559 t563).bind fun t567 => (if t567 = true then (if t560 = t564 then ((dancestudiolaw44_awake.f k).bind fun t568 => (some t568)) else (none)) else (none))) else (none)) else (none)) = some r := H
  have A9 := am A90
  clear A90
  by_cases c10 : (t549 == t554 && (t550 == t555 && (t551 == t556))) = true; rotate_left
  · rw [if_neg c10] at H; exact absurd H (by simp)
  rw [if_pos c10] at H
  have c10b0 : (t549 == t554 && (t550 == t555 && (t551 == t556))) = true := c10
  (try (have c10b1 : decide (t549 = t554 && (t550 == t555 && (t551 == t556))) = true := by simpa using c10))
  (try (have c10b2 : (t549 == t554 && (t550 == t555 && (t551 == t556))) = true := by simpa using c10))
  clear c10
  by_cases c11 : t552 = t557; rotate_left
  · rw [if_neg c11] at H; exact absurd H (by simp)
  rw [if_pos c11] at H
  have c11b0 : (t552 == t557) = true := beq_iff_eq.mpr c11
  have c11b1 : (t552 != t557) = false := bne_eq_false_iff_eq.mpr c11
  clear c11
  replace H := Option.bind_eq_some_iff.mp H
  obtain ⟨t567, A120, H⟩ := H
  replace H : (if t567 = true then (if t560 = t564 then ((dancestudiolaw44_awake.f k).bind fun t568 => (some t568)) else (none)) else (none)) = some r := H
  have A12 := am A120
  clear A120
  by_cases c13 : t567 = true
  ·
   subst c13
   have H1 : (if t560 = t564 then ((dancestudiolaw44_awake.f k).bind fun t568 => (some t568)) else (none)) = some r := by rw [if_pos rfl] at H; exact H
   clear H
   have H := H1
   clear H1
   by_cases c14 : t560 = t564; rotate_left
   · rw [if_neg c14] at H; exact absurd H (by simp)
   rw [if_pos c14] at H
   have c14b0 : (t560 == t564) = true := beq_iff_eq.mpr c14
   have c14b1 : (t560 != t564) = false := bne_eq_false_iff_eq.mpr c14
   clear c14
   replace H := Option.bind_eq_some_iff.mp H
   obtain ⟨t568, A150, H⟩ := H
   replace H : (some t568) = some r := H
   have A15 := am A150
   clear A150
   obtain rfl := Option.some.inj H
   go_enter Try.func4, Try.ntmps4
   go_wp2_with (first | ((with_reducible refine gate_callee (f := 11) rfl ?_); refine goesL_ (some 17) rfl rfl Try.func11 qz rfl #[.slice A0 l0.length c0, .slice A2 l2.length c2] rfl mz ?_; (with_reducible refine (dancestudioref44_Light.calls k _ _ l0 _ _ l2 true _ ?side1 ?side2 ?side3 ?side4 A4.out).mono ?_); (case side1 => repeat (first | exact HR0.out | (with_reducible first | apply cA | apply cN | apply cD))); (case side2 => exact HC0.out); (case side3 => repeat (first | exact HR2.out | (with_reducible first | apply cA | apply cN | apply cD))); (case side4 => exact HC2.out); rintro e w' ⟨rfl, ⟨nd, rfl⟩⟩; refine ⟨_, rfl, ?_⟩) | ((with_reducible refine gate_callee (f := 15) rfl ?_); refine goesL_ (some 24) rfl rfl Try.func15 qz rfl #[.slice A0 l0.length c0, .slice A1 l1.length c1, .slice A2 l2.length c2] rfl mz ?_; (with_reducible refine (collide_First.calls k _ _ l0 _ _ l1 _ _ l2 t549 t550 t551 t552 _ ?side1 ?side2 ?side3 ?side4 ?side5 ?side6 A6.out).mono ?_); (case side1 => repeat (first | exact HR0.out | (with_reducible first | apply cA | apply cN | apply cD))); (case side2 => exact HC0.out); (case side3 => repeat (first | exact HR1.out | (with_reducible first | apply cA | apply cN | apply cD))); (case side4 => exact HC1.out); (case side5 => repeat (first | exact HR2.out | (with_reducible first | apply cA | apply cN | apply cD))); (case side6 => exact HC2.out); rintro e w16 ⟨rfl, hb⟩; refine ⟨_, rfl, ?_⟩; replace HB := am (below_step bz hb); (try clear hb); (try clear hb2); (try clear hk); (try clear hi)) | ((with_reducible refine gate_dst (N := 7) rfl ?_); refine box_event yz (N := 7) yz (cs := #[.int .i64 0, .int .i64 0, .int .i64 0]) (t := 30) gz ?_; intro gb553 hg w17 hbox hb; have BK553 := am (hbox); have GW553 := gwz (g := gb553) HB hg; have GE553 := GW553; replace HB := am (below_step bz hb); clear hb hbox hg; obtain ⟨hcz18_0, hcz18_1, hcz18_2, hfz18_0, hfz18_1, hfz18_2⟩ := kc3 BK553.out) | ((with_reducible refine gate_callee (f := 18) rfl ?_); refine goesL_ (some 31) rfl rfl Try.func18 qz rfl #[.slice A0 l0.length c0, .slice A1 l1.length c1, .slice A2 l2.length c2] rfl mz ?_; (with_reducible refine (dancestudioref44_First.calls k _ _ l0 _ _ l1 _ _ l2 t554 t555 t556 t557 _ ?side1 ?side2 ?side3 ?side4 ?side5 ?side6 A7.out).mono ?_); (case side1 => exact Kd.C_below HR0.out bz); (case side2 => exact HC0.out); (case side3 => exact Kd.C_below HR1.out bz); (case side4 => exact HC1.out); (case side5 => exact Kd.C_below HR2.out bz); (case side6 => exact HC2.out); rintro e w19 ⟨rfl, hb⟩; refine ⟨_, rfl, ?_⟩; replace BK553 := am (blk_below (o := .cells #[.int .i64 t549, .int .i64 t550, .int .i64 t551] 30 (0, 0)) (by (with_reducible repeat first | apply kN | apply kD | apply kA); refine blk_put (cs := #[.int .i64 t549, .int .i64 t550, .int .i64 0]) ?_ 2 _ rfl; (with_reducible repeat first | apply kN | apply kD | apply kA); refine blk_put (cs := #[.int .i64 t549, .int .i64 0, .int .i64 0]) ?_ 1 _ rfl; (with_reducible repeat first | apply kN | apply kD | apply kA); refine blk_put (cs := #[.int .i64 0, .int .i64 0, .int .i64 0]) ?_ 0 _ rfl; (with_reducible repeat first | apply kN | apply kD | apply kA); exact BK553.out) hb); replace HB := am (below_step bz hb); (try clear hb); (try clear hb2); (try clear hk); (try clear hi)) | ((with_reducible refine gate_dst (N := 9) rfl ?_); refine box_event yz (N := 9) yz (cs := #[.int .i64 0, .int .i64 0, .int .i64 0]) (t := 30) gz ?_; intro gb558 hg w20 hbox hb; have BK558 := am (hbox); have GW558 := gwz (g := gb558) HB hg; have GE558 := GW558; replace HB := am (below_step bz hb); have NB553_558 := nlt (g' := gb558) BK553 hg; have NB558_553 := ngt (g' := gb558) BK553 hg; replace BK553 := am (blk_below (o := .cells #[.int .i64 t549, .int .i64 t550, .int .i64 t551] 30 (0, 0)) (kz BK553) hb); clear hb hbox hg; have hnb21 := NB558_553.out; have hnc21 := NB553_558.out; obtain ⟨hcz22_0, hcz22_1, hcz22_2, hfz22_0, hfz22_1, hfz22_2⟩ := kc3 BK558.out) | ((with_reducible refine gate_callee (f := 16) rfl ?_); refine goesL_ (some 38) rfl rfl Try.func16 qz rfl #[.slice A0 l0.length c0, .slice A1 l1.length c1, .slice A2 l2.length c2] rfl mz ?_; (with_reducible refine (collide_All.calls k _ _ l0 _ _ l1 _ _ l2 t559 t560 _ ?side1 ?side2 ?side3 ?side4 ?side5 ?side6 A8.out).mono ?_); (case side1 => exact Kd.C_below HR0.out bz); (case side2 => exact HC0.out); (case side3 => exact Kd.C_below HR1.out bz); (case side4 => exact HC1.out); (case side5 => exact Kd.C_below HR2.out bz); (case side6 => exact HC2.out); rintro e w23 ⟨v561, rfl, ho0, hb⟩; refine ⟨_, rfl, ?_⟩; have HO562 := am (Kd.R_lower (Kd.R_newB (Kd.R_newB ho0 (g := gb553) (o := .cells #[.int .i64 t549, .int .i64 t550, .int .i64 t551] 30 (0, 0)) (by (with_reducible repeat first | apply kN | apply kD | apply kA); refine blk_far ?_ NB553_558.out _; (with_reducible repeat first | apply kN | apply kD | apply kA); refine blk_far ?_ NB553_558.out _; (with_reducible repeat first | apply kN | apply kD | apply kA); refine blk_far ?_ NB553_558.out _; (with_reducible repeat first | apply kN | apply kD | apply kA); exact BK553.out)) (g := gb558) (o := .cells #[.int .i64 t554, .int .i64 t555, .int .i64 t556] 30 (0, 0)) (by (with_reducible repeat first | apply kN | apply kD | apply kA); refine blk_put (cs := #[.int .i64 t554, .int .i64 t555, .int .i64 0]) ?_ 2 _ rfl; (with_reducible repeat first | apply kN | apply kD | apply kA); refine blk_put (cs := #[.int .i64 t554, .int .i64 0, .int .i64 0]) ?_ 1 _ rfl; (with_reducible repeat first | apply kN | apply kD | apply kA); refine blk_put (cs := #[.int .i64 0, .int .i64 0, .int .i64 0]) ?_ 0 _ rfl; (with_reducible repeat first | apply kN | apply kD | apply kA); exact BK558.out)) (below_size bz)); replace BK553 := am (blk_below (o := .cells #[.int .i64 t549, .int .i64 t550, .int .i64 t551] 30 (0, 0)) (by (with_reducible repeat first | apply kN | apply kD | apply kA); refine blk_far ?_ NB553_558.out _; (with_reducible repeat first | apply kN | apply kD | apply kA); refine blk_far ?_ NB553_558.out _; (with_reducible repeat first | apply kN | apply kD | apply kA); refine blk_far ?_ NB553_558.out _; (with_reducible repeat first | apply kN | apply kD | apply kA); exact BK553.out) hb); replace BK558 := am (blk_below (o := .cells #[.int .i64 t554, .int .i64 t555, .int .i64 t556] 30 (0, 0)) (by (with_reducible repeat first | apply kN | apply kD | apply kA); refine blk_put (cs := #[.int .i64 t554, .int .i64 t555, .int .i64 0]) ?_ 2 _ rfl; (with_reducible repeat first | apply kN | apply kD | apply kA); refine blk_put (cs := #[.int .i64 t554, .int .i64 0, .int .i64 0]) ?_ 1 _ rfl; (with_reducible repeat first | apply kN | apply kD | apply kA); refine blk_put (cs := #[.int .i64 0, .int .i64 0, .int .i64 0]) ?_ 0 _ rfl; (with_reducible repeat first | apply kN | apply kD | apply kA); exact BK558.out) hb); replace HB := am (below_step bz hb); (try clear hb); (try clear hb2); (try clear hk); (try clear hi); (try clear ho0)) | ((with_reducible refine gate_callee (f := 19) rfl ?_); refine goesL_ (some 45) rfl rfl Try.func19 qz rfl #[.slice A0 l0.length c0, .slice A1 l1.length c1, .slice A2 l2.length c2] rfl mz ?_; (with_reducible refine (dancestudioref44_All.calls k _ _ l0 _ _ l1 _ _ l2 t563 t564 _ ?side1 ?side2 ?side3 ?side4 ?side5 ?side6 A9.out).mono ?_); (case side1 => exact cz HR0); (case side2 => exact HC0.out); (case side3 => exact cz HR1); (case side4 => exact HC1.out); (case side5 => exact cz HR2); (case side6 => exact HC2.out); rintro e w24 ⟨v565, rfl, ho0, hb⟩; refine ⟨_, rfl, ?_⟩; have HO566 := am (Kd.R_lower (Kd.R_newB (Kd.R_newB (Kd.R_new' ho0 (Kd.R_lt (rz HO562))) (g := gb553) (o := .cells #[.int .i64 t549, .int .i64 t550, .int .i64 t551] 30 (0, 0)) (kz BK553)) (g := gb558) (o := .cells #[.int .i64 t554, .int .i64 t555, .int .i64 t556] 30 (0, 0)) (kz BK558)) (below_size bz)); replace HO562 := am (Kd.R_elder' (rz HO562) (Kd.R_base ho0) hb); replace BK553 := am (blk_below (o := .cells #[.int .i64 t549, .int .i64 t550, .int .i64 t551] 30 (0, 0)) (kz BK553) hb); replace BK558 := am (blk_below (o := .cells #[.int .i64 t554, .int .i64 t555, .int .i64 t556] 30 (0, 0)) (kz BK558) hb); replace HB := am (below_step bz hb); (try clear hb); (try clear hb2); (try clear hk); (try clear hi); (try clear ho0); obtain ⟨hcz25_0, hcz25_1, hcz25_2, hfz25_0, hfz25_1, hfz25_2⟩ := kc3 BK553.out; obtain ⟨hcz26_0, hcz26_1, hcz26_2, hfz26_0, hfz26_1, hfz26_2⟩ := kc3 BK558.out; obtain ⟨Ao27, co27, eo27⟩ := Kd.R_slice HO562.out; subst eo27; obtain ⟨Ao28, co28, eo28⟩ := Kd.R_slice HO566.out; subst eo28) | (go_at_call 20; (with_reducible refine (dancestudioref44_Same.calls k _ _ t559 _ _ t563 true _ ?side1 ?side2 ?side3 ?side4 A12.out).mono ?_); (case side1 => repeat (first | exact (Kd.R_reads' HO562.out).2.2 | (with_reducible first | apply cA | apply cN | apply cD))); (case side2 => exact (Kd.R_reads' HO562.out).2.1); (case side3 => repeat (first | exact (Kd.R_reads' HO566.out).2.2 | (with_reducible first | apply cA | apply cN | apply cD))); (case side4 => exact (Kd.R_reads' HO566.out).2.1); rintro e w' ⟨rfl, ⟨nd, rfl⟩⟩) | (go_at_call 12; (with_reducible refine (dancestudiolaw44_awake.calls k  t568 _ A15.out).mono ?_); rintro e w29 ⟨rfl, hb⟩; replace HO562 := am (Kd.R_below (rz HO562) hb); replace HO566 := am (Kd.R_below (rz HO566) hb); replace BK553 := am (blk_below (o := .cells #[.int .i64 t549, .int .i64 t550, .int .i64 t551] 30 (0, 0)) (kz BK553) hb); replace BK558 := am (blk_below (o := .cells #[.int .i64 t554, .int .i64 t555, .int .i64 t556] 30 (0, 0)) (kz BK558) hb); replace HB := am (below_step bz hb); (try clear hb); (try clear hb2); (try clear hk); (try clear hi)))
   go_ret
   exact ⟨ez, bz⟩
  ·
   replace c13 := Bool.eq_false_iff.mpr c13
   subst c13
   have H1 : (none) = some r := by rw [if_neg (show ¬ (false = true) by decide)] at H; exact H
   clear H
   have H := H1
   clear H1
   exact absurd H (by simp)
 ·
  replace c5 := Bool.eq_false_iff.mpr c5
  subst c5
  have H1 : ((dancestudiolaw44_awake.f k).bind fun t528 => (some t528)) = some r := by rw [if_neg (show ¬ (false = true) by decide)] at H; exact H
  clear H
  have H := H1
  clear H1
  replace H := Option.bind_eq_some_iff.mp H
  obtain ⟨t528, A300, H⟩ := H
  replace H : (some t528) = some r := H
  have A30 := am A300
  clear A300
  obtain rfl := Option.some.inj H
  go_enter Try.func4, Try.ntmps4
  go_wp2_with (first | ((with_reducible refine gate_callee (f := 11) rfl ?_); refine goesL_ (some 17) rfl rfl Try.func11 qz rfl #[.slice A0 l0.length c0, .slice A2 l2.length c2] rfl mz ?_; (with_reducible refine (dancestudioref44_Light.calls k _ _ l0 _ _ l2 false _ ?side1 ?side2 ?side3 ?side4 A4.out).mono ?_); (case side1 => repeat (first | exact HR0.out | (with_reducible first | apply cA | apply cN | apply cD))); (case side2 => exact HC0.out); (case side3 => repeat (first | exact HR2.out | (with_reducible first | apply cA | apply cN | apply cD))); (case side4 => exact HC2.out); rintro e w' ⟨rfl, ⟨nd, rfl⟩⟩; refine ⟨_, rfl, ?_⟩) | ((with_reducible refine gate_callee (f := 12) rfl ?_); refine goesL_ (some 19) rfl rfl Try.func12 qz rfl #[] rfl mz ?_; (with_reducible refine (dancestudiolaw44_awake.calls k  t528 _ A30.out).mono ?_); rintro e w31 ⟨rfl, hb⟩; refine ⟨_, rfl, ?_⟩; replace HB := am (below_step bz hb); (try clear hb); (try clear hb2); (try clear hk); (try clear hi)))
  go_ret
  exact ⟨ez, bz⟩

end Go.Proofs.Yteflngoiebgdaaa.X
