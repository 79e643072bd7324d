import Derived.Test.YteflngoiebgdaaaX0
import Derived.Test.YteflngoiebgdaaaX1
import Derived.Test.YteflngoiebgdaaaX2
import Derived.Test.YteflngoiebgdaaaX9
import Derived.Test.YteflngoiebgdaaaX26
import Derived.Test.YteflngoiebgdaaaX28
import Derived.Test.YteflngoiebgdaaaX32
import Derived.Test.YteflngoiebgdaaaX34
import Derived.Test.YteflngoiebgdaaaX41
namespace Go.Proofs.Yteflngoiebgdaaa.X
open Go.RowKit YteflngoiebgdaaaW.PrintWords YteflngoiebgdaaaW.PrintLast YteflngoiebgdaaaW.PrintMore
attribute [local go_sem] max2_int min2_int max_two min_two max_three min_three max_four min_four
set_option linter.unusedVariables false
set_option linter.unusedSimpArgs false

attribute [local go_sem high] eqA30
/-! ### dancestudiolaw44_CollideCheck: function 3 -/
def dancestudiolaw44_CollideCheck.f (k : Nat) (l0 : List (S43)) (l1 : List Int) (l2 : List (S62)) (a3 : Int) : Option (Bool) := (dancestudioref44_Light.f k l0 l2).bind fun t372 => (if t372 = true then ((dancestudioref44_Check.f k l0 l1 l2).bind fun t389 => ((collide_Check.f k l0 l1 l2).bind fun t390 => (if t390 = t389 then (if t389 = 0 then ((dancestudiolaw44_awake.f k).bind fun t404 => (some t404)) else ((collide_First.f k l0 l1 l2).bind fun bt417 => ((collide_All.f k l0 l1 l2).bind fun bt422 => ((collide_Room.f k l0 l1 l2 a3).bind fun bt426 => (if (bt417.1 == 0 && (bt417.2.1 == 0 && (bt417.2.2.1 == 0))) = true then (if bt417.2.2.2 = t389 then (if (bt422.1.length : Int) = 0 then (if bt422.2 = t389 then (if bt426.1 = 0 then (if bt426.2 = t389 then ((dancestudiolaw44_awake.f k).bind fun t428 => (some t428)) else (none)) else (none)) else (none)) else (none)) else (none)) else (none)))))) else (none)))) else ((dancestudiolaw44_awake.f k).bind fun t373 => (some t373)))
theorem dancestudiolaw44_CollideCheck.mono : ∀ a0 a1 a2 a3 k, LeO (dancestudiolaw44_CollideCheck.f k a0 a1 a2 a3) (dancestudiolaw44_CollideCheck.f (k + 1) a0 a1 a2 a3) := by
 intro a0 a1 a2 a3 k
 unfold dancestudiolaw44_CollideCheck.f
 repeat' first
   | (with_reducible exact collide_All.mono _ _ _ _)
   | (with_reducible exact collide_Check.mono _ _ _ _)
   | (with_reducible exact collide_First.mono _ _ _ _)
   | (with_reducible exact collide_Room.mono _ _ _ _ _)
   | (with_reducible exact dancestudiolaw44_awake.mono _)
   | (with_reducible exact dancestudioref44_Check.mono _ _ _ _)
   | (with_reducible exact dancestudioref44_Light.mono _ _ _)
   | (with_reducible exact LeO.refl _)
   | (with_reducible exact LeO.none _)
   | (with_reducible refine LeO.ite ?_ ?_)
   | (with_reducible refine LeO.bind ?_ (fun _ => ?_))
   | exact collide_All.mono _ _ _ _
   | exact collide_Check.mono _ _ _ _
   | exact collide_First.mono _ _ _ _
   | exact collide_Room.mono _ _ _ _ _
   | exact dancestudiolaw44_awake.mono _
   | exact dancestudioref44_Check.mono _ _ _ _
   | exact dancestudioref44_Light.mono _ _ _
   | exact LeO.none _
   | refine LeO.ite ?_ ?_
   | refine LeO.bind ?_ (fun _ => ?_)
set_option maxHeartbeats 8000000 in
set_option maxRecDepth 100000 in
theorem dancestudiolaw44_CollideCheck.calls (k : Nat) (A0 : Option Addr) (c0 : Nat) (l0 : List (S43)) (A1 : Option Addr) (c1 : Nat) (l1 : List Int) (A2 : Option Addr) (c2 : Nat) (l2 : List (S62)) (a3 : Int) (r : Bool) (w : World) (hr0 : Kd.C k43 w A0 l0.length l0) (hc0 : l0.length ≤ c0) (hr1 : Kd.C (Kd.int .i64) w A1 l1.length l1) (hc1 : l1.length ≤ c1) (hr2 : Kd.C k62 w A2 l2.length l2) (hc2 : l2.length ≤ c2) (h : dancestudiolaw44_CollideCheck.f k l0 l1 l2 a3 = some r) :
  Calls Try.prog 3 #[.slice A0 l0.length c0, .slice A1 l1.length c1, .slice A2 l2.length c2, .int .i64 a3] w fun e w' => e = .returned (.bool r) ∧ Below w.heap.size w w' := by
 have hu30 := Try.underlying30
 have HR0 := am hr0
 have HC0 := am hc0
 clear hr0 hc0
 have HR1 := am hr1
 have HC1 := am hc1
 clear hr1 hc1
 have HR2 := am hr2
 have HC2 := am hc2
 clear hr2 hc2
 have HB := am (Below.refl w.heap.size w)
 have H : ((dancestudioref44_Light.f k l0 l2).bind fun t372 => (if t372 = true then ((dancestudioref44_Check.f k l0 l1 l2).bind fun t389 => ((collide_Check.f k l0 l1 l2).bind fun t390 => (if t390 = t389 then (if t389 = 0 then ((dancestudiolaw44_awake.f k).bind fun t404 => (some t404)) else ((collide_First.f k l0 l1 l2).bind fun bt417 => ((collide_All.f k l0 l1 l2).bind fun bt422 => ((collide_Room.f k l0 l1 l2 a3).bind fun bt426 => (if (bt417.1 == 0 && (bt417.2.1 == 0 && (bt417.2.2.1 == 0))) = true then (if bt417.2.2.2 = t389 then (if (bt422.1.length : Int) = 0 then (if bt422.2 = t389 then (if bt426.1 = 0 then (if bt426.2 = t389 then ((dancestudiolaw44_awake.f k).bind fun t428 => (some t428)) else (none)) else (none)) else (none)) else (none)) else (none)) else (none)))))) else (none)))) else ((dancestudiolaw44_awake.f k).bind fun t373 => (some t373)))) = some r := h
 clear h
 replace H := Option.bind_eq_some_iff.mp H
 obtain ⟨t372, A50, H⟩ := H
 replace H : (if t372 = true then ((dancestudioref44_Check.f k l0 l1 l2).bind fun t389 => ((collide_Check.f k l0 l1 l2).bind fun t390 => (if t390 = t389 then (if t389 = 0 then ((dancestudiolaw44_awake.f k).bind fun t404 => (some t404)) else ((collide_First.f k l0 l1 l2).bind fun bt417 => ((collide_All.f k l0 l1 l2).bind fun bt422 => ((collide_Room.f k l0 l1 l2 a3).bind fun bt426 => (if (bt417.1 == 0 && (bt417.2.1 == 0 && (bt417.2.2.1 == 0))) = true then (if bt417.2.2.2 = t389 then (if (bt422.1.length : Int) = 0 then (if bt422.2 = t389 then (if bt426.1 = 0 then (if bt426.2 = t389 then ((dancestudiolaw44_awake.f k).bind fun t428 => (some t428)) else (none)) else (none)) else (none)) else (none)) else (none)) else (none)))))) else (none)))) else ((dancestudiolaw44_awake.f k).bind fun t373 => (some t373))) = some r := H
 have A5 := am A50
 clear A50
 by_cases c6 : t372 = true
 ·
  subst c6
  have H1 : ((dancestudioref44_Check.f k l0 l1 l2).bind fun t389 => ((collide_Check.f k l0 l1 l2).bind fun t390 => (if t390 = t389 then (if t389 = 0 then ((dancestudiolaw44_awake.f k).bind fun t404 => (some t404)) else ((collide_First.f k l0 l1 l2).bind fun bt417 => ((collide_All.f k l0 l1 l2).bind fun bt422 => ((collide_Room.f k l0 l1 l2 a3).bind fun bt426 => (if (bt417.1 == 0 && (bt417.2.1 == 0 && (bt417.2.2.1 == 0))) = true then (if bt417.2.2.2 = t389 then (if (bt422.1.length : Int) = 0 then (if bt422.2 = t389 then (if bt426.1 = 0 then (if bt426.2 = t389 then ((dancestudiolaw44_awake.f k).bind fun t428 => (some t428)) else (none)) else (none)) else (none)) else (none)) else (none)) else (none)))))) else (none)))) = some r := by rw [if_pos rfl] at H; exact H
  clear H
  have H := H1
  clear H1
  replace H := Option.bind_eq_some_iff.mp H
  obtain ⟨t389, A70, H⟩ := H
  replace H : ((collide_Check.f k l0 l1 l2).bind fun t390 => (if t390 = t389 then (if t389 = 0 then ((dancestudiolaw44_awake.f k).bind fun t404 => (some t404)) else ((collide_First.f k l0 l1 l2).bind fun bt417 => ((collide_All.f k l0 l1 l2).bind fun bt422 => ((collide_Room.f k l0 l1 l2 a3).bind fun bt426 => (if (bt417.1 == 0 && (bt417.2.1 == 0 && (bt417.2.2.1 == 0))) = true then (if bt417.2.2.2 = t389 then (if (bt422.1.length : Int) = 0 then (if bt422.2 = t389 then (if bt426.1 = 0 then (if bt426.2 = t389 then ((dancestudiolaw44_awake.f k).bind fun t428 => (some t428)) else (none)) else (none)) else (none)) else (none)) else (none)) else (none)))))) else (none))) = some r := H
  have A7 := am A70
  clear A70
  replace H := Option.bind_eq_some_iff.mp H
  obtain ⟨t390, A80, H⟩ := H
  replace H : (if t390 = t389 then (if t389 = 0 then ((dancestudiolaw44_awake.f k).bind fun t404 => (some t404)) else ((collide_First.f k l0 l1 l2).bind fun bt417 => ((collide_All.f k l0 l1 l2).bind fun bt422 => ((collide_Room.f k l0 l1 l2 a3).bind fun bt426 => (if (bt417.1 == 0 && (bt417.2.1 == 0 && (bt417.2.2.1 == 0))) = true then (if bt417.2.2.2 = t389 then (if (bt422.1.length : Int) = 0 then (if bt422.2 = t389 then (if bt426.1 = 0 then (if bt426.2 = t389 then ((dancestudiolaw44_awake.f k).bind fun t428 => (some t428)) else (none)) else (none)) else (none)) else (none)) else (none)) else (none)))))) else (none)) = some r := H
  have A8 := am A80
  clear A80
  by_cases c9 : t390 = t389; rotate_left
  · rw [if_neg c9] at H; exact absurd H (by simp)
  rw [if_pos c9] at H
  have c9b0 : (t390 == t389) = true := beq_iff_eq.mpr c9
  have c9b1 : (t390 != t389) = false := bne_eq_false_iff_eq.mpr c9
  clear c9
  by_cases c10 : t389 = 0
  ·
   rw [if_pos c10] at H
   have c10b0 : (t389 == 0) = true := beq_iff_eq.mpr c10
   have c10b1 : (t389 != 0) = false := bne_eq_false_iff_eq.mpr c10
   clear c10
   replace H := Option.bind_eq_some_iff.mp H
   obtain ⟨t404, A110, H⟩ := H
   replace H : (some t404) = some r := H
   have A11 := am A110
   clear A110
   obtain rfl := Option.some.inj H
   go_enter Try.func3, Try.ntmps3
   go_wp2_with (first | ((with_reducible refine gate_callee (f := 11) rfl ?_); refine goesL_ (some 18) rfl rfl Try.func11 qz rfl #[.slice A0 l0.length c0, .slice A2 l2.length c2] rfl mz ?_; (with_reducible refine (dancestudioref44_Light.calls k _ _ l0 _ _ l2 true _ ?side1 ?side2 ?side3 ?side4 A5.out).mono ?_); (case side1 => repeat (first | exact HR0.out | (with_reducible first | apply cA | apply cN | apply cD))); (case side2 => exact HC0.out); (case side3 => repeat (first | exact HR2.out | (with_reducible first | apply cA | apply cN | apply cD))); (case side4 => exact HC2.out); rintro e w' ⟨rfl, ⟨nd, rfl⟩⟩; refine ⟨_, rfl, ?_⟩) | ((with_reducible refine gate_callee (f := 13) rfl ?_); refine goesL_ (some 24) rfl rfl Try.func13 qz rfl #[.slice A0 l0.length c0, .slice A1 l1.length c1, .slice A2 l2.length c2] rfl mz ?_; (with_reducible refine (dancestudioref44_Check.calls k _ _ l0 _ _ l1 _ _ l2 t389 _ ?side1 ?side2 ?side3 ?side4 ?side5 ?side6 A7.out).mono ?_); (case side1 => repeat (first | exact HR0.out | (with_reducible first | apply cA | apply cN | apply cD))); (case side2 => exact HC0.out); (case side3 => repeat (first | exact HR1.out | (with_reducible first | apply cA | apply cN | apply cD))); (case side4 => exact HC1.out); (case side5 => repeat (first | exact HR2.out | (with_reducible first | apply cA | apply cN | apply cD))); (case side6 => exact HC2.out); rintro e w12 ⟨rfl, hb⟩; refine ⟨_, rfl, ?_⟩; replace HB := am (below_step bz hb); (try clear hb); (try clear hb2); (try clear hk); (try clear hi)) | ((with_reducible refine gate_callee (f := 14) rfl ?_); refine goesL_ (some 28) rfl rfl Try.func14 qz rfl #[.slice A0 l0.length c0, .slice A1 l1.length c1, .slice A2 l2.length c2] rfl mz ?_; (with_reducible refine (collide_Check.calls k _ _ l0 _ _ l1 _ _ l2 t390 _ ?side1 ?side2 ?side3 ?side4 ?side5 ?side6 A8.out).mono ?_); (case side1 => exact cz HR0); (case side2 => exact HC0.out); (case side3 => exact cz HR1); (case side4 => exact HC1.out); (case side5 => exact cz HR2); (case side6 => exact HC2.out); rintro e w13 ⟨rfl, hb⟩; refine ⟨_, rfl, ?_⟩; replace HB := am (below_step bz hb); (try clear hb); (try clear hb2); (try clear hk); (try clear hi)) | ((with_reducible refine gate_callee (f := 12) rfl ?_); refine goesL_ (some 33) rfl rfl Try.func12 qz rfl #[] rfl mz ?_; (with_reducible refine (dancestudiolaw44_awake.calls k  t404 _ A11.out).mono ?_); rintro e w14 ⟨rfl, hb⟩; refine ⟨_, rfl, ?_⟩; replace HB := am (below_step bz hb); (try clear hb); (try clear hb2); (try clear hk); (try clear hi)))
   go_ret
   exact ⟨ez, bz⟩
  ·
   rw [if_neg c10] at H
   have c10b0 : (t389 == 0) = false := beq_eq_false_iff_ne.mpr c10
   have c10b1 : (t389 != 0) = true := bne_iff_ne.mpr c10
   replace H := Option.bind_eq_some_iff.mp H
   obtain ⟨⟨t417, t418, t419, t420⟩, A150, H⟩ := H
   replace H : ((collide_All.f k l0 l1 l2).bind fun bt422 => ((collide_Room.f k l0 l1 l2 a3).bind fun bt426 => (if (t417 == 0 && (t418 == 0 && (t419 == 0))) = true then (if t420 = t389 then (if (bt422.1.length : Int) = 0 then (if bt422.2 = t389 then (if bt426.1 = 0 then (if bt426.2 = t389 then ((dancestudiolaw44_awake.f k).bind fun t428 => (some t428)) else (none)) else (none)) else (none)) else (none)) else (none)) else (none)))) = some r := H
   have A15 := am A150
   clear A150
   replace H := Option.bind_eq_some_iff.mp H
   obtain ⟨⟨t422, t423⟩, A160, H⟩ := H
   replace H : ((collide_Room.f k l0 l1 l2 a3).bind fun bt426 => (if (t417 == 0 && (t418 == 0 && (t419 == 0))) = true then (if t420 = t389 then (if (t422.length : Int) = 0 then (if t423 = t389 then (if bt426.1 = 0 then (if bt426.2 = t389 then ((dancestudiolaw44_awake.f k).bind fun t428 => (some t428)) else (none)) else (none)) else (none)) else (none)) else (none)) else (none))) = some r := H
   have A16 := am A160
   clear A160
   replace H := Option.bind_eq_some_iff.mp H
   obtain ⟨⟨t426, t427⟩, A170, H⟩ := H
   replace H : (if (t417 == 0 && (t418 == 0 && (t419 == 0))) = true then (if t420 = t389 then (if (t422.length : Int) = 0 then (if t423 = t389 then (if t426 = 0 then (if t427 = t389 then ((dancestudiolaw44_awake.f k).bind fun t428 => (some t428)) else (none)) else (none)) else (none)) else (none)) else (none)) else (none)) = some r := H
   have A17 := am A170
   clear A170
   by_cases c18 : (t417 == 0 && (t418 == 0 && (t419 == 0))) = true; rotate_left
   · rw [if_neg c18] at H; exact absurd H (by simp)
   rw [if_pos c18] at H
   have c18b0 : (t417 == 0 && (t418 == 0 && (t419 == 0))) = true := c18
   (try (have c18b1 : decide (t417 = 0 && (t418 == 0 && (t419 == 0))) = true := by simpa using c18))
   (try (have c18b2 : (t417 == 0 && (t418 == 0 && (t419 == 0))) = true := by simpa using c18))
   clear c18
   by_cases c19 : t420 = t389; rotate_left
   · rw [if_neg c19] at H; exact absurd H (by simp)
   rw [if_pos c19] at H
   have c19b0 : (t420 == t389) = true := beq_iff_eq.mpr c19
   have c19b1 : (t420 != t389) = false := bne_eq_false_iff_eq.mpr c19
   clear c19
   by_cases c20 : (t422.length : Int) = 0; rotate_left
   · rw [if_neg c20] at H; exact absurd H (by simp)
   rw [if_pos c20] at H
   have c20b0 : ((t422.length : Int) == 0) = true := beq_iff_eq.mpr c20
   have c20b1 : ((t422.length : Int) != 0) = false := bne_eq_false_iff_eq.mpr c20
   clear c20
   by_cases c21 : t423 = t389; rotate_left
   · rw [if_neg c21] at H; exact absurd H (by simp)
   rw [if_pos c21] at H
   have c21b0 : (t423 == t389) = true := beq_iff_eq.mpr c21
   have c21b1 : (t423 != t389) = false := bne_eq_false_iff_eq.mpr c21
   clear c21
   by_cases c22 : t426 = 0; rotate_left
   · rw [if_neg c22] at H; exact absurd H (by simp)
   rw [if_pos c22] at H
   have c22b0 : (t426 == 0) = true := beq_iff_eq.mpr c22
   have c22b1 : (t426 != 0) = false := bne_eq_false_iff_eq.mpr c22
   clear c22
   by_cases c23 : t427 = t389; rotate_left
   · rw [if_neg c23] at H; exact absurd H (by simp)
   rw [if_pos c23] at H
   have c23b0 : (t427 == t389) = true := beq_iff_eq.mpr c23
   have c23b1 : (t427 != t389) = false := bne_eq_false_iff_eq.mpr c23
   clear c23
   replace H := Option.bind_eq_some_iff.mp H
   obtain ⟨t428, A240, H⟩ := H
   replace H : (some t428) = some r := H
   have A24 := am A240
   clear A240
   obtain rfl := Option.some.inj H
   go_enter Try.func3, Try.ntmps3
   go_wp2_with (first | ((with_reducible refine gate_callee (f := 11) rfl ?_); refine goesL_ (some 18) rfl rfl Try.func11 qz rfl #[.slice A0 l0.length c0, .slice A2 l2.length c2] rfl mz ?_; (with_reducible refine (dancestudioref44_Light.calls k _ _ l0 _ _ l2 true _ ?side1 ?side2 ?side3 ?side4 A5.out).mono ?_); (case side1 => repeat (first | exact HR0.out | (with_reducible first | apply cA | apply cN | apply cD))); (case side2 => exact HC0.out); (case side3 => repeat (first | exact HR2.out | (with_reducible first | apply cA | apply cN | apply cD))); (case side4 => exact HC2.out); rintro e w' ⟨rfl, ⟨nd, rfl⟩⟩; refine ⟨_, rfl, ?_⟩) | ((with_reducible refine gate_callee (f := 13) rfl ?_); refine goesL_ (some 24) rfl rfl Try.func13 qz rfl #[.slice A0 l0.length c0, .slice A1 l1.length c1, .slice A2 l2.length c2] rfl mz ?_; (with_reducible refine (dancestudioref44_Check.calls k _ _ l0 _ _ l1 _ _ l2 t389 _ ?side1 ?side2 ?side3 ?side4 ?side5 ?side6 A7.out).mono ?_); (case side1 => repeat (first | exact HR0.out | (with_reducible first | apply cA | apply cN | apply cD))); (case side2 => exact HC0.out); (case side3 => repeat (first | exact HR1.out | (with_reducible first | apply cA | apply cN | apply cD))); (case side4 => exact HC1.out); (case side5 => repeat (first | exact HR2.out | (with_reducible first | apply cA | apply cN | apply cD))); (case side6 => exact HC2.out); rintro e w25 ⟨rfl, hb⟩; refine ⟨_, rfl, ?_⟩; replace HB := am (below_step bz hb); (try clear hb); (try clear hb2); (try clear hk); (try clear hi)) | ((with_reducible refine gate_callee (f := 14) rfl ?_); refine goesL_ (some 28) rfl rfl Try.func14 qz rfl #[.slice A0 l0.length c0, .slice A1 l1.length c1, .slice A2 l2.length c2] rfl mz ?_; (with_reducible refine (collide_Check.calls k _ _ l0 _ _ l1 _ _ l2 t390 _ ?side1 ?side2 ?side3 ?side4 ?side5 ?side6 A8.out).mono ?_); (case side1 => exact cz HR0); (case side2 => exact HC0.out); (case side3 => exact cz HR1); (case side4 => exact HC1.out); (case side5 => exact cz HR2); (case side6 => exact HC2.out); rintro e w26 ⟨rfl, hb⟩; refine ⟨_, rfl, ?_⟩; replace HB := am (below_step bz hb); (try clear hb); (try clear hb2); (try clear hk); (try clear hi)) | ((with_reducible refine gate_callee (f := 15) rfl ?_); refine goesL_ (some 38) rfl rfl Try.func15 qz rfl #[.slice A0 l0.length c0, .slice A1 l1.length c1, .slice A2 l2.length c2] rfl mz ?_; (with_reducible refine (collide_First.calls k _ _ l0 _ _ l1 _ _ l2 t417 t418 t419 t420 _ ?side1 ?side2 ?side3 ?side4 ?side5 ?side6 A15.out).mono ?_); (case side1 => exact cz HR0); (case side2 => exact HC0.out); (case side3 => exact cz HR1); (case side4 => exact HC1.out); (case side5 => exact cz HR2); (case side6 => exact HC2.out); rintro e w27 ⟨rfl, hb⟩; refine ⟨_, rfl, ?_⟩; replace HB := am (below_step bz hb); (try clear hb); (try clear hb2); (try clear hk); (try clear hi)) | ((with_reducible refine gate_dst (N := 10) rfl ?_); refine box_event yz (N := 10) yz (cs := #[.int .i64 0, .int .i64 0, .int .i64 0]) (t := 30) gz ?_; intro gb421 hg w28 hbox hb; have BK421 := am (hbox); have GW421 := gwz (g := gb421) HB hg; have GE421 := GW421; replace HB := am (below_step bz hb); clear hb hbox hg; obtain ⟨hcz29_0, hcz29_1, hcz29_2, hfz29_0, hfz29_1, hfz29_2⟩ := kc3 BK421.out) | ((with_reducible refine gate_callee (f := 16) rfl ?_); refine goesL_ (some 45) rfl rfl Try.func16 qz rfl #[.slice A0 l0.length c0, .slice A1 l1.length c1, .slice A2 l2.length c2] rfl mz ?_; (with_reducible refine (collide_All.calls k _ _ l0 _ _ l1 _ _ l2 t422 t423 _ ?side1 ?side2 ?side3 ?side4 ?side5 ?side6 A16.out).mono ?_); (case side1 => exact Kd.C_below HR0.out bz); (case side2 => exact HC0.out); (case side3 => exact Kd.C_below HR1.out bz); (case side4 => exact HC1.out); (case side5 => exact Kd.C_below HR2.out bz); (case side6 => exact HC2.out); rintro e w30 ⟨v424, rfl, ho0, hb⟩; refine ⟨_, rfl, ?_⟩; have HO425 := am (Kd.R_lower (Kd.R_newB ho0 (g := gb421) (o := .cells #[.int .i64 t417, .int .i64 t418, .int .i64 t419] 30 (0, 0)) (by (with_reducible repeat first | apply kN | apply kD | apply kA); refine blk_put (cs := #[.int .i64 t417, .int .i64 t418, .int .i64 0]) ?_ 2 _ rfl; (with_reducible repeat first | apply kN | apply kD | apply kA); refine blk_put (cs := #[.int .i64 t417, .int .i64 0, .int .i64 0]) ?_ 1 _ rfl; (with_reducible repeat first | apply kN | apply kD | apply kA); refine blk_put (cs := #[.int .i64 0, .int .i64 0, .int .i64 0]) ?_ 0 _ rfl; (with_reducible repeat first | apply kN | apply kD | apply kA); exact BK421.out)) (below_size bz)); replace BK421 := am (blk_below (o := .cells #[.int .i64 t417, .int .i64 t418, .int .i64 t419] 30 (0, 0)) (by (with_reducible repeat first | apply kN | apply kD | apply kA); refine blk_put (cs := #[.int .i64 t417, .int .i64 t418, .int .i64 0]) ?_ 2 _ rfl; (with_reducible repeat first | apply kN | apply kD | apply kA); refine blk_put (cs := #[.int .i64 t417, .int .i64 0, .int .i64 0]) ?_ 1 _ rfl; (with_reducible repeat first | apply kN | apply kD | apply kA); refine blk_put (cs := #[.int .i64 0, .int .i64 0, .int .i64 0]) ?_ 0 _ rfl; (with_reducible repeat first | apply kN | apply kD | apply kA); exact BK421.out) hb); replace HB := am (below_step bz hb); (try clear hb); (try clear hb2); (try clear hk); (try clear hi); (try clear ho0)) | ((with_reducible refine gate_callee (f := 17) rfl ?_); refine goesL_ (some 53) rfl rfl Try.func17 qz rfl #[.slice A0 l0.length c0, .slice A1 l1.length c1, .slice A2 l2.length c2, .int .i64 a3] rfl mz ?_; (with_reducible refine (collide_Room.calls k _ _ l0 _ _ l1 _ _ l2 a3 t426 t427 _ ?side1 ?side2 ?side3 ?side4 ?side5 ?side6 A17.out).mono ?_); (case side1 => exact cz HR0); (case side2 => exact HC0.out); (case side3 => exact cz HR1); (case side4 => exact HC1.out); (case side5 => exact cz HR2); (case side6 => exact HC2.out); rintro e w31 ⟨rfl, hb⟩; refine ⟨_, rfl, ?_⟩; replace HO425 := am (Kd.R_below (rz HO425) hb); replace BK421 := am (blk_below (o := .cells #[.int .i64 t417, .int .i64 t418, .int .i64 t419] 30 (0, 0)) (kz BK421) hb); replace HB := am (below_step bz hb); (try clear hb); (try clear hb2); (try clear hk); (try clear hi); obtain ⟨hcz32_0, hcz32_1, hcz32_2, hfz32_0, hfz32_1, hfz32_2⟩ := kc3 BK421.out; obtain ⟨Ao33, co33, eo33⟩ := Kd.R_slice HO425.out; subst eo33) | (go_at_call 12; (with_reducible refine (dancestudiolaw44_awake.calls k  t428 _ A24.out).mono ?_); rintro e w34 ⟨rfl, hb⟩; replace HO425 := am (Kd.R_below (rz HO425) hb); replace BK421 := am (blk_below (o := .cells #[.int .i64 t417, .int .i64 t418, .int .i64 t419] 30 (0, 0)) (kz BK421) hb); replace HB := am (below_step bz hb); (try clear hb); (try clear hb2); (try clear hk); (try clear hi)))
   go_ret
   exact ⟨ez, bz⟩
 ·
  replace c6 := Bool.eq_false_iff.mpr c6
  subst c6
  have H1 : ((dancestudiolaw44_awake.f k).bind fun t373 => (some t373)) = some r := by rw [if_neg (show ¬ (false = true) by decide)] at H; exact H
  clear H
  have H := H1
  clear H1
  replace H := Option.bind_eq_some_iff.mp H
  obtain ⟨t373, A350, H⟩ := H
  replace H : (some t373) = some r := H
  have A35 := am A350
  clear A350
  obtain rfl := Option.some.inj H
  go_enter Try.func3, Try.ntmps3
  go_wp2_with (first | ((with_reducible refine gate_callee (f := 11) rfl ?_); refine goesL_ (some 18) rfl rfl Try.func11 qz rfl #[.slice A0 l0.length c0, .slice A2 l2.length c2] rfl mz ?_; (with_reducible refine (dancestudioref44_Light.calls k _ _ l0 _ _ l2 false _ ?side1 ?side2 ?side3 ?side4 A5.out).mono ?_); (case side1 => repeat (first | exact HR0.out | (with_reducible first | apply cA | apply cN | apply cD))); (case side2 => exact HC0.out); (case side3 => repeat (first | exact HR2.out | (with_reducible first | apply cA | apply cN | apply cD))); (case side4 => exact HC2.out); rintro e w' ⟨rfl, ⟨nd, rfl⟩⟩; refine ⟨_, rfl, ?_⟩) | ((with_reducible refine gate_callee (f := 12) rfl ?_); refine goesL_ (some 20) rfl rfl Try.func12 qz rfl #[] rfl mz ?_; (with_reducible refine (dancestudiolaw44_awake.calls k  t373 _ A35.out).mono ?_); rintro e w36 ⟨rfl, hb⟩; refine ⟨_, rfl, ?_⟩; replace HB := am (below_step bz hb); (try clear hb); (try clear hb2); (try clear hk); (try clear hi)))
  go_ret
  exact ⟨ez, bz⟩

end Go.Proofs.Yteflngoiebgdaaa.X
