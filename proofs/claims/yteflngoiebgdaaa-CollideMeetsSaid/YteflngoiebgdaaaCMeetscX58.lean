import Derived.Test.YteflngoiebgdaaaX0
import Derived.Test.YteflngoiebgdaaaCMeetscX45
import Derived.Test.YteflngoiebgdaaaCMeetscX56
import Derived.Test.YteflngoiebgdaaaX57
namespace Go.Proofs.Yteflngoiebgdaaa.X
open Go.RowKit YteflngoiebgdaaaW.PrintWords YteflngoiebgdaaaW.PrintLast YteflngoiebgdaaaW.PrintMore
attribute [local go_sem] max2_int min2_int max_two min_two max_three min_three max_four min_four
set_option linter.unusedVariables false
set_option linter.unusedSimpArgs false

/-! ### dancestudioref44_meet: function 35 -/
def dancestudioref44_meet.f (k : Nat) (l0 : List (S43)) (l1 : List Int) (l2 : List (S62)) (a3 a4 a5 : Int) : Option (Bool) := if 0 ≤ a3 then (if a3 < (l1.length : Int) then (if 0 ≤ a4 then (if a4 < (l1.length : Int) then ((dancestudioref44_touches.f k l2 a3 a4 a5).bind fun t488 => (if t488 = true then (if a3 < (l0.length : Int) then ((dancestudioref44_way.f ((rd_T43 l0 a3).f0) ((rd_T43 l0 a3).f1) a5 (wrap64 (Int.tdiv (rd l1 a3) 2))).bind fun bt490 => (if a4 < (l0.length : Int) then ((dancestudioref44_way.f ((rd_T43 l0 a4).f0) ((rd_T43 l0 a4).f1) a5 (wrap64 (Int.tdiv (rd l1 a4) 2))).bind fun bt496 => ((dancestudioref03_Touch.f k bt490.1 bt490.2.1 bt490.2.2.1 bt490.2.2.2.1 bt490.2.2.2.2 bt496.1 bt496.2.1 bt496.2.2.1 bt496.2.2.2.1 bt496.2.2.2.2).bind fun bt501 => (some bt501.1))) else (none))) else (none)) else (if a3 < (l0.length : Int) then ((dancestudioref44_way.f ((rd_T43 l0 a3).f0) ((rd_T43 l0 a3).f1) a5 (rd l1 a3)).bind fun bt504 => (if a4 < (l0.length : Int) then ((dancestudioref44_way.f ((rd_T43 l0 a4).f0) ((rd_T43 l0 a4).f1) a5 (rd l1 a4)).bind fun bt510 => ((dancestudioref03_Touch.f k bt504.1 bt504.2.1 bt504.2.2.1 bt504.2.2.2.1 bt504.2.2.2.2 bt510.1 bt510.2.1 bt510.2.2.1 bt510.2.2.2.1 bt510.2.2.2.2).bind fun bt515 => (some bt515.1))) else (none))) else (none)))) else (none)) else (none)) else (none)) else (none)
theorem dancestudioref44_meet.mono : ∀ a0 a1 a2 a3 a4 a5 k, LeO (dancestudioref44_meet.f k a0 a1 a2 a3 a4 a5) (dancestudioref44_meet.f (k + 1) a0 a1 a2 a3 a4 a5) := by
 intro a0 a1 a2 a3 a4 a5 k
 unfold dancestudioref44_meet.f
 repeat' first
   | (with_reducible exact dancestudioref03_Touch.mono _ _ _ _ _ _ _ _ _ _ _)
   | (with_reducible exact dancestudioref44_touches.mono _ _ _ _ _)
   | (with_reducible exact LeO.refl _)
   | (with_reducible exact LeO.none _)
   | (with_reducible refine LeO.ite ?_ ?_)
   | (with_reducible refine LeO.bind ?_ (fun _ => ?_))
   | exact dancestudioref03_Touch.mono _ _ _ _ _ _ _ _ _ _ _
   | exact dancestudioref44_touches.mono _ _ _ _ _
   | exact LeO.none _
   | refine LeO.ite ?_ ?_
   | refine LeO.bind ?_ (fun _ => ?_)
def dancestudioref44_meet.T1 : Bool × List (List Nat × List Nat) := (true, [([], []), ([], []), ([0, 1], [0, 1]), ([2], [2]), ([], []), ([], []), ([4, 5], [4, 5]), ([6], [6]), ([3, 0, 1, 2, 3], [3]), ([7, 8, 0, 1, 2, 3, 4, 5, 6, 7, 8], [7])])
def dancestudioref44_meet.B1 : List Nat := [0, 0, 3, 7, 0, 0, 48, 112, 15, 511]
theorem dancestudioref44_meet.tab1 : rtab .any (opsOf Try.f35 1) = dancestudioref44_meet.T1 := by kernel_rfl
theorem dancestudioref44_meet.bits1 : waitsOk dancestudioref44_meet.T1.2 dancestudioref44_meet.B1 = true := by kernel_rfl
def dancestudioref44_meet.T4 : Bool × List (List Nat × List Nat) := (true, [([], []), ([], []), ([0, 1], [0, 1]), ([2], [2]), ([], []), ([], []), ([3, 4, 5], [3, 4, 5]), ([], []), ([], []), ([7, 8], [7, 8]), ([9], [9]), ([], []), ([], []), ([10, 11, 12, 6], [10, 11, 12]), ([6, 13, 13], [6, 13]), ([14], [14]), ([15], [15]), ([15], [15]), ([16, 14, 0, 1, 2, 3, 4, 5, 6, 7, 8, 9, 10, 11, 12, 13, 14, 15, 16], [16]), ([17, 18, 0, 1, 2, 3, 4, 5, 6, 7, 8, 9, 10, 11, 12, 13, 14, 15, 16, 17, 18], [17])])
def dancestudioref44_meet.B4 : List Nat := [0, 0, 3, 7, 0, 0, 63, 0, 0, 384, 896, 0, 0, 8191, 16383, 32767, 65535, 65535, 131071, 524287]
theorem dancestudioref44_meet.tab4 : rtab .any (opsOf Try.f35 4) = dancestudioref44_meet.T4 := by kernel_rfl
theorem dancestudioref44_meet.bits4 : waitsOk dancestudioref44_meet.T4.2 dancestudioref44_meet.B4 = true := by kernel_rfl
set_option maxHeartbeats 8000000 in
set_option maxRecDepth 100000 in
theorem dancestudioref44_meet.calls (k : Nat) (A0 : Option Addr) (c0 : Nat) (l0 : List (S43)) (A1 : Option Addr) (c1 : Nat) (l1 : List Int) (A2 : Option Addr) (c2 : Nat) (l2 : List (S62)) (a3 a4 a5 : Int) (r : Bool) (w : World) (hr0 : Kd.C k43 w A0 l0.length l0) (hc0 : l0.length ≤ c0) (hr1 : Kd.C (Kd.int .i64) w A1 l1.length l1) (hc1 : l1.length ≤ c1) (hr2 : Kd.C k62 w A2 l2.length l2) (hc2 : l2.length ≤ c2) (h : dancestudioref44_meet.f k l0 l1 l2 a3 a4 a5 = some r) :
  Calls Try.prog 35 #[.slice A0 l0.length c0, .slice A1 l1.length c1, .slice A2 l2.length c2, .int .i64 a3, .int .i64 a4, .int .i64 a5] w fun e w' => e = .returned (.bool r) ∧ Below w.heap.size w w' := by
 have hu43 := Try.underlying43
 have HR0 := am hr0
 have HC0 := am hc0
 clear hr0 hc0
 have HR1 := am hr1
 have HC1 := am hc1
 clear hr1 hc1
 have HR2 := am hr2
 have HC2 := am hc2
 clear hr2 hc2
 have HB := am (Below.refl w.heap.size w)
 have H : (if 0 ≤ a3 then (if a3 < (l1.length : Int) then (if 0 ≤ a4 then (if a4 < (l1.length : Int) then ((dancestudioref44_touches.f k l2 a3 a4 a5).bind fun t488 => (if t488 = true then (if a3 < (l0.length : Int) then ((dancestudioref44_way.f ((rd_T43 l0 a3).f0) ((rd_T43 l0 a3).f1) a5 (wrap64 (Int.tdiv (rd l1 a3) 2))).bind fun bt490 => (if a4 < (l0.length : Int) then ((dancestudioref44_way.f ((rd_T43 l0 a4).f0) ((rd_T43 l0 a4).f1) a5 (wrap64 (Int.tdiv (rd l1 a4) 2))).bind fun bt496 => ((dancestudioref03_Touch.f k bt490.1 bt490.2.1 bt490.2.2.1 bt490.2.2.2.1 bt490.2.2.2.2 bt496.1 bt496.2.1 bt496.2.2.1 bt496.2.2.2.1 bt496.2.2.2.2).bind fun bt501 => (some bt501.1))) else (none))) else (none)) else (if a3 < (l0.length : Int) then ((dancestudioref44_way.f ((rd_T43 l0 a3).f0) ((rd_T43 l0 a3).f1) a5 (rd l1 a3)).bind fun bt504 => (if a4 < (l0.length : Int) then ((dancestudioref44_way.f ((rd_T43 l0 a4).f0) ((rd_T43 l0 a4).f1) a5 (rd l1 a4)).bind fun bt510 => ((dancestudioref03_Touch.f k bt504.1 bt504.2.1 bt504.2.2.1 bt504.2.2.2.1 bt504.2.2.2.2 bt510.1 bt510.2.1 bt510.2.2.1 bt510.2.2.2.1 bt510.2.2.2.2).bind fun bt515 => (some bt515.1))) else (none))) else (none)))) else (none)) else (none)) else (none)) else (none)) = some r := h
 clear h
 by_cases c7 : 0 ≤ a3
 ·
  rw [if_pos c7] at H
  have c7b0 := decide_eq_true c7
  clear c7
  by_cases c8 : a3 < (l1.length : Int); rotate_left
  · rw [if_neg c8] at H; exact absurd H (by simp)
  rw [if_pos c8] at H
  have c8b0 := decide_eq_true c8
  clear c8
  by_cases c9 : 0 ≤ a4; rotate_left
  · rw [if_neg c9] at H; exact absurd H (by simp)
  rw [if_pos c9] at H
  have c9b0 := decide_eq_true c9
  clear c9
  by_cases c10 : a4 < (l1.length : Int); rotate_left
  · rw [if_neg c10] at H; exact absurd H (by simp)
  rw [if_pos c10] at H
  have c10b0 := decide_eq_true c10
  clear c10
  replace H := Option.bind_eq_some_iff.mp H
  obtain ⟨t488, A110, H⟩ := H
  replace H : (if t488 = true then (if a3 < (l0.length : Int) then ((dancestudioref44_way.f ((rd_T43 l0 a3).f0) ((rd_T43 l0 a3).f1) a5 (wrap64 (Int.tdiv (rd l1 a3) 2))).bind fun bt490 => (if a4 < (l0.length : Int) then ((dancestudioref44_way.f ((rd_T43 l0 a4).f0) ((rd_T43 l0 a4).f1) a5 (wrap64 (Int.tdiv (rd l1 a4) 2))).bind fun bt496 => ((dancestudioref03_Touch.f k bt490.1 bt490.2.1 bt490.2.2.1 bt490.2.2.2.1 bt490.2.2.2.2 bt496.1 bt496.2.1 bt496.2.2.1 bt496.2.2.2.1 bt496.2.2.2.2).bind fun bt501 => (some bt501.1))) else (none))) else (none)) else (if a3 < (l0.length : Int) then ((dancestudioref44_way.f ((rd_T43 l0 a3).f0) ((rd_T43 l0 a3).f1) a5 (rd l1 a3)).bind fun bt504 => (if a4 < (l0.length : Int) then ((dancestudioref44_way.f ((rd_T43 l0 a4).f0) ((rd_T43 l0 a4).f1) a5 (rd l1 a4)).bind fun bt510 => ((dancestudioref03_Touch.f k bt504.1 bt504.2.1 bt504.2.2.1 bt504.2.2.2.1 bt504.2.2.2.2 bt510.1 bt510.2.1 bt510.2.2.1 bt510.2.2.2.1 bt510.2.2.2.2).bind fun bt515 => (some bt515.1))) else (none))) else (none))) = some r := H
  have A11 := am A110
  clear A110
  by_cases c12 : t488 = true
  case' pos =>
   subst c12
   have H1 : (if a3 < (l0.length : Int) then ((dancestudioref44_way.f ((rd_T43 l0 a3).f0) ((rd_T43 l0 a3).f1) a5 (wrap64 (Int.tdiv (rd l1 a3) 2))).bind fun bt490 => (if a4 < (l0.length : Int) then ((dancestudioref44_way.f ((rd_T43 l0 a4).f0) ((rd_T43 l0 a4).f1) a5 (wrap64 (Int.tdiv (rd l1 a4) 2))).bind fun bt496 => ((dancestudioref03_Touch.f k bt490.1 bt490.2.1 bt490.2.2.1 bt490.2.2.2.1 bt490.2.2.2.2 bt496.1 bt496.2.1 bt496.2.2.1 bt496.2.2.2.1 bt496.2.2.2.2).bind fun bt501 => (some bt501.1))) else (none))) else (none)) = some r := by rw [if_pos rfl] at H; exact H
   clear H
   have H := H1
   clear H1
   by_cases c13 : a3 < (l0.length : Int); rotate_left
   · rw [if_neg c13] at H; exact absurd H (by simp)
   rw [if_pos c13] at H
   have c13b0 := decide_eq_true c13
   clear c13
   replace H := Option.bind_eq_some_iff.mp H
   obtain ⟨⟨t490, t491, t492, t493, t494⟩, A140, H⟩ := H
   replace H : (if a4 < (l0.length : Int) then ((dancestudioref44_way.f ((rd_T43 l0 a4).f0) ((rd_T43 l0 a4).f1) a5 (wrap64 (Int.tdiv (rd l1 a4) 2))).bind fun bt496 => ((dancestudioref03_Touch.f k t490 t491 t492 t493 t494 bt496.1 bt496.2.1 bt496.2.2.1 bt496.2.2.2.1 bt496.2.2.2.2).bind fun bt501 => (some bt501.1))) else (none)) = some r := H
   have A14 := am A140
   clear A140
   by_cases c15 : a4 < (l0.length : Int); rotate_left
   · rw [if_neg c15] at H; exact absurd H (by simp)
   rw [if_pos c15] at H
   have c15b0 := decide_eq_true c15
   clear c15
   replace H := Option.bind_eq_some_iff.mp H
   obtain ⟨⟨t496, t497, t498, t499, t500⟩, A160, H⟩ := H
   replace H : ((dancestudioref03_Touch.f k t490 t491 t492 t493 t494 t496 t497 t498 t499 t500).bind fun bt501 => (some bt501.1)) = some r := H
   have A16 := am A160
   clear A160
   replace H := Option.bind_eq_some_iff.mp H
   obtain ⟨⟨t501, t502⟩, A170, H⟩ := H
   replace H : (some t501) = some r := H
   have A17 := am A170
   clear A170
   obtain rfl := Option.some.inj H
   go_enter Try.func35, Try.ntmps35
   try go_wp2
   have n0_ := am (below_drew1 HB.out)
   clear HB
   have HB := n0_
   clear n0_
   have p486 : 0 ≤ (a3 : Int) := az
   have q486 : a3 < (l1.length : Int) := az
   obtain ⟨ad486, e486, hx486_0⟩ := Kd.at_int HR1.out a3 p486 q486
   have hw486_0 := hx486_0
   cases e486
   replace hx486_0 := cb HB.out hx486_0
   replace p486 := eq_true p486
   replace q486 := eq_true q486
   have p487 : 0 ≤ (a4 : Int) := az
   have q487 : a4 < (l1.length : Int) := az
   obtain ⟨ad487, e487, hx487_0⟩ := Kd.at_int HR1.out a4 p487 q487
   have hw487_0 := hx487_0
   obtain rfl : ad486 = ad487 := (by injection e487)
   replace hx487_0 := cb HB.out hx487_0
   replace p487 := eq_true p487
   replace q487 := eq_true q487
   refine start_ (n := 10) (S := fun w' => w'.cell? (ad486.add (a3).toNat) = some (.int .i64 (rd l1 a3)) ∧ w'.cell? (ad486.add (a4).toNat) = some (.int .i64 (rd l1 a4))) (ds := []) (bm 10 0) qz rfl rfl ⟨(cb HB.out hw486_0), (cb HB.out hw487_0)⟩ (fun hHeld => ?_); refine with_tabW dancestudioref44_meet.tab1 dancestudioref44_meet.bits1 (fun HT_ HW_ => ?_)
   generalize w.drew = w18 at HB hx486_0 hx487_0 hHeld ⊢
   refine pa (i := 0) (N := some 17) (bm 10 1) HT_ ?_
   refine pa (i := 1) (N := some 18) (bm 10 3) HT_ ?_
   refine pa (i := 2) (N := some 19) (bm 10 7) HT_ ?_
   refine pa (i := 4) (N := some 21) (bm 10 23) HT_ ?_
   refine pa (i := 5) (N := some 22) (bm 10 55) HT_ ?_
   refine pa (i := 6) (N := some 23) (bm 10 119) HT_ ?_
   refine take_ (i := 3) (N := some 20) (v := ?_) (a' := ?_) (bm 10 127) rfl rfl (take_ofW HT_.out HW_.out qz) iz (Or.inl ⟨by rfl, ?_⟩) hHeld ?_ ?_
   rotate_left
   ·
    rintro w' ⟨s0, s1⟩
    go_simp
    with_reducible rfl
   rotate_left
   ·
    simp only [Act.put, aS, lZ, lS, i64_w, i32_w]
    rfl
   refine pa (i := 8) (N := some 13) (bm 10 383) HT_ ?_
   refine take_ (i := 7) (N := some 24) (v := ?_) (a' := ?_) (bm 10 511) rfl rfl (take_ofW HT_.out HW_.out qz) iz (Or.inl ⟨by rfl, ?_⟩) hHeld ?_ ?_
   rotate_left
   ·
    rintro w' ⟨s0, s1⟩
    go_simp
    with_reducible rfl
   rotate_left
   ·
    simp only [Act.put, aS, lZ, lS, i64_w, i32_w]
    rfl
   refine pa (i := 9) (N := some 14) (bm 10 1023) HT_ ?_
   refine done_ (done_of HT_.out qz) ?_
   try go_wp2_with (first | ((with_reducible refine gate_callee (f := 55) rfl ?_); refine goesL_ (some 29) rfl rfl Try.func55 qz rfl #[.slice A2 l2.length c2, .int .i64 a3, .int .i64 a4, .int .i64 a5] rfl mz ?_; (with_reducible refine (dancestudioref44_touches.calls k _ _ l2 a3 a4 a5 true _ ?side1 ?side2 A11.out).mono ?_); (case side1 => exact cz HR2); (case side2 => exact HC2.out); rintro e w19 ⟨rfl, hb⟩; refine ⟨_, rfl, ?_⟩; replace HB := am (below_step bz hb); (try clear hb); (try clear hb2); (try clear hk); (try clear hi)))
   have tw1a : True := trivial
  case' neg =>
   replace c12 := Bool.eq_false_iff.mpr c12
   subst c12
   have H1 : (if a3 < (l0.length : Int) then ((dancestudioref44_way.f ((rd_T43 l0 a3).f0) ((rd_T43 l0 a3).f1) a5 (rd l1 a3)).bind fun bt504 => (if a4 < (l0.length : Int) then ((dancestudioref44_way.f ((rd_T43 l0 a4).f0) ((rd_T43 l0 a4).f1) a5 (rd l1 a4)).bind fun bt510 => ((dancestudioref03_Touch.f k bt504.1 bt504.2.1 bt504.2.2.1 bt504.2.2.2.1 bt504.2.2.2.2 bt510.1 bt510.2.1 bt510.2.2.1 bt510.2.2.2.1 bt510.2.2.2.2).bind fun bt515 => (some bt515.1))) else (none))) else (none)) = some r := by rw [if_neg (show ¬ (false = true) by decide)] at H; exact H
   clear H
   have H := H1
   clear H1
   by_cases c24 : a3 < (l0.length : Int); rotate_left
   · rw [if_neg c24] at H; exact absurd H (by simp)
   rw [if_pos c24] at H
   have c24b0 := decide_eq_true c24
   clear c24
   replace H := Option.bind_eq_some_iff.mp H
   obtain ⟨⟨t504, t505, t506, t507, t508⟩, A250, H⟩ := H
   replace H : (if a4 < (l0.length : Int) then ((dancestudioref44_way.f ((rd_T43 l0 a4).f0) ((rd_T43 l0 a4).f1) a5 (rd l1 a4)).bind fun bt510 => ((dancestudioref03_Touch.f k t504 t505 t506 t507 t508 bt510.1 bt510.2.1 bt510.2.2.1 bt510.2.2.2.1 bt510.2.2.2.2).bind fun bt515 => (some bt515.1))) else (none)) = some r := H
   have A25 := am A250
   clear A250
   by_cases c26 : a4 < (l0.length : Int); rotate_left
   · rw [if_neg c26] at H; exact absurd H (by simp)
   rw [if_pos c26] at H
   have c26b0 := decide_eq_true c26
   clear c26
   replace H := Option.bind_eq_some_iff.mp H
   obtain ⟨⟨t510, t511, t512, t513, t514⟩, A270, H⟩ := H
   replace H : ((dancestudioref03_Touch.f k t504 t505 t506 t507 t508 t510 t511 t512 t513 t514).bind fun bt515 => (some bt515.1)) = some r := H
   have A27 := am A270
   clear A270
   replace H := Option.bind_eq_some_iff.mp H
   obtain ⟨⟨t515, t516⟩, A280, H⟩ := H
   replace H : (some t515) = some r := H
   have A28 := am A280
   clear A280
   obtain rfl := Option.some.inj H
   go_enter Try.func35, Try.ntmps35
   try go_wp2
   have n0_ := am (below_drew1 HB.out)
   clear HB
   have HB := n0_
   clear n0_
   have p486 : 0 ≤ (a3 : Int) := az
   have q486 : a3 < (l1.length : Int) := az
   obtain ⟨ad486, e486, hx486_0⟩ := Kd.at_int HR1.out a3 p486 q486
   have hw486_0 := hx486_0
   cases e486
   replace hx486_0 := cb HB.out hx486_0
   replace p486 := eq_true p486
   replace q486 := eq_true q486
   have p487 : 0 ≤ (a4 : Int) := az
   have q487 : a4 < (l1.length : Int) := az
   obtain ⟨ad487, e487, hx487_0⟩ := Kd.at_int HR1.out a4 p487 q487
   have hw487_0 := hx487_0
   obtain rfl : ad486 = ad487 := (by injection e487)
   replace hx487_0 := cb HB.out hx487_0
   replace p487 := eq_true p487
   replace q487 := eq_true q487
   refine start_ (n := 10) (S := fun w' => w'.cell? (ad486.add (a3).toNat) = some (.int .i64 (rd l1 a3)) ∧ w'.cell? (ad486.add (a4).toNat) = some (.int .i64 (rd l1 a4))) (ds := []) (bm 10 0) qz rfl rfl ⟨(cb HB.out hw486_0), (cb HB.out hw487_0)⟩ (fun hHeld => ?_); refine with_tabW dancestudioref44_meet.tab1 dancestudioref44_meet.bits1 (fun HT_ HW_ => ?_)
   generalize w.drew = w29 at HB hx486_0 hx487_0 hHeld ⊢
   refine pa (i := 0) (N := some 17) (bm 10 1) HT_ ?_
   refine pa (i := 1) (N := some 18) (bm 10 3) HT_ ?_
   refine pa (i := 2) (N := some 19) (bm 10 7) HT_ ?_
   refine pa (i := 4) (N := some 21) (bm 10 23) HT_ ?_
   refine pa (i := 5) (N := some 22) (bm 10 55) HT_ ?_
   refine pa (i := 6) (N := some 23) (bm 10 119) HT_ ?_
   refine take_ (i := 3) (N := some 20) (v := ?_) (a' := ?_) (bm 10 127) rfl rfl (take_ofW HT_.out HW_.out qz) iz (Or.inl ⟨by rfl, ?_⟩) hHeld ?_ ?_
   rotate_left
   ·
    rintro w' ⟨s0, s1⟩
    go_simp
    with_reducible rfl
   rotate_left
   ·
    simp only [Act.put, aS, lZ, lS, i64_w, i32_w]
    rfl
   refine pa (i := 8) (N := some 13) (bm 10 383) HT_ ?_
   refine take_ (i := 7) (N := some 24) (v := ?_) (a' := ?_) (bm 10 511) rfl rfl (take_ofW HT_.out HW_.out qz) iz (Or.inl ⟨by rfl, ?_⟩) hHeld ?_ ?_
   rotate_left
   ·
    rintro w' ⟨s0, s1⟩
    go_simp
    with_reducible rfl
   rotate_left
   ·
    simp only [Act.put, aS, lZ, lS, i64_w, i32_w]
    rfl
   refine pa (i := 9) (N := some 14) (bm 10 1023) HT_ ?_
   refine done_ (done_of HT_.out qz) ?_
   try go_wp2_with (first | ((with_reducible refine gate_callee (f := 55) rfl ?_); refine goesL_ (some 29) rfl rfl Try.func55 qz rfl #[.slice A2 l2.length c2, .int .i64 a3, .int .i64 a4, .int .i64 a5] rfl mz ?_; (with_reducible refine (dancestudioref44_touches.calls k _ _ l2 a3 a4 a5 false _ ?side1 ?side2 A11.out).mono ?_); (case side1 => exact cz HR2); (case side2 => exact HC2.out); rintro e w19 ⟨rfl, hb⟩; refine ⟨_, rfl, ?_⟩; replace HB := am (below_step bz hb); (try clear hb); (try clear hb2); (try clear hk); (try clear hi)))
   have tw1b : True := trivial
  all_goals
   have n0_ := am (below_drew1 HB.out)
   clear HB
   have HB := n0_
   clear n0_
   have p489 : 0 ≤ (a3 : Int) := az
   have q489 : a3 < (l0.length : Int) := az
   obtain ⟨ad489, A489_0, c489_0, A489_1, c489_1, e489, hx489_0, hx489_1, hl489_0, hi489_0, hl489_1, hi489_1⟩ := at_T43 HR0.out a3 p489 q489
   have hw489_1 := hx489_1
   have hw489_0 := hx489_0
   cases e489
   replace hx489_0 := cb HB.out hx489_0
   replace hx489_1 := cb HB.out hx489_1
   have HR489_0 := am hi489_0
   have HC489_0 := am hl489_0
   clear hi489_0 hl489_0
   have HR489_1 := am hi489_1
   have HC489_1 := am hl489_1
   clear hi489_1 hl489_1
   replace p489 := eq_true p489
   replace q489 := eq_true q489
   have p495 : 0 ≤ (a4 : Int) := az
   have q495 : a4 < (l0.length : Int) := az
   obtain ⟨ad495, A495_0, c495_0, A495_1, c495_1, e495, hx495_0, hx495_1, hl495_0, hi495_0, hl495_1, hi495_1⟩ := at_T43 HR0.out a4 p495 q495
   have hw495_1 := hx495_1
   have hw495_0 := hx495_0
   obtain rfl : ad489 = ad495 := (by injection e495)
   replace hx495_0 := cb HB.out hx495_0
   replace hx495_1 := cb HB.out hx495_1
   have HR495_0 := am hi495_0
   have HC495_0 := am hl495_0
   clear hi495_0 hl495_0
   have HR495_1 := am hi495_1
   have HC495_1 := am hl495_1
   clear hi495_1 hl495_1
   replace p495 := eq_true p495
   replace q495 := eq_true q495
   refine start_ (n := 20) (S := fun w' => w'.cell? (ad489.add ((a3).toNat * 2)) = some (.slice A489_0 ((rd_T43 l0 a3).f0).length c489_0) ∧ w'.cell? ⟨(ad489.add ((a3).toNat * 2)).block, (ad489.add ((a3).toNat * 2)).off + 1, none⟩ = some (.slice A489_1 ((rd_T43 l0 a3).f1).length c489_1) ∧ w'.cell? (ad489.add ((a4).toNat * 2)) = some (.slice A495_0 ((rd_T43 l0 a4).f0).length c495_0) ∧ w'.cell? ⟨(ad489.add ((a4).toNat * 2)).block, (ad489.add ((a4).toNat * 2)).off + 1, none⟩ = some (.slice A495_1 ((rd_T43 l0 a4).f1).length c495_1)) (ds := []) (bm 20 0) qz rfl rfl ⟨(cb HB.out hw489_0), (cb HB.out hw489_1), (cb HB.out hw495_0), (cb HB.out hw495_1)⟩ (fun hHeld => ?_); refine with_tabW dancestudioref44_meet.tab4 dancestudioref44_meet.bits4 (fun HT_ HW_ => ?_)
   generalize w19.drew = w20 at HB HR489_0 HR489_1 HR495_0 HR495_1 hx489_0 hx489_1 hx495_0 hx495_1 hHeld ⊢
   refine pa (i := 0) (N := some 35) (bm 20 1) HT_ ?_
   refine pa (i := 1) (N := some 36) (bm 20 3) HT_ ?_
   refine pa (i := 2) (N := some 37) (bm 20 7) HT_ ?_
   refine pa (i := 4) (N := some 39) (bm 20 23) HT_ ?_
   refine pa (i := 5) (N := some 40) (bm 20 55) HT_ ?_
   refine pa (i := 7) (N := some 42) (bm 20 183) HT_ ?_
   refine pa (i := 8) (N := some 43) (bm 20 439) HT_ ?_
   refine pa (i := 9) (N := some 44) (bm 20 951) HT_ ?_
   refine pa (i := 11) (N := some 46) (bm 20 2999) HT_ ?_
   refine pa (i := 12) (N := some 47) (bm 20 7095) HT_ ?_
   refine take_ (i := 3) (N := some 38) (v := ?_) (a' := ?_) (bm 20 7103) rfl rfl (take_ofW HT_.out HW_.out qz) iz (Or.inl ⟨by rfl, ?_⟩) hHeld ?_ ?_
   rotate_left
   ·
    rintro w' ⟨s0, s1, s2, s3⟩
    go_simp
    with_reducible rfl
   rotate_left
   ·
    simp only [Act.put, aS, lZ, lS, i64_w, i32_w]
    rfl
   refine take_ (i := 10) (N := some 45) (v := ?_) (a' := ?_) (bm 20 8127) rfl rfl (take_ofW HT_.out HW_.out qz) iz (Or.inl ⟨by rfl, ?_⟩) hHeld ?_ ?_
   rotate_left
   ·
    rintro w' ⟨s0, s1, s2, s3⟩
    go_simp
    with_reducible rfl
   rotate_left
   ·
    simp only [Act.put, aS, lZ, lS, i64_w, i32_w]
    rfl
   refine one_ (i := 6) (N := some 41) (bm 20 8191) rfl rfl (one_of HT_.out qz) (by decide) (fun K hK => ?_)
   first
   | (have _ := tw1a
      refine goes_ Try.func57 qz rfl #[.agg #[.slice A489_0 ((rd_T43 l0 a3).f0).length c489_0, .slice A489_1 ((rd_T43 l0 a3).f1).length c489_1], .int .i64 a5, .int .i64 (wrap64 (Int.tdiv (rd l1 a3) 2))] (by rfl) rfl rfl mz ?_
      with_reducible refine (dancestudioref44_way.calls _ _ ((rd_T43 l0 a3).f0) _ _ ((rd_T43 l0 a3).f1) a5 (wrap64 (Int.tdiv (rd l1 a3) 2)) t490 t491 t492 t493 t494 _ ?side1 ?side2 ?side3 ?side4 A14.out).mono ?_
      (case side1 => exact cz HR489_0)
      (case side2 => exact HC489_0.out)
      (case side3 => exact cz HR489_1)
      (case side4 => exact HC489_1.out)
      rintro e w21 ⟨rfl, hb⟩
      refine ⟨_, rfl, ?_⟩
      have n0_ := am (below_step bz hb)
      clear HB
      have HB := n0_
      clear n0_
      (try clear hb)
      (try clear hb2)
      (try clear hk)
      (try clear hi)
      refine hK.out _ _ ⟨(cb HB.out hw489_0), (cb HB.out hw489_1), (cb HB.out hw495_0), (cb HB.out hw495_1)⟩ (fun hHeld => ?_)
      clear hK K
      refine norm_ (a' := ?_) ?_ ?_
      rotate_left
      ·
       show Act.put _ (some 41) _ = _
       simp only [Act.put, aS, lZ, lS, i64_w, i32_w]
       rfl
      refine one_ (i := 13) (N := some 48) (bm 20 16383) rfl rfl (one_of HT_.out qz) (by decide) (fun K hK => ?_)
      refine goes_ Try.func57 qz rfl #[.agg #[.slice A495_0 ((rd_T43 l0 a4).f0).length c495_0, .slice A495_1 ((rd_T43 l0 a4).f1).length c495_1], .int .i64 a5, .int .i64 (wrap64 (Int.tdiv (rd l1 a4) 2))] (by rfl) rfl rfl mz ?_
      with_reducible refine (dancestudioref44_way.calls _ _ ((rd_T43 l0 a4).f0) _ _ ((rd_T43 l0 a4).f1) a5 (wrap64 (Int.tdiv (rd l1 a4) 2)) t496 t497 t498 t499 t500 _ ?side1 ?side2 ?side3 ?side4 A16.out).mono ?_
      (case side1 => exact cz HR495_0)
      (case side2 => exact HC495_0.out)
      (case side3 => exact cz HR495_1)
      (case side4 => exact HC495_1.out)
      rintro e w22 ⟨rfl, hb⟩
      refine ⟨_, rfl, ?_⟩
      have n0_ := am (below_step bz hb)
      clear HB
      have HB := n0_
      clear n0_
      (try clear hb)
      (try clear hb2)
      (try clear hk)
      (try clear hi)
      refine hK.out _ _ ⟨(cb HB.out hw489_0), (cb HB.out hw489_1), (cb HB.out hw495_0), (cb HB.out hw495_1)⟩ (fun hHeld => ?_)
      clear hK K
      refine norm_ (a' := ?_) ?_ ?_
      rotate_left
      ·
       show Act.put _ (some 48) _ = _
       simp only [Act.put, aS, lZ, lS, i64_w, i32_w]
       rfl
      refine one_ (i := 14) (N := some 49) (bm 20 32767) rfl rfl (one_of HT_.out qz) (by decide) (fun K hK => ?_)
      refine goes_ Try.func56 qz rfl #[.agg #[.int .i64 t490, .int .i64 t491, .int .i64 t492, .int .i64 t493, .int .i64 t494], .agg #[.int .i64 t496, .int .i64 t497, .int .i64 t498, .int .i64 t499, .int .i64 t500]] (by rfl) rfl rfl mz ?_
      with_reducible refine (dancestudioref03_Touch.calls k t490 t491 t492 t493 t494 t496 t497 t498 t499 t500 t501 t502 _ A17.out).mono ?_
      rintro e w23 ⟨rfl, hb⟩
      refine ⟨_, rfl, ?_⟩
      have n0_ := am (below_step bz hb)
      clear HB
      have HB := n0_
      clear n0_
      (try clear hb)
      (try clear hb2)
      (try clear hk)
      (try clear hi)
      refine hK.out _ _ ⟨(cb HB.out hw489_0), (cb HB.out hw489_1), (cb HB.out hw495_0), (cb HB.out hw495_1)⟩ (fun hHeld => ?_)
      clear hK K
      refine norm_ (a' := ?_) ?_ ?_
      rotate_left
      ·
       show Act.put _ (some 49) _ = _
       simp only [Act.put, aS, lZ, lS, i64_w, i32_w]
       rfl
      refine pa (i := 15) (N := some 34) (bm 20 65535) HT_ ?_
      refine pa (i := 16) (N := some 50) (bm 20 131071) HT_ ?_
      refine pa (i := 17) (N := some 51) (bm 20 262143) HT_ ?_
      refine pa (i := 18) (N := some 15) (bm 20 524287) HT_ ?_
      refine pa (i := 19) (N := some 16) (bm 20 1048575) HT_ ?_
      refine done_ (done_of HT_.out qz) ?_
      try go_wp2
      go_ret
      exact ⟨ez, bz⟩)
   | (have _ := tw1b
      refine goes_ Try.func57 qz rfl #[.agg #[.slice A489_0 ((rd_T43 l0 a3).f0).length c489_0, .slice A489_1 ((rd_T43 l0 a3).f1).length c489_1], .int .i64 a5, .int .i64 (rd l1 a3)] (by rfl) rfl rfl mz ?_
      with_reducible refine (dancestudioref44_way.calls _ _ ((rd_T43 l0 a3).f0) _ _ ((rd_T43 l0 a3).f1) a5 (rd l1 a3) t504 t505 t506 t507 t508 _ ?side1 ?side2 ?side3 ?side4 A25.out).mono ?_
      (case side1 => exact cz HR489_0)
      (case side2 => exact HC489_0.out)
      (case side3 => exact cz HR489_1)
      (case side4 => exact HC489_1.out)
      rintro e w32 ⟨rfl, hb⟩
      refine ⟨_, rfl, ?_⟩
      have n0_ := am (below_step bz hb)
      clear HB
      have HB := n0_
      clear n0_
      (try clear hb)
      (try clear hb2)
      (try clear hk)
      (try clear hi)
      refine hK.out _ _ ⟨(cb HB.out hw489_0), (cb HB.out hw489_1), (cb HB.out hw495_0), (cb HB.out hw495_1)⟩ (fun hHeld => ?_)
      clear hK K
      refine norm_ (a' := ?_) ?_ ?_
      rotate_left
      ·
       show Act.put _ (some 41) _ = _
       simp only [Act.put, aS, lZ, lS, i64_w, i32_w]
       rfl
      refine one_ (i := 13) (N := some 48) (bm 20 16383) rfl rfl (one_of HT_.out qz) (by decide) (fun K hK => ?_)
      refine goes_ Try.func57 qz rfl #[.agg #[.slice A495_0 ((rd_T43 l0 a4).f0).length c495_0, .slice A495_1 ((rd_T43 l0 a4).f1).length c495_1], .int .i64 a5, .int .i64 (rd l1 a4)] (by rfl) rfl rfl mz ?_
      with_reducible refine (dancestudioref44_way.calls _ _ ((rd_T43 l0 a4).f0) _ _ ((rd_T43 l0 a4).f1) a5 (rd l1 a4) t510 t511 t512 t513 t514 _ ?side1 ?side2 ?side3 ?side4 A27.out).mono ?_
      (case side1 => exact cz HR495_0)
      (case side2 => exact HC495_0.out)
      (case side3 => exact cz HR495_1)
      (case side4 => exact HC495_1.out)
      rintro e w33 ⟨rfl, hb⟩
      refine ⟨_, rfl, ?_⟩
      have n0_ := am (below_step bz hb)
      clear HB
      have HB := n0_
      clear n0_
      (try clear hb)
      (try clear hb2)
      (try clear hk)
      (try clear hi)
      refine hK.out _ _ ⟨(cb HB.out hw489_0), (cb HB.out hw489_1), (cb HB.out hw495_0), (cb HB.out hw495_1)⟩ (fun hHeld => ?_)
      clear hK K
      refine norm_ (a' := ?_) ?_ ?_
      rotate_left
      ·
       show Act.put _ (some 48) _ = _
       simp only [Act.put, aS, lZ, lS, i64_w, i32_w]
       rfl
      refine one_ (i := 14) (N := some 49) (bm 20 32767) rfl rfl (one_of HT_.out qz) (by decide) (fun K hK => ?_)
      refine goes_ Try.func56 qz rfl #[.agg #[.int .i64 t504, .int .i64 t505, .int .i64 t506, .int .i64 t507, .int .i64 t508], .agg #[.int .i64 t510, .int .i64 t511, .int .i64 t512, .int .i64 t513, .int .i64 t514]] (by rfl) rfl rfl mz ?_
      with_reducible refine (dancestudioref03_Touch.calls k t504 t505 t506 t507 t508 t510 t511 t512 t513 t514 t515 t516 _ A28.out).mono ?_
      rintro e w34 ⟨rfl, hb⟩
      refine ⟨_, rfl, ?_⟩
      have n0_ := am (below_step bz hb)
      clear HB
      have HB := n0_
      clear n0_
      (try clear hb)
      (try clear hb2)
      (try clear hk)
      (try clear hi)
      refine hK.out _ _ ⟨(cb HB.out hw489_0), (cb HB.out hw489_1), (cb HB.out hw495_0), (cb HB.out hw495_1)⟩ (fun hHeld => ?_)
      clear hK K
      refine norm_ (a' := ?_) ?_ ?_
      rotate_left
      ·
       show Act.put _ (some 49) _ = _
       simp only [Act.put, aS, lZ, lS, i64_w, i32_w]
       rfl
      refine pa (i := 15) (N := some 34) (bm 20 65535) HT_ ?_
      refine pa (i := 16) (N := some 50) (bm 20 131071) HT_ ?_
      refine pa (i := 17) (N := some 51) (bm 20 262143) HT_ ?_
      refine pa (i := 18) (N := some 15) (bm 20 524287) HT_ ?_
      refine pa (i := 19) (N := some 16) (bm 20 1048575) HT_ ?_
      refine done_ (done_of HT_.out qz) ?_
      try go_wp2
      go_ret
      exact ⟨ez, bz⟩)
 ·
  rw [if_neg c7] at H
  exact absurd H (by simp)

end Go.Proofs.Yteflngoiebgdaaa.X
