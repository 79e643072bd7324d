import Derived.Test.YteflngoiebgdaaaX0
import Derived.Test.YteflngoiebgdaaaCMeets43
namespace Go.Proofs.Yteflngoiebgdaaa.X
open Go.RowKit YteflngoiebgdaaaW.PrintWords YteflngoiebgdaaaW.PrintLast YteflngoiebgdaaaW.PrintMore
attribute [local go_sem] max2_int min2_int max_two min_two max_three min_three max_four min_four
set_option linter.unusedVariables false
set_option linter.unusedSimpArgs false

/-! ### dancestudioref44_touches: function 55 -/
mutual
def dancestudioref44_touches.l0 : Nat → List (S62) → Int → Int → Int → Int → Option (Bool)
 | 0, _, _, _, _, _ => none
 | k + 1, x0, x1, x2, x3, x9 => if x9 < (x0.length : Int) then (if 0 ≤ x9 then (if ((rd_T62 x0 x9).f0) = x1 then (if ((rd_T62 x0 x9).f2) = x2 then (dancestudioref44_touches.j1 k x0 x1 x2 x3 x9 true) else (if ((rd_T62 x0 x9).f0) = x2 then (dancestudioref44_touches.j1 k x0 x1 x2 x3 x9 (((rd_T62 x0 x9).f2) == x1)) else (dancestudioref44_touches.j1 k x0 x1 x2 x3 x9 false))) else (if ((rd_T62 x0 x9).f0) = x2 then (dancestudioref44_touches.j1 k x0 x1 x2 x3 x9 (((rd_T62 x0 x9).f2) == x1)) else (dancestudioref44_touches.j1 k x0 x1 x2 x3 x9 false))) else (none)) else (some false)
def dancestudioref44_touches.j1 : Nat → List (S62) → Int → Int → Int → Int → Bool → Option (Bool)
 | 0, _, _, _, _, _, _ => none
 | k + 1, x0, x1, x2, x3, x9, x10 => if x10 = true then (if 0 ≤ x9 then (if x9 < (x0.length : Int) then ((dancestudioref44_has.f ((rd_T62 x0 x9).f4.f0) ((rd_T62 x0 x9).f4.f1) x3).bind fun t438 => (if t438 = true then (some true) else ((dancestudioref44_has.f ((rd_T62 x0 x9).f4.f0) ((rd_T62 x0 x9).f4.f1) (wrap64 (x3 + 1))).bind fun t440 => (if t440 = true then (some true) else (dancestudioref44_touches.l0 k x0 x1 x2 x3 (wrap64 (x9 + 1))))))) else (none)) else (none)) else (dancestudioref44_touches.l0 k x0 x1 x2 x3 (wrap64 (x9 + 1)))
end
def dancestudioref44_touches.f (k : Nat) (l0 : List (S62)) (a1 a2 a3 : Int) : Option (Bool) := dancestudioref44_touches.l0 k l0 a1 a2 a3 0
theorem dancestudioref44_touches.mono_l : ∀ k, (∀ y0 y1 y2 y3 y4, LeO (dancestudioref44_touches.l0 k y0 y1 y2 y3 y4) (dancestudioref44_touches.l0 (k + 1) y0 y1 y2 y3 y4)) ∧ (∀ y0 y1 y2 y3 y4 y5, LeO (dancestudioref44_touches.j1 k y0 y1 y2 y3 y4 y5) (dancestudioref44_touches.j1 (k + 1) y0 y1 y2 y3 y4 y5))
 | 0 => ⟨fun _ _ _ _ _ r h => by simp [dancestudioref44_touches.l0] at h, fun _ _ _ _ _ _ r h => by simp [dancestudioref44_touches.j1] at h⟩
 | k + 1 => by
  obtain ⟨ih0, ih1⟩ := dancestudioref44_touches.mono_l k
  refine ⟨?_, ?_⟩
  ·
   intro y0 y1 y2 y3 y4
   unfold dancestudioref44_touches.l0
   repeat' first
   | (with_reducible exact ih0 _ _ _ _ _)
   | (with_reducible exact ih1 _ _ _ _ _ _)
   | (with_reducible exact LeO.refl _)
   | (with_reducible exact LeO.none _)
   | (with_reducible refine LeO.ite ?_ ?_)
   | (with_reducible refine LeO.bind ?_ (fun _ => ?_))
   | exact ih0 _ _ _ _ _
   | exact ih1 _ _ _ _ _ _
   | exact LeO.none _
   | refine LeO.ite ?_ ?_
   | refine LeO.bind ?_ (fun _ => ?_)
  ·
   intro y0 y1 y2 y3 y4 y5
   unfold dancestudioref44_touches.j1
   repeat' first
   | (with_reducible exact ih0 _ _ _ _ _)
   | (with_reducible exact ih1 _ _ _ _ _ _)
   | (with_reducible exact LeO.refl _)
   | (with_reducible exact LeO.none _)
   | (with_reducible refine LeO.ite ?_ ?_)
   | (with_reducible refine LeO.bind ?_ (fun _ => ?_))
   | exact ih0 _ _ _ _ _
   | exact ih1 _ _ _ _ _ _
   | exact LeO.none _
   | refine LeO.ite ?_ ?_
   | refine LeO.bind ?_ (fun _ => ?_)
theorem dancestudioref44_touches.mono : ∀ a0 a1 a2 a3 k, LeO (dancestudioref44_touches.f k a0 a1 a2 a3) (dancestudioref44_touches.f (k + 1) a0 a1 a2 a3) := by
 intro a0 a1 a2 a3 k
 obtain ⟨ih0, ih1⟩ := dancestudioref44_touches.mono_l k
 unfold dancestudioref44_touches.f
 repeat' first
   | (with_reducible exact ih0 _ _ _ _ _)
   | (with_reducible exact ih1 _ _ _ _ _ _)
   | (with_reducible exact LeO.refl _)
   | (with_reducible exact LeO.none _)
   | (with_reducible refine LeO.ite ?_ ?_)
   | (with_reducible refine LeO.bind ?_ (fun _ => ?_))
   | exact ih0 _ _ _ _ _
   | exact ih1 _ _ _ _ _ _
   | exact LeO.none _
   | refine LeO.ite ?_ ?_
   | refine LeO.bind ?_ (fun _ => ?_)
set_option maxHeartbeats 8000000 in
set_option maxRecDepth 100000 in
theorem dancestudioref44_touches.calls (k : Nat) (A0 : Option Addr) (c0 : Nat) (l0 : List (S62)) (a1 a2 a3 : Int) (r : Bool) (w : World) (hr0 : Kd.C k62 w A0 l0.length l0) (hc0 : l0.length ≤ c0) (h : dancestudioref44_touches.f k l0 a1 a2 a3 = some r) :
  Calls Try.prog 55 #[.slice A0 l0.length c0, .int .i64 a1, .int .i64 a2, .int .i64 a3] w fun e w' => e = .returned (.bool r) ∧ Below w.heap.size w w' := by
 have hu60 := Try.underlying60
 have HR0 := am hr0
 have HC0 := am hc0
 clear hr0 hc0
 have HB := am (Below.refl w.heap.size w)
 have H : (dancestudioref44_touches.l0 k l0 a1 a2 a3 0) = some r := h
 clear h
 have H' := am H
 clear H
 go_enter Try.func55, Try.ntmps55
 go_wp2
 go_loopg [9] k (fun kq v9 w' => ∃ (x9_1 : Int), v9 = .int .i64 x9_1 ∧ Aside0 (dancestudioref44_touches.l0 kq l0 a1 a2 a3 x9_1 = some r) ∧ Aside0 (kq ≤ k) ∧ Aside0 (Below w.heap.size w w'))
 case atStart => exact ⟨(0), sz, H', ⟨Nat.le_refl _⟩, ⟨bz⟩⟩
 case round =>
  clear H'
  try clear p2
  obtain ⟨x9_1, rfl, HA, HK1, HB⟩ := hrel
  cases gk with
  | zero => exact absurd HA.out (by simp [dancestudioref44_touches.l0])
  | succ k1 =>
   have H := HA.out
   clear HA
   simp only [dancestudioref44_touches.l0] at H
   by_cases c5 : x9_1 < (l0.length : Int)
   ·
    rw [if_pos c5] at H
    have c5b0 := decide_eq_true c5
    clear c5
    have HC6 := am H
    clear H
    go_upto_region 4 with (fail)
    go_cut [10] (fun v10 wc => ∃ (kq : Nat) (x10_5 : Bool), v10 = .bool x10_5 ∧ Aside0 (dancestudioref44_touches.j1 kq l0 a1 a2 a3 x9_1 x10_5 = some r) ∧ Aside0 (kq ≤ k1) ∧ Aside0 (Below w.heap.size w wc))
    case first =>
     have H := HC6.out
     clear HC6
     by_cases c7 : 0 ≤ x9_1; rotate_left
     · rw [if_neg c7] at H; exact absurd H (by simp)
     rw [if_pos c7] at H
     have c7b0 := decide_eq_true c7
     clear c7
     (first | rw [c7b0] | (simp only [i64_w, i32_w]; rw [c7b0]) | skip)
     by_cases c8 : ((rd_T62 l0 x9_1).f0) = a1
     ·
      rw [if_pos c8] at H
      have c8b0 : (((rd_T62 l0 x9_1).f0) == a1) = true := beq_iff_eq.mpr c8
      have c8b1 : (((rd_T62 l0 x9_1).f0) != a1) = false := bne_eq_false_iff_eq.mpr c8
      clear c8
      by_cases c9 : ((rd_T62 l0 x9_1).f2) = a2
      ·
       rw [if_pos c9] at H
       have c9b0 : (((rd_T62 l0 x9_1).f2) == a2) = true := beq_iff_eq.mpr c9
       have c9b1 : (((rd_T62 l0 x9_1).f2) != a2) = false := bne_eq_false_iff_eq.mpr c9
       clear c9
       have H' := am H
       clear H
       have p431 : 0 ≤ (x9_1 : Int) := az
       have q431 : x9_1 < (l0.length : Int) := az
       obtain ⟨ad431, e431, hx431_0, hx431_1, hx431_2, hx431_3, hx431_4, hx431_5⟩ := at_T62 HR0.out x9_1 p431 q431
       cases e431
       replace hx431_0 := cb HB.out hx431_0
       replace hx431_1 := cb HB.out hx431_1
       replace hx431_2 := cb HB.out hx431_2
       replace hx431_3 := cb HB.out hx431_3
       replace hx431_4 := cb HB.out hx431_4
       replace hx431_5 := cb HB.out hx431_5
       replace p431 := eq_true p431
       replace q431 := eq_true q431
       have p432 : 0 ≤ (x9_1 : Int) := az
       have q432 : x9_1 < (l0.length : Int) := az
       obtain ⟨ad432, e432, hx432_0, hx432_1, hx432_2, hx432_3, hx432_4, hx432_5⟩ := at_T62 HR0.out x9_1 p432 q432
       obtain rfl : ad431 = ad432 := (by injection e432)
       replace hx432_0 := cb HB.out hx432_0
       replace hx432_1 := cb HB.out hx432_1
       replace hx432_2 := cb HB.out hx432_2
       replace hx432_3 := cb HB.out hx432_3
       replace hx432_4 := cb HB.out hx432_4
       replace hx432_5 := cb HB.out hx432_5
       replace p432 := eq_true p432
       replace q432 := eq_true q432
       go_wp2
       go_meet
       case rel => exact ⟨_, (true), sz, H', ⟨by have := HK1.out; first | omega | exact Nat.le_refl _⟩, ⟨bz⟩⟩
      ·
       rw [if_neg c9] at H
       have c9b0 : (((rd_T62 l0 x9_1).f2) == a2) = false := beq_eq_false_iff_ne.mpr c9
       have c9b1 : (((rd_T62 l0 x9_1).f2) != a2) = true := bne_iff_ne.mpr c9
       by_cases c10 : ((rd_T62 l0 x9_1).f0) = a2
       case' pos =>
        rw [if_pos c10] at H
        have c10b0 : (((rd_T62 l0 x9_1).f0) == a2) = true := beq_iff_eq.mpr c10
        have c10b1 : (((rd_T62 l0 x9_1).f0) != a2) = false := bne_eq_false_iff_eq.mpr c10
        clear c10
        have tw1a : True := trivial
       case' neg =>
        rw [if_neg c10] at H
        have c10b0 : (((rd_T62 l0 x9_1).f0) == a2) = false := beq_eq_false_iff_ne.mpr c10
        have c10b1 : (((rd_T62 l0 x9_1).f0) != a2) = true := bne_iff_ne.mpr c10
        have tw1b : True := trivial
       all_goals
        have H' := am H
        clear H
        have p431 : 0 ≤ (x9_1 : Int) := az
        have q431 : x9_1 < (l0.length : Int) := az
        obtain ⟨ad431, e431, hx431_0, hx431_1, hx431_2, hx431_3, hx431_4, hx431_5⟩ := at_T62 HR0.out x9_1 p431 q431
        cases e431
        replace hx431_0 := cb HB.out hx431_0
        replace hx431_1 := cb HB.out hx431_1
        replace hx431_2 := cb HB.out hx431_2
        replace hx431_3 := cb HB.out hx431_3
        replace hx431_4 := cb HB.out hx431_4
        replace hx431_5 := cb HB.out hx431_5
        replace p431 := eq_true p431
        replace q431 := eq_true q431
        have p432 : 0 ≤ (x9_1 : Int) := az
        have q432 : x9_1 < (l0.length : Int) := az
        obtain ⟨ad432, e432, hx432_0, hx432_1, hx432_2, hx432_3, hx432_4, hx432_5⟩ := at_T62 HR0.out x9_1 p432 q432
        obtain rfl : ad431 = ad432 := (by injection e432)
        replace hx432_0 := cb HB.out hx432_0
        replace hx432_1 := cb HB.out hx432_1
        replace hx432_2 := cb HB.out hx432_2
        replace hx432_3 := cb HB.out hx432_3
        replace hx432_4 := cb HB.out hx432_4
        replace hx432_5 := cb HB.out hx432_5
        replace p432 := eq_true p432
        replace q432 := eq_true q432
        have p433 : 0 ≤ (x9_1 : Int) := az
        have q433 : x9_1 < (l0.length : Int) := az
        obtain ⟨ad433, e433, hx433_0, hx433_1, hx433_2, hx433_3, hx433_4, hx433_5⟩ := at_T62 HR0.out x9_1 p433 q433
        obtain rfl : ad431 = ad433 := (by injection e433)
        replace hx433_0 := cb HB.out hx433_0
        replace hx433_1 := cb HB.out hx433_1
        replace hx433_2 := cb HB.out hx433_2
        replace hx433_3 := cb HB.out hx433_3
        replace hx433_4 := cb HB.out hx433_4
        replace hx433_5 := cb HB.out hx433_5
        replace p433 := eq_true p433
        replace q433 := eq_true q433
        first
        | (have _ := tw1a
           have p434 : 0 ≤ (x9_1 : Int) := az
           have q434 : x9_1 < (l0.length : Int) := az
           obtain ⟨ad434, e434, hx434_0, hx434_1, hx434_2, hx434_3, hx434_4, hx434_5⟩ := at_T62 HR0.out x9_1 p434 q434
           obtain rfl : ad431 = ad434 := (by injection e434)
           replace hx434_0 := cb HB.out hx434_0
           replace hx434_1 := cb HB.out hx434_1
           replace hx434_2 := cb HB.out hx434_2
           replace hx434_3 := cb HB.out hx434_3
           replace hx434_4 := cb HB.out hx434_4
           replace hx434_5 := cb HB.out hx434_5
           replace p434 := eq_true p434
           replace q434 := eq_true q434
           go_wp2
           go_meet
           case rel => exact ⟨_, ((((rd_T62 l0 x9_1).f2) == a1)), sz, H', ⟨by have := HK1.out; first | omega | exact Nat.le_refl _⟩, ⟨bz⟩⟩)
        | (have _ := tw1b
           go_wp2
           go_meet
           case rel => exact ⟨_, (false), sz, H', ⟨by have := HK1.out; first | omega | exact Nat.le_refl _⟩, ⟨bz⟩⟩)
     ·
      rw [if_neg c8] at H
      have c8b0 : (((rd_T62 l0 x9_1).f0) == a1) = false := beq_eq_false_iff_ne.mpr c8
      have c8b1 : (((rd_T62 l0 x9_1).f0) != a1) = true := bne_iff_ne.mpr c8
      by_cases c11 : ((rd_T62 l0 x9_1).f0) = a2
      ·
       rw [if_pos c11] at H
       have c11b0 : (((rd_T62 l0 x9_1).f0) == a2) = true := beq_iff_eq.mpr c11
       have c11b1 : (((rd_T62 l0 x9_1).f0) != a2) = false := bne_eq_false_iff_eq.mpr c11
       clear c11
       have H' := am H
       clear H
       have p431 : 0 ≤ (x9_1 : Int) := az
       have q431 : x9_1 < (l0.length : Int) := az
       obtain ⟨ad431, e431, hx431_0, hx431_1, hx431_2, hx431_3, hx431_4, hx431_5⟩ := at_T62 HR0.out x9_1 p431 q431
       cases e431
       replace hx431_0 := cb HB.out hx431_0
       replace hx431_1 := cb HB.out hx431_1
       replace hx431_2 := cb HB.out hx431_2
       replace hx431_3 := cb HB.out hx431_3
       replace hx431_4 := cb HB.out hx431_4
       replace hx431_5 := cb HB.out hx431_5
       replace p431 := eq_true p431
       replace q431 := eq_true q431
       have p435 : 0 ≤ (x9_1 : Int) := az
       have q435 : x9_1 < (l0.length : Int) := az
       obtain ⟨ad435, e435, hx435_0, hx435_1, hx435_2, hx435_3, hx435_4, hx435_5⟩ := at_T62 HR0.out x9_1 p435 q435
       obtain rfl : ad431 = ad435 := (by injection e435)
       replace hx435_0 := cb HB.out hx435_0
       replace hx435_1 := cb HB.out hx435_1
       replace hx435_2 := cb HB.out hx435_2
       replace hx435_3 := cb HB.out hx435_3
       replace hx435_4 := cb HB.out hx435_4
       replace hx435_5 := cb HB.out hx435_5
       replace p435 := eq_true p435
       replace q435 := eq_true q435
       have p436 : 0 ≤ (x9_1 : Int) := az
       have q436 : x9_1 < (l0.length : Int) := az
       obtain ⟨ad436, e436, hx436_0, hx436_1, hx436_2, hx436_3, hx436_4, hx436_5⟩ := at_T62 HR0.out x9_1 p436 q436
       obtain rfl : ad431 = ad436 := (by injection e436)
       replace hx436_0 := cb HB.out hx436_0
       replace hx436_1 := cb HB.out hx436_1
       replace hx436_2 := cb HB.out hx436_2
       replace hx436_3 := cb HB.out hx436_3
       replace hx436_4 := cb HB.out hx436_4
       replace hx436_5 := cb HB.out hx436_5
       replace p436 := eq_true p436
       replace q436 := eq_true q436
       go_wp2
       go_meet
       case rel => exact ⟨_, ((((rd_T62 l0 x9_1).f2) == a1)), sz, H', ⟨by have := HK1.out; first | omega | exact Nat.le_refl _⟩, ⟨bz⟩⟩
      ·
       rw [if_neg c11] at H
       have c11b0 : (((rd_T62 l0 x9_1).f0) == a2) = false := beq_eq_false_iff_ne.mpr c11
       have c11b1 : (((rd_T62 l0 x9_1).f0) != a2) = true := bne_iff_ne.mpr c11
       have H' := am H
       clear H
       have p431 : 0 ≤ (x9_1 : Int) := az
       have q431 : x9_1 < (l0.length : Int) := az
       obtain ⟨ad431, e431, hx431_0, hx431_1, hx431_2, hx431_3, hx431_4, hx431_5⟩ := at_T62 HR0.out x9_1 p431 q431
       cases e431
       replace hx431_0 := cb HB.out hx431_0
       replace hx431_1 := cb HB.out hx431_1
       replace hx431_2 := cb HB.out hx431_2
       replace hx431_3 := cb HB.out hx431_3
       replace hx431_4 := cb HB.out hx431_4
       replace hx431_5 := cb HB.out hx431_5
       replace p431 := eq_true p431
       replace q431 := eq_true q431
       have p435 : 0 ≤ (x9_1 : Int) := az
       have q435 : x9_1 < (l0.length : Int) := az
       obtain ⟨ad435, e435, hx435_0, hx435_1, hx435_2, hx435_3, hx435_4, hx435_5⟩ := at_T62 HR0.out x9_1 p435 q435
       obtain rfl : ad431 = ad435 := (by injection e435)
       replace hx435_0 := cb HB.out hx435_0
       replace hx435_1 := cb HB.out hx435_1
       replace hx435_2 := cb HB.out hx435_2
       replace hx435_3 := cb HB.out hx435_3
       replace hx435_4 := cb HB.out hx435_4
       replace hx435_5 := cb HB.out hx435_5
       replace p435 := eq_true p435
       replace q435 := eq_true q435
       go_wp2
       go_meet
       case rel => exact ⟨_, (false), sz, H', ⟨by have := HK1.out; first | omega | exact Nat.le_refl _⟩, ⟨bz⟩⟩
    case rest =>
     clear HC6
     try clear c1
     try clear p2
     try clear p4
     try clear q4
     try clear hx4
     try clear c5
     try clear c5b0
     try clear c7
     try clear c7b0
     try clear c8
     try clear c8b0
     try clear c8b1
     try clear c9
     try clear c9b0
     try clear c9b1
     try clear c10
     try clear c10b0
     try clear c10b1
     try clear c11
     try clear c11b0
     try clear c11b1
     try clear hx431_0
     try clear hx431_1
     try clear hx431_2
     try clear hx431_3
     try clear hx431_4
     try clear hx431_5
     try clear hx432_0
     try clear hx432_1
     try clear hx432_2
     try clear hx432_3
     try clear hx432_4
     try clear hx432_5
     try clear hx433_0
     try clear hx433_1
     try clear hx433_2
     try clear hx433_3
     try clear hx433_4
     try clear hx433_5
     try clear hx434_0
     try clear hx434_1
     try clear hx434_2
     try clear hx434_3
     try clear hx434_4
     try clear hx434_5
     try clear hx435_0
     try clear hx435_1
     try clear hx435_2
     try clear hx435_3
     try clear hx435_4
     try clear hx435_5
     try clear hx436_0
     try clear hx436_1
     try clear hx436_2
     try clear hx436_3
     try clear hx436_4
     try clear hx436_5
     try clear p2
     try clear p431
     try clear p432
     try clear p433
     try clear p434
     try clear p435
     try clear p436
     try clear q431
     try clear q432
     try clear q433
     try clear q434
     try clear q435
     try clear q436
     obtain ⟨kq, x10_5, rfl, HA, HJ5, HB⟩ := hcut
     cases kq with
     | zero => exact absurd HA.out (by simp [dancestudioref44_touches.j1])
     | succ kj5 =>
      have H := HA.out
      clear HA
      simp only [dancestudioref44_touches.j1] at H
      by_cases c12 : x10_5 = true
      ·
       subst c12
       have H1 : (if 0 ≤ x9_1 then (if x9_1 < (l0.length : Int) then ((dancestudioref44_has.f ((rd_T62 l0 x9_1).f4.f0) ((rd_T62 l0 x9_1).f4.f1) a3).bind fun t438 => (if t438 = true then (some true) else ((dancestudioref44_has.f ((rd_T62 l0 x9_1).f4.f0) ((rd_T62 l0 x9_1).f4.f1) (wrap64 (a3 + 1))).bind fun t440 => (if t440 = true then (some true) else (dancestudioref44_touches.l0 kj5 l0 a1 a2 a3 (wrap64 (x9_1 + 1))))))) else (none)) else (none)) = some r := by rw [if_pos rfl] at H; exact H
       clear H
       have H := H1
       clear H1
       by_cases c13 : 0 ≤ x9_1; rotate_left
       · rw [if_neg c13] at H; exact absurd H (by simp)
       rw [if_pos c13] at H
       have c13b0 := decide_eq_true c13
       clear c13
       by_cases c14 : x9_1 < (l0.length : Int); rotate_left
       · rw [if_neg c14] at H; exact absurd H (by simp)
       rw [if_pos c14] at H
       have c14b0 := decide_eq_true c14
       clear c14
       replace H := Option.bind_eq_some_iff.mp H
       obtain ⟨t438, A150, H⟩ := H
       replace H : (if t438 = true then (some true) else ((dancestudioref44_has.f ((rd_T62 l0 x9_1).f4.f0) ((rd_T62 l0 x9_1).f4.f1) (wrap64 (a3 + 1))).bind fun t440 => (if t440 = true then (some true) else (dancestudioref44_touches.l0 kj5 l0 a1 a2 a3 (wrap64 (x9_1 + 1)))))) = some r := H
       have A15 := am A150
       clear A150
       by_cases c16 : t438 = true
       ·
        subst c16
        have H1 : (some true) = some r := by rw [if_pos rfl] at H; exact H
        clear H
        have H := H1
        clear H1
        obtain rfl := Option.some.inj H
        have p437 : 0 ≤ (x9_1 : Int) := az
        have q437 : x9_1 < (l0.length : Int) := az
        obtain ⟨ad437, e437, hx437_0, hx437_1, hx437_2, hx437_3, hx437_4, hx437_5⟩ := at_T62 HR0.out x9_1 p437 q437
        cases e437
        replace hx437_0 := cb HB.out hx437_0
        replace hx437_1 := cb HB.out hx437_1
        replace hx437_2 := cb HB.out hx437_2
        replace hx437_3 := cb HB.out hx437_3
        replace hx437_4 := cb HB.out hx437_4
        replace hx437_5 := cb HB.out hx437_5
        replace p437 := eq_true p437
        replace q437 := eq_true q437
        go_wp2_with (first | (go_at_call 69; (with_reducible refine (dancestudioref44_has.calls ((rd_T62 l0 x9_1).f4.f0) ((rd_T62 l0 x9_1).f4.f1) a3 true _ A15.out).mono ?_); rintro e w17 ⟨rfl, hb⟩; replace HB := am (below_step bz hb); (try clear hb); (try clear hb2); (try clear hk); (try clear hi)))
        go_ret
        exact ⟨ez, bz⟩
       ·
        replace c16 := Bool.eq_false_iff.mpr c16
        subst c16
        have H1 : ((dancestudioref44_has.f ((rd_T62 l0 x9_1).f4.f0) ((rd_T62 l0 x9_1).f4.f1) (wrap64 (a3 + 1))).bind fun t440 => (if t440 = true then (some true) else (dancestudioref44_touches.l0 kj5 l0 a1 a2 a3 (wrap64 (x9_1 + 1))))) = some r := by rw [if_neg (show ¬ (false = true) by decide)] at H; exact H
        clear H
        have H := H1
        clear H1
        replace H := Option.bind_eq_some_iff.mp H
        obtain ⟨t440, A180, H⟩ := H
        replace H : (if t440 = true then (some true) else (dancestudioref44_touches.l0 kj5 l0 a1 a2 a3 (wrap64 (x9_1 + 1)))) = some r := H
        have A18 := am A180
        clear A180
        by_cases c19 : t440 = true
        ·
         subst c19
         have H1 : (some true) = some r := by rw [if_pos rfl] at H; exact H
         clear H
         have H := H1
         clear H1
         obtain rfl := Option.some.inj H
         have p437 : 0 ≤ (x9_1 : Int) := az
         have q437 : x9_1 < (l0.length : Int) := az
         obtain ⟨ad437, e437, hx437_0, hx437_1, hx437_2, hx437_3, hx437_4, hx437_5⟩ := at_T62 HR0.out x9_1 p437 q437
         cases e437
         replace hx437_0 := cb HB.out hx437_0
         replace hx437_1 := cb HB.out hx437_1
         replace hx437_2 := cb HB.out hx437_2
         replace hx437_3 := cb HB.out hx437_3
         replace hx437_4 := cb HB.out hx437_4
         replace hx437_5 := cb HB.out hx437_5
         replace p437 := eq_true p437
         replace q437 := eq_true q437
         go_wp2_with (first | (go_at_call 69; (with_reducible refine (dancestudioref44_has.calls ((rd_T62 l0 x9_1).f4.f0) ((rd_T62 l0 x9_1).f4.f1) a3 false _ A15.out).mono ?_); rintro e w20 ⟨rfl, hb⟩; replace HB := am (below_step bz hb); (try clear hb); (try clear hb2); (try clear hk); (try clear hi); have p439 : 0 ≤ (x9_1 : Int) := az; have q439 : x9_1 < (l0.length : Int) := az; obtain ⟨ad439, e439, hx439_0, hx439_1, hx439_2, hx439_3, hx439_4, hx439_5⟩ := at_T62 HR0.out x9_1 p439 q439; obtain rfl : ad437 = ad439 := (by injection e439); replace hx439_0 := cb HB.out hx439_0; replace hx439_1 := cb HB.out hx439_1; replace hx439_2 := cb HB.out hx439_2; replace hx439_3 := cb HB.out hx439_3; replace hx439_4 := cb HB.out hx439_4; replace hx439_5 := cb HB.out hx439_5; replace p439 := eq_true p439; replace q439 := eq_true q439) | (go_at_call 69; (with_reducible refine (dancestudioref44_has.calls ((rd_T62 l0 x9_1).f4.f0) ((rd_T62 l0 x9_1).f4.f1) (wrap64 (a3 + 1)) true _ A18.out).mono ?_); rintro e w21 ⟨rfl, hb⟩; replace HB := am (below_step bz hb); (try clear hb); (try clear hb2); (try clear hk); (try clear hi)))
         go_ret
         exact ⟨ez, bz⟩
        ·
         replace c19 := Bool.eq_false_iff.mpr c19
         subst c19
         have H1 : (dancestudioref44_touches.l0 kj5 l0 a1 a2 a3 (wrap64 (x9_1 + 1))) = some r := by rw [if_neg (show ¬ (false = true) by decide)] at H; exact H
         clear H
         have H := H1
         clear H1
         have H' := am H
         clear H
         have p437 : 0 ≤ (x9_1 : Int) := az
         have q437 : x9_1 < (l0.length : Int) := az
         obtain ⟨ad437, e437, hx437_0, hx437_1, hx437_2, hx437_3, hx437_4, hx437_5⟩ := at_T62 HR0.out x9_1 p437 q437
         cases e437
         replace hx437_0 := cb HB.out hx437_0
         replace hx437_1 := cb HB.out hx437_1
         replace hx437_2 := cb HB.out hx437_2
         replace hx437_3 := cb HB.out hx437_3
         replace hx437_4 := cb HB.out hx437_4
         replace hx437_5 := cb HB.out hx437_5
         replace p437 := eq_true p437
         replace q437 := eq_true q437
         go_wp2_with (first | (go_at_call 69; (with_reducible refine (dancestudioref44_has.calls ((rd_T62 l0 x9_1).f4.f0) ((rd_T62 l0 x9_1).f4.f1) a3 false _ A15.out).mono ?_); rintro e w22 ⟨rfl, hb⟩; replace HB := am (below_step bz hb); (try clear hb); (try clear hb2); (try clear hk); (try clear hi); have p439 : 0 ≤ (x9_1 : Int) := az; have q439 : x9_1 < (l0.length : Int) := az; obtain ⟨ad439, e439, hx439_0, hx439_1, hx439_2, hx439_3, hx439_4, hx439_5⟩ := at_T62 HR0.out x9_1 p439 q439; obtain rfl : ad437 = ad439 := (by injection e439); replace hx439_0 := cb HB.out hx439_0; replace hx439_1 := cb HB.out hx439_1; replace hx439_2 := cb HB.out hx439_2; replace hx439_3 := cb HB.out hx439_3; replace hx439_4 := cb HB.out hx439_4; replace hx439_5 := cb HB.out hx439_5; replace p439 := eq_true p439; replace q439 := eq_true q439) | (go_at_call 69; (with_reducible refine (dancestudioref44_has.calls ((rd_T62 l0 x9_1).f4.f0) ((rd_T62 l0 x9_1).f4.f1) (wrap64 (a3 + 1)) false _ A18.out).mono ?_); rintro e w23 ⟨rfl, hb⟩; replace HB := am (below_step bz hb); (try clear hb); (try clear hb2); (try clear hk); (try clear hi)))
         go_roundg kj5
         case measure => have := HK1.out; have := HJ5.out; omega
         case rel => exact ⟨(wrap64 (x9_1 + 1)), sz, H', ⟨by have := HK1.out; have := HJ5.out; omega⟩, ⟨bz⟩⟩
      ·
       replace c12 := Bool.eq_false_iff.mpr c12
       subst c12
       have H1 : (dancestudioref44_touches.l0 kj5 l0 a1 a2 a3 (wrap64 (x9_1 + 1))) = some r := by rw [if_neg (show ¬ (false = true) by decide)] at H; exact H
       clear H
       have H := H1
       clear H1
       have H' := am H
       clear H
       go_wp2
       go_roundg kj5
       case measure => have := HK1.out; have := HJ5.out; omega
       case rel => exact ⟨(wrap64 (x9_1 + 1)), sz, H', ⟨by have := HK1.out; have := HJ5.out; omega⟩, ⟨bz⟩⟩
   ·
    rw [if_neg c5] at H
    have c5b0 := decide_eq_false c5
    clear c5
    obtain rfl := Option.some.inj H
    go_wp2
    go_ret
    exact ⟨ez, bz⟩

end Go.Proofs.Yteflngoiebgdaaa.X
