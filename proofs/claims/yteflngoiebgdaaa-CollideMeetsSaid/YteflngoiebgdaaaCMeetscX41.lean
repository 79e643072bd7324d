import Derived.Test.YteflngoiebgdaaaX0
import Derived.Test.YteflngoiebgdaaaCMeetscX40
namespace Go.Proofs.Yteflngoiebgdaaa.X
open Go.RowKit YteflngoiebgdaaaW.PrintWords YteflngoiebgdaaaW.PrintLast YteflngoiebgdaaaW.PrintMore
attribute [local go_sem] max2_int min2_int max_two min_two max_three min_three max_four min_four
set_option linter.unusedVariables false
set_option linter.unusedSimpArgs false

/-! ### dancestudioref44_Check: function 13 -/
mutual
def dancestudioref44_Check.l0 : Nat → List (S43) → List Int → List (S62) → Int → Option (Int)
 | 0, _, _, _, _ => none
 | k + 1, x0, x1, x2, x7 => if x7 < (x0.length : Int) then (if 0 ≤ x7 then ((dancestudioref29_Check.f k ((rd_T43 x0 x7).f0) ((rd_T43 x0 x7).f1)).bind fun t361 => (if t361 = 0 then (if x7 < (x1.length : Int) then (if (rd x1 x7) < 0 then (some 1) else (if (rd x1 x7) > 32768 then (some 1) else (dancestudioref44_Check.l0 k x0 x1 x2 (wrap64 (x7 + 1))))) else (none)) else (some t361))) else (none)) else (dancestudioref44_Check.l1 k x0 x2 0)
def dancestudioref44_Check.l1 : Nat → List (S43) → List (S62) → Int → Option (Int)
 | 0, _, _, _ => none
 | k + 1, x0, x2, x9 => if x9 < (x0.length : Int) then (if 0 ≤ x9 then (if 0 < (x0.length : Int) then (if (((rd_T43 x0 x9).f1).length : Int) = (((rd_T43 x0 0).f1).length : Int) then (dancestudioref44_Check.l1 k x0 x2 (wrap64 (x9 + 1))) else (some 33)) else (none)) else (none)) else (dancestudioref44_Check.l2 k x0 x2 0)
def dancestudioref44_Check.l2 : Nat → List (S43) → List (S62) → Int → Option (Int)
 | 0, _, _, _ => none
 | k + 1, x0, x2, x10 => if x10 < (x2.length : Int) then (if 0 ≤ x10 then (if ((rd_T62 x2 x10).f0) = ((rd_T62 x2 x10).f2) then (some 31) else (if ((rd_T62 x2 x10).f0) < 0 then (some 31) else (if ((rd_T62 x2 x10).f0) ≥ (x0.length : Int) then (some 31) else (if ((rd_T62 x2 x10).f2) < 0 then (some 31) else (if ((rd_T62 x2 x10).f2) ≥ (x0.length : Int) then (some 31) else (dancestudioref44_Check.l2 k x0 x2 (wrap64 (x10 + 1)))))))) else (none)) else (some 0)
end
def dancestudioref44_Check.f (k : Nat) (l0 : List (S43)) (l1 : List Int) (l2 : List (S62)) : Option (Int) := if (l0.length : Int) > 12 then (some 3) else (if (l1.length : Int) = (l0.length : Int) then (dancestudioref44_Check.l0 k l0 l1 l2 0) else (some 2))
theorem dancestudioref44_Check.mono_l : ∀ k, (∀ y0 y1 y2 y3, LeO (dancestudioref44_Check.l0 k y0 y1 y2 y3) (dancestudioref44_Check.l0 (k + 1) y0 y1 y2 y3)) ∧ (∀ y0 y1 y2, LeO (dancestudioref44_Check.l1 k y0 y1 y2) (dancestudioref44_Check.l1 (k + 1) y0 y1 y2)) ∧ (∀ y0 y1 y2, LeO (dancestudioref44_Check.l2 k y0 y1 y2) (dancestudioref44_Check.l2 (k + 1) y0 y1 y2))
 | 0 => ⟨fun _ _ _ _ r h => by simp [dancestudioref44_Check.l0] at h, fun _ _ _ r h => by simp [dancestudioref44_Check.l1] at h, fun _ _ _ r h => by simp [dancestudioref44_Check.l2] at h⟩
 | k + 1 => by
  obtain ⟨ih0, ih1, ih2⟩ := dancestudioref44_Check.mono_l k
  refine ⟨?_, ?_, ?_⟩
  ·
   intro y0 y1 y2 y3
   unfold dancestudioref44_Check.l0
   repeat' first
   | (with_reducible exact ih0 _ _ _ _)
   | (with_reducible exact ih1 _ _ _)
   | (with_reducible exact ih2 _ _ _)
   | (with_reducible exact dancestudioref29_Check.mono _ _ _)
   | (with_reducible exact LeO.refl _)
   | (with_reducible exact LeO.none _)
   | (with_reducible refine LeO.ite ?_ ?_)
   | (with_reducible refine LeO.bind ?_ (fun _ => ?_))
   | exact ih0 _ _ _ _
   | exact ih1 _ _ _
   | exact ih2 _ _ _
   | exact dancestudioref29_Check.mono _ _ _
   | exact LeO.none _
   | refine LeO.ite ?_ ?_
   | refine LeO.bind ?_ (fun _ => ?_)
  ·
   intro y0 y1 y2
   unfold dancestudioref44_Check.l1
   repeat' first
   | (with_reducible exact ih0 _ _ _ _)
   | (with_reducible exact ih1 _ _ _)
   | (with_reducible exact ih2 _ _ _)
   | (with_reducible exact dancestudioref29_Check.mono _ _ _)
   | (with_reducible exact LeO.refl _)
   | (with_reducible exact LeO.none _)
   | (with_reducible refine LeO.ite ?_ ?_)
   | (with_reducible refine LeO.bind ?_ (fun _ => ?_))
   | exact ih0 _ _ _ _
   | exact ih1 _ _ _
   | exact ih2 _ _ _
   | exact dancestudioref29_Check.mono _ _ _
   | exact LeO.none _
   | refine LeO.ite ?_ ?_
   | refine LeO.bind ?_ (fun _ => ?_)
  ·
   intro y0 y1 y2
   unfold dancestudioref44_Check.l2
   repeat' first
   | (with_reducible exact ih0 _ _ _ _)
   | (with_reducible exact ih1 _ _ _)
   | (with_reducible exact ih2 _ _ _)
   | (with_reducible exact dancestudioref29_Check.mono _ _ _)
   | (with_reducible exact LeO.refl _)
   | (with_reducible exact LeO.none _)
   | (with_reducible refine LeO.ite ?_ ?_)
   | (with_reducible refine LeO.bind ?_ (fun _ => ?_))
   | exact ih0 _ _ _ _
   | exact ih1 _ _ _
   | exact ih2 _ _ _
   | exact dancestudioref29_Check.mono _ _ _
   | exact LeO.none _
   | refine LeO.ite ?_ ?_
   | refine LeO.bind ?_ (fun _ => ?_)
theorem dancestudioref44_Check.mono : ∀ a0 a1 a2 k, LeO (dancestudioref44_Check.f k a0 a1 a2) (dancestudioref44_Check.f (k + 1) a0 a1 a2) := by
 intro a0 a1 a2 k
 obtain ⟨ih0, ih1, ih2⟩ := dancestudioref44_Check.mono_l k
 unfold dancestudioref44_Check.f
 repeat' first
   | (with_reducible exact ih0 _ _ _ _)
   | (with_reducible exact ih1 _ _ _)
   | (with_reducible exact ih2 _ _ _)
   | (with_reducible exact dancestudioref29_Check.mono _ _ _)
   | (with_reducible exact LeO.refl _)
   | (with_reducible exact LeO.none _)
   | (with_reducible refine LeO.ite ?_ ?_)
   | (with_reducible refine LeO.bind ?_ (fun _ => ?_))
   | exact ih0 _ _ _ _
   | exact ih1 _ _ _
   | exact ih2 _ _ _
   | exact dancestudioref29_Check.mono _ _ _
   | exact LeO.none _
   | refine LeO.ite ?_ ?_
   | refine LeO.bind ?_ (fun _ => ?_)
set_option maxHeartbeats 8000000 in
set_option maxRecDepth 100000 in
theorem dancestudioref44_Check.calls (k : Nat) (A0 : Option Addr) (c0 : Nat) (l0 : List (S43)) (A1 : Option Addr) (c1 : Nat) (l1 : List Int) (A2 : Option Addr) (c2 : Nat) (l2 : List (S62)) (r : Int) (w : World) (hr0 : Kd.C k43 w A0 l0.length l0) (hc0 : l0.length ≤ c0) (hr1 : Kd.C (Kd.int .i64) w A1 l1.length l1) (hc1 : l1.length ≤ c1) (hr2 : Kd.C k62 w A2 l2.length l2) (hc2 : l2.length ≤ c2) (h : dancestudioref44_Check.f k l0 l1 l2 = some r) :
  Calls Try.prog 13 #[.slice A0 l0.length c0, .slice A1 l1.length c1, .slice A2 l2.length c2] w fun e w' => e = .returned (.int .i64 r) ∧ Below w.heap.size w w' := by
 have hu43 := Try.underlying43
 have HR0 := am hr0
 have HC0 := am hc0
 clear hr0 hc0
 have HR1 := am hr1
 have HC1 := am hc1
 clear hr1 hc1
 have HR2 := am hr2
 have HC2 := am hc2
 clear hr2 hc2
 have HB := am (Below.refl w.heap.size w)
 have H : (if (l0.length : Int) > 12 then (some 3) else (if (l1.length : Int) = (l0.length : Int) then (dancestudioref44_Check.l0 k l0 l1 l2 0) else (some 2))) = some r := h
 clear h
 by_cases c4 : (l0.length : Int) > 12
 ·
  rw [if_pos c4] at H
  have c4b0 := decide_eq_true c4
  have c4b1 : decide (12 < l0.length) = true := decide_eq_true (by omega)
  clear c4
  obtain rfl := Option.some.inj H
  go_enter Try.func13, Try.ntmps13
  go_wp2
  repeat (go_quiet (fail); try go_wp2)
  go_ret
  exact ⟨ez, bz⟩
 ·
  rw [if_neg c4] at H
  have c4b0 := decide_eq_false c4
  have c4b1 : decide (12 < l0.length) = false := decide_eq_false (by omega)
  clear c4
  by_cases c5 : (l1.length : Int) = (l0.length : Int)
  ·
   rw [if_pos c5] at H
   have c5b0 : ((l1.length : Int) == (l0.length : Int)) = true := beq_iff_eq.mpr c5
   have c5b1 : ((l1.length : Int) != (l0.length : Int)) = false := bne_eq_false_iff_eq.mpr c5
   have c5b2 : (l1.length == l0.length) = true := by first | simpa using c5 | (simp at c5 ⊢; omega)
   clear c5
   have H' := am H
   clear H
   go_enter Try.func13, Try.ntmps13
   go_wp2
   repeat (go_quiet (fail); try go_wp2)
   go_loopg [7] k (fun kq v7 w' => ∃ (x7_1 : Int), v7 = .int .i64 x7_1 ∧ Aside0 (dancestudioref44_Check.l0 kq l0 l1 l2 x7_1 = some r) ∧ Aside0 (kq ≤ k) ∧ Aside0 (Below w.heap.size w w'))
   case atStart => exact ⟨(0), sz, H', ⟨Nat.le_refl _⟩, ⟨bz⟩⟩
   case round =>
    clear H'
    try clear c1
    try clear c2
    try clear p2
    try clear c4
    try clear c4b0
    try clear c4b1
    try clear c5
    try clear c5b0
    try clear c5b1
    try clear c5b2
    obtain ⟨x7_1, rfl, HA, HK1, HB⟩ := hrel
    cases gk with
    | zero => exact absurd HA.out (by simp [dancestudioref44_Check.l0])
    | succ k1 =>
     have H := HA.out
     clear HA
     simp only [dancestudioref44_Check.l0] at H
     by_cases c6 : x7_1 < (l0.length : Int)
     ·
      rw [if_pos c6] at H
      have c6b0 := decide_eq_true c6
      clear c6
      by_cases c7 : 0 ≤ x7_1; rotate_left
      · rw [if_neg c7] at H; exact absurd H (by simp)
      rw [if_pos c7] at H
      have c7b0 := decide_eq_true c7
      clear c7
      replace H := Option.bind_eq_some_iff.mp H
      obtain ⟨t361, A80, H⟩ := H
      replace H : (if t361 = 0 then (if x7_1 < (l1.length : Int) then (if (rd l1 x7_1) < 0 then (some 1) else (if (rd l1 x7_1) > 32768 then (some 1) else (dancestudioref44_Check.l0 k1 l0 l1 l2 (wrap64 (x7_1 + 1))))) else (none)) else (some t361)) = some r := H
      have A8 := am A80
      clear A80
      by_cases c9 : t361 = 0
      ·
       rw [if_pos c9] at H
       have c9b0 : (t361 == 0) = true := beq_iff_eq.mpr c9
       have c9b1 : (t361 != 0) = false := bne_eq_false_iff_eq.mpr c9
       clear c9
       by_cases c10 : x7_1 < (l1.length : Int); rotate_left
       · rw [if_neg c10] at H; exact absurd H (by simp)
       rw [if_pos c10] at H
       have c10b0 := decide_eq_true c10
       clear c10
       by_cases c11 : (rd l1 x7_1) < 0
       ·
        rw [if_pos c11] at H
        have c11b0 := decide_eq_true c11
        clear c11
        obtain rfl := Option.some.inj H
        have p360 : 0 ≤ (x7_1 : Int) := az
        have q360 : x7_1 < (l0.length : Int) := az
        obtain ⟨ad360, A360_0, c360_0, A360_1, c360_1, e360, hx360_0, hx360_1, hl360_0, hi360_0, hl360_1, hi360_1⟩ := at_T43 HR0.out x7_1 p360 q360
        cases e360
        replace hx360_0 := cb HB.out hx360_0
        replace hx360_1 := cb HB.out hx360_1
        have HR360_0 := am hi360_0
        have HC360_0 := am hl360_0
        clear hi360_0 hl360_0
        have HR360_1 := am hi360_1
        have HC360_1 := am hl360_1
        clear hi360_1 hl360_1
        replace p360 := eq_true p360
        replace q360 := eq_true q360
        go_wp2_with (first | (go_at_call 28; (with_reducible refine (dancestudioref29_Check.calls k1 _ _ ((rd_T43 l0 x7_1).f0) _ _ ((rd_T43 l0 x7_1).f1) t361 _ ?side1 ?side2 ?side3 ?side4 A8.out).mono ?_); (case side1 => exact cz HR360_0); (case side2 => exact HC360_0.out); (case side3 => exact cz HR360_1); (case side4 => exact HC360_1.out); rintro e w12 ⟨rfl, hb⟩; replace HB := am (below_step bz hb); (try clear hb); (try clear hb2); (try clear hk); (try clear hi); have p362 : 0 ≤ (x7_1 : Int) := az; have q362 : x7_1 < (l1.length : Int) := az; obtain ⟨ad362, e362, hx362_0⟩ := Kd.at_int HR1.out x7_1 p362 q362; cases e362; replace hx362_0 := cb HB.out hx362_0; replace p362 := eq_true p362; replace q362 := eq_true q362))
        repeat (go_quiet (fail); try go_wp2_with (fail))
        go_ret
        exact ⟨ez, bz⟩
       ·
        rw [if_neg c11] at H
        have c11b0 := decide_eq_false c11
        clear c11
        by_cases c13 : (rd l1 x7_1) > 32768
        case' pos =>
         rw [if_pos c13] at H
         have c13b0 := decide_eq_true c13
         clear c13
         obtain rfl := Option.some.inj H
         have tw1a : True := trivial
        case' neg =>
         rw [if_neg c13] at H
         have c13b0 := decide_eq_false c13
         clear c13
         have H' := am H
         clear H
         have tw1b : True := trivial
        all_goals
         have p360 : 0 ≤ (x7_1 : Int) := az
         have q360 : x7_1 < (l0.length : Int) := az
         obtain ⟨ad360, A360_0, c360_0, A360_1, c360_1, e360, hx360_0, hx360_1, hl360_0, hi360_0, hl360_1, hi360_1⟩ := at_T43 HR0.out x7_1 p360 q360
         cases e360
         replace hx360_0 := cb HB.out hx360_0
         replace hx360_1 := cb HB.out hx360_1
         have HR360_0 := am hi360_0
         have HC360_0 := am hl360_0
         clear hi360_0 hl360_0
         have HR360_1 := am hi360_1
         have HC360_1 := am hl360_1
         clear hi360_1 hl360_1
         replace p360 := eq_true p360
         replace q360 := eq_true q360
         go_wp2_with (first | (go_at_call 28; (with_reducible refine (dancestudioref29_Check.calls k1 _ _ ((rd_T43 l0 x7_1).f0) _ _ ((rd_T43 l0 x7_1).f1) t361 _ ?side1 ?side2 ?side3 ?side4 A8.out).mono ?_); (case side1 => exact cz HR360_0); (case side2 => exact HC360_0.out); (case side3 => exact cz HR360_1); (case side4 => exact HC360_1.out); rintro e w14 ⟨rfl, hb⟩; replace HB := am (below_step bz hb); (try clear hb); (try clear hb2); (try clear hk); (try clear hi); have p362 : 0 ≤ (x7_1 : Int) := az; have q362 : x7_1 < (l1.length : Int) := az; obtain ⟨ad362, e362, hx362_0⟩ := Kd.at_int HR1.out x7_1 p362 q362; cases e362; replace hx362_0 := cb HB.out hx362_0; replace p362 := eq_true p362; replace q362 := eq_true q362; have p363 : 0 ≤ (x7_1 : Int) := az; have q363 : x7_1 < (l1.length : Int) := az; obtain ⟨ad363, e363, hx363_0⟩ := Kd.at_int HR1.out x7_1 p363 q363; obtain rfl : ad362 = ad363 := (by injection e363); replace hx363_0 := cb HB.out hx363_0; replace p363 := eq_true p363; replace q363 := eq_true q363))
         repeat (go_quiet (fail); try go_wp2_with (fail))
         first
         | (have _ := tw1a
            go_ret
            exact ⟨ez, bz⟩)
         | (have _ := tw1b
            go_roundg k1
            case measure => have := HK1.out; omega
            case rel => exact ⟨(wrap64 (x7_1 + 1)), sz, H', ⟨by have := HK1.out; omega⟩, ⟨bz⟩⟩)
      ·
       rw [if_neg c9] at H
       have c9b0 : (t361 == 0) = false := beq_eq_false_iff_ne.mpr c9
       have c9b1 : (t361 != 0) = true := bne_iff_ne.mpr c9
       obtain rfl := Option.some.inj H
       have p360 : 0 ≤ (x7_1 : Int) := az
       have q360 : x7_1 < (l0.length : Int) := az
       obtain ⟨ad360, A360_0, c360_0, A360_1, c360_1, e360, hx360_0, hx360_1, hl360_0, hi360_0, hl360_1, hi360_1⟩ := at_T43 HR0.out x7_1 p360 q360
       cases e360
       replace hx360_0 := cb HB.out hx360_0
       replace hx360_1 := cb HB.out hx360_1
       have HR360_0 := am hi360_0
       have HC360_0 := am hl360_0
       clear hi360_0 hl360_0
       have HR360_1 := am hi360_1
       have HC360_1 := am hl360_1
       clear hi360_1 hl360_1
       replace p360 := eq_true p360
       replace q360 := eq_true q360
       go_wp2_with (first | (go_at_call 28; (with_reducible refine (dancestudioref29_Check.calls k1 _ _ ((rd_T43 l0 x7_1).f0) _ _ ((rd_T43 l0 x7_1).f1) t361 _ ?side1 ?side2 ?side3 ?side4 A8.out).mono ?_); (case side1 => exact cz HR360_0); (case side2 => exact HC360_0.out); (case side3 => exact cz HR360_1); (case side4 => exact HC360_1.out); rintro e w16 ⟨rfl, hb⟩; replace HB := am (below_step bz hb); (try clear hb); (try clear hb2); (try clear hk); (try clear hi)))
       repeat (go_quiet (fail); try go_wp2_with (fail))
       go_ret
       exact ⟨ez, bz⟩
     ·
      rw [if_neg c6] at H
      have c6b0 := decide_eq_false c6
      clear c6
      have H' := am H
      clear H
      go_wp2
      repeat (go_quiet (fail); try go_wp2)
      go_loopg [9] k1 (fun kq v9 w' => ∃ (x9_2 : Int), v9 = .int .i64 x9_2 ∧ Aside0 (dancestudioref44_Check.l1 kq l0 l2 x9_2 = some r) ∧ Aside0 (kq ≤ k1) ∧ Aside0 (Below w.heap.size w w'))
      case atStart => exact ⟨(0), sz, H', ⟨Nat.le_refl _⟩, ⟨bz⟩⟩
      case round =>
       clear H'
       try clear c1
       try clear c2
       try clear p2
       try clear c3
       try clear p3
       try clear q3
       try clear hx3
       try clear c4
       try clear c4b0
       try clear c4b1
       try clear c5
       try clear c5b0
       try clear c5b1
       try clear c5b2
       try clear c6
       try clear c6b0
       try clear p6
       try clear c7
       try clear c7b0
       try clear c9
       try clear c9b0
       try clear c9b1
       try clear c10
       try clear c10b0
       try clear c11
       try clear c11b0
       try clear c13
       try clear c13b0
       try clear hx360_0
       try clear hx360_1
       try clear hx362_0
       try clear hx363_0
       try clear p2
       try clear p360
       try clear p362
       try clear p363
       try clear q360
       try clear q362
       try clear q363
       obtain ⟨x9_2, rfl, HA, HK2, HB⟩ := hrel
       cases gk with
       | zero => exact absurd HA.out (by simp [dancestudioref44_Check.l1])
       | succ k2 =>
        have H := HA.out
        clear HA
        simp only [dancestudioref44_Check.l1] at H
        by_cases c17 : x9_2 < (l0.length : Int)
        ·
         rw [if_pos c17] at H
         have c17b0 := decide_eq_true c17
         clear c17
         by_cases c18 : 0 ≤ x9_2; rotate_left
         · rw [if_neg c18] at H; exact absurd H (by simp)
         rw [if_pos c18] at H
         have c18b0 := decide_eq_true c18
         clear c18
         by_cases c19 : 0 < (l0.length : Int); rotate_left
         · rw [if_neg c19] at H; exact absurd H (by simp)
         rw [if_pos c19] at H
         have c19b0 := decide_eq_true c19
         have c19b1 : decide (0 < l0.length) = true := decide_eq_true (by omega)
         clear c19
         by_cases c20 : (((rd_T43 l0 x9_2).f1).length : Int) = (((rd_T43 l0 0).f1).length : Int)
         case' pos =>
          rw [if_pos c20] at H
          have c20b0 : ((((rd_T43 l0 x9_2).f1).length : Int) == (((rd_T43 l0 0).f1).length : Int)) = true := beq_iff_eq.mpr c20
          have c20b1 : ((((rd_T43 l0 x9_2).f1).length : Int) != (((rd_T43 l0 0).f1).length : Int)) = false := bne_eq_false_iff_eq.mpr c20
          have c20b2 : (((rd_T43 l0 x9_2).f1).length == ((rd_T43 l0 0).f1).length) = true := by first | simpa using c20 | (simp at c20 ⊢; omega)
          clear c20
          have H' := am H
          clear H
          have tw2a : True := trivial
         case' neg =>
          rw [if_neg c20] at H
          have c20b0 : ((((rd_T43 l0 x9_2).f1).length : Int) == (((rd_T43 l0 0).f1).length : Int)) = false := beq_eq_false_iff_ne.mpr c20
          have c20b1 : ((((rd_T43 l0 x9_2).f1).length : Int) != (((rd_T43 l0 0).f1).length : Int)) = true := bne_iff_ne.mpr c20
          have c20b2 : (((rd_T43 l0 x9_2).f1).length == ((rd_T43 l0 0).f1).length) = false := by first | simpa using c20 | (simp at c20 ⊢; omega)
          obtain rfl := Option.some.inj H
          have tw2b : True := trivial
         all_goals
          have p364 : 0 ≤ (x9_2 : Int) := az
          have q364 : x9_2 < (l0.length : Int) := az
          obtain ⟨ad364, A364_0, c364_0, A364_1, c364_1, e364, hx364_0, hx364_1, hl364_0, hi364_0, hl364_1, hi364_1⟩ := at_T43 HR0.out x9_2 p364 q364
          cases e364
          replace hx364_0 := cb HB.out hx364_0
          replace hx364_1 := cb HB.out hx364_1
          have HR364_0 := am hi364_0
          have HC364_0 := am hl364_0
          clear hi364_0 hl364_0
          have HR364_1 := am hi364_1
          have HC364_1 := am hl364_1
          clear hi364_1 hl364_1
          replace p364 := eq_true p364
          replace q364 := eq_true q364
          have p365 : 0 ≤ (0 : Int) := (by omega)
          have q365 : 0 < (l0.length : Int) := az
          obtain ⟨ad365, A365_0, c365_0, A365_1, c365_1, e365, hx365_0, hx365_1, hl365_0, hi365_0, hl365_1, hi365_1⟩ := at_T43 HR0.out 0 p365 q365
          obtain rfl : ad364 = ad365 := (by injection e365)
          have qi365 : (0 < l0.length) = True := eq_true (by omega)
          (try rw [show ((0 : Int)).toNat = 0 from rfl] at hx365_0)
          (try rw [show 0 * 2 = 0 from rfl] at hx365_0)
          (try rw [Addr.add_zero'] at hx365_0)
          (try rw [show ((0 : Int)).toNat = 0 from rfl] at hx365_1)
          (try rw [show 0 * 2 = 0 from rfl] at hx365_1)
          (try rw [Addr.add_zero'] at hx365_1)
          replace hx365_0 := cb HB.out hx365_0
          replace hx365_1 := cb HB.out hx365_1
          have HR365_0 := am hi365_0
          have HC365_0 := am hl365_0
          clear hi365_0 hl365_0
          have HR365_1 := am hi365_1
          have HC365_1 := am hl365_1
          clear hi365_1 hl365_1
          replace p365 := eq_true p365
          replace q365 := eq_true q365
          go_wp2
          repeat (go_quiet (fail); try go_wp2)
          first
          | (have _ := tw2a
             go_roundg k2
             case measure => have := HK1.out; have := HK2.out; omega
             case rel => exact ⟨(wrap64 (x9_2 + 1)), sz, H', ⟨by have := HK1.out; have := HK2.out; omega⟩, ⟨bz⟩⟩)
          | (have _ := tw2b
             go_ret
             exact ⟨ez, bz⟩)
        ·
         rw [if_neg c17] at H
         have c17b0 := decide_eq_false c17
         clear c17
         have H' := am H
         clear H
         go_wp2
         repeat (go_quiet (fail); try go_wp2)
         go_loopg [10] k2 (fun kq v10 w' => ∃ (x10_3 : Int), v10 = .int .i64 x10_3 ∧ Aside0 (dancestudioref44_Check.l2 kq l0 l2 x10_3 = some r) ∧ Aside0 (kq ≤ k2) ∧ Aside0 (Below w.heap.size w w'))
         case atStart => exact ⟨(0), sz, H', ⟨Nat.le_refl _⟩, ⟨bz⟩⟩
         case round =>
          clear H'
          try clear c1
          try clear c2
          try clear p2
          try clear c3
          try clear p3
          try clear q3
          try clear hx3
          try clear qi3
          try clear c4
          try clear c4b0
          try clear c4b1
          try clear c5
          try clear c5b0
          try clear c5b1
          try clear c5b2
          try clear c6
          try clear c6b0
          try clear p6
          try clear c7
          try clear c7b0
          try clear c9
          try clear c9b0
          try clear c9b1
          try clear c10
          try clear c10b0
          try clear c11
          try clear c11b0
          try clear c13
          try clear c13b0
          try clear c17
          try clear c17b0
          try clear c18
          try clear c18b0
          try clear c19
          try clear c19b0
          try clear c19b1
          try clear c20
          try clear c20b0
          try clear c20b1
          try clear c20b2
          try clear hx360_0
          try clear hx360_1
          try clear hx362_0
          try clear hx363_0
          try clear hx364_0
          try clear hx364_1
          try clear hx365_0
          try clear hx365_1
          try clear p2
          try clear p3
          try clear p360
          try clear p362
          try clear p363
          try clear p364
          try clear p365
          try clear p6
          try clear q3
          try clear q360
          try clear q362
          try clear q363
          try clear q364
          try clear q365
          obtain ⟨x10_3, rfl, HA, HK3, HB⟩ := hrel
          cases gk with
          | zero => exact absurd HA.out (by simp [dancestudioref44_Check.l2])
          | succ k3 =>
           have H := HA.out
           clear HA
           simp only [dancestudioref44_Check.l2] at H
           by_cases c21 : x10_3 < (l2.length : Int)
           ·
            rw [if_pos c21] at H
            have c21b0 := decide_eq_true c21
            clear c21
            by_cases c22 : 0 ≤ x10_3; rotate_left
            · rw [if_neg c22] at H; exact absurd H (by simp)
            rw [if_pos c22] at H
            have c22b0 := decide_eq_true c22
            clear c22
            by_cases c23 : ((rd_T62 l2 x10_3).f0) = ((rd_T62 l2 x10_3).f2)
            ·
             rw [if_pos c23] at H
             have c23b0 : (((rd_T62 l2 x10_3).f0) == ((rd_T62 l2 x10_3).f2)) = true := beq_iff_eq.mpr c23
             have c23b1 : (((rd_T62 l2 x10_3).f0) != ((rd_T62 l2 x10_3).f2)) = false := bne_eq_false_iff_eq.mpr c23
             clear c23
             obtain rfl := Option.some.inj H
             have p366 : 0 ≤ (x10_3 : Int) := az
             have q366 : x10_3 < (l2.length : Int) := az
             obtain ⟨ad366, e366, hx366_0, hx366_1, hx366_2, hx366_3, hx366_4, hx366_5⟩ := at_T62 HR2.out x10_3 p366 q366
             cases e366
             replace hx366_0 := cb HB.out hx366_0
             replace hx366_1 := cb HB.out hx366_1
             replace hx366_2 := cb HB.out hx366_2
             replace hx366_3 := cb HB.out hx366_3
             replace hx366_4 := cb HB.out hx366_4
             replace hx366_5 := cb HB.out hx366_5
             replace p366 := eq_true p366
             replace q366 := eq_true q366
             have p367 : 0 ≤ (x10_3 : Int) := az
             have q367 : x10_3 < (l2.length : Int) := az
             obtain ⟨ad367, e367, hx367_0, hx367_1, hx367_2, hx367_3, hx367_4, hx367_5⟩ := at_T62 HR2.out x10_3 p367 q367
             obtain rfl : ad366 = ad367 := (by injection e367)
             replace hx367_0 := cb HB.out hx367_0
             replace hx367_1 := cb HB.out hx367_1
             replace hx367_2 := cb HB.out hx367_2
             replace hx367_3 := cb HB.out hx367_3
             replace hx367_4 := cb HB.out hx367_4
             replace hx367_5 := cb HB.out hx367_5
             replace p367 := eq_true p367
             replace q367 := eq_true q367
             go_wp2
             repeat (go_quiet (fail); try go_wp2)
             go_ret
             exact ⟨ez, bz⟩
            ·
             rw [if_neg c23] at H
             have c23b0 : (((rd_T62 l2 x10_3).f0) == ((rd_T62 l2 x10_3).f2)) = false := beq_eq_false_iff_ne.mpr c23
             have c23b1 : (((rd_T62 l2 x10_3).f0) != ((rd_T62 l2 x10_3).f2)) = true := bne_iff_ne.mpr c23
             by_cases c24 : ((rd_T62 l2 x10_3).f0) < 0
             ·
              rw [if_pos c24] at H
              have c24b0 := decide_eq_true c24
              clear c24
              obtain rfl := Option.some.inj H
              have p366 : 0 ≤ (x10_3 : Int) := az
              have q366 : x10_3 < (l2.length : Int) := az
              obtain ⟨ad366, e366, hx366_0, hx366_1, hx366_2, hx366_3, hx366_4, hx366_5⟩ := at_T62 HR2.out x10_3 p366 q366
              cases e366
              replace hx366_0 := cb HB.out hx366_0
              replace hx366_1 := cb HB.out hx366_1
              replace hx366_2 := cb HB.out hx366_2
              replace hx366_3 := cb HB.out hx366_3
              replace hx366_4 := cb HB.out hx366_4
              replace hx366_5 := cb HB.out hx366_5
              replace p366 := eq_true p366
              replace q366 := eq_true q366
              have p367 : 0 ≤ (x10_3 : Int) := az
              have q367 : x10_3 < (l2.length : Int) := az
              obtain ⟨ad367, e367, hx367_0, hx367_1, hx367_2, hx367_3, hx367_4, hx367_5⟩ := at_T62 HR2.out x10_3 p367 q367
              obtain rfl : ad366 = ad367 := (by injection e367)
              replace hx367_0 := cb HB.out hx367_0
              replace hx367_1 := cb HB.out hx367_1
              replace hx367_2 := cb HB.out hx367_2
              replace hx367_3 := cb HB.out hx367_3
              replace hx367_4 := cb HB.out hx367_4
              replace hx367_5 := cb HB.out hx367_5
              replace p367 := eq_true p367
              replace q367 := eq_true q367
              have p368 : 0 ≤ (x10_3 : Int) := az
              have q368 : x10_3 < (l2.length : Int) := az
              obtain ⟨ad368, e368, hx368_0, hx368_1, hx368_2, hx368_3, hx368_4, hx368_5⟩ := at_T62 HR2.out x10_3 p368 q368
              obtain rfl : ad366 = ad368 := (by injection e368)
              replace hx368_0 := cb HB.out hx368_0
              replace hx368_1 := cb HB.out hx368_1
              replace hx368_2 := cb HB.out hx368_2
              replace hx368_3 := cb HB.out hx368_3
              replace hx368_4 := cb HB.out hx368_4
              replace hx368_5 := cb HB.out hx368_5
              replace p368 := eq_true p368
              replace q368 := eq_true q368
              go_wp2
              repeat (go_quiet (fail); try go_wp2)
              go_ret
              exact ⟨ez, bz⟩
             ·
              rw [if_neg c24] at H
              have c24b0 := decide_eq_false c24
              clear c24
              by_cases c25 : ((rd_T62 l2 x10_3).f0) ≥ (l0.length : Int)
              ·
               rw [if_pos c25] at H
               have c25b0 := decide_eq_true c25
               clear c25
               obtain rfl := Option.some.inj H
               have p366 : 0 ≤ (x10_3 : Int) := az
               have q366 : x10_3 < (l2.length : Int) := az
               obtain ⟨ad366, e366, hx366_0, hx366_1, hx366_2, hx366_3, hx366_4, hx366_5⟩ := at_T62 HR2.out x10_3 p366 q366
               cases e366
               replace hx366_0 := cb HB.out hx366_0
               replace hx366_1 := cb HB.out hx366_1
               replace hx366_2 := cb HB.out hx366_2
               replace hx366_3 := cb HB.out hx366_3
               replace hx366_4 := cb HB.out hx366_4
               replace hx366_5 := cb HB.out hx366_5
               replace p366 := eq_true p366
               replace q366 := eq_true q366
               have p367 : 0 ≤ (x10_3 : Int) := az
               have q367 : x10_3 < (l2.length : Int) := az
               obtain ⟨ad367, e367, hx367_0, hx367_1, hx367_2, hx367_3, hx367_4, hx367_5⟩ := at_T62 HR2.out x10_3 p367 q367
               obtain rfl : ad366 = ad367 := (by injection e367)
               replace hx367_0 := cb HB.out hx367_0
               replace hx367_1 := cb HB.out hx367_1
               replace hx367_2 := cb HB.out hx367_2
               replace hx367_3 := cb HB.out hx367_3
               replace hx367_4 := cb HB.out hx367_4
               replace hx367_5 := cb HB.out hx367_5
               replace p367 := eq_true p367
               replace q367 := eq_true q367
               have p368 : 0 ≤ (x10_3 : Int) := az
               have q368 : x10_3 < (l2.length : Int) := az
               obtain ⟨ad368, e368, hx368_0, hx368_1, hx368_2, hx368_3, hx368_4, hx368_5⟩ := at_T62 HR2.out x10_3 p368 q368
               obtain rfl : ad366 = ad368 := (by injection e368)
               replace hx368_0 := cb HB.out hx368_0
               replace hx368_1 := cb HB.out hx368_1
               replace hx368_2 := cb HB.out hx368_2
               replace hx368_3 := cb HB.out hx368_3
               replace hx368_4 := cb HB.out hx368_4
               replace hx368_5 := cb HB.out hx368_5
               replace p368 := eq_true p368
               replace q368 := eq_true q368
               have p369 : 0 ≤ (x10_3 : Int) := az
               have q369 : x10_3 < (l2.length : Int) := az
               obtain ⟨ad369, e369, hx369_0, hx369_1, hx369_2, hx369_3, hx369_4, hx369_5⟩ := at_T62 HR2.out x10_3 p369 q369
               obtain rfl : ad366 = ad369 := (by injection e369)
               replace hx369_0 := cb HB.out hx369_0
               replace hx369_1 := cb HB.out hx369_1
               replace hx369_2 := cb HB.out hx369_2
               replace hx369_3 := cb HB.out hx369_3
               replace hx369_4 := cb HB.out hx369_4
               replace hx369_5 := cb HB.out hx369_5
               replace p369 := eq_true p369
               replace q369 := eq_true q369
               go_wp2
               repeat (go_quiet (fail); try go_wp2)
               go_ret
               exact ⟨ez, bz⟩
              ·
               rw [if_neg c25] at H
               have c25b0 := decide_eq_false c25
               clear c25
               by_cases c26 : ((rd_T62 l2 x10_3).f2) < 0
               ·
                rw [if_pos c26] at H
                have c26b0 := decide_eq_true c26
                clear c26
                obtain rfl := Option.some.inj H
                have p366 : 0 ≤ (x10_3 : Int) := az
                have q366 : x10_3 < (l2.length : Int) := az
                obtain ⟨ad366, e366, hx366_0, hx366_1, hx366_2, hx366_3, hx366_4, hx366_5⟩ := at_T62 HR2.out x10_3 p366 q366
                cases e366
                replace hx366_0 := cb HB.out hx366_0
                replace hx366_1 := cb HB.out hx366_1
                replace hx366_2 := cb HB.out hx366_2
                replace hx366_3 := cb HB.out hx366_3
                replace hx366_4 := cb HB.out hx366_4
                replace hx366_5 := cb HB.out hx366_5
                replace p366 := eq_true p366
                replace q366 := eq_true q366
                have p367 : 0 ≤ (x10_3 : Int) := az
                have q367 : x10_3 < (l2.length : Int) := az
                obtain ⟨ad367, e367, hx367_0, hx367_1, hx367_2, hx367_3, hx367_4, hx367_5⟩ := at_T62 HR2.out x10_3 p367 q367
                obtain rfl : ad366 = ad367 := (by injection e367)
                replace hx367_0 := cb HB.out hx367_0
                replace hx367_1 := cb HB.out hx367_1
                replace hx367_2 := cb HB.out hx367_2
                replace hx367_3 := cb HB.out hx367_3
                replace hx367_4 := cb HB.out hx367_4
                replace hx367_5 := cb HB.out hx367_5
                replace p367 := eq_true p367
                replace q367 := eq_true q367
                have p368 : 0 ≤ (x10_3 : Int) := az
                have q368 : x10_3 < (l2.length : Int) := az
                obtain ⟨ad368, e368, hx368_0, hx368_1, hx368_2, hx368_3, hx368_4, hx368_5⟩ := at_T62 HR2.out x10_3 p368 q368
                obtain rfl : ad366 = ad368 := (by injection e368)
                replace hx368_0 := cb HB.out hx368_0
                replace hx368_1 := cb HB.out hx368_1
                replace hx368_2 := cb HB.out hx368_2
                replace hx368_3 := cb HB.out hx368_3
                replace hx368_4 := cb HB.out hx368_4
                replace hx368_5 := cb HB.out hx368_5
                replace p368 := eq_true p368
                replace q368 := eq_true q368
                have p369 : 0 ≤ (x10_3 : Int) := az
                have q369 : x10_3 < (l2.length : Int) := az
                obtain ⟨ad369, e369, hx369_0, hx369_1, hx369_2, hx369_3, hx369_4, hx369_5⟩ := at_T62 HR2.out x10_3 p369 q369
                obtain rfl : ad366 = ad369 := (by injection e369)
                replace hx369_0 := cb HB.out hx369_0
                replace hx369_1 := cb HB.out hx369_1
                replace hx369_2 := cb HB.out hx369_2
                replace hx369_3 := cb HB.out hx369_3
                replace hx369_4 := cb HB.out hx369_4
                replace hx369_5 := cb HB.out hx369_5
                replace p369 := eq_true p369
                replace q369 := eq_true q369
                have p370 : 0 ≤ (x10_3 : Int) := az
                have q370 : x10_3 < (l2.length : Int) := az
                obtain ⟨ad370, e370, hx370_0, hx370_1, hx370_2, hx370_3, hx370_4, hx370_5⟩ := at_T62 HR2.out x10_3 p370 q370
                obtain rfl : ad366 = ad370 := (by injection e370)
                replace hx370_0 := cb HB.out hx370_0
                replace hx370_1 := cb HB.out hx370_1
                replace hx370_2 := cb HB.out hx370_2
                replace hx370_3 := cb HB.out hx370_3
                replace hx370_4 := cb HB.out hx370_4
                replace hx370_5 := cb HB.out hx370_5
                replace p370 := eq_true p370
                replace q370 := eq_true q370
                go_wp2
                repeat (go_quiet (fail); try go_wp2)
                go_ret
                exact ⟨ez, bz⟩
               ·
                rw [if_neg c26] at H
                have c26b0 := decide_eq_false c26
                clear c26
                by_cases c27 : ((rd_T62 l2 x10_3).f2) ≥ (l0.length : Int)
                case' pos =>
                 rw [if_pos c27] at H
                 have c27b0 := decide_eq_true c27
                 clear c27
                 obtain rfl := Option.some.inj H
                 have tw3a : True := trivial
                case' neg =>
                 rw [if_neg c27] at H
                 have c27b0 := decide_eq_false c27
                 clear c27
                 have H' := am H
                 clear H
                 have tw3b : True := trivial
                all_goals
                 have p366 : 0 ≤ (x10_3 : Int) := az
                 have q366 : x10_3 < (l2.length : Int) := az
                 obtain ⟨ad366, e366, hx366_0, hx366_1, hx366_2, hx366_3, hx366_4, hx366_5⟩ := at_T62 HR2.out x10_3 p366 q366
                 cases e366
                 replace hx366_0 := cb HB.out hx366_0
                 replace hx366_1 := cb HB.out hx366_1
                 replace hx366_2 := cb HB.out hx366_2
                 replace hx366_3 := cb HB.out hx366_3
                 replace hx366_4 := cb HB.out hx366_4
                 replace hx366_5 := cb HB.out hx366_5
                 replace p366 := eq_true p366
                 replace q366 := eq_true q366
                 have p367 : 0 ≤ (x10_3 : Int) := az
                 have q367 : x10_3 < (l2.length : Int) := az
                 obtain ⟨ad367, e367, hx367_0, hx367_1, hx367_2, hx367_3, hx367_4, hx367_5⟩ := at_T62 HR2.out x10_3 p367 q367
                 obtain rfl : ad366 = ad367 := (by injection e367)
                 replace hx367_0 := cb HB.out hx367_0
                 replace hx367_1 := cb HB.out hx367_1
                 replace hx367_2 := cb HB.out hx367_2
                 replace hx367_3 := cb HB.out hx367_3
                 replace hx367_4 := cb HB.out hx367_4
                 replace hx367_5 := cb HB.out hx367_5
                 replace p367 := eq_true p367
                 replace q367 := eq_true q367
                 have p368 : 0 ≤ (x10_3 : Int) := az
                 have q368 : x10_3 < (l2.length : Int) := az
                 obtain ⟨ad368, e368, hx368_0, hx368_1, hx368_2, hx368_3, hx368_4, hx368_5⟩ := at_T62 HR2.out x10_3 p368 q368
                 obtain rfl : ad366 = ad368 := (by injection e368)
                 replace hx368_0 := cb HB.out hx368_0
                 replace hx368_1 := cb HB.out hx368_1
                 replace hx368_2 := cb HB.out hx368_2
                 replace hx368_3 := cb HB.out hx368_3
                 replace hx368_4 := cb HB.out hx368_4
                 replace hx368_5 := cb HB.out hx368_5
                 replace p368 := eq_true p368
                 replace q368 := eq_true q368
                 have p369 : 0 ≤ (x10_3 : Int) := az
                 have q369 : x10_3 < (l2.length : Int) := az
                 obtain ⟨ad369, e369, hx369_0, hx369_1, hx369_2, hx369_3, hx369_4, hx369_5⟩ := at_T62 HR2.out x10_3 p369 q369
                 obtain rfl : ad366 = ad369 := (by injection e369)
                 replace hx369_0 := cb HB.out hx369_0
                 replace hx369_1 := cb HB.out hx369_1
                 replace hx369_2 := cb HB.out hx369_2
                 replace hx369_3 := cb HB.out hx369_3
                 replace hx369_4 := cb HB.out hx369_4
                 replace hx369_5 := cb HB.out hx369_5
                 replace p369 := eq_true p369
                 replace q369 := eq_true q369
                 have p370 : 0 ≤ (x10_3 : Int) := az
                 have q370 : x10_3 < (l2.length : Int) := az
                 obtain ⟨ad370, e370, hx370_0, hx370_1, hx370_2, hx370_3, hx370_4, hx370_5⟩ := at_T62 HR2.out x10_3 p370 q370
                 obtain rfl : ad366 = ad370 := (by injection e370)
                 replace hx370_0 := cb HB.out hx370_0
                 replace hx370_1 := cb HB.out hx370_1
                 replace hx370_2 := cb HB.out hx370_2
                 replace hx370_3 := cb HB.out hx370_3
                 replace hx370_4 := cb HB.out hx370_4
                 replace hx370_5 := cb HB.out hx370_5
                 replace p370 := eq_true p370
                 replace q370 := eq_true q370
                 have p371 : 0 ≤ (x10_3 : Int) := az
                 have q371 : x10_3 < (l2.length : Int) := az
                 obtain ⟨ad371, e371, hx371_0, hx371_1, hx371_2, hx371_3, hx371_4, hx371_5⟩ := at_T62 HR2.out x10_3 p371 q371
                 obtain rfl : ad366 = ad371 := (by injection e371)
                 replace hx371_0 := cb HB.out hx371_0
                 replace hx371_1 := cb HB.out hx371_1
                 replace hx371_2 := cb HB.out hx371_2
                 replace hx371_3 := cb HB.out hx371_3
                 replace hx371_4 := cb HB.out hx371_4
                 replace hx371_5 := cb HB.out hx371_5
                 replace p371 := eq_true p371
                 replace q371 := eq_true q371
                 go_wp2
                 repeat (go_quiet (fail); try go_wp2)
                 first
                 | (have _ := tw3a
                    go_ret
                    exact ⟨ez, bz⟩)
                 | (have _ := tw3b
                    go_roundg k3
                    case measure => have := HK1.out; have := HK2.out; have := HK3.out; omega
                    case rel => exact ⟨(wrap64 (x10_3 + 1)), sz, H', ⟨by have := HK1.out; have := HK2.out; have := HK3.out; omega⟩, ⟨bz⟩⟩)
           ·
            rw [if_neg c21] at H
            have c21b0 := decide_eq_false c21
            clear c21
            obtain rfl := Option.some.inj H
            go_wp2
            repeat (go_quiet (fail); try go_wp2)
            go_ret
            exact ⟨ez, bz⟩
  ·
   rw [if_neg c5] at H
   have c5b0 : ((l1.length : Int) == (l0.length : Int)) = false := beq_eq_false_iff_ne.mpr c5
   have c5b1 : ((l1.length : Int) != (l0.length : Int)) = true := bne_iff_ne.mpr c5
   have c5b2 : (l1.length == l0.length) = false := by first | simpa using c5 | (simp at c5 ⊢; omega)
   obtain rfl := Option.some.inj H
   go_enter Try.func13, Try.ntmps13
   go_wp2
   repeat (go_quiet (fail); try go_wp2)
   go_ret
   exact ⟨ez, bz⟩

end Go.Proofs.Yteflngoiebgdaaa.X
