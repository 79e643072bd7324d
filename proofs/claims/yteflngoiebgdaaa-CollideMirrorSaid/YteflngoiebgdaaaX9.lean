import Derived.Test.YteflngoiebgdaaaX0
import Derived.Test.YteflngoiebgdaaaX8
namespace Go.Proofs.Yteflngoiebgdaaa.X
open Go.RowKit YteflngoiebgdaaaW.PrintWords YteflngoiebgdaaaW.PrintLast YteflngoiebgdaaaW.PrintMore
attribute [local go_sem] max2_int min2_int max_two min_two max_three min_three max_four min_four
set_option linter.unusedVariables false
set_option linter.unusedSimpArgs false

/-! ### collide_Check: function 14 -/
mutual
def collide_Check.l0 : Nat → List (S43) → List Int → List (S62) → List (S43) → Int → Int → Option (Int)
 | 0, _, _, _, _, _, _ => none
 | k + 1, x0, x1, x2, x22, x23, x24 => if x24 < x23 then (if 0 ≤ x24 then (if x24 < (x22.length : Int) then ((movement_Check.f k ((rd_T43 x22 x24).f0) ((rd_T43 x22 x24).f1)).bind fun t115 => (if t115 = 0 then (if x24 < (x1.length : Int) then (if (rd x1 x24) < 0 then (some 1) else (if (rd x1 x24) > 32768 then (some 1) else (collide_Check.l0 k x0 x1 x2 x22 x23 (wrap64 (x24 + 1))))) else (none)) else (some t115))) else (none)) else (none)) else (collide_Check.l1 k x0 x2 x0 (x0.length : Int) 0)
def collide_Check.l1 : Nat → List (S43) → List (S62) → List (S43) → Int → Int → Option (Int)
 | 0, _, _, _, _, _ => none
 | k + 1, x0, x2, x47, x48, x49 => if x49 < x48 then (if 0 ≤ x49 then (if x49 < (x47.length : Int) then (if 0 < (x0.length : Int) then (if (((rd_T43 x47 x49).f1).length : Int) = (((rd_T43 x0 0).f1).length : Int) then (collide_Check.l1 k x0 x2 x47 x48 (wrap64 (x49 + 1))) else (some 33)) else (none)) else (none)) else (none)) else (collide_Check.l2 k x0 x2 (x2.length : Int) 0)
def collide_Check.l2 : Nat → List (S43) → List (S62) → Int → Int → Option (Int)
 | 0, _, _, _, _ => none
 | k + 1, x0, x63, x64, x65 => if x65 < x64 then (if 0 ≤ x65 then (if x65 < (x63.length : Int) then (if ((rd_T62 x63 x65).f0) = ((rd_T62 x63 x65).f2) then (some 31) else (if ((rd_T62 x63 x65).f0) < 0 then (some 31) else (if ((rd_T62 x63 x65).f0) ≥ (x0.length : Int) then (some 31) else (if ((rd_T62 x63 x65).f2) < 0 then (some 31) else (if ((rd_T62 x63 x65).f2) ≥ (x0.length : Int) then (some 31) else (collide_Check.l2 k x0 x63 x64 (wrap64 (x65 + 1)))))))) else (none)) else (none)) else (some 0)
end
def collide_Check.f (k : Nat) (l0 : List (S43)) (l1 : List Int) (l2 : List (S62)) : Option (Int) := if (l0.length : Int) > 12 then (some 3) else (if (l1.length : Int) = (l0.length : Int) then (collide_Check.l0 k l0 l1 l2 l0 (l0.length : Int) 0) else (some 2))
theorem collide_Check.mono_l : ∀ k, (∀ y0 y1 y2 y3 y4 y5, LeO (collide_Check.l0 k y0 y1 y2 y3 y4 y5) (collide_Check.l0 (k + 1) y0 y1 y2 y3 y4 y5)) ∧ (∀ y0 y1 y2 y3 y4, LeO (collide_Check.l1 k y0 y1 y2 y3 y4) (collide_Check.l1 (k + 1) y0 y1 y2 y3 y4)) ∧ (∀ y0 y1 y2 y3, LeO (collide_Check.l2 k y0 y1 y2 y3) (collide_Check.l2 (k + 1) y0 y1 y2 y3))
 | 0 => ⟨fun _ _ _ _ _ _ r h => by simp [collide_Check.l0] at h, fun _ _ _ _ _ r h => by simp [collide_Check.l1] at h, fun _ _ _ _ r h => by simp [collide_Check.l2] at h⟩
 | k + 1 => by
  obtain ⟨ih0, ih1, ih2⟩ := collide_Check.mono_l k
  refine ⟨?_, ?_, ?_⟩
  ·
   intro y0 y1 y2 y3 y4 y5
   unfold collide_Check.l0
   repeat' first
   | (with_reducible exact ih0 _ _ _ _ _ _)
   | (with_reducible exact ih1 _ _ _ _ _)
   | (with_reducible exact ih2 _ _ _ _)
   | (with_reducible exact movement_Check.mono _ _ _)
   | (with_reducible exact LeO.refl _)
   | (with_reducible exact LeO.none _)
   | (with_reducible refine LeO.ite ?_ ?_)
   | (with_reducible refine LeO.bind ?_ (fun _ => ?_))
   | exact ih0 _ _ _ _ _ _
   | exact ih1 _ _ _ _ _
   | exact ih2 _ _ _ _
   | exact movement_Check.mono _ _ _
   | exact LeO.none _
   | refine LeO.ite ?_ ?_
   | refine LeO.bind ?_ (fun _ => ?_)
  ·
   intro y0 y1 y2 y3 y4
   unfold collide_Check.l1
   repeat' first
   | (with_reducible exact ih0 _ _ _ _ _ _)
   | (with_reducible exact ih1 _ _ _ _ _)
   | (with_reducible exact ih2 _ _ _ _)
   | (with_reducible exact movement_Check.mono _ _ _)
   | (with_reducible exact LeO.refl _)
   | (with_reducible exact LeO.none _)
   | (with_reducible refine LeO.ite ?_ ?_)
   | (with_reducible refine LeO.bind ?_ (fun _ => ?_))
   | exact ih0 _ _ _ _ _ _
   | exact ih1 _ _ _ _ _
   | exact ih2 _ _ _ _
   | exact movement_Check.mono _ _ _
   | exact LeO.none _
   | refine LeO.ite ?_ ?_
   | refine LeO.bind ?_ (fun _ => ?_)
  ·
   intro y0 y1 y2 y3
   unfold collide_Check.l2
   repeat' first
   | (with_reducible exact ih0 _ _ _ _ _ _)
   | (with_reducible exact ih1 _ _ _ _ _)
   | (with_reducible exact ih2 _ _ _ _)
   | (with_reducible exact movement_Check.mono _ _ _)
   | (with_reducible exact LeO.refl _)
   | (with_reducible exact LeO.none _)
   | (with_reducible refine LeO.ite ?_ ?_)
   | (with_reducible refine LeO.bind ?_ (fun _ => ?_))
   | exact ih0 _ _ _ _ _ _
   | exact ih1 _ _ _ _ _
   | exact ih2 _ _ _ _
   | exact movement_Check.mono _ _ _
   | exact LeO.none _
   | refine LeO.ite ?_ ?_
   | refine LeO.bind ?_ (fun _ => ?_)
theorem collide_Check.mono : ∀ a0 a1 a2 k, LeO (collide_Check.f k a0 a1 a2) (collide_Check.f (k + 1) a0 a1 a2) := by
 intro a0 a1 a2 k
 obtain ⟨ih0, ih1, ih2⟩ := collide_Check.mono_l k
 unfold collide_Check.f
 repeat' first
   | (with_reducible exact ih0 _ _ _ _ _ _)
   | (with_reducible exact ih1 _ _ _ _ _)
   | (with_reducible exact ih2 _ _ _ _)
   | (with_reducible exact movement_Check.mono _ _ _)
   | (with_reducible exact LeO.refl _)
   | (with_reducible exact LeO.none _)
   | (with_reducible refine LeO.ite ?_ ?_)
   | (with_reducible refine LeO.bind ?_ (fun _ => ?_))
   | exact ih0 _ _ _ _ _ _
   | exact ih1 _ _ _ _ _
   | exact ih2 _ _ _ _
   | exact movement_Check.mono _ _ _
   | exact LeO.none _
   | refine LeO.ite ?_ ?_
   | refine LeO.bind ?_ (fun _ => ?_)
set_option maxHeartbeats 8000000 in
set_option maxRecDepth 100000 in
theorem collide_Check.calls (k : Nat) (A0 : Option Addr) (c0 : Nat) (l0 : List (S43)) (A1 : Option Addr) (c1 : Nat) (l1 : List Int) (A2 : Option Addr) (c2 : Nat) (l2 : List (S62)) (r : Int) (w : World) (hr0 : Kd.C k43 w A0 l0.length l0) (hc0 : l0.length ≤ c0) (hr1 : Kd.C (Kd.int .i64) w A1 l1.length l1) (hc1 : l1.length ≤ c1) (hr2 : Kd.C k62 w A2 l2.length l2) (hc2 : l2.length ≤ c2) (h : collide_Check.f k l0 l1 l2 = some r) :
  Calls Try.prog 14 #[.slice A0 l0.length c0, .slice A1 l1.length c1, .slice A2 l2.length c2] w fun e w' => e = .returned (.int .i64 r) ∧ Below w.heap.size w w' := by
 have hu43 := Try.underlying43
 have hu62 := Try.underlying62
 have HR0 := am hr0
 have HC0 := am hc0
 clear hr0 hc0
 have HR1 := am hr1
 have HC1 := am hc1
 clear hr1 hc1
 have HR2 := am hr2
 have HC2 := am hc2
 clear hr2 hc2
 have HB := am (Below.refl w.heap.size w)
 have H : (if (l0.length : Int) > 12 then (some 3) else (if (l1.length : Int) = (l0.length : Int) then (collide_Check.l0 k l0 l1 l2 l0 (l0.length : Int) 0) else (some 2))) = some r := h
 clear h
 by_cases c4 : (l0.length : Int) > 12
 ·
  rw [if_pos c4] at H
  have c4b0 := decide_eq_true c4
  have c4b1 : decide (12 < l0.length) = true := decide_eq_true (by omega)
  clear c4
  obtain rfl := Option.some.inj H
  go_enter Try.func14, Try.ntmps14
  go_wp2
  repeat (go_quiet (fail); try go_wp2)
  go_ret
  exact ⟨ez, bz⟩
 ·
  rw [if_neg c4] at H
  have c4b0 := decide_eq_false c4
  have c4b1 : decide (12 < l0.length) = false := decide_eq_false (by omega)
  clear c4
  by_cases c5 : (l1.length : Int) = (l0.length : Int)
  ·
   rw [if_pos c5] at H
   have c5b0 : ((l1.length : Int) == (l0.length : Int)) = true := beq_iff_eq.mpr c5
   have c5b1 : ((l1.length : Int) != (l0.length : Int)) = false := bne_eq_false_iff_eq.mpr c5
   have c5b2 : (l1.length == l0.length) = true := by first | simpa using c5 | (simp at c5 ⊢; omega)
   clear c5
   have H' := am H
   clear H
   go_enter Try.func14, Try.ntmps14
   go_wp2
   repeat (go_quiet (fail); try go_wp2)
   go_loopg [24] k (fun kq v24 w' => ∃ (x24_1 : Int), v24 = .int .i64 x24_1 ∧ Aside0 (collide_Check.l0 kq l0 l1 l2 l0 (l0.length : Int) x24_1 = some r) ∧ Aside0 (kq ≤ k) ∧ Aside0 (Below w.heap.size w w'))
   case atStart => exact ⟨(0), sz, H', ⟨Nat.le_refl _⟩, ⟨bz⟩⟩
   case round =>
    clear H'
    try clear c1
    try clear c2
    try clear p2
    try clear c4
    try clear c4b0
    try clear c4b1
    try clear c5
    try clear c5b0
    try clear c5b1
    try clear c5b2
    obtain ⟨x24_1, rfl, HA, HK1, HB⟩ := hrel
    cases gk with
    | zero => exact absurd HA.out (by simp [collide_Check.l0])
    | succ k1 =>
     have H := HA.out
     clear HA
     simp only [collide_Check.l0] at H
     by_cases c6 : x24_1 < (l0.length : Int)
     ·
      rw [if_pos c6] at H
      have c6b0 := decide_eq_true c6
      clear c6
      by_cases c7 : 0 ≤ x24_1; rotate_left
      · rw [if_neg c7] at H; exact absurd H (by simp)
      rw [if_pos c7] at H
      have c7b0 := decide_eq_true c7
      clear c7
      by_cases c8 : x24_1 < (l0.length : Int); rotate_left
      · rw [if_neg c8] at H; exact absurd H (by simp)
      rw [if_pos c8] at H
      have c8b0 := decide_eq_true c8
      clear c8
      replace H := Option.bind_eq_some_iff.mp H
      obtain ⟨t115, A90, H⟩ := H
      replace H : (if t115 = 0 then (if x24_1 < (l1.length : Int) then (if (rd l1 x24_1) < 0 then (some 1) else (if (rd l1 x24_1) > 32768 then (some 1) else (collide_Check.l0 k1 l0 l1 l2 l0 (l0.length : Int) (wrap64 (x24_1 + 1))))) else (none)) else (some t115)) = some r := H
      have A9 := am A90
      clear A90
      by_cases c10 : t115 = 0
      ·
       rw [if_pos c10] at H
       have c10b0 : (t115 == 0) = true := beq_iff_eq.mpr c10
       have c10b1 : (t115 != 0) = false := bne_eq_false_iff_eq.mpr c10
       clear c10
       by_cases c11 : x24_1 < (l1.length : Int); rotate_left
       · rw [if_neg c11] at H; exact absurd H (by simp)
       rw [if_pos c11] at H
       have c11b0 := decide_eq_true c11
       clear c11
       by_cases c12 : (rd l1 x24_1) < 0
       ·
        rw [if_pos c12] at H
        have c12b0 := decide_eq_true c12
        clear c12
        obtain rfl := Option.some.inj H
        have p113 : 0 ≤ (x24_1 : Int) := az
        have q113 : x24_1 < (l0.length : Int) := az
        obtain ⟨ad113, A113_0, c113_0, A113_1, c113_1, e113, hx113_0, hx113_1, hl113_0, hi113_0, hl113_1, hi113_1⟩ := at_T43 HR0.out x24_1 p113 q113
        cases e113
        replace hx113_0 := cb HB.out hx113_0
        replace hx113_1 := cb HB.out hx113_1
        have HR113_0 := am hi113_0
        have HC113_0 := am hl113_0
        clear hi113_0 hl113_0
        have HR113_1 := am hi113_1
        have HC113_1 := am hl113_1
        clear hi113_1 hl113_1
        replace p113 := eq_true p113
        replace q113 := eq_true q113
        go_wp2_with (first | ((with_reducible refine gate_dst (N := 8) rfl ?_); refine box_event yz (N := 8) yz (cs := #[.slice none 0 0, .slice none 0 0]) (t := 43) gz ?_; intro gb114 hg w13 hbox hb; have BK114 := am (hbox); have GW114 := gwz (g := gb114) HB hg; have GE114 := GW114; replace HB := am (below_step bz hb); clear hb hbox hg; obtain ⟨hcz14_0, hcz14_1, hfz14_0, hfz14_1⟩ := kc2 BK114.out) | (go_at_call 29; (with_reducible refine (movement_Check.calls k1 _ _ ((rd_T43 l0 x24_1).f0) _ _ ((rd_T43 l0 x24_1).f1) t115 _ ?side1 ?side2 ?side3 ?side4 A9.out).mono ?_); (case side1 => exact Kd.C_below HR113_0.out bz); (case side2 => exact HC113_0.out); (case side3 => exact Kd.C_below HR113_1.out bz); (case side4 => exact HC113_1.out); rintro e w15 ⟨rfl, hb⟩; replace BK114 := am (blk_below (o := .cells #[.slice A113_0 ((rd_T43 l0 x24_1).f0).length c113_0, .slice A113_1 ((rd_T43 l0 x24_1).f1).length c113_1] 43 (0, 0)) (by (with_reducible repeat first | apply kN | apply kD | apply kA); refine blk_put (cs := #[.slice A113_0 ((rd_T43 l0 x24_1).f0).length c113_0, .slice none 0 0]) ?_ 1 _ rfl; (with_reducible repeat first | apply kN | apply kD | apply kA); refine blk_put (cs := #[.slice none 0 0, .slice none 0 0]) ?_ 0 _ rfl; (with_reducible repeat first | apply kN | apply kD | apply kA); exact BK114.out) hb); replace HB := am (below_step bz hb); (try clear hb); (try clear hb2); (try clear hk); (try clear hi); have p116 : 0 ≤ (x24_1 : Int) := az; have q116 : x24_1 < (l1.length : Int) := az; obtain ⟨ad116, e116, hx116_0⟩ := Kd.at_int HR1.out x24_1 p116 q116; cases e116; replace hx116_0 := cb HB.out hx116_0; replace p116 := eq_true p116; replace q116 := eq_true q116))
        repeat (go_quiet (fail); try go_wp2_with (fail))
        go_ret
        exact ⟨ez, bz⟩
       ·
        rw [if_neg c12] at H
        have c12b0 := decide_eq_false c12
        clear c12
        by_cases c16 : (rd l1 x24_1) > 32768
        case' pos =>
         rw [if_pos c16] at H
         have c16b0 := decide_eq_true c16
         clear c16
         obtain rfl := Option.some.inj H
         have tw1a : True := trivial
        case' neg =>
         rw [if_neg c16] at H
         have c16b0 := decide_eq_false c16
         clear c16
         have H' := am H
         clear H
         have tw1b : True := trivial
        all_goals
         have p113 : 0 ≤ (x24_1 : Int) := az
         have q113 : x24_1 < (l0.length : Int) := az
         obtain ⟨ad113, A113_0, c113_0, A113_1, c113_1, e113, hx113_0, hx113_1, hl113_0, hi113_0, hl113_1, hi113_1⟩ := at_T43 HR0.out x24_1 p113 q113
         cases e113
         replace hx113_0 := cb HB.out hx113_0
         replace hx113_1 := cb HB.out hx113_1
         have HR113_0 := am hi113_0
         have HC113_0 := am hl113_0
         clear hi113_0 hl113_0
         have HR113_1 := am hi113_1
         have HC113_1 := am hl113_1
         clear hi113_1 hl113_1
         replace p113 := eq_true p113
         replace q113 := eq_true q113
         go_wp2_with (first | ((with_reducible refine gate_dst (N := 8) rfl ?_); refine box_event yz (N := 8) yz (cs := #[.slice none 0 0, .slice none 0 0]) (t := 43) gz ?_; intro gb114 hg w17 hbox hb; have BK114 := am (hbox); have GW114 := gwz (g := gb114) HB hg; have GE114 := GW114; replace HB := am (below_step bz hb); clear hb hbox hg; obtain ⟨hcz18_0, hcz18_1, hfz18_0, hfz18_1⟩ := kc2 BK114.out) | (go_at_call 29; (with_reducible refine (movement_Check.calls k1 _ _ ((rd_T43 l0 x24_1).f0) _ _ ((rd_T43 l0 x24_1).f1) t115 _ ?side1 ?side2 ?side3 ?side4 A9.out).mono ?_); (case side1 => exact Kd.C_below HR113_0.out bz); (case side2 => exact HC113_0.out); (case side3 => exact Kd.C_below HR113_1.out bz); (case side4 => exact HC113_1.out); rintro e w19 ⟨rfl, hb⟩; replace BK114 := am (blk_below (o := .cells #[.slice A113_0 ((rd_T43 l0 x24_1).f0).length c113_0, .slice A113_1 ((rd_T43 l0 x24_1).f1).length c113_1] 43 (0, 0)) (by (with_reducible repeat first | apply kN | apply kD | apply kA); refine blk_put (cs := #[.slice A113_0 ((rd_T43 l0 x24_1).f0).length c113_0, .slice none 0 0]) ?_ 1 _ rfl; (with_reducible repeat first | apply kN | apply kD | apply kA); refine blk_put (cs := #[.slice none 0 0, .slice none 0 0]) ?_ 0 _ rfl; (with_reducible repeat first | apply kN | apply kD | apply kA); exact BK114.out) hb); replace HB := am (below_step bz hb); (try clear hb); (try clear hb2); (try clear hk); (try clear hi); have p116 : 0 ≤ (x24_1 : Int) := az; have q116 : x24_1 < (l1.length : Int) := az; obtain ⟨ad116, e116, hx116_0⟩ := Kd.at_int HR1.out x24_1 p116 q116; cases e116; replace hx116_0 := cb HB.out hx116_0; replace p116 := eq_true p116; replace q116 := eq_true q116; have p117 : 0 ≤ (x24_1 : Int) := az; have q117 : x24_1 < (l1.length : Int) := az; obtain ⟨ad117, e117, hx117_0⟩ := Kd.at_int HR1.out x24_1 p117 q117; obtain rfl : ad116 = ad117 := (by injection e117); replace hx117_0 := cb HB.out hx117_0; replace p117 := eq_true p117; replace q117 := eq_true q117))
         repeat (go_quiet (fail); try go_wp2_with (fail))
         first
         | (have _ := tw1a
            go_ret
            exact ⟨ez, bz⟩)
         | (have _ := tw1b
            go_roundg k1
            case measure => have := HK1.out; omega
            case rel => exact ⟨(wrap64 (x24_1 + 1)), sz, H', ⟨by have := HK1.out; omega⟩, ⟨bz⟩⟩)
      ·
       rw [if_neg c10] at H
       have c10b0 : (t115 == 0) = false := beq_eq_false_iff_ne.mpr c10
       have c10b1 : (t115 != 0) = true := bne_iff_ne.mpr c10
       obtain rfl := Option.some.inj H
       have p113 : 0 ≤ (x24_1 : Int) := az
       have q113 : x24_1 < (l0.length : Int) := az
       obtain ⟨ad113, A113_0, c113_0, A113_1, c113_1, e113, hx113_0, hx113_1, hl113_0, hi113_0, hl113_1, hi113_1⟩ := at_T43 HR0.out x24_1 p113 q113
       cases e113
       replace hx113_0 := cb HB.out hx113_0
       replace hx113_1 := cb HB.out hx113_1
       have HR113_0 := am hi113_0
       have HC113_0 := am hl113_0
       clear hi113_0 hl113_0
       have HR113_1 := am hi113_1
       have HC113_1 := am hl113_1
       clear hi113_1 hl113_1
       replace p113 := eq_true p113
       replace q113 := eq_true q113
       go_wp2_with (first | ((with_reducible refine gate_dst (N := 8) rfl ?_); refine box_event yz (N := 8) yz (cs := #[.slice none 0 0, .slice none 0 0]) (t := 43) gz ?_; intro gb114 hg w23 hbox hb; have BK114 := am (hbox); have GW114 := gwz (g := gb114) HB hg; have GE114 := GW114; replace HB := am (below_step bz hb); clear hb hbox hg; obtain ⟨hcz24_0, hcz24_1, hfz24_0, hfz24_1⟩ := kc2 BK114.out) | (go_at_call 29; (with_reducible refine (movement_Check.calls k1 _ _ ((rd_T43 l0 x24_1).f0) _ _ ((rd_T43 l0 x24_1).f1) t115 _ ?side1 ?side2 ?side3 ?side4 A9.out).mono ?_); (case side1 => exact Kd.C_below HR113_0.out bz); (case side2 => exact HC113_0.out); (case side3 => exact Kd.C_below HR113_1.out bz); (case side4 => exact HC113_1.out); rintro e w25 ⟨rfl, hb⟩; replace BK114 := am (blk_below (o := .cells #[.slice A113_0 ((rd_T43 l0 x24_1).f0).length c113_0, .slice A113_1 ((rd_T43 l0 x24_1).f1).length c113_1] 43 (0, 0)) (by (with_reducible repeat first | apply kN | apply kD | apply kA); refine blk_put (cs := #[.slice A113_0 ((rd_T43 l0 x24_1).f0).length c113_0, .slice none 0 0]) ?_ 1 _ rfl; (with_reducible repeat first | apply kN | apply kD | apply kA); refine blk_put (cs := #[.slice none 0 0, .slice none 0 0]) ?_ 0 _ rfl; (with_reducible repeat first | apply kN | apply kD | apply kA); exact BK114.out) hb); replace HB := am (below_step bz hb); (try clear hb); (try clear hb2); (try clear hk); (try clear hi)))
       repeat (go_quiet (fail); try go_wp2_with (fail))
       go_ret
       exact ⟨ez, bz⟩
     ·
      rw [if_neg c6] at H
      have c6b0 := decide_eq_false c6
      clear c6
      have H' := am H
      clear H
      go_wp2
      repeat (go_quiet (fail); try go_wp2)
      go_loopg [49] k1 (fun kq v49 w' => ∃ (x49_2 : Int), v49 = .int .i64 x49_2 ∧ Aside0 (collide_Check.l1 kq l0 l2 l0 (l0.length : Int) x49_2 = some r) ∧ Aside0 (kq ≤ k1) ∧ Aside0 (Below w.heap.size w w'))
      case atStart => exact ⟨(0), sz, H', ⟨Nat.le_refl _⟩, ⟨bz⟩⟩
      case round =>
       clear H'
       try clear c1
       try clear p1
       try clear q1
       try clear hx1
       try clear c2
       try clear p2
       try clear c4
       try clear c4b0
       try clear c4b1
       try clear c5
       try clear c5b0
       try clear c5b1
       try clear c5b2
       try clear c6
       try clear c6b0
       try clear p6
       try clear c7
       try clear c7b0
       try clear c8
       try clear c8b0
       try clear c10
       try clear c10b0
       try clear c10b1
       try clear c11
       try clear c11b0
       try clear p11
       try clear q11
       try clear hx11
       try clear c12
       try clear c12b0
       try clear c14
       try clear c16
       try clear c16b0
       try clear hcz14_0
       try clear hcz14_1
       try clear hcz18_0
       try clear hcz18_1
       try clear hcz21_0
       try clear hcz21_1
       try clear hcz24_0
       try clear hcz24_1
       try clear hfz14_0
       try clear hfz14_1
       try clear hfz18_0
       try clear hfz18_1
       try clear hfz21_0
       try clear hfz21_1
       try clear hfz24_0
       try clear hfz24_1
       try clear hx113_0
       try clear hx113_1
       try clear hx116_0
       try clear hx117_0
       try clear p113
       try clear p116
       try clear p117
       try clear p2
       try clear q113
       try clear q116
       try clear q117
       obtain ⟨x49_2, rfl, HA, HK2, HB⟩ := hrel
       cases gk with
       | zero => exact absurd HA.out (by simp [collide_Check.l1])
       | succ k2 =>
        have H := HA.out
        clear HA
        simp only [collide_Check.l1] at H
        by_cases c26 : x49_2 < (l0.length : Int)
        ·
         rw [if_pos c26] at H
         have c26b0 := decide_eq_true c26
         clear c26
         by_cases c27 : 0 ≤ x49_2; rotate_left
         · rw [if_neg c27] at H; exact absurd H (by simp)
         rw [if_pos c27] at H
         have c27b0 := decide_eq_true c27
         clear c27
         by_cases c28 : x49_2 < (l0.length : Int); rotate_left
         · rw [if_neg c28] at H; exact absurd H (by simp)
         rw [if_pos c28] at H
         have c28b0 := decide_eq_true c28
         clear c28
         by_cases c29 : 0 < (l0.length : Int); rotate_left
         · rw [if_neg c29] at H; exact absurd H (by simp)
         rw [if_pos c29] at H
         have c29b0 := decide_eq_true c29
         have c29b1 : decide (0 < l0.length) = true := decide_eq_true (by omega)
         clear c29
         by_cases c30 : (((rd_T43 l0 x49_2).f1).length : Int) = (((rd_T43 l0 0).f1).length : Int)
         case' pos =>
          rw [if_pos c30] at H
          have c30b0 : ((((rd_T43 l0 x49_2).f1).length : Int) == (((rd_T43 l0 0).f1).length : Int)) = true := beq_iff_eq.mpr c30
          have c30b1 : ((((rd_T43 l0 x49_2).f1).length : Int) != (((rd_T43 l0 0).f1).length : Int)) = false := bne_eq_false_iff_eq.mpr c30
          have c30b2 : (((rd_T43 l0 x49_2).f1).length == ((rd_T43 l0 0).f1).length) = true := by first | simpa using c30 | (simp at c30 ⊢; omega)
          clear c30
          have H' := am H
          clear H
          have tw2a : True := trivial
         case' neg =>
          rw [if_neg c30] at H
          have c30b0 : ((((rd_T43 l0 x49_2).f1).length : Int) == (((rd_T43 l0 0).f1).length : Int)) = false := beq_eq_false_iff_ne.mpr c30
          have c30b1 : ((((rd_T43 l0 x49_2).f1).length : Int) != (((rd_T43 l0 0).f1).length : Int)) = true := bne_iff_ne.mpr c30
          have c30b2 : (((rd_T43 l0 x49_2).f1).length == ((rd_T43 l0 0).f1).length) = false := by first | simpa using c30 | (simp at c30 ⊢; omega)
          obtain rfl := Option.some.inj H
          have tw2b : True := trivial
         all_goals
          have p118 : 0 ≤ (x49_2 : Int) := az
          have q118 : x49_2 < (l0.length : Int) := az
          obtain ⟨ad118, A118_0, c118_0, A118_1, c118_1, e118, hx118_0, hx118_1, hl118_0, hi118_0, hl118_1, hi118_1⟩ := at_T43 HR0.out x49_2 p118 q118
          cases e118
          replace hx118_0 := cb HB.out hx118_0
          replace hx118_1 := cb HB.out hx118_1
          have HR118_0 := am hi118_0
          have HC118_0 := am hl118_0
          clear hi118_0 hl118_0
          have HR118_1 := am hi118_1
          have HC118_1 := am hl118_1
          clear hi118_1 hl118_1
          replace p118 := eq_true p118
          replace q118 := eq_true q118
          go_wp2_with (first | ((with_reducible refine gate_dst (N := 11) rfl ?_); refine box_event yz (N := 11) yz (cs := #[.slice none 0 0, .slice none 0 0]) (t := 43) gz ?_; intro gb119 hg w31 hbox hb; have BK119 := am (hbox); have GW119 := gwz (g := gb119) HB hg; have GE119 := GW119; replace HB := am (below_step bz hb); clear hb hbox hg; obtain ⟨hcz32_0, hcz32_1, hfz32_0, hfz32_1⟩ := kc2 BK119.out; have p120 : 0 ≤ (0 : Int) := (by omega); have q120 : 0 < (l0.length : Int) := az; obtain ⟨ad120, A120_0, c120_0, A120_1, c120_1, e120, hx120_0, hx120_1, hl120_0, hi120_0, hl120_1, hi120_1⟩ := at_T43 HR0.out 0 p120 q120; obtain rfl : ad118 = ad120 := (by injection e120); have qi120 : (0 < l0.length) = True := eq_true (by omega); (try rw [show ((0 : Int)).toNat = 0 from rfl] at hx120_0); (try rw [show 0 * 2 = 0 from rfl] at hx120_0); (try rw [Addr.add_zero'] at hx120_0); (try rw [show ((0 : Int)).toNat = 0 from rfl] at hx120_1); (try rw [show 0 * 2 = 0 from rfl] at hx120_1); (try rw [Addr.add_zero'] at hx120_1); have hn120_0 : ad118.block ≠ gb119 := Nat.ne_of_lt (Nat.lt_of_lt_of_le (by have := World.block_lt_of_cell? _ _ hx120_0; first | rwa [add_block] at this | exact this) GW119.out); have hn120_1 : ad118.block ≠ gb119 := Nat.ne_of_lt (Nat.lt_of_lt_of_le (by have := World.block_lt_of_cell? _ _ hx120_0; first | rwa [add_block] at this | exact this) GW119.out); replace hx120_0 := cb HB.out hx120_0; replace hx120_1 := cb HB.out hx120_1; have HR120_0 := am hi120_0; have HC120_0 := am hl120_0; clear hi120_0 hl120_0; have HR120_1 := am hi120_1; have HC120_1 := am hl120_1; clear hi120_1 hl120_1; replace hx120_0 := (cell_far (p := ⟨gb119, 0, none⟩) (by first | (rw [add_block]; exact hn120_0) | (show (Addr.add _ _).block ≠ _; rw [add_block]; exact hn120_0) | exact hn120_0) (.slice A118_0 ((rd_T43 l0 x49_2).f0).length c118_0)).trans hx120_0; replace hx120_1 := (cell_far (p := ⟨gb119, 0, none⟩) (by first | (rw [add_block]; exact hn120_0) | (show (Addr.add _ _).block ≠ _; rw [add_block]; exact hn120_0) | exact hn120_0) (.slice A118_0 ((rd_T43 l0 x49_2).f0).length c118_0)).trans hx120_1; replace hx120_0 := (cell_far (p := ⟨gb119, 1, none⟩) (by first | (rw [add_block]; exact hn120_1) | (show (Addr.add _ _).block ≠ _; rw [add_block]; exact hn120_1) | exact hn120_1) (.slice A118_1 ((rd_T43 l0 x49_2).f1).length c118_1)).trans hx120_0; replace hx120_1 := (cell_far (p := ⟨gb119, 1, none⟩) (by first | (rw [add_block]; exact hn120_1) | (show (Addr.add _ _).block ≠ _; rw [add_block]; exact hn120_1) | exact hn120_1) (.slice A118_1 ((rd_T43 l0 x49_2).f1).length c118_1)).trans hx120_1; (try have hy120_0 := fun (n_ : Nat) => (show ((((w31.drewN n_).setCell ⟨gb119, 0, none⟩ (.slice A118_0 ((rd_T43 l0 x49_2).f0).length c118_0)).setCell ⟨gb119, 1, none⟩ (.slice A118_1 ((rd_T43 l0 x49_2).f1).length c118_1))).cell? _ = some _ from hx120_0)); (try have hy120_1 := fun (n_ : Nat) => (show ((((w31.drewN n_).setCell ⟨gb119, 0, none⟩ (.slice A118_0 ((rd_T43 l0 x49_2).f0).length c118_0)).setCell ⟨gb119, 1, none⟩ (.slice A118_1 ((rd_T43 l0 x49_2).f1).length c118_1))).cell? _ = some _ from hx120_1)); clear hn120_0; clear hn120_1; replace p120 := eq_true p120; replace q120 := eq_true q120))
          repeat (go_quiet (fail); try go_wp2_with (fail))
          first
          | (have _ := tw2a
             go_roundg k2
             case measure => have := HK1.out; have := HK2.out; omega
             case rel => exact ⟨(wrap64 (x49_2 + 1)), sz, H', ⟨by have := HK1.out; have := HK2.out; omega⟩, ⟨bz⟩⟩)
          | (have _ := tw2b
             go_ret
             exact ⟨ez, bz⟩)
        ·
         rw [if_neg c26] at H
         have c26b0 := decide_eq_false c26
         clear c26
         have H' := am H
         clear H
         go_wp2
         repeat (go_quiet (fail); try go_wp2)
         go_loopg [65] k2 (fun kq v65 w' => ∃ (x65_3 : Int), v65 = .int .i64 x65_3 ∧ Aside0 (collide_Check.l2 kq l0 l2 (l2.length : Int) x65_3 = some r) ∧ Aside0 (kq ≤ k2) ∧ Aside0 (Below w.heap.size w w'))
         case atStart => exact ⟨(0), sz, H', ⟨Nat.le_refl _⟩, ⟨bz⟩⟩
         case round =>
          clear H'
          try clear c1
          try clear p1
          try clear q1
          try clear hx1
          try clear qi1
          try clear c2
          try clear p2
          try clear c3
          try clear c4
          try clear c4b0
          try clear c4b1
          try clear c5
          try clear c5b0
          try clear c5b1
          try clear c5b2
          try clear c6
          try clear c6b0
          try clear p6
          try clear c7
          try clear c7b0
          try clear c8
          try clear c8b0
          try clear c10
          try clear c10b0
          try clear c10b1
          try clear c11
          try clear c11b0
          try clear p11
          try clear q11
          try clear hx11
          try clear c12
          try clear c12b0
          try clear p12
          try clear q12
          try clear hx12
          try clear qi12
          try clear c14
          try clear c16
          try clear c16b0
          try clear c26
          try clear c26b0
          try clear c27
          try clear c27b0
          try clear c28
          try clear c28b0
          try clear c29
          try clear c29b0
          try clear c29b1
          try clear c30
          try clear c30b0
          try clear c30b1
          try clear c30b2
          try clear hcz14_0
          try clear hcz14_1
          try clear hcz18_0
          try clear hcz18_1
          try clear hcz21_0
          try clear hcz21_1
          try clear hcz24_0
          try clear hcz24_1
          try clear hcz32_0
          try clear hcz32_1
          try clear hcz34_0
          try clear hcz34_1
          try clear hfz14_0
          try clear hfz14_1
          try clear hfz18_0
          try clear hfz18_1
          try clear hfz21_0
          try clear hfz21_1
          try clear hfz24_0
          try clear hfz24_1
          try clear hfz32_0
          try clear hfz32_1
          try clear hfz34_0
          try clear hfz34_1
          try clear hx113_0
          try clear hx113_1
          try clear hx116_0
          try clear hx117_0
          try clear hx118_0
          try clear hx118_1
          try clear hx120_0
          try clear hx120_1
          try clear p1
          try clear p11
          try clear p113
          try clear p116
          try clear p117
          try clear p118
          try clear p120
          try clear p2
          try clear p6
          try clear q1
          try clear q11
          try clear q113
          try clear q116
          try clear q117
          try clear q118
          try clear q120
          obtain ⟨x65_3, rfl, HA, HK3, HB⟩ := hrel
          cases gk with
          | zero => exact absurd HA.out (by simp [collide_Check.l2])
          | succ k3 =>
           have H := HA.out
           clear HA
           simp only [collide_Check.l2] at H
           by_cases c35 : x65_3 < (l2.length : Int)
           ·
            rw [if_pos c35] at H
            have c35b0 := decide_eq_true c35
            clear c35
            by_cases c36 : 0 ≤ x65_3; rotate_left
            · rw [if_neg c36] at H; exact absurd H (by simp)
            rw [if_pos c36] at H
            have c36b0 := decide_eq_true c36
            clear c36
            by_cases c37 : x65_3 < (l2.length : Int); rotate_left
            · rw [if_neg c37] at H; exact absurd H (by simp)
            rw [if_pos c37] at H
            have c37b0 := decide_eq_true c37
            clear c37
            by_cases c38 : ((rd_T62 l2 x65_3).f0) = ((rd_T62 l2 x65_3).f2)
            ·
             rw [if_pos c38] at H
             have c38b0 : (((rd_T62 l2 x65_3).f0) == ((rd_T62 l2 x65_3).f2)) = true := beq_iff_eq.mpr c38
             have c38b1 : (((rd_T62 l2 x65_3).f0) != ((rd_T62 l2 x65_3).f2)) = false := bne_eq_false_iff_eq.mpr c38
             clear c38
             obtain rfl := Option.some.inj H
             have p121 : 0 ≤ (x65_3 : Int) := az
             have q121 : x65_3 < (l2.length : Int) := az
             obtain ⟨ad121, e121, hx121_0, hx121_1, hx121_2, hx121_3, hx121_4, hx121_5⟩ := at_T62 HR2.out x65_3 p121 q121
             cases e121
             replace hx121_0 := cb HB.out hx121_0
             replace hx121_1 := cb HB.out hx121_1
             replace hx121_2 := cb HB.out hx121_2
             replace hx121_3 := cb HB.out hx121_3
             replace hx121_4 := cb HB.out hx121_4
             replace hx121_5 := cb HB.out hx121_5
             replace p121 := eq_true p121
             replace q121 := eq_true q121
             go_wp2_with (first | ((with_reducible refine gate_dst (N := 13) rfl ?_); refine box_event yz (N := 13) yz (cs := #[.int .i64 0, .int .i64 0, .int .i64 0, .int .i64 0, .int .i64 0, .int .i64 0]) (t := 62) gz ?_; intro gb122 hg w39 hbox hb; have BK122 := am (hbox); have GW122 := gwz (g := gb122) HB hg; have GE122 := GW122; replace HB := am (below_step bz hb); clear hb hbox hg; obtain ⟨hcz40_0, hcz40_1, hcz40_2, hcz40_3, hcz40_4, hcz40_5, hfz40_0, hfz40_1, hfz40_2, hfz40_3, hfz40_4, hfz40_5⟩ := kc6 BK122.out))
             repeat (go_quiet (fail); try go_wp2_with (fail))
             go_ret
             exact ⟨ez, bz⟩
            ·
             rw [if_neg c38] at H
             have c38b0 : (((rd_T62 l2 x65_3).f0) == ((rd_T62 l2 x65_3).f2)) = false := beq_eq_false_iff_ne.mpr c38
             have c38b1 : (((rd_T62 l2 x65_3).f0) != ((rd_T62 l2 x65_3).f2)) = true := bne_iff_ne.mpr c38
             by_cases c41 : ((rd_T62 l2 x65_3).f0) < 0
             ·
              rw [if_pos c41] at H
              have c41b0 := decide_eq_true c41
              clear c41
              obtain rfl := Option.some.inj H
              have p121 : 0 ≤ (x65_3 : Int) := az
              have q121 : x65_3 < (l2.length : Int) := az
              obtain ⟨ad121, e121, hx121_0, hx121_1, hx121_2, hx121_3, hx121_4, hx121_5⟩ := at_T62 HR2.out x65_3 p121 q121
              cases e121
              replace hx121_0 := cb HB.out hx121_0
              replace hx121_1 := cb HB.out hx121_1
              replace hx121_2 := cb HB.out hx121_2
              replace hx121_3 := cb HB.out hx121_3
              replace hx121_4 := cb HB.out hx121_4
              replace hx121_5 := cb HB.out hx121_5
              replace p121 := eq_true p121
              replace q121 := eq_true q121
              go_wp2_with (first | ((with_reducible refine gate_dst (N := 13) rfl ?_); refine box_event yz (N := 13) yz (cs := #[.int .i64 0, .int .i64 0, .int .i64 0, .int .i64 0, .int .i64 0, .int .i64 0]) (t := 62) gz ?_; intro gb122 hg w42 hbox hb; have BK122 := am (hbox); have GW122 := gwz (g := gb122) HB hg; have GE122 := GW122; replace HB := am (below_step bz hb); clear hb hbox hg; obtain ⟨hcz43_0, hcz43_1, hcz43_2, hcz43_3, hcz43_4, hcz43_5, hfz43_0, hfz43_1, hfz43_2, hfz43_3, hfz43_4, hfz43_5⟩ := kc6 BK122.out))
              repeat (go_quiet (fail); try go_wp2_with (fail))
              go_ret
              exact ⟨ez, bz⟩
             ·
              rw [if_neg c41] at H
              have c41b0 := decide_eq_false c41
              clear c41
              by_cases c44 : ((rd_T62 l2 x65_3).f0) ≥ (l0.length : Int)
              ·
               rw [if_pos c44] at H
               have c44b0 := decide_eq_true c44
               clear c44
               obtain rfl := Option.some.inj H
               have p121 : 0 ≤ (x65_3 : Int) := az
               have q121 : x65_3 < (l2.length : Int) := az
               obtain ⟨ad121, e121, hx121_0, hx121_1, hx121_2, hx121_3, hx121_4, hx121_5⟩ := at_T62 HR2.out x65_3 p121 q121
               cases e121
               replace hx121_0 := cb HB.out hx121_0
               replace hx121_1 := cb HB.out hx121_1
               replace hx121_2 := cb HB.out hx121_2
               replace hx121_3 := cb HB.out hx121_3
               replace hx121_4 := cb HB.out hx121_4
               replace hx121_5 := cb HB.out hx121_5
               replace p121 := eq_true p121
               replace q121 := eq_true q121
               go_wp2_with (first | ((with_reducible refine gate_dst (N := 13) rfl ?_); refine box_event yz (N := 13) yz (cs := #[.int .i64 0, .int .i64 0, .int .i64 0, .int .i64 0, .int .i64 0, .int .i64 0]) (t := 62) gz ?_; intro gb122 hg w45 hbox hb; have BK122 := am (hbox); have GW122 := gwz (g := gb122) HB hg; have GE122 := GW122; replace HB := am (below_step bz hb); clear hb hbox hg; obtain ⟨hcz46_0, hcz46_1, hcz46_2, hcz46_3, hcz46_4, hcz46_5, hfz46_0, hfz46_1, hfz46_2, hfz46_3, hfz46_4, hfz46_5⟩ := kc6 BK122.out))
               repeat (go_quiet (fail); try go_wp2_with (fail))
               go_ret
               exact ⟨ez, bz⟩
              ·
               rw [if_neg c44] at H
               have c44b0 := decide_eq_false c44
               clear c44
               by_cases c47 : ((rd_T62 l2 x65_3).f2) < 0
               ·
                rw [if_pos c47] at H
                have c47b0 := decide_eq_true c47
                clear c47
                obtain rfl := Option.some.inj H
                have p121 : 0 ≤ (x65_3 : Int) := az
                have q121 : x65_3 < (l2.length : Int) := az
                obtain ⟨ad121, e121, hx121_0, hx121_1, hx121_2, hx121_3, hx121_4, hx121_5⟩ := at_T62 HR2.out x65_3 p121 q121
                cases e121
                replace hx121_0 := cb HB.out hx121_0
                replace hx121_1 := cb HB.out hx121_1
                replace hx121_2 := cb HB.out hx121_2
                replace hx121_3 := cb HB.out hx121_3
                replace hx121_4 := cb HB.out hx121_4
                replace hx121_5 := cb HB.out hx121_5
                replace p121 := eq_true p121
                replace q121 := eq_true q121
                go_wp2_with (first | ((with_reducible refine gate_dst (N := 13) rfl ?_); refine box_event yz (N := 13) yz (cs := #[.int .i64 0, .int .i64 0, .int .i64 0, .int .i64 0, .int .i64 0, .int .i64 0]) (t := 62) gz ?_; intro gb122 hg w48 hbox hb; have BK122 := am (hbox); have GW122 := gwz (g := gb122) HB hg; have GE122 := GW122; replace HB := am (below_step bz hb); clear hb hbox hg; obtain ⟨hcz49_0, hcz49_1, hcz49_2, hcz49_3, hcz49_4, hcz49_5, hfz49_0, hfz49_1, hfz49_2, hfz49_3, hfz49_4, hfz49_5⟩ := kc6 BK122.out))
                repeat (go_quiet (fail); try go_wp2_with (fail))
                go_ret
                exact ⟨ez, bz⟩
               ·
                rw [if_neg c47] at H
                have c47b0 := decide_eq_false c47
                clear c47
                by_cases c50 : ((rd_T62 l2 x65_3).f2) ≥ (l0.length : Int)
                ·
                 rw [if_pos c50] at H
                 have c50b0 := decide_eq_true c50
                 clear c50
                 obtain rfl := Option.some.inj H
                 have p121 : 0 ≤ (x65_3 : Int) := az
                 have q121 : x65_3 < (l2.length : Int) := az
                 obtain ⟨ad121, e121, hx121_0, hx121_1, hx121_2, hx121_3, hx121_4, hx121_5⟩ := at_T62 HR2.out x65_3 p121 q121
                 cases e121
                 replace hx121_0 := cb HB.out hx121_0
                 replace hx121_1 := cb HB.out hx121_1
                 replace hx121_2 := cb HB.out hx121_2
                 replace hx121_3 := cb HB.out hx121_3
                 replace hx121_4 := cb HB.out hx121_4
                 replace hx121_5 := cb HB.out hx121_5
                 replace p121 := eq_true p121
                 replace q121 := eq_true q121
                 go_wp2_with (first | ((with_reducible refine gate_dst (N := 13) rfl ?_); refine box_event yz (N := 13) yz (cs := #[.int .i64 0, .int .i64 0, .int .i64 0, .int .i64 0, .int .i64 0, .int .i64 0]) (t := 62) gz ?_; intro gb122 hg w51 hbox hb; have BK122 := am (hbox); have GW122 := gwz (g := gb122) HB hg; have GE122 := GW122; replace HB := am (below_step bz hb); clear hb hbox hg; obtain ⟨hcz52_0, hcz52_1, hcz52_2, hcz52_3, hcz52_4, hcz52_5, hfz52_0, hfz52_1, hfz52_2, hfz52_3, hfz52_4, hfz52_5⟩ := kc6 BK122.out))
                 repeat (go_quiet (fail); try go_wp2_with (fail))
                 go_ret
                 exact ⟨ez, bz⟩
                ·
                 rw [if_neg c50] at H
                 have c50b0 := decide_eq_false c50
                 clear c50
                 have H' := am H
                 clear H
                 have p121 : 0 ≤ (x65_3 : Int) := az
                 have q121 : x65_3 < (l2.length : Int) := az
                 obtain ⟨ad121, e121, hx121_0, hx121_1, hx121_2, hx121_3, hx121_4, hx121_5⟩ := at_T62 HR2.out x65_3 p121 q121
                 cases e121
                 replace hx121_0 := cb HB.out hx121_0
                 replace hx121_1 := cb HB.out hx121_1
                 replace hx121_2 := cb HB.out hx121_2
                 replace hx121_3 := cb HB.out hx121_3
                 replace hx121_4 := cb HB.out hx121_4
                 replace hx121_5 := cb HB.out hx121_5
                 replace p121 := eq_true p121
                 replace q121 := eq_true q121
                 go_wp2_with (first | ((with_reducible refine gate_dst (N := 13) rfl ?_); refine box_event yz (N := 13) yz (cs := #[.int .i64 0, .int .i64 0, .int .i64 0, .int .i64 0, .int .i64 0, .int .i64 0]) (t := 62) gz ?_; intro gb122 hg w53 hbox hb; have BK122 := am (hbox); have GW122 := gwz (g := gb122) HB hg; have GE122 := GW122; replace HB := am (below_step bz hb); clear hb hbox hg; obtain ⟨hcz54_0, hcz54_1, hcz54_2, hcz54_3, hcz54_4, hcz54_5, hfz54_0, hfz54_1, hfz54_2, hfz54_3, hfz54_4, hfz54_5⟩ := kc6 BK122.out))
                 repeat (go_quiet (fail); try go_wp2_with (fail))
                 go_roundg k3
                 case measure => have := HK1.out; have := HK2.out; have := HK3.out; omega
                 case rel => exact ⟨(wrap64 (x65_3 + 1)), sz, H', ⟨by have := HK1.out; have := HK2.out; have := HK3.out; omega⟩, ⟨bz⟩⟩
           ·
            rw [if_neg c35] at H
            have c35b0 := decide_eq_false c35
            clear c35
            obtain rfl := Option.some.inj H
            go_wp2
            repeat (go_quiet (fail); try go_wp2)
            go_ret
            exact ⟨ez, bz⟩
  ·
   rw [if_neg c5] at H
   have c5b0 : ((l1.length : Int) == (l0.length : Int)) = false := beq_eq_false_iff_ne.mpr c5
   have c5b1 : ((l1.length : Int) != (l0.length : Int)) = true := bne_iff_ne.mpr c5
   have c5b2 : (l1.length == l0.length) = false := by first | simpa using c5 | (simp at c5 ⊢; omega)
   obtain rfl := Option.some.inj H
   go_enter Try.func14, Try.ntmps14
   go_wp2
   repeat (go_quiet (fail); try go_wp2)
   go_ret
   exact ⟨ez, bz⟩

end Go.Proofs.Yteflngoiebgdaaa.X
