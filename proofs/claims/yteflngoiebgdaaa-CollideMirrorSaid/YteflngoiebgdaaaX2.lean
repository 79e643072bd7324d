import Derived.Test.YteflngoiebgdaaaX0
namespace Go.Proofs.Yteflngoiebgdaaa.X
open Go.RowKit YteflngoiebgdaaaW.PrintWords YteflngoiebgdaaaW.PrintLast YteflngoiebgdaaaW.PrintMore
attribute [local go_sem] max2_int min2_int max_two min_two max_three min_three max_four min_four
set_option linter.unusedVariables false
set_option linter.unusedSimpArgs false

/-! ### dancestudioref44_Light: function 11 -/
mutual
def dancestudioref44_Light.j0 : Nat → List (S43) → Bool → Option (Bool)
 | 0, _, _ => none
 | k + 1, x0, x23 => if x23 = true then (some false) else (dancestudioref44_Light.l0 k x0 0)
def dancestudioref44_Light.l0 : Nat → List (S43) → Int → Option (Bool)
 | 0, _, _ => none
 | k + 1, x0, x5 => if x5 < (x0.length : Int) then (if 0 ≤ x5 then (if (((rd_T43 x0 x5).f0).length : Int) > 60 then (some false) else (if (((rd_T43 x0 x5).f1).length : Int) > 60 then (some false) else (dancestudioref44_Light.l0 k x0 (wrap64 (x5 + 1))))) else (none)) else (some true)
end
def dancestudioref44_Light.f (k : Nat) (l0 : List (S43)) (l1 : List (S62)) : Option (Bool) := if (l0.length : Int) > 5 then (if (l0.length : Int) ≤ 12 then (dancestudioref44_Light.j0 k l0 true) else (if (l0.length : Int) > 20 then (dancestudioref44_Light.j0 k l0 true) else (dancestudioref44_Light.j0 k l0 (decide ((l1.length : Int) > 20))))) else (if (l0.length : Int) > 20 then (dancestudioref44_Light.j0 k l0 true) else (dancestudioref44_Light.j0 k l0 (decide ((l1.length : Int) > 20))))
theorem dancestudioref44_Light.mono_l : ∀ k, (∀ y0 y1, LeO (dancestudioref44_Light.j0 k y0 y1) (dancestudioref44_Light.j0 (k + 1) y0 y1)) ∧ (∀ y0 y1, LeO (dancestudioref44_Light.l0 k y0 y1) (dancestudioref44_Light.l0 (k + 1) y0 y1))
 | 0 => ⟨fun _ _ r h => by simp [dancestudioref44_Light.j0] at h, fun _ _ r h => by simp [dancestudioref44_Light.l0] at h⟩
 | k + 1 => by
  obtain ⟨ih0, ih1⟩ := dancestudioref44_Light.mono_l k
  refine ⟨?_, ?_⟩
  ·
   intro y0 y1
   unfold dancestudioref44_Light.j0
   repeat' first
   | (with_reducible exact ih0 _ _)
   | (with_reducible exact ih1 _ _)
   | (with_reducible exact LeO.refl _)
   | (with_reducible exact LeO.none _)
   | (with_reducible refine LeO.ite ?_ ?_)
   | (with_reducible refine LeO.bind ?_ (fun _ => ?_))
   | exact ih0 _ _
   | exact ih1 _ _
   | exact LeO.none _
   | refine LeO.ite ?_ ?_
   | refine LeO.bind ?_ (fun _ => ?_)
  ·
   intro y0 y1
   unfold dancestudioref44_Light.l0
   repeat' first
   | (with_reducible exact ih0 _ _)
   | (with_reducible exact ih1 _ _)
   | (with_reducible exact LeO.refl _)
   | (with_reducible exact LeO.none _)
   | (with_reducible refine LeO.ite ?_ ?_)
   | (with_reducible refine LeO.bind ?_ (fun _ => ?_))
   | exact ih0 _ _
   | exact ih1 _ _
   | exact LeO.none _
   | refine LeO.ite ?_ ?_
   | refine LeO.bind ?_ (fun _ => ?_)
theorem dancestudioref44_Light.mono : ∀ a0 a1 k, LeO (dancestudioref44_Light.f k a0 a1) (dancestudioref44_Light.f (k + 1) a0 a1) := by
 intro a0 a1 k
 obtain ⟨ih0, ih1⟩ := dancestudioref44_Light.mono_l k
 unfold dancestudioref44_Light.f
 repeat' first
   | (with_reducible exact ih0 _ _)
   | (with_reducible exact ih1 _ _)
   | (with_reducible exact LeO.refl _)
   | (with_reducible exact LeO.none _)
   | (with_reducible refine LeO.ite ?_ ?_)
   | (with_reducible refine LeO.bind ?_ (fun _ => ?_))
   | exact ih0 _ _
   | exact ih1 _ _
   | exact LeO.none _
   | refine LeO.ite ?_ ?_
   | refine LeO.bind ?_ (fun _ => ?_)
set_option maxHeartbeats 8000000 in
set_option maxRecDepth 100000 in
theorem dancestudioref44_Light.calls (k : Nat) (A0 : Option Addr) (c0 : Nat) (l0 : List (S43)) (A1 : Option Addr) (c1 : Nat) (l1 : List (S62)) (r : Bool) (w : World) (hr0 : Kd.C k43 w A0 l0.length l0) (hc0 : l0.length ≤ c0) (hr1 : Kd.C k62 w A1 l1.length l1) (hc1 : l1.length ≤ c1) (h : dancestudioref44_Light.f k l0 l1 = some r) :
  Calls Try.prog 11 #[.slice A0 l0.length c0, .slice A1 l1.length c1] w fun e w' => e = .returned (.bool r) ∧ Drawn0 w w' := by
 have HR0 := am hr0
 have HC0 := am hc0
 clear hr0 hc0
 have HR1 := am hr1
 have HC1 := am hc1
 clear hr1 hc1
 have H : (if (l0.length : Int) > 5 then (if (l0.length : Int) ≤ 12 then (dancestudioref44_Light.j0 k l0 true) else (if (l0.length : Int) > 20 then (dancestudioref44_Light.j0 k l0 true) else (dancestudioref44_Light.j0 k l0 (decide ((l1.length : Int) > 20))))) else (if (l0.length : Int) > 20 then (dancestudioref44_Light.j0 k l0 true) else (dancestudioref44_Light.j0 k l0 (decide ((l1.length : Int) > 20))))) = some r := h
 clear h
 have HC3 := am H
 clear H
 go_enter Try.func11, Try.ntmps11
 go_upto_region 1 with (fail)
 go_cut [23] (fun v23 wc => ∃ (kq : Nat) (x23_2 : Bool), v23 = .bool x23_2 ∧ Aside0 (dancestudioref44_Light.j0 kq l0 x23_2 = some r) ∧ Aside0 (kq ≤ k) ∧ Drawn0 w wc)
 case first =>
  have H := HC3.out
  clear HC3
  by_cases c4 : (l0.length : Int) > 5
  ·
   rw [if_pos c4] at H
   have c4b0 := decide_eq_true c4
   have c4b1 : decide (5 < l0.length) = true := decide_eq_true (by omega)
   clear c4
   (first | rw [c4b0] | (simp only [i64_w, i32_w]; rw [c4b0]) | skip)
   by_cases c5 : (l0.length : Int) ≤ 12
   ·
    rw [if_pos c5] at H
    have c5b0 := decide_eq_true c5
    have c5b1 : decide (l0.length ≤ 12) = true := decide_eq_true (by omega)
    clear c5
    have H' := am H
    clear H
    go_wp2
    go_meet
    case rel => exact ⟨_, (true), sz, H', ⟨by first | omega | exact Nat.le_refl _⟩, by repeat (first | exact Drawn0.refl _ | apply Drawn0.step)⟩
   ·
    rw [if_neg c5] at H
    have c5b0 := decide_eq_false c5
    have c5b1 : decide (l0.length ≤ 12) = false := decide_eq_false (by omega)
    clear c5
    by_cases c6 : (l0.length : Int) > 20
    ·
     rw [if_pos c6] at H
     have c6b0 := decide_eq_true c6
     have c6b1 : decide (20 < l0.length) = true := decide_eq_true (by omega)
     clear c6
     have H' := am H
     clear H
     go_wp2
     go_meet
     case rel => exact ⟨_, (true), sz, H', ⟨by first | omega | exact Nat.le_refl _⟩, by repeat (first | exact Drawn0.refl _ | apply Drawn0.step)⟩
    ·
     rw [if_neg c6] at H
     have c6b0 := decide_eq_false c6
     have c6b1 : decide (20 < l0.length) = false := decide_eq_false (by omega)
     clear c6
     have H' := am H
     clear H
     go_wp2
     go_meet
     case rel => exact ⟨_, (decide ((l1.length : Int) > 20)), sz, H', ⟨by first | omega | exact Nat.le_refl _⟩, by repeat (first | exact Drawn0.refl _ | apply Drawn0.step)⟩
  ·
   rw [if_neg c4] at H
   have c4b0 := decide_eq_false c4
   have c4b1 : decide (5 < l0.length) = false := decide_eq_false (by omega)
   clear c4
   (first | rw [c4b0] | (simp only [i64_w, i32_w]; rw [c4b0]) | skip)
   by_cases c7 : (l0.length : Int) > 20
   ·
    rw [if_pos c7] at H
    have c7b0 := decide_eq_true c7
    have c7b1 : decide (20 < l0.length) = true := decide_eq_true (by omega)
    clear c7
    have H' := am H
    clear H
    go_wp2
    go_meet
    case rel => exact ⟨_, (true), sz, H', ⟨by first | omega | exact Nat.le_refl _⟩, by repeat (first | exact Drawn0.refl _ | apply Drawn0.step)⟩
   ·
    rw [if_neg c7] at H
    have c7b0 := decide_eq_false c7
    have c7b1 : decide (20 < l0.length) = false := decide_eq_false (by omega)
    clear c7
    have H' := am H
    clear H
    go_wp2
    go_meet
    case rel => exact ⟨_, (decide ((l1.length : Int) > 20)), sz, H', ⟨by first | omega | exact Nat.le_refl _⟩, by repeat (first | exact Drawn0.refl _ | apply Drawn0.step)⟩
 case rest =>
  clear HC3
  try clear c1
  try clear p2
  try clear c4
  try clear c4b0
  try clear c4b1
  try clear c5
  try clear c5b0
  try clear c5b1
  try clear c6
  try clear c6b0
  try clear c6b1
  try clear c7
  try clear c7b0
  try clear c7b1
  obtain ⟨kq, x23_2, rfl, HA, HJ2, ⟨mc2, rfl⟩⟩ := hcut
  cases kq with
  | zero => exact absurd HA.out (by simp [dancestudioref44_Light.j0])
  | succ kj2 =>
   have H := HA.out
   clear HA
   simp only [dancestudioref44_Light.j0] at H
   by_cases c8 : x23_2 = true
   ·
    subst c8
    have H1 : (some false) = some r := by rw [if_pos rfl] at H; exact H
    clear H
    have H := H1
    clear H1
    obtain rfl := Option.some.inj H
    go_wp2
    go_ret
    exact ⟨by first | rfl | (simp; done) | (simp [*]; done), by repeat (first | exact Drawn0.refl _ | apply Drawn0.step)⟩
   ·
    replace c8 := Bool.eq_false_iff.mpr c8
    subst c8
    have H1 : (dancestudioref44_Light.l0 kj2 l0 0) = some r := by rw [if_neg (show ¬ (false = true) by decide)] at H; exact H
    clear H
    have H := H1
    clear H1
    have H' := am H
    clear H
    go_wp2
    go_loopg [5] kj2 (fun kq v5 w' => ∃ (x5_2 : Int), v5 = .int .i64 x5_2 ∧ Aside0 (dancestudioref44_Light.l0 kq l0 x5_2 = some r) ∧ Aside0 (kq ≤ kj2) ∧ Drawn0 w w')
    case atStart => exact ⟨(0), sz, H', ⟨Nat.le_refl _⟩, by repeat (first | exact Drawn0.refl _ | apply Drawn0.step)⟩
    case round =>
     clear H'
     try clear c1
     try clear c2
     try clear p2
     try clear c4
     try clear c4b0
     try clear c4b1
     try clear c5
     try clear c5b0
     try clear c5b1
     try clear c6
     try clear c6b0
     try clear c6b1
     try clear c7
     try clear c7b0
     try clear c7b1
     try clear c8
     try clear p2
     obtain ⟨x5_2, rfl, HA, HK2, ⟨m2, rfl⟩⟩ := hrel
     cases gk with
     | zero => exact absurd HA.out (by simp [dancestudioref44_Light.l0])
     | succ k2 =>
      have H := HA.out
      clear HA
      simp only [dancestudioref44_Light.l0] at H
      by_cases c9 : x5_2 < (l0.length : Int)
      ·
       rw [if_pos c9] at H
       have c9b0 := decide_eq_true c9
       clear c9
       by_cases c10 : 0 ≤ x5_2; rotate_left
       · rw [if_neg c10] at H; exact absurd H (by simp)
       rw [if_pos c10] at H
       have c10b0 := decide_eq_true c10
       clear c10
       by_cases c11 : (((rd_T43 l0 x5_2).f0).length : Int) > 60
       ·
        rw [if_pos c11] at H
        have c11b0 := decide_eq_true c11
        have c11b1 : decide (60 < ((rd_T43 l0 x5_2).f0).length) = true := decide_eq_true (by omega)
        clear c11
        obtain rfl := Option.some.inj H
        have p101 : 0 ≤ (x5_2 : Int) := az
        have q101 : x5_2 < (l0.length : Int) := az
        obtain ⟨ad101, A101_0, c101_0, A101_1, c101_1, e101, hx101_0, hx101_1, hl101_0, hi101_0, hl101_1, hi101_1⟩ := at_T43 HR0.out x5_2 p101 q101
        cases e101
        have HR101_0 := am hi101_0
        have HC101_0 := am hl101_0
        clear hi101_0 hl101_0
        have HR101_1 := am hi101_1
        have HC101_1 := am hl101_1
        clear hi101_1 hl101_1
        replace p101 := eq_true p101
        replace q101 := eq_true q101
        go_wp2
        go_ret
        exact ⟨by first | rfl | (simp; done) | (simp [*]; done), by repeat (first | exact Drawn0.refl _ | apply Drawn0.step)⟩
       ·
        rw [if_neg c11] at H
        have c11b0 := decide_eq_false c11
        have c11b1 : decide (60 < ((rd_T43 l0 x5_2).f0).length) = false := decide_eq_false (by omega)
        clear c11
        by_cases c12 : (((rd_T43 l0 x5_2).f1).length : Int) > 60
        ·
         rw [if_pos c12] at H
         have c12b0 := decide_eq_true c12
         have c12b1 : decide (60 < ((rd_T43 l0 x5_2).f1).length) = true := decide_eq_true (by omega)
         clear c12
         obtain rfl := Option.some.inj H
         have p101 : 0 ≤ (x5_2 : Int) := az
         have q101 : x5_2 < (l0.length : Int) := az
         obtain ⟨ad101, A101_0, c101_0, A101_1, c101_1, e101, hx101_0, hx101_1, hl101_0, hi101_0, hl101_1, hi101_1⟩ := at_T43 HR0.out x5_2 p101 q101
         cases e101
         have HR101_0 := am hi101_0
         have HC101_0 := am hl101_0
         clear hi101_0 hl101_0
         have HR101_1 := am hi101_1
         have HC101_1 := am hl101_1
         clear hi101_1 hl101_1
         replace p101 := eq_true p101
         replace q101 := eq_true q101
         have p102 : 0 ≤ (x5_2 : Int) := az
         have q102 : x5_2 < (l0.length : Int) := az
         obtain ⟨ad102, A102_0, c102_0, A102_1, c102_1, e102, hx102_0, hx102_1, hl102_0, hi102_0, hl102_1, hi102_1⟩ := at_T43 HR0.out x5_2 p102 q102
         obtain rfl : ad101 = ad102 := (by injection e102)
         have HR102_0 := am hi102_0
         have HC102_0 := am hl102_0
         clear hi102_0 hl102_0
         have HR102_1 := am hi102_1
         have HC102_1 := am hl102_1
         clear hi102_1 hl102_1
         replace p102 := eq_true p102
         replace q102 := eq_true q102
         have ea_ := Option.some.inj (hx101_0.symm.trans hx102_0)
         injection ea_ with ea_ en_ ec_
         subst ea_
         subst ec_
         clear en_
         have ea_ := Option.some.inj (hx101_1.symm.trans hx102_1)
         injection ea_ with ea_ en_ ec_
         subst ea_
         subst ec_
         clear en_
         go_wp2
         go_ret
         exact ⟨by first | rfl | (simp; done) | (simp [*]; done), by repeat (first | exact Drawn0.refl _ | apply Drawn0.step)⟩
        ·
         rw [if_neg c12] at H
         have c12b0 := decide_eq_false c12
         have c12b1 : decide (60 < ((rd_T43 l0 x5_2).f1).length) = false := decide_eq_false (by omega)
         clear c12
         have H' := am H
         clear H
         have p101 : 0 ≤ (x5_2 : Int) := az
         have q101 : x5_2 < (l0.length : Int) := az
         obtain ⟨ad101, A101_0, c101_0, A101_1, c101_1, e101, hx101_0, hx101_1, hl101_0, hi101_0, hl101_1, hi101_1⟩ := at_T43 HR0.out x5_2 p101 q101
         cases e101
         have HR101_0 := am hi101_0
         have HC101_0 := am hl101_0
         clear hi101_0 hl101_0
         have HR101_1 := am hi101_1
         have HC101_1 := am hl101_1
         clear hi101_1 hl101_1
         replace p101 := eq_true p101
         replace q101 := eq_true q101
         have p102 : 0 ≤ (x5_2 : Int) := az
         have q102 : x5_2 < (l0.length : Int) := az
         obtain ⟨ad102, A102_0, c102_0, A102_1, c102_1, e102, hx102_0, hx102_1, hl102_0, hi102_0, hl102_1, hi102_1⟩ := at_T43 HR0.out x5_2 p102 q102
         obtain rfl : ad101 = ad102 := (by injection e102)
         have HR102_0 := am hi102_0
         have HC102_0 := am hl102_0
         clear hi102_0 hl102_0
         have HR102_1 := am hi102_1
         have HC102_1 := am hl102_1
         clear hi102_1 hl102_1
         replace p102 := eq_true p102
         replace q102 := eq_true q102
         have ea_ := Option.some.inj (hx101_0.symm.trans hx102_0)
         injection ea_ with ea_ en_ ec_
         subst ea_
         subst ec_
         clear en_
         have ea_ := Option.some.inj (hx101_1.symm.trans hx102_1)
         injection ea_ with ea_ en_ ec_
         subst ea_
         subst ec_
         clear en_
         go_wp2
         go_roundg k2
         case measure => have := HJ2.out; have := HK2.out; omega
         case rel => exact ⟨(wrap64 (x5_2 + 1)), sz, H', ⟨by have := HJ2.out; have := HK2.out; omega⟩, by repeat (first | exact Drawn0.refl _ | apply Drawn0.step)⟩
      ·
       rw [if_neg c9] at H
       have c9b0 := decide_eq_false c9
       clear c9
       obtain rfl := Option.some.inj H
       go_wp2
       go_ret
       exact ⟨by first | rfl | (simp; done) | (simp [*]; done), by repeat (first | exact Drawn0.refl _ | apply Drawn0.step)⟩

end Go.Proofs.Yteflngoiebgdaaa.X
