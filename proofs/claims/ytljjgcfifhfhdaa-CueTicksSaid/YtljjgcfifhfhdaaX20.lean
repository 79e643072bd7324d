-- written by xprint.py, an own overlay over the kit's print; not trusted: Lean checks it
import Derived.Test.YtljjgcfifhfhdaaX0
namespace Go.Proofs.Ytljjgcfifhfhdaa.X
open Go.RowKit Go.Proofs.YtljjgcfifhfhdaaW.PrintWords Go.Proofs.YtljjgcfifhfhdaaW.PrintLast Go.Proofs.YtljjgcfifhfhdaaW.PrintMore
attribute [local go_sem] max2_int min2_int max_two min_two max_three min_three max_four min_four   -- for this text's walks alone
set_option linter.unusedVariables false
set_option linter.unusedSimpArgs false

/-! ### dancestudioref14_moment: function 33 -/
mutual
def dancestudioref14_moment.l0 : Nat → List (S45) → Int → Int → Int → Option (Int)
 | 0, _, _, _, _ => none
 | k + 1, x0, x1, x5, x6 => if x6 < (x0.length : Int) then (if 0 ≤ x6 then (dancestudioref14_moment.j1 k x0 x1 x5 x6 (decide (((rd_T45 x0 x6).f0) < x1))) else (none)) else (dancestudioref14_moment.j1 k x0 x1 x5 x6 false)
def dancestudioref14_moment.j1 : Nat → List (S45) → Int → Int → Int → Bool → Option (Int)
 | 0, _, _, _, _, _ => none
 | k + 1, x0, x1, x5, x6, x20 => if x20 = true then (if (wrap64 (x6 + 1)) < (x0.length : Int) then (if 0 ≤ (wrap64 (x6 + 1)) then (if ((rd_T45 x0 (wrap64 (x6 + 1))).f0) < x1 then (if 0 ≤ x6 then (if x6 < (x0.length : Int) then (dancestudioref14_moment.l0 k x0 x1 (wrap64 (x5 + (wrap64 ((wrap64 (((rd_T45 x0 (wrap64 (x6 + 1))).f0) - ((rd_T45 x0 x6).f0))) * ((rd_T45 x0 x6).f1))))) (wrap64 (x6 + 1))) else (none)) else (none)) else (if 0 ≤ x6 then (if x6 < (x0.length : Int) then (dancestudioref14_moment.l0 k x0 x1 (wrap64 (x5 + (wrap64 ((wrap64 (x1 - ((rd_T45 x0 x6).f0))) * ((rd_T45 x0 x6).f1))))) (wrap64 (x6 + 1))) else (none)) else (none))) else (none)) else (if 0 ≤ x6 then (if x6 < (x0.length : Int) then (dancestudioref14_moment.l0 k x0 x1 (wrap64 (x5 + (wrap64 ((wrap64 (x1 - ((rd_T45 x0 x6).f0))) * ((rd_T45 x0 x6).f1))))) (wrap64 (x6 + 1))) else (none)) else (none))) else (some x5)
end
def dancestudioref14_moment.f (k : Nat) (l0 : List (S45)) (a1 : Int) : Option (Int) := dancestudioref14_moment.l0 k l0 a1 0 0
theorem dancestudioref14_moment.mono_l : ∀ k, (∀ y0 y1 y2 y3, LeO (dancestudioref14_moment.l0 k y0 y1 y2 y3) (dancestudioref14_moment.l0 (k + 1) y0 y1 y2 y3)) ∧ (∀ y0 y1 y2 y3 y4, LeO (dancestudioref14_moment.j1 k y0 y1 y2 y3 y4) (dancestudioref14_moment.j1 (k + 1) y0 y1 y2 y3 y4))
 | 0 => ⟨fun _ _ _ _ r h => by simp [dancestudioref14_moment.l0] at h, fun _ _ _ _ _ r h => by simp [dancestudioref14_moment.j1] at h⟩
 | k + 1 => by
  obtain ⟨ih0, ih1⟩ := dancestudioref14_moment.mono_l k
  refine ⟨?_, ?_⟩
  ·
   intro y0 y1 y2 y3
   unfold dancestudioref14_moment.l0
   repeat' first
   | (with_reducible exact ih0 _ _ _ _)
   | (with_reducible exact ih1 _ _ _ _ _)
   | (with_reducible exact LeO.refl _)
   | (with_reducible exact LeO.none _)
   | (with_reducible refine LeO.ite ?_ ?_)
   | (with_reducible refine LeO.bind ?_ (fun _ => ?_))
   | exact ih0 _ _ _ _
   | exact ih1 _ _ _ _ _
   | exact LeO.none _
   | refine LeO.ite ?_ ?_
   | refine LeO.bind ?_ (fun _ => ?_)
  ·
   intro y0 y1 y2 y3 y4
   unfold dancestudioref14_moment.j1
   repeat' first
   | (with_reducible exact ih0 _ _ _ _)
   | (with_reducible exact ih1 _ _ _ _ _)
   | (with_reducible exact LeO.refl _)
   | (with_reducible exact LeO.none _)
   | (with_reducible refine LeO.ite ?_ ?_)
   | (with_reducible refine LeO.bind ?_ (fun _ => ?_))
   | exact ih0 _ _ _ _
   | exact ih1 _ _ _ _ _
   | exact LeO.none _
   | refine LeO.ite ?_ ?_
   | refine LeO.bind ?_ (fun _ => ?_)
theorem dancestudioref14_moment.mono : ∀ a0 a1 k, LeO (dancestudioref14_moment.f k a0 a1) (dancestudioref14_moment.f (k + 1) a0 a1) := by
 intro a0 a1 k
 obtain ⟨ih0, ih1⟩ := dancestudioref14_moment.mono_l k
 unfold dancestudioref14_moment.f
 repeat' first
   | (with_reducible exact ih0 _ _ _ _)
   | (with_reducible exact ih1 _ _ _ _ _)
   | (with_reducible exact LeO.refl _)
   | (with_reducible exact LeO.none _)
   | (with_reducible refine LeO.ite ?_ ?_)
   | (with_reducible refine LeO.bind ?_ (fun _ => ?_))
   | exact ih0 _ _ _ _
   | exact ih1 _ _ _ _ _
   | exact LeO.none _
   | refine LeO.ite ?_ ?_
   | refine LeO.bind ?_ (fun _ => ?_)
set_option maxHeartbeats 8000000 in
set_option maxRecDepth 100000 in
theorem dancestudioref14_moment.calls (k : Nat) (A0 : Option Addr) (c0 : Nat) (l0 : List (S45)) (a1 : Int) (r : Int) (w : World) (hr0 : Kd.C k45 w A0 l0.length l0) (hc0 : l0.length ≤ c0) (h : dancestudioref14_moment.f k l0 a1 = some r) :
  Calls Try.prog 33 #[.slice A0 l0.length c0, .int .i64 a1] w fun e w' => e = .returned (.int .i64 r) ∧ Drawn0 w w' := by
 have HR0 := Aside0.mk hr0
 have HC0 := Aside0.mk hc0
 clear hr0 hc0
 have H : (dancestudioref14_moment.l0 k l0 a1 0 0) = some r := h
 clear h
 have H' := Aside0.mk H
 clear H
 go_enter Try.func33, Try.ntmps33
 go_wp2
 repeat (go_quiet (fail); try go_wp2)
 go_loopg [5, 6] k (fun kq v5 v6 w' => ∃ (x5_1 : Int) (x6_1 : Int), v5 = .int .i64 x5_1 ∧ v6 = .int .i64 x6_1 ∧ Aside0 (dancestudioref14_moment.l0 kq l0 a1 x5_1 x6_1 = some r) ∧ Aside0 (kq ≤ k) ∧ Drawn0 w w')
 case atStart => exact ⟨(0), (0), (by first | rfl | (simp; done) | (simp [*]; done)), (by first | rfl | (simp; done) | (simp [*]; done)), H', ⟨Nat.le_refl _⟩, by repeat (first | exact Drawn0.refl _ | apply Drawn0.step)⟩
 case round =>
  clear H'
  try clear p2
  obtain ⟨x5_1, x6_1, rfl, rfl, HA, HK1, ⟨m1, rfl⟩⟩ := hrel
  cases gk with
  | zero => exact absurd HA.out (by simp [dancestudioref14_moment.l0])
  | succ k1 =>
   have H := HA.out
   clear HA
   simp only [dancestudioref14_moment.l0] at H
   have HC3 := Aside0.mk H
   clear H
   go_upto_region 3 with (fail)
   repeat (go_quiet (fail); go_upto_region 3 with (fail))
   go_cut [20] (fun v20 wc => ∃ (kq : Nat) (x20_2 : Bool), v20 = .bool x20_2 ∧ Aside0 (dancestudioref14_moment.j1 kq l0 a1 x5_1 x6_1 x20_2 = some r) ∧ Aside0 (kq ≤ k1) ∧ Drawn0 w wc)
   case first =>
    have H := HC3.out
    clear HC3
    by_cases c4 : x6_1 < (l0.length : Int)
    ·
     rw [if_pos c4] at H
     have c4b0 : decide (x6_1 < (l0.length : Int)) = true := decide_eq_true c4
     clear c4
     (first | rw [c4b0] | (simp only [i64_w, i32_w]; rw [c4b0]) | skip)
     by_cases c5 : 0 ≤ x6_1
     ·
      rw [if_pos c5] at H
      have c5b0 : decide (0 ≤ x6_1) = true := decide_eq_true c5
      clear c5
      have H' := Aside0.mk H
      clear H
      have p212 : 0 ≤ (x6_1 : Int) := of_decide_eq_true (by first | (with_reducible assumption) | assumption)
      have q212 : x6_1 < (l0.length : Int) := of_decide_eq_true (by first | (with_reducible assumption) | assumption)
      obtain ⟨ad212, e212, hx212_0, hx212_1⟩ := at_T45 HR0.out x6_1 p212 q212
      cases e212
      replace p212 := eq_true p212
      replace q212 := eq_true q212
      go_wp2
      repeat (go_quiet (fail); try go_wp2)
      go_meet
      case rel => exact ⟨_, (decide (((rd_T45 l0 x6_1).f0) < a1)), (by first | rfl | (simp; done) | (simp [*]; done)), H', ⟨by have := HK1.out; first | omega | exact Nat.le_refl _⟩, by repeat (first | exact Drawn0.refl _ | apply Drawn0.step)⟩
     ·
      rw [if_neg c5] at H
      exact absurd H (by simp)
    ·
     rw [if_neg c4] at H
     have c4b0 : decide (x6_1 < (l0.length : Int)) = false := decide_eq_false c4
     clear c4
     (first | rw [c4b0] | (simp only [i64_w, i32_w]; rw [c4b0]) | skip)
     have H' := Aside0.mk H
     clear H
     go_wp2
     repeat (go_quiet (fail); try go_wp2)
     go_meet
     case rel => exact ⟨_, (false), (by first | rfl | (simp; done) | (simp [*]; done)), H', ⟨by have := HK1.out; first | omega | exact Nat.le_refl _⟩, by repeat (first | exact Drawn0.refl _ | apply Drawn0.step)⟩
   case rest =>
    clear HC3
    try clear p2
    try clear q2
    try clear hx2
    try clear c3
    try clear c4
    try clear c4b0
    try clear c5
    try clear c5b0
    try clear hx212_0
    try clear hx212_1
    try clear p2
    try clear p212
    try clear q212
    obtain ⟨kq, x20_2, rfl, HA, HJ2, ⟨mc2, rfl⟩⟩ := hcut
    cases kq with
    | zero => exact absurd HA.out (by simp [dancestudioref14_moment.j1])
    | succ kj2 =>
     have H := HA.out
     clear HA
     simp only [dancestudioref14_moment.j1] at H
     by_cases c6 : x20_2 = true
     ·
      subst c6
      have H1 : (if (wrap64 (x6_1 + 1)) < (l0.length : Int) then (if 0 ≤ (wrap64 (x6_1 + 1)) then (if ((rd_T45 l0 (wrap64 (x6_1 + 1))).f0) < a1 then (if 0 ≤ x6_1 then (if x6_1 < (l0.length : Int) then (dancestudioref14_moment.l0 kj2 l0 a1 (wrap64 (x5_1 + (wrap64 ((wrap64 (((rd_T45 l0 (wrap64 (x6_1 + 1))).f0) - ((rd_T45 l0 x6_1).f0))) * ((rd_T45 l0 x6_1).f1))))) (wrap64 (x6_1 + 1))) else (none)) else (none)) else (if 0 ≤ x6_1 then (if x6_1 < (l0.length : Int) then (dancestudioref14_moment.l0 kj2 l0 a1 (wrap64 (x5_1 + (wrap64 ((wrap64 (a1 - ((rd_T45 l0 x6_1).f0))) * ((rd_T45 l0 x6_1).f1))))) (wrap64 (x6_1 + 1))) else (none)) else (none))) else (none)) else (if 0 ≤ x6_1 then (if x6_1 < (l0.length : Int) then (dancestudioref14_moment.l0 kj2 l0 a1 (wrap64 (x5_1 + (wrap64 ((wrap64 (a1 - ((rd_T45 l0 x6_1).f0))) * ((rd_T45 l0 x6_1).f1))))) (wrap64 (x6_1 + 1))) else (none)) else (none))) = some r := by rw [if_pos rfl] at H; exact H
      clear H
      have H := H1
      clear H1
      by_cases c7 : (wrap64 (x6_1 + 1)) < (l0.length : Int)
      ·
       rw [if_pos c7] at H
       have c7b0 : decide ((wrap64 (x6_1 + 1)) < (l0.length : Int)) = true := decide_eq_true c7
       clear c7
       obtain ⟨ji8, hji8⟩ : ∃ j_ : Int, (wrap64 (x6_1 + 1)) = j_ := ⟨_, rfl⟩
       replace H : (if 0 ≤ (ji8) then (if ((rd_T45 l0 (ji8)).f0) < a1 then (if 0 ≤ x6_1 then (if x6_1 < (l0.length : Int) then (dancestudioref14_moment.l0 kj2 l0 a1 (wrap64 (x5_1 + (wrap64 ((wrap64 (((rd_T45 l0 (ji8)).f0) - ((rd_T45 l0 x6_1).f0))) * ((rd_T45 l0 x6_1).f1))))) ji8) else (none)) else (none)) else (if 0 ≤ x6_1 then (if x6_1 < (l0.length : Int) then (dancestudioref14_moment.l0 kj2 l0 a1 (wrap64 (x5_1 + (wrap64 ((wrap64 (a1 - ((rd_T45 l0 x6_1).f0))) * ((rd_T45 l0 x6_1).f1))))) ji8) else (none)) else (none))) else (none)) = some r := by first | (rw [hji8] at H; exact H) | (simp only [hji8] at H ⊢; exact H)
       (try rw [hji8] at c7b0)
       have hji8w : (IntKind.i64.wrap (x6_1 + 1)) = ji8 := (i64_w _).trans hji8
       by_cases c9 : 0 ≤ (ji8)
       ·
        rw [if_pos c9] at H
        have c9b0 : decide (0 ≤ (ji8)) = true := decide_eq_true c9
        clear c9
        by_cases c10 : ((rd_T45 l0 (ji8)).f0) < a1
        ·
         rw [if_pos c10] at H
         have c10b0 : decide (((rd_T45 l0 (ji8)).f0) < a1) = true := decide_eq_true c10
         clear c10
         by_cases c11 : 0 ≤ x6_1
         ·
          rw [if_pos c11] at H
          have c11b0 : decide (0 ≤ x6_1) = true := decide_eq_true c11
          clear c11
          by_cases c12 : x6_1 < (l0.length : Int)
          ·
           rw [if_pos c12] at H
           have c12b0 : decide (x6_1 < (l0.length : Int)) = true := decide_eq_true c12
           clear c12
           have H' := Aside0.mk H
           clear H
           have p213 : 0 ≤ ((ji8) : Int) := of_decide_eq_true (by first | (with_reducible assumption) | assumption)
           have q213 : (ji8) < (l0.length : Int) := of_decide_eq_true (by first | (with_reducible assumption) | assumption)
           obtain ⟨ad213, e213, hx213_0, hx213_1⟩ := at_T45 HR0.out (ji8) p213 q213
           cases e213
           replace p213 := eq_true p213
           replace q213 := eq_true q213
           have p214 : 0 ≤ ((ji8) : Int) := of_decide_eq_true (by first | (with_reducible assumption) | assumption)
           have q214 : (ji8) < (l0.length : Int) := of_decide_eq_true (by first | (with_reducible assumption) | assumption)
           obtain ⟨ad214, e214, hx214_0, hx214_1⟩ := at_T45 HR0.out (ji8) p214 q214
           obtain rfl : ad213 = ad214 := (by injection e214)
           replace p214 := eq_true p214
           replace q214 := eq_true q214
           have p215 : 0 ≤ (x6_1 : Int) := of_decide_eq_true (by first | (with_reducible assumption) | assumption)
           have q215 : x6_1 < (l0.length : Int) := of_decide_eq_true (by first | (with_reducible assumption) | assumption)
           obtain ⟨ad215, e215, hx215_0, hx215_1⟩ := at_T45 HR0.out x6_1 p215 q215
           obtain rfl : ad213 = ad215 := (by injection e215)
           replace p215 := eq_true p215
           replace q215 := eq_true q215
           have p216 : 0 ≤ (x6_1 : Int) := of_decide_eq_true (by first | (with_reducible assumption) | assumption)
           have q216 : x6_1 < (l0.length : Int) := of_decide_eq_true (by first | (with_reducible assumption) | assumption)
           obtain ⟨ad216, e216, hx216_0, hx216_1⟩ := at_T45 HR0.out x6_1 p216 q216
           obtain rfl : ad213 = ad216 := (by injection e216)
           replace p216 := eq_true p216
           replace q216 := eq_true q216
           go_wp2
           repeat (go_quiet (fail); try go_wp2)
           go_roundg kj2
           case measure => have := HK1.out; have := HJ2.out; omega
           case rel => exact ⟨(wrap64 (x5_1 + (wrap64 ((wrap64 (((rd_T45 l0 (ji8)).f0) - ((rd_T45 l0 x6_1).f0))) * ((rd_T45 l0 x6_1).f1))))), (ji8), (by first | rfl | (simp; done) | (simp only [← hji8] <;> (first | rfl | simp)) | (simp [*]; done)), (by first | rfl | (simp; done) | (simp only [← hji8] <;> (first | rfl | simp)) | (simp [*]; done)), H', ⟨by have := HK1.out; have := HJ2.out; omega⟩, by repeat (first | exact Drawn0.refl _ | apply Drawn0.step)⟩
          ·
           rw [if_neg c12] at H
           exact absurd H (by simp)
         ·
          rw [if_neg c11] at H
          exact absurd H (by simp)
        ·
         rw [if_neg c10] at H
         have c10b0 : decide (((rd_T45 l0 (ji8)).f0) < a1) = false := decide_eq_false c10
         clear c10
         by_cases c13 : 0 ≤ x6_1
         ·
          rw [if_pos c13] at H
          have c13b0 : decide (0 ≤ x6_1) = true := decide_eq_true c13
          clear c13
          by_cases c14 : x6_1 < (l0.length : Int)
          ·
           rw [if_pos c14] at H
           have c14b0 : decide (x6_1 < (l0.length : Int)) = true := decide_eq_true c14
           clear c14
           have H' := Aside0.mk H
           clear H
           have p213 : 0 ≤ ((ji8) : Int) := of_decide_eq_true (by first | (with_reducible assumption) | assumption)
           have q213 : (ji8) < (l0.length : Int) := of_decide_eq_true (by first | (with_reducible assumption) | assumption)
           obtain ⟨ad213, e213, hx213_0, hx213_1⟩ := at_T45 HR0.out (ji8) p213 q213
           cases e213
           replace p213 := eq_true p213
           replace q213 := eq_true q213
           have p217 : 0 ≤ (x6_1 : Int) := of_decide_eq_true (by first | (with_reducible assumption) | assumption)
           have q217 : x6_1 < (l0.length : Int) := of_decide_eq_true (by first | (with_reducible assumption) | assumption)
           obtain ⟨ad217, e217, hx217_0, hx217_1⟩ := at_T45 HR0.out x6_1 p217 q217
           obtain rfl : ad213 = ad217 := (by injection e217)
           replace p217 := eq_true p217
           replace q217 := eq_true q217
           have p218 : 0 ≤ (x6_1 : Int) := of_decide_eq_true (by first | (with_reducible assumption) | assumption)
           have q218 : x6_1 < (l0.length : Int) := of_decide_eq_true (by first | (with_reducible assumption) | assumption)
           obtain ⟨ad218, e218, hx218_0, hx218_1⟩ := at_T45 HR0.out x6_1 p218 q218
           obtain rfl : ad213 = ad218 := (by injection e218)
           replace p218 := eq_true p218
           replace q218 := eq_true q218
           go_wp2
           repeat (go_quiet (fail); try go_wp2)
           go_roundg kj2
           case measure => have := HK1.out; have := HJ2.out; omega
           case rel => exact ⟨(wrap64 (x5_1 + (wrap64 ((wrap64 (a1 - ((rd_T45 l0 x6_1).f0))) * ((rd_T45 l0 x6_1).f1))))), (ji8), (by first | rfl | (simp; done) | (simp [*]; done)), (by first | rfl | (simp; done) | (simp only [← hji8] <;> (first | rfl | simp)) | (simp [*]; done)), H', ⟨by have := HK1.out; have := HJ2.out; omega⟩, by repeat (first | exact Drawn0.refl _ | apply Drawn0.step)⟩
          ·
           rw [if_neg c14] at H
           exact absurd H (by simp)
         ·
          rw [if_neg c13] at H
          exact absurd H (by simp)
       ·
        rw [if_neg c9] at H
        exact absurd H (by simp)
      ·
       rw [if_neg c7] at H
       have c7b0 : decide ((wrap64 (x6_1 + 1)) < (l0.length : Int)) = false := decide_eq_false c7
       clear c7
       by_cases c15 : 0 ≤ x6_1
       ·
        rw [if_pos c15] at H
        have c15b0 : decide (0 ≤ x6_1) = true := decide_eq_true c15
        clear c15
        by_cases c16 : x6_1 < (l0.length : Int)
        ·
         rw [if_pos c16] at H
         have c16b0 : decide (x6_1 < (l0.length : Int)) = true := decide_eq_true c16
         clear c16
         have H' := Aside0.mk H
         clear H
         have p219 : 0 ≤ (x6_1 : Int) := of_decide_eq_true (by first | (with_reducible assumption) | assumption)
         have q219 : x6_1 < (l0.length : Int) := of_decide_eq_true (by first | (with_reducible assumption) | assumption)
         obtain ⟨ad219, e219, hx219_0, hx219_1⟩ := at_T45 HR0.out x6_1 p219 q219
         cases e219
         replace p219 := eq_true p219
         replace q219 := eq_true q219
         have p220 : 0 ≤ (x6_1 : Int) := of_decide_eq_true (by first | (with_reducible assumption) | assumption)
         have q220 : x6_1 < (l0.length : Int) := of_decide_eq_true (by first | (with_reducible assumption) | assumption)
         obtain ⟨ad220, e220, hx220_0, hx220_1⟩ := at_T45 HR0.out x6_1 p220 q220
         obtain rfl : ad219 = ad220 := (by injection e220)
         replace p220 := eq_true p220
         replace q220 := eq_true q220
         go_wp2
         repeat (go_quiet (fail); try go_wp2)
         go_roundg kj2
         case measure => have := HK1.out; have := HJ2.out; omega
         case rel => exact ⟨(wrap64 (x5_1 + (wrap64 ((wrap64 (a1 - ((rd_T45 l0 x6_1).f0))) * ((rd_T45 l0 x6_1).f1))))), (wrap64 (x6_1 + 1)), (by first | rfl | (simp; done) | (simp [*]; done)), (by first | rfl | (simp; done) | (simp [*]; done)), H', ⟨by have := HK1.out; have := HJ2.out; omega⟩, by repeat (first | exact Drawn0.refl _ | apply Drawn0.step)⟩
        ·
         rw [if_neg c16] at H
         exact absurd H (by simp)
       ·
        rw [if_neg c15] at H
        exact absurd H (by simp)
     ·
      replace c6 := Bool.eq_false_iff.mpr c6
      subst c6
      have H1 : (some x5_1) = some r := by rw [if_neg (show ¬ (false = true) by decide)] at H; exact H
      clear H
      have H := H1
      clear H1
      obtain rfl := Option.some.inj H
      go_wp2
      repeat (go_quiet (fail); try go_wp2)
      go_ret
      exact ⟨by first | rfl | (simp; done) | (simp [*]; done), by repeat (first | exact Drawn0.refl _ | apply Drawn0.step)⟩

end Go.Proofs.Ytljjgcfifhfhdaa.X
