import Derived.Test.YtmdmajfgpmopbaaX0
namespace Go.Proofs.Ytmdmajfgpmopbaa.X
open Go.RowKit YtmdmajfgpmopbaaW.PrintWords YtmdmajfgpmopbaaW.PrintLast YtmdmajfgpmopbaaW.PrintMore
attribute [local go_sem] max2_int min2_int max_two min_two max_three min_three max_four min_four
set_option linter.unusedVariables false
set_option linter.unusedSimpArgs false

/-! ### dancestudioref01_Root: function 30 -/
mutual
def dancestudioref01_Root.j0 : Nat → Int → Bool → Option (Int × Int)
 | 0, _, _ => none
 | k + 1, x0, x12 => if x12 = true then (some (0, 1)) else (dancestudioref01_Root.l0 k x0 0 33554432)
def dancestudioref01_Root.l0 : Nat → Int → Int → Int → Option (Int × Int)
 | 0, _, _, _ => none
 | k + 1, x0, x4, x5 => if x4 < x5 then (if (wrap64 ((wrap64 (Int.tdiv (wrap64 ((wrap64 (x4 + x5)) + 1)) 2)) * (wrap64 (Int.tdiv (wrap64 ((wrap64 (x4 + x5)) + 1)) 2)))) ≤ x0 then (dancestudioref01_Root.l0 k x0 (wrap64 (Int.tdiv (wrap64 ((wrap64 (x4 + x5)) + 1)) 2)) x5) else (dancestudioref01_Root.l0 k x0 x4 (wrap64 ((wrap64 (Int.tdiv (wrap64 ((wrap64 (x4 + x5)) + 1)) 2)) - 1)))) else (some (x4, 0))
end
def dancestudioref01_Root.f (k : Nat) (a0 : Int) : Option (Int × Int) := if a0 < 0 then (dancestudioref01_Root.j0 k a0 true) else (dancestudioref01_Root.j0 k a0 (decide (a0 > 1125899906842624)))
theorem dancestudioref01_Root.mono_l : ∀ k, (∀ y0 y1, LeO (dancestudioref01_Root.j0 k y0 y1) (dancestudioref01_Root.j0 (k + 1) y0 y1)) ∧ (∀ y0 y1 y2, LeO (dancestudioref01_Root.l0 k y0 y1 y2) (dancestudioref01_Root.l0 (k + 1) y0 y1 y2))
 | 0 => ⟨fun _ _ r h => by simp [dancestudioref01_Root.j0] at h, fun _ _ _ r h => by simp [dancestudioref01_Root.l0] at h⟩
 | k + 1 => by
  obtain ⟨ih0, ih1⟩ := dancestudioref01_Root.mono_l k
  refine ⟨?_, ?_⟩
  ·
   intro y0 y1
   unfold dancestudioref01_Root.j0
   repeat' first
   | (with_reducible exact ih0 _ _)
   | (with_reducible exact ih1 _ _ _)
   | (with_reducible exact LeO.refl _)
   | (with_reducible exact LeO.none _)
   | (with_reducible refine LeO.ite ?_ ?_)
   | (with_reducible refine LeO.bind ?_ (fun _ => ?_))
   | exact ih0 _ _
   | exact ih1 _ _ _
   | exact LeO.none _
   | refine LeO.ite ?_ ?_
   | refine LeO.bind ?_ (fun _ => ?_)
  ·
   intro y0 y1 y2
   unfold dancestudioref01_Root.l0
   repeat' first
   | (with_reducible exact ih0 _ _)
   | (with_reducible exact ih1 _ _ _)
   | (with_reducible exact LeO.refl _)
   | (with_reducible exact LeO.none _)
   | (with_reducible refine LeO.ite ?_ ?_)
   | (with_reducible refine LeO.bind ?_ (fun _ => ?_))
   | exact ih0 _ _
   | exact ih1 _ _ _
   | exact LeO.none _
   | refine LeO.ite ?_ ?_
   | refine LeO.bind ?_ (fun _ => ?_)
theorem dancestudioref01_Root.mono : ∀ a0 k, LeO (dancestudioref01_Root.f k a0) (dancestudioref01_Root.f (k + 1) a0) := by
 intro a0 k
 obtain ⟨ih0, ih1⟩ := dancestudioref01_Root.mono_l k
 unfold dancestudioref01_Root.f
 repeat' first
   | (with_reducible exact ih0 _ _)
   | (with_reducible exact ih1 _ _ _)
   | (with_reducible exact LeO.refl _)
   | (with_reducible exact LeO.none _)
   | (with_reducible refine LeO.ite ?_ ?_)
   | (with_reducible refine LeO.bind ?_ (fun _ => ?_))
   | exact ih0 _ _
   | exact ih1 _ _ _
   | exact LeO.none _
   | refine LeO.ite ?_ ?_
   | refine LeO.bind ?_ (fun _ => ?_)
set_option maxHeartbeats 8000000 in
set_option maxRecDepth 100000 in
theorem dancestudioref01_Root.calls (k : Nat) (a0 r1 r2 : Int) (w : World) (h : dancestudioref01_Root.f k a0 = some (r1, r2)) :
  Calls Try.prog 30 #[.int .i64 a0] w fun e w' => e = .returned (.tuple #[.int .i64 r1, .int .i64 r2]) ∧ Drawn0 w w' := by
 have H : (if a0 < 0 then (dancestudioref01_Root.j0 k a0 true) else (dancestudioref01_Root.j0 k a0 (decide (a0 > 1125899906842624)))) = some (r1, r2) := h
 clear h
 have HC2 := am H
 clear H
 go_enter Try.func30, Try.ntmps30
 go_upto_region 1 with (fail)
 go_cut [12] (fun v12 wc => ∃ (kq : Nat) (x12_1 : Bool), v12 = .bool x12_1 ∧ Aside0 (dancestudioref01_Root.j0 kq a0 x12_1 = some (r1, r2)) ∧ Aside0 (kq ≤ k) ∧ Drawn0 w wc)
 case first =>
  have H := HC2.out
  clear HC2
  by_cases c3 : a0 < 0
  ·
   rw [if_pos c3] at H
   have c3b0 := decide_eq_true c3
   clear c3
   (first | rw [c3b0] | (simp only [i64_w, i32_w]; rw [c3b0]) | skip)
   have H' := am H
   clear H
   go_wp2
   go_meet
   case rel => exact ⟨_, (true), sz, H', ⟨by first | omega | exact Nat.le_refl _⟩, by repeat (first | exact Drawn0.refl _ | apply Drawn0.step)⟩
  ·
   rw [if_neg c3] at H
   have c3b0 := decide_eq_false c3
   clear c3
   (first | rw [c3b0] | (simp only [i64_w, i32_w]; rw [c3b0]) | skip)
   have H' := am H
   clear H
   go_wp2
   go_meet
   case rel => exact ⟨_, (decide (a0 > 1125899906842624)), sz, H', ⟨by first | omega | exact Nat.le_refl _⟩, by repeat (first | exact Drawn0.refl _ | apply Drawn0.step)⟩
 case rest =>
  clear HC2
  try clear p2
  try clear c3
  try clear c3b0
  obtain ⟨kq, x12_1, rfl, HA, HJ1, ⟨mc1, rfl⟩⟩ := hcut
  cases kq with
  | zero => exact absurd HA.out (by simp [dancestudioref01_Root.j0])
  | succ kj1 =>
   have H := HA.out
   clear HA
   simp only [dancestudioref01_Root.j0] at H
   by_cases c4 : x12_1 = true
   ·
    subst c4
    have H1 : (some (0, 1)) = some (r1, r2) := by rw [if_pos rfl] at H; exact H
    clear H
    have H := H1
    clear H1
    simp only [Option.some.injEq, Prod.mk.injEq] at H
    obtain ⟨rfl, rfl⟩ := H
    go_wp2
    go_ret2
    exact ⟨by first | rfl | (simp; done) | (simp [*]; done), by repeat (first | exact Drawn0.refl _ | apply Drawn0.step)⟩
   ·
    replace c4 := Bool.eq_false_iff.mpr c4
    subst c4
    have H1 : (dancestudioref01_Root.l0 kj1 a0 0 33554432) = some (r1, r2) := by rw [if_neg (show ¬ (false = true) by decide)] at H; exact H
    clear H
    have H := H1
    clear H1
    have H' := am H
    clear H
    go_wp2
    go_loopg [4, 5] kj1 (fun kq v4 v5 w' => ∃ (x4_2 x5_2 : Int), v4 = .int .i64 x4_2 ∧ v5 = .int .i64 x5_2 ∧ Aside0 (dancestudioref01_Root.l0 kq a0 x4_2 x5_2 = some (r1, r2)) ∧ Aside0 (kq ≤ kj1) ∧ Drawn0 w w')
    case atStart => exact ⟨(0), (33554432), sz, sz, H', ⟨Nat.le_refl _⟩, by repeat (first | exact Drawn0.refl _ | apply Drawn0.step)⟩
    case round =>
     clear H'
     try clear c1
     try clear p2
     try clear c3
     try clear c3b0
     try clear c4
     try clear p2
     obtain ⟨x4_2, x5_2, rfl, rfl, HA, HK2, ⟨m2, rfl⟩⟩ := hrel
     cases gk with
     | zero => exact absurd HA.out (by simp [dancestudioref01_Root.l0])
     | succ k2 =>
      have H := HA.out
      clear HA
      simp only [dancestudioref01_Root.l0] at H
      by_cases c5 : x4_2 < x5_2
      ·
       rw [if_pos c5] at H
       have c5b0 := decide_eq_true c5
       clear c5
       by_cases c6 : (wrap64 ((wrap64 (Int.tdiv (wrap64 ((wrap64 (x4_2 + x5_2)) + 1)) 2)) * (wrap64 (Int.tdiv (wrap64 ((wrap64 (x4_2 + x5_2)) + 1)) 2)))) ≤ a0
       ·
        rw [if_pos c6] at H
        have c6b0 := decide_eq_true c6
        clear c6
        have H' := am H
        clear H
        go_wp2
        go_roundg k2
        case measure => have := HJ1.out; have := HK2.out; omega
        case rel => exact ⟨(wrap64 (Int.tdiv (wrap64 ((wrap64 (x4_2 + x5_2)) + 1)) 2)), (x5_2), sz, sz, H', ⟨by have := HJ1.out; have := HK2.out; omega⟩, by repeat (first | exact Drawn0.refl _ | apply Drawn0.step)⟩
       ·
        rw [if_neg c6] at H
        have c6b0 := decide_eq_false c6
        clear c6
        have H' := am H
        clear H
        go_wp2
        go_roundg k2
        case measure => have := HJ1.out; have := HK2.out; omega
        case rel => exact ⟨(x4_2), (wrap64 ((wrap64 (Int.tdiv (wrap64 ((wrap64 (x4_2 + x5_2)) + 1)) 2)) - 1)), sz, sz, H', ⟨by have := HJ1.out; have := HK2.out; omega⟩, by repeat (first | exact Drawn0.refl _ | apply Drawn0.step)⟩
      ·
       rw [if_neg c5] at H
       have c5b0 := decide_eq_false c5
       clear c5
       simp only [Option.some.injEq, Prod.mk.injEq] at H
       obtain ⟨rfl, rfl⟩ := H
       go_wp2
       go_ret2
       exact ⟨by first | rfl | (simp; done) | (simp [*]; done), by repeat (first | exact Drawn0.refl _ | apply Drawn0.step)⟩

end Go.Proofs.Ytmdmajfgpmopbaa.X
