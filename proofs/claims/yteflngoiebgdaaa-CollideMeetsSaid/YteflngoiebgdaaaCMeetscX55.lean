import Derived.Test.YteflngoiebgdaaaX0
import Derived.Test.YteflngoiebgdaaaCMeets47
import Derived.Test.YteflngoiebgdaaaCMeets48
namespace Go.Proofs.Yteflngoiebgdaaa.X
open Go.RowKit YteflngoiebgdaaaW.PrintWords YteflngoiebgdaaaW.PrintLast YteflngoiebgdaaaW.PrintMore
attribute [local go_sem] max2_int min2_int max_two min_two max_three min_three max_four min_four
set_option linter.unusedVariables false
set_option linter.unusedSimpArgs false

/-! ### dancestudioref01_Compare: function 71 -/
def dancestudioref01_Compare.j0 : Nat → Int → Int → Int → Int → Bool → Option (Int × Int)
 | 0, _, _, _, _, _ => none
 | k + 1, x0, x1, x2, x3, x30 => if x30 = true then (some (0, 1)) else ((dancestudioref01_sign.f x0 x1).bind fun t455 => ((dancestudioref01_sign.f x2 x3).bind fun t456 => (if t455 = t456 then ((dancestudioref01_size.f x0).bind fun t459 => ((dancestudioref01_size.f x1).bind fun t460 => ((dancestudioref01_wide.f t459 t460).bind fun bt461 => ((dancestudioref01_size.f x2).bind fun t464 => ((dancestudioref01_size.f x3).bind fun t465 => ((dancestudioref01_wide.f t464 t465).bind fun bt466 => (if bt461.1 = bt466.1 then (if bt461.2.1 = bt466.2.1 then ((dancestudioref01_order.f bt461.2.2 bt466.2.2).bind fun t472 => (some (wrap64 (t455 * t472), 0))) else ((dancestudioref01_order.f bt461.2.1 bt466.2.1).bind fun t473 => (some (wrap64 (t455 * t473), 0)))) else ((dancestudioref01_order.f bt461.1 bt466.1).bind fun t471 => (some (wrap64 (t455 * t471), 0)))))))))) else ((dancestudioref01_sign.f x2 x3).bind fun t457 => ((dancestudioref01_order.f t455 t457).bind fun t458 => (some (t458, 0)))))))
def dancestudioref01_Compare.f (k : Nat) (a0 a1 a2 a3 : Int) : Option (Int × Int) := (dancestudioref01_Small.f a0).bind fun t451 => (if t451 = true then ((dancestudioref01_Small.f a1).bind fun t452 => (if t452 = true then ((dancestudioref01_Small.f a2).bind fun t453 => (if t453 = true then ((dancestudioref01_Small.f a3).bind fun t454 => (dancestudioref01_Compare.j0 k a0 a1 a2 a3 (!t454))) else (dancestudioref01_Compare.j0 k a0 a1 a2 a3 true))) else (dancestudioref01_Compare.j0 k a0 a1 a2 a3 true))) else (dancestudioref01_Compare.j0 k a0 a1 a2 a3 true))
theorem dancestudioref01_Compare.mono_l : ∀ k, (∀ y0 y1 y2 y3 y4, LeO (dancestudioref01_Compare.j0 k y0 y1 y2 y3 y4) (dancestudioref01_Compare.j0 (k + 1) y0 y1 y2 y3 y4))
 | 0 => fun _ _ _ _ _ r h => by simp [dancestudioref01_Compare.j0] at h
 | k + 1 => by
  have ih0 := dancestudioref01_Compare.mono_l k
  ·
   intro y0 y1 y2 y3 y4
   unfold dancestudioref01_Compare.j0
   repeat' first
   | (with_reducible exact ih0 _ _ _ _ _)
   | (with_reducible exact LeO.refl _)
   | (with_reducible exact LeO.none _)
   | (with_reducible refine LeO.ite ?_ ?_)
   | (with_reducible refine LeO.bind ?_ (fun _ => ?_))
   | exact ih0 _ _ _ _ _
   | exact LeO.none _
   | refine LeO.ite ?_ ?_
   | refine LeO.bind ?_ (fun _ => ?_)
theorem dancestudioref01_Compare.mono : ∀ a0 a1 a2 a3 k, LeO (dancestudioref01_Compare.f k a0 a1 a2 a3) (dancestudioref01_Compare.f (k + 1) a0 a1 a2 a3) := by
 intro a0 a1 a2 a3 k
 have ih0 := dancestudioref01_Compare.mono_l k
 unfold dancestudioref01_Compare.f
 repeat' first
   | (with_reducible exact ih0 _ _ _ _ _)
   | (with_reducible exact LeO.refl _)
   | (with_reducible exact LeO.none _)
   | (with_reducible refine LeO.ite ?_ ?_)
   | (with_reducible refine LeO.bind ?_ (fun _ => ?_))
   | exact ih0 _ _ _ _ _
   | exact LeO.none _
   | refine LeO.ite ?_ ?_
   | refine LeO.bind ?_ (fun _ => ?_)
set_option maxHeartbeats 8000000 in
set_option maxRecDepth 100000 in
theorem dancestudioref01_Compare.calls (k : Nat) (a0 a1 a2 a3 r1 r2 : Int) (w : World) (h : dancestudioref01_Compare.f k a0 a1 a2 a3 = some (r1, r2)) :
  Calls Try.prog 71 #[.int .i64 a0, .int .i64 a1, .int .i64 a2, .int .i64 a3] w fun e w' => e = .returned (.tuple #[.int .i64 r1, .int .i64 r2]) ∧ Below w.heap.size w w' := by
 have hu107 := Try.underlying107
 have HB := am (Below.refl w.heap.size w)
 have H : ((dancestudioref01_Small.f a0).bind fun t451 => (if t451 = true then ((dancestudioref01_Small.f a1).bind fun t452 => (if t452 = true then ((dancestudioref01_Small.f a2).bind fun t453 => (if t453 = true then ((dancestudioref01_Small.f a3).bind fun t454 => (dancestudioref01_Compare.j0 k a0 a1 a2 a3 (!t454))) else (dancestudioref01_Compare.j0 k a0 a1 a2 a3 true))) else (dancestudioref01_Compare.j0 k a0 a1 a2 a3 true))) else (dancestudioref01_Compare.j0 k a0 a1 a2 a3 true))) = some (r1, r2) := h
 clear h
 have HC5 := am H
 clear H
 go_enter Try.func71, Try.ntmps71
 go_upto_region 1 with (fail)
 go_cut [30] (fun v30 wc => ∃ (kq : Nat) (x30_4 : Bool), v30 = .bool x30_4 ∧ Aside0 (dancestudioref01_Compare.j0 kq a0 a1 a2 a3 x30_4 = some (r1, r2)) ∧ Aside0 (kq ≤ k) ∧ Aside0 (Below w.heap.size w wc))
 case first =>
  have H := HC5.out
  clear HC5
  replace H := Option.bind_eq_some_iff.mp H
  obtain ⟨t451, A60, H⟩ := H
  replace H : (if t451 = true then ((dancestudioref01_Small.f a1).bind fun t452 => (if t452 = true then ((dancestudioref01_Small.f a2).bind fun t453 => (if t453 = true then ((dancestudioref01_Small.f a3).bind fun t454 => (dancestudioref01_Compare.j0 k a0 a1 a2 a3 (!t454))) else (dancestudioref01_Compare.j0 k a0 a1 a2 a3 true))) else (dancestudioref01_Compare.j0 k a0 a1 a2 a3 true))) else (dancestudioref01_Compare.j0 k a0 a1 a2 a3 true)) = some (r1, r2) := H
  have A6 := am A60
  clear A60
  by_cases c7 : t451 = true
  ·
   subst c7
   have H1 : ((dancestudioref01_Small.f a1).bind fun t452 => (if t452 = true then ((dancestudioref01_Small.f a2).bind fun t453 => (if t453 = true then ((dancestudioref01_Small.f a3).bind fun t454 => (dancestudioref01_Compare.j0 k a0 a1 a2 a3 (!t454))) else (dancestudioref01_Compare.j0 k a0 a1 a2 a3 true))) else (dancestudioref01_Compare.j0 k a0 a1 a2 a3 true))) = some (r1, r2) := by rw [if_pos rfl] at H; exact H
   clear H
   have H := H1
   clear H1
   replace H := Option.bind_eq_some_iff.mp H
   obtain ⟨t452, A80, H⟩ := H
   replace H : (if t452 = true then ((dancestudioref01_Small.f a2).bind fun t453 => (if t453 = true then ((dancestudioref01_Small.f a3).bind fun t454 => (dancestudioref01_Compare.j0 k a0 a1 a2 a3 (!t454))) else (dancestudioref01_Compare.j0 k a0 a1 a2 a3 true))) else (dancestudioref01_Compare.j0 k a0 a1 a2 a3 true)) = some (r1, r2) := H
   have A8 := am A80
   clear A80
   by_cases c9 : t452 = true
   ·
    subst c9
    have H1 : ((dancestudioref01_Small.f a2).bind fun t453 => (if t453 = true then ((dancestudioref01_Small.f a3).bind fun t454 => (dancestudioref01_Compare.j0 k a0 a1 a2 a3 (!t454))) else (dancestudioref01_Compare.j0 k a0 a1 a2 a3 true))) = some (r1, r2) := by rw [if_pos rfl] at H; exact H
    clear H
    have H := H1
    clear H1
    replace H := Option.bind_eq_some_iff.mp H
    obtain ⟨t453, A100, H⟩ := H
    replace H : (if t453 = true then ((dancestudioref01_Small.f a3).bind fun t454 => (dancestudioref01_Compare.j0 k a0 a1 a2 a3 (!t454))) else (dancestudioref01_Compare.j0 k a0 a1 a2 a3 true)) = some (r1, r2) := H
    have A10 := am A100
    clear A100
    by_cases c11 : t453 = true
    ·
     subst c11
     have H1 : ((dancestudioref01_Small.f a3).bind fun t454 => (dancestudioref01_Compare.j0 k a0 a1 a2 a3 (!t454))) = some (r1, r2) := by rw [if_pos rfl] at H; exact H
     clear H
     have H := H1
     clear H1
     replace H := Option.bind_eq_some_iff.mp H
     obtain ⟨t454, A120, H⟩ := H
     replace H : (dancestudioref01_Compare.j0 k a0 a1 a2 a3 (!t454)) = some (r1, r2) := H
     have A12 := am A120
     clear A120
     have H' := am H
     clear H
     go_wp2_with (first | ((with_reducible refine gate_callee (f := 80) rfl ?_); refine goesL_ (some 14) rfl rfl Try.func80 qz rfl #[.int .i64 a0] rfl mz ?_; (with_reducible refine (dancestudioref01_Small.calls a0 true _ A6.out).mono ?_); rintro e w' ⟨rfl, ⟨nd, rfl⟩⟩; refine ⟨_, rfl, ?_⟩) | (go_at_call 80; (with_reducible refine (dancestudioref01_Small.calls a1 true _ A8.out).mono ?_); rintro e w' ⟨rfl, ⟨nd, rfl⟩⟩) | (go_at_call 80; (with_reducible refine (dancestudioref01_Small.calls a2 true _ A10.out).mono ?_); rintro e w' ⟨rfl, ⟨nd, rfl⟩⟩) | (go_at_call 80; (with_reducible refine (dancestudioref01_Small.calls a3 t454 _ A12.out).mono ?_); rintro e w' ⟨rfl, ⟨nd, rfl⟩⟩))
     go_meet
     case rel => exact ⟨_, (!t454), sz, H', ⟨by first | omega | exact Nat.le_refl _⟩, ⟨bz⟩⟩
    ·
     replace c11 := Bool.eq_false_iff.mpr c11
     subst c11
     have H1 : (dancestudioref01_Compare.j0 k a0 a1 a2 a3 true) = some (r1, r2) := by rw [if_neg (show ¬ (false = true) by decide)] at H; exact H
     clear H
     have H := H1
     clear H1
     have H' := am H
     clear H
     go_wp2_with (first | ((with_reducible refine gate_callee (f := 80) rfl ?_); refine goesL_ (some 14) rfl rfl Try.func80 qz rfl #[.int .i64 a0] rfl mz ?_; (with_reducible refine (dancestudioref01_Small.calls a0 true _ A6.out).mono ?_); rintro e w' ⟨rfl, ⟨nd, rfl⟩⟩; refine ⟨_, rfl, ?_⟩) | (go_at_call 80; (with_reducible refine (dancestudioref01_Small.calls a1 true _ A8.out).mono ?_); rintro e w' ⟨rfl, ⟨nd, rfl⟩⟩) | (go_at_call 80; (with_reducible refine (dancestudioref01_Small.calls a2 false _ A10.out).mono ?_); rintro e w' ⟨rfl, ⟨nd, rfl⟩⟩))
     go_meet
     case rel => exact ⟨_, (true), sz, H', ⟨by first | omega | exact Nat.le_refl _⟩, ⟨bz⟩⟩
   ·
    replace c9 := Bool.eq_false_iff.mpr c9
    subst c9
    have H1 : (dancestudioref01_Compare.j0 k a0 a1 a2 a3 true) = some (r1, r2) := by rw [if_neg (show ¬ (false = true) by decide)] at H; exact H
    clear H
    have H := H1
    clear H1
    have H' := am H
    clear H
    go_wp2_with (first | ((with_reducible refine gate_callee (f := 80) rfl ?_); refine goesL_ (some 14) rfl rfl Try.func80 qz rfl #[.int .i64 a0] rfl mz ?_; (with_reducible refine (dancestudioref01_Small.calls a0 true _ A6.out).mono ?_); rintro e w' ⟨rfl, ⟨nd, rfl⟩⟩; refine ⟨_, rfl, ?_⟩) | (go_at_call 80; (with_reducible refine (dancestudioref01_Small.calls a1 false _ A8.out).mono ?_); rintro e w' ⟨rfl, ⟨nd, rfl⟩⟩))
    go_meet
    case rel => exact ⟨_, (true), sz, H', ⟨by first | omega | exact Nat.le_refl _⟩, ⟨bz⟩⟩
  ·
   replace c7 := Bool.eq_false_iff.mpr c7
   subst c7
   have H1 : (dancestudioref01_Compare.j0 k a0 a1 a2 a3 true) = some (r1, r2) := by rw [if_neg (show ¬ (false = true) by decide)] at H; exact H
   clear H
   have H := H1
   clear H1
   have H' := am H
   clear H
   go_wp2_with (first | ((with_reducible refine gate_callee (f := 80) rfl ?_); refine goesL_ (some 14) rfl rfl Try.func80 qz rfl #[.int .i64 a0] rfl mz ?_; (with_reducible refine (dancestudioref01_Small.calls a0 false _ A6.out).mono ?_); rintro e w' ⟨rfl, ⟨nd, rfl⟩⟩; refine ⟨_, rfl, ?_⟩))
   go_meet
   case rel => exact ⟨_, (true), sz, H', ⟨by first | omega | exact Nat.le_refl _⟩, ⟨bz⟩⟩
 case rest =>
  clear HC5
  try clear c1
  try clear p2
  try clear c7
  try clear c8
  try clear c9
  try clear c11
  obtain ⟨kq, x30_4, rfl, HA, HJ4, HB⟩ := hcut
  cases kq with
  | zero => exact absurd HA.out (by simp [dancestudioref01_Compare.j0])
  | succ kj4 =>
   have H := HA.out
   clear HA
   simp only [dancestudioref01_Compare.j0] at H
   by_cases c13 : x30_4 = true
   ·
    subst c13
    have H1 : (some (0, 1)) = some (r1, r2) := by rw [if_pos rfl] at H; exact H
    clear H
    have H := H1
    clear H1
    simp only [Option.some.injEq, Prod.mk.injEq] at H
    obtain ⟨rfl, rfl⟩ := H
    go_wp2
    go_ret2
    exact ⟨ez, bz⟩
   ·
    replace c13 := Bool.eq_false_iff.mpr c13
    subst c13
    have H1 : ((dancestudioref01_sign.f a0 a1).bind fun t455 => ((dancestudioref01_sign.f a2 a3).bind fun t456 => (if t455 = t456 then ((dancestudioref01_size.f a0).bind fun t459 => ((dancestudioref01_size.f a1).bind fun t460 => ((dancestudioref01_wide.f t459 t460).bind fun bt461 => ((dancestudioref01_size.f a2).bind fun t464 => ((dancestudioref01_size.f a3).bind fun t465 => ((dancestudioref01_wide.f t464 t465).bind fun bt466 => (if bt461.1 = bt466.1 then (if bt461.2.1 = bt466.2.1 then ((dancestudioref01_order.f bt461.2.2 bt466.2.2).bind fun t472 => (some (wrap64 (t455 * t472), 0))) else ((dancestudioref01_order.f bt461.2.1 bt466.2.1).bind fun t473 => (some (wrap64 (t455 * t473), 0)))) else ((dancestudioref01_order.f bt461.1 bt466.1).bind fun t471 => (some (wrap64 (t455 * t471), 0)))))))))) else ((dancestudioref01_sign.f a2 a3).bind fun t457 => ((dancestudioref01_order.f t455 t457).bind fun t458 => (some (t458, 0))))))) = some (r1, r2) := by rw [if_neg (show ¬ (false = true) by decide)] at H; exact H
    clear H
    have H := H1
    clear H1
    replace H := Option.bind_eq_some_iff.mp H
    obtain ⟨t455, A140, H⟩ := H
    replace H : ((dancestudioref01_sign.f a2 a3).bind fun t456 => (if t455 = t456 then ((dancestudioref01_size.f a0).bind fun t459 => ((dancestudioref01_size.f a1).bind fun t460 => ((dancestudioref01_wide.f t459 t460).bind fun bt461 => ((dancestudioref01_size.f a2).bind fun t464 => ((dancestudioref01_size.f a3).bind fun t465 => ((dancestudioref01_wide.f t464 t465).bind fun bt466 => (if bt461.1 = bt466.1 then (if bt461.2.1 = bt466.2.1 then ((dancestudioref01_order.f bt461.2.2 bt466.2.2).bind fun t472 => (some (wrap64 (t455 * t472), 0))) else ((dancestudioref01_order.f bt461.2.1 bt466.2.1).bind fun t473 => (some (wrap64 (t455 * t473), 0)))) else ((dancestudioref01_order.f bt461.1 bt466.1).bind fun t471 => (some (wrap64 (t455 * t471), 0)))))))))) else ((dancestudioref01_sign.f a2 a3).bind fun t457 => ((dancestudioref01_order.f t455 t457).bind fun t458 => (some (t458, 0)))))) = some (r1, r2) := H
    have A14 := am A140
    clear A140
    replace H := Option.bind_eq_some_iff.mp H
    obtain ⟨t456, A150, H⟩ := H
    replace H : (if t455 = t456 then ((dancestudioref01_size.f a0).bind fun t459 => ((dancestudioref01_size.f a1).bind fun t460 => ((dancestudioref01_wide.f t459 t460).bind fun bt461 => ((dancestudioref01_size.f a2).bind fun t464 => ((dancestudioref01_size.f a3).bind fun t465 => ((dancestudioref01_wide.f t464 t465).bind fun bt466 => (if bt461.1 = bt466.1 then (if bt461.2.1 = bt466.2.1 then ((dancestudioref01_order.f bt461.2.2 bt466.2.2).bind fun t472 => (some (wrap64 (t455 * t472), 0))) else ((dancestudioref01_order.f bt461.2.1 bt466.2.1).bind fun t473 => (some (wrap64 (t455 * t473), 0)))) else ((dancestudioref01_order.f bt461.1 bt466.1).bind fun t471 => (some (wrap64 (t455 * t471), 0)))))))))) else ((dancestudioref01_sign.f a2 a3).bind fun t457 => ((dancestudioref01_order.f t455 t457).bind fun t458 => (some (t458, 0))))) = some (r1, r2) := H
    have A15 := am A150
    clear A150
    by_cases c16 : t455 = t456
    ·
     rw [if_pos c16] at H
     have c16b0 : (t455 == t456) = true := beq_iff_eq.mpr c16
     have c16b1 : (t455 != t456) = false := bne_eq_false_iff_eq.mpr c16
     clear c16
     replace H := Option.bind_eq_some_iff.mp H
     obtain ⟨t459, A170, H⟩ := H
     replace H : ((dancestudioref01_size.f a1).bind fun t460 => ((dancestudioref01_wide.f t459 t460).bind fun bt461 => ((dancestudioref01_size.f a2).bind fun t464 => ((dancestudioref01_size.f a3).bind fun t465 => ((dancestudioref01_wide.f t464 t465).bind fun bt466 => (if bt461.1 = bt466.1 then (if bt461.2.1 = bt466.2.1 then ((dancestudioref01_order.f bt461.2.2 bt466.2.2).bind fun t472 => (some (wrap64 (t455 * t472), 0))) else ((dancestudioref01_order.f bt461.2.1 bt466.2.1).bind fun t473 => (some (wrap64 (t455 * t473), 0)))) else ((dancestudioref01_order.f bt461.1 bt466.1).bind fun t471 => (some (wrap64 (t455 * t471), 0))))))))) = some (r1, r2) := H
     have A17 := am A170
     clear A170
     replace H := Option.bind_eq_some_iff.mp H
     obtain ⟨t460, A180, H⟩ := H
     replace H : ((dancestudioref01_wide.f t459 t460).bind fun bt461 => ((dancestudioref01_size.f a2).bind fun t464 => ((dancestudioref01_size.f a3).bind fun t465 => ((dancestudioref01_wide.f t464 t465).bind fun bt466 => (if bt461.1 = bt466.1 then (if bt461.2.1 = bt466.2.1 then ((dancestudioref01_order.f bt461.2.2 bt466.2.2).bind fun t472 => (some (wrap64 (t455 * t472), 0))) else ((dancestudioref01_order.f bt461.2.1 bt466.2.1).bind fun t473 => (some (wrap64 (t455 * t473), 0)))) else ((dancestudioref01_order.f bt461.1 bt466.1).bind fun t471 => (some (wrap64 (t455 * t471), 0)))))))) = some (r1, r2) := H
     have A18 := am A180
     clear A180
     replace H := Option.bind_eq_some_iff.mp H
     obtain ⟨⟨t461, t462, t463⟩, A190, H⟩ := H
     replace H : ((dancestudioref01_size.f a2).bind fun t464 => ((dancestudioref01_size.f a3).bind fun t465 => ((dancestudioref01_wide.f t464 t465).bind fun bt466 => (if t461 = bt466.1 then (if t462 = bt466.2.1 then ((dancestudioref01_order.f t463 bt466.2.2).bind fun t472 => (some (wrap64 (t455 * t472), 0))) else ((dancestudioref01_order.f t462 bt466.2.1).bind fun t473 => (some (wrap64 (t455 * t473), 0)))) else ((dancestudioref01_order.f t461 bt466.1).bind fun t471 => (some (wrap64 (t455 * t471), 0))))))) = some (r1, r2) := H
     have A19 := am A190
     clear A190
     replace H := Option.bind_eq_some_iff.mp H
     obtain ⟨t464, A200, H⟩ := H
     replace H : ((dancestudioref01_size.f a3).bind fun t465 => ((dancestudioref01_wide.f t464 t465).bind fun bt466 => (if t461 = bt466.1 then (if t462 = bt466.2.1 then ((dancestudioref01_order.f t463 bt466.2.2).bind fun t472 => (some (wrap64 (t455 * t472), 0))) else ((dancestudioref01_order.f t462 bt466.2.1).bind fun t473 => (some (wrap64 (t455 * t473), 0)))) else ((dancestudioref01_order.f t461 bt466.1).bind fun t471 => (some (wrap64 (t455 * t471), 0)))))) = some (r1, r2) := H
     have A20 := am A200
     clear A200
     replace H := Option.bind_eq_some_iff.mp H
     obtain ⟨t465, A210, H⟩ := H
     replace H : ((dancestudioref01_wide.f t464 t465).bind fun bt466 => (if t461 = bt466.1 then (if t462 = bt466.2.1 then ((dancestudioref01_order.f t463 bt466.2.2).bind fun t472 => (some (wrap64 (t455 * t472), 0))) else ((dancestudioref01_order.f t462 bt466.2.1).bind fun t473 => (some (wrap64 (t455 * t473), 0)))) else ((dancestudioref01_order.f t461 bt466.1).bind fun t471 => (some (wrap64 (t455 * t471), 0))))) = some (r1, r2) := H
     have A21 := am A210
     clear A210
     replace H := Option.bind_eq_some_iff.mp H
     obtain ⟨⟨t466, t467, t468⟩, A220, H⟩ := H
     replace H : (if t461 = t466 then (if t462 = t467 then ((dancestudioref01_order.f t463 t468).bind fun t472 => (some (wrap64 (t455 * t472), 0))) else ((dancestudioref01_order.f t462 t467).bind fun t473 => (some (wrap64 (t455 * t473), 0)))) else ((dancestudioref01_order.f t461 t466).bind fun t471 => (some (wrap64 (t455 * t471), 0)))) = some (r1, r2) := H
     have A22 := am A220
     clear A220
     by_cases c23 : t461 = t466
     ·
      rw [if_pos c23] at H
      have c23b0 : (t461 == t466) = true := beq_iff_eq.mpr c23
      have c23b1 : (t461 != t466) = false := bne_eq_false_iff_eq.mpr c23
      clear c23
      by_cases c24 : t462 = t467
      ·
       rw [if_pos c24] at H
       have c24b0 : (t462 == t467) = true := beq_iff_eq.mpr c24
       have c24b1 : (t462 != t467) = false := bne_eq_false_iff_eq.mpr c24
       clear c24
       replace H := Option.bind_eq_some_iff.mp H
       obtain ⟨t472, A250, H⟩ := H
       replace H : (some (wrap64 (t455 * t472), 0)) = some (r1, r2) := H
       have A25 := am A250
       clear A250
       simp only [Option.some.injEq, Prod.mk.injEq] at H
       obtain ⟨rfl, rfl⟩ := H
       go_wp2_with (first | ((with_reducible refine gate_callee (f := 81) rfl ?_); refine goesL_ (some 33) rfl rfl Try.func81 qz rfl #[.int .i64 a0, .int .i64 a1] rfl mz ?_; (with_reducible refine (dancestudioref01_sign.calls a0 a1 t455 _ A14.out).mono ?_); rintro e w' ⟨rfl, ⟨nd, rfl⟩⟩; refine ⟨_, rfl, ?_⟩; (try (rw [drewN_self wc]; (repeat rw [World.drewN_drewN]); generalize hq_ : World.drewN wc _ = wc; have n0_ : Aside0 (Below w.heap.size w wc) := ⟨by rw [← hq_]; exact bz⟩; clear HB hq_; have HB := n0_; clear n0_))) | ((with_reducible refine gate_callee (f := 81) rfl ?_); refine goesL_ (some 37) rfl rfl Try.func81 qz rfl #[.int .i64 a2, .int .i64 a3] rfl mz ?_; (with_reducible refine (dancestudioref01_sign.calls a2 a3 t456 _ A15.out).mono ?_); rintro e w' ⟨rfl, ⟨nd, rfl⟩⟩; refine ⟨_, rfl, ?_⟩; (try (rw [drewN_self wc]; (repeat rw [World.drewN_drewN]); generalize hq_ : World.drewN wc _ = wc; have n0_ : Aside0 (Below w.heap.size w wc) := ⟨by rw [← hq_]; exact bz⟩; clear HB hq_; have HB := n0_; clear n0_))) | ((with_reducible refine gate_callee (f := 84) rfl ?_); refine goesL_ (some 45) rfl rfl Try.func84 qz rfl #[.int .i64 a0] rfl mz ?_; (with_reducible refine (dancestudioref01_size.calls a0 t459 _ A17.out).mono ?_); rintro e w' ⟨rfl, ⟨nd, rfl⟩⟩; refine ⟨_, rfl, ?_⟩; (try (rw [drewN_self wc]; (repeat rw [World.drewN_drewN]); generalize hq_ : World.drewN wc _ = wc; have n0_ : Aside0 (Below w.heap.size w wc) := ⟨by rw [← hq_]; exact bz⟩; clear HB hq_; have HB := n0_; clear n0_))) | ((with_reducible refine gate_callee (f := 84) rfl ?_); refine goesL_ (some 47) rfl rfl Try.func84 qz rfl #[.int .i64 a1] rfl mz ?_; (with_reducible refine (dancestudioref01_size.calls a1 t460 _ A18.out).mono ?_); rintro e w' ⟨rfl, ⟨nd, rfl⟩⟩; refine ⟨_, rfl, ?_⟩; (try (rw [drewN_self wc]; (repeat rw [World.drewN_drewN]); generalize hq_ : World.drewN wc _ = wc; have n0_ : Aside0 (Below w.heap.size w wc) := ⟨by rw [← hq_]; exact bz⟩; clear HB hq_; have HB := n0_; clear n0_))) | ((with_reducible refine gate_callee (f := 83) rfl ?_); refine goesL_ (some 48) rfl rfl Try.func83 qz rfl #[.int .i64 t459, .int .i64 t460] rfl mz ?_; (with_reducible refine (dancestudioref01_wide.calls t459 t460 t461 t462 t463 _ A19.out).mono ?_); rintro e w26 ⟨rfl, hb⟩; refine ⟨_, rfl, ?_⟩; replace HB := am (below_step bz hb); (try clear hb); (try clear hb2); (try clear hk); (try clear hi)) | ((with_reducible refine gate_callee (f := 84) rfl ?_); refine goesL_ (some 50) rfl rfl Try.func84 qz rfl #[.int .i64 a2] rfl mz ?_; (with_reducible refine (dancestudioref01_size.calls a2 t464 _ A20.out).mono ?_); rintro e w' ⟨rfl, ⟨nd, rfl⟩⟩; refine ⟨_, rfl, ?_⟩; (try (rw [drewN_self w26]; (repeat rw [World.drewN_drewN]); generalize hq_ : World.drewN w26 _ = w26; have n0_ : Aside0 (Below w.heap.size w w26) := ⟨by rw [← hq_]; exact bz⟩; clear HB hq_; have HB := n0_; clear n0_))) | ((with_reducible refine gate_callee (f := 84) rfl ?_); refine goesL_ (some 52) rfl rfl Try.func84 qz rfl #[.int .i64 a3] rfl mz ?_; (with_reducible refine (dancestudioref01_size.calls a3 t465 _ A21.out).mono ?_); rintro e w' ⟨rfl, ⟨nd, rfl⟩⟩; refine ⟨_, rfl, ?_⟩; (try (rw [drewN_self w26]; (repeat rw [World.drewN_drewN]); generalize hq_ : World.drewN w26 _ = w26; have n0_ : Aside0 (Below w.heap.size w w26) := ⟨by rw [← hq_]; exact bz⟩; clear HB hq_; have HB := n0_; clear n0_))) | ((with_reducible refine gate_callee (f := 83) rfl ?_); refine goesL_ (some 53) rfl rfl Try.func83 qz rfl #[.int .i64 t464, .int .i64 t465] rfl mz ?_; (with_reducible refine (dancestudioref01_wide.calls t464 t465 t466 t467 t468 _ A22.out).mono ?_); rintro e w27 ⟨rfl, hb⟩; refine ⟨_, rfl, ?_⟩; replace HB := am (below_step bz hb); (try clear hb); (try clear hb2); (try clear hk); (try clear hi)) | ((with_reducible refine gate_dst (N := 11) rfl ?_); refine box_event yz (N := 11) yz (cs := #[.int .i64 0, .int .i64 0, .int .i64 0]) (t := 107) gz ?_; intro gb469 hg w28 hbox hb; have BK469 := am (hbox); have GW469 := gwz (g := gb469) HB hg; have GE469 := GW469; replace HB := am (below_step bz hb); clear hb hbox hg) | ((with_reducible refine gate_dst (N := 12) rfl ?_); refine box_event yz (N := 12) yz (cs := #[.int .i64 0, .int .i64 0, .int .i64 0]) (t := 107) gz ?_; intro gb470 hg w29 hbox hb; have BK470 := am (hbox); have GW470 := gwz (g := gb470) HB hg; have GE470 := GW470; replace HB := am (below_step bz hb); have NB469_470 := nlt (g' := gb470) BK469 hg; have NB470_469 := ngt (g' := gb470) BK469 hg; replace BK469 := am (blk_below (o := .cells #[.int .i64 0, .int .i64 0, .int .i64 0] 107 (0, 0)) (kz BK469) hb); clear hb hbox hg; have hnb30 := NB469_470.out; have hnc30 := NB470_469.out; obtain ⟨hcz31_0, hcz31_1, hcz31_2, hfz31_0, hfz31_1, hfz31_2⟩ := kc3 BK469.out; obtain ⟨hcz32_0, hcz32_1, hcz32_2, hfz32_0, hfz32_1, hfz32_2⟩ := kc3 BK470.out) | ((with_reducible refine gate_callee (f := 82) rfl ?_); refine goesL_ (some 83) rfl rfl Try.func82 qz rfl #[.int .i64 t463, .int .i64 t468] rfl mz ?_; (with_reducible refine (dancestudioref01_order.calls t463 t468 t472 _ A25.out).mono ?_); rintro e w' ⟨rfl, ⟨nd, rfl⟩⟩; refine ⟨_, rfl, ?_⟩))
       go_ret2
       exact ⟨ez, bz⟩
      ·
       rw [if_neg c24] at H
       have c24b0 : (t462 == t467) = false := beq_eq_false_iff_ne.mpr c24
       have c24b1 : (t462 != t467) = true := bne_iff_ne.mpr c24
       replace H := Option.bind_eq_some_iff.mp H
       obtain ⟨t473, A330, H⟩ := H
       replace H : (some (wrap64 (t455 * t473), 0)) = some (r1, r2) := H
       have A33 := am A330
       clear A330
       simp only [Option.some.injEq, Prod.mk.injEq] at H
       obtain ⟨rfl, rfl⟩ := H
       go_wp2_with (first | ((with_reducible refine gate_callee (f := 81) rfl ?_); refine goesL_ (some 33) rfl rfl Try.func81 qz rfl #[.int .i64 a0, .int .i64 a1] rfl mz ?_; (with_reducible refine (dancestudioref01_sign.calls a0 a1 t455 _ A14.out).mono ?_); rintro e w' ⟨rfl, ⟨nd, rfl⟩⟩; refine ⟨_, rfl, ?_⟩; (try (rw [drewN_self wc]; (repeat rw [World.drewN_drewN]); generalize hq_ : World.drewN wc _ = wc; have n0_ : Aside0 (Below w.heap.size w wc) := ⟨by rw [← hq_]; exact bz⟩; clear HB hq_; have HB := n0_; clear n0_))) | ((with_reducible refine gate_callee (f := 81) rfl ?_); refine goesL_ (some 37) rfl rfl Try.func81 qz rfl #[.int .i64 a2, .int .i64 a3] rfl mz ?_; (with_reducible refine (dancestudioref01_sign.calls a2 a3 t456 _ A15.out).mono ?_); rintro e w' ⟨rfl, ⟨nd, rfl⟩⟩; refine ⟨_, rfl, ?_⟩; (try (rw [drewN_self wc]; (repeat rw [World.drewN_drewN]); generalize hq_ : World.drewN wc _ = wc; have n0_ : Aside0 (Below w.heap.size w wc) := ⟨by rw [← hq_]; exact bz⟩; clear HB hq_; have HB := n0_; clear n0_))) | ((with_reducible refine gate_callee (f := 84) rfl ?_); refine goesL_ (some 45) rfl rfl Try.func84 qz rfl #[.int .i64 a0] rfl mz ?_; (with_reducible refine (dancestudioref01_size.calls a0 t459 _ A17.out).mono ?_); rintro e w' ⟨rfl, ⟨nd, rfl⟩⟩; refine ⟨_, rfl, ?_⟩; (try (rw [drewN_self wc]; (repeat rw [World.drewN_drewN]); generalize hq_ : World.drewN wc _ = wc; have n0_ : Aside0 (Below w.heap.size w wc) := ⟨by rw [← hq_]; exact bz⟩; clear HB hq_; have HB := n0_; clear n0_))) | ((with_reducible refine gate_callee (f := 84) rfl ?_); refine goesL_ (some 47) rfl rfl Try.func84 qz rfl #[.int .i64 a1] rfl mz ?_; (with_reducible refine (dancestudioref01_size.calls a1 t460 _ A18.out).mono ?_); rintro e w' ⟨rfl, ⟨nd, rfl⟩⟩; refine ⟨_, rfl, ?_⟩; (try (rw [drewN_self wc]; (repeat rw [World.drewN_drewN]); generalize hq_ : World.drewN wc _ = wc; have n0_ : Aside0 (Below w.heap.size w wc) := ⟨by rw [← hq_]; exact bz⟩; clear HB hq_; have HB := n0_; clear n0_))) | ((with_reducible refine gate_callee (f := 83) rfl ?_); refine goesL_ (some 48) rfl rfl Try.func83 qz rfl #[.int .i64 t459, .int .i64 t460] rfl mz ?_; (with_reducible refine (dancestudioref01_wide.calls t459 t460 t461 t462 t463 _ A19.out).mono ?_); rintro e w34 ⟨rfl, hb⟩; refine ⟨_, rfl, ?_⟩; replace HB := am (below_step bz hb); (try clear hb); (try clear hb2); (try clear hk); (try clear hi)) | ((with_reducible refine gate_callee (f := 84) rfl ?_); refine goesL_ (some 50) rfl rfl Try.func84 qz rfl #[.int .i64 a2] rfl mz ?_; (with_reducible refine (dancestudioref01_size.calls a2 t464 _ A20.out).mono ?_); rintro e w' ⟨rfl, ⟨nd, rfl⟩⟩; refine ⟨_, rfl, ?_⟩; (try (rw [drewN_self w34]; (repeat rw [World.drewN_drewN]); generalize hq_ : World.drewN w34 _ = w34; have n0_ : Aside0 (Below w.heap.size w w34) := ⟨by rw [← hq_]; exact bz⟩; clear HB hq_; have HB := n0_; clear n0_))) | ((with_reducible refine gate_callee (f := 84) rfl ?_); refine goesL_ (some 52) rfl rfl Try.func84 qz rfl #[.int .i64 a3] rfl mz ?_; (with_reducible refine (dancestudioref01_size.calls a3 t465 _ A21.out).mono ?_); rintro e w' ⟨rfl, ⟨nd, rfl⟩⟩; refine ⟨_, rfl, ?_⟩; (try (rw [drewN_self w34]; (repeat rw [World.drewN_drewN]); generalize hq_ : World.drewN w34 _ = w34; have n0_ : Aside0 (Below w.heap.size w w34) := ⟨by rw [← hq_]; exact bz⟩; clear HB hq_; have HB := n0_; clear n0_))) | ((with_reducible refine gate_callee (f := 83) rfl ?_); refine goesL_ (some 53) rfl rfl Try.func83 qz rfl #[.int .i64 t464, .int .i64 t465] rfl mz ?_; (with_reducible refine (dancestudioref01_wide.calls t464 t465 t466 t467 t468 _ A22.out).mono ?_); rintro e w35 ⟨rfl, hb⟩; refine ⟨_, rfl, ?_⟩; replace HB := am (below_step bz hb); (try clear hb); (try clear hb2); (try clear hk); (try clear hi)) | ((with_reducible refine gate_dst (N := 11) rfl ?_); refine box_event yz (N := 11) yz (cs := #[.int .i64 0, .int .i64 0, .int .i64 0]) (t := 107) gz ?_; intro gb469 hg w36 hbox hb; have BK469 := am (hbox); have GW469 := gwz (g := gb469) HB hg; have GE469 := GW469; replace HB := am (below_step bz hb); clear hb hbox hg) | ((with_reducible refine gate_dst (N := 12) rfl ?_); refine box_event yz (N := 12) yz (cs := #[.int .i64 0, .int .i64 0, .int .i64 0]) (t := 107) gz ?_; intro gb470 hg w37 hbox hb; have BK470 := am (hbox); have GW470 := gwz (g := gb470) HB hg; have GE470 := GW470; replace HB := am (below_step bz hb); have NB469_470 := nlt (g' := gb470) BK469 hg; have NB470_469 := ngt (g' := gb470) BK469 hg; replace BK469 := am (blk_below (o := .cells #[.int .i64 0, .int .i64 0, .int .i64 0] 107 (0, 0)) (kz BK469) hb); clear hb hbox hg; have hnb38 := NB469_470.out; have hnc38 := NB470_469.out; obtain ⟨hcz39_0, hcz39_1, hcz39_2, hfz39_0, hfz39_1, hfz39_2⟩ := kc3 BK469.out; obtain ⟨hcz40_0, hcz40_1, hcz40_2, hfz40_0, hfz40_1, hfz40_2⟩ := kc3 BK470.out) | ((with_reducible refine gate_callee (f := 82) rfl ?_); refine goesL_ (some 76) rfl rfl Try.func82 qz rfl #[.int .i64 t462, .int .i64 t467] rfl mz ?_; (with_reducible refine (dancestudioref01_order.calls t462 t467 t473 _ A33.out).mono ?_); rintro e w' ⟨rfl, ⟨nd, rfl⟩⟩; refine ⟨_, rfl, ?_⟩))
       go_ret2
       exact ⟨ez, bz⟩
     ·
      rw [if_neg c23] at H
      have c23b0 : (t461 == t466) = false := beq_eq_false_iff_ne.mpr c23
      have c23b1 : (t461 != t466) = true := bne_iff_ne.mpr c23
      replace H := Option.bind_eq_some_iff.mp H
      obtain ⟨t471, A410, H⟩ := H
      replace H : (some (wrap64 (t455 * t471), 0)) = some (r1, r2) := H
      have A41 := am A410
      clear A410
      simp only [Option.some.injEq, Prod.mk.injEq] at H
      obtain ⟨rfl, rfl⟩ := H
      go_wp2_with (first | ((with_reducible refine gate_callee (f := 81) rfl ?_); refine goesL_ (some 33) rfl rfl Try.func81 qz rfl #[.int .i64 a0, .int .i64 a1] rfl mz ?_; (with_reducible refine (dancestudioref01_sign.calls a0 a1 t455 _ A14.out).mono ?_); rintro e w' ⟨rfl, ⟨nd, rfl⟩⟩; refine ⟨_, rfl, ?_⟩; (try (rw [drewN_self wc]; (repeat rw [World.drewN_drewN]); generalize hq_ : World.drewN wc _ = wc; have n0_ : Aside0 (Below w.heap.size w wc) := ⟨by rw [← hq_]; exact bz⟩; clear HB hq_; have HB := n0_; clear n0_))) | ((with_reducible refine gate_callee (f := 81) rfl ?_); refine goesL_ (some 37) rfl rfl Try.func81 qz rfl #[.int .i64 a2, .int .i64 a3] rfl mz ?_; (with_reducible refine (dancestudioref01_sign.calls a2 a3 t456 _ A15.out).mono ?_); rintro e w' ⟨rfl, ⟨nd, rfl⟩⟩; refine ⟨_, rfl, ?_⟩; (try (rw [drewN_self wc]; (repeat rw [World.drewN_drewN]); generalize hq_ : World.drewN wc _ = wc; have n0_ : Aside0 (Below w.heap.size w wc) := ⟨by rw [← hq_]; exact bz⟩; clear HB hq_; have HB := n0_; clear n0_))) | ((with_reducible refine gate_callee (f := 84) rfl ?_); refine goesL_ (some 45) rfl rfl Try.func84 qz rfl #[.int .i64 a0] rfl mz ?_; (with_reducible refine (dancestudioref01_size.calls a0 t459 _ A17.out).mono ?_); rintro e w' ⟨rfl, ⟨nd, rfl⟩⟩; refine ⟨_, rfl, ?_⟩; (try (rw [drewN_self wc]; (repeat rw [World.drewN_drewN]); generalize hq_ : World.drewN wc _ = wc; have n0_ : Aside0 (Below w.heap.size w wc) := ⟨by rw [← hq_]; exact bz⟩; clear HB hq_; have HB := n0_; clear n0_))) | ((with_reducible refine gate_callee (f := 84) rfl ?_); refine goesL_ (some 47) rfl rfl Try.func84 qz rfl #[.int .i64 a1] rfl mz ?_; (with_reducible refine (dancestudioref01_size.calls a1 t460 _ A18.out).mono ?_); rintro e w' ⟨rfl, ⟨nd, rfl⟩⟩; refine ⟨_, rfl, ?_⟩; (try (rw [drewN_self wc]; (repeat rw [World.drewN_drewN]); generalize hq_ : World.drewN wc _ = wc; have n0_ : Aside0 (Below w.heap.size w wc) := ⟨by rw [← hq_]; exact bz⟩; clear HB hq_; have HB := n0_; clear n0_))) | ((with_reducible refine gate_callee (f := 83) rfl ?_); refine goesL_ (some 48) rfl rfl Try.func83 qz rfl #[.int .i64 t459, .int .i64 t460] rfl mz ?_; (with_reducible refine (dancestudioref01_wide.calls t459 t460 t461 t462 t463 _ A19.out).mono ?_); rintro e w42 ⟨rfl, hb⟩; refine ⟨_, rfl, ?_⟩; replace HB := am (below_step bz hb); (try clear hb); (try clear hb2); (try clear hk); (try clear hi)) | ((with_reducible refine gate_callee (f := 84) rfl ?_); refine goesL_ (some 50) rfl rfl Try.func84 qz rfl #[.int .i64 a2] rfl mz ?_; (with_reducible refine (dancestudioref01_size.calls a2 t464 _ A20.out).mono ?_); rintro e w' ⟨rfl, ⟨nd, rfl⟩⟩; refine ⟨_, rfl, ?_⟩; (try (rw [drewN_self w42]; (repeat rw [World.drewN_drewN]); generalize hq_ : World.drewN w42 _ = w42; have n0_ : Aside0 (Below w.heap.size w w42) := ⟨by rw [← hq_]; exact bz⟩; clear HB hq_; have HB := n0_; clear n0_))) | ((with_reducible refine gate_callee (f := 84) rfl ?_); refine goesL_ (some 52) rfl rfl Try.func84 qz rfl #[.int .i64 a3] rfl mz ?_; (with_reducible refine (dancestudioref01_size.calls a3 t465 _ A21.out).mono ?_); rintro e w' ⟨rfl, ⟨nd, rfl⟩⟩; refine ⟨_, rfl, ?_⟩; (try (rw [drewN_self w42]; (repeat rw [World.drewN_drewN]); generalize hq_ : World.drewN w42 _ = w42; have n0_ : Aside0 (Below w.heap.size w w42) := ⟨by rw [← hq_]; exact bz⟩; clear HB hq_; have HB := n0_; clear n0_))) | ((with_reducible refine gate_callee (f := 83) rfl ?_); refine goesL_ (some 53) rfl rfl Try.func83 qz rfl #[.int .i64 t464, .int .i64 t465] rfl mz ?_; (with_reducible refine (dancestudioref01_wide.calls t464 t465 t466 t467 t468 _ A22.out).mono ?_); rintro e w43 ⟨rfl, hb⟩; refine ⟨_, rfl, ?_⟩; replace HB := am (below_step bz hb); (try clear hb); (try clear hb2); (try clear hk); (try clear hi)) | ((with_reducible refine gate_dst (N := 11) rfl ?_); refine box_event yz (N := 11) yz (cs := #[.int .i64 0, .int .i64 0, .int .i64 0]) (t := 107) gz ?_; intro gb469 hg w44 hbox hb; have BK469 := am (hbox); have GW469 := gwz (g := gb469) HB hg; have GE469 := GW469; replace HB := am (below_step bz hb); clear hb hbox hg) | ((with_reducible refine gate_dst (N := 12) rfl ?_); refine box_event yz (N := 12) yz (cs := #[.int .i64 0, .int .i64 0, .int .i64 0]) (t := 107) gz ?_; intro gb470 hg w45 hbox hb; have BK470 := am (hbox); have GW470 := gwz (g := gb470) HB hg; have GE470 := GW470; replace HB := am (below_step bz hb); have NB469_470 := nlt (g' := gb470) BK469 hg; have NB470_469 := ngt (g' := gb470) BK469 hg; replace BK469 := am (blk_below (o := .cells #[.int .i64 0, .int .i64 0, .int .i64 0] 107 (0, 0)) (kz BK469) hb); clear hb hbox hg; have hnb46 := NB469_470.out; have hnc46 := NB470_469.out; obtain ⟨hcz47_0, hcz47_1, hcz47_2, hfz47_0, hfz47_1, hfz47_2⟩ := kc3 BK469.out; obtain ⟨hcz48_0, hcz48_1, hcz48_2, hfz48_0, hfz48_1, hfz48_2⟩ := kc3 BK470.out) | ((with_reducible refine gate_callee (f := 82) rfl ?_); refine goesL_ (some 64) rfl rfl Try.func82 qz rfl #[.int .i64 t461, .int .i64 t466] rfl mz ?_; (with_reducible refine (dancestudioref01_order.calls t461 t466 t471 _ A41.out).mono ?_); rintro e w' ⟨rfl, ⟨nd, rfl⟩⟩; refine ⟨_, rfl, ?_⟩))
      go_ret2
      exact ⟨ez, bz⟩
    ·
     rw [if_neg c16] at H
     have c16b0 : (t455 == t456) = false := beq_eq_false_iff_ne.mpr c16
     have c16b1 : (t455 != t456) = true := bne_iff_ne.mpr c16
     replace H := Option.bind_eq_some_iff.mp H
     obtain ⟨t457, A490, H⟩ := H
     replace H : ((dancestudioref01_order.f t455 t457).bind fun t458 => (some (t458, 0))) = some (r1, r2) := H
     have A49 := am A490
     clear A490
     replace H := Option.bind_eq_some_iff.mp H
     obtain ⟨t458, A500, H⟩ := H
     replace H : (some (t458, 0)) = some (r1, r2) := H
     have A50 := am A500
     clear A500
     simp only [Option.some.injEq, Prod.mk.injEq] at H
     obtain ⟨rfl, rfl⟩ := H
     go_wp2_with (first | ((with_reducible refine gate_callee (f := 81) rfl ?_); refine goesL_ (some 33) rfl rfl Try.func81 qz rfl #[.int .i64 a0, .int .i64 a1] rfl mz ?_; (with_reducible refine (dancestudioref01_sign.calls a0 a1 t455 _ A14.out).mono ?_); rintro e w' ⟨rfl, ⟨nd, rfl⟩⟩; refine ⟨_, rfl, ?_⟩) | ((with_reducible refine gate_callee (f := 81) rfl ?_); refine goesL_ (some 37) rfl rfl Try.func81 qz rfl #[.int .i64 a2, .int .i64 a3] rfl mz ?_; (with_reducible refine (dancestudioref01_sign.calls a2 a3 t456 _ A15.out).mono ?_); rintro e w' ⟨rfl, ⟨nd, rfl⟩⟩; refine ⟨_, rfl, ?_⟩) | ((with_reducible refine gate_callee (f := 81) rfl ?_); refine goesL_ (some 42) rfl rfl Try.func81 qz rfl #[.int .i64 a2, .int .i64 a3] rfl mz ?_; (with_reducible refine (dancestudioref01_sign.calls a2 a3 t457 _ A49.out).mono ?_); rintro e w' ⟨rfl, ⟨nd, rfl⟩⟩; refine ⟨_, rfl, ?_⟩) | ((with_reducible refine gate_callee (f := 82) rfl ?_); refine goesL_ (some 43) rfl rfl Try.func82 qz rfl #[.int .i64 t455, .int .i64 t457] rfl mz ?_; (with_reducible refine (dancestudioref01_order.calls t455 t457 t458 _ A50.out).mono ?_); rintro e w' ⟨rfl, ⟨nd, rfl⟩⟩; refine ⟨_, rfl, ?_⟩))
     go_ret2
     exact ⟨ez, bz⟩

end Go.Proofs.Yteflngoiebgdaaa.X
