-- squeezed
-- written by xprint.py, an own overlay over the kit's print; not trusted: Lean checks it
import Derived.Test.YtmmnhokejadgaaaX0
import Derived.Test.YtmmnhokejadgaaaX2
import Derived.Test.YtmmnhokejadgaaaX8
import Derived.Test.YtmmnhokejadgaaaX9
import Derived.Test.YtmmnhokejadgaaaX13
import Derived.Test.YtmmnhokejadgaaaX14
import Derived.Test.YtmmnhokejadgaaaX15
import Derived.Test.YtmmnhokejadgaaaX16
import Derived.Test.YtmmnhokejadgaaaX17
import Derived.Test.YtmmnhokejadgaaaX19
namespace Go.Proofs.Ytmmnhokejadgaaa.X
open Go.RowKit Go.Proofs.YtmmnhokejadgaaaW.PrintWords Go.Proofs.YtmmnhokejadgaaaW.PrintLast Go.Proofs.YtmmnhokejadgaaaW.PrintMore
attribute [local go_sem] max2_int min2_int max_two min_two max_three min_three max_four min_four   -- for this text's walks alone
set_option linter.unusedVariables false
set_option linter.unusedSimpArgs false

/-! ### dancestudiolaw07_WireRoundTrip: function 6 -/
def dancestudiolaw07_WireRoundTrip.f (k : Nat) (a0_0 : Int) (a0_1 : ByteArray) (l0_2 : List Int) (l1 : List Int) : Option (Bool) := (wire_PutInt.f k ([] : List Int) a0_0).bind fun t439 => ((dancestudiolaw07_own.f t439).bind fun t442 => ((wire_PutText.f k t442 a0_1).bind fun t445 => ((dancestudiolaw07_own.f t445).bind fun t448 => ((wire_PutList.f k t448 l0_2).bind fun t451 => (if (t439.length : Int) < 1 then (none) else (if (t445.length : Int) < (t439.length : Int) then (none) else (if (t451.length : Int) < (t445.length : Int) then (none) else ((dancestudiolaw07_own.f t451).bind fun t481 => (if t481.length + l1.length < 140737488355328 then ((some (t481 ++ l1 : List Int)).bind fun y484 => ((wire_TakeInt.f k y484).bind fun bt487 => (if bt487.1 = a0_0 then (if bt487.2.1 = (t439.length : Int) then (if bt487.2.2 = 0 then (if 0 ≤ (t439.length : Int) then (if (t439.length : Int) ≤ (y484.length : Int) then ((wire_TakeText.f k (y484.drop ((t439.length : Int) : Int).toNat) (a0_1.size : Int)).bind fun bt512 => (if bt512.1.toList = a0_1.toList then (if bt512.2.1 = (wrap64 ((t445.length : Int) - (t439.length : Int))) then (if bt512.2.2 = 0 then (if 0 ≤ (t445.length : Int) then (if (t445.length : Int) ≤ (y484.length : Int) then ((wire_TakeList.f k (y484.drop ((t445.length : Int) : Int).toNat) (l0_2.length : Int)).bind fun bt519 => ((dancestudioref07_Ints.f k bt519.1 l0_2).bind fun t524 => (if t524 = true then (if bt519.2.1 = (wrap64 ((t451.length : Int) - (t445.length : Int))) then (if bt519.2.2 = 0 then ((dancestudiolaw07_awake.f k).bind fun t525 => (some t525)) else (none)) else (none)) else (none)))) else (none)) else (none)) else (none)) else (none)) else (none))) else (none)) else (none)) else (none)) else (none)) else (none)))) else (none))))))))))
theorem dancestudiolaw07_WireRoundTrip.mono : ∀ a0 a1 a2 a3 k, LeO (dancestudiolaw07_WireRoundTrip.f k a0 a1 a2 a3) (dancestudiolaw07_WireRoundTrip.f (k + 1) a0 a1 a2 a3) := by
 intro a0 a1 a2 a3 k
 unfold dancestudiolaw07_WireRoundTrip.f
 repeat' first
   | (with_reducible exact dancestudiolaw07_awake.mono _)
   | (with_reducible exact dancestudioref07_Ints.mono _ _ _)
   | (with_reducible exact wire_PutInt.mono _ _ _)
   | (with_reducible exact wire_PutList.mono _ _ _)
   | (with_reducible exact wire_PutText.mono _ _ _)
   | (with_reducible exact wire_TakeInt.mono _ _)
   | (with_reducible exact wire_TakeList.mono _ _ _)
   | (with_reducible exact wire_TakeText.mono _ _ _)
   | (with_reducible exact LeO.refl _)
   | (with_reducible exact LeO.none _)
   | (with_reducible refine LeO.ite ?_ ?_)
   | (with_reducible refine LeO.bind ?_ (fun _ => ?_))
   | exact dancestudiolaw07_awake.mono _
   | exact dancestudioref07_Ints.mono _ _ _
   | exact wire_PutInt.mono _ _ _
   | exact wire_PutList.mono _ _ _
   | exact wire_PutText.mono _ _ _
   | exact wire_TakeInt.mono _ _
   | exact wire_TakeList.mono _ _ _
   | exact wire_TakeText.mono _ _ _
   | exact LeO.none _
   | refine LeO.ite ?_ ?_
   | refine LeO.bind ?_ (fun _ => ?_)
def dancestudiolaw07_WireRoundTrip.T10 : Bool × List (List Nat × List Nat) := (true, [([], []), ([], []), ([1], [1]), ([0, 2], [0, 2]), ([], []), ([4], [4]), ([5], [5]), ([3, 6], [3, 6]), ([7], [7]), ([8], [8]), ([8], [8]), ([8], [8]), ([9, 7, 0, 1, 2, 3, 4, 5, 6, 7, 8, 9], [9]), ([10, 12, 0, 1, 2, 3, 4, 5, 6, 7, 8, 9, 10, 12], [10]), ([11, 13, 0, 1, 2, 3, 4, 5, 6, 7, 8, 9, 10, 11, 12, 13], [11])])
def dancestudiolaw07_WireRoundTrip.B10 : List Nat := [0, 0, 2, 7, 0, 16, 48, 127, 255, 511, 511, 511, 1023, 6143, 16383]
theorem dancestudiolaw07_WireRoundTrip.tab10 : rtab .any (opsOf Try.f6 10) = dancestudiolaw07_WireRoundTrip.T10 := by kernel_rfl
theorem dancestudiolaw07_WireRoundTrip.bits10 : waitsOk dancestudiolaw07_WireRoundTrip.T10.2 dancestudiolaw07_WireRoundTrip.B10 = true := by kernel_rfl
def dancestudiolaw07_WireRoundTrip.T13 : Bool × List (List Nat × List Nat) := (true, [([], []), ([], []), ([1], [1]), ([0, 2], [0, 2]), ([], []), ([4], [4]), ([5], [5]), ([3, 6], [3, 6]), ([7], [7]), ([8], [8]), ([8], [8]), ([8], [8]), ([9, 7, 0, 1, 2, 3, 4, 5, 6, 7, 8, 9], [9]), ([10, 12, 0, 1, 2, 3, 4, 5, 6, 7, 8, 9, 10, 12], [10]), ([11, 13, 0, 1, 2, 3, 4, 5, 6, 7, 8, 9, 10, 11, 12, 13], [11])])
def dancestudiolaw07_WireRoundTrip.B13 : List Nat := [0, 0, 2, 7, 0, 16, 48, 127, 255, 511, 511, 511, 1023, 6143, 16383]
theorem dancestudiolaw07_WireRoundTrip.tab13 : rtab .any (opsOf Try.f6 13) = dancestudiolaw07_WireRoundTrip.T13 := by kernel_rfl
theorem dancestudiolaw07_WireRoundTrip.bits13 : waitsOk dancestudiolaw07_WireRoundTrip.T13.2 dancestudiolaw07_WireRoundTrip.B13 = true := by kernel_rfl
set_option maxHeartbeats 8000000 in
set_option maxRecDepth 100000 in
theorem dancestudiolaw07_WireRoundTrip.calls (k : Nat) (a0_0 : Int) (a0_1 : ByteArray) (A0_2 : Option Addr) (c0_2 : Nat) (l0_2 : List Int) (A1 : Option Addr) (c1 : Nat) (l1 : List Int) (r : Bool) (w : World) (hr0_2 : Kd.C (Kd.int .i64) w A0_2 l0_2.length l0_2) (hc0_2 : l0_2.length ≤ c0_2) (hr1 : Kd.C (Kd.int .u8) w A1 l1.length l1) (hc1 : l1.length ≤ c1) (h : dancestudiolaw07_WireRoundTrip.f k a0_0 a0_1 l0_2 l1 = some r) :
  Calls Try.prog 6 #[.agg #[.int .i64 a0_0, .string a0_1, .slice A0_2 l0_2.length c0_2], .slice A1 l1.length c1] w fun e w' => e = .returned (.bool r) ∧ Below w.heap.size w w' := by
 have hu42 := Try.underlying42
 have HR0_2 := Aside0.mk hr0_2
 have HC0_2 := Aside0.mk hc0_2
 clear hr0_2 hc0_2
 have HR1 := Aside0.mk hr1
 have HC1 := Aside0.mk hc1
 clear hr1 hc1
 have HB := Aside0.mk (Below.refl w.heap.size w)
 have H : ((wire_PutInt.f k ([] : List Int) a0_0).bind fun t439 => ((dancestudiolaw07_own.f t439).bind fun t442 => ((wire_PutText.f k t442 a0_1).bind fun t445 => ((dancestudiolaw07_own.f t445).bind fun t448 => ((wire_PutList.f k t448 l0_2).bind fun t451 => (if (t439.length : Int) < 1 then (none) else (if (t445.length : Int) < (t439.length : Int) then (none) else (if (t451.length : Int) < (t445.length : Int) then (none) else ((dancestudiolaw07_own.f t451).bind fun t481 => (if t481.length + l1.length < 140737488355328 then ((some (t481 ++ l1 : List Int)).bind fun y484 => ((wire_TakeInt.f k y484).bind fun bt487 => (if bt487.1 = a0_0 then (if bt487.2.1 = (t439.length : Int) then (if bt487.2.2 = 0 then (if 0 ≤ (t439.length : Int) then (if (t439.length : Int) ≤ (y484.length : Int) then ((wire_TakeText.f k (y484.drop ((t439.length : Int) : Int).toNat) (a0_1.size : Int)).bind fun bt512 => (if bt512.1.toList = a0_1.toList then (if bt512.2.1 = (wrap64 ((t445.length : Int) - (t439.length : Int))) then (if bt512.2.2 = 0 then (if 0 ≤ (t445.length : Int) then (if (t445.length : Int) ≤ (y484.length : Int) then ((wire_TakeList.f k (y484.drop ((t445.length : Int) : Int).toNat) (l0_2.length : Int)).bind fun bt519 => ((dancestudioref07_Ints.f k bt519.1 l0_2).bind fun t524 => (if t524 = true then (if bt519.2.1 = (wrap64 ((t451.length : Int) - (t445.length : Int))) then (if bt519.2.2 = 0 then ((dancestudiolaw07_awake.f k).bind fun t525 => (some t525)) else (none)) else (none)) else (none)))) else (none)) else (none)) else (none)) else (none)) else (none))) else (none)) else (none)) else (none)) else (none)) else (none)))) else (none))))))))))) = some r := h
 clear h
 replace H := Option.bind_eq_some_iff.mp H
 obtain ⟨t439, A30, H⟩ := H
 replace H : ((dancestudiolaw07_own.f t439).bind fun t442 => ((wire_PutText.f k t442 a0_1).bind fun t445 => ((dancestudiolaw07_own.f t445).bind fun t448 => ((wire_PutList.f k t448 l0_2).bind fun t451 => (if (t439.length : Int) < 1 then (none) else (if (t445.length : Int) < (t439.length : Int) then (none) else (if (t451.length : Int) < (t445.length : Int) then (none) else ((dancestudiolaw07_own.f t451).bind fun t481 => (if t481.length + l1.length < 140737488355328 then ((some (t481 ++ l1 : List Int)).bind fun y484 => ((wire_TakeInt.f k y484).bind fun bt487 => (if bt487.1 = a0_0 then (if bt487.2.1 = (t439.length : Int) then (if bt487.2.2 = 0 then (if 0 ≤ (t439.length : Int) then (if (t439.length : Int) ≤ (y484.length : Int) then ((wire_TakeText.f k (y484.drop ((t439.length : Int) : Int).toNat) (a0_1.size : Int)).bind fun bt512 => (if bt512.1.toList = a0_1.toList then (if bt512.2.1 = (wrap64 ((t445.length : Int) - (t439.length : Int))) then (if bt512.2.2 = 0 then (if 0 ≤ (t445.length : Int) then (if (t445.length : Int) ≤ (y484.length : Int) then ((wire_TakeList.f k (y484.drop ((t445.length : Int) : Int).toNat) (l0_2.length : Int)).bind fun bt519 => ((dancestudioref07_Ints.f k bt519.1 l0_2).bind fun t524 => (if t524 = true then (if bt519.2.1 = (wrap64 ((t451.length : Int) - (t445.length : Int))) then (if bt519.2.2 = 0 then ((dancestudiolaw07_awake.f k).bind fun t525 => (some t525)) else (none)) else (none)) else (none)))) else (none)) else (none)) else (none)) else (none)) else (none))) else (none)) else (none)) else (none)) else (none)) else (none)))) else (none)))))))))) = some r := H
 have A3 := Aside0.mk A30
 clear A30
 replace H := Option.bind_eq_some_iff.mp H
 obtain ⟨t442, A40, H⟩ := H
 replace H : ((wire_PutText.f k t442 a0_1).bind fun t445 => ((dancestudiolaw07_own.f t445).bind fun t448 => ((wire_PutList.f k t448 l0_2).bind fun t451 => (if (t439.length : Int) < 1 then (none) else (if (t445.length : Int) < (t439.length : Int) then (none) else (if (t451.length : Int) < (t445.length : Int) then (none) else ((dancestudiolaw07_own.f t451).bind fun t481 => (if t481.length + l1.length < 140737488355328 then ((some (t481 ++ l1 : List Int)).bind fun y484 => ((wire_TakeInt.f k y484).bind fun bt487 => (if bt487.1 = a0_0 then (if bt487.2.1 = (t439.length : Int) then (if bt487.2.2 = 0 then (if 0 ≤ (t439.length : Int) then (if (t439.length : Int) ≤ (y484.length : Int) then ((wire_TakeText.f k (y484.drop ((t439.length : Int) : Int).toNat) (a0_1.size : Int)).bind fun bt512 => (if bt512.1.toList = a0_1.toList then (if bt512.2.1 = (wrap64 ((t445.length : Int) - (t439.length : Int))) then (if bt512.2.2 = 0 then (if 0 ≤ (t445.length : Int) then (if (t445.length : Int) ≤ (y484.length : Int) then ((wire_TakeList.f k (y484.drop ((t445.length : Int) : Int).toNat) (l0_2.length : Int)).bind fun bt519 => ((dancestudioref07_Ints.f k bt519.1 l0_2).bind fun t524 => (if t524 = true then (if bt519.2.1 = (wrap64 ((t451.length : Int) - (t445.length : Int))) then (if bt519.2.2 = 0 then ((dancestudiolaw07_awake.f k).bind fun t525 => (some t525)) else (none)) else (none)) else (none)))) else (none)) else (none)) else (none)) else (none)) else (none))) else (none)) else (none)) else (none)) else (none)) else (none)))) else (none))))))))) = some r := H
 have A4 := Aside0.mk A40
 clear A40
 replace H := Option.bind_eq_some_iff.mp H
 obtain ⟨t445, A50, H⟩ := H
 replace H : ((dancestudiolaw07_own.f t445).bind fun t448 => ((wire_PutList.f k t448 l0_2).bind fun t451 => (if (t439.length : Int) < 1 then (none) else (if (t445.length : Int) < (t439.length : Int) then (none) else (if (t451.length : Int) < (t445.length : Int) then (none) else ((dancestudiolaw07_own.f t451).bind fun t481 => (if t481.length + l1.length < 140737488355328 then ((some (t481 ++ l1 : List Int)).bind fun y484 => ((wire_TakeInt.f k y484).bind fun bt487 => (if bt487.1 = a0_0 then (if bt487.2.1 = (t439.length : Int) then (if bt487.2.2 = 0 then (if 0 ≤ (t439.length : Int) then (if (t439.length : Int) ≤ (y484.length : Int) then ((wire_TakeText.f k (y484.drop ((t439.length : Int) : Int).toNat) (a0_1.size : Int)).bind fun bt512 => (if bt512.1.toList = a0_1.toList then (if bt512.2.1 = (wrap64 ((t445.length : Int) - (t439.length : Int))) then (if bt512.2.2 = 0 then (if 0 ≤ (t445.length : Int) then (if (t445.length : Int) ≤ (y484.length : Int) then ((wire_TakeList.f k (y484.drop ((t445.length : Int) : Int).toNat) (l0_2.length : Int)).bind fun bt519 => ((dancestudioref07_Ints.f k bt519.1 l0_2).bind fun t524 => (if t524 = true then (if bt519.2.1 = (wrap64 ((t451.length : Int) - (t445.length : Int))) then (if bt519.2.2 = 0 then ((dancestudiolaw07_awake.f k).bind fun t525 => (some t525)) else (none)) else (none)) else (none)))) else (none)) else (none)) else (none)) else (none)) else (none))) else (none)) else (none)) else (none)) else (none)) else (none)))) else (none)))))))) = some r := H
 have A5 := Aside0.mk A50
 clear A50
 replace H := Option.bind_eq_some_iff.mp H
 obtain ⟨t448, A60, H⟩ := H
 replace H : ((wire_PutList.f k t448 l0_2).bind fun t451 => (if (t439.length : Int) < 1 then (none) else (if (t445.length : Int) < (t439.length : Int) then (none) else (if (t451.length : Int) < (t445.length : Int) then (none) else ((dancestudiolaw07_own.f t451).bind fun t481 => (if t481.length + l1.length < 140737488355328 then ((some (t481 ++ l1 : List Int)).bind fun y484 => ((wire_TakeInt.f k y484).bind fun bt487 => (if bt487.1 = a0_0 then (if bt487.2.1 = (t439.length : Int) then (if bt487.2.2 = 0 then (if 0 ≤ (t439.length : Int) then (if (t439.length : Int) ≤ (y484.length : Int) then ((wire_TakeText.f k (y484.drop ((t439.length : Int) : Int).toNat) (a0_1.size : Int)).bind fun bt512 => (if bt512.1.toList = a0_1.toList then (if bt512.2.1 = (wrap64 ((t445.length : Int) - (t439.length : Int))) then (if bt512.2.2 = 0 then (if 0 ≤ (t445.length : Int) then (if (t445.length : Int) ≤ (y484.length : Int) then ((wire_TakeList.f k (y484.drop ((t445.length : Int) : Int).toNat) (l0_2.length : Int)).bind fun bt519 => ((dancestudioref07_Ints.f k bt519.1 l0_2).bind fun t524 => (if t524 = true then (if bt519.2.1 = (wrap64 ((t451.length : Int) - (t445.length : Int))) then (if bt519.2.2 = 0 then ((dancestudiolaw07_awake.f k).bind fun t525 => (some t525)) else (none)) else (none)) else (none)))) else (none)) else (none)) else (none)) else (none)) else (none))) else (none)) else (none)) else (none)) else (none)) else (none)))) else (none))))))) = some r := H
 have A6 := Aside0.mk A60
 clear A60
 replace H := Option.bind_eq_some_iff.mp H
 obtain ⟨t451, A70, H⟩ := H
 replace H : (if (t439.length : Int) < 1 then (none) else (if (t445.length : Int) < (t439.length : Int) then (none) else (if (t451.length : Int) < (t445.length : Int) then (none) else ((dancestudiolaw07_own.f t451).bind fun t481 => (if t481.length + l1.length < 140737488355328 then ((some (t481 ++ l1 : List Int)).bind fun y484 => ((wire_TakeInt.f k y484).bind fun bt487 => (if bt487.1 = a0_0 then (if bt487.2.1 = (t439.length : Int) then (if bt487.2.2 = 0 then (if 0 ≤ (t439.length : Int) then (if (t439.length : Int) ≤ (y484.length : Int) then ((wire_TakeText.f k (y484.drop ((t439.length : Int) : Int).toNat) (a0_1.size : Int)).bind fun bt512 => (if bt512.1.toList = a0_1.toList then (if bt512.2.1 = (wrap64 ((t445.length : Int) - (t439.length : Int))) then (if bt512.2.2 = 0 then (if 0 ≤ (t445.length : Int) then (if (t445.length : Int) ≤ (y484.length : Int) then ((wire_TakeList.f k (y484.drop ((t445.length : Int) : Int).toNat) (l0_2.length : Int)).bind fun bt519 => ((dancestudioref07_Ints.f k bt519.1 l0_2).bind fun t524 => (if t524 = true then (if bt519.2.1 = (wrap64 ((t451.length : Int) - (t445.length : Int))) then (if bt519.2.2 = 0 then ((dancestudiolaw07_awake.f k).bind fun t525 => (some t525)) else (none)) else (none)) else (none)))) else (none)) else (none)) else (none)) else (none)) else (none))) else (none)) else (none)) else (none)) else (none)) else (none)))) else (none)))))) = some r := H
 have A7 := Aside0.mk A70
 clear A70
 by_cases c8 : (t439.length : Int) < 1
 · rw [if_pos c8] at H; exact absurd H (by simp)
 rw [if_neg c8] at H
 have c8b0 := decide_eq_false c8
 have c8b1 : decide (t439.length < 1) = false := decide_eq_false (by omega)
 clear c8
 by_cases c9 : (t445.length : Int) < (t439.length : Int)
 · rw [if_pos c9] at H; exact absurd H (by simp)
 rw [if_neg c9] at H
 have c9b0 := decide_eq_false c9
 have c9b1 : decide (t445.length < t439.length) = false := decide_eq_false (fun h => c9 (Int.ofNat_lt.mpr h))
 clear c9
 by_cases c10 : (t451.length : Int) < (t445.length : Int)
 · rw [if_pos c10] at H; exact absurd H (by simp)
 rw [if_neg c10] at H
 have c10b0 := decide_eq_false c10
 have c10b1 : decide (t451.length < t445.length) = false := decide_eq_false (fun h => c10 (Int.ofNat_lt.mpr h))
 clear c10
 replace H := Option.bind_eq_some_iff.mp H
 obtain ⟨t481, A110, H⟩ := H
 replace H : (if t481.length + l1.length < 140737488355328 then ((some (t481 ++ l1 : List Int)).bind fun y484 => ((wire_TakeInt.f k y484).bind fun bt487 => (if bt487.1 = a0_0 then (if bt487.2.1 = (t439.length : Int) then (if bt487.2.2 = 0 then (if 0 ≤ (t439.length : Int) then (if (t439.length : Int) ≤ (y484.length : Int) then ((wire_TakeText.f k (y484.drop ((t439.length : Int) : Int).toNat) (a0_1.size : Int)).bind fun bt512 => (if bt512.1.toList = a0_1.toList then (if bt512.2.1 = (wrap64 ((t445.length : Int) - (t439.length : Int))) then (if bt512.2.2 = 0 then (if 0 ≤ (t445.length : Int) then (if (t445.length : Int) ≤ (y484.length : Int) then ((wire_TakeList.f k (y484.drop ((t445.length : Int) : Int).toNat) (l0_2.length : Int)).bind fun bt519 => ((dancestudioref07_Ints.f k bt519.1 l0_2).bind fun t524 => (if t524 = true then (if bt519.2.1 = (wrap64 ((t451.length : Int) - (t445.length : Int))) then (if bt519.2.2 = 0 then ((dancestudiolaw07_awake.f k).bind fun t525 => (some t525)) else (none)) else (none)) else (none)))) else (none)) else (none)) else (none)) else (none)) else (none))) else (none)) else (none)) else (none)) else (none)) else (none)))) else (none)) = some r := H
 have A11 := Aside0.mk A110
 clear A110
 by_cases c12 : t481.length + l1.length < 140737488355328
 ·
  rw [if_pos c12] at H
  have LMc12 := Aside0.mk c12
  clear c12
  obtain ⟨y484, hy484⟩ : ∃ y_ : List Int, y_ = (t481 ++ l1) := ⟨_, rfl⟩
  replace H : ((wire_TakeInt.f k y484).bind fun bt487 => (if bt487.1 = a0_0 then (if bt487.2.1 = (t439.length : Int) then (if bt487.2.2 = 0 then (if 0 ≤ (t439.length : Int) then (if (t439.length : Int) ≤ (y484.length : Int) then ((wire_TakeText.f k (y484.drop ((t439.length : Int) : Int).toNat) (a0_1.size : Int)).bind fun bt512 => (if bt512.1.toList = a0_1.toList then (if bt512.2.1 = (wrap64 ((t445.length : Int) - (t439.length : Int))) then (if bt512.2.2 = 0 then (if 0 ≤ (t445.length : Int) then (if (t445.length : Int) ≤ (y484.length : Int) then ((wire_TakeList.f k (y484.drop ((t445.length : Int) : Int).toNat) (l0_2.length : Int)).bind fun bt519 => ((dancestudioref07_Ints.f k bt519.1 l0_2).bind fun t524 => (if t524 = true then (if bt519.2.1 = (wrap64 ((t451.length : Int) - (t445.length : Int))) then (if bt519.2.2 = 0 then ((dancestudiolaw07_awake.f k).bind fun t525 => (some t525)) else (none)) else (none)) else (none)))) else (none)) else (none)) else (none)) else (none)) else (none))) else (none)) else (none)) else (none)) else (none)) else (none))) = some r := by first | (rw [hy484]; with_reducible exact H) | (have H2_ := (Option.bind_some _ _).symm.trans H; rw [hy484]; with_reducible exact H2_) | (have H2_ := (Option.bind_some _ _).symm.trans H; with_reducible exact H2_) | with_reducible exact H | (rw [hy484]; exact H) | exact H
  have Ny484 := Aside0.mk hy484
  clear hy484
  replace H := Option.bind_eq_some_iff.mp H
  obtain ⟨⟨t487, t488, t489⟩, A130, H⟩ := H
  replace H : (if t487 = a0_0 then (if t488 = (t439.length : Int) then (if t489 = 0 then (if 0 ≤ (t439.length : Int) then (if (t439.length : Int) ≤ (y484.length : Int) then ((wire_TakeText.f k (y484.drop ((t439.length : Int) : Int).toNat) (a0_1.size : Int)).bind fun bt512 => (if bt512.1.toList = a0_1.toList then (if bt512.2.1 = (wrap64 ((t445.length : Int) - (t439.length : Int))) then (if bt512.2.2 = 0 then (if 0 ≤ (t445.length : Int) then (if (t445.length : Int) ≤ (y484.length : Int) then ((wire_TakeList.f k (y484.drop ((t445.length : Int) : Int).toNat) (l0_2.length : Int)).bind fun bt519 => ((dancestudioref07_Ints.f k bt519.1 l0_2).bind fun t524 => (if t524 = true then (if bt519.2.1 = (wrap64 ((t451.length : Int) - (t445.length : Int))) then (if bt519.2.2 = 0 then ((dancestudiolaw07_awake.f k).bind fun t525 => (some t525)) else (none)) else (none)) else (none)))) else (none)) else (none)) else (none)) else (none)) else (none))) else (none)) else (none)) else (none)) else (none)) else (none)) = some r := H
  have A13 := Aside0.mk A130
  clear A130
  by_cases c14 : t487 = a0_0; rotate_left
  · rw [if_neg c14] at H; exact absurd H (by simp)
  rw [if_pos c14] at H
  have c14b0 : (t487 == a0_0) = true := beq_iff_eq.mpr c14
  have c14b1 : (t487 != a0_0) = false := bne_eq_false_iff_eq.mpr c14
  clear c14
  by_cases c15 : t488 = (t439.length : Int); rotate_left
  · rw [if_neg c15] at H; exact absurd H (by simp)
  rw [if_pos c15] at H
  have c15b0 : (t488 == (t439.length : Int)) = true := beq_iff_eq.mpr c15
  have c15b1 : (t488 != (t439.length : Int)) = false := bne_eq_false_iff_eq.mpr c15
  clear c15
  by_cases c16 : t489 = 0; rotate_left
  · rw [if_neg c16] at H; exact absurd H (by simp)
  rw [if_pos c16] at H
  have c16b0 : (t489 == 0) = true := beq_iff_eq.mpr c16
  have c16b1 : (t489 != 0) = false := bne_eq_false_iff_eq.mpr c16
  clear c16
  by_cases c17 : 0 ≤ (t439.length : Int); rotate_left
  · rw [if_neg c17] at H; exact absurd H (by simp)
  rw [if_pos c17] at H
  have c17b0 := eq_true c17
  have c17b1 : decide (0 ≤ (t439.length : Int)) = true := decide_eq_true c17
  clear c17
  by_cases c18 : (t439.length : Int) ≤ (y484.length : Int); rotate_left
  · rw [if_neg c18] at H; exact absurd H (by simp)
  rw [if_pos c18] at H
  have c18b0 := eq_true c18
  have c18b1 : decide ((t439.length : Int) ≤ (y484.length : Int)) = true := decide_eq_true c18
  clear c18
  obtain ⟨y508, hy508⟩ : ∃ y_ : List Int, y_ = (y484.drop ((t439.length : Int) : Int).toNat) := ⟨_, rfl⟩
  replace H : ((wire_TakeText.f k y508 (a0_1.size : Int)).bind fun bt512 => (if bt512.1.toList = a0_1.toList then (if bt512.2.1 = (wrap64 ((t445.length : Int) - (t439.length : Int))) then (if bt512.2.2 = 0 then (if 0 ≤ (t445.length : Int) then (if (t445.length : Int) ≤ (y484.length : Int) then ((wire_TakeList.f k (y484.drop ((t445.length : Int) : Int).toNat) (l0_2.length : Int)).bind fun bt519 => ((dancestudioref07_Ints.f k bt519.1 l0_2).bind fun t524 => (if t524 = true then (if bt519.2.1 = (wrap64 ((t451.length : Int) - (t445.length : Int))) then (if bt519.2.2 = 0 then ((dancestudiolaw07_awake.f k).bind fun t525 => (some t525)) else (none)) else (none)) else (none)))) else (none)) else (none)) else (none)) else (none)) else (none))) = some r := by first | (rw [hy508]; with_reducible exact H) | (have H2_ := (Option.bind_some _ _).symm.trans H; rw [hy508]; with_reducible exact H2_) | (have H2_ := (Option.bind_some _ _).symm.trans H; with_reducible exact H2_) | with_reducible exact H | (rw [hy508]; exact H) | exact H
  have Ny508 := Aside0.mk hy508
  clear hy508
  replace H := Option.bind_eq_some_iff.mp H
  obtain ⟨⟨t512, t513, t514⟩, A190, H⟩ := H
  replace H : (if t512.toList = a0_1.toList then (if t513 = (wrap64 ((t445.length : Int) - (t439.length : Int))) then (if t514 = 0 then (if 0 ≤ (t445.length : Int) then (if (t445.length : Int) ≤ (y484.length : Int) then ((wire_TakeList.f k (y484.drop ((t445.length : Int) : Int).toNat) (l0_2.length : Int)).bind fun bt519 => ((dancestudioref07_Ints.f k bt519.1 l0_2).bind fun t524 => (if t524 = true then (if bt519.2.1 = (wrap64 ((t451.length : Int) - (t445.length : Int))) then (if bt519.2.2 = 0 then ((dancestudiolaw07_awake.f k).bind fun t525 => (some t525)) else (none)) else (none)) else (none)))) else (none)) else (none)) else (none)) else (none)) else (none)) = some r := H
  have A19 := Aside0.mk A190
  clear A190
  by_cases c20 : t512.toList = a0_1.toList; rotate_left
  · rw [if_neg c20] at H; exact absurd H (by simp)
  rw [if_pos c20] at H
  have c20b0 : (t512.toList == a0_1.toList) = true := beq_iff_eq.mpr c20
  have c20b1 : (t512.toList != a0_1.toList) = false := bne_eq_false_iff_eq.mpr c20
  clear c20
  by_cases c21 : t513 = (wrap64 ((t445.length : Int) - (t439.length : Int))); rotate_left
  · rw [if_neg c21] at H; exact absurd H (by simp)
  rw [if_pos c21] at H
  have c21b0 : (t513 == (wrap64 ((t445.length : Int) - (t439.length : Int)))) = true := beq_iff_eq.mpr c21
  have c21b1 : (t513 != (wrap64 ((t445.length : Int) - (t439.length : Int)))) = false := bne_eq_false_iff_eq.mpr c21
  clear c21
  by_cases c22 : t514 = 0; rotate_left
  · rw [if_neg c22] at H; exact absurd H (by simp)
  rw [if_pos c22] at H
  have c22b0 : (t514 == 0) = true := beq_iff_eq.mpr c22
  have c22b1 : (t514 != 0) = false := bne_eq_false_iff_eq.mpr c22
  clear c22
  by_cases c23 : 0 ≤ (t445.length : Int); rotate_left
  · rw [if_neg c23] at H; exact absurd H (by simp)
  rw [if_pos c23] at H
  have c23b0 := eq_true c23
  have c23b1 : decide (0 ≤ (t445.length : Int)) = true := decide_eq_true c23
  clear c23
  by_cases c24 : (t445.length : Int) ≤ (y484.length : Int); rotate_left
  · rw [if_neg c24] at H; exact absurd H (by simp)
  rw [if_pos c24] at H
  have c24b0 := eq_true c24
  have c24b1 : decide ((t445.length : Int) ≤ (y484.length : Int)) = true := decide_eq_true c24
  clear c24
  obtain ⟨y515, hy515⟩ : ∃ y_ : List Int, y_ = (y484.drop ((t445.length : Int) : Int).toNat) := ⟨_, rfl⟩
  replace H : ((wire_TakeList.f k y515 (l0_2.length : Int)).bind fun bt519 => ((dancestudioref07_Ints.f k bt519.1 l0_2).bind fun t524 => (if t524 = true then (if bt519.2.1 = (wrap64 ((t451.length : Int) - (t445.length : Int))) then (if bt519.2.2 = 0 then ((dancestudiolaw07_awake.f k).bind fun t525 => (some t525)) else (none)) else (none)) else (none)))) = some r := by first | (rw [hy515]; with_reducible exact H) | (have H2_ := (Option.bind_some _ _).symm.trans H; rw [hy515]; with_reducible exact H2_) | (have H2_ := (Option.bind_some _ _).symm.trans H; with_reducible exact H2_) | with_reducible exact H | (rw [hy515]; exact H) | exact H
  have Ny515 := Aside0.mk hy515
  clear hy515
  replace H := Option.bind_eq_some_iff.mp H
  obtain ⟨⟨t519, t520, t521⟩, A250, H⟩ := H
  replace H : ((dancestudioref07_Ints.f k t519 l0_2).bind fun t524 => (if t524 = true then (if t520 = (wrap64 ((t451.length : Int) - (t445.length : Int))) then (if t521 = 0 then ((dancestudiolaw07_awake.f k).bind fun t525 => (some t525)) else (none)) else (none)) else (none))) = some r := H
  have A25 := Aside0.mk A250
  clear A250
  replace H := Option.bind_eq_some_iff.mp H
  obtain ⟨t524, A260, H⟩ := H
  replace H : (if t524 = true then (if t520 = (wrap64 ((t451.length : Int) - (t445.length : Int))) then (if t521 = 0 then ((dancestudiolaw07_awake.f k).bind fun t525 => (some t525)) else (none)) else (none)) else (none)) = some r := H
  have A26 := Aside0.mk A260
  clear A260
  by_cases c27 : t524 = true
  ·
   subst c27
   have H1 : (if t520 = (wrap64 ((t451.length : Int) - (t445.length : Int))) then (if t521 = 0 then ((dancestudiolaw07_awake.f k).bind fun t525 => (some t525)) else (none)) else (none)) = some r := by rw [if_pos rfl] at H; exact H
   clear H
   have H := H1
   clear H1
   by_cases c28 : t520 = (wrap64 ((t451.length : Int) - (t445.length : Int))); rotate_left
   · rw [if_neg c28] at H; exact absurd H (by simp)
   rw [if_pos c28] at H
   have c28b0 : (t520 == (wrap64 ((t451.length : Int) - (t445.length : Int)))) = true := beq_iff_eq.mpr c28
   have c28b1 : (t520 != (wrap64 ((t451.length : Int) - (t445.length : Int)))) = false := bne_eq_false_iff_eq.mpr c28
   clear c28
   by_cases c29 : t521 = 0; rotate_left
   · rw [if_neg c29] at H; exact absurd H (by simp)
   rw [if_pos c29] at H
   have c29b0 : (t521 == 0) = true := beq_iff_eq.mpr c29
   have c29b1 : (t521 != 0) = false := bne_eq_false_iff_eq.mpr c29
   clear c29
   replace H := Option.bind_eq_some_iff.mp H
   obtain ⟨t525, A300, H⟩ := H
   replace H : (some t525) = some r := H
   have A30 := Aside0.mk A300
   clear A300
   obtain rfl := Option.some.inj H
   go_enter Try.func6, Try.ntmps6
   try go_wp2_with (first | ((with_reducible refine gate_dst (N := 2) rfl ?_); refine box_event ?hg (N := 2) ?hd (cs := #[.int .i64 a0_0, .string a0_1, .slice A0_2 l0_2.length c0_2]) (t := 42) ?hr ?_; (case hd => rfl); (case hg => rfl); (case hr => first | (go_simp; done) | (go_simp; rfl)); intro gb438 hg w31 hbox hb; have BK438 := Aside0.mk (hbox); have GW438 := Aside0.mk ((by rw [hg]; exact (below_size (by repeat with_reducible first | exact HB.out | apply bA | apply bN | apply bD)) : w.heap.size ≤ gb438)); have GE438 := GW438; replace HB := Aside0.mk (below_step (by repeat with_reducible first | exact HB.out | apply bA | apply bN | apply bD) hb); clear hb hbox hg; obtain ⟨hcz32_0, hcz32_1, hcz32_2, hfz32_0, hfz32_1, hfz32_2⟩ := kc3 BK438.out) | ((with_reducible refine gate_callee (f := 14) rfl ?_); refine goesL_ (some 16) rfl rfl Try.func14 (by kernel_rfl) rfl #[.slice none 0 0, .int .i64 a0_0] rfl (by (try simp only [List.map_toArray, List.map_cons, List.map_nil]); first | done | rfl | (simp only [List.length_drop, List.length_take]; rfl)) ?_; (refine (wire_PutInt.calls k _ _ ([] : List Int) a0_0 t439 _ ?side1 ?side2 A3.out).mono ?_); (case side1 => exact Kd.C_nil _ _); (case side2 => exact Nat.le_refl _); rintro e w33 ⟨v440, rfl, ho0, hb⟩; refine ⟨_, rfl, ?_⟩; have HO441 := Aside0.mk (Kd.R_lower ho0 (below_size (by repeat with_reducible first | exact HB.out | apply bA | apply bN | apply bD | refine bS ?_ GE438.out))); replace BK438 := Aside0.mk (blk_below (o := .cells #[.int .i64 a0_0, .string a0_1, .slice A0_2 l0_2.length c0_2] 42 (0, 0)) (by with_reducible repeat first | exact BK438.out | apply kN | apply kD | apply kA) hb); replace HB := Aside0.mk (below_step (by repeat with_reducible first | exact HB.out | apply bA | apply bN | apply bD | refine bS ?_ GE438.out) hb); (try clear hb); (try clear hb2); (try clear hk); (try clear hi); (try clear ho0)))
   have n0_ := Aside0.mk (Kd.R_drew HO441.out)
   have n1_ := Aside0.mk (blk_drew BK438.out)
   have n2_ := Aside0.mk (below_drew1 HB.out)
   clear HO441
   clear BK438
   clear HB
   have HO441 := n0_
   have BK438 := n1_
   have HB := n2_
   clear n0_ n1_ n2_
   obtain ⟨Ao35, co35, eo35⟩ := Kd.R_slice HO441.out
   (first | subst eo35 | (injection eo35 with f1_ f2_ f3_; have f4_ := f1_.symm; have f5_ := f3_.symm; clear f1_ f2_ f3_; subst f4_; subst f5_))
   refine start_ (n := 6) (S := fun w' => w'.cell? ⟨gb438, 0, none⟩ = some (.int .i64 a0_0) ∧ w'.cell? ⟨gb438, 1, none⟩ = some (.string a0_1) ∧ w'.cell? ⟨gb438, 2, none⟩ = some (.slice A0_2 l0_2.length c0_2)) (ds := []) (bm 6 0) (by kernel_rfl) rfl rfl ⟨(blk_cell BK438.out 0).trans rfl, (blk_cell BK438.out 1).trans rfl, (blk_cell BK438.out 2).trans rfl⟩ (fun hHeld => ?_)
   generalize w33.drew = w34 at HO441 BK438 HB hHeld ⊢
   refine pure_ (i := 0) (N := some 17) (v := ?_) (a' := ?_) (bm 6 1) rfl rfl (by kernel_rfl) (fun _ _ _ h => h) (Or.inl ⟨by rfl, ?_⟩) ?_ ?_
   rotate_left; (intro w'; go_simp; with_reducible rfl); rotate_left; (simp only [Act.put, aS, lZ, lS, i64_w, i32_w]; rfl)
   refine pure_ (i := 2) (N := some 19) (v := ?_) (a' := ?_) (bm 6 5) rfl rfl (by kernel_rfl) (fun _ _ _ h => h) (Or.inl ⟨by rfl, ?_⟩) ?_ ?_
   rotate_left; (intro w'; go_simp; with_reducible rfl); rotate_left; (simp only [Act.put, aS, lZ, lS, i64_w, i32_w]; rfl)
   refine take_ (i := 3) (N := some 20) (v := ?_) (a' := ?_) (bm 6 13) rfl rfl (by kernel_rfl) (fun _ _ _ h => h) (Or.inl ⟨by rfl, ?_⟩) hHeld ?_ ?_
   rotate_left
   ·
    rintro w' ⟨s0, s1, s2⟩
    go_simp
    with_reducible rfl
   rotate_left
   ·
    simp only [Act.put, aS, lZ, lS, i64_w, i32_w]
    rfl
   refine one_ (i := 1) (N := some 18) (bm 6 15) rfl rfl (by kernel_rfl) (by decide) (fun K hK => ?_)
   refine goes_ Try.func15 (by kernel_rfl) rfl #[.slice Ao35 t439.length co35] (by rfl) rfl rfl (by (try simp only [List.map_toArray, List.map_cons, List.map_nil]); first | done | rfl | (simp only [List.length_drop, List.length_take]; rfl)) ?_
   with_reducible refine (dancestudiolaw07_own.calls _ _ t439 t442 _ ?side1 ?side2 A4.out).mono ?_
   (case side1 => repeat (first | exact (Kd.R_reads' HO441.out).2.2 | (with_reducible first | apply cA | apply cN | apply cD)))
   (case side2 => exact (Kd.R_reads' HO441.out).2.1)
   rintro e w36 ⟨v443, rfl, ho0, hb⟩
   refine ⟨_, rfl, ?_⟩
   have n0_ := Aside0.mk (Kd.R_elder' (by (with_reducible repeat first | apply rA | apply rN | apply rD); exact HO441.out) (Kd.R_base ho0) hb)
   have n1_ := Aside0.mk (Kd.R_lower (Kd.R_new' ho0 (Kd.R_lt (by (with_reducible repeat first | apply rA | apply rN | apply rD); exact HO441.out))) (below_size (by repeat with_reducible first | exact HB.out | apply bA | apply bN | apply bD | refine bS ?_ GE438.out)))
   have n2_ := Aside0.mk (blk_below (o := .cells #[.int .i64 a0_0, .string a0_1, .slice A0_2 l0_2.length c0_2] 42 (0, 0)) (by with_reducible repeat first | exact BK438.out | apply kN | apply kD | apply kA) hb)
   have n3_ := Aside0.mk (below_step (by repeat with_reducible first | exact HB.out | apply bA | apply bN | apply bD | refine bS ?_ GE438.out) hb)
   clear HO441
   clear BK438
   clear HB
   have HO441 := n0_
   have HO444 := n1_
   have BK438 := n2_
   have HB := n3_
   clear n0_ n1_ n2_ n3_
   (try clear hb)
   (try clear hb2)
   (try clear hk)
   (try clear hi)
   (try clear ho0)
   obtain ⟨Ao37, co37, eo37⟩ := Kd.R_slice HO444.out
   (first | subst eo37 | (injection eo37 with f1_ f2_ f3_; have f4_ := f1_.symm; have f5_ := f3_.symm; clear f1_ f2_ f3_; subst f4_; subst f5_))
   refine hK.out _ _ ⟨(blk_cell BK438.out 0).trans rfl, (blk_cell BK438.out 1).trans rfl, (blk_cell BK438.out 2).trans rfl⟩ (fun hHeld => ?_)
   clear hK K
   refine norm_ (a' := ?_) ?_ ?_
   rotate_left
   ·
    show Act.put _ (some 18) _ = _
    simp only [Act.put, aS, lZ, lS, i64_w, i32_w]
    rfl
   refine one_ (i := 4) (N := some 21) (bm 6 31) rfl rfl (by kernel_rfl) (by decide) (fun K hK => ?_)
   refine goes_ Try.func20 (by kernel_rfl) rfl #[.slice Ao37 t442.length co37, .string a0_1] (by rfl) rfl rfl (by (try simp only [List.map_toArray, List.map_cons, List.map_nil]); first | done | rfl | (simp only [List.length_drop, List.length_take]; rfl)) ?_
   with_reducible refine (wire_PutText.calls k _ _ t442 a0_1 t445 _ ?side1 ?side2 A5.out).mono ?_
   (case side1 => repeat (first | exact (Kd.R_reads' HO444.out).2.2 | (with_reducible first | apply cA | apply cN | apply cD)))
   (case side2 => exact (Kd.R_reads' HO444.out).2.1)
   rintro e w38 ⟨v446, rfl, ho0, hb⟩
   refine ⟨_, rfl, ?_⟩
   have n0_ := Aside0.mk (Kd.R_elder' (by (with_reducible repeat first | apply rA | apply rN | apply rD); exact HO441.out) (Kd.R_base ho0) hb)
   have n1_ := Aside0.mk (Kd.R_elder' (by (with_reducible repeat first | apply rA | apply rN | apply rD); exact HO444.out) (Kd.R_base ho0) hb)
   have n2_ := Aside0.mk (Kd.R_lower (Kd.R_new' (Kd.R_new' ho0 (Kd.R_lt (by (with_reducible repeat first | apply rA | apply rN | apply rD); exact HO441.out))) (Kd.R_lt (by (with_reducible repeat first | apply rA | apply rN | apply rD); exact HO444.out))) (below_size (by repeat with_reducible first | exact HB.out | apply bA | apply bN | apply bD | refine bS ?_ GE438.out)))
   have n3_ := Aside0.mk (blk_below (o := .cells #[.int .i64 a0_0, .string a0_1, .slice A0_2 l0_2.length c0_2] 42 (0, 0)) (by with_reducible repeat first | exact BK438.out | apply kN | apply kD | apply kA) hb)
   have n4_ := Aside0.mk (below_step (by repeat with_reducible first | exact HB.out | apply bA | apply bN | apply bD | refine bS ?_ GE438.out) hb)
   clear HO441
   clear HO444
   clear BK438
   clear HB
   have HO441 := n0_
   have HO444 := n1_
   have HO447 := n2_
   have BK438 := n3_
   have HB := n4_
   clear n0_ n1_ n2_ n3_ n4_
   (try clear hb)
   (try clear hb2)
   (try clear hk)
   (try clear hi)
   (try clear ho0)
   refine hK.out _ _ ⟨(blk_cell BK438.out 0).trans rfl, (blk_cell BK438.out 1).trans rfl, (blk_cell BK438.out 2).trans rfl⟩ (fun hHeld => ?_)
   clear hK K
   refine norm_ (a' := ?_) ?_ ?_
   rotate_left
   ·
    show Act.put _ (some 21) _ = _
    simp only [Act.put, aS, lZ, lS, i64_w, i32_w]
    rfl
   refine pure_ (i := 5) (N := some 6) (v := ?_) (a' := ?_) (bm 6 63) rfl rfl (by kernel_rfl) (fun _ _ _ h => h) (Or.inl ⟨by rfl, ?_⟩) ?_ ?_
   rotate_left; (intro w'; go_simp; with_reducible rfl); rotate_left; (simp only [Act.put, aS, lZ, lS, i64_w, i32_w]; rfl)
   refine done_ (by kernel_rfl) ?_
   try go_wp2
   have n0_ := Aside0.mk (Kd.R_drew HO441.out)
   have n1_ := Aside0.mk (Kd.R_drew HO444.out)
   have n2_ := Aside0.mk (Kd.R_drew HO447.out)
   have n3_ := Aside0.mk (blk_drew BK438.out)
   have n4_ := Aside0.mk (below_drew1 HB.out)
   clear HO441
   clear HO444
   clear HO447
   clear BK438
   clear HB
   have HO441 := n0_
   have HO444 := n1_
   have HO447 := n2_
   have BK438 := n3_
   have HB := n4_
   clear n0_ n1_ n2_ n3_ n4_
   obtain ⟨Ao40, co40, eo40⟩ := Kd.R_slice HO447.out
   (first | subst eo40 | (injection eo40 with f1_ f2_ f3_; have f4_ := f1_.symm; have f5_ := f3_.symm; clear f1_ f2_ f3_; subst f4_; subst f5_))
   refine start_ (n := 6) (S := fun w' => w'.cell? ⟨gb438, 0, none⟩ = some (.int .i64 a0_0) ∧ w'.cell? ⟨gb438, 1, none⟩ = some (.string a0_1) ∧ w'.cell? ⟨gb438, 2, none⟩ = some (.slice A0_2 l0_2.length c0_2)) (ds := []) (bm 6 0) (by kernel_rfl) rfl rfl ⟨(blk_cell BK438.out 0).trans rfl, (blk_cell BK438.out 1).trans rfl, (blk_cell BK438.out 2).trans rfl⟩ (fun hHeld => ?_)
   generalize w38.drew = w39 at HO441 HO444 HO447 BK438 HB hHeld ⊢
   refine pure_ (i := 0) (N := some 22) (v := ?_) (a' := ?_) (bm 6 1) rfl rfl (by kernel_rfl) (fun _ _ _ h => h) (Or.inl ⟨by rfl, ?_⟩) ?_ ?_
   rotate_left; (intro w'; go_simp; with_reducible rfl); rotate_left; (simp only [Act.put, aS, lZ, lS, i64_w, i32_w]; rfl)
   refine pure_ (i := 2) (N := some 24) (v := ?_) (a' := ?_) (bm 6 5) rfl rfl (by kernel_rfl) (fun _ _ _ h => h) (Or.inl ⟨by rfl, ?_⟩) ?_ ?_
   rotate_left; (intro w'; go_simp; with_reducible rfl); rotate_left; (simp only [Act.put, aS, lZ, lS, i64_w, i32_w]; rfl)
   refine take_ (i := 3) (N := some 25) (v := ?_) (a' := ?_) (bm 6 13) rfl rfl (by kernel_rfl) (fun _ _ _ h => h) (Or.inl ⟨by rfl, ?_⟩) hHeld ?_ ?_
   rotate_left
   ·
    rintro w' ⟨s0, s1, s2⟩
    go_simp
    with_reducible rfl
   rotate_left
   ·
    simp only [Act.put, aS, lZ, lS, i64_w, i32_w]
    rfl
   refine one_ (i := 1) (N := some 23) (bm 6 15) rfl rfl (by kernel_rfl) (by decide) (fun K hK => ?_)
   refine goes_ Try.func15 (by kernel_rfl) rfl #[.slice Ao40 t445.length co40] (by rfl) rfl rfl (by (try simp only [List.map_toArray, List.map_cons, List.map_nil]); first | done | rfl | (simp only [List.length_drop, List.length_take]; rfl)) ?_
   with_reducible refine (dancestudiolaw07_own.calls _ _ t445 t448 _ ?side1 ?side2 A6.out).mono ?_
   (case side1 => repeat (first | exact (Kd.R_reads' HO447.out).2.2 | (with_reducible first | apply cA | apply cN | apply cD)))
   (case side2 => exact (Kd.R_reads' HO447.out).2.1)
   rintro e w41 ⟨v449, rfl, ho0, hb⟩
   refine ⟨_, rfl, ?_⟩
   have n0_ := Aside0.mk (Kd.R_elder' (by (with_reducible repeat first | apply rA | apply rN | apply rD); exact HO441.out) (Kd.R_base ho0) hb)
   have n1_ := Aside0.mk (Kd.R_elder' (by (with_reducible repeat first | apply rA | apply rN | apply rD); exact HO444.out) (Kd.R_base ho0) hb)
   have n2_ := Aside0.mk (Kd.R_elder' (by (with_reducible repeat first | apply rA | apply rN | apply rD); exact HO447.out) (Kd.R_base ho0) hb)
   have n3_ := Aside0.mk (Kd.R_lower (Kd.R_new' (Kd.R_new' (Kd.R_new' ho0 (Kd.R_lt (by (with_reducible repeat first | apply rA | apply rN | apply rD); exact HO441.out))) (Kd.R_lt (by (with_reducible repeat first | apply rA | apply rN | apply rD); exact HO444.out))) (Kd.R_lt (by (with_reducible repeat first | apply rA | apply rN | apply rD); exact HO447.out))) (below_size (by repeat with_reducible first | exact HB.out | apply bA | apply bN | apply bD | refine bS ?_ GE438.out)))
   have n4_ := Aside0.mk (blk_below (o := .cells #[.int .i64 a0_0, .string a0_1, .slice A0_2 l0_2.length c0_2] 42 (0, 0)) (by with_reducible repeat first | exact BK438.out | apply kN | apply kD | apply kA) hb)
   have n5_ := Aside0.mk (below_step (by repeat with_reducible first | exact HB.out | apply bA | apply bN | apply bD | refine bS ?_ GE438.out) hb)
   clear HO441
   clear HO444
   clear HO447
   clear BK438
   clear HB
   have HO441 := n0_
   have HO444 := n1_
   have HO447 := n2_
   have HO450 := n3_
   have BK438 := n4_
   have HB := n5_
   clear n0_ n1_ n2_ n3_ n4_ n5_
   (try clear hb)
   (try clear hb2)
   (try clear hk)
   (try clear hi)
   (try clear ho0)
   obtain ⟨Ao42, co42, eo42⟩ := Kd.R_slice HO450.out
   (first | subst eo42 | (injection eo42 with f1_ f2_ f3_; have f4_ := f1_.symm; have f5_ := f3_.symm; clear f1_ f2_ f3_; subst f4_; subst f5_))
   refine hK.out _ _ ⟨(blk_cell BK438.out 0).trans rfl, (blk_cell BK438.out 1).trans rfl, (blk_cell BK438.out 2).trans rfl⟩ (fun hHeld => ?_)
   clear hK K
   refine norm_ (a' := ?_) ?_ ?_
   rotate_left
   ·
    show Act.put _ (some 23) _ = _
    simp only [Act.put, aS, lZ, lS, i64_w, i32_w]
    rfl
   refine one_ (i := 4) (N := some 26) (bm 6 31) rfl rfl (by kernel_rfl) (by decide) (fun K hK => ?_)
   refine goes_ Try.func25 (by kernel_rfl) rfl #[.slice Ao42 t448.length co42, .slice A0_2 l0_2.length c0_2] (by rfl) rfl rfl (by (try simp only [List.map_toArray, List.map_cons, List.map_nil]); first | done | rfl | (simp only [List.length_drop, List.length_take]; rfl)) ?_
   with_reducible refine (wire_PutList.calls k _ _ t448 _ _ l0_2 t451 _ ?side1 ?side2 ?side3 ?side4 A7.out).mono ?_
   (case side1 => repeat (first | exact (Kd.R_reads' HO450.out).2.2 | (with_reducible first | apply cA | apply cN | apply cD)))
   (case side2 => exact (Kd.R_reads' HO450.out).2.1)
   (case side3 => repeat (first | exact (Kd.C_below HR0_2.out HB.out) | (with_reducible first | apply cA | apply cN | apply cD)))
   (case side4 => exact HC0_2.out)
   rintro e w43 ⟨v452, rfl, ho0, hb⟩
   refine ⟨_, rfl, ?_⟩
   have n0_ := Aside0.mk (Kd.R_elder' (by (with_reducible repeat first | apply rA | apply rN | apply rD); exact HO441.out) (Kd.R_base ho0) hb)
   have n1_ := Aside0.mk (Kd.R_elder' (by (with_reducible repeat first | apply rA | apply rN | apply rD); exact HO444.out) (Kd.R_base ho0) hb)
   have n2_ := Aside0.mk (Kd.R_elder' (by (with_reducible repeat first | apply rA | apply rN | apply rD); exact HO447.out) (Kd.R_base ho0) hb)
   have n3_ := Aside0.mk (Kd.R_elder' (by (with_reducible repeat first | apply rA | apply rN | apply rD); exact HO450.out) (Kd.R_base ho0) hb)
   have n4_ := Aside0.mk (Kd.R_lower (Kd.R_new' (Kd.R_new' (Kd.R_new' (Kd.R_new' ho0 (Kd.R_lt (by (with_reducible repeat first | apply rA | apply rN | apply rD); exact HO441.out))) (Kd.R_lt (by (with_reducible repeat first | apply rA | apply rN | apply rD); exact HO444.out))) (Kd.R_lt (by (with_reducible repeat first | apply rA | apply rN | apply rD); exact HO447.out))) (Kd.R_lt (by (with_reducible repeat first | apply rA | apply rN | apply rD); exact HO450.out))) (below_size (by repeat with_reducible first | exact HB.out | apply bA | apply bN | apply bD | refine bS ?_ GE438.out)))
   have n5_ := Aside0.mk (blk_below (o := .cells #[.int .i64 a0_0, .string a0_1, .slice A0_2 l0_2.length c0_2] 42 (0, 0)) (by with_reducible repeat first | exact BK438.out | apply kN | apply kD | apply kA) hb)
   have n6_ := Aside0.mk (below_step (by repeat with_reducible first | exact HB.out | apply bA | apply bN | apply bD | refine bS ?_ GE438.out) hb)
   clear HO441
   clear HO444
   clear HO447
   clear HO450
   clear BK438
   clear HB
   have HO441 := n0_
   have HO444 := n1_
   have HO447 := n2_
   have HO450 := n3_
   have HO453 := n4_
   have BK438 := n5_
   have HB := n6_
   clear n0_ n1_ n2_ n3_ n4_ n5_ n6_
   (try clear hb)
   (try clear hb2)
   (try clear hk)
   (try clear hi)
   (try clear ho0)
   refine hK.out _ _ ⟨(blk_cell BK438.out 0).trans rfl, (blk_cell BK438.out 1).trans rfl, (blk_cell BK438.out 2).trans rfl⟩ (fun hHeld => ?_)
   clear hK K
   refine norm_ (a' := ?_) ?_ ?_
   rotate_left
   ·
    show Act.put _ (some 26) _ = _
    simp only [Act.put, aS, lZ, lS, i64_w, i32_w]
    rfl
   refine pure_ (i := 5) (N := some 7) (v := ?_) (a' := ?_) (bm 6 63) rfl rfl (by kernel_rfl) (fun _ _ _ h => h) (Or.inl ⟨by rfl, ?_⟩) ?_ ?_
   rotate_left; (intro w'; go_simp; with_reducible rfl); rotate_left; (simp only [Act.put, aS, lZ, lS, i64_w, i32_w]; rfl)
   refine done_ (by kernel_rfl) ?_
   obtain ⟨Ao44, co44, eo44⟩ := Kd.R_slice HO453.out
   subst eo44
   try go_wp2_with (first | ((with_reducible refine gate_callee (f := 15) rfl ?_); refine goesL_ (some 45) rfl rfl Try.func15 (by kernel_rfl) rfl #[.slice Ao44 t451.length co44] rfl (by (try simp only [List.map_toArray, List.map_cons, List.map_nil]); first | done | rfl | (simp only [List.length_drop, List.length_take]; rfl)) ?_; (with_reducible refine (dancestudiolaw07_own.calls _ _ t451 t481 _ ?side1 ?side2 A11.out).mono ?_); (case side1 => repeat (first | exact (Kd.R_reads' HO453.out).2.2 | (with_reducible first | apply cA | apply cN | apply cD))); (case side2 => exact (Kd.R_reads' HO453.out).2.1); rintro e w45 ⟨v482, rfl, ho0, hb⟩; refine ⟨_, rfl, ?_⟩; have HO483 := Aside0.mk (Kd.R_lower (Kd.R_new' (Kd.R_new' (Kd.R_new' (Kd.R_new' (Kd.R_new' ho0 (Kd.R_lt (by (with_reducible repeat first | apply rA | apply rN | apply rD); exact HO441.out))) (Kd.R_lt (by (with_reducible repeat first | apply rA | apply rN | apply rD); exact HO444.out))) (Kd.R_lt (by (with_reducible repeat first | apply rA | apply rN | apply rD); exact HO447.out))) (Kd.R_lt (by (with_reducible repeat first | apply rA | apply rN | apply rD); exact HO450.out))) (Kd.R_lt (by (with_reducible repeat first | apply rA | apply rN | apply rD); exact HO453.out))) (below_size (by repeat with_reducible first | exact HB.out | apply bA | apply bN | apply bD | refine bS ?_ GE438.out))); replace HO441 := Aside0.mk (Kd.R_elder' (by (with_reducible repeat first | apply rA | apply rN | apply rD); exact HO441.out) (Kd.R_base ho0) hb); replace HO444 := Aside0.mk (Kd.R_elder' (by (with_reducible repeat first | apply rA | apply rN | apply rD); exact HO444.out) (Kd.R_base ho0) hb); replace HO447 := Aside0.mk (Kd.R_elder' (by (with_reducible repeat first | apply rA | apply rN | apply rD); exact HO447.out) (Kd.R_base ho0) hb); replace HO450 := Aside0.mk (Kd.R_elder' (by (with_reducible repeat first | apply rA | apply rN | apply rD); exact HO450.out) (Kd.R_base ho0) hb); replace HO453 := Aside0.mk (Kd.R_elder' (by (with_reducible repeat first | apply rA | apply rN | apply rD); exact HO453.out) (Kd.R_base ho0) hb); replace BK438 := Aside0.mk (blk_below (o := .cells #[.int .i64 a0_0, .string a0_1, .slice A0_2 l0_2.length c0_2] 42 (0, 0)) (by with_reducible repeat first | exact BK438.out | apply kN | apply kD | apply kA) hb); replace HB := Aside0.mk (below_step (by repeat with_reducible first | exact HB.out | apply bA | apply bN | apply bD | refine bS ?_ GE438.out) hb); (try clear hb); (try clear hb2); (try clear hk); (try clear hi); (try clear ho0)) | ((with_reducible refine gate_builtin (b := .append) (xs := #[.tmp 45, .tmp 46]) rfl ?_); at_builtin; refine Kd.R_append_rows (Kd.int .u8) (w0 := w) w.heap.size rfl (.tmp 45) (.tmp 46) 22 5 (.int .u8 0) 1 rfl Try.underlying22 info5 rfl (by decide) (by omega) v482 t481 l1 _ _ _ (fun k_ => some k_ ≠ (.slice Ao35 t439.length co35 : Value).ownBlock ∧ some k_ ≠ (.slice Ao37 t442.length co37 : Value).ownBlock ∧ some k_ ≠ (.slice Ao40 t445.length co40 : Value).ownBlock ∧ some k_ ≠ (.slice Ao42 t448.length co42 : Value).ownBlock ∧ some k_ ≠ (.slice Ao44 t451.length co44 : Value).ownBlock) (fun _ => False) rfl rfl ?aO ?aR (fun _ _ h => h) (fun _ h => h.elim) ?aF ?aB ?aS ?aL ?_; (case aR => repeat (first | exact (Kd.C_below HR1.out HB.out) | (with_reducible first | apply cA | apply cN | apply cD))); (case aB => exact (by repeat with_reducible first | exact HB.out | apply bA | apply bN | apply bD | refine bS ?_ GE438.out)); (case aF => exact (fun k_ hk => ⟨Kd.fresh' (Kd.R_lt (by (with_reducible repeat first | apply rA | apply rN | apply rD); exact HO441.out)) k_ hk, Kd.fresh' (Kd.R_lt (by (with_reducible repeat first | apply rA | apply rN | apply rD); exact HO444.out)) k_ hk, Kd.fresh' (Kd.R_lt (by (with_reducible repeat first | apply rA | apply rN | apply rD); exact HO447.out)) k_ hk, Kd.fresh' (Kd.R_lt (by (with_reducible repeat first | apply rA | apply rN | apply rD); exact HO450.out)) k_ hk, Kd.fresh' (Kd.R_lt (by (with_reducible repeat first | apply rA | apply rN | apply rD); exact HO453.out)) k_ hk⟩)); (case aO => exact (by (with_reducible repeat first | apply rA | apply rN | apply rD); exact Kd.R_mono HO483.out (fun _ hk => ⟨hk.1.1.1.1.2, ⟨hk.1.1.1.2, ⟨hk.1.1.2, ⟨hk.1.2, hk.2⟩⟩⟩⟩))); (case aS => exact (below_size (by repeat with_reducible first | exact HB.out | apply bA | apply bN | apply bD | refine bS ?_ GE438.out))); (case aL => have := LMc12.out; omega); intro v485 w46 ho hb hg hat; rw [← Ny484.out] at ho; replace BK438 := Aside0.mk (blk_grown (g := gb438) (o := .cells #[.int .i64 a0_0, .string a0_1, .slice A0_2 l0_2.length c0_2] 42 (0, 0)) (by with_reducible repeat first | exact BK438.out | apply kN | apply kD | apply kA) hg (Kd.R_ne HO483.out BK438.out (by decide))); replace HO441 := Aside0.mk (Kd.R_after (ok := (fun k_ => some k_ ≠ (.slice Ao37 t442.length co37 : Value).ownBlock ∧ some k_ ≠ (.slice Ao40 t445.length co40 : Value).ownBlock ∧ some k_ ≠ (.slice Ao42 t448.length co42 : Value).ownBlock ∧ some k_ ≠ (.slice Ao44 t451.length co44 : Value).ownBlock)) (by (with_reducible repeat first | apply rA | apply rN | apply rD); exact Kd.R_mono HO441.out (fun _ hk => ⟨⟨hk.1.1.1.1.2, ⟨hk.1.1.1.2, ⟨hk.1.1.2, hk.1.2⟩⟩⟩, hk.2⟩)) hg hat); replace HO444 := Aside0.mk (Kd.R_after (ok := (fun k_ => some k_ ≠ (.slice Ao35 t439.length co35 : Value).ownBlock ∧ some k_ ≠ (.slice Ao40 t445.length co40 : Value).ownBlock ∧ some k_ ≠ (.slice Ao42 t448.length co42 : Value).ownBlock ∧ some k_ ≠ (.slice Ao44 t451.length co44 : Value).ownBlock)) (by (with_reducible repeat first | apply rA | apply rN | apply rD); exact Kd.R_mono HO444.out (fun _ hk => ⟨⟨hk.1.1.1.1.2, ⟨hk.1.1.1.2, ⟨hk.1.1.2, hk.1.2⟩⟩⟩, hk.2⟩)) hg hat); replace HO447 := Aside0.mk (Kd.R_after (ok := (fun k_ => some k_ ≠ (.slice Ao35 t439.length co35 : Value).ownBlock ∧ some k_ ≠ (.slice Ao37 t442.length co37 : Value).ownBlock ∧ some k_ ≠ (.slice Ao42 t448.length co42 : Value).ownBlock ∧ some k_ ≠ (.slice Ao44 t451.length co44 : Value).ownBlock)) (by (with_reducible repeat first | apply rA | apply rN | apply rD); exact Kd.R_mono HO447.out (fun _ hk => ⟨⟨hk.1.1.1.1.2, ⟨hk.1.1.1.2, ⟨hk.1.1.2, hk.1.2⟩⟩⟩, hk.2⟩)) hg hat); replace HO450 := Aside0.mk (Kd.R_after (ok := (fun k_ => some k_ ≠ (.slice Ao35 t439.length co35 : Value).ownBlock ∧ some k_ ≠ (.slice Ao37 t442.length co37 : Value).ownBlock ∧ some k_ ≠ (.slice Ao40 t445.length co40 : Value).ownBlock ∧ some k_ ≠ (.slice Ao44 t451.length co44 : Value).ownBlock)) (by (with_reducible repeat first | apply rA | apply rN | apply rD); exact Kd.R_mono HO450.out (fun _ hk => ⟨⟨hk.1.1.1.1.2, ⟨hk.1.1.1.2, ⟨hk.1.1.2, hk.1.2⟩⟩⟩, hk.2⟩)) hg hat); replace HO453 := Aside0.mk (Kd.R_after (ok := (fun k_ => some k_ ≠ (.slice Ao35 t439.length co35 : Value).ownBlock ∧ some k_ ≠ (.slice Ao37 t442.length co37 : Value).ownBlock ∧ some k_ ≠ (.slice Ao40 t445.length co40 : Value).ownBlock ∧ some k_ ≠ (.slice Ao42 t448.length co42 : Value).ownBlock)) (by (with_reducible repeat first | apply rA | apply rN | apply rD); exact Kd.R_mono HO453.out (fun _ hk => ⟨⟨hk.1.1.1.1.2, ⟨hk.1.1.1.2, ⟨hk.1.1.2, hk.1.2⟩⟩⟩, hk.2⟩)) hg hat); replace HB := Aside0.mk (hb); have HO486 := Aside0.mk (ho); clear HO483; clear ho hb hg hat; obtain ⟨Ao47, co47, eo47⟩ := Kd.R_slice HO486.out; subst eo47) | ((with_reducible refine gate_callee (f := 11) rfl ?_); refine goesL_ (some 50) rfl rfl Try.func11 (by kernel_rfl) rfl #[.slice Ao47 y484.length co47] rfl (by (try simp only [List.map_toArray, List.map_cons, List.map_nil]); first | done | rfl | (simp only [List.length_drop, List.length_take]; rfl)) ?_; (with_reducible refine (wire_TakeInt.calls k _ _ y484 t487 t488 t489 _ ?side1 ?side2 A13.out).mono ?_); (case side1 => repeat (first | exact (Kd.R_reads' HO486.out).2.2 | (with_reducible first | apply cA | apply cN | apply cD))); (case side2 => exact (Kd.R_reads' HO486.out).2.1); rintro e w' ⟨rfl, ⟨nd, rfl⟩⟩; refine ⟨_, rfl, ?_⟩; obtain ⟨hcz48_0, hcz48_1, hcz48_2, hfz48_0, hfz48_1, hfz48_2⟩ := kc3 BK438.out))
   (try (rw [drewN_self w46]; (repeat rw [World.drewN_drewN]); generalize hq_ : World.drewN w46 _ = w46; have n0_ : Aside0 (Kd.R (Kd.int .u8) 5 w46 w.heap.size (fun k_ => some k_ ≠ (.slice Ao37 t442.length co37 : Value).ownBlock ∧ some k_ ≠ (.slice Ao40 t445.length co40 : Value).ownBlock ∧ some k_ ≠ (.slice Ao42 t448.length co42 : Value).ownBlock ∧ some k_ ≠ (.slice Ao44 t451.length co44 : Value).ownBlock ∧ some k_ ≠ (.slice Ao47 y484.length co47 : Value).ownBlock) (.slice Ao35 t439.length co35) t439) := ⟨by rw [← hq_]; exact (by (with_reducible repeat first | apply rA | apply rN | apply rD); first | exact HO441.out | exact Kd.R_mono HO441.out (fun _ hk => ⟨hk.1.1, ⟨hk.1.2.1, ⟨hk.1.2.2.1, ⟨hk.1.2.2.2, hk.2⟩⟩⟩⟩))⟩; have n1_ : Aside0 (Kd.R (Kd.int .u8) 5 w46 w.heap.size (fun k_ => some k_ ≠ (.slice Ao35 t439.length co35 : Value).ownBlock ∧ some k_ ≠ (.slice Ao40 t445.length co40 : Value).ownBlock ∧ some k_ ≠ (.slice Ao42 t448.length co42 : Value).ownBlock ∧ some k_ ≠ (.slice Ao44 t451.length co44 : Value).ownBlock ∧ some k_ ≠ (.slice Ao47 y484.length co47 : Value).ownBlock) (.slice Ao37 t442.length co37) t442) := ⟨by rw [← hq_]; exact (by (with_reducible repeat first | apply rA | apply rN | apply rD); first | exact HO444.out | exact Kd.R_mono HO444.out (fun _ hk => ⟨hk.1.1, ⟨hk.1.2.1, ⟨hk.1.2.2.1, ⟨hk.1.2.2.2, hk.2⟩⟩⟩⟩))⟩; have n2_ : Aside0 (Kd.R (Kd.int .u8) 5 w46 w.heap.size (fun k_ => some k_ ≠ (.slice Ao35 t439.length co35 : Value).ownBlock ∧ some k_ ≠ (.slice Ao37 t442.length co37 : Value).ownBlock ∧ some k_ ≠ (.slice Ao42 t448.length co42 : Value).ownBlock ∧ some k_ ≠ (.slice Ao44 t451.length co44 : Value).ownBlock ∧ some k_ ≠ (.slice Ao47 y484.length co47 : Value).ownBlock) (.slice Ao40 t445.length co40) t445) := ⟨by rw [← hq_]; exact (by (with_reducible repeat first | apply rA | apply rN | apply rD); first | exact HO447.out | exact Kd.R_mono HO447.out (fun _ hk => ⟨hk.1.1, ⟨hk.1.2.1, ⟨hk.1.2.2.1, ⟨hk.1.2.2.2, hk.2⟩⟩⟩⟩))⟩; have n3_ : Aside0 (Kd.R (Kd.int .u8) 5 w46 w.heap.size (fun k_ => some k_ ≠ (.slice Ao35 t439.length co35 : Value).ownBlock ∧ some k_ ≠ (.slice Ao37 t442.length co37 : Value).ownBlock ∧ some k_ ≠ (.slice Ao40 t445.length co40 : Value).ownBlock ∧ some k_ ≠ (.slice Ao44 t451.length co44 : Value).ownBlock ∧ some k_ ≠ (.slice Ao47 y484.length co47 : Value).ownBlock) (.slice Ao42 t448.length co42) t448) := ⟨by rw [← hq_]; exact (by (with_reducible repeat first | apply rA | apply rN | apply rD); first | exact HO450.out | exact Kd.R_mono HO450.out (fun _ hk => ⟨hk.1.1, ⟨hk.1.2.1, ⟨hk.1.2.2.1, ⟨hk.1.2.2.2, hk.2⟩⟩⟩⟩))⟩; have n4_ : Aside0 (Kd.R (Kd.int .u8) 5 w46 w.heap.size (fun k_ => some k_ ≠ (.slice Ao35 t439.length co35 : Value).ownBlock ∧ some k_ ≠ (.slice Ao37 t442.length co37 : Value).ownBlock ∧ some k_ ≠ (.slice Ao40 t445.length co40 : Value).ownBlock ∧ some k_ ≠ (.slice Ao42 t448.length co42 : Value).ownBlock ∧ some k_ ≠ (.slice Ao47 y484.length co47 : Value).ownBlock) (.slice Ao44 t451.length co44) t451) := ⟨by rw [← hq_]; exact (by (with_reducible repeat first | apply rA | apply rN | apply rD); first | exact HO453.out | exact Kd.R_mono HO453.out (fun _ hk => ⟨hk.1.1, ⟨hk.1.2.1, ⟨hk.1.2.2.1, ⟨hk.1.2.2.2, hk.2⟩⟩⟩⟩))⟩; have n5_ : Aside0 (Kd.R (Kd.int .u8) 5 w46 w.heap.size (fun k_ => some k_ ≠ (.slice Ao35 t439.length co35 : Value).ownBlock ∧ some k_ ≠ (.slice Ao37 t442.length co37 : Value).ownBlock ∧ some k_ ≠ (.slice Ao40 t445.length co40 : Value).ownBlock ∧ some k_ ≠ (.slice Ao42 t448.length co42 : Value).ownBlock ∧ some k_ ≠ (.slice Ao44 t451.length co44 : Value).ownBlock) (.slice Ao47 y484.length co47) y484) := ⟨by rw [← hq_]; exact (by (with_reducible repeat first | apply rA | apply rN | apply rD); exact HO486.out)⟩; have n6_ : Aside0 (w46.heap[gb438]? = some (.cells #[.int .i64 a0_0, .string a0_1, .slice A0_2 l0_2.length c0_2] 42 (0, 0))) := ⟨by rw [← hq_]; exact (by with_reducible repeat first | exact BK438.out | apply kN | apply kD | apply kA)⟩; have n7_ : Aside0 (Below w.heap.size w w46) := ⟨by rw [← hq_]; exact (by repeat with_reducible first | exact HB.out | apply bA | apply bN | apply bD | refine bS ?_ GE438.out)⟩; clear HO441 HO444 HO447 HO450 HO453 HO486 BK438 HB hq_; have HO441 := n0_; have HO444 := n1_; have HO447 := n2_; have HO450 := n3_; have HO453 := n4_; have HO486 := n5_; have BK438 := n6_; have HB := n7_; clear n0_ n1_ n2_ n3_ n4_ n5_ n6_ n7_))
   have n0_ := Aside0.mk (Kd.R_drew HO441.out)
   have n1_ := Aside0.mk (Kd.R_drew HO444.out)
   have n2_ := Aside0.mk (Kd.R_drew HO447.out)
   have n3_ := Aside0.mk (Kd.R_drew HO450.out)
   have n4_ := Aside0.mk (Kd.R_drew HO453.out)
   have n5_ := Aside0.mk (Kd.R_drew HO486.out)
   have n6_ := Aside0.mk (blk_drew BK438.out)
   have n7_ := Aside0.mk (below_drew1 HB.out)
   clear HO441
   clear HO444
   clear HO447
   clear HO450
   clear HO453
   clear HO486
   clear BK438
   clear HB
   have HO441 := n0_
   have HO444 := n1_
   have HO447 := n2_
   have HO450 := n3_
   have HO453 := n4_
   have HO486 := n5_
   have BK438 := n6_
   have HB := n7_
   clear n0_ n1_ n2_ n3_ n4_ n5_ n6_ n7_
   have q50 : ((t439.length : Int) : Int) ≤ ((y484.length : Int) : Int) := of_decide_eq_true (by first | (with_reducible assumption) | assumption)
   obtain ⟨i050, hi050, _, hsz50, _⟩ := info_parts info5
   have hroom50 : y484.length ≤ co47 := (Kd.R_reads' HO486.out).2.1
   have hC50 : Kd.C (Kd.int .u8) _ Ao47 y484.length y484 := (Kd.R_reads' HO486.out).2.2
   have q050 : (0 : Int) ≤ ((t439.length : Int) : Int) := of_decide_eq_true (by first | (with_reducible assumption) | assumption)
   have hcut50 := cut_from (P := Try.prog) 22 5 .i64 Try.underlying22 hi050 1 hsz50 Ao47 y484.length co47 (t439.length : Int) q050 q50
   have hr50 := Kd.C_drop (m := ((t439.length : Int) : Int).toNat) (c := co47) hC50 (by omega) hroom50
   obtain ⟨A50, hA50⟩ : ∃ A1, A1 = (if co47 = ((t439.length : Int) : Int).toNat then Ao47 else (Ao47 : Option Addr).map (·.add (((t439.length : Int) : Int).toNat * 1))) := ⟨_, rfl⟩
   obtain ⟨c50, hc50⟩ : ∃ c1, c1 = co47 - ((t439.length : Int) : Int).toNat := ⟨_, rfl⟩
   have hy50 : y508.length = y484.length - ((t439.length : Int) : Int).toNat := (by rw [Ny508.out, List.length_drop] <;> omega)
   rw [show (y484).drop ((t439.length : Int) : Int).toNat = y508 from Ny508.out.symm] at hr50
   replace hr50 : Kd.C (Kd.int .u8) _ A50 y508.length y508 := (by rw [hA50]; exact hr50)
   rw [← hy50, ← hA50, ← hc50] at hcut50
   have HR511 := Aside0.mk hr50
   have HC511 := Aside0.mk (show y508.length ≤ c50 from by rw [hy50, hc50]; exact Nat.sub_le_sub_right hroom50 _)
   clear hr50 hC50 hroom50 hi050 hsz50 hc50
   have KY50 := Aside0.mk hy50
   have KA50 := Aside0.mk hA50
   clear hy50 hA50
   have KL50 := Aside0.mk (show ((t439.length : Int) : Int).toNat ≤ y484.length from by omega)
   replace q50 := eq_true q50
   refine start_ (n := 15) (S := fun w' => w'.cell? ⟨gb438, 0, none⟩ = some (.int .i64 a0_0) ∧ w'.cell? ⟨gb438, 1, none⟩ = some (.string a0_1) ∧ w'.cell? ⟨gb438, 2, none⟩ = some (.slice A0_2 l0_2.length c0_2)) (ds := []) (bm 15 0) (by kernel_rfl) rfl rfl ⟨(blk_cell BK438.out 0).trans rfl, (blk_cell BK438.out 1).trans rfl, (blk_cell BK438.out 2).trans rfl⟩ (fun hHeld => ?_); refine with_tabW dancestudiolaw07_WireRoundTrip.tab10 dancestudiolaw07_WireRoundTrip.bits10 (fun HT_ HW_ => ?_)
   generalize w46.drew = w49 at HO441 HO444 HO447 HO450 HO453 HO486 BK438 HB HR511 hHeld ⊢
   refine pure_ (i := 0) (N := some 69) (v := ?_) (a' := ?_) (bm 15 1) rfl rfl (any_of HT_.out (by kernel_rfl)) (fun _ _ _ h => h) (Or.inl ⟨by rfl, ?_⟩) ?_ ?_
   rotate_left; (intro w'; go_simp; with_reducible rfl); rotate_left; (simp only [Act.put, aS, lZ, lS, i64_w, i32_w]; rfl)
   refine pure_ (i := 1) (N := some 70) (v := ?_) (a' := ?_) (bm 15 3) rfl rfl (any_of HT_.out (by kernel_rfl)) (fun _ _ _ h => h) (Or.inl ⟨by rfl, ?_⟩) ?_ ?_
   rotate_left; (intro w'; go_simp; with_reducible rfl); rotate_left; (simp only [Act.put, aS, lZ, lS, i64_w, i32_w]; rfl)
   refine pure_ (i := 2) (N := some 71) (v := ?_) (a' := ?_) (bm 15 7) rfl rfl (any_of HT_.out (by kernel_rfl)) (fun _ _ _ h => h) (Or.inl ⟨by rfl, ?_⟩) ?_ ?_
   rotate_left; (intro w'; go_simp; with_reducible rfl); rotate_left; (simp only [Act.put, aS, lZ, lS, i64_w, i32_w]; rfl)
   refine pure_ (i := 3) (N := some 72) (v := ?_) (a' := ?_) (bm 15 15) rfl rfl (any_of HT_.out (by kernel_rfl)) (fun _ _ _ h => h) (Or.inl ⟨by rfl, ?_⟩) ?_ ?_
   rotate_left; (intro w'; go_simp; with_reducible rfl); rotate_left; (simp only [Act.put, aS, lZ, lS, i64_w, i32_w]; rfl)
   refine pure_ (i := 4) (N := some 73) (v := ?_) (a' := ?_) (bm 15 31) rfl rfl (any_of HT_.out (by kernel_rfl)) (fun _ _ _ h => h) (Or.inl ⟨by rfl, ?_⟩) ?_ ?_
   rotate_left; (intro w'; go_simp; with_reducible rfl); rotate_left; (simp only [Act.put, aS, lZ, lS, i64_w, i32_w]; rfl)
   refine take_ (i := 5) (N := some 74) (v := ?_) (a' := ?_) (bm 15 63) rfl rfl (take_ofW HT_.out HW_.out (by kernel_rfl)) (fun _ _ _ h => h) (Or.inl ⟨by rfl, ?_⟩) hHeld ?_ ?_
   rotate_left
   ·
    rintro w' ⟨s0, s1, s2⟩
    go_simp
    with_reducible rfl
   rotate_left
   ·
    simp only [Act.put, aS, lZ, lS, i64_w, i32_w]
    rfl
   refine pure_ (i := 6) (N := some 75) (v := ?_) (a' := ?_) (bm 15 127) rfl rfl (any_of HT_.out (by kernel_rfl)) (fun _ _ _ h => h) (Or.inl ⟨by rfl, ?_⟩) ?_ ?_
   rotate_left; (intro w'; go_simp; with_reducible rfl); rotate_left; (simp only [Act.put, aS, lZ, lS, i64_w, i32_w]; rfl)
   refine one_ (i := 7) (N := some 76) (bm 15 255) rfl rfl (one_of HT_.out (by kernel_rfl)) (by decide) (fun K hK => ?_)
   refine goes_ Try.func18 (by kernel_rfl) rfl #[.slice A50 y508.length c50, .int .i64 (a0_1.size : Int)] (by rfl) rfl rfl (by (try simp only [List.map_toArray, List.map_cons, List.map_nil]); first | done | rfl | (simp only [List.length_drop, List.length_take]; rfl)) ?_
   with_reducible refine (wire_TakeText.calls k _ _ y508 (a0_1.size : Int) t512 t513 t514 _ ?side1 ?side2 A19.out).mono ?_
   (case side1 => repeat (first | exact (by repeat (first | (with_reducible exact HR511.out) | (with_reducible first | apply cA | apply cN | apply cD) | exact HR511.out)) | (with_reducible first | apply cA | apply cN | apply cD)))
   (case side2 => exact HC511.out)
   rintro e w' ⟨rfl, ⟨nd, rfl⟩⟩
   refine ⟨_, rfl, ?_⟩
   refine hK.out _ _ ⟨(blk_cell BK438.out 0).trans rfl, (blk_cell BK438.out 1).trans rfl, (blk_cell BK438.out 2).trans rfl⟩ (fun hHeld => ?_)
   clear hK K
   refine norm_ (a' := ?_) ?_ ?_
   rotate_left
   ·
    show Act.put _ (some 76) _ = _
    simp only [Act.put, aS, lZ, lS, i64_w, i32_w]
    rfl
   refine pure_ (i := 8) (N := some 68) (v := ?_) (a' := ?_) (bm 15 511) rfl rfl (any_of HT_.out (by kernel_rfl)) (fun _ _ _ h => h) (Or.inl ⟨by rfl, ?_⟩) ?_ ?_
   rotate_left; (intro w'; go_simp; with_reducible rfl); rotate_left; (simp only [Act.put, aS, lZ, lS, i64_w, i32_w]; rfl)
   refine pure_ (i := 9) (N := some 77) (v := ?_) (a' := ?_) (bm 15 1023) rfl rfl (any_of HT_.out (by kernel_rfl)) (fun _ _ _ h => h) (Or.inl ⟨by rfl, ?_⟩) ?_ ?_
   rotate_left; (intro w'; go_simp; with_reducible rfl); rotate_left; (simp only [Act.put, aS, lZ, lS, i64_w, i32_w]; rfl)
   refine pure_ (i := 10) (N := some 78) (v := ?_) (a' := ?_) (bm 15 2047) rfl rfl (any_of HT_.out (by kernel_rfl)) (fun _ _ _ h => h) (Or.inl ⟨by rfl, ?_⟩) ?_ ?_
   rotate_left; (intro w'; go_simp; with_reducible rfl); rotate_left; (simp only [Act.put, aS, lZ, lS, i64_w, i32_w]; rfl)
   refine pure_ (i := 11) (N := some 79) (v := ?_) (a' := ?_) (bm 15 4095) rfl rfl (any_of HT_.out (by kernel_rfl)) (fun _ _ _ h => h) (Or.inl ⟨by rfl, ?_⟩) ?_ ?_
   rotate_left; (intro w'; go_simp; with_reducible rfl); rotate_left; (simp only [Act.put, aS, lZ, lS, i64_w, i32_w]; rfl)
   refine pure_ (i := 12) (N := some 12) (v := ?_) (a' := ?_) (bm 15 8191) rfl rfl (any_of HT_.out (by kernel_rfl)) (fun _ _ _ h => h) (Or.inl ⟨by rfl, ?_⟩) ?_ ?_
   rotate_left; (intro w'; go_simp; with_reducible rfl); rotate_left; (simp only [Act.put, aS, lZ, lS, i64_w, i32_w]; rfl)
   refine pure_ (i := 13) (N := some 10) (v := ?_) (a' := ?_) (bm 15 16383) rfl rfl (any_of HT_.out (by kernel_rfl)) (fun _ _ _ h => h) (Or.inl ⟨by rfl, ?_⟩) ?_ ?_
   rotate_left; (intro w'; go_simp; with_reducible rfl); rotate_left; (simp only [Act.put, aS, lZ, lS, i64_w, i32_w]; rfl)
   refine pure_ (i := 14) (N := some 11) (v := ?_) (a' := ?_) (bm 15 32767) rfl rfl (any_of HT_.out (by kernel_rfl)) (fun _ _ _ h => h) (Or.inl ⟨by rfl, ?_⟩) ?_ ?_
   rotate_left; (intro w'; go_simp; with_reducible rfl); rotate_left; (simp only [Act.put, aS, lZ, lS, i64_w, i32_w]; rfl)
   refine done_ (done_of HT_.out (by kernel_rfl)) ?_
   obtain ⟨hcz51_0, hcz51_1, hcz51_2, hfz51_0, hfz51_1, hfz51_2⟩ := kc3 BK438.out
   try go_wp2
   (try (rw [drewN_self w49]; (repeat rw [World.drewN_drewN]); generalize hq_ : World.drewN w49 _ = w49; have n0_ : Aside0 (Kd.R (Kd.int .u8) 5 w49 w.heap.size (fun k_ => some k_ ≠ (.slice Ao37 t442.length co37 : Value).ownBlock ∧ some k_ ≠ (.slice Ao40 t445.length co40 : Value).ownBlock ∧ some k_ ≠ (.slice Ao42 t448.length co42 : Value).ownBlock ∧ some k_ ≠ (.slice Ao44 t451.length co44 : Value).ownBlock ∧ some k_ ≠ (.slice Ao47 y484.length co47 : Value).ownBlock) (.slice Ao35 t439.length co35) t439) := ⟨by rw [← hq_]; exact (by (with_reducible repeat first | apply rA | apply rN | apply rD); first | exact HO441.out | exact Kd.R_mono HO441.out (fun _ hk => ⟨hk.1.1, ⟨hk.1.2.1, ⟨hk.1.2.2.1, ⟨hk.1.2.2.2, hk.2⟩⟩⟩⟩))⟩; have n1_ : Aside0 (Kd.R (Kd.int .u8) 5 w49 w.heap.size (fun k_ => some k_ ≠ (.slice Ao35 t439.length co35 : Value).ownBlock ∧ some k_ ≠ (.slice Ao40 t445.length co40 : Value).ownBlock ∧ some k_ ≠ (.slice Ao42 t448.length co42 : Value).ownBlock ∧ some k_ ≠ (.slice Ao44 t451.length co44 : Value).ownBlock ∧ some k_ ≠ (.slice Ao47 y484.length co47 : Value).ownBlock) (.slice Ao37 t442.length co37) t442) := ⟨by rw [← hq_]; exact (by (with_reducible repeat first | apply rA | apply rN | apply rD); first | exact HO444.out | exact Kd.R_mono HO444.out (fun _ hk => ⟨hk.1.1, ⟨hk.1.2.1, ⟨hk.1.2.2.1, ⟨hk.1.2.2.2, hk.2⟩⟩⟩⟩))⟩; have n2_ : Aside0 (Kd.R (Kd.int .u8) 5 w49 w.heap.size (fun k_ => some k_ ≠ (.slice Ao35 t439.length co35 : Value).ownBlock ∧ some k_ ≠ (.slice Ao37 t442.length co37 : Value).ownBlock ∧ some k_ ≠ (.slice Ao42 t448.length co42 : Value).ownBlock ∧ some k_ ≠ (.slice Ao44 t451.length co44 : Value).ownBlock ∧ some k_ ≠ (.slice Ao47 y484.length co47 : Value).ownBlock) (.slice Ao40 t445.length co40) t445) := ⟨by rw [← hq_]; exact (by (with_reducible repeat first | apply rA | apply rN | apply rD); first | exact HO447.out | exact Kd.R_mono HO447.out (fun _ hk => ⟨hk.1.1, ⟨hk.1.2.1, ⟨hk.1.2.2.1, ⟨hk.1.2.2.2, hk.2⟩⟩⟩⟩))⟩; have n3_ : Aside0 (Kd.R (Kd.int .u8) 5 w49 w.heap.size (fun k_ => some k_ ≠ (.slice Ao35 t439.length co35 : Value).ownBlock ∧ some k_ ≠ (.slice Ao37 t442.length co37 : Value).ownBlock ∧ some k_ ≠ (.slice Ao40 t445.length co40 : Value).ownBlock ∧ some k_ ≠ (.slice Ao44 t451.length co44 : Value).ownBlock ∧ some k_ ≠ (.slice Ao47 y484.length co47 : Value).ownBlock) (.slice Ao42 t448.length co42) t448) := ⟨by rw [← hq_]; exact (by (with_reducible repeat first | apply rA | apply rN | apply rD); first | exact HO450.out | exact Kd.R_mono HO450.out (fun _ hk => ⟨hk.1.1, ⟨hk.1.2.1, ⟨hk.1.2.2.1, ⟨hk.1.2.2.2, hk.2⟩⟩⟩⟩))⟩; have n4_ : Aside0 (Kd.R (Kd.int .u8) 5 w49 w.heap.size (fun k_ => some k_ ≠ (.slice Ao35 t439.length co35 : Value).ownBlock ∧ some k_ ≠ (.slice Ao37 t442.length co37 : Value).ownBlock ∧ some k_ ≠ (.slice Ao40 t445.length co40 : Value).ownBlock ∧ some k_ ≠ (.slice Ao42 t448.length co42 : Value).ownBlock ∧ some k_ ≠ (.slice Ao47 y484.length co47 : Value).ownBlock) (.slice Ao44 t451.length co44) t451) := ⟨by rw [← hq_]; exact (by (with_reducible repeat first | apply rA | apply rN | apply rD); first | exact HO453.out | exact Kd.R_mono HO453.out (fun _ hk => ⟨hk.1.1, ⟨hk.1.2.1, ⟨hk.1.2.2.1, ⟨hk.1.2.2.2, hk.2⟩⟩⟩⟩))⟩; have n5_ : Aside0 (Kd.R (Kd.int .u8) 5 w49 w.heap.size (fun k_ => some k_ ≠ (.slice Ao35 t439.length co35 : Value).ownBlock ∧ some k_ ≠ (.slice Ao37 t442.length co37 : Value).ownBlock ∧ some k_ ≠ (.slice Ao40 t445.length co40 : Value).ownBlock ∧ some k_ ≠ (.slice Ao42 t448.length co42 : Value).ownBlock ∧ some k_ ≠ (.slice Ao44 t451.length co44 : Value).ownBlock) (.slice Ao47 y484.length co47) y484) := ⟨by rw [← hq_]; exact (by (with_reducible repeat first | apply rA | apply rN | apply rD); exact HO486.out)⟩; have n6_ : Aside0 (w49.heap[gb438]? = some (.cells #[.int .i64 a0_0, .string a0_1, .slice A0_2 l0_2.length c0_2] 42 (0, 0))) := ⟨by rw [← hq_]; exact (by with_reducible repeat first | exact BK438.out | apply kN | apply kD | apply kA)⟩; have n7_ : Aside0 (Below w.heap.size w w49) := ⟨by rw [← hq_]; exact (by repeat with_reducible first | exact HB.out | apply bA | apply bN | apply bD | refine bS ?_ GE438.out)⟩; have n8_ : Aside0 (Kd.C (Kd.int .u8) w49 A50 y508.length y508) := ⟨by rw [← hq_]; exact (by repeat (first | (with_reducible exact HR511.out) | (with_reducible first | apply cA | apply cN | apply cD) | exact HR511.out))⟩; clear HO441 HO444 HO447 HO450 HO453 HO486 BK438 HB HR511 hq_; have HO441 := n0_; have HO444 := n1_; have HO447 := n2_; have HO450 := n3_; have HO453 := n4_; have HO486 := n5_; have BK438 := n6_; have HB := n7_; have HR511 := n8_; clear n0_ n1_ n2_ n3_ n4_ n5_ n6_ n7_ n8_))
   have n0_ := Aside0.mk (Kd.R_drew HO441.out)
   have n1_ := Aside0.mk (Kd.R_drew HO444.out)
   have n2_ := Aside0.mk (Kd.R_drew HO447.out)
   have n3_ := Aside0.mk (Kd.R_drew HO450.out)
   have n4_ := Aside0.mk (Kd.R_drew HO453.out)
   have n5_ := Aside0.mk (Kd.R_drew HO486.out)
   have n6_ := Aside0.mk (blk_drew BK438.out)
   have n7_ := Aside0.mk (Kd.C_drew HR511.out)
   have n8_ := Aside0.mk (below_drew1 HB.out)
   clear HO441
   clear HO444
   clear HO447
   clear HO450
   clear HO453
   clear HO486
   clear BK438
   clear HR511
   clear HB
   have HO441 := n0_
   have HO444 := n1_
   have HO447 := n2_
   have HO450 := n3_
   have HO453 := n4_
   have HO486 := n5_
   have BK438 := n6_
   have HR511 := n7_
   have HB := n8_
   clear n0_ n1_ n2_ n3_ n4_ n5_ n6_ n7_ n8_
   have q53 : ((t445.length : Int) : Int) ≤ ((y484.length : Int) : Int) := of_decide_eq_true (by first | (with_reducible assumption) | assumption)
   obtain ⟨i053, hi053, _, hsz53, _⟩ := info_parts info5
   have hroom53 : y484.length ≤ co47 := (Kd.R_reads' HO486.out).2.1
   have hC53 : Kd.C (Kd.int .u8) _ Ao47 y484.length y484 := (Kd.R_reads' HO486.out).2.2
   have q053 : (0 : Int) ≤ ((t445.length : Int) : Int) := of_decide_eq_true (by first | (with_reducible assumption) | assumption)
   have hcut53 := cut_from (P := Try.prog) 22 5 .i64 Try.underlying22 hi053 1 hsz53 Ao47 y484.length co47 (t445.length : Int) q053 q53
   have hr53 := Kd.C_drop (m := ((t445.length : Int) : Int).toNat) (c := co47) hC53 (by omega) hroom53
   obtain ⟨A53, hA53⟩ : ∃ A1, A1 = (if co47 = ((t445.length : Int) : Int).toNat then Ao47 else (Ao47 : Option Addr).map (·.add (((t445.length : Int) : Int).toNat * 1))) := ⟨_, rfl⟩
   obtain ⟨c53, hc53⟩ : ∃ c1, c1 = co47 - ((t445.length : Int) : Int).toNat := ⟨_, rfl⟩
   have hy53 : y515.length = y484.length - ((t445.length : Int) : Int).toNat := (by rw [Ny515.out, List.length_drop] <;> omega)
   rw [show (y484).drop ((t445.length : Int) : Int).toNat = y515 from Ny515.out.symm] at hr53
   replace hr53 : Kd.C (Kd.int .u8) _ A53 y515.length y515 := (by rw [hA53]; exact hr53)
   rw [← hy53, ← hA53, ← hc53] at hcut53
   have HR518 := Aside0.mk hr53
   have HC518 := Aside0.mk (show y515.length ≤ c53 from by rw [hy53, hc53]; exact Nat.sub_le_sub_right hroom53 _)
   clear hr53 hC53 hroom53 hi053 hsz53 hc53
   have KY53 := Aside0.mk hy53
   have KA53 := Aside0.mk hA53
   clear hy53 hA53
   have KL53 := Aside0.mk (show ((t445.length : Int) : Int).toNat ≤ y484.length from by omega)
   replace q53 := eq_true q53
   refine start_ (n := 15) (S := fun w' => w'.cell? ⟨gb438, 0, none⟩ = some (.int .i64 a0_0) ∧ w'.cell? ⟨gb438, 1, none⟩ = some (.string a0_1) ∧ w'.cell? ⟨gb438, 2, none⟩ = some (.slice A0_2 l0_2.length c0_2)) (ds := []) (bm 15 0) (by kernel_rfl) rfl rfl ⟨(blk_cell BK438.out 0).trans rfl, (blk_cell BK438.out 1).trans rfl, (blk_cell BK438.out 2).trans rfl⟩ (fun hHeld => ?_); refine with_tabW dancestudiolaw07_WireRoundTrip.tab13 dancestudiolaw07_WireRoundTrip.bits13 (fun HT_ HW_ => ?_)
   generalize w49.drew = w52 at HO441 HO444 HO447 HO450 HO453 HO486 BK438 HR511 HB HR518 hHeld ⊢
   refine pure_ (i := 0) (N := some 98) (v := ?_) (a' := ?_) (bm 15 1) rfl rfl (any_of HT_.out (by kernel_rfl)) (fun _ _ _ h => h) (Or.inl ⟨by rfl, ?_⟩) ?_ ?_
   rotate_left; (intro w'; go_simp; with_reducible rfl); rotate_left; (simp only [Act.put, aS, lZ, lS, i64_w, i32_w]; rfl)
   refine pure_ (i := 1) (N := some 99) (v := ?_) (a' := ?_) (bm 15 3) rfl rfl (any_of HT_.out (by kernel_rfl)) (fun _ _ _ h => h) (Or.inl ⟨by rfl, ?_⟩) ?_ ?_
   rotate_left; (intro w'; go_simp; with_reducible rfl); rotate_left; (simp only [Act.put, aS, lZ, lS, i64_w, i32_w]; rfl)
   refine pure_ (i := 2) (N := some 100) (v := ?_) (a' := ?_) (bm 15 7) rfl rfl (any_of HT_.out (by kernel_rfl)) (fun _ _ _ h => h) (Or.inl ⟨by rfl, ?_⟩) ?_ ?_
   rotate_left; (intro w'; go_simp; with_reducible rfl); rotate_left; (simp only [Act.put, aS, lZ, lS, i64_w, i32_w]; rfl)
   refine pure_ (i := 3) (N := some 101) (v := ?_) (a' := ?_) (bm 15 15) rfl rfl (any_of HT_.out (by kernel_rfl)) (fun _ _ _ h => h) (Or.inl ⟨by rfl, ?_⟩) ?_ ?_
   rotate_left; (intro w'; go_simp; with_reducible rfl); rotate_left; (simp only [Act.put, aS, lZ, lS, i64_w, i32_w]; rfl)
   refine pure_ (i := 4) (N := some 102) (v := ?_) (a' := ?_) (bm 15 31) rfl rfl (any_of HT_.out (by kernel_rfl)) (fun _ _ _ h => h) (Or.inl ⟨by rfl, ?_⟩) ?_ ?_
   rotate_left; (intro w'; go_simp; with_reducible rfl); rotate_left; (simp only [Act.put, aS, lZ, lS, i64_w, i32_w]; rfl)
   refine take_ (i := 5) (N := some 103) (v := ?_) (a' := ?_) (bm 15 63) rfl rfl (take_ofW HT_.out HW_.out (by kernel_rfl)) (fun _ _ _ h => h) (Or.inl ⟨by rfl, ?_⟩) hHeld ?_ ?_
   rotate_left
   ·
    rintro w' ⟨s0, s1, s2⟩
    go_simp
    with_reducible rfl
   rotate_left
   ·
    simp only [Act.put, aS, lZ, lS, i64_w, i32_w]
    rfl
   refine pure_ (i := 6) (N := some 104) (v := ?_) (a' := ?_) (bm 15 127) rfl rfl (any_of HT_.out (by kernel_rfl)) (fun _ _ _ h => h) (Or.inl ⟨by rfl, ?_⟩) ?_ ?_
   rotate_left; (intro w'; go_simp; with_reducible rfl); rotate_left; (simp only [Act.put, aS, lZ, lS, i64_w, i32_w]; rfl)
   refine one_ (i := 7) (N := some 105) (bm 15 255) rfl rfl (one_of HT_.out (by kernel_rfl)) (by decide) (fun K hK => ?_)
   refine goes_ Try.func22 (by kernel_rfl) rfl #[.slice A53 y515.length c53, .int .i64 (l0_2.length : Int)] (by rfl) rfl rfl (by (try simp only [List.map_toArray, List.map_cons, List.map_nil]); first | done | rfl | (simp only [List.length_drop, List.length_take]; rfl)) ?_
   with_reducible refine (wire_TakeList.calls k _ _ y515 (l0_2.length : Int) t519 t520 t521 _ ?side1 ?side2 A25.out).mono ?_
   (case side1 => repeat (first | exact (by repeat (first | (with_reducible exact HR518.out) | (with_reducible first | apply cA | apply cN | apply cD) | exact HR518.out)) | (with_reducible first | apply cA | apply cN | apply cD)))
   (case side2 => exact HC518.out)
   rintro e w54 ⟨v522, rfl, ho0, hb⟩
   refine ⟨_, rfl, ?_⟩
   have n0_ := Aside0.mk (Kd.R_below (by (with_reducible repeat first | apply rA | apply rN | apply rD); exact HO441.out) hb)
   have n1_ := Aside0.mk (Kd.R_below (by (with_reducible repeat first | apply rA | apply rN | apply rD); exact HO444.out) hb)
   have n2_ := Aside0.mk (Kd.R_below (by (with_reducible repeat first | apply rA | apply rN | apply rD); exact HO447.out) hb)
   have n3_ := Aside0.mk (Kd.R_below (by (with_reducible repeat first | apply rA | apply rN | apply rD); exact HO450.out) hb)
   have n4_ := Aside0.mk (Kd.R_below (by (with_reducible repeat first | apply rA | apply rN | apply rD); exact HO453.out) hb)
   have n5_ := Aside0.mk (Kd.R_below (by (with_reducible repeat first | apply rA | apply rN | apply rD); exact HO486.out) hb)
   have n6_ := Aside0.mk (Kd.R_lower ho0 (below_size (by repeat with_reducible first | exact HB.out | apply bA | apply bN | apply bD | refine bS ?_ GE438.out)))
   have n7_ := Aside0.mk (blk_below (o := .cells #[.int .i64 a0_0, .string a0_1, .slice A0_2 l0_2.length c0_2] 42 (0, 0)) (by with_reducible repeat first | exact BK438.out | apply kN | apply kD | apply kA) hb)
   have n8_ := Aside0.mk (Kd.C_below (by repeat (first | (with_reducible exact HR511.out) | (with_reducible first | apply cA | apply cN | apply cD) | exact HR511.out)) hb)
   have n9_ := Aside0.mk (Kd.C_below (by repeat (first | (with_reducible exact HR518.out) | (with_reducible first | apply cA | apply cN | apply cD) | exact HR518.out)) hb)
   have n10_ := Aside0.mk (below_step (by repeat with_reducible first | exact HB.out | apply bA | apply bN | apply bD | refine bS ?_ GE438.out) hb)
   clear HO441
   clear HO444
   clear HO447
   clear HO450
   clear HO453
   clear HO486
   clear BK438
   clear HR511
   clear HR518
   clear HB
   have HO441 := n0_
   have HO444 := n1_
   have HO447 := n2_
   have HO450 := n3_
   have HO453 := n4_
   have HO486 := n5_
   have HO523 := n6_
   have BK438 := n7_
   have HR511 := n8_
   have HR518 := n9_
   have HB := n10_
   clear n0_ n1_ n2_ n3_ n4_ n5_ n6_ n7_ n8_ n9_ n10_
   (try clear hb)
   (try clear hb2)
   (try clear hk)
   (try clear hi)
   (try clear ho0)
   refine hK.out _ _ ⟨(blk_cell BK438.out 0).trans rfl, (blk_cell BK438.out 1).trans rfl, (blk_cell BK438.out 2).trans rfl⟩ (fun hHeld => ?_)
   clear hK K
   refine norm_ (a' := ?_) ?_ ?_
   rotate_left
   ·
    show Act.put _ (some 105) _ = _
    simp only [Act.put, aS, lZ, lS, i64_w, i32_w]
    rfl
   refine pure_ (i := 8) (N := some 97) (v := ?_) (a' := ?_) (bm 15 511) rfl rfl (any_of HT_.out (by kernel_rfl)) (fun _ _ _ h => h) (Or.inl ⟨by rfl, ?_⟩) ?_ ?_
   rotate_left; (intro w'; go_simp; with_reducible rfl); rotate_left; (simp only [Act.put, aS, lZ, lS, i64_w, i32_w]; rfl)
   refine pure_ (i := 9) (N := some 106) (v := ?_) (a' := ?_) (bm 15 1023) rfl rfl (any_of HT_.out (by kernel_rfl)) (fun _ _ _ h => h) (Or.inl ⟨by rfl, ?_⟩) ?_ ?_
   rotate_left; (intro w'; go_simp; with_reducible rfl); rotate_left; (simp only [Act.put, aS, lZ, lS, i64_w, i32_w]; rfl)
   refine pure_ (i := 10) (N := some 107) (v := ?_) (a' := ?_) (bm 15 2047) rfl rfl (any_of HT_.out (by kernel_rfl)) (fun _ _ _ h => h) (Or.inl ⟨by rfl, ?_⟩) ?_ ?_
   rotate_left; (intro w'; go_simp; with_reducible rfl); rotate_left; (simp only [Act.put, aS, lZ, lS, i64_w, i32_w]; rfl)
   refine pure_ (i := 11) (N := some 108) (v := ?_) (a' := ?_) (bm 15 4095) rfl rfl (any_of HT_.out (by kernel_rfl)) (fun _ _ _ h => h) (Or.inl ⟨by rfl, ?_⟩) ?_ ?_
   rotate_left; (intro w'; go_simp; with_reducible rfl); rotate_left; (simp only [Act.put, aS, lZ, lS, i64_w, i32_w]; rfl)
   refine pure_ (i := 12) (N := some 13) (v := ?_) (a' := ?_) (bm 15 8191) rfl rfl (any_of HT_.out (by kernel_rfl)) (fun _ _ _ h => h) (Or.inl ⟨by rfl, ?_⟩) ?_ ?_
   rotate_left; (intro w'; go_simp; with_reducible rfl); rotate_left; (simp only [Act.put, aS, lZ, lS, i64_w, i32_w]; rfl)
   refine pure_ (i := 13) (N := some 10) (v := ?_) (a' := ?_) (bm 15 16383) rfl rfl (any_of HT_.out (by kernel_rfl)) (fun _ _ _ h => h) (Or.inl ⟨by rfl, ?_⟩) ?_ ?_
   rotate_left; (intro w'; go_simp; with_reducible rfl); rotate_left; (simp only [Act.put, aS, lZ, lS, i64_w, i32_w]; rfl)
   refine pure_ (i := 14) (N := some 11) (v := ?_) (a' := ?_) (bm 15 32767) rfl rfl (any_of HT_.out (by kernel_rfl)) (fun _ _ _ h => h) (Or.inl ⟨by rfl, ?_⟩) ?_ ?_
   rotate_left; (intro w'; go_simp; with_reducible rfl); rotate_left; (simp only [Act.put, aS, lZ, lS, i64_w, i32_w]; rfl)
   refine done_ (done_of HT_.out (by kernel_rfl)) ?_
   obtain ⟨hcz55_0, hcz55_1, hcz55_2, hfz55_0, hfz55_1, hfz55_2⟩ := kc3 BK438.out
   obtain ⟨Ao56, co56, eo56⟩ := Kd.R_slice HO523.out
   subst eo56
   try go_wp2_with (first | ((with_reducible refine gate_callee (f := 24) rfl ?_); refine goesL_ (some 112) rfl rfl Try.func24 (by kernel_rfl) rfl #[.slice Ao56 t519.length co56, .slice A0_2 l0_2.length c0_2] rfl (by (try simp only [List.map_toArray, List.map_cons, List.map_nil]); first | done | rfl | (simp only [List.length_drop, List.length_take]; rfl)) ?_; (with_reducible refine (dancestudioref07_Ints.calls k _ _ t519 _ _ l0_2 true _ ?side1 ?side2 ?side3 ?side4 A26.out).mono ?_); (case side1 => repeat (first | exact (Kd.R_reads' HO523.out).2.2 | (with_reducible first | apply cA | apply cN | apply cD))); (case side2 => exact (Kd.R_reads' HO523.out).2.1); (case side3 => repeat (first | exact (Kd.C_below HR0_2.out HB.out) | (with_reducible first | apply cA | apply cN | apply cD))); (case side4 => exact HC0_2.out); rintro e w' ⟨rfl, ⟨nd, rfl⟩⟩; refine ⟨_, rfl, ?_⟩) | (go_at_call 17; (with_reducible refine (dancestudiolaw07_awake.calls k  t525 _ A30.out).mono ?_); rintro e w57 ⟨rfl, hb⟩; replace HO441 := Aside0.mk (Kd.R_below (by (with_reducible repeat first | apply rA | apply rN | apply rD); exact HO441.out) hb); replace HO444 := Aside0.mk (Kd.R_below (by (with_reducible repeat first | apply rA | apply rN | apply rD); exact HO444.out) hb); replace HO447 := Aside0.mk (Kd.R_below (by (with_reducible repeat first | apply rA | apply rN | apply rD); exact HO447.out) hb); replace HO450 := Aside0.mk (Kd.R_below (by (with_reducible repeat first | apply rA | apply rN | apply rD); exact HO450.out) hb); replace HO453 := Aside0.mk (Kd.R_below (by (with_reducible repeat first | apply rA | apply rN | apply rD); exact HO453.out) hb); replace HO486 := Aside0.mk (Kd.R_below (by (with_reducible repeat first | apply rA | apply rN | apply rD); exact HO486.out) hb); replace HO523 := Aside0.mk (Kd.R_below (by (with_reducible repeat first | apply rA | apply rN | apply rD); exact HO523.out) hb); replace BK438 := Aside0.mk (blk_below (o := .cells #[.int .i64 a0_0, .string a0_1, .slice A0_2 l0_2.length c0_2] 42 (0, 0)) (by with_reducible repeat first | exact BK438.out | apply kN | apply kD | apply kA) hb); replace HR511 := Aside0.mk (Kd.C_below (by repeat (first | (with_reducible exact HR511.out) | (with_reducible first | apply cA | apply cN | apply cD) | exact HR511.out)) hb); replace HR518 := Aside0.mk (Kd.C_below (by repeat (first | (with_reducible exact HR518.out) | (with_reducible first | apply cA | apply cN | apply cD) | exact HR518.out)) hb); replace HB := Aside0.mk (below_step (by repeat with_reducible first | exact HB.out | apply bA | apply bN | apply bD | refine bS ?_ GE438.out) hb); (try clear hb); (try clear hb2); (try clear hk); (try clear hi)))
   go_ret
   exact ⟨by first | rfl | (simp [errW_none, errW_some] <;> rfl) | (simp [*, errW_none, errW_some] <;> rfl), by repeat with_reducible first | exact HB.out | apply bA | apply bN | apply bD | refine bS ?_ GE438.out⟩
  ·
   replace c27 := Bool.eq_false_iff.mpr c27
   subst c27
   have H1 : (none) = some r := by rw [if_neg (show ¬ (false = true) by decide)] at H; exact H
   clear H
   have H := H1
   clear H1
   exact absurd H (by simp)
 ·
  rw [if_neg c12] at H
  exact absurd H (by simp)

end Go.Proofs.Ytmmnhokejadgaaa.X
