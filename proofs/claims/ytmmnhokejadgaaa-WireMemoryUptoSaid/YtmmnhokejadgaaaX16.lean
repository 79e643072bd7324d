-- squeezed
-- written by xprint.py, an own overlay over the kit's print; not trusted: Lean checks it
import Derived.Test.YtmmnhokejadgaaaX0
import Derived.Test.YtmmnhokejadgaaaX1
import Derived.Test.YtmmnhokejadgaaaX4
import Derived.Test.YtmmnhokejadgaaaX5
import Derived.Test.YtmmnhokejadgaaaX10
import Derived.Test.YtmmnhokejadgaaaX11
import Derived.Test.YtmmnhokejadgaaaX12
import Derived.Test.YtmmnhokejadgaaaX13
import Derived.Test.YtmmnhokejadgaaaX15
namespace Go.Proofs.Ytmmnhokejadgaaa.X
open Go.RowKit Go.Proofs.YtmmnhokejadgaaaW.PrintWords Go.Proofs.YtmmnhokejadgaaaW.PrintLast Go.Proofs.YtmmnhokejadgaaaW.PrintMore
attribute [local go_sem] max2_int min2_int max_two min_two max_three min_three max_four min_four   -- for this text's walks alone
set_option linter.unusedVariables false
set_option linter.unusedSimpArgs false

/-! ### dancestudiolaw07_WireMemory: function 10 -/
mutual
def dancestudiolaw07_WireMemory.l0 : Nat → List Int → List Int → List Int → List Int → List Int → List Int → Int → Int → ByteArray → List Int → Option (Bool)
 | 0, _, _, _, _, _, _, _, _, _, _ => none
 | k + 1, x1, x5, x6, x7, x8, x9, x10, x332000, x332001, x332002 => if x10 < 12 then (if 0 ≤ (wrap64 ((x1.length : Int) + x10)) then (if (wrap64 ((x1.length : Int) + x10)) < (x5.length : Int) then (if (rd x5 (wrap64 ((x1.length : Int) + x10))) = ((wrap64 (x10 + 1)) % 256) then (dancestudiolaw07_WireMemory.l0 k x1 x5 x6 x7 x8 x9 (wrap64 (x10 + 1)) x332000 x332001 x332002) else (none)) else (none)) else (none)) else (if (x7.length : Int) < (x1.length : Int) then (none) else (if (x8.length : Int) < (x1.length : Int) then (none) else (if (x9.length : Int) < (x1.length : Int) then (none) else (dancestudiolaw07_WireMemory.l1 k x1 x5 x6 x7 x8 x9 0 x332000 x332001 x332002))))
def dancestudiolaw07_WireMemory.l1 : Nat → List Int → List Int → List Int → List Int → List Int → List Int → Int → Int → ByteArray → List Int → Option (Bool)
 | 0, _, _, _, _, _, _, _, _, _, _ => none
 | k + 1, x1, x5, x6, x7, x8, x9, x11, x332000, x332001, x332002 => if x11 < (x1.length : Int) then (if 0 ≤ x11 then (if x11 < (x7.length : Int) then (if x11 < (x8.length : Int) then (if x11 < (x9.length : Int) then (dancestudiolaw07_WireMemory.l1 k x1 x5 x6 (x7.set (x11 : Int).toNat (((rd x7 x11) + 1) % 256)) (x8.set (x11 : Int).toNat (((rd x8 x11) + 2) % 256)) (x9.set (x11 : Int).toNat (((rd x9 x11) + 3) % 256)) (wrap64 (x11 + 1)) x332000 x332001 x332002) else (none)) else (none)) else (none)) else (none)) else (if 0 ≤ (x1.length : Int) then (if (x1.length : Int) ≤ (x9.length : Int) then ((wire_TakeList.f k (x9.drop ((x1.length : Int) : Int).toNat) (x332002.length : Int)).bind fun bt365 => (dancestudiolaw07_WireMemory.l2 k x1 x5 x6 x9 bt365.1 bt365.2.2 (x1.length : Int) x332000 x332001 x332002)) else (none)) else (none))
def dancestudiolaw07_WireMemory.l2 : Nat → List Int → List Int → List Int → List Int → List Int → Int → Int → Int → ByteArray → List Int → Option (Bool)
 | 0, _, _, _, _, _, _, _, _, _, _ => none
 | k + 1, x1, x5, x6, x9, x12, x14, x15, x332000, x332001, x332002 => if x15 < (x9.length : Int) then (if 0 ≤ x15 then (dancestudiolaw07_WireMemory.l2 k x1 x5 x6 (x9.set (x15 : Int).toNat 0) x12 x14 (wrap64 (x15 + 1)) x332000 x332001 x332002) else (none)) else ((dancestudioref07_Bytes.f x6 x1).bind fun t371 => (if t371 = true then (if x14 = 0 then ((dancestudioref07_Ints.f k x12 x332002).bind fun t372 => (if t372 = true then ((dancestudiolaw07_awake.f k).bind fun t373 => (some t373)) else (none))) else (none)) else (none)))
end
def dancestudiolaw07_WireMemory.f (k : Nat) (a0_0 : Int) (a0_1 : ByteArray) (l0_2 : List Int) (l1 : List Int) : Option (Bool) := (dancestudiolaw07_own.f l1).bind fun t332 => ((some (([1, 2, 3, 4, 5, 6, 7, 8, 9, 10, 11, 12] : List Int) : List Int)).bind fun y335 => (if t332.length + y335.length < 140737488355328 then ((some (t332 ++ y335 : List Int)).bind fun y338 => (if 0 ≤ (l1.length : Int) then (if (l1.length : Int) ≤ (y338.length : Int) then ((some (y338.take ((l1.length : Int) : Int).toNat : List Int)).bind fun y341 => ((wire_PutInt.f k y341 a0_0).bind fun t345 => ((wire_PutText.f k y341 a0_1).bind fun t348 => ((wire_PutList.f k y341 l0_2).bind fun t351 => (dancestudiolaw07_WireMemory.l0 k l1 y338 y341 t345 t348 t351 0 a0_0 a0_1 l0_2))))) else (none)) else (none))) else (none)))
theorem dancestudiolaw07_WireMemory.mono_l : ∀ k, (∀ y0 y1 y2 y3 y4 y5 y6 y7 y8 y9, LeO (dancestudiolaw07_WireMemory.l0 k y0 y1 y2 y3 y4 y5 y6 y7 y8 y9) (dancestudiolaw07_WireMemory.l0 (k + 1) y0 y1 y2 y3 y4 y5 y6 y7 y8 y9)) ∧ (∀ y0 y1 y2 y3 y4 y5 y6 y7 y8 y9, LeO (dancestudiolaw07_WireMemory.l1 k y0 y1 y2 y3 y4 y5 y6 y7 y8 y9) (dancestudiolaw07_WireMemory.l1 (k + 1) y0 y1 y2 y3 y4 y5 y6 y7 y8 y9)) ∧ (∀ y0 y1 y2 y3 y4 y5 y6 y7 y8 y9, LeO (dancestudiolaw07_WireMemory.l2 k y0 y1 y2 y3 y4 y5 y6 y7 y8 y9) (dancestudiolaw07_WireMemory.l2 (k + 1) y0 y1 y2 y3 y4 y5 y6 y7 y8 y9))
 | 0 => ⟨fun _ _ _ _ _ _ _ _ _ _ r h => by simp [dancestudiolaw07_WireMemory.l0] at h, fun _ _ _ _ _ _ _ _ _ _ r h => by simp [dancestudiolaw07_WireMemory.l1] at h, fun _ _ _ _ _ _ _ _ _ _ r h => by simp [dancestudiolaw07_WireMemory.l2] at h⟩
 | k + 1 => by
  obtain ⟨ih0, ih1, ih2⟩ := dancestudiolaw07_WireMemory.mono_l k
  refine ⟨?_, ?_, ?_⟩
  ·
   intro y0 y1 y2 y3 y4 y5 y6 y7 y8 y9
   unfold dancestudiolaw07_WireMemory.l0
   repeat' first
   | (with_reducible exact ih0 _ _ _ _ _ _ _ _ _ _)
   | (with_reducible exact ih1 _ _ _ _ _ _ _ _ _ _)
   | (with_reducible exact ih2 _ _ _ _ _ _ _ _ _ _)
   | (with_reducible exact dancestudiolaw07_awake.mono _)
   | (with_reducible exact dancestudioref07_Ints.mono _ _ _)
   | (with_reducible exact wire_PutInt.mono _ _ _)
   | (with_reducible exact wire_PutList.mono _ _ _)
   | (with_reducible exact wire_PutText.mono _ _ _)
   | (with_reducible exact wire_TakeList.mono _ _ _)
   | (with_reducible exact LeO.refl _)
   | (with_reducible exact LeO.none _)
   | (with_reducible refine LeO.ite ?_ ?_)
   | (with_reducible refine LeO.bind ?_ (fun _ => ?_))
   | exact ih0 _ _ _ _ _ _ _ _ _ _
   | exact ih1 _ _ _ _ _ _ _ _ _ _
   | exact ih2 _ _ _ _ _ _ _ _ _ _
   | exact dancestudiolaw07_awake.mono _
   | exact dancestudioref07_Ints.mono _ _ _
   | exact wire_PutInt.mono _ _ _
   | exact wire_PutList.mono _ _ _
   | exact wire_PutText.mono _ _ _
   | exact wire_TakeList.mono _ _ _
   | exact LeO.none _
   | refine LeO.ite ?_ ?_
   | refine LeO.bind ?_ (fun _ => ?_)
  ·
   intro y0 y1 y2 y3 y4 y5 y6 y7 y8 y9
   unfold dancestudiolaw07_WireMemory.l1
   repeat' first
   | (with_reducible exact ih0 _ _ _ _ _ _ _ _ _ _)
   | (with_reducible exact ih1 _ _ _ _ _ _ _ _ _ _)
   | (with_reducible exact ih2 _ _ _ _ _ _ _ _ _ _)
   | (with_reducible exact dancestudiolaw07_awake.mono _)
   | (with_reducible exact dancestudioref07_Ints.mono _ _ _)
   | (with_reducible exact wire_PutInt.mono _ _ _)
   | (with_reducible exact wire_PutList.mono _ _ _)
   | (with_reducible exact wire_PutText.mono _ _ _)
   | (with_reducible exact wire_TakeList.mono _ _ _)
   | (with_reducible exact LeO.refl _)
   | (with_reducible exact LeO.none _)
   | (with_reducible refine LeO.ite ?_ ?_)
   | (with_reducible refine LeO.bind ?_ (fun _ => ?_))
   | exact ih0 _ _ _ _ _ _ _ _ _ _
   | exact ih1 _ _ _ _ _ _ _ _ _ _
   | exact ih2 _ _ _ _ _ _ _ _ _ _
   | exact dancestudiolaw07_awake.mono _
   | exact dancestudioref07_Ints.mono _ _ _
   | exact wire_PutInt.mono _ _ _
   | exact wire_PutList.mono _ _ _
   | exact wire_PutText.mono _ _ _
   | exact wire_TakeList.mono _ _ _
   | exact LeO.none _
   | refine LeO.ite ?_ ?_
   | refine LeO.bind ?_ (fun _ => ?_)
  ·
   intro y0 y1 y2 y3 y4 y5 y6 y7 y8 y9
   unfold dancestudiolaw07_WireMemory.l2
   repeat' first
   | (with_reducible exact ih0 _ _ _ _ _ _ _ _ _ _)
   | (with_reducible exact ih1 _ _ _ _ _ _ _ _ _ _)
   | (with_reducible exact ih2 _ _ _ _ _ _ _ _ _ _)
   | (with_reducible exact dancestudiolaw07_awake.mono _)
   | (with_reducible exact dancestudioref07_Ints.mono _ _ _)
   | (with_reducible exact wire_PutInt.mono _ _ _)
   | (with_reducible exact wire_PutList.mono _ _ _)
   | (with_reducible exact wire_PutText.mono _ _ _)
   | (with_reducible exact wire_TakeList.mono _ _ _)
   | (with_reducible exact LeO.refl _)
   | (with_reducible exact LeO.none _)
   | (with_reducible refine LeO.ite ?_ ?_)
   | (with_reducible refine LeO.bind ?_ (fun _ => ?_))
   | exact ih0 _ _ _ _ _ _ _ _ _ _
   | exact ih1 _ _ _ _ _ _ _ _ _ _
   | exact ih2 _ _ _ _ _ _ _ _ _ _
   | exact dancestudiolaw07_awake.mono _
   | exact dancestudioref07_Ints.mono _ _ _
   | exact wire_PutInt.mono _ _ _
   | exact wire_PutList.mono _ _ _
   | exact wire_PutText.mono _ _ _
   | exact wire_TakeList.mono _ _ _
   | exact LeO.none _
   | refine LeO.ite ?_ ?_
   | refine LeO.bind ?_ (fun _ => ?_)
theorem dancestudiolaw07_WireMemory.mono : ∀ a0 a1 a2 a3 k, LeO (dancestudiolaw07_WireMemory.f k a0 a1 a2 a3) (dancestudiolaw07_WireMemory.f (k + 1) a0 a1 a2 a3) := by
 intro a0 a1 a2 a3 k
 obtain ⟨ih0, ih1, ih2⟩ := dancestudiolaw07_WireMemory.mono_l k
 unfold dancestudiolaw07_WireMemory.f
 repeat' first
   | (with_reducible exact ih0 _ _ _ _ _ _ _ _ _ _)
   | (with_reducible exact ih1 _ _ _ _ _ _ _ _ _ _)
   | (with_reducible exact ih2 _ _ _ _ _ _ _ _ _ _)
   | (with_reducible exact dancestudiolaw07_awake.mono _)
   | (with_reducible exact dancestudioref07_Ints.mono _ _ _)
   | (with_reducible exact wire_PutInt.mono _ _ _)
   | (with_reducible exact wire_PutList.mono _ _ _)
   | (with_reducible exact wire_PutText.mono _ _ _)
   | (with_reducible exact wire_TakeList.mono _ _ _)
   | (with_reducible exact LeO.refl _)
   | (with_reducible exact LeO.none _)
   | (with_reducible refine LeO.ite ?_ ?_)
   | (with_reducible refine LeO.bind ?_ (fun _ => ?_))
   | exact ih0 _ _ _ _ _ _ _ _ _ _
   | exact ih1 _ _ _ _ _ _ _ _ _ _
   | exact ih2 _ _ _ _ _ _ _ _ _ _
   | exact dancestudiolaw07_awake.mono _
   | exact dancestudioref07_Ints.mono _ _ _
   | exact wire_PutInt.mono _ _ _
   | exact wire_PutList.mono _ _ _
   | exact wire_PutText.mono _ _ _
   | exact wire_TakeList.mono _ _ _
   | exact LeO.none _
   | refine LeO.ite ?_ ?_
   | refine LeO.bind ?_ (fun _ => ?_)
def dancestudiolaw07_WireMemory.T3 : Bool × List (List Nat × List Nat) := (true, [([], []), ([], []), ([1], [1]), ([0, 2], [0, 2]), ([], []), ([], []), ([5], [5]), ([4, 6, 3], [4, 6]), ([], []), ([], []), ([9], [9]), ([8, 10, 7], [8, 10]), ([3, 11, 0, 1, 2, 3], [3]), ([7, 12, 0, 1, 2, 3, 4, 5, 6, 7, 12], [7]), ([11, 13, 0, 1, 2, 3, 4, 5, 6, 7, 8, 9, 10, 11, 12, 13], [11])])
def dancestudiolaw07_WireMemory.B3 : List Nat := [0, 0, 2, 7, 0, 0, 32, 127, 0, 0, 512, 2047, 4095, 8191, 16383]
theorem dancestudiolaw07_WireMemory.tab3 : rtab .any (opsOf Try.f10 3) = dancestudiolaw07_WireMemory.T3 := by kernel_rfl
theorem dancestudiolaw07_WireMemory.bits3 : waitsOk dancestudiolaw07_WireMemory.T3.2 dancestudiolaw07_WireMemory.B3 = true := by kernel_rfl
def dancestudiolaw07_WireMemory.T14 : Bool × List (List Nat × List Nat) := (true, [([], []), ([], []), ([], []), ([], []), ([], []), ([], []), ([], []), ([], []), ([6, 7], [6, 7]), ([8], [8]), ([9], [9]), ([], []), ([], []), ([11, 12], [11, 12]), ([13], [13]), ([14], [14]), ([], []), ([], []), ([16, 17], [16, 17]), ([18], [18]), ([19], [19]), ([0, 1, 0, 1, 6, 7, 8, 9, 10, 14, 19], [0, 1]), ([21, 10, 0, 1, 6, 7, 8, 9, 10, 14, 19], [10, 21]), ([2, 3, 0, 1, 2, 3, 6, 7, 8, 9, 10, 11, 12, 13, 14, 15, 19, 21, 22], [2, 3]), ([23, 15, 22, 0, 1, 2, 3, 6, 7, 8, 9, 10, 11, 12, 13, 14, 15, 19, 21, 22], [15, 23]), ([4, 5, 0, 1, 2, 3, 4, 5, 6, 7, 8, 9, 10, 11, 12, 13, 14, 15, 16, 17, 18, 19, 20, 21, 22, 23, 24], [4, 5]), ([25, 20, 24, 0, 1, 2, 3, 4, 5, 6, 7, 8, 9, 10, 11, 12, 13, 14, 15, 16, 17, 18, 19, 20, 21, 22, 23, 24], [20, 25])])
def dancestudiolaw07_WireMemory.B14 : List Nat := [0, 0, 0, 0, 0, 0, 0, 0, 192, 448, 960, 0, 0, 6144, 14336, 30720, 0, 0, 196608, 458752, 983040, 1015747, 3112899, 7339983, 15728591, 33554431, 67108863]
theorem dancestudiolaw07_WireMemory.tab14 : rtab .any (opsOf Try.f10 14) = dancestudiolaw07_WireMemory.T14 := by kernel_rfl
theorem dancestudiolaw07_WireMemory.bits14 : waitsOk dancestudiolaw07_WireMemory.T14.2 dancestudiolaw07_WireMemory.B14 = true := by kernel_rfl
def dancestudiolaw07_WireMemory.T15 : Bool × List (List Nat × List Nat) := (true, [([], []), ([], []), ([1], [1]), ([0, 2], [0, 2]), ([], []), ([4], [4]), ([5], [5]), ([3, 6], [3, 6]), ([7], [7]), ([8], [8]), ([8], [8]), ([8], [8]), ([9, 7, 0, 1, 2, 3, 4, 5, 6, 7, 8, 9], [9]), ([10, 12, 0, 1, 2, 3, 4, 5, 6, 7, 8, 9, 10, 12], [10]), ([11, 13, 0, 1, 2, 3, 4, 5, 6, 7, 8, 9, 10, 11, 12, 13], [11])])
def dancestudiolaw07_WireMemory.B15 : List Nat := [0, 0, 2, 7, 0, 16, 48, 127, 255, 511, 511, 511, 1023, 6143, 16383]
theorem dancestudiolaw07_WireMemory.tab15 : rtab .any (opsOf Try.f10 15) = dancestudiolaw07_WireMemory.T15 := by kernel_rfl
theorem dancestudiolaw07_WireMemory.bits15 : waitsOk dancestudiolaw07_WireMemory.T15.2 dancestudiolaw07_WireMemory.B15 = true := by kernel_rfl
set_option maxHeartbeats 8000000 in
set_option maxRecDepth 100000 in
theorem dancestudiolaw07_WireMemory.calls (k : Nat) (a0_0 : Int) (a0_1 : ByteArray) (A0_2 : Option Addr) (c0_2 : Nat) (l0_2 : List Int) (A1 : Option Addr) (c1 : Nat) (l1 : List Int) (r : Bool) (w : World) (hr0_2 : Kd.C (Kd.int .i64) w A0_2 l0_2.length l0_2) (hc0_2 : l0_2.length ≤ c0_2) (hr1 : Kd.C (Kd.int .u8) w A1 l1.length l1) (hc1 : l1.length ≤ c1) (h : dancestudiolaw07_WireMemory.f k a0_0 a0_1 l0_2 l1 = some r) :
  Calls Try.prog 10 #[.agg #[.int .i64 a0_0, .string a0_1, .slice A0_2 l0_2.length c0_2], .slice A1 l1.length c1] w fun e w' => e = .returned (.bool r) ∧ Below w.heap.size w w' := by
 have hu42 := Try.underlying42
 have HR0_2 := Aside0.mk hr0_2
 have HC0_2 := Aside0.mk hc0_2
 clear hr0_2 hc0_2
 have HR1 := Aside0.mk hr1
 have HC1 := Aside0.mk hc1
 clear hr1 hc1
 have HB := Aside0.mk (Below.refl w.heap.size w)
 have H : ((dancestudiolaw07_own.f l1).bind fun t332 => ((some (([1, 2, 3, 4, 5, 6, 7, 8, 9, 10, 11, 12] : List Int) : List Int)).bind fun y335 => (if t332.length + y335.length < 140737488355328 then ((some (t332 ++ y335 : List Int)).bind fun y338 => (if 0 ≤ (l1.length : Int) then (if (l1.length : Int) ≤ (y338.length : Int) then ((some (y338.take ((l1.length : Int) : Int).toNat : List Int)).bind fun y341 => ((wire_PutInt.f k y341 a0_0).bind fun t345 => ((wire_PutText.f k y341 a0_1).bind fun t348 => ((wire_PutList.f k y341 l0_2).bind fun t351 => (dancestudiolaw07_WireMemory.l0 k l1 y338 y341 t345 t348 t351 0 a0_0 a0_1 l0_2))))) else (none)) else (none))) else (none)))) = some r := h
 clear h
 replace H := Option.bind_eq_some_iff.mp H
 obtain ⟨t332, A30, H⟩ := H
 replace H : ((some (([1, 2, 3, 4, 5, 6, 7, 8, 9, 10, 11, 12] : List Int) : List Int)).bind fun y335 => (if t332.length + y335.length < 140737488355328 then ((some (t332 ++ y335 : List Int)).bind fun y338 => (if 0 ≤ (l1.length : Int) then (if (l1.length : Int) ≤ (y338.length : Int) then ((some (y338.take ((l1.length : Int) : Int).toNat : List Int)).bind fun y341 => ((wire_PutInt.f k y341 a0_0).bind fun t345 => ((wire_PutText.f k y341 a0_1).bind fun t348 => ((wire_PutList.f k y341 l0_2).bind fun t351 => (dancestudiolaw07_WireMemory.l0 k l1 y338 y341 t345 t348 t351 0 a0_0 a0_1 l0_2))))) else (none)) else (none))) else (none))) = some r := H
 have A3 := Aside0.mk A30
 clear A30
 obtain ⟨y335, hy335⟩ : ∃ y_ : List Int, y_ = (([1, 2, 3, 4, 5, 6, 7, 8, 9, 10, 11, 12] : List Int)) := ⟨_, rfl⟩
 replace H : (if t332.length + y335.length < 140737488355328 then ((some (t332 ++ y335 : List Int)).bind fun y338 => (if 0 ≤ (l1.length : Int) then (if (l1.length : Int) ≤ (y338.length : Int) then ((some (y338.take ((l1.length : Int) : Int).toNat : List Int)).bind fun y341 => ((wire_PutInt.f k y341 a0_0).bind fun t345 => ((wire_PutText.f k y341 a0_1).bind fun t348 => ((wire_PutList.f k y341 l0_2).bind fun t351 => (dancestudiolaw07_WireMemory.l0 k l1 y338 y341 t345 t348 t351 0 a0_0 a0_1 l0_2))))) else (none)) else (none))) else (none)) = some r := by first | (rw [hy335]; with_reducible exact H) | (have H2_ := (Option.bind_some _ _).symm.trans H; rw [hy335]; with_reducible exact H2_) | (have H2_ := (Option.bind_some _ _).symm.trans H; with_reducible exact H2_) | with_reducible exact H | (rw [hy335]; exact H) | exact H
 have Ny335 := Aside0.mk hy335
 clear hy335
 by_cases c4 : t332.length + y335.length < 140737488355328
 ·
  rw [if_pos c4] at H
  have LMc4 := Aside0.mk c4
  clear c4
  obtain ⟨y338, hy338⟩ : ∃ y_ : List Int, y_ = (t332 ++ y335) := ⟨_, rfl⟩
  replace H : (if 0 ≤ (l1.length : Int) then (if (l1.length : Int) ≤ (y338.length : Int) then ((some (y338.take ((l1.length : Int) : Int).toNat : List Int)).bind fun y341 => ((wire_PutInt.f k y341 a0_0).bind fun t345 => ((wire_PutText.f k y341 a0_1).bind fun t348 => ((wire_PutList.f k y341 l0_2).bind fun t351 => (dancestudiolaw07_WireMemory.l0 k l1 y338 y341 t345 t348 t351 0 a0_0 a0_1 l0_2))))) else (none)) else (none)) = some r := by first | (rw [hy338]; with_reducible exact H) | (have H2_ := (Option.bind_some _ _).symm.trans H; rw [hy338]; with_reducible exact H2_) | (have H2_ := (Option.bind_some _ _).symm.trans H; with_reducible exact H2_) | with_reducible exact H | (rw [hy338]; exact H) | exact H
  have Ny338 := Aside0.mk hy338
  clear hy338
  by_cases c5 : 0 ≤ (l1.length : Int); rotate_left
  · rw [if_neg c5] at H; exact absurd H (by simp)
  rw [if_pos c5] at H
  have c5b0 := eq_true c5
  have c5b1 : decide (0 ≤ (l1.length : Int)) = true := decide_eq_true c5
  clear c5
  by_cases c6 : (l1.length : Int) ≤ (y338.length : Int); rotate_left
  · rw [if_neg c6] at H; exact absurd H (by simp)
  rw [if_pos c6] at H
  have c6b0 := eq_true c6
  have c6b1 : decide ((l1.length : Int) ≤ (y338.length : Int)) = true := decide_eq_true c6
  clear c6
  obtain ⟨y341, hy341⟩ : ∃ y_ : List Int, y_ = (y338.take ((l1.length : Int) : Int).toNat) := ⟨_, rfl⟩
  replace H : ((wire_PutInt.f k y341 a0_0).bind fun t345 => ((wire_PutText.f k y341 a0_1).bind fun t348 => ((wire_PutList.f k y341 l0_2).bind fun t351 => (dancestudiolaw07_WireMemory.l0 k l1 y338 y341 t345 t348 t351 0 a0_0 a0_1 l0_2)))) = some r := by first | (rw [hy341]; with_reducible exact H) | (have H2_ := (Option.bind_some _ _).symm.trans H; rw [hy341]; with_reducible exact H2_) | (have H2_ := (Option.bind_some _ _).symm.trans H; with_reducible exact H2_) | with_reducible exact H | (rw [hy341]; exact H) | exact H
  have Ny341 := Aside0.mk hy341
  clear hy341
  replace H := Option.bind_eq_some_iff.mp H
  obtain ⟨t345, A70, H⟩ := H
  replace H : ((wire_PutText.f k y341 a0_1).bind fun t348 => ((wire_PutList.f k y341 l0_2).bind fun t351 => (dancestudiolaw07_WireMemory.l0 k l1 y338 y341 t345 t348 t351 0 a0_0 a0_1 l0_2))) = some r := H
  have A7 := Aside0.mk A70
  clear A70
  replace H := Option.bind_eq_some_iff.mp H
  obtain ⟨t348, A80, H⟩ := H
  replace H : ((wire_PutList.f k y341 l0_2).bind fun t351 => (dancestudiolaw07_WireMemory.l0 k l1 y338 y341 t345 t348 t351 0 a0_0 a0_1 l0_2)) = some r := H
  have A8 := Aside0.mk A80
  clear A80
  replace H := Option.bind_eq_some_iff.mp H
  obtain ⟨t351, A90, H⟩ := H
  replace H : (dancestudiolaw07_WireMemory.l0 k l1 y338 y341 t345 t348 t351 0 a0_0 a0_1 l0_2) = some r := H
  have A9 := Aside0.mk A90
  clear A90
  have H' := Aside0.mk H
  clear H
  go_enter Try.func10, Try.ntmps10
  try go_wp2_with (first | ((with_reducible refine gate_dst (N := 2) rfl ?_); refine box_event ?hg (N := 2) ?hd (cs := #[.int .i64 a0_0, .string a0_1, .slice A0_2 l0_2.length c0_2]) (t := 42) ?hr ?_; (case hd => rfl); (case hg => rfl); (case hr => first | (go_simp; done) | (go_simp; rfl)); intro gb331 hg w10 hbox hb; have BK331 := Aside0.mk (hbox); have GW331 := Aside0.mk ((by rw [hg]; exact (below_size (by repeat with_reducible first | exact HB.out | apply bA | apply bN | apply bD)) : w.heap.size ≤ gb331)); have GE331 := GW331; replace HB := Aside0.mk (below_step (by repeat with_reducible first | exact HB.out | apply bA | apply bN | apply bD) hb); clear hb hbox hg) | ((with_reducible refine gate_callee (f := 15) rfl ?_); refine goesL_ (some 17) rfl rfl Try.func15 (by kernel_rfl) rfl #[.slice A1 l1.length c1] rfl (by (try simp only [List.map_toArray, List.map_cons, List.map_nil]); first | done | rfl | (simp only [List.length_drop, List.length_take]; rfl)) ?_; (with_reducible refine (dancestudiolaw07_own.calls _ _ l1 t332 _ ?side1 ?side2 A3.out).mono ?_); (case side1 => repeat (first | exact (Kd.C_below HR1.out HB.out) | (with_reducible first | apply cA | apply cN | apply cD))); (case side2 => exact HC1.out); rintro e w11 ⟨v333, rfl, ho0, hb⟩; refine ⟨_, rfl, ?_⟩; have HO334 := Aside0.mk (Kd.R_lower ho0 (below_size (by repeat with_reducible first | exact HB.out | apply bA | apply bN | apply bD | refine bS ?_ GE331.out))); replace BK331 := Aside0.mk (blk_below (o := .cells #[.int .i64 a0_0, .string a0_1, .slice A0_2 l0_2.length c0_2] 42 (0, 0)) (by with_reducible repeat first | exact BK331.out | apply kN | apply kD | apply kA) hb); replace HB := Aside0.mk (below_step (by repeat with_reducible first | exact HB.out | apply bA | apply bN | apply bD | refine bS ?_ GE331.out) hb); (try clear hb); (try clear hb2); (try clear hk); (try clear hi); (try clear ho0)) | ((with_reducible refine gate_dst (N := 18) rfl ?_); refine Kd.R_lit (Kd.int .u8) _ 5 ?hg (N := 18) ?hd (xs := ([1, 2, 3, 4, 5, 6, 7, 8, 9, 10, 11, 12] : List Int)) (inner := [.int .u8 1, .int .u8 2, .int .u8 3, .int .u8 4, .int .u8 5, .int .u8 6, .int .u8 7, .int .u8 8, .int .u8 9, .int .u8 10, .int .u8 11, .int .u8 12]) (ok := fun _ => True) (okp := fun _ => True) ?hr ?hp (fun _ hk => hk) trivial (Below.refl _ _) (Nat.le_refl _) (by simp) ?_; (case hd => rfl); (case hg => rfl); (case hr => first | (go_simp; done) | (go_simp; rfl)); (case hp => exact (Reps.one (show Kd.M (Kd.int .u8) _ _ _ 1 [.int .u8 1] from rfl) (Reps.one (show Kd.M (Kd.int .u8) _ _ _ 2 [.int .u8 2] from rfl) (Reps.one (show Kd.M (Kd.int .u8) _ _ _ 3 [.int .u8 3] from rfl) (Reps.one (show Kd.M (Kd.int .u8) _ _ _ 4 [.int .u8 4] from rfl) (Reps.one (show Kd.M (Kd.int .u8) _ _ _ 5 [.int .u8 5] from rfl) (Reps.one (show Kd.M (Kd.int .u8) _ _ _ 6 [.int .u8 6] from rfl) (Reps.one (show Kd.M (Kd.int .u8) _ _ _ 7 [.int .u8 7] from rfl) (Reps.one (show Kd.M (Kd.int .u8) _ _ _ 8 [.int .u8 8] from rfl) (Reps.one (show Kd.M (Kd.int .u8) _ _ _ 9 [.int .u8 9] from rfl) (Reps.one (show Kd.M (Kd.int .u8) _ _ _ 10 [.int .u8 10] from rfl) (Reps.one (show Kd.M (Kd.int .u8) _ _ _ 11 [.int .u8 11] from rfl) (Reps.one (show Kd.M (Kd.int .u8) _ _ _ 12 [.int .u8 12] from rfl) (Reps.none _ _)))))))))))))); intro v336 w12 ho13 hb hg_ hnew_; clear hg_ hnew_; (first | rw [← Ny335.out] at ho13 | (simp only [Int.reduceToNat] at ho13; rw [← Ny335.out] at ho13)); have HO337 := Aside0.mk (Kd.R_lower (Kd.R_new' ho13 (Kd.R_lt (by (with_reducible repeat first | apply rA | apply rN | apply rD); exact HO334.out))) (below_size (by repeat with_reducible first | exact HB.out | apply bA | apply bN | apply bD | refine bS ?_ GE331.out))); replace HO334 := Aside0.mk (Kd.R_elder' (by (with_reducible repeat first | apply rA | apply rN | apply rD); exact HO334.out) (Kd.R_base ho13) hb); replace BK331 := Aside0.mk (blk_below (o := .cells #[.int .i64 a0_0, .string a0_1, .slice A0_2 l0_2.length c0_2] 42 (0, 0)) (by with_reducible repeat first | exact BK331.out | apply kN | apply kD | apply kA) hb); replace HB := Aside0.mk (below_step (by repeat with_reducible first | exact HB.out | apply bA | apply bN | apply bD | refine bS ?_ GE331.out) hb); clear hb ho13; obtain ⟨Ao15, co15, eo15⟩ := Kd.R_slice HO337.out; subst eo15) | ((with_reducible refine gate_builtin (b := .append) (xs := #[.tmp 17, .tmp 18]) rfl ?_); at_builtin; refine Kd.R_append_rows (Kd.int .u8) (w0 := w) w.heap.size rfl (.tmp 17) (.tmp 18) 22 5 (.int .u8 0) 1 rfl Try.underlying22 info5 rfl (by decide) (by omega) v333 t332 y335 _ _ _ (fun k_ => some k_ ≠ (.slice Ao15 y335.length co15 : Value).ownBlock) (fun _ => False) rfl rfl ?aO ?aR (fun _ _ h => h) (fun _ h => h.elim) ?aF ?aB ?aS ?aL ?_; (case aR => repeat (first | exact (Kd.R_reads' HO337.out).2.2 | (with_reducible first | apply cA | apply cN | apply cD))); (case aB => exact (by repeat with_reducible first | exact HB.out | apply bA | apply bN | apply bD | refine bS ?_ GE331.out)); (case aF => exact (fun k_ hk => Kd.fresh' (Kd.R_lt (by (with_reducible repeat first | apply rA | apply rN | apply rD); exact HO337.out)) k_ hk)); (case aO => exact (by (with_reducible repeat first | apply rA | apply rN | apply rD); exact Kd.R_mono HO334.out (fun _ hk => hk.2))); (case aS => exact (below_size (by repeat with_reducible first | exact HB.out | apply bA | apply bN | apply bD | refine bS ?_ GE331.out))); (case aL => have := LMc4.out; omega); intro v339 w14 ho hb hg hat; rw [← Ny338.out] at ho; replace BK331 := Aside0.mk (blk_grown (g := gb331) (o := .cells #[.int .i64 a0_0, .string a0_1, .slice A0_2 l0_2.length c0_2] 42 (0, 0)) (by with_reducible repeat first | exact BK331.out | apply kN | apply kD | apply kA) hg (Kd.R_ne HO334.out BK331.out (by decide))); replace HO337 := Aside0.mk (Kd.R_after (ok := (fun _ => True)) (by (with_reducible repeat first | apply rA | apply rN | apply rD); exact HO337.out) hg hat); replace HB := Aside0.mk (hb); have HO340 := Aside0.mk (ho); clear HO334; clear ho hb hg hat; obtain ⟨Ao17, co17, eo17⟩ := Kd.R_slice HO340.out; subst eo17; have q16 : ((l1.length : Int) : Int) ≤ ((y338.length : Int) : Int) := of_decide_eq_true (by first | (with_reducible assumption) | assumption); obtain ⟨i016, hi016, _, hsz16, _⟩ := info_parts info5; have hroom16 : y338.length ≤ co17 := (Kd.R_reads' HO340.out).2.1; have hC16 : Kd.C (Kd.int .u8) _ Ao17 y338.length y338 := (Kd.R_reads' HO340.out).2.2; have hcut16 := cut_to (P := Try.prog) 22 5 .i64 Try.underlying22 hi016 Ao17 y338.length co17 (l1.length : Int) (of_decide_eq_true (by first | (with_reducible assumption) | assumption)) q16 hroom16; have hr16 := Kd.C_take (m := ((l1.length : Int) : Int).toNat) hC16 (by omega); have hy16 : y341.length = ((l1.length : Int) : Int).toNat := (by rw [Ny341.out, List.length_take]; omega); rw [← Ny341.out] at hr16; rw [← hy16] at hcut16; have HR344 := Aside0.mk hr16; have HC344 := Aside0.mk (show y341.length ≤ co17 from by omega); clear hr16 hC16 hroom16 hi016 hsz16; have KY16 := Aside0.mk hy16; clear hy16; have KL16 := Aside0.mk (show ((l1.length : Int) : Int).toNat ≤ y338.length from by omega); replace q16 := eq_true q16))
  have n0_ := Aside0.mk (Kd.R_drew HO337.out)
  have n1_ := Aside0.mk (Kd.R_drew HO340.out)
  have n2_ := Aside0.mk (blk_drew BK331.out)
  have n3_ := Aside0.mk (Kd.C_drew HR344.out)
  have n4_ := Aside0.mk (below_drew1 HB.out)
  clear HO337
  clear HO340
  clear BK331
  clear HR344
  clear HB
  have HO337 := n0_
  have HO340 := n1_
  have BK331 := n2_
  have HR344 := n3_
  have HB := n4_
  clear n0_ n1_ n2_ n3_ n4_
  refine start_ (n := 15) (S := fun w' => w'.cell? ⟨gb331, 0, none⟩ = some (.int .i64 a0_0) ∧ w'.cell? ⟨gb331, 1, none⟩ = some (.string a0_1) ∧ w'.cell? ⟨gb331, 2, none⟩ = some (.slice A0_2 l0_2.length c0_2)) (ds := []) (bm 15 0) (by kernel_rfl) rfl rfl ⟨(blk_cell BK331.out 0).trans rfl, (blk_cell BK331.out 1).trans rfl, (blk_cell BK331.out 2).trans rfl⟩ (fun hHeld => ?_); refine with_tabW dancestudiolaw07_WireMemory.tab3 dancestudiolaw07_WireMemory.bits3 (fun HT_ HW_ => ?_)
  generalize w14.drew = w18 at HO337 HO340 BK331 HR344 HB hHeld ⊢
  refine pure_ (i := 0) (N := some 24) (v := ?_) (a' := ?_) (bm 15 1) rfl rfl (any_of HT_.out (by kernel_rfl)) (fun _ _ _ h => h) (Or.inl ⟨by rfl, ?_⟩) ?_ ?_
  rotate_left; (intro w'; go_simp; with_reducible rfl); rotate_left; (simp only [Act.put, aS, lZ, lS, i64_w, i32_w]; rfl)
  refine pure_ (i := 1) (N := some 25) (v := ?_) (a' := ?_) (bm 15 3) rfl rfl (any_of HT_.out (by kernel_rfl)) (fun _ _ _ h => h) (Or.inl ⟨by rfl, ?_⟩) ?_ ?_
  rotate_left; (intro w'; go_simp; with_reducible rfl); rotate_left; (simp only [Act.put, aS, lZ, lS, i64_w, i32_w]; rfl)
  refine pure_ (i := 4) (N := some 28) (v := ?_) (a' := ?_) (bm 15 19) rfl rfl (any_of HT_.out (by kernel_rfl)) (fun _ _ _ h => h) (Or.inl ⟨by rfl, ?_⟩) ?_ ?_
  rotate_left; (intro w'; go_simp; with_reducible rfl); rotate_left; (simp only [Act.put, aS, lZ, lS, i64_w, i32_w]; rfl)
  refine pure_ (i := 5) (N := some 29) (v := ?_) (a' := ?_) (bm 15 51) rfl rfl (any_of HT_.out (by kernel_rfl)) (fun _ _ _ h => h) (Or.inl ⟨by rfl, ?_⟩) ?_ ?_
  rotate_left; (intro w'; go_simp; with_reducible rfl); rotate_left; (simp only [Act.put, aS, lZ, lS, i64_w, i32_w]; rfl)
  refine pure_ (i := 8) (N := some 32) (v := ?_) (a' := ?_) (bm 15 307) rfl rfl (any_of HT_.out (by kernel_rfl)) (fun _ _ _ h => h) (Or.inl ⟨by rfl, ?_⟩) ?_ ?_
  rotate_left; (intro w'; go_simp; with_reducible rfl); rotate_left; (simp only [Act.put, aS, lZ, lS, i64_w, i32_w]; rfl)
  refine pure_ (i := 9) (N := some 33) (v := ?_) (a' := ?_) (bm 15 819) rfl rfl (any_of HT_.out (by kernel_rfl)) (fun _ _ _ h => h) (Or.inl ⟨by rfl, ?_⟩) ?_ ?_
  rotate_left; (intro w'; go_simp; with_reducible rfl); rotate_left; (simp only [Act.put, aS, lZ, lS, i64_w, i32_w]; rfl)
  refine take_ (i := 2) (N := some 26) (v := ?_) (a' := ?_) (bm 15 823) rfl rfl (take_ofW HT_.out HW_.out (by kernel_rfl)) (fun _ _ _ h => h) (Or.inl ⟨by rfl, ?_⟩) hHeld ?_ ?_
  rotate_left
  ·
   rintro w' ⟨s0, s1, s2⟩
   go_simp
   with_reducible rfl
  rotate_left
  ·
   simp only [Act.put, aS, lZ, lS, i64_w, i32_w]
   rfl
  refine take_ (i := 6) (N := some 30) (v := ?_) (a' := ?_) (bm 15 887) rfl rfl (take_ofW HT_.out HW_.out (by kernel_rfl)) (fun _ _ _ h => h) (Or.inl ⟨by rfl, ?_⟩) hHeld ?_ ?_
  rotate_left
  ·
   rintro w' ⟨s0, s1, s2⟩
   go_simp
   with_reducible rfl
  rotate_left
  ·
   simp only [Act.put, aS, lZ, lS, i64_w, i32_w]
   rfl
  refine take_ (i := 10) (N := some 34) (v := ?_) (a' := ?_) (bm 15 1911) rfl rfl (take_ofW HT_.out HW_.out (by kernel_rfl)) (fun _ _ _ h => h) (Or.inl ⟨by rfl, ?_⟩) hHeld ?_ ?_
  rotate_left
  ·
   rintro w' ⟨s0, s1, s2⟩
   go_simp
   with_reducible rfl
  rotate_left
  ·
   simp only [Act.put, aS, lZ, lS, i64_w, i32_w]
   rfl
  refine one_ (i := 3) (N := some 27) (bm 15 1919) rfl rfl (one_of HT_.out (by kernel_rfl)) (by decide) (fun K hK => ?_)
  refine goes_ Try.func14 (by kernel_rfl) rfl #[.slice Ao17 y341.length co17, .int .i64 a0_0] (by rfl) rfl rfl (by (try simp only [List.map_toArray, List.map_cons, List.map_nil]); first | done | rfl | (simp only [List.length_drop, List.length_take]; rfl)) ?_
  with_reducible refine (wire_PutInt.calls k _ _ y341 a0_0 t345 _ ?side1 ?side2 A7.out).mono ?_
  (case side1 => repeat (first | exact (by repeat (first | (with_reducible exact HR344.out) | (with_reducible first | apply cA | apply cN | apply cD) | exact HR344.out)) | (with_reducible first | apply cA | apply cN | apply cD)))
  (case side2 => exact HC344.out)
  rintro e w19 ⟨v346, rfl, ho0, hb⟩
  refine ⟨_, rfl, ?_⟩
  have n0_ := Aside0.mk (Kd.R_elder' (by (with_reducible repeat first | apply rA | apply rN | apply rD); exact HO337.out) (Kd.R_base ho0) hb)
  have n1_ := Aside0.mk (Kd.R_elder' (by (with_reducible repeat first | apply rA | apply rN | apply rD); exact HO340.out) (Kd.R_base ho0) hb)
  have n2_ := Aside0.mk (Kd.R_lower (Kd.R_new' (Kd.R_new' ho0 (Kd.R_lt (by (with_reducible repeat first | apply rA | apply rN | apply rD); exact HO337.out))) (Kd.R_lt (by (with_reducible repeat first | apply rA | apply rN | apply rD); exact HO340.out))) (below_size (by repeat with_reducible first | exact HB.out | apply bA | apply bN | apply bD | refine bS ?_ GE331.out)))
  have n3_ := Aside0.mk (blk_below (o := .cells #[.int .i64 a0_0, .string a0_1, .slice A0_2 l0_2.length c0_2] 42 (0, 0)) (by with_reducible repeat first | exact BK331.out | apply kN | apply kD | apply kA) hb)
  have n4_ := Aside0.mk (Kd.C_below (by repeat (first | (with_reducible exact HR344.out) | (with_reducible first | apply cA | apply cN | apply cD) | exact HR344.out)) hb)
  have n5_ := Aside0.mk (below_step (by repeat with_reducible first | exact HB.out | apply bA | apply bN | apply bD | refine bS ?_ GE331.out) hb)
  clear HO337
  clear HO340
  clear BK331
  clear HR344
  clear HB
  have HO337 := n0_
  have HO340 := n1_
  have HO347 := n2_
  have BK331 := n3_
  have HR344 := n4_
  have HB := n5_
  clear n0_ n1_ n2_ n3_ n4_ n5_
  (try clear hb)
  (try clear hb2)
  (try clear hk)
  (try clear hi)
  (try clear ho0)
  refine hK.out _ _ ⟨(blk_cell BK331.out 0).trans rfl, (blk_cell BK331.out 1).trans rfl, (blk_cell BK331.out 2).trans rfl⟩ (fun hHeld => ?_)
  clear hK K
  refine norm_ (a' := ?_) ?_ ?_
  rotate_left
  ·
   show Act.put _ (some 27) _ = _
   simp only [Act.put, aS, lZ, lS, i64_w, i32_w]
   rfl
  refine one_ (i := 7) (N := some 31) (bm 15 2047) rfl rfl (one_of HT_.out (by kernel_rfl)) (by decide) (fun K hK => ?_)
  refine goes_ Try.func20 (by kernel_rfl) rfl #[.slice Ao17 y341.length co17, .string a0_1] (by rfl) rfl rfl (by (try simp only [List.map_toArray, List.map_cons, List.map_nil]); first | done | rfl | (simp only [List.length_drop, List.length_take]; rfl)) ?_
  with_reducible refine (wire_PutText.calls k _ _ y341 a0_1 t348 _ ?side1 ?side2 A8.out).mono ?_
  (case side1 => repeat (first | exact (by repeat (first | (with_reducible exact HR344.out) | (with_reducible first | apply cA | apply cN | apply cD) | exact HR344.out)) | (with_reducible first | apply cA | apply cN | apply cD)))
  (case side2 => exact HC344.out)
  rintro e w20 ⟨v349, rfl, ho0, hb⟩
  refine ⟨_, rfl, ?_⟩
  have n0_ := Aside0.mk (Kd.R_elder' (by (with_reducible repeat first | apply rA | apply rN | apply rD); exact HO337.out) (Kd.R_base ho0) hb)
  have n1_ := Aside0.mk (Kd.R_elder' (by (with_reducible repeat first | apply rA | apply rN | apply rD); exact HO340.out) (Kd.R_base ho0) hb)
  have n2_ := Aside0.mk (Kd.R_elder' (by (with_reducible repeat first | apply rA | apply rN | apply rD); exact HO347.out) (Kd.R_base ho0) hb)
  have n3_ := Aside0.mk (Kd.R_lower (Kd.R_new' (Kd.R_new' (Kd.R_new' ho0 (Kd.R_lt (by (with_reducible repeat first | apply rA | apply rN | apply rD); exact HO337.out))) (Kd.R_lt (by (with_reducible repeat first | apply rA | apply rN | apply rD); exact HO340.out))) (Kd.R_lt (by (with_reducible repeat first | apply rA | apply rN | apply rD); exact HO347.out))) (below_size (by repeat with_reducible first | exact HB.out | apply bA | apply bN | apply bD | refine bS ?_ GE331.out)))
  have n4_ := Aside0.mk (blk_below (o := .cells #[.int .i64 a0_0, .string a0_1, .slice A0_2 l0_2.length c0_2] 42 (0, 0)) (by with_reducible repeat first | exact BK331.out | apply kN | apply kD | apply kA) hb)
  have n5_ := Aside0.mk (Kd.C_below (by repeat (first | (with_reducible exact HR344.out) | (with_reducible first | apply cA | apply cN | apply cD) | exact HR344.out)) hb)
  have n6_ := Aside0.mk (below_step (by repeat with_reducible first | exact HB.out | apply bA | apply bN | apply bD | refine bS ?_ GE331.out) hb)
  clear HO337
  clear HO340
  clear HO347
  clear BK331
  clear HR344
  clear HB
  have HO337 := n0_
  have HO340 := n1_
  have HO347 := n2_
  have HO350 := n3_
  have BK331 := n4_
  have HR344 := n5_
  have HB := n6_
  clear n0_ n1_ n2_ n3_ n4_ n5_ n6_
  (try clear hb)
  (try clear hb2)
  (try clear hk)
  (try clear hi)
  (try clear ho0)
  refine hK.out _ _ ⟨(blk_cell BK331.out 0).trans rfl, (blk_cell BK331.out 1).trans rfl, (blk_cell BK331.out 2).trans rfl⟩ (fun hHeld => ?_)
  clear hK K
  refine norm_ (a' := ?_) ?_ ?_
  rotate_left
  ·
   show Act.put _ (some 31) _ = _
   simp only [Act.put, aS, lZ, lS, i64_w, i32_w]
   rfl
  refine one_ (i := 11) (N := some 35) (bm 15 4095) rfl rfl (one_of HT_.out (by kernel_rfl)) (by decide) (fun K hK => ?_)
  refine goes_ Try.func25 (by kernel_rfl) rfl #[.slice Ao17 y341.length co17, .slice A0_2 l0_2.length c0_2] (by rfl) rfl rfl (by (try simp only [List.map_toArray, List.map_cons, List.map_nil]); first | done | rfl | (simp only [List.length_drop, List.length_take]; rfl)) ?_
  with_reducible refine (wire_PutList.calls k _ _ y341 _ _ l0_2 t351 _ ?side1 ?side2 ?side3 ?side4 A9.out).mono ?_
  (case side1 => repeat (first | exact (by repeat (first | (with_reducible exact HR344.out) | (with_reducible first | apply cA | apply cN | apply cD) | exact HR344.out)) | (with_reducible first | apply cA | apply cN | apply cD)))
  (case side2 => exact HC344.out)
  (case side3 => repeat (first | exact (Kd.C_below HR0_2.out HB.out) | (with_reducible first | apply cA | apply cN | apply cD)))
  (case side4 => exact HC0_2.out)
  rintro e w21 ⟨v352, rfl, ho0, hb⟩
  refine ⟨_, rfl, ?_⟩
  have n0_ := Aside0.mk (Kd.R_elder' (by (with_reducible repeat first | apply rA | apply rN | apply rD); exact HO337.out) (Kd.R_base ho0) hb)
  have n1_ := Aside0.mk (Kd.R_elder' (by (with_reducible repeat first | apply rA | apply rN | apply rD); exact HO340.out) (Kd.R_base ho0) hb)
  have n2_ := Aside0.mk (Kd.R_elder' (by (with_reducible repeat first | apply rA | apply rN | apply rD); exact HO347.out) (Kd.R_base ho0) hb)
  have n3_ := Aside0.mk (Kd.R_elder' (by (with_reducible repeat first | apply rA | apply rN | apply rD); exact HO350.out) (Kd.R_base ho0) hb)
  have n4_ := Aside0.mk (Kd.R_lower (Kd.R_new' (Kd.R_new' (Kd.R_new' (Kd.R_new' ho0 (Kd.R_lt (by (with_reducible repeat first | apply rA | apply rN | apply rD); exact HO337.out))) (Kd.R_lt (by (with_reducible repeat first | apply rA | apply rN | apply rD); exact HO340.out))) (Kd.R_lt (by (with_reducible repeat first | apply rA | apply rN | apply rD); exact HO347.out))) (Kd.R_lt (by (with_reducible repeat first | apply rA | apply rN | apply rD); exact HO350.out))) (below_size (by repeat with_reducible first | exact HB.out | apply bA | apply bN | apply bD | refine bS ?_ GE331.out)))
  have n5_ := Aside0.mk (blk_below (o := .cells #[.int .i64 a0_0, .string a0_1, .slice A0_2 l0_2.length c0_2] 42 (0, 0)) (by with_reducible repeat first | exact BK331.out | apply kN | apply kD | apply kA) hb)
  have n6_ := Aside0.mk (Kd.C_below (by repeat (first | (with_reducible exact HR344.out) | (with_reducible first | apply cA | apply cN | apply cD) | exact HR344.out)) hb)
  have n7_ := Aside0.mk (below_step (by repeat with_reducible first | exact HB.out | apply bA | apply bN | apply bD | refine bS ?_ GE331.out) hb)
  clear HO337
  clear HO340
  clear HO347
  clear HO350
  clear BK331
  clear HR344
  clear HB
  have HO337 := n0_
  have HO340 := n1_
  have HO347 := n2_
  have HO350 := n3_
  have HO353 := n4_
  have BK331 := n5_
  have HR344 := n6_
  have HB := n7_
  clear n0_ n1_ n2_ n3_ n4_ n5_ n6_ n7_
  (try clear hb)
  (try clear hb2)
  (try clear hk)
  (try clear hi)
  (try clear ho0)
  refine hK.out _ _ ⟨(blk_cell BK331.out 0).trans rfl, (blk_cell BK331.out 1).trans rfl, (blk_cell BK331.out 2).trans rfl⟩ (fun hHeld => ?_)
  clear hK K
  refine norm_ (a' := ?_) ?_ ?_
  rotate_left
  ·
   show Act.put _ (some 35) _ = _
   simp only [Act.put, aS, lZ, lS, i64_w, i32_w]
   rfl
  refine pure_ (i := 12) (N := some 7) (v := ?_) (a' := ?_) (bm 15 8191) rfl rfl (any_of HT_.out (by kernel_rfl)) (fun _ _ _ h => h) (Or.inl ⟨by rfl, ?_⟩) ?_ ?_
  rotate_left; (intro w'; go_simp; with_reducible rfl); rotate_left; (simp only [Act.put, aS, lZ, lS, i64_w, i32_w]; rfl)
  refine pure_ (i := 13) (N := some 8) (v := ?_) (a' := ?_) (bm 15 16383) rfl rfl (any_of HT_.out (by kernel_rfl)) (fun _ _ _ h => h) (Or.inl ⟨by rfl, ?_⟩) ?_ ?_
  rotate_left; (intro w'; go_simp; with_reducible rfl); rotate_left; (simp only [Act.put, aS, lZ, lS, i64_w, i32_w]; rfl)
  refine pure_ (i := 14) (N := some 9) (v := ?_) (a' := ?_) (bm 15 32767) rfl rfl (any_of HT_.out (by kernel_rfl)) (fun _ _ _ h => h) (Or.inl ⟨by rfl, ?_⟩) ?_ ?_
  rotate_left; (intro w'; go_simp; with_reducible rfl); rotate_left; (simp only [Act.put, aS, lZ, lS, i64_w, i32_w]; rfl)
  refine done_ (done_of HT_.out (by kernel_rfl)) ?_
  try go_wp2
  go_loopg [10] k (fun kq v10 w' => ∃ (x10_1 : Int), v10 = .int .i64 x10_1 ∧ Aside0 (dancestudiolaw07_WireMemory.l0 kq l1 y338 y341 t345 t348 t351 x10_1 a0_0 a0_1 l0_2 = some r) ∧ Aside0 (kq ≤ k) ∧ Aside0 (Kd.R (Kd.int .u8) 5 w' w.heap.size (fun k_ => some k_ ≠ (v346 : Value).ownBlock ∧ some k_ ≠ (v349 : Value).ownBlock ∧ some k_ ≠ (v352 : Value).ownBlock) (.slice Ao17 y338.length co17) y338) ∧ Aside0 (Kd.R (Kd.int .u8) 5 w' w.heap.size (fun k_ => some k_ ≠ ((.slice Ao17 y338.length co17) : Value).ownBlock ∧ some k_ ≠ (v349 : Value).ownBlock ∧ some k_ ≠ (v352 : Value).ownBlock) v346 t345) ∧ Aside0 (Kd.R (Kd.int .u8) 5 w' w.heap.size (fun k_ => some k_ ≠ ((.slice Ao17 y338.length co17) : Value).ownBlock ∧ some k_ ≠ (v346 : Value).ownBlock ∧ some k_ ≠ (v352 : Value).ownBlock) v349 t348) ∧ Aside0 (Kd.R (Kd.int .u8) 5 w' w.heap.size (fun k_ => some k_ ≠ ((.slice Ao17 y338.length co17) : Value).ownBlock ∧ some k_ ≠ (v346 : Value).ownBlock ∧ some k_ ≠ (v349 : Value).ownBlock) v352 t351) ∧ Aside0 (w'.heap[gb331]? = some (.cells #[.int .i64 a0_0, .string a0_1, (.slice A0_2 l0_2.length c0_2)] 42 (0, 0))) ∧ Aside0 (Kd.C (Kd.int .u8) w' Ao17 y341.length y341) ∧ Aside0 (Below w.heap.size w w'))
  case atStart => exact ⟨(0), (by first | rfl | (simp; done) | (simp [*]; done)), H', ⟨Nat.le_refl _⟩, ⟨by (with_reducible repeat first | apply rA | apply rN | apply rD); exact Kd.R_mono HO340.out (fun _ hk => ⟨hk.1.1.2, ⟨hk.1.2, hk.2⟩⟩)⟩, ⟨by (with_reducible repeat first | apply rA | apply rN | apply rD); exact Kd.R_mono HO347.out (fun _ hk => ⟨hk.1.1.2, ⟨hk.1.2, hk.2⟩⟩)⟩, ⟨by (with_reducible repeat first | apply rA | apply rN | apply rD); exact Kd.R_mono HO350.out (fun _ hk => ⟨hk.1.1.2, ⟨hk.1.2, hk.2⟩⟩)⟩, ⟨by (with_reducible repeat first | apply rA | apply rN | apply rD); exact Kd.R_mono HO353.out (fun _ hk => ⟨hk.1.1.2, ⟨hk.1.2, hk.2⟩⟩)⟩, ⟨by (with_reducible repeat first | apply kN | apply kD | apply kA); exact BK331.out⟩, ⟨by repeat (first | (with_reducible exact HR344.out) | (with_reducible first | apply cA | apply cN | apply cD) | exact HR344.out)⟩, ⟨by repeat with_reducible first | exact HB.out | apply bA | apply bN | apply bD | refine bS ?_ GE331.out⟩⟩
  case round =>
   clear H'
   try clear c1
   try clear q1
   try clear c2
   try clear p2
   try clear c4
   try clear c5
   try clear c5b0
   try clear c5b1
   try clear c6
   try clear c6b0
   try clear c6b1
   try clear c10
   try clear c14
   try clear c15
   try clear q16
   try clear c20
   try clear q16
   obtain ⟨x10_1, rfl, HA, HK1, HO_5, HO_7, HO_8, HO_9, BK331, HR344, HB⟩ := hrel
   cases gk with
   | zero => exact absurd HA.out (by simp [dancestudiolaw07_WireMemory.l0])
   | succ k1 =>
    have H := HA.out
    clear HA
    simp only [dancestudiolaw07_WireMemory.l0] at H
    by_cases c22 : x10_1 < 12
    ·
     rw [if_pos c22] at H
     have c22b0 := decide_eq_true c22
     clear c22
     obtain ⟨ji23, hji23⟩ : ∃ j_ : Int, (wrap64 ((l1.length : Int) + x10_1)) = j_ := ⟨_, rfl⟩
     replace H : (if 0 ≤ (ji23) then (if (ji23) < (y338.length : Int) then (if (rd y338 (ji23)) = ((wrap64 (x10_1 + 1)) % 256) then (dancestudiolaw07_WireMemory.l0 k1 l1 y338 y341 t345 t348 t351 (wrap64 (x10_1 + 1)) a0_0 a0_1 l0_2) else (none)) else (none)) else (none)) = some r := by first | (rw [hji23] at H; exact H) | (simp only [hji23] at H ⊢; exact H)
     have hji23w : (IntKind.i64.wrap ((l1.length : Int) + x10_1)) = ji23 := (i64_w _).trans hji23
     by_cases c24 : 0 ≤ (ji23); rotate_left
     · rw [if_neg c24] at H; exact absurd H (by simp)
     rw [if_pos c24] at H
     have c24b0 := decide_eq_true c24
     clear c24
     by_cases c25 : (ji23) < (y338.length : Int); rotate_left
     · rw [if_neg c25] at H; exact absurd H (by simp)
     rw [if_pos c25] at H
     have c25b0 := decide_eq_true c25
     clear c25
     by_cases c26 : (rd y338 (ji23)) = ((wrap64 (x10_1 + 1)) % 256); rotate_left
     · rw [if_neg c26] at H; exact absurd H (by simp)
     rw [if_pos c26] at H
     have c26b0 : ((rd y338 (ji23)) == ((wrap64 (x10_1 + 1)) % 256)) = true := beq_iff_eq.mpr c26
     have c26b1 : ((rd y338 (ji23)) != ((wrap64 (x10_1 + 1)) % 256)) = false := bne_eq_false_iff_eq.mpr c26
     clear c26
     have H' := Aside0.mk H
     clear H
     have p354 : 0 ≤ ((ji23) : Int) := of_decide_eq_true (by first | (with_reducible assumption) | assumption)
     have q354 : (ji23) < (y338.length : Int) := of_decide_eq_true (by first | (with_reducible assumption) | assumption)
     obtain ⟨ad354, e354, hx354_0⟩ := Kd.at_int (Kd.R_reads' HO_5.out).2.2 (ji23) p354 q354
     cases e354
     replace p354 := eq_true p354
     replace q354 := eq_true q354
     go_wp2
     go_roundg k1
     case measure => have := HK1.out; omega
     case rel => exact ⟨(wrap64 (x10_1 + 1)), (by first | rfl | (simp; done) | (simp [*]; done)), H', ⟨by have := HK1.out; omega⟩, ⟨by (with_reducible repeat first | apply rA | apply rN | apply rD); exact HO_5.out⟩, ⟨by (with_reducible repeat first | apply rA | apply rN | apply rD); exact HO_7.out⟩, ⟨by (with_reducible repeat first | apply rA | apply rN | apply rD); exact HO_8.out⟩, ⟨by (with_reducible repeat first | apply rA | apply rN | apply rD); exact HO_9.out⟩, ⟨by (with_reducible repeat first | apply kN | apply kD | apply kA); exact BK331.out⟩, ⟨by repeat (first | (with_reducible exact HR344.out) | (with_reducible first | apply cA | apply cN | apply cD) | exact HR344.out)⟩, ⟨by repeat with_reducible first | exact HB.out | apply bA | apply bN | apply bD | refine bS ?_ GE331.out⟩⟩
    ·
     rw [if_neg c22] at H
     have c22b0 := decide_eq_false c22
     clear c22
     by_cases c27 : (t345.length : Int) < (l1.length : Int)
     · rw [if_pos c27] at H; exact absurd H (by simp)
     rw [if_neg c27] at H
     have c27b0 := decide_eq_false c27
     have c27b1 : decide (t345.length < l1.length) = false := decide_eq_false (fun h => c27 (Int.ofNat_lt.mpr h))
     clear c27
     by_cases c28 : (t348.length : Int) < (l1.length : Int)
     · rw [if_pos c28] at H; exact absurd H (by simp)
     rw [if_neg c28] at H
     have c28b0 := decide_eq_false c28
     have c28b1 : decide (t348.length < l1.length) = false := decide_eq_false (fun h => c28 (Int.ofNat_lt.mpr h))
     clear c28
     by_cases c29 : (t351.length : Int) < (l1.length : Int)
     · rw [if_pos c29] at H; exact absurd H (by simp)
     rw [if_neg c29] at H
     have c29b0 := decide_eq_false c29
     have c29b1 : decide (t351.length < l1.length) = false := decide_eq_false (fun h => c29 (Int.ofNat_lt.mpr h))
     clear c29
     have H' := Aside0.mk H
     clear H
     obtain ⟨Ao30, co30, eo30⟩ := Kd.R_slice HO_7.out
     subst eo30
     obtain ⟨Ao31, co31, eo31⟩ := Kd.R_slice HO_8.out
     subst eo31
     obtain ⟨Ao32, co32, eo32⟩ := Kd.R_slice HO_9.out
     subst eo32
     go_wp2
     go_loopg [11] k1 (fun kq v11 w' => ∃ (x7_2 : List Int) (x8_2 : List Int) (x9_2 : List Int) (x11_2 : Int), v11 = .int .i64 x11_2 ∧ Aside0 (dancestudiolaw07_WireMemory.l1 kq l1 y338 y341 x7_2 x8_2 x9_2 x11_2 a0_0 a0_1 l0_2 = some r) ∧ Aside0 (kq ≤ k1) ∧ Aside0 (Kd.R (Kd.int .u8) 5 w' w.heap.size (fun k_ => some k_ ≠ ((.slice Ao30 t345.length co30) : Value).ownBlock ∧ some k_ ≠ ((.slice Ao31 t348.length co31) : Value).ownBlock ∧ some k_ ≠ ((.slice Ao32 t351.length co32) : Value).ownBlock) (.slice Ao17 y338.length co17) y338) ∧ Aside0 (Kd.R (Kd.int .u8) 5 w' w.heap.size (fun k_ => some k_ ≠ ((.slice Ao17 y338.length co17) : Value).ownBlock ∧ some k_ ≠ ((.slice Ao31 t348.length co31) : Value).ownBlock ∧ some k_ ≠ ((.slice Ao32 t351.length co32) : Value).ownBlock) (.slice Ao30 t345.length co30) x7_2) ∧ Aside0 (Kd.R (Kd.int .u8) 5 w' w.heap.size (fun k_ => some k_ ≠ ((.slice Ao17 y338.length co17) : Value).ownBlock ∧ some k_ ≠ ((.slice Ao30 t345.length co30) : Value).ownBlock ∧ some k_ ≠ ((.slice Ao32 t351.length co32) : Value).ownBlock) (.slice Ao31 t348.length co31) x8_2) ∧ Aside0 (Kd.R (Kd.int .u8) 5 w' w.heap.size (fun k_ => some k_ ≠ ((.slice Ao17 y338.length co17) : Value).ownBlock ∧ some k_ ≠ ((.slice Ao30 t345.length co30) : Value).ownBlock ∧ some k_ ≠ ((.slice Ao31 t348.length co31) : Value).ownBlock) (.slice Ao32 t351.length co32) x9_2) ∧ Aside0 (w'.heap[gb331]? = some (.cells #[.int .i64 a0_0, .string a0_1, (.slice A0_2 l0_2.length c0_2)] 42 (0, 0))) ∧ Aside0 (Kd.C (Kd.int .u8) w' Ao17 y341.length y341) ∧ Aside0 (Below w.heap.size w w'))
     case atStart => exact ⟨(t345), (t348), (t351), (0), (by first | rfl | (simp; done) | (simp [*]; done)), H', ⟨Nat.le_refl _⟩, ⟨by (with_reducible repeat first | apply rA | apply rN | apply rD); exact HO_5.out⟩, ⟨by (with_reducible repeat first | apply rA | apply rN | apply rD); exact HO_7.out⟩, ⟨by (with_reducible repeat first | apply rA | apply rN | apply rD); exact HO_8.out⟩, ⟨by (with_reducible repeat first | apply rA | apply rN | apply rD); exact HO_9.out⟩, ⟨by (with_reducible repeat first | apply kN | apply kD | apply kA); exact BK331.out⟩, ⟨by repeat (first | (with_reducible exact HR344.out) | (with_reducible first | apply cA | apply cN | apply cD) | exact HR344.out)⟩, ⟨by repeat with_reducible first | exact HB.out | apply bA | apply bN | apply bD | refine bS ?_ GE331.out⟩⟩
     case round =>
      clear H'
      try clear c1
      try clear q1
      try clear c2
      try clear p2
      try clear p3
      try clear q3
      try clear hx3
      try clear c4
      try clear c5
      try clear c5b0
      try clear c5b1
      try clear c6
      try clear c6b0
      try clear c6b1
      try clear p6
      try clear c10
      try clear c14
      try clear c15
      try clear q16
      try clear c20
      try clear c22
      try clear c22b0
      try clear c24
      try clear c24b0
      try clear c25
      try clear c25b0
      try clear c26
      try clear c26b0
      try clear c26b1
      try clear c27
      try clear c27b0
      try clear c27b1
      try clear c28
      try clear c28b0
      try clear c28b1
      try clear c29
      try clear c29b0
      try clear c29b1
      try clear hx354_0
      try clear p2
      try clear p354
      try clear q1
      try clear q16
      try clear q354
      obtain ⟨x7_2, x8_2, x9_2, x11_2, rfl, HA, HK2, HO_5, HO_7, HO_8, HO_9, BK331, HR344, HB⟩ := hrel
      have hl7_2 := (Kd.R_reads' HO_7.out).1
      rw [hl7_2] at HO_7
      (try simp only [hl7_2])
      (try simp only [hl7_2] at BK331)
      (try simp only [hl7_2] at HO_5)
      (try simp only [hl7_2] at HO_8)
      (try simp only [hl7_2] at HO_9)
      have hl8_2 := (Kd.R_reads' HO_8.out).1
      rw [hl8_2] at HO_8
      (try simp only [hl8_2])
      (try simp only [hl8_2] at BK331)
      (try simp only [hl8_2] at HO_5)
      (try simp only [hl8_2] at HO_7)
      (try simp only [hl8_2] at HO_9)
      have hl9_2 := (Kd.R_reads' HO_9.out).1
      rw [hl9_2] at HO_9
      (try simp only [hl9_2])
      (try simp only [hl9_2] at BK331)
      (try simp only [hl9_2] at HO_5)
      (try simp only [hl9_2] at HO_7)
      (try simp only [hl9_2] at HO_8)
      cases gk with
      | zero => exact absurd HA.out (by simp [dancestudiolaw07_WireMemory.l1])
      | succ k2 =>
       have H := HA.out
       clear HA
       simp only [dancestudiolaw07_WireMemory.l1] at H
       by_cases c33 : x11_2 < (l1.length : Int)
       ·
        rw [if_pos c33] at H
        have c33b0 := decide_eq_true c33
        clear c33
        by_cases c34 : 0 ≤ x11_2; rotate_left
        · rw [if_neg c34] at H; exact absurd H (by simp)
        rw [if_pos c34] at H
        have c34b0 := decide_eq_true c34
        clear c34
        by_cases c35 : x11_2 < (x7_2.length : Int); rotate_left
        · rw [if_neg c35] at H; exact absurd H (by simp)
        rw [if_pos c35] at H
        have c35b0 := decide_eq_true c35
        clear c35
        by_cases c36 : x11_2 < (x8_2.length : Int); rotate_left
        · rw [if_neg c36] at H; exact absurd H (by simp)
        rw [if_pos c36] at H
        have c36b0 := decide_eq_true c36
        clear c36
        by_cases c37 : x11_2 < (x9_2.length : Int); rotate_left
        · rw [if_neg c37] at H; exact absurd H (by simp)
        rw [if_pos c37] at H
        have c37b0 := decide_eq_true c37
        clear c37
        obtain ⟨y358, hy358⟩ : ∃ y_ : List Int, y_ = (x7_2.set (x11_2 : Int).toNat (((rd x7_2 x11_2) + 1) % 256)) := ⟨_, rfl⟩
        replace H : (dancestudiolaw07_WireMemory.l1 k2 l1 y338 y341 y358 (x8_2.set (x11_2 : Int).toNat (((rd x8_2 x11_2) + 2) % 256)) (x9_2.set (x11_2 : Int).toNat (((rd x9_2 x11_2) + 3) % 256)) (wrap64 (x11_2 + 1)) a0_0 a0_1 l0_2) = some r := by first | (rw [hy358]; with_reducible exact H) | (have H2_ := (Option.bind_some _ _).symm.trans H; rw [hy358]; with_reducible exact H2_) | (have H2_ := (Option.bind_some _ _).symm.trans H; with_reducible exact H2_) | with_reducible exact H | (rw [hy358]; exact H) | exact H
        have Ny358 := Aside0.mk hy358
        clear hy358
        obtain ⟨y359, hy359⟩ : ∃ y_ : List Int, y_ = (x8_2.set (x11_2 : Int).toNat (((rd x8_2 x11_2) + 2) % 256)) := ⟨_, rfl⟩
        replace H : (dancestudiolaw07_WireMemory.l1 k2 l1 y338 y341 y358 y359 (x9_2.set (x11_2 : Int).toNat (((rd x9_2 x11_2) + 3) % 256)) (wrap64 (x11_2 + 1)) a0_0 a0_1 l0_2) = some r := by first | (rw [hy359]; with_reducible exact H) | (have H2_ := (Option.bind_some _ _).symm.trans H; rw [hy359]; with_reducible exact H2_) | (have H2_ := (Option.bind_some _ _).symm.trans H; with_reducible exact H2_) | with_reducible exact H | (rw [hy359]; exact H) | exact H
        have Ny359 := Aside0.mk hy359
        clear hy359
        obtain ⟨y360, hy360⟩ : ∃ y_ : List Int, y_ = (x9_2.set (x11_2 : Int).toNat (((rd x9_2 x11_2) + 3) % 256)) := ⟨_, rfl⟩
        replace H : (dancestudiolaw07_WireMemory.l1 k2 l1 y338 y341 y358 y359 y360 (wrap64 (x11_2 + 1)) a0_0 a0_1 l0_2) = some r := by first | (rw [hy360]; with_reducible exact H) | (have H2_ := (Option.bind_some _ _).symm.trans H; rw [hy360]; with_reducible exact H2_) | (have H2_ := (Option.bind_some _ _).symm.trans H; with_reducible exact H2_) | with_reducible exact H | (rw [hy360]; exact H) | exact H
        have Ny360 := Aside0.mk hy360
        clear hy360
        have H' := Aside0.mk H
        clear H
        try go_wp2
        have n0_ := Aside0.mk (Kd.R_drew HO_5.out)
        have n1_ := Aside0.mk (Kd.R_drew HO_7.out)
        have n2_ := Aside0.mk (Kd.R_drew HO_8.out)
        have n3_ := Aside0.mk (Kd.R_drew HO_9.out)
        have n4_ := Aside0.mk (blk_drew BK331.out)
        have n5_ := Aside0.mk (Kd.C_drew HR344.out)
        have n6_ := Aside0.mk (below_drew1 HB.out)
        clear HO_5
        clear HO_7
        clear HO_8
        clear HO_9
        clear BK331
        clear HR344
        clear HB
        have HO_5 := n0_
        have HO_7 := n1_
        have HO_8 := n2_
        have HO_9 := n3_
        have BK331 := n4_
        have HR344 := n5_
        have HB := n6_
        clear n0_ n1_ n2_ n3_ n4_ n5_ n6_
        have p355 : 0 ≤ (x11_2 : Int) := of_decide_eq_true (by first | (with_reducible assumption) | assumption)
        have q355 : x11_2 < (x7_2.length : Int) := of_decide_eq_true (by first | (with_reducible assumption) | assumption)
        obtain ⟨ad355, e355, hx355_0⟩ := Kd.at_int (Kd.R_reads' HO_7.out).2.2 x11_2 p355 q355
        cases e355
        replace p355 := eq_true p355
        replace q355 := eq_true q355
        have p356 : 0 ≤ (x11_2 : Int) := of_decide_eq_true (by first | (with_reducible assumption) | assumption)
        have q356 : x11_2 < (x8_2.length : Int) := of_decide_eq_true (by first | (with_reducible assumption) | assumption)
        obtain ⟨ad356, e356, hx356_0⟩ := Kd.at_int (Kd.R_reads' HO_8.out).2.2 x11_2 p356 q356
        cases e356
        replace p356 := eq_true p356
        replace q356 := eq_true q356
        have p357 : 0 ≤ (x11_2 : Int) := of_decide_eq_true (by first | (with_reducible assumption) | assumption)
        have q357 : x11_2 < (x9_2.length : Int) := of_decide_eq_true (by first | (with_reducible assumption) | assumption)
        obtain ⟨ad357, e357, hx357_0⟩ := Kd.at_int (Kd.R_reads' HO_9.out).2.2 x11_2 p357 q357
        cases e357
        replace p357 := eq_true p357
        replace q357 := eq_true q357
        have p38 : 0 ≤ (x11_2 : Int) := of_decide_eq_true (by first | (with_reducible assumption) | assumption)
        have q38 : (x11_2 : Int) < ((x7_2.length : Int) : Int) := of_decide_eq_true (by first | (with_reducible assumption) | assumption)
        obtain ⟨go38, co38, eo38, gb38, gl38, cl38, HG38⟩ := Kd.R_form HO_7.out (by omega)
        (first | cases eo38 | (injection eo38 with ea_ en_ ec_; (first | subst ea_ | (injection ea_ with ea_; subst ea_)); subst ec_; clear en_))
        have GB38 := Aside0.mk gb38
        have GG38 := Aside0.mk HG38
        clear gb38 gl38 HG38
        (first | simp only [add_plain] at hx355_0 | skip)
        obtain ⟨hx38_0, hf38_0⟩ := Kd.R_celln 0 HO_7.out (x11_2 : Int) p38 q38
        replace p38 := eq_true p38
        replace q38 := eq_true q38
        have HP42 := Kd.R_putn HO_7.out (x11_2 : Int) (((rd x7_2 x11_2) + 1) % 256)
        rw [← Ny358.out] at HP42
        have HQ42 := Aside0.mk HP42
        clear HP42
        have p39 : 0 ≤ (x11_2 : Int) := of_decide_eq_true (by first | (with_reducible assumption) | assumption)
        have q39 : (x11_2 : Int) < ((x8_2.length : Int) : Int) := of_decide_eq_true (by first | (with_reducible assumption) | assumption)
        obtain ⟨go39, co39, eo39, gb39, gl39, cl39, HG39⟩ := Kd.R_form HO_8.out (by omega)
        (first | cases eo39 | (injection eo39 with ea_ en_ ec_; (first | subst ea_ | (injection ea_ with ea_; subst ea_)); subst ec_; clear en_))
        have GB39 := Aside0.mk gb39
        have GG39 := Aside0.mk HG39
        clear gb39 gl39 HG39
        (first | simp only [add_plain] at hx356_0 | skip)
        obtain ⟨hx39_0, hf39_0⟩ := Kd.R_celln 0 (Kd.R_far (p := ⟨go38, (x11_2 : Int).toNat, none⟩) (Kd.R_mono HO_8.out (fun k_ hk => (⟨hk, fun e_ => hk.2.1 (by rw [e_]; rfl)⟩ : _ ∧ k_ ≠ go38))) (fun _ hk => hk.2) (.int .u8 (((rd x7_2 x11_2) + 1) % 256))) (x11_2 : Int) p39 q39
        replace p39 := eq_true p39
        replace q39 := eq_true q39
        have HP43 := Kd.R_putn (Kd.R_far (p := ⟨go38, (x11_2 : Int).toNat, none⟩) (Kd.R_mono HO_8.out (fun k_ hk => (⟨hk, fun e_ => hk.2.1 (by rw [e_]; rfl)⟩ : _ ∧ k_ ≠ go38))) (fun _ hk => hk.2) (.int .u8 (((rd x7_2 x11_2) + 1) % 256))) (x11_2 : Int) (((rd x8_2 x11_2) + 2) % 256)
        rw [← Ny359.out] at HP43
        have HQ43 := Aside0.mk HP43
        clear HP43
        have p40 : 0 ≤ (x11_2 : Int) := of_decide_eq_true (by first | (with_reducible assumption) | assumption)
        have q40 : (x11_2 : Int) < ((x9_2.length : Int) : Int) := of_decide_eq_true (by first | (with_reducible assumption) | assumption)
        obtain ⟨go40, co40, eo40, gb40, gl40, cl40, HG40⟩ := Kd.R_form HO_9.out (by omega)
        (first | cases eo40 | (injection eo40 with ea_ en_ ec_; (first | subst ea_ | (injection ea_ with ea_; subst ea_)); subst ec_; clear en_))
        have GB40 := Aside0.mk gb40
        have GG40 := Aside0.mk HG40
        clear gb40 gl40 HG40
        (first | simp only [add_plain] at hx357_0 | skip)
        obtain ⟨hx40_0, hf40_0⟩ := Kd.R_celln 0 (Kd.R_far (p := ⟨go39, (x11_2 : Int).toNat, none⟩) (Kd.R_far (p := ⟨go38, (x11_2 : Int).toNat, none⟩) (Kd.R_mono (Kd.R_mono HO_9.out (fun k_ hk => (⟨hk, fun e_ => hk.2.1 (by rw [e_]; rfl)⟩ : _ ∧ k_ ≠ go38))) (fun k_ hk => (⟨hk, fun e_ => hk.1.2.2 (by rw [e_]; rfl)⟩ : _ ∧ k_ ≠ go39))) (fun _ hk => hk.1.2) (.int .u8 (((rd x7_2 x11_2) + 1) % 256))) (fun _ hk => hk.2) (.int .u8 (((rd x8_2 x11_2) + 2) % 256))) (x11_2 : Int) p40 q40
        replace p40 := eq_true p40
        replace q40 := eq_true q40
        have HP44 := Kd.R_putn (Kd.R_far (p := ⟨go39, (x11_2 : Int).toNat, none⟩) (Kd.R_far (p := ⟨go38, (x11_2 : Int).toNat, none⟩) (Kd.R_mono (Kd.R_mono HO_9.out (fun k_ hk => (⟨hk, fun e_ => hk.2.1 (by rw [e_]; rfl)⟩ : _ ∧ k_ ≠ go38))) (fun k_ hk => (⟨hk, fun e_ => hk.1.2.2 (by rw [e_]; rfl)⟩ : _ ∧ k_ ≠ go39))) (fun _ hk => hk.1.2) (.int .u8 (((rd x7_2 x11_2) + 1) % 256))) (fun _ hk => hk.2) (.int .u8 (((rd x8_2 x11_2) + 2) % 256))) (x11_2 : Int) (((rd x9_2 x11_2) + 3) % 256)
        rw [← Ny360.out] at HP44
        have HQ44 := Aside0.mk HP44
        clear HP44
        obtain ⟨_, hg39_⟩ := Kd.R_celln 0 HO_8.out (x11_2 : Int) (of_eq_true p39) (of_eq_true q39)
        obtain ⟨_, hg40_⟩ := Kd.R_celln 0 HO_9.out (x11_2 : Int) (of_eq_true p40) (of_eq_true q40)
        have hab_ : go39 ≠ go38 := fun e_ => (HO_8.out.1 go39 rfl).2.1 (by rw [e_]; rfl)
        have hba_ : go38 ≠ go39 := fun e_ => hab_ e_.symm
        have hac_ : go40 ≠ go38 := fun e_ => (HO_9.out.1 go40 rfl).2.1 (by rw [e_]; rfl)
        have hca_ : go38 ≠ go40 := fun e_ => hac_ e_.symm
        have hbc_ : go40 ≠ go39 := fun e_ => (HO_9.out.1 go40 rfl).2.2 (by rw [e_]; rfl)
        have hcb_ : go39 ≠ go40 := fun e_ => hbc_ e_.symm
        refine start_ (n := 27) (S := fun w' => w'.cell? ⟨go38, (x11_2).toNat, none⟩ = some (.int .u8 (rd x7_2 x11_2)) ∧ w'.cell? ⟨go39, (x11_2).toNat, none⟩ = some (.int .u8 (rd x8_2 x11_2)) ∧ w'.cell? ⟨go40, (x11_2).toNat, none⟩ = some (.int .u8 (rd x9_2 x11_2))) (ds := [22, 24, 26]) (bm 27 0) (by kernel_rfl) rfl rfl ⟨hx355_0, hx356_0, hx357_0⟩ (fun hHeld => ?_); refine with_tabW dancestudiolaw07_WireMemory.tab14 dancestudiolaw07_WireMemory.bits14 (fun HT_ HW_ => ?_)
        generalize wr.drew = w41 at hg39_ hg40_ HO_5 HO_7 HO_8 HO_9 BK331 HR344 HB GG38 GG39 GG40 HQ42 HQ43 HQ44 hf38_0 hf39_0 hf40_0 hx355_0 hx356_0 hx357_0 hx38_0 hx39_0 hx40_0 hHeld ⊢
        refine pure_ (i := 0) (N := some 76) (v := ?_) (a' := ?_) (bm 27 1) rfl rfl (any_of HT_.out (by kernel_rfl)) (fun _ _ _ h => h) (Or.inl ⟨by rfl, ?_⟩) ?_ ?_
        rotate_left; (intro w'; go_simp; with_reducible rfl); rotate_left; (simp only [Act.put, aS, lZ, lS, i64_w, i32_w]; rfl)
        refine pure_ (i := 1) (N := some 77) (v := ?_) (a' := ?_) (bm 27 3) rfl rfl (any_of HT_.out (by kernel_rfl)) (fun _ _ _ h => h) (Or.inl ⟨by rfl, ?_⟩) ?_ ?_
        rotate_left; (intro w'; go_simp; with_reducible rfl); rotate_left; (simp only [Act.put, aS, lZ, lS, i64_w, i32_w]; rfl)
        refine pure_ (i := 2) (N := some 78) (v := ?_) (a' := ?_) (bm 27 7) rfl rfl (any_of HT_.out (by kernel_rfl)) (fun _ _ _ h => h) (Or.inl ⟨by rfl, ?_⟩) ?_ ?_
        rotate_left; (intro w'; go_simp; with_reducible rfl); rotate_left; (simp only [Act.put, aS, lZ, lS, i64_w, i32_w]; rfl)
        refine pure_ (i := 3) (N := some 79) (v := ?_) (a' := ?_) (bm 27 15) rfl rfl (any_of HT_.out (by kernel_rfl)) (fun _ _ _ h => h) (Or.inl ⟨by rfl, ?_⟩) ?_ ?_
        rotate_left; (intro w'; go_simp; with_reducible rfl); rotate_left; (simp only [Act.put, aS, lZ, lS, i64_w, i32_w]; rfl)
        refine pure_ (i := 4) (N := some 80) (v := ?_) (a' := ?_) (bm 27 31) rfl rfl (any_of HT_.out (by kernel_rfl)) (fun _ _ _ h => h) (Or.inl ⟨by rfl, ?_⟩) ?_ ?_
        rotate_left; (intro w'; go_simp; with_reducible rfl); rotate_left; (simp only [Act.put, aS, lZ, lS, i64_w, i32_w]; rfl)
        refine pure_ (i := 5) (N := some 81) (v := ?_) (a' := ?_) (bm 27 63) rfl rfl (any_of HT_.out (by kernel_rfl)) (fun _ _ _ h => h) (Or.inl ⟨by rfl, ?_⟩) ?_ ?_
        rotate_left; (intro w'; go_simp; with_reducible rfl); rotate_left; (simp only [Act.put, aS, lZ, lS, i64_w, i32_w]; rfl)
        refine pure_ (i := 6) (N := some 82) (v := ?_) (a' := ?_) (bm 27 127) rfl rfl (any_of HT_.out (by kernel_rfl)) (fun _ _ _ h => h) (Or.inl ⟨by rfl, ?_⟩) ?_ ?_
        rotate_left; (intro w'; go_simp; with_reducible rfl); rotate_left; (simp only [Act.put, aS, lZ, lS, i64_w, i32_w]; rfl)
        refine pure_ (i := 7) (N := some 83) (v := ?_) (a' := ?_) (bm 27 255) rfl rfl (any_of HT_.out (by kernel_rfl)) (fun _ _ _ h => h) (Or.inl ⟨by rfl, ?_⟩) ?_ ?_
        rotate_left; (intro w'; go_simp; with_reducible rfl); rotate_left; (simp only [Act.put, aS, lZ, lS, i64_w, i32_w]; rfl)
        refine pure_ (i := 8) (N := some 84) (v := ?_) (a' := ?_) (bm 27 511) rfl rfl (any_of HT_.out (by kernel_rfl)) (fun _ _ _ h => h) (Or.inl ⟨by rfl, ?_⟩) ?_ ?_
        rotate_left; (intro w'; go_simp; with_reducible rfl); rotate_left; (simp only [Act.put, aS, lZ, lS, i64_w, i32_w]; rfl)
        refine pure_ (i := 11) (N := some 87) (v := ?_) (a' := ?_) (bm 27 2559) rfl rfl (any_of HT_.out (by kernel_rfl)) (fun _ _ _ h => h) (Or.inl ⟨by rfl, ?_⟩) ?_ ?_
        rotate_left; (intro w'; go_simp; with_reducible rfl); rotate_left; (simp only [Act.put, aS, lZ, lS, i64_w, i32_w]; rfl)
        refine pure_ (i := 12) (N := some 88) (v := ?_) (a' := ?_) (bm 27 6655) rfl rfl (any_of HT_.out (by kernel_rfl)) (fun _ _ _ h => h) (Or.inl ⟨by rfl, ?_⟩) ?_ ?_
        rotate_left; (intro w'; go_simp; with_reducible rfl); rotate_left; (simp only [Act.put, aS, lZ, lS, i64_w, i32_w]; rfl)
        refine pure_ (i := 13) (N := some 89) (v := ?_) (a' := ?_) (bm 27 14847) rfl rfl (any_of HT_.out (by kernel_rfl)) (fun _ _ _ h => h) (Or.inl ⟨by rfl, ?_⟩) ?_ ?_
        rotate_left; (intro w'; go_simp; with_reducible rfl); rotate_left; (simp only [Act.put, aS, lZ, lS, i64_w, i32_w]; rfl)
        refine pure_ (i := 16) (N := some 92) (v := ?_) (a' := ?_) (bm 27 80383) rfl rfl (any_of HT_.out (by kernel_rfl)) (fun _ _ _ h => h) (Or.inl ⟨by rfl, ?_⟩) ?_ ?_
        rotate_left; (intro w'; go_simp; with_reducible rfl); rotate_left; (simp only [Act.put, aS, lZ, lS, i64_w, i32_w]; rfl)
        refine pure_ (i := 17) (N := some 93) (v := ?_) (a' := ?_) (bm 27 211455) rfl rfl (any_of HT_.out (by kernel_rfl)) (fun _ _ _ h => h) (Or.inl ⟨by rfl, ?_⟩) ?_ ?_
        rotate_left; (intro w'; go_simp; with_reducible rfl); rotate_left; (simp only [Act.put, aS, lZ, lS, i64_w, i32_w]; rfl)
        refine pure_ (i := 18) (N := some 94) (v := ?_) (a' := ?_) (bm 27 473599) rfl rfl (any_of HT_.out (by kernel_rfl)) (fun _ _ _ h => h) (Or.inl ⟨by rfl, ?_⟩) ?_ ?_
        rotate_left; (intro w'; go_simp; with_reducible rfl); rotate_left; (simp only [Act.put, aS, lZ, lS, i64_w, i32_w]; rfl)
        refine take_ (i := 9) (N := some 85) (v := ?_) (a' := ?_) (bm 27 474111) rfl rfl (take_ofW HT_.out HW_.out (by kernel_rfl)) (fun _ _ _ h => h) (Or.inl ⟨by rfl, ?_⟩) hHeld ?_ ?_
        rotate_left
        ·
         rintro w' ⟨s0, s1, s2⟩
         go_simp
         with_reducible rfl
        rotate_left
        ·
         simp only [Act.put, aS, lZ, lS, i64_w, i32_w]
         rfl
        refine pure_ (i := 10) (N := some 86) (v := ?_) (a' := ?_) (bm 27 475135) rfl rfl (any_of HT_.out (by kernel_rfl)) (fun _ _ _ h => h) (Or.inl ⟨by rfl, ?_⟩) ?_ ?_
        rotate_left; (intro w'; go_simp; with_reducible rfl); rotate_left; (simp only [Act.put, aS, lZ, lS, i64_w, i32_w]; rfl)
        refine take_ (i := 14) (N := some 90) (v := ?_) (a' := ?_) (bm 27 491519) rfl rfl (take_ofW HT_.out HW_.out (by kernel_rfl)) (fun _ _ _ h => h) (Or.inl ⟨by rfl, ?_⟩) hHeld ?_ ?_
        rotate_left
        ·
         rintro w' ⟨s0, s1, s2⟩
         go_simp
         with_reducible rfl
        rotate_left
        ·
         simp only [Act.put, aS, lZ, lS, i64_w, i32_w]
         rfl
        refine pure_ (i := 15) (N := some 91) (v := ?_) (a' := ?_) (bm 27 524287) rfl rfl (any_of HT_.out (by kernel_rfl)) (fun _ _ _ h => h) (Or.inl ⟨by rfl, ?_⟩) ?_ ?_
        rotate_left; (intro w'; go_simp; with_reducible rfl); rotate_left; (simp only [Act.put, aS, lZ, lS, i64_w, i32_w]; rfl)
        refine take_ (i := 19) (N := some 95) (v := ?_) (a' := ?_) (bm 27 1048575) rfl rfl (take_ofW HT_.out HW_.out (by kernel_rfl)) (fun _ _ _ h => h) (Or.inl ⟨by rfl, ?_⟩) hHeld ?_ ?_
        rotate_left
        ·
         rintro w' ⟨s0, s1, s2⟩
         go_simp
         with_reducible rfl
        rotate_left
        ·
         simp only [Act.put, aS, lZ, lS, i64_w, i32_w]
         rfl
        refine pure_ (i := 20) (N := some 96) (v := ?_) (a' := ?_) (bm 27 2097151) rfl rfl (any_of HT_.out (by kernel_rfl)) (fun _ _ _ h => h) (Or.inl ⟨by rfl, ?_⟩) ?_ ?_
        rotate_left; (intro w'; go_simp; with_reducible rfl); rotate_left; (simp only [Act.put, aS, lZ, lS, i64_w, i32_w]; rfl)
        refine pure_ (i := 21) (N := some 97) (v := ?_) (a' := ?_) (bm 27 4194303) rfl rfl (any_of HT_.out (by kernel_rfl)) (fun _ _ _ h => h) (Or.inl ⟨by rfl, ?_⟩) ?_ ?_
        rotate_left; (intro w'; go_simp; with_reducible rfl); rotate_left; (simp only [Act.put, aS, lZ, lS, i64_w, i32_w]; rfl)
        refine last_ (i := 22) (N := none) (bm 27 8388607) rfl rfl (one_of HT_.out (by kernel_rfl)) (by decide) (fun K hK => ?_)
        refine skip_ (w1 := ?_) (by rfl) rfl ?_ ?_
        rotate_left
        ·
         go_simp
         rfl
        refine hK.out _ _ ?_
        clear hK K
        refine pure_ (i := 23) (N := some 98) (v := ?_) (a' := ?_) (bm 27 16777215) rfl rfl (any_of HT_.out (by kernel_rfl)) (fun _ _ _ h => h) (Or.inl ⟨by rfl, ?_⟩) ?_ ?_
        rotate_left; (intro w'; go_simp; with_reducible rfl); rotate_left; (simp only [Act.put, aS, lZ, lS, i64_w, i32_w]; rfl)
        refine last_ (i := 24) (N := none) (bm 27 33554431) rfl rfl (one_of HT_.out (by kernel_rfl)) (by decide) (fun K hK => ?_)
        refine skip_ (w1 := ?_) (by rfl) rfl ?_ ?_
        rotate_left
        ·
         go_simp
         rfl
        refine hK.out _ _ ?_
        clear hK K
        refine pure_ (i := 25) (N := some 99) (v := ?_) (a' := ?_) (bm 27 67108863) rfl rfl (any_of HT_.out (by kernel_rfl)) (fun _ _ _ h => h) (Or.inl ⟨by rfl, ?_⟩) ?_ ?_
        rotate_left; (intro w'; go_simp; with_reducible rfl); rotate_left; (simp only [Act.put, aS, lZ, lS, i64_w, i32_w]; rfl)
        refine last_ (i := 26) (N := none) (bm 27 134217727) rfl rfl (one_of HT_.out (by kernel_rfl)) (by decide) (fun K hK => ?_)
        refine skip_ (w1 := ?_) (by rfl) rfl ?_ ?_
        rotate_left
        ·
         go_simp
         rfl
        refine hK.out _ _ ?_
        clear hK K
        refine done_ (done_of HT_.out (by kernel_rfl)) ?_
        try go_wp2
        (try simp only [← hl7_2, ← hl8_2, ← hl9_2])
        go_roundg k2
        case measure => have := HK1.out; have := HK2.out; omega
        case rel => exact ⟨(y358), (y359), (y360), (wrap64 (x11_2 + 1)), (by first | rfl | (simp; done) | (simp [*]; done)), H', ⟨by have := HK1.out; have := HK2.out; omega⟩, ⟨by (try simp only [hl7_2]); (try simp only [hl8_2]); (try simp only [hl9_2]); (with_reducible repeat first | apply rA | apply rN | apply rD); exact Kd.R_mono (Kd.R_far (p := ⟨go40, (x11_2 : Int).toNat, none⟩) (Kd.R_far (p := ⟨go39, (x11_2 : Int).toNat, none⟩) (Kd.R_far (p := ⟨go38, (x11_2 : Int).toNat, none⟩) (Kd.R_mono (Kd.R_mono (Kd.R_mono HO_5.out (fun k_ hk => (⟨hk, fun e_ => hk.1 (by rw [e_]; rfl)⟩ : _ ∧ k_ ≠ go38))) (fun k_ hk => (⟨hk, fun e_ => hk.1.2.1 (by rw [e_]; rfl)⟩ : _ ∧ k_ ≠ go39))) (fun k_ hk => (⟨hk, fun e_ => hk.1.1.2.2 (by rw [e_]; rfl)⟩ : _ ∧ k_ ≠ go40))) (fun _ hk => hk.1.1.2) (.int .u8 (((rd x7_2 x11_2) + 1) % 256))) (fun _ hk => hk.1.2) (.int .u8 (((rd x8_2 x11_2) + 2) % 256))) (fun _ hk => hk.2) (.int .u8 (((rd x9_2 x11_2) + 3) % 256))) (fun _ hk => ⟨hk.1.1.1.1, ⟨hk.1.1.1.2.1, hk.1.1.1.2.2⟩⟩)⟩, ⟨by (try simp only [hl7_2]); (try simp only [hl8_2]); (try simp only [hl9_2]); (with_reducible repeat first | apply rA | apply rN | apply rD); exact Kd.R_mono (Kd.R_far (p := ⟨go40, (x11_2 : Int).toNat, none⟩) (Kd.R_far (p := ⟨go39, (x11_2 : Int).toNat, none⟩) (Kd.R_mono (Kd.R_mono HQ42.out (fun k_ hk => (⟨hk, fun e_ => hk.2.1 (by rw [e_]; rfl)⟩ : _ ∧ k_ ≠ go39))) (fun k_ hk => (⟨hk, fun e_ => hk.1.2.2 (by rw [e_]; rfl)⟩ : _ ∧ k_ ≠ go40))) (fun _ hk => hk.1.2) (.int .u8 (((rd x8_2 x11_2) + 2) % 256))) (fun _ hk => hk.2) (.int .u8 (((rd x9_2 x11_2) + 3) % 256))) (fun _ hk => ⟨hk.1.1.1, ⟨hk.1.1.2.1, hk.1.1.2.2⟩⟩)⟩, ⟨by (try simp only [hl7_2]); (try simp only [hl8_2]); (try simp only [hl9_2]); (with_reducible repeat first | apply rA | apply rN | apply rD); exact Kd.R_mono (Kd.R_far (p := ⟨go40, (x11_2 : Int).toNat, none⟩) (Kd.R_mono HQ43.out (fun k_ hk => (⟨hk, fun e_ => hk.1.2.2 (by rw [e_]; rfl)⟩ : _ ∧ k_ ≠ go40))) (fun _ hk => hk.2) (.int .u8 (((rd x9_2 x11_2) + 3) % 256))) (fun _ hk => ⟨hk.1.1.1, ⟨hk.1.1.2.1, hk.1.1.2.2⟩⟩)⟩, ⟨by (try simp only [hl7_2]); (try simp only [hl8_2]); (try simp only [hl9_2]); (with_reducible repeat first | apply rA | apply rN | apply rD); exact Kd.R_mono HQ44.out (fun _ hk => ⟨hk.1.1.1, ⟨hk.1.1.2.1, hk.1.1.2.2⟩⟩)⟩, ⟨by (try simp only [hl7_2]); (try simp only [hl8_2]); (try simp only [hl9_2]); (with_reducible repeat first | apply kN | apply kD | apply kA); refine blk_far ?_ (by have h_ := Kd.R_ne HO_9.out BK331.out (by decide); intro e_; exact h_ (by rw [e_]; rfl)) _; (with_reducible repeat first | apply kN | apply kD | apply kA); refine blk_far ?_ (by have h_ := Kd.R_ne HO_8.out BK331.out (by decide); intro e_; exact h_ (by rw [e_]; rfl)) _; (with_reducible repeat first | apply kN | apply kD | apply kA); refine blk_far ?_ (by have h_ := Kd.R_ne HO_7.out BK331.out (by decide); intro e_; exact h_ (by rw [e_]; rfl)) _; (with_reducible repeat first | apply kN | apply kD | apply kA); exact BK331.out⟩, ⟨(cAs Ny341.out (Kd.C_take (m := ((l1.length : Int) : Int).toNat) ((Kd.R_reads' (by (with_reducible repeat first | apply rA | apply rN | apply rD); exact (Kd.R_mono (Kd.R_mono (Kd.R_mono (Kd.R_far (p := ⟨go40, (x11_2 : Int).toNat, none⟩) (Kd.R_far (p := ⟨go39, (x11_2 : Int).toNat, none⟩) (Kd.R_far (p := ⟨go38, (x11_2 : Int).toNat, none⟩) (Kd.R_mono (Kd.R_mono (Kd.R_mono HO_5.out (fun k_ hk => (⟨hk, fun e_ => hk.1 (by rw [e_]; rfl)⟩ : _ ∧ k_ ≠ go38))) (fun k_ hk => (⟨hk, fun e_ => hk.1.2.1 (by rw [e_]; rfl)⟩ : _ ∧ k_ ≠ go39))) (fun k_ hk => (⟨hk, fun e_ => hk.1.1.2.2 (by rw [e_]; rfl)⟩ : _ ∧ k_ ≠ go40))) (fun _ hk => hk.1.1.2) (.int .u8 (((rd x7_2 x11_2) + 1) % 256))) (fun _ hk => hk.1.2) (.int .u8 (((rd x8_2 x11_2) + 2) % 256))) (fun _ hk => hk.2) (.int .u8 (((rd x9_2 x11_2) + 3) % 256))) (fun _ h_ => h_.1)) (fun _ h_ => h_.1)) (fun _ h_ => h_.1)))).2.2) KL16.out))⟩, ⟨by repeat with_reducible first | exact HB.out | apply bA | apply bN | apply bD | refine bS ?_ GB38.out | refine bS ?_ GB39.out | refine bS ?_ GB40.out | refine bS ?_ GE331.out⟩⟩
       ·
        rw [if_neg c33] at H
        have c33b0 := decide_eq_false c33
        clear c33
        by_cases c45 : 0 ≤ (l1.length : Int); rotate_left
        · rw [if_neg c45] at H; exact absurd H (by simp)
        rw [if_pos c45] at H
        have c45b0 := eq_true c45
        have c45b1 : decide (0 ≤ (l1.length : Int)) = true := decide_eq_true c45
        clear c45
        by_cases c46 : (l1.length : Int) ≤ (x9_2.length : Int); rotate_left
        · rw [if_neg c46] at H; exact absurd H (by simp)
        rw [if_pos c46] at H
        have c46b0 := eq_true c46
        have c46b1 : decide ((l1.length : Int) ≤ (x9_2.length : Int)) = true := decide_eq_true c46
        clear c46
        obtain ⟨y361, hy361⟩ : ∃ y_ : List Int, y_ = (x9_2.drop ((l1.length : Int) : Int).toNat) := ⟨_, rfl⟩
        replace H : ((wire_TakeList.f k2 y361 (l0_2.length : Int)).bind fun bt365 => (dancestudiolaw07_WireMemory.l2 k2 l1 y338 y341 x9_2 bt365.1 bt365.2.2 (l1.length : Int) a0_0 a0_1 l0_2)) = some r := by first | (rw [hy361]; with_reducible exact H) | (have H2_ := (Option.bind_some _ _).symm.trans H; rw [hy361]; with_reducible exact H2_) | (have H2_ := (Option.bind_some _ _).symm.trans H; with_reducible exact H2_) | with_reducible exact H | (rw [hy361]; exact H) | exact H
        have Ny361 := Aside0.mk hy361
        clear hy361
        replace H := Option.bind_eq_some_iff.mp H
        obtain ⟨⟨t365, t366, t367⟩, A470, H⟩ := H
        replace H : (dancestudiolaw07_WireMemory.l2 k2 l1 y338 y341 x9_2 t365 t367 (l1.length : Int) a0_0 a0_1 l0_2) = some r := H
        have A47 := Aside0.mk A470
        clear A470
        have H' := Aside0.mk H
        clear H
        try go_wp2
        have n0_ := Aside0.mk (Kd.R_drew HO_5.out)
        have n1_ := Aside0.mk (Kd.R_drew HO_7.out)
        have n2_ := Aside0.mk (Kd.R_drew HO_8.out)
        have n3_ := Aside0.mk (Kd.R_drew HO_9.out)
        have n4_ := Aside0.mk (blk_drew BK331.out)
        have n5_ := Aside0.mk (Kd.C_drew HR344.out)
        have n6_ := Aside0.mk (below_drew1 HB.out)
        clear HO_5
        clear HO_7
        clear HO_8
        clear HO_9
        clear BK331
        clear HR344
        clear HB
        have HO_5 := n0_
        have HO_7 := n1_
        have HO_8 := n2_
        have HO_9 := n3_
        have BK331 := n4_
        have HR344 := n5_
        have HB := n6_
        clear n0_ n1_ n2_ n3_ n4_ n5_ n6_
        have q49 : ((l1.length : Int) : Int) ≤ ((x9_2.length : Int) : Int) := of_decide_eq_true (by first | (with_reducible assumption) | assumption)
        obtain ⟨i049, hi049, _, hsz49, _⟩ := info_parts info5
        have hroom49 : x9_2.length ≤ co32 := (Kd.R_reads' HO_9.out).2.1
        have hC49 : Kd.C (Kd.int .u8) _ Ao32 x9_2.length x9_2 := (Kd.R_reads' HO_9.out).2.2
        have q049 : (0 : Int) ≤ ((l1.length : Int) : Int) := of_decide_eq_true (by first | (with_reducible assumption) | assumption)
        have hcut49 := cut_from (P := Try.prog) 22 5 .i64 Try.underlying22 hi049 1 hsz49 Ao32 x9_2.length co32 (l1.length : Int) q049 q49
        have hr49 := Kd.C_drop (m := ((l1.length : Int) : Int).toNat) (c := co32) hC49 (by omega) hroom49
        obtain ⟨A49, hA49⟩ : ∃ A1, A1 = (if co32 = ((l1.length : Int) : Int).toNat then Ao32 else (Ao32 : Option Addr).map (·.add (((l1.length : Int) : Int).toNat * 1))) := ⟨_, rfl⟩
        obtain ⟨c49, hc49⟩ : ∃ c1, c1 = co32 - ((l1.length : Int) : Int).toNat := ⟨_, rfl⟩
        have hy49 : y361.length = x9_2.length - ((l1.length : Int) : Int).toNat := (by rw [Ny361.out, List.length_drop] <;> omega)
        rw [show (x9_2).drop ((l1.length : Int) : Int).toNat = y361 from Ny361.out.symm] at hr49
        replace hr49 : Kd.C (Kd.int .u8) _ A49 y361.length y361 := (by rw [hA49]; exact hr49)
        rw [← hy49, ← hA49, ← hc49] at hcut49
        have HR364 := Aside0.mk hr49
        have HC364 := Aside0.mk (show y361.length ≤ c49 from by rw [hy49, hc49]; exact Nat.sub_le_sub_right hroom49 _)
        clear hr49 hC49 hroom49 hi049 hsz49 hc49
        have KY49 := Aside0.mk hy49
        have KA49 := Aside0.mk hA49
        clear hy49 hA49
        have KL49 := Aside0.mk (show ((l1.length : Int) : Int).toNat ≤ x9_2.length from by omega)
        replace q49 := eq_true q49
        refine start_ (n := 15) (S := fun w' => w'.cell? ⟨gb331, 0, none⟩ = some (.int .i64 a0_0) ∧ w'.cell? ⟨gb331, 1, none⟩ = some (.string a0_1) ∧ w'.cell? ⟨gb331, 2, none⟩ = some (.slice A0_2 l0_2.length c0_2)) (ds := []) (bm 15 0) (by kernel_rfl) rfl rfl ⟨(blk_cell BK331.out 0).trans rfl, (blk_cell BK331.out 1).trans rfl, (blk_cell BK331.out 2).trans rfl⟩ (fun hHeld => ?_); refine with_tabW dancestudiolaw07_WireMemory.tab15 dancestudiolaw07_WireMemory.bits15 (fun HT_ HW_ => ?_)
        generalize wr.drew = w48 at HO_5 HO_7 HO_8 HO_9 BK331 HR344 HB HR364 hHeld ⊢
        refine pure_ (i := 0) (N := some 101) (v := ?_) (a' := ?_) (bm 15 1) rfl rfl (any_of HT_.out (by kernel_rfl)) (fun _ _ _ h => h) (Or.inl ⟨by rfl, ?_⟩) ?_ ?_
        rotate_left; (intro w'; go_simp; with_reducible rfl); rotate_left; (simp only [Act.put, aS, lZ, lS, i64_w, i32_w]; rfl)
        refine pure_ (i := 1) (N := some 102) (v := ?_) (a' := ?_) (bm 15 3) rfl rfl (any_of HT_.out (by kernel_rfl)) (fun _ _ _ h => h) (Or.inl ⟨by rfl, ?_⟩) ?_ ?_
        rotate_left; (intro w'; go_simp; with_reducible rfl); rotate_left; (simp only [Act.put, aS, lZ, lS, i64_w, i32_w]; rfl)
        refine pure_ (i := 2) (N := some 103) (v := ?_) (a' := ?_) (bm 15 7) rfl rfl (any_of HT_.out (by kernel_rfl)) (fun _ _ _ h => h) (Or.inl ⟨by rfl, ?_⟩) ?_ ?_
        rotate_left; (intro w'; go_simp; with_reducible rfl); rotate_left; (simp only [Act.put, aS, lZ, lS, i64_w, i32_w]; rfl)
        refine pure_ (i := 3) (N := some 104) (v := ?_) (a' := ?_) (bm 15 15) rfl rfl (any_of HT_.out (by kernel_rfl)) (fun _ _ _ h => h) (Or.inl ⟨by rfl, ?_⟩) ?_ ?_
        rotate_left; (intro w'; go_simp; with_reducible rfl); rotate_left; (simp only [Act.put, aS, lZ, lS, i64_w, i32_w]; rfl)
        refine pure_ (i := 4) (N := some 105) (v := ?_) (a' := ?_) (bm 15 31) rfl rfl (any_of HT_.out (by kernel_rfl)) (fun _ _ _ h => h) (Or.inl ⟨by rfl, ?_⟩) ?_ ?_
        rotate_left; (intro w'; go_simp; with_reducible rfl); rotate_left; (simp only [Act.put, aS, lZ, lS, i64_w, i32_w]; rfl)
        refine take_ (i := 5) (N := some 106) (v := ?_) (a' := ?_) (bm 15 63) rfl rfl (take_ofW HT_.out HW_.out (by kernel_rfl)) (fun _ _ _ h => h) (Or.inl ⟨by rfl, ?_⟩) hHeld ?_ ?_
        rotate_left
        ·
         rintro w' ⟨s0, s1, s2⟩
         go_simp
         with_reducible rfl
        rotate_left
        ·
         simp only [Act.put, aS, lZ, lS, i64_w, i32_w]
         rfl
        refine pure_ (i := 6) (N := some 107) (v := ?_) (a' := ?_) (bm 15 127) rfl rfl (any_of HT_.out (by kernel_rfl)) (fun _ _ _ h => h) (Or.inl ⟨by rfl, ?_⟩) ?_ ?_
        rotate_left; (intro w'; go_simp; with_reducible rfl); rotate_left; (simp only [Act.put, aS, lZ, lS, i64_w, i32_w]; rfl)
        refine one_ (i := 7) (N := some 108) (bm 15 255) rfl rfl (one_of HT_.out (by kernel_rfl)) (by decide) (fun K hK => ?_)
        refine goes_ Try.func22 (by kernel_rfl) rfl #[.slice A49 y361.length c49, .int .i64 (l0_2.length : Int)] (by rfl) rfl rfl (by (try simp only [List.map_toArray, List.map_cons, List.map_nil]); first | done | rfl | (simp only [List.length_drop, List.length_take]; rfl)) ?_
        with_reducible refine (wire_TakeList.calls k2 _ _ y361 (l0_2.length : Int) t365 t366 t367 _ ?side1 ?side2 A47.out).mono ?_
        (case side1 => repeat (first | exact (by repeat (first | (with_reducible exact HR364.out) | (with_reducible first | apply cA | apply cN | apply cD) | exact HR364.out)) | (with_reducible first | apply cA | apply cN | apply cD)))
        (case side2 => exact HC364.out)
        rintro e w50 ⟨v368, rfl, ho0, hb⟩
        refine ⟨_, rfl, ?_⟩
        have n0_ := Aside0.mk (Kd.R_below (by (with_reducible repeat first | apply rA | apply rN | apply rD); exact HO_5.out) hb)
        have n1_ := Aside0.mk (Kd.R_below (by (with_reducible repeat first | apply rA | apply rN | apply rD); exact HO_7.out) hb)
        have n2_ := Aside0.mk (Kd.R_below (by (with_reducible repeat first | apply rA | apply rN | apply rD); exact HO_8.out) hb)
        have n3_ := Aside0.mk (Kd.R_below (by (with_reducible repeat first | apply rA | apply rN | apply rD); exact HO_9.out) hb)
        have n4_ := Aside0.mk (Kd.R_lower ho0 (below_size (by repeat with_reducible first | exact HB.out | apply bA | apply bN | apply bD | refine bS ?_ GE331.out)))
        have n5_ := Aside0.mk (blk_below (o := .cells #[.int .i64 a0_0, .string a0_1, .slice A0_2 l0_2.length c0_2] 42 (0, 0)) (by with_reducible repeat first | exact BK331.out | apply kN | apply kD | apply kA) hb)
        have n6_ := Aside0.mk (Kd.C_below (by repeat (first | (with_reducible exact HR344.out) | (with_reducible first | apply cA | apply cN | apply cD) | exact HR344.out)) hb)
        have n7_ := Aside0.mk (Kd.C_below (by repeat (first | (with_reducible exact HR364.out) | (with_reducible first | apply cA | apply cN | apply cD) | exact HR364.out)) hb)
        have n8_ := Aside0.mk (below_step (by repeat with_reducible first | exact HB.out | apply bA | apply bN | apply bD | refine bS ?_ GE331.out) hb)
        clear HO_5
        clear HO_7
        clear HO_8
        clear HO_9
        clear BK331
        clear HR344
        clear HR364
        clear HB
        have HO_5 := n0_
        have HO_7 := n1_
        have HO_8 := n2_
        have HO_9 := n3_
        have HO369 := n4_
        have BK331 := n5_
        have HR344 := n6_
        have HR364 := n7_
        have HB := n8_
        clear n0_ n1_ n2_ n3_ n4_ n5_ n6_ n7_ n8_
        (try clear hb)
        (try clear hb2)
        (try clear hk)
        (try clear hi)
        (try clear ho0)
        refine hK.out _ _ ⟨(blk_cell BK331.out 0).trans rfl, (blk_cell BK331.out 1).trans rfl, (blk_cell BK331.out 2).trans rfl⟩ (fun hHeld => ?_)
        clear hK K
        refine norm_ (a' := ?_) ?_ ?_
        rotate_left
        ·
         show Act.put _ (some 108) _ = _
         simp only [Act.put, aS, lZ, lS, i64_w, i32_w]
         rfl
        refine pure_ (i := 8) (N := some 100) (v := ?_) (a' := ?_) (bm 15 511) rfl rfl (any_of HT_.out (by kernel_rfl)) (fun _ _ _ h => h) (Or.inl ⟨by rfl, ?_⟩) ?_ ?_
        rotate_left; (intro w'; go_simp; with_reducible rfl); rotate_left; (simp only [Act.put, aS, lZ, lS, i64_w, i32_w]; rfl)
        refine pure_ (i := 9) (N := some 109) (v := ?_) (a' := ?_) (bm 15 1023) rfl rfl (any_of HT_.out (by kernel_rfl)) (fun _ _ _ h => h) (Or.inl ⟨by rfl, ?_⟩) ?_ ?_
        rotate_left; (intro w'; go_simp; with_reducible rfl); rotate_left; (simp only [Act.put, aS, lZ, lS, i64_w, i32_w]; rfl)
        refine pure_ (i := 10) (N := some 110) (v := ?_) (a' := ?_) (bm 15 2047) rfl rfl (any_of HT_.out (by kernel_rfl)) (fun _ _ _ h => h) (Or.inl ⟨by rfl, ?_⟩) ?_ ?_
        rotate_left; (intro w'; go_simp; with_reducible rfl); rotate_left; (simp only [Act.put, aS, lZ, lS, i64_w, i32_w]; rfl)
        refine pure_ (i := 11) (N := some 111) (v := ?_) (a' := ?_) (bm 15 4095) rfl rfl (any_of HT_.out (by kernel_rfl)) (fun _ _ _ h => h) (Or.inl ⟨by rfl, ?_⟩) ?_ ?_
        rotate_left; (intro w'; go_simp; with_reducible rfl); rotate_left; (simp only [Act.put, aS, lZ, lS, i64_w, i32_w]; rfl)
        refine pure_ (i := 12) (N := some 12) (v := ?_) (a' := ?_) (bm 15 8191) rfl rfl (any_of HT_.out (by kernel_rfl)) (fun _ _ _ h => h) (Or.inl ⟨by rfl, ?_⟩) ?_ ?_
        rotate_left; (intro w'; go_simp; with_reducible rfl); rotate_left; (simp only [Act.put, aS, lZ, lS, i64_w, i32_w]; rfl)
        refine pure_ (i := 13) (N := some 13) (v := ?_) (a' := ?_) (bm 15 16383) rfl rfl (any_of HT_.out (by kernel_rfl)) (fun _ _ _ h => h) (Or.inl ⟨by rfl, ?_⟩) ?_ ?_
        rotate_left; (intro w'; go_simp; with_reducible rfl); rotate_left; (simp only [Act.put, aS, lZ, lS, i64_w, i32_w]; rfl)
        refine pure_ (i := 14) (N := some 14) (v := ?_) (a' := ?_) (bm 15 32767) rfl rfl (any_of HT_.out (by kernel_rfl)) (fun _ _ _ h => h) (Or.inl ⟨by rfl, ?_⟩) ?_ ?_
        rotate_left; (intro w'; go_simp; with_reducible rfl); rotate_left; (simp only [Act.put, aS, lZ, lS, i64_w, i32_w]; rfl)
        refine done_ (done_of HT_.out (by kernel_rfl)) ?_
        try go_wp2
        go_loopg [15] k2 (fun kq v15 w' => ∃ (x9_3 : List Int) (x15_3 : Int), v15 = .int .i64 x15_3 ∧ Aside0 (dancestudiolaw07_WireMemory.l2 kq l1 y338 y341 x9_3 t365 t367 x15_3 a0_0 a0_1 l0_2 = some r) ∧ Aside0 (kq ≤ k2) ∧ Aside0 (Kd.R (Kd.int .u8) 5 w' w.heap.size (fun k_ => some k_ ≠ ((.slice Ao32 x9_2.length co32) : Value).ownBlock) (.slice Ao17 y338.length co17) y338) ∧ Aside0 (Kd.R (Kd.int .u8) 5 w' w.heap.size (fun k_ => some k_ ≠ ((.slice Ao17 y338.length co17) : Value).ownBlock) (.slice Ao32 x9_2.length co32) x9_3) ∧ Aside0 (Kd.R (Kd.int .i64) 3 w' w.heap.size (fun _ => True) v368 t365) ∧ Aside0 (w'.heap[gb331]? = some (.cells #[.int .i64 a0_0, .string a0_1, (.slice A0_2 l0_2.length c0_2)] 42 (0, 0))) ∧ Aside0 (Below w.heap.size w w'))
        case atStart => exact ⟨(x9_2), ((l1.length : Int)), (by first | rfl | (simp; done) | (simp [*]; done)), H', ⟨Nat.le_refl _⟩, ⟨by (try simp only [hl7_2]); (try simp only [hl8_2]); (try simp only [hl9_2]); (with_reducible repeat first | apply rA | apply rN | apply rD); exact Kd.R_mono HO_5.out (fun _ hk => hk.2.2)⟩, ⟨by (try simp only [hl7_2]); (try simp only [hl8_2]); (try simp only [hl9_2]); (with_reducible repeat first | apply rA | apply rN | apply rD); exact Kd.R_mono HO_9.out (fun _ hk => hk.1)⟩, ⟨by (try simp only [hl7_2]); (try simp only [hl8_2]); (try simp only [hl9_2]); (with_reducible repeat first | apply rA | apply rN | apply rD); exact HO369.out⟩, ⟨by (try simp only [hl7_2]); (try simp only [hl8_2]); (try simp only [hl9_2]); (with_reducible repeat first | apply kN | apply kD | apply kA); exact BK331.out⟩, ⟨by repeat with_reducible first | exact HB.out | apply bA | apply bN | apply bD | refine bS ?_ GE331.out⟩⟩
        case round =>
         clear H'
         try clear c1
         try clear c2
         try clear p2
         try clear c3
         try clear p3
         try clear q3
         try clear hx3
         try clear hf3
         try clear c4
         try clear p4
         try clear q4
         try clear hx4
         try clear hf4
         try clear p6
         try clear c22
         try clear c33
         try clear c33b0
         try clear c34
         try clear c34b0
         try clear c35
         try clear c35b0
         try clear p35
         try clear q35
         try clear hx35
         try clear c36
         try clear c36b0
         try clear c37
         try clear c37b0
         try clear p38
         try clear q38
         try clear hx38
         try clear hf38
         try clear p39
         try clear q39
         try clear hx39
         try clear hf39
         try clear p40
         try clear q40
         try clear hx40
         try clear hf40
         try clear c45
         try clear c45b0
         try clear c45b1
         try clear c46
         try clear c46b0
         try clear c46b1
         try clear c49
         try clear q49
         try clear hx355_0
         try clear hx356_0
         try clear hx357_0
         try clear hx38_0
         try clear hx39_0
         try clear hx40_0
         try clear p355
         try clear p356
         try clear p357
         try clear p38
         try clear p39
         try clear p40
         try clear q049
         try clear q355
         try clear q356
         try clear q357
         try clear q38
         try clear q39
         try clear q40
         try clear q49
         obtain ⟨x9_3, x15_3, rfl, HA, HK3, HO_5, HO_9, HO_12, BK331, HB⟩ := hrel
         have hl9_3 := (Kd.R_reads' HO_9.out).1
         rw [hl9_3] at HO_9
         (try simp only [hl9_3])
         (try simp only [hl9_3] at BK331)
         (try simp only [hl9_3] at HO_5)
         (try simp only [hl9_3] at HO_12)
         cases gk with
         | zero => exact absurd HA.out (by simp [dancestudiolaw07_WireMemory.l2])
         | succ k3 =>
          have H := HA.out
          clear HA
          simp only [dancestudiolaw07_WireMemory.l2] at H
          by_cases c51 : x15_3 < (x9_3.length : Int)
          ·
           rw [if_pos c51] at H
           have c51b0 := decide_eq_true c51
           clear c51
           by_cases c52 : 0 ≤ x15_3; rotate_left
           · rw [if_neg c52] at H; exact absurd H (by simp)
           rw [if_pos c52] at H
           have c52b0 := decide_eq_true c52
           clear c52
           obtain ⟨y370, hy370⟩ : ∃ y_ : List Int, y_ = (x9_3.set (x15_3 : Int).toNat 0) := ⟨_, rfl⟩
           replace H : (dancestudiolaw07_WireMemory.l2 k3 l1 y338 y341 y370 t365 t367 (wrap64 (x15_3 + 1)) a0_0 a0_1 l0_2) = some r := by first | (rw [hy370]; with_reducible exact H) | (have H2_ := (Option.bind_some _ _).symm.trans H; rw [hy370]; with_reducible exact H2_) | (have H2_ := (Option.bind_some _ _).symm.trans H; with_reducible exact H2_) | with_reducible exact H | (rw [hy370]; exact H) | exact H
           have Ny370 := Aside0.mk hy370
           clear hy370
           have H' := Aside0.mk H
           clear H
           have p53 : 0 ≤ (x15_3 : Int) := of_decide_eq_true (by first | (with_reducible assumption) | assumption)
           have q53 : (x15_3 : Int) < ((x9_3.length : Int) : Int) := of_decide_eq_true (by first | (with_reducible assumption) | assumption)
           obtain ⟨go53, co53, eo53, gb53, gl53, cl53, HG53⟩ := Kd.R_form HO_9.out (by omega)
           (first | cases eo53 | (injection eo53 with ea_ en_ ec_; (first | subst ea_ | (injection ea_ with ea_; subst ea_)); subst ec_; clear en_))
           have GB53 := Aside0.mk gb53
           have GG53 := Aside0.mk HG53
           clear gb53 gl53 HG53
           obtain ⟨hx53_0, hf53_0⟩ := Kd.R_celln 0 HO_9.out (x15_3 : Int) p53 q53
           replace p53 := eq_true p53
           replace q53 := eq_true q53
           have HP54 := Kd.R_putg HO_9.out (x15_3 : Int) 0
           go_wp2_with (first | ((with_reducible refine gate_store (t := 5) (p := 122) rfl ?_); refine store_event (t := 5) (p := 122) (v := ?vo_w55) (w1 := (wr.setCell ⟨go53, (x15_3 : Int).toNat, none⟩ (.int .u8 0))) ?hg ?ho ?hn ?hr ?_; (case ho => rfl); (case hg => rfl); (case hn => rfl); (case hr => first | (go_simp; done) | (go_simp; rfl)); intro w55 hw; have hg : wr.grownBy w55 (some go53) := (by rw [hw]; exact HP54.2); have hp_ : Kd.R (Kd.int .u8) 5 w55 w.heap.size (fun k_ => some k_ ≠ (.slice Ao17 y338.length co17 : Value).ownBlock) (.slice (some ⟨go53, 0, none⟩) x9_3.length co32) y370 := (by rw [hw, Ny370.out]; exact HP54.1); clear HP54; replace HO_5 := Aside0.mk (Kd.R_after (v := (.slice (some ⟨go53, 0, none⟩) x9_3.length co32)) (v1 := (.slice (some ⟨go53, 0, none⟩) x9_3.length co32)) (ok := (fun _ => True)) (by (with_reducible repeat first | apply rA | apply rN | apply rD); exact Kd.R_mono HO_5.out (fun _ hk => ⟨trivial, hk⟩)) hg (.inl rfl)); replace HO_12 := Aside0.mk (Kd.R_over' (v := (.slice (some ⟨go53, 0, none⟩) x9_3.length co32)) (by (with_reducible repeat first | apply rA | apply rN | apply rD); exact HO_12.out) (Kd.R_typed HO_9.out) (by decide) hg); replace BK331 := Aside0.mk (blk_grown (g := gb331) (o := .cells #[.int .i64 a0_0, .string a0_1, .slice A0_2 l0_2.length c0_2] 42 (0, 0)) (by with_reducible repeat first | exact BK331.out | apply kN | apply kD | apply kA) hg (Kd.R_ne HO_9.out BK331.out (by decide))); replace HO_9 := Aside0.mk (hp_); replace HB := Aside0.mk ((by rw [hw]; exact below_set (HB.out) GB53.out : Below w.heap.size w w55)); clear hg hw hp_))
           (try simp only [← hl9_3])
           go_roundg k3
           case measure => have := HK1.out; have := HK2.out; have := HK3.out; omega
           case rel => exact ⟨(y370), (wrap64 (x15_3 + 1)), (by first | rfl | (simp; done) | (simp [*]; done)), H', ⟨by have := HK1.out; have := HK2.out; have := HK3.out; omega⟩, ⟨by (try simp only [hl7_2]); (try simp only [hl8_2]); (try simp only [hl9_2]); (try simp only [hl9_3]); (with_reducible repeat first | apply rA | apply rN | apply rD); exact Kd.R_mono HO_5.out (fun _ hk => hk.2)⟩, ⟨by (try simp only [hl7_2]); (try simp only [hl8_2]); (try simp only [hl9_2]); (try simp only [hl9_3]); (with_reducible repeat first | apply rA | apply rN | apply rD); exact HO_9.out⟩, ⟨by (try simp only [hl7_2]); (try simp only [hl8_2]); (try simp only [hl9_2]); (try simp only [hl9_3]); (with_reducible repeat first | apply rA | apply rN | apply rD); exact HO_12.out⟩, ⟨by (try simp only [hl7_2]); (try simp only [hl8_2]); (try simp only [hl9_2]); (try simp only [hl9_3]); (with_reducible repeat first | apply kN | apply kD | apply kA); exact BK331.out⟩, ⟨by repeat with_reducible first | exact HB.out | apply bA | apply bN | apply bD | refine bS ?_ GE331.out⟩⟩
          ·
           rw [if_neg c51] at H
           have c51b0 := decide_eq_false c51
           clear c51
           replace H := Option.bind_eq_some_iff.mp H
           obtain ⟨t371, A560, H⟩ := H
           replace H : (if t371 = true then (if t367 = 0 then ((dancestudioref07_Ints.f k3 t365 l0_2).bind fun t372 => (if t372 = true then ((dancestudiolaw07_awake.f k3).bind fun t373 => (some t373)) else (none))) else (none)) else (none)) = some r := H
           have A56 := Aside0.mk A560
           clear A560
           by_cases c57 : t371 = true
           ·
            subst c57
            have H1 : (if t367 = 0 then ((dancestudioref07_Ints.f k3 t365 l0_2).bind fun t372 => (if t372 = true then ((dancestudiolaw07_awake.f k3).bind fun t373 => (some t373)) else (none))) else (none)) = some r := by rw [if_pos rfl] at H; exact H
            clear H
            have H := H1
            clear H1
            by_cases c58 : t367 = 0; rotate_left
            · rw [if_neg c58] at H; exact absurd H (by simp)
            rw [if_pos c58] at H
            have c58b0 : (t367 == 0) = true := beq_iff_eq.mpr c58
            have c58b1 : (t367 != 0) = false := bne_eq_false_iff_eq.mpr c58
            clear c58
            replace H := Option.bind_eq_some_iff.mp H
            obtain ⟨t372, A590, H⟩ := H
            replace H : (if t372 = true then ((dancestudiolaw07_awake.f k3).bind fun t373 => (some t373)) else (none)) = some r := H
            have A59 := Aside0.mk A590
            clear A590
            by_cases c60 : t372 = true
            ·
             subst c60
             have H1 : ((dancestudiolaw07_awake.f k3).bind fun t373 => (some t373)) = some r := by rw [if_pos rfl] at H; exact H
             clear H
             have H := H1
             clear H1
             replace H := Option.bind_eq_some_iff.mp H
             obtain ⟨t373, A610, H⟩ := H
             replace H : (some t373) = some r := H
             have A61 := Aside0.mk A610
             clear A610
             obtain rfl := Option.some.inj H
             go_wp2_with (first | ((with_reducible refine gate_callee (f := 13) rfl ?_); refine goesL_ (some 125) rfl rfl Try.func13 (by kernel_rfl) rfl #[.slice Ao17 y341.length co17, .slice A1 l1.length c1] rfl (by (try simp only [List.map_toArray, List.map_cons, List.map_nil]); first | done | rfl | (simp only [List.length_drop, List.length_take]; rfl)) ?_; (with_reducible refine (dancestudioref07_Bytes.calls _ _ y341 _ _ l1 true _ ?side1 ?side2 ?side3 ?side4 A56.out).mono ?_); (case side1 => repeat (first | exact cAs Ny341.out (Kd.C_take (m := ((l1.length : Int) : Int).toNat) ((Kd.R_reads' HO_5.out).2.2) KL16.out) | exact (Kd.C_below HR344.out HB.out) | (with_reducible first | apply cA | apply cN | apply cD))); (case side2 => exact HC344.out); (case side3 => repeat (first | exact (Kd.C_below HR1.out HB.out) | (with_reducible first | apply cA | apply cN | apply cD))); (case side4 => exact HC1.out); rintro e w' ⟨rfl, ⟨nd, rfl⟩⟩; refine ⟨_, rfl, ?_⟩; obtain ⟨hcz62_0, hcz62_1, hcz62_2, hfz62_0, hfz62_1, hfz62_2⟩ := kc3 BK331.out; obtain ⟨Ao63, co63, eo63⟩ := Kd.R_slice HO_12.out; subst eo63) | (go_at_call 24; (with_reducible refine (dancestudioref07_Ints.calls k3 _ _ t365 _ _ l0_2 true _ ?side1 ?side2 ?side3 ?side4 A59.out).mono ?_); (case side1 => repeat (first | exact (Kd.R_reads' HO_12.out).2.2 | (with_reducible first | apply cA | apply cN | apply cD))); (case side2 => exact (Kd.R_reads' HO_12.out).2.1); (case side3 => repeat (first | exact (Kd.C_below HR0_2.out (by repeat with_reducible first | exact HB.out | apply bA | apply bN | apply bD | refine bS ?_ GE331.out)) | (with_reducible first | apply cA | apply cN | apply cD))); (case side4 => exact HC0_2.out); rintro e w' ⟨rfl, ⟨nd, rfl⟩⟩) | (go_at_call 17; (with_reducible refine (dancestudiolaw07_awake.calls k3  t373 _ A61.out).mono ?_); rintro e w64 ⟨rfl, hb⟩; replace HO_5 := Aside0.mk (Kd.R_below (by (with_reducible repeat first | apply rA | apply rN | apply rD); exact HO_5.out) hb); replace HO_9 := Aside0.mk (Kd.R_below (by (with_reducible repeat first | apply rA | apply rN | apply rD); exact HO_9.out) hb); replace HO_12 := Aside0.mk (Kd.R_below (by (with_reducible repeat first | apply rA | apply rN | apply rD); exact HO_12.out) hb); replace BK331 := Aside0.mk (blk_below (o := .cells #[.int .i64 a0_0, .string a0_1, .slice A0_2 l0_2.length c0_2] 42 (0, 0)) (by with_reducible repeat first | exact BK331.out | apply kN | apply kD | apply kA) hb); replace HB := Aside0.mk (below_step (by repeat with_reducible first | exact HB.out | apply bA | apply bN | apply bD | refine bS ?_ GE331.out) hb); (try clear hb); (try clear hb2); (try clear hk); (try clear hi)))
             go_ret
             exact ⟨by first | rfl | (simp [errW_none, errW_some] <;> rfl) | (simp [*, errW_none, errW_some] <;> rfl), by repeat with_reducible first | exact HB.out | apply bA | apply bN | apply bD | refine bS ?_ GE331.out⟩
            ·
             replace c60 := Bool.eq_false_iff.mpr c60
             subst c60
             have H1 : (none) = some r := by rw [if_neg (show ¬ (false = true) by decide)] at H; exact H
             clear H
             have H := H1
             clear H1
             exact absurd H (by simp)
           ·
            replace c57 := Bool.eq_false_iff.mpr c57
            subst c57
            have H1 : (none) = some r := by rw [if_neg (show ¬ (false = true) by decide)] at H; exact H
            clear H
            have H := H1
            clear H1
            exact absurd H (by simp)
 ·
  rw [if_neg c4] at H
  exact absurd H (by simp)

end Go.Proofs.Ytmmnhokejadgaaa.X
