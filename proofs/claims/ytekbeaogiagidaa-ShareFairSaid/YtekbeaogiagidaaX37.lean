-- squeezed
-- written by xprint.py, an own overlay over the kit's print; not trusted: Lean checks it
import Derived.Test.YtekbeaogiagidaaX0
import Derived.Test.YtekbeaogiagidaaXShort
import Derived.Test.YtekbeaogiagidaaX16
import Derived.Test.YtekbeaogiagidaaX20
import Derived.Test.YtekbeaogiagidaaX36
namespace Go.Proofs.Ytekbeaogiagidaa.X
open Go.RowKit Go.Proofs.YtekbeaogiagidaaW.PrintWords Go.Proofs.YtekbeaogiagidaaW.PrintLast Go.Proofs.YtekbeaogiagidaaW.PrintMore
attribute [local go_sem] max2_int min2_int max_two min_two max_three min_three max_four min_four   -- for this text's walks alone
set_option linter.unusedVariables false
set_option linter.unusedSimpArgs false

/-! ### dancestudiolaw12_ShareFair: function 8 -/
mutual
def dancestudiolaw12_ShareFair.l0 : Nat → Int → List Int → List Int → Int → Int → Int → Option (Bool)
 | 0, _, _, _, _, _, _ => none
 | k + 1, x0, x1, x5, x7, x8, x9 => if x9 < (x5.length : Int) then (if 0 ≤ x9 then (if x9 < (x1.length : Int) then (if (rd x5 x9) < 0 then (none) else (if (rd x5 x9) > x8 then (none) else (dancestudiolaw12_ShareFair.l0 k x0 x1 x5 (wrap64 (x7 + (rd x1 x9))) (wrap64 (x8 - (rd x5 x9))) (wrap64 (x9 + 1))))) else (none)) else (none)) else (dancestudiolaw12_ShareFair.l1 k x0 x1 x5 x7 x8 0)
def dancestudiolaw12_ShareFair.l1 : Nat → Int → List Int → List Int → Int → Int → Int → Option (Bool)
 | 0, _, _, _, _, _, _ => none
 | k + 1, x0, x1, x5, x7, x8, x10 => if x10 < (x5.length : Int) then (if 0 ≤ x10 then (if x10 < (x1.length : Int) then ((num_Compare.f k (wrap64 ((rd x5 x10) - 1)) x7 x0 (rd x1 x10)).bind fun bt459 => ((num_Compare.f k (wrap64 ((rd x5 x10) + 1)) x7 x0 (rd x1 x10)).bind fun bt463 => (if bt459.2 = 0 then (if bt463.2 = 0 then (if bt459.1 ≥ 0 then (none) else (if bt463.1 ≤ 0 then (none) else (if (rd x1 x10) = 0 then (dancestudiolaw12_ShareFair.j2 k x0 x1 x5 x7 x8 x10 ((rd x5 x10) != 0)) else (dancestudiolaw12_ShareFair.j2 k x0 x1 x5 x7 x8 x10 false)))) else (none)) else (none)))) else (none)) else (none)) else (if x8 = 0 then ((dancestudiolaw12_awake.f k).bind fun t456 => (some t456)) else (none))
def dancestudiolaw12_ShareFair.j2 : Nat → Int → List Int → List Int → Int → Int → Int → Bool → Option (Bool)
 | 0, _, _, _, _, _, _, _ => none
 | k + 1, x0, x1, x5, x7, x8, x10, x134 => if x134 = true then (none) else (dancestudiolaw12_ShareFair.l2 k x0 x1 x5 x7 x8 x10 0)
def dancestudiolaw12_ShareFair.l2 : Nat → Int → List Int → List Int → Int → Int → Int → Int → Option (Bool)
 | 0, _, _, _, _, _, _, _ => none
 | k + 1, x0, x1, x5, x7, x8, x10, x15 => if x15 < x10 then (if 0 ≤ x15 then (if x15 < (x1.length : Int) then (if 0 ≤ x10 then (if x10 < (x1.length : Int) then (if (rd x1 x15) > (rd x1 x10) then (if x15 < (x5.length : Int) then (if x10 < (x5.length : Int) then (if (rd x5 x15) < (rd x5 x10) then (none) else (if (rd x1 x15) < (rd x1 x10) then (if (rd x5 x15) > (rd x5 x10) then (none) else (if (rd x1 x15) = (rd x1 x10) then (dancestudiolaw12_ShareFair.l2 k x0 x1 x5 x7 x8 x10 (wrap64 (x15 + 1))) else (dancestudiolaw12_ShareFair.l2 k x0 x1 x5 x7 x8 x10 (wrap64 (x15 + 1))))) else (if (rd x1 x15) = (rd x1 x10) then (dancestudiolaw12_ShareFair.l2 k x0 x1 x5 x7 x8 x10 (wrap64 (x15 + 1))) else (dancestudiolaw12_ShareFair.l2 k x0 x1 x5 x7 x8 x10 (wrap64 (x15 + 1)))))) else (none)) else (none)) else (if (rd x1 x15) < (rd x1 x10) then (if x15 < (x5.length : Int) then (if x10 < (x5.length : Int) then (if (rd x5 x15) > (rd x5 x10) then (none) else (if (rd x1 x15) = (rd x1 x10) then (if (rd x5 x15) < (rd x5 x10) then (none) else (dancestudiolaw12_ShareFair.l2 k x0 x1 x5 x7 x8 x10 (wrap64 (x15 + 1)))) else (dancestudiolaw12_ShareFair.l2 k x0 x1 x5 x7 x8 x10 (wrap64 (x15 + 1))))) else (none)) else (none)) else (if (rd x1 x15) = (rd x1 x10) then (if x15 < (x5.length : Int) then (if x10 < (x5.length : Int) then (if (rd x5 x15) < (rd x5 x10) then (none) else (dancestudiolaw12_ShareFair.l2 k x0 x1 x5 x7 x8 x10 (wrap64 (x15 + 1)))) else (none)) else (none)) else (dancestudiolaw12_ShareFair.l2 k x0 x1 x5 x7 x8 x10 (wrap64 (x15 + 1)))))) else (none)) else (none)) else (none)) else (none)) else (dancestudiolaw12_ShareFair.l1 k x0 x1 x5 x7 x8 (wrap64 (x10 + 1)))
end
def dancestudiolaw12_ShareFair.f (k : Nat) (a0 : Int) (l1 : List Int) : Option (Bool) := if (l1.length : Int) > 60 then ((dancestudiolaw12_awake.f k).bind fun t312 => (some t312)) else ((share_Split.f k a0 l1).bind fun bt361 => (if bt361.2 = 0 then (if (bt361.1.length : Int) = (l1.length : Int) then (dancestudiolaw12_ShareFair.l0 k a0 l1 bt361.1 0 a0 0) else (none)) else (if (bt361.1.length : Int) = 0 then ((dancestudiolaw12_awake.f k).bind fun t365 => (some t365)) else (none))))
theorem dancestudiolaw12_ShareFair.mono_l : ∀ k, (∀ y0 y1 y2 y3 y4 y5, LeO (dancestudiolaw12_ShareFair.l0 k y0 y1 y2 y3 y4 y5) (dancestudiolaw12_ShareFair.l0 (k + 1) y0 y1 y2 y3 y4 y5)) ∧ (∀ y0 y1 y2 y3 y4 y5, LeO (dancestudiolaw12_ShareFair.l1 k y0 y1 y2 y3 y4 y5) (dancestudiolaw12_ShareFair.l1 (k + 1) y0 y1 y2 y3 y4 y5)) ∧ (∀ y0 y1 y2 y3 y4 y5 y6, LeO (dancestudiolaw12_ShareFair.j2 k y0 y1 y2 y3 y4 y5 y6) (dancestudiolaw12_ShareFair.j2 (k + 1) y0 y1 y2 y3 y4 y5 y6)) ∧ (∀ y0 y1 y2 y3 y4 y5 y6, LeO (dancestudiolaw12_ShareFair.l2 k y0 y1 y2 y3 y4 y5 y6) (dancestudiolaw12_ShareFair.l2 (k + 1) y0 y1 y2 y3 y4 y5 y6))
 | 0 => ⟨fun _ _ _ _ _ _ r h => by simp [dancestudiolaw12_ShareFair.l0] at h, fun _ _ _ _ _ _ r h => by simp [dancestudiolaw12_ShareFair.l1] at h, fun _ _ _ _ _ _ _ r h => by simp [dancestudiolaw12_ShareFair.j2] at h, fun _ _ _ _ _ _ _ r h => by simp [dancestudiolaw12_ShareFair.l2] at h⟩
 | k + 1 => by
  obtain ⟨ih0, ih1, ih2, ih3⟩ := dancestudiolaw12_ShareFair.mono_l k
  refine ⟨?_, ?_, ?_, ?_⟩
  ·
   intro y0 y1 y2 y3 y4 y5
   unfold dancestudiolaw12_ShareFair.l0
   repeat' first
   | (with_reducible exact ih0 _ _ _ _ _ _)
   | (with_reducible exact ih1 _ _ _ _ _ _)
   | (with_reducible exact ih2 _ _ _ _ _ _ _)
   | (with_reducible exact ih3 _ _ _ _ _ _ _)
   | (with_reducible exact dancestudiolaw12_awake.mono _)
   | (with_reducible exact num_Compare.mono _ _ _ _ _)
   | (with_reducible exact share_Split.mono _ _ _)
   | (with_reducible exact LeO.refl _)
   | (with_reducible exact LeO.none _)
   | (with_reducible refine LeO.ite ?_ ?_)
   | (with_reducible refine LeO.bind ?_ (fun _ => ?_))
   | exact ih0 _ _ _ _ _ _
   | exact ih1 _ _ _ _ _ _
   | exact ih2 _ _ _ _ _ _ _
   | exact ih3 _ _ _ _ _ _ _
   | exact dancestudiolaw12_awake.mono _
   | exact num_Compare.mono _ _ _ _ _
   | exact share_Split.mono _ _ _
   | exact LeO.none _
   | refine LeO.ite ?_ ?_
   | refine LeO.bind ?_ (fun _ => ?_)
  ·
   intro y0 y1 y2 y3 y4 y5
   unfold dancestudiolaw12_ShareFair.l1
   repeat' first
   | (with_reducible exact ih0 _ _ _ _ _ _)
   | (with_reducible exact ih1 _ _ _ _ _ _)
   | (with_reducible exact ih2 _ _ _ _ _ _ _)
   | (with_reducible exact ih3 _ _ _ _ _ _ _)
   | (with_reducible exact dancestudiolaw12_awake.mono _)
   | (with_reducible exact num_Compare.mono _ _ _ _ _)
   | (with_reducible exact share_Split.mono _ _ _)
   | (with_reducible exact LeO.refl _)
   | (with_reducible exact LeO.none _)
   | (with_reducible refine LeO.ite ?_ ?_)
   | (with_reducible refine LeO.bind ?_ (fun _ => ?_))
   | exact ih0 _ _ _ _ _ _
   | exact ih1 _ _ _ _ _ _
   | exact ih2 _ _ _ _ _ _ _
   | exact ih3 _ _ _ _ _ _ _
   | exact dancestudiolaw12_awake.mono _
   | exact num_Compare.mono _ _ _ _ _
   | exact share_Split.mono _ _ _
   | exact LeO.none _
   | refine LeO.ite ?_ ?_
   | refine LeO.bind ?_ (fun _ => ?_)
  ·
   intro y0 y1 y2 y3 y4 y5 y6
   unfold dancestudiolaw12_ShareFair.j2
   repeat' first
   | (with_reducible exact ih0 _ _ _ _ _ _)
   | (with_reducible exact ih1 _ _ _ _ _ _)
   | (with_reducible exact ih2 _ _ _ _ _ _ _)
   | (with_reducible exact ih3 _ _ _ _ _ _ _)
   | (with_reducible exact dancestudiolaw12_awake.mono _)
   | (with_reducible exact num_Compare.mono _ _ _ _ _)
   | (with_reducible exact share_Split.mono _ _ _)
   | (with_reducible exact LeO.refl _)
   | (with_reducible exact LeO.none _)
   | (with_reducible refine LeO.ite ?_ ?_)
   | (with_reducible refine LeO.bind ?_ (fun _ => ?_))
   | exact ih0 _ _ _ _ _ _
   | exact ih1 _ _ _ _ _ _
   | exact ih2 _ _ _ _ _ _ _
   | exact ih3 _ _ _ _ _ _ _
   | exact dancestudiolaw12_awake.mono _
   | exact num_Compare.mono _ _ _ _ _
   | exact share_Split.mono _ _ _
   | exact LeO.none _
   | refine LeO.ite ?_ ?_
   | refine LeO.bind ?_ (fun _ => ?_)
  ·
   intro y0 y1 y2 y3 y4 y5 y6
   unfold dancestudiolaw12_ShareFair.l2
   repeat' first
   | (with_reducible exact ih0 _ _ _ _ _ _)
   | (with_reducible exact ih1 _ _ _ _ _ _)
   | (with_reducible exact ih2 _ _ _ _ _ _ _)
   | (with_reducible exact ih3 _ _ _ _ _ _ _)
   | (with_reducible exact dancestudiolaw12_awake.mono _)
   | (with_reducible exact num_Compare.mono _ _ _ _ _)
   | (with_reducible exact share_Split.mono _ _ _)
   | (with_reducible exact LeO.refl _)
   | (with_reducible exact LeO.none _)
   | (with_reducible refine LeO.ite ?_ ?_)
   | (with_reducible refine LeO.bind ?_ (fun _ => ?_))
   | exact ih0 _ _ _ _ _ _
   | exact ih1 _ _ _ _ _ _
   | exact ih2 _ _ _ _ _ _ _
   | exact ih3 _ _ _ _ _ _ _
   | exact dancestudiolaw12_awake.mono _
   | exact num_Compare.mono _ _ _ _ _
   | exact share_Split.mono _ _ _
   | exact LeO.none _
   | refine LeO.ite ?_ ?_
   | refine LeO.bind ?_ (fun _ => ?_)
theorem dancestudiolaw12_ShareFair.mono : ∀ a0 a1 k, LeO (dancestudiolaw12_ShareFair.f k a0 a1) (dancestudiolaw12_ShareFair.f (k + 1) a0 a1) := by
 intro a0 a1 k
 obtain ⟨ih0, ih1, ih2, ih3⟩ := dancestudiolaw12_ShareFair.mono_l k
 unfold dancestudiolaw12_ShareFair.f
 repeat' first
   | (with_reducible exact ih0 _ _ _ _ _ _)
   | (with_reducible exact ih1 _ _ _ _ _ _)
   | (with_reducible exact ih2 _ _ _ _ _ _ _)
   | (with_reducible exact ih3 _ _ _ _ _ _ _)
   | (with_reducible exact dancestudiolaw12_awake.mono _)
   | (with_reducible exact num_Compare.mono _ _ _ _ _)
   | (with_reducible exact share_Split.mono _ _ _)
   | (with_reducible exact LeO.refl _)
   | (with_reducible exact LeO.none _)
   | (with_reducible refine LeO.ite ?_ ?_)
   | (with_reducible refine LeO.bind ?_ (fun _ => ?_))
   | exact ih0 _ _ _ _ _ _
   | exact ih1 _ _ _ _ _ _
   | exact ih2 _ _ _ _ _ _ _
   | exact ih3 _ _ _ _ _ _ _
   | exact dancestudiolaw12_awake.mono _
   | exact num_Compare.mono _ _ _ _ _
   | exact share_Split.mono _ _ _
   | exact LeO.none _
   | refine LeO.ite ?_ ?_
   | refine LeO.bind ?_ (fun _ => ?_)
def dancestudiolaw12_ShareFair.T19 : Bool × List (List Nat × List Nat) := (true, [([], []), ([], []), ([0, 1], [0, 1]), ([2], [2]), ([3], [3]), ([], []), ([], []), ([], []), ([], []), ([7, 8], [7, 8]), ([9], [9]), ([4, 5, 6, 10], [4, 5, 6, 10]), ([11], [11]), ([12], [12]), ([12], [12]), ([13, 11, 0, 1, 2, 3, 4, 5, 6, 7, 8, 9, 10, 11, 12, 13], [13]), ([14, 15, 0, 1, 2, 3, 4, 5, 6, 7, 8, 9, 10, 11, 12, 13, 14, 15], [14])])
def dancestudiolaw12_ShareFair.B19 : List Nat := [0, 0, 3, 7, 15, 0, 0, 0, 0, 384, 896, 2047, 4095, 8191, 8191, 16383, 65535]
theorem dancestudiolaw12_ShareFair.tab19 : rtab .any (opsOf Try.f8 19) = dancestudiolaw12_ShareFair.T19 := by kernel_rfl
theorem dancestudiolaw12_ShareFair.bits19 : waitsOk dancestudiolaw12_ShareFair.T19.2 dancestudiolaw12_ShareFair.B19 = true := by kernel_rfl
def dancestudiolaw12_ShareFair.T20 : Bool × List (List Nat × List Nat) := (true, [([], []), ([], []), ([0, 1], [0, 1]), ([2], [2]), ([3], [3]), ([], []), ([], []), ([], []), ([], []), ([7, 8], [7, 8]), ([9], [9]), ([4, 5, 6, 10], [4, 5, 6, 10]), ([11], [11]), ([12], [12]), ([12], [12]), ([13, 11, 0, 1, 2, 3, 4, 5, 6, 7, 8, 9, 10, 11, 12, 13], [13]), ([14, 15, 0, 1, 2, 3, 4, 5, 6, 7, 8, 9, 10, 11, 12, 13, 14, 15], [14])])
def dancestudiolaw12_ShareFair.B20 : List Nat := [0, 0, 3, 7, 15, 0, 0, 0, 0, 384, 896, 2047, 4095, 8191, 8191, 16383, 65535]
theorem dancestudiolaw12_ShareFair.tab20 : rtab .any (opsOf Try.f8 20) = dancestudiolaw12_ShareFair.T20 := by kernel_rfl
theorem dancestudiolaw12_ShareFair.bits20 : waitsOk dancestudiolaw12_ShareFair.T20.2 dancestudiolaw12_ShareFair.B20 = true := by kernel_rfl
def dancestudiolaw12_ShareFair.T26 : Bool × List (List Nat × List Nat) := (true, [([], []), ([], []), ([0, 1], [0, 1]), ([2], [2]), ([], []), ([], []), ([4, 5], [4, 5]), ([6], [6]), ([3, 7], [3, 7]), ([8], [8]), ([9], [9]), ([9], [9]), ([10, 11, 9], [9, 10, 11]), ([12, 9], [9, 12]), ([9], [9]), ([9], [9]), ([14, 15, 9], [9, 14, 15]), ([16, 9], [9, 16]), ([13, 17, 9], [9, 13, 17]), ([9, 18], [9, 18]), ([19, 9], [19]), ([20], [20]), ([20], [20]), ([21, 22, 20], [20, 21, 22]), ([23, 20], [20, 23]), ([20], [20]), ([20], [20]), ([25, 26, 20], [20, 25, 26]), ([27, 20], [20, 27]), ([24, 28, 20], [20, 24, 28]), ([29, 20, 20], [20, 29]), ([30], [30]), ([30], [30]), ([31, 32, 30], [30, 31, 32]), ([33, 30], [30, 33]), ([30], [30]), ([30], [30]), ([35, 36, 30], [30, 35, 36]), ([37, 30], [30, 37]), ([34, 38, 30], [30, 34, 38]), ([30, 39, 20], [20, 30, 39]), ([20, 40], [20, 40]), ([41, 30], [41]), ([42], [42]), ([42], [42]), ([43, 44, 42], [42, 43, 44]), ([45, 42], [42, 45]), ([42], [42]), ([42], [42]), ([47, 48, 42], [42, 47, 48]), ([49, 42], [42, 49]), ([46, 50, 42], [42, 46, 50]), ([51, 42, 42], [42, 51]), ([52], [52]), ([52], [52]), ([53, 54, 52], [52, 53, 54]), ([55, 52], [52, 55]), ([52], [52]), ([52], [52]), ([57, 58, 52], [52, 57, 58]), ([59, 52], [52, 59]), ([56, 60, 52], [52, 56, 60]), ([52, 61, 42], [42, 52, 61]), ([42, 62], [42, 62])])
def dancestudiolaw12_ShareFair.B26 : List Nat := [0, 0, 3, 7, 0, 0, 48, 112, 255, 511, 1023, 1023, 4095, 8191, 1023, 1023, 50175, 115711, 262143, 524287, 1048575, 2097151, 2097151, 8388607, 16777215, 2097151, 2097151, 102760447, 236978175, 536870911, 1073741823, 2147483647, 2147483647, 8589934591, 17179869183, 2147483647, 2147483647, 105226698751, 242665652223, 549755813887, 1099511627775, 2199023255551, 4398046511103, 8796093022207, 8796093022207, 35184372088831, 70368744177663, 8796093022207, 8796093022207, 431008558088191, 993958511509503, 2251799813685247, 4503599627370495, 9007199254740991, 9007199254740991, 36028797018963967, 72057594037927935, 9007199254740991, 9007199254740991, 441352763482308607, 1017813515785732095, 2305843009213693951, 4611686018427387903, 9223372036854775807]
theorem dancestudiolaw12_ShareFair.tab26 : rtab .any (opsOf Try.f8 26) = dancestudiolaw12_ShareFair.T26 := by kernel_rfl
theorem dancestudiolaw12_ShareFair.bits26 : waitsOk dancestudiolaw12_ShareFair.T26.2 dancestudiolaw12_ShareFair.B26 = true := by kernel_rfl
set_option maxHeartbeats 8000000 in
set_option maxRecDepth 100000 in
theorem dancestudiolaw12_ShareFair.calls (k : Nat) (a0 : Int) (A1 : Option Addr) (c1 : Nat) (l1 : List Int) (r : Bool) (w : World) (hr1 : Kd.C (Kd.int .i64) w A1 l1.length l1) (hc1 : l1.length ≤ c1) (h : dancestudiolaw12_ShareFair.f k a0 l1 = some r) :
  Calls Try.prog 8 #[.int .i64 a0, .slice A1 l1.length c1] w fun e w' => e = .returned (.bool r) ∧ Below w.heap.size w w' := by
 have HR1 := Aside0.mk hr1
 have HC1 := Aside0.mk hc1
 clear hr1 hc1
 have HB := Aside0.mk (Below.refl w.heap.size w)
 have H : (if (l1.length : Int) > 60 then ((dancestudiolaw12_awake.f k).bind fun t312 => (some t312)) else ((share_Split.f k a0 l1).bind fun bt361 => (if bt361.2 = 0 then (if (bt361.1.length : Int) = (l1.length : Int) then (dancestudiolaw12_ShareFair.l0 k a0 l1 bt361.1 0 a0 0) else (none)) else (if (bt361.1.length : Int) = 0 then ((dancestudiolaw12_awake.f k).bind fun t365 => (some t365)) else (none))))) = some r := h
 clear h
 by_cases c3 : (l1.length : Int) > 60
 ·
  rw [if_pos c3] at H
  have c3b0 := decide_eq_true c3
  have c3b1 : decide (60 < l1.length) = true := decide_eq_true (by omega)
  clear c3
  replace H := Option.bind_eq_some_iff.mp H
  obtain ⟨t312, A40, H⟩ := H
  replace H : (some t312) = some r := H
  have A4 := Aside0.mk A40
  clear A40
  obtain rfl := Option.some.inj H
  go_enter Try.func8, Try.ntmps8
  go_wp2_with (first | ((with_reducible refine gate_callee (f := 9) rfl ?_); refine goesL_ (some 19) rfl rfl Try.func9 (by kernel_rfl) rfl #[] rfl (by (try simp only [List.map_toArray, List.map_cons, List.map_nil]); first | done | rfl | (simp only [List.length_drop, List.length_take]; rfl)) ?_; (with_reducible refine (dancestudiolaw12_awake.calls k  t312 _ A4.out).mono ?_); rintro e w5 ⟨rfl, hb⟩; refine ⟨_, rfl, ?_⟩; replace HB := Aside0.mk (below_step (by repeat with_reducible first | exact HB.out | apply bA | apply bN | apply bD) hb); (try clear hb); (try clear hb2); (try clear hk); (try clear hi)))
  go_ret
  exact ⟨by first | rfl | (simp [errW_none, errW_some] <;> rfl) | (simp [*, errW_none, errW_some] <;> rfl), by repeat with_reducible first | exact HB.out | apply bA | apply bN | apply bD⟩
 ·
  rw [if_neg c3] at H
  have c3b0 := decide_eq_false c3
  have c3b1 : decide (60 < l1.length) = false := decide_eq_false (by omega)
  clear c3
  replace H := Option.bind_eq_some_iff.mp H
  obtain ⟨⟨t361, t362⟩, A60, H⟩ := H
  replace H : (if t362 = 0 then (if (t361.length : Int) = (l1.length : Int) then (dancestudiolaw12_ShareFair.l0 k a0 l1 t361 0 a0 0) else (none)) else (if (t361.length : Int) = 0 then ((dancestudiolaw12_awake.f k).bind fun t365 => (some t365)) else (none))) = some r := H
  have A6 := Aside0.mk A60
  clear A60
  by_cases c7 : t362 = 0
  ·
   rw [if_pos c7] at H
   have c7b0 : (t362 == 0) = true := beq_iff_eq.mpr c7
   have c7b1 : (t362 != 0) = false := bne_eq_false_iff_eq.mpr c7
   clear c7
   by_cases c8 : (t361.length : Int) = (l1.length : Int); rotate_left
   · rw [if_neg c8] at H; exact absurd H (by simp)
   rw [if_pos c8] at H
   have c8b0 : ((t361.length : Int) == (l1.length : Int)) = true := beq_iff_eq.mpr c8
   have c8b1 : ((t361.length : Int) != (l1.length : Int)) = false := bne_eq_false_iff_eq.mpr c8
   have c8b2 : (t361.length == l1.length) = true := by first | simpa using c8 | (simp at c8 ⊢; omega)
   clear c8
   have H' := Aside0.mk H
   clear H
   go_enter Try.func8, Try.ntmps8
   go_wp2_with (first | ((with_reducible refine gate_callee (f := 10) rfl ?_); refine goesL_ (some 23) rfl rfl Try.func10 (by kernel_rfl) rfl #[.int .i64 a0, .slice A1 l1.length c1] rfl (by (try simp only [List.map_toArray, List.map_cons, List.map_nil]); first | done | rfl | (simp only [List.length_drop, List.length_take]; rfl)) ?_; (with_reducible refine (share_Split.calls k a0 _ _ l1 t361 t362 _ ?side1 ?side2 A6.out).mono ?_); (case side1 => repeat (first | exact HR1.out | (with_reducible first | apply cA | apply cN | apply cD))); (case side2 => exact HC1.out); rintro e w9 ⟨v363, rfl, ho0, hb⟩; refine ⟨_, rfl, ?_⟩; have HO364 := Aside0.mk (Kd.R_lower ho0 (below_size (by repeat with_reducible first | exact HB.out | apply bA | apply bN | apply bD))); replace HB := Aside0.mk (below_step (by repeat with_reducible first | exact HB.out | apply bA | apply bN | apply bD) hb); (try clear hb); (try clear hb2); (try clear hk); (try clear hi); (try clear ho0); obtain ⟨Ao10, co10, eo10⟩ := Kd.R_slice HO364.out; subst eo10))
   go_loopg [7, 8, 9] k (fun kq v7 v8 v9 w' => ∃ (x7_1 x8_1 x9_1 : Int), v7 = .int .i64 x7_1 ∧ v8 = .int .i64 x8_1 ∧ v9 = .int .i64 x9_1 ∧ Aside0 (dancestudiolaw12_ShareFair.l0 kq a0 l1 t361 x7_1 x8_1 x9_1 = some r) ∧ Aside0 (kq ≤ k) ∧ Aside0 (Kd.R (Kd.int .i64) 3 w' w.heap.size (fun _ => True) (.slice Ao10 t361.length co10) t361) ∧ Aside0 (Below w.heap.size w w'))
   case atStart => exact ⟨(0), (a0), (0), (by first | rfl | (simp; done) | (simp [*]; done)), (by first | rfl | (simp; done) | (simp [*]; done)), (by first | rfl | (simp; done) | (simp [*]; done)), H', ⟨Nat.le_refl _⟩, ⟨by (with_reducible repeat first | apply rA | apply rN | apply rD); exact HO364.out⟩, ⟨by repeat with_reducible first | exact HB.out | apply bA | apply bN | apply bD⟩⟩
   case round =>
    clear H'
    try clear c1
    try clear p2
    try clear c3
    try clear c3b0
    try clear c3b1
    try clear c7
    try clear c7b0
    try clear c7b1
    try clear c8
    try clear c8b0
    try clear c8b1
    try clear c8b2
    try clear c9
    try clear c10
    obtain ⟨x7_1, x8_1, x9_1, rfl, rfl, rfl, HA, HK1, HO_5, HB⟩ := hrel
    cases gk with
    | zero => exact absurd HA.out (by simp [dancestudiolaw12_ShareFair.l0])
    | succ k1 =>
     have H := HA.out
     clear HA
     simp only [dancestudiolaw12_ShareFair.l0] at H
     by_cases c11 : x9_1 < (t361.length : Int)
     ·
      rw [if_pos c11] at H
      have c11b0 := decide_eq_true c11
      clear c11
      by_cases c12 : 0 ≤ x9_1; rotate_left
      · rw [if_neg c12] at H; exact absurd H (by simp)
      rw [if_pos c12] at H
      have c12b0 := decide_eq_true c12
      clear c12
      by_cases c13 : x9_1 < (l1.length : Int); rotate_left
      · rw [if_neg c13] at H; exact absurd H (by simp)
      rw [if_pos c13] at H
      have c13b0 := decide_eq_true c13
      clear c13
      by_cases c14 : (rd t361 x9_1) < 0
      · rw [if_pos c14] at H; exact absurd H (by simp)
      rw [if_neg c14] at H
      have c14b0 := decide_eq_false c14
      clear c14
      by_cases c15 : (rd t361 x9_1) > x8_1
      · rw [if_pos c15] at H; exact absurd H (by simp)
      rw [if_neg c15] at H
      have c15b0 := decide_eq_false c15
      clear c15
      have H' := Aside0.mk H
      clear H
      have p452 : 0 ≤ (x9_1 : Int) := of_decide_eq_true (by first | (with_reducible assumption) | assumption)
      have q452 : x9_1 < (l1.length : Int) := of_decide_eq_true (by first | (with_reducible assumption) | assumption)
      obtain ⟨ad452, e452, hx452_0⟩ := Kd.at_int HR1.out x9_1 p452 q452
      cases e452
      replace hx452_0 := cb HB.out hx452_0
      replace p452 := eq_true p452
      replace q452 := eq_true q452
      have p453 : 0 ≤ (x9_1 : Int) := of_decide_eq_true (by first | (with_reducible assumption) | assumption)
      have q453 : x9_1 < (t361.length : Int) := of_decide_eq_true (by first | (with_reducible assumption) | assumption)
      obtain ⟨ad453, e453, hx453_0⟩ := Kd.at_int (Kd.R_reads' HO_5.out).2.2 x9_1 p453 q453
      cases e453
      replace p453 := eq_true p453
      replace q453 := eq_true q453
      have p454 : 0 ≤ (x9_1 : Int) := of_decide_eq_true (by first | (with_reducible assumption) | assumption)
      have q454 : x9_1 < (t361.length : Int) := of_decide_eq_true (by first | (with_reducible assumption) | assumption)
      obtain ⟨ad454, e454, hx454_0⟩ := Kd.at_int (Kd.R_reads' HO_5.out).2.2 x9_1 p454 q454
      obtain rfl : ad453 = ad454 := (by injection e454)
      replace p454 := eq_true p454
      replace q454 := eq_true q454
      have p455 : 0 ≤ (x9_1 : Int) := of_decide_eq_true (by first | (with_reducible assumption) | assumption)
      have q455 : x9_1 < (t361.length : Int) := of_decide_eq_true (by first | (with_reducible assumption) | assumption)
      obtain ⟨ad455, e455, hx455_0⟩ := Kd.at_int (Kd.R_reads' HO_5.out).2.2 x9_1 p455 q455
      obtain rfl : ad453 = ad455 := (by injection e455)
      replace p455 := eq_true p455
      replace q455 := eq_true q455
      go_wp2
      go_roundg k1
      case measure => have := HK1.out; omega
      case rel => exact ⟨(wrap64 (x7_1 + (rd l1 x9_1))), (wrap64 (x8_1 - (rd t361 x9_1))), (wrap64 (x9_1 + 1)), (by first | rfl | (simp; done) | (simp [*]; done)), (by first | rfl | (simp; done) | (simp [*]; done)), (by first | rfl | (simp; done) | (simp [*]; done)), H', ⟨by have := HK1.out; omega⟩, ⟨by (with_reducible repeat first | apply rA | apply rN | apply rD); exact HO_5.out⟩, ⟨by repeat with_reducible first | exact HB.out | apply bA | apply bN | apply bD⟩⟩
     ·
      rw [if_neg c11] at H
      have c11b0 := decide_eq_false c11
      clear c11
      have H' := Aside0.mk H
      clear H
      go_wp2
      go_loopg [10] k1 (fun kq v10 w' => ∃ (x10_2 : Int), v10 = .int .i64 x10_2 ∧ Aside0 (dancestudiolaw12_ShareFair.l1 kq a0 l1 t361 x7_1 x8_1 x10_2 = some r) ∧ Aside0 (kq ≤ k1) ∧ Aside0 (Kd.R (Kd.int .i64) 3 w' w.heap.size (fun _ => True) (.slice Ao10 t361.length co10) t361) ∧ Aside0 (Below w.heap.size w w'))
      case atStart => exact ⟨(0), (by first | rfl | (simp; done) | (simp [*]; done)), H', ⟨Nat.le_refl _⟩, ⟨by (with_reducible repeat first | apply rA | apply rN | apply rD); exact HO_5.out⟩, ⟨by repeat with_reducible first | exact HB.out | apply bA | apply bN | apply bD⟩⟩
      case round =>
       clear H'
       try clear c1
       try clear p2
       try clear c3
       try clear c3b0
       try clear c3b1
       try clear p4
       try clear q4
       try clear hx4
       try clear p6
       try clear c7
       try clear c7b0
       try clear c7b1
       try clear c8
       try clear c8b0
       try clear c8b1
       try clear c8b2
       try clear c9
       try clear c10
       try clear c11
       try clear c11b0
       try clear c12
       try clear c12b0
       try clear c13
       try clear c13b0
       try clear c14
       try clear c14b0
       try clear c15
       try clear c15b0
       try clear hx452_0
       try clear hx453_0
       try clear hx454_0
       try clear hx455_0
       try clear p2
       try clear p452
       try clear p453
       try clear p454
       try clear p455
       try clear q452
       try clear q453
       try clear q454
       try clear q455
       obtain ⟨x10_2, rfl, HA, HK2, HO_5, HB⟩ := hrel
       cases gk with
       | zero => exact absurd HA.out (by simp [dancestudiolaw12_ShareFair.l1])
       | succ k2 =>
        have H := HA.out
        clear HA
        simp only [dancestudiolaw12_ShareFair.l1] at H
        by_cases c16 : x10_2 < (t361.length : Int)
        ·
         rw [if_pos c16] at H
         have c16b0 := decide_eq_true c16
         clear c16
         by_cases c17 : 0 ≤ x10_2; rotate_left
         · rw [if_neg c17] at H; exact absurd H (by simp)
         rw [if_pos c17] at H
         have c17b0 := decide_eq_true c17
         clear c17
         by_cases c18 : x10_2 < (l1.length : Int); rotate_left
         · rw [if_neg c18] at H; exact absurd H (by simp)
         rw [if_pos c18] at H
         have c18b0 := decide_eq_true c18
         clear c18
         replace H := Option.bind_eq_some_iff.mp H
         obtain ⟨⟨t459, t460⟩, A190, H⟩ := H
         replace H : ((num_Compare.f k2 (wrap64 ((rd t361 x10_2) + 1)) x7_1 a0 (rd l1 x10_2)).bind fun bt463 => (if t460 = 0 then (if bt463.2 = 0 then (if t459 ≥ 0 then (none) else (if bt463.1 ≤ 0 then (none) else (if (rd l1 x10_2) = 0 then (dancestudiolaw12_ShareFair.j2 k2 a0 l1 t361 x7_1 x8_1 x10_2 ((rd t361 x10_2) != 0)) else (dancestudiolaw12_ShareFair.j2 k2 a0 l1 t361 x7_1 x8_1 x10_2 false)))) else (none)) else (none))) = some r := H
         have A19 := Aside0.mk A190
         clear A190
         replace H := Option.bind_eq_some_iff.mp H
         obtain ⟨⟨t463, t464⟩, A200, H⟩ := H
         replace H : (if t460 = 0 then (if t464 = 0 then (if t459 ≥ 0 then (none) else (if t463 ≤ 0 then (none) else (if (rd l1 x10_2) = 0 then (dancestudiolaw12_ShareFair.j2 k2 a0 l1 t361 x7_1 x8_1 x10_2 ((rd t361 x10_2) != 0)) else (dancestudiolaw12_ShareFair.j2 k2 a0 l1 t361 x7_1 x8_1 x10_2 false)))) else (none)) else (none)) = some r := H
         have A20 := Aside0.mk A200
         clear A200
         have HC21 := Aside0.mk H
         clear H
         try go_wp2
         have n0_ := Aside0.mk (Kd.R_drew HO_5.out)
         have n1_ := Aside0.mk (below_drew1 HB.out)
         clear HO_5
         clear HB
         have HO_5 := n0_
         have HB := n1_
         clear n0_ n1_
         have p457 : 0 ≤ (x10_2 : Int) := of_decide_eq_true (by first | (with_reducible assumption) | assumption)
         have q457 : x10_2 < (t361.length : Int) := of_decide_eq_true (by first | (with_reducible assumption) | assumption)
         obtain ⟨ad457, e457, hx457_0⟩ := Kd.at_int (Kd.R_reads' HO_5.out).2.2 x10_2 p457 q457
         cases e457
         replace p457 := eq_true p457
         replace q457 := eq_true q457
         have p458 : 0 ≤ (x10_2 : Int) := of_decide_eq_true (by first | (with_reducible assumption) | assumption)
         have q458 : x10_2 < (l1.length : Int) := of_decide_eq_true (by first | (with_reducible assumption) | assumption)
         obtain ⟨ad458, e458, hx458_0⟩ := Kd.at_int HR1.out x10_2 p458 q458
         have hw458_0 := hx458_0
         cases e458
         replace hx458_0 := cb HB.out hx458_0
         replace p458 := eq_true p458
         replace q458 := eq_true q458
         refine start_ (n := 17) (S := fun w' => w'.cell? (ad457.add (x10_2).toNat) = some (.int .i64 (rd t361 x10_2)) ∧ w'.cell? (ad458.add (x10_2).toNat) = some (.int .i64 (rd l1 x10_2))) (ds := []) (bm 17 0) (by kernel_rfl) rfl rfl ⟨hx457_0, (cb HB.out hw458_0)⟩ (fun hHeld => ?_); refine with_tabW dancestudiolaw12_ShareFair.tab19 dancestudiolaw12_ShareFair.bits19 (fun HT_ HW_ => ?_)
         generalize wr.drew = w22 at HO_5 HB hx457_0 hx458_0 hHeld ⊢
         refine pure_ (i := 0) (N := some 78) (v := ?_) (a' := ?_) (bm 17 1) rfl rfl (any_of HT_.out (by kernel_rfl)) (fun _ _ _ h => h) (Or.inl ⟨by rfl, ?_⟩) ?_ ?_
         rotate_left; (intro w'; go_simp; with_reducible rfl); rotate_left; (simp only [Act.put, aS, lZ, lS, i64_w, i32_w]; rfl)
         refine pure_ (i := 1) (N := some 79) (v := ?_) (a' := ?_) (bm 17 3) rfl rfl (any_of HT_.out (by kernel_rfl)) (fun _ _ _ h => h) (Or.inl ⟨by rfl, ?_⟩) ?_ ?_
         rotate_left; (intro w'; go_simp; with_reducible rfl); rotate_left; (simp only [Act.put, aS, lZ, lS, i64_w, i32_w]; rfl)
         refine pure_ (i := 2) (N := some 80) (v := ?_) (a' := ?_) (bm 17 7) rfl rfl (any_of HT_.out (by kernel_rfl)) (fun _ _ _ h => h) (Or.inl ⟨by rfl, ?_⟩) ?_ ?_
         rotate_left; (intro w'; go_simp; with_reducible rfl); rotate_left; (simp only [Act.put, aS, lZ, lS, i64_w, i32_w]; rfl)
         refine pure_ (i := 5) (N := some 83) (v := ?_) (a' := ?_) (bm 17 39) rfl rfl (any_of HT_.out (by kernel_rfl)) (fun _ _ _ h => h) (Or.inl ⟨by rfl, ?_⟩) ?_ ?_
         rotate_left; (intro w'; go_simp; with_reducible rfl); rotate_left; (simp only [Act.put, aS, lZ, lS, i64_w, i32_w]; rfl)
         refine pure_ (i := 6) (N := some 84) (v := ?_) (a' := ?_) (bm 17 103) rfl rfl (any_of HT_.out (by kernel_rfl)) (fun _ _ _ h => h) (Or.inl ⟨by rfl, ?_⟩) ?_ ?_
         rotate_left; (intro w'; go_simp; with_reducible rfl); rotate_left; (simp only [Act.put, aS, lZ, lS, i64_w, i32_w]; rfl)
         refine pure_ (i := 7) (N := some 85) (v := ?_) (a' := ?_) (bm 17 231) rfl rfl (any_of HT_.out (by kernel_rfl)) (fun _ _ _ h => h) (Or.inl ⟨by rfl, ?_⟩) ?_ ?_
         rotate_left; (intro w'; go_simp; with_reducible rfl); rotate_left; (simp only [Act.put, aS, lZ, lS, i64_w, i32_w]; rfl)
         refine pure_ (i := 8) (N := some 86) (v := ?_) (a' := ?_) (bm 17 487) rfl rfl (any_of HT_.out (by kernel_rfl)) (fun _ _ _ h => h) (Or.inl ⟨by rfl, ?_⟩) ?_ ?_
         rotate_left; (intro w'; go_simp; with_reducible rfl); rotate_left; (simp only [Act.put, aS, lZ, lS, i64_w, i32_w]; rfl)
         refine pure_ (i := 9) (N := some 87) (v := ?_) (a' := ?_) (bm 17 999) rfl rfl (any_of HT_.out (by kernel_rfl)) (fun _ _ _ h => h) (Or.inl ⟨by rfl, ?_⟩) ?_ ?_
         rotate_left; (intro w'; go_simp; with_reducible rfl); rotate_left; (simp only [Act.put, aS, lZ, lS, i64_w, i32_w]; rfl)
         refine take_ (i := 3) (N := some 81) (v := ?_) (a' := ?_) (bm 17 1007) rfl rfl (take_ofW HT_.out HW_.out (by kernel_rfl)) (fun _ _ _ h => h) (Or.inl ⟨by rfl, ?_⟩) hHeld ?_ ?_
         rotate_left
         ·
          rintro w' ⟨s0, s1⟩
          go_simp
          with_reducible rfl
         rotate_left
         ·
          simp only [Act.put, aS, lZ, lS, i64_w, i32_w]
          rfl
         refine pure_ (i := 4) (N := some 82) (v := ?_) (a' := ?_) (bm 17 1023) rfl rfl (any_of HT_.out (by kernel_rfl)) (fun _ _ _ h => h) (Or.inl ⟨by rfl, ?_⟩) ?_ ?_
         rotate_left; (intro w'; go_simp; with_reducible rfl); rotate_left; (simp only [Act.put, aS, lZ, lS, i64_w, i32_w]; rfl)
         refine take_ (i := 10) (N := some 88) (v := ?_) (a' := ?_) (bm 17 2047) rfl rfl (take_ofW HT_.out HW_.out (by kernel_rfl)) (fun _ _ _ h => h) (Or.inl ⟨by rfl, ?_⟩) hHeld ?_ ?_
         rotate_left
         ·
          rintro w' ⟨s0, s1⟩
          go_simp
          with_reducible rfl
         rotate_left
         ·
          simp only [Act.put, aS, lZ, lS, i64_w, i32_w]
          rfl
         refine one_ (i := 11) (N := some 89) (bm 17 4095) rfl rfl (one_of HT_.out (by kernel_rfl)) (by decide) (fun K hK => ?_)
         refine goes_ Try.func15 (by kernel_rfl) rfl #[.int .i64 (wrap64 ((rd t361 x10_2) - 1)), .int .i64 x7_1, .int .i64 a0, .int .i64 (rd l1 x10_2)] (by rfl) rfl rfl (by (try simp only [List.map_toArray, List.map_cons, List.map_nil]); first | done | rfl | (simp only [List.length_drop, List.length_take]; rfl)) ?_
         with_reducible refine (num_Compare.calls k2 (wrap64 ((rd t361 x10_2) - 1)) x7_1 a0 (rd l1 x10_2) t459 t460 _ A19.out).mono ?_
         rintro e w23 ⟨rfl, hb⟩
         have HS0_ := (hb.cell (World.block_lt_of_cell? _ _ (hHeld.1))).trans (hHeld.1)
         refine ⟨_, rfl, ?_⟩
         have n0_ := Aside0.mk (Kd.R_below (by (with_reducible repeat first | apply rA | apply rN | apply rD); exact HO_5.out) hb)
         have n1_ := Aside0.mk (below_step (by repeat with_reducible first | exact HB.out | apply bA | apply bN | apply bD) hb)
         clear HO_5
         clear HB
         have HO_5 := n0_
         have HB := n1_
         clear n0_ n1_
         (try clear hb)
         (try clear hb2)
         (try clear hk)
         (try clear hi)
         refine hK.out _ _ ⟨HS0_, (cb HB.out hw458_0)⟩ (fun hHeld => ?_)
         clear hK K
         refine norm_ (a' := ?_) ?_ ?_
         rotate_left
         ·
          show Act.put _ (some 89) _ = _
          simp only [Act.put, aS, lZ, lS, i64_w, i32_w]
          rfl
         refine pure_ (i := 12) (N := some 77) (v := ?_) (a' := ?_) (bm 17 8191) rfl rfl (any_of HT_.out (by kernel_rfl)) (fun _ _ _ h => h) (Or.inl ⟨by rfl, ?_⟩) ?_ ?_
         rotate_left; (intro w'; go_simp; with_reducible rfl); rotate_left; (simp only [Act.put, aS, lZ, lS, i64_w, i32_w]; rfl)
         refine pure_ (i := 13) (N := some 90) (v := ?_) (a' := ?_) (bm 17 16383) rfl rfl (any_of HT_.out (by kernel_rfl)) (fun _ _ _ h => h) (Or.inl ⟨by rfl, ?_⟩) ?_ ?_
         rotate_left; (intro w'; go_simp; with_reducible rfl); rotate_left; (simp only [Act.put, aS, lZ, lS, i64_w, i32_w]; rfl)
         refine pure_ (i := 14) (N := some 91) (v := ?_) (a' := ?_) (bm 17 32767) rfl rfl (any_of HT_.out (by kernel_rfl)) (fun _ _ _ h => h) (Or.inl ⟨by rfl, ?_⟩) ?_ ?_
         rotate_left; (intro w'; go_simp; with_reducible rfl); rotate_left; (simp only [Act.put, aS, lZ, lS, i64_w, i32_w]; rfl)
         refine pure_ (i := 15) (N := some 11) (v := ?_) (a' := ?_) (bm 17 65535) rfl rfl (any_of HT_.out (by kernel_rfl)) (fun _ _ _ h => h) (Or.inl ⟨by rfl, ?_⟩) ?_ ?_
         rotate_left; (intro w'; go_simp; with_reducible rfl); rotate_left; (simp only [Act.put, aS, lZ, lS, i64_w, i32_w]; rfl)
         refine pure_ (i := 16) (N := some 12) (v := ?_) (a' := ?_) (bm 17 131071) rfl rfl (any_of HT_.out (by kernel_rfl)) (fun _ _ _ h => h) (Or.inl ⟨by rfl, ?_⟩) ?_ ?_
         rotate_left; (intro w'; go_simp; with_reducible rfl); rotate_left; (simp only [Act.put, aS, lZ, lS, i64_w, i32_w]; rfl)
         refine done_ (done_of HT_.out (by kernel_rfl)) ?_
         try go_wp2
         have n0_ := Aside0.mk (Kd.R_drew HO_5.out)
         have n1_ := Aside0.mk (below_drew1 HB.out)
         clear HO_5
         clear HB
         have HO_5 := n0_
         have HB := n1_
         clear n0_ n1_
         have p461 : 0 ≤ (x10_2 : Int) := of_decide_eq_true (by first | (with_reducible assumption) | assumption)
         have q461 : x10_2 < (t361.length : Int) := of_decide_eq_true (by first | (with_reducible assumption) | assumption)
         obtain ⟨ad461, e461, hx461_0⟩ := Kd.at_int (Kd.R_reads' HO_5.out).2.2 x10_2 p461 q461
         obtain rfl : ad457 = ad461 := (by injection e461)
         replace p461 := eq_true p461
         replace q461 := eq_true q461
         have p462 : 0 ≤ (x10_2 : Int) := of_decide_eq_true (by first | (with_reducible assumption) | assumption)
         have q462 : x10_2 < (l1.length : Int) := of_decide_eq_true (by first | (with_reducible assumption) | assumption)
         obtain ⟨ad462, e462, hx462_0⟩ := Kd.at_int HR1.out x10_2 p462 q462
         have hw462_0 := hx462_0
         obtain rfl : ad458 = ad462 := (by injection e462)
         replace hx462_0 := cb HB.out hx462_0
         replace p462 := eq_true p462
         replace q462 := eq_true q462
         refine start_ (n := 17) (S := fun w' => w'.cell? (ad457.add (x10_2).toNat) = some (.int .i64 (rd t361 x10_2)) ∧ w'.cell? (ad458.add (x10_2).toNat) = some (.int .i64 (rd l1 x10_2))) (ds := []) (bm 17 0) (by kernel_rfl) rfl rfl ⟨hx461_0, (cb HB.out hw462_0)⟩ (fun hHeld => ?_); refine with_tabW dancestudiolaw12_ShareFair.tab20 dancestudiolaw12_ShareFair.bits20 (fun HT_ HW_ => ?_)
         generalize w23.drew = w24 at HO_5 HB hx461_0 hx462_0 hHeld ⊢
         refine pure_ (i := 0) (N := some 93) (v := ?_) (a' := ?_) (bm 17 1) rfl rfl (any_of HT_.out (by kernel_rfl)) (fun _ _ _ h => h) (Or.inl ⟨by rfl, ?_⟩) ?_ ?_
         rotate_left; (intro w'; go_simp; with_reducible rfl); rotate_left; (simp only [Act.put, aS, lZ, lS, i64_w, i32_w]; rfl)
         refine pure_ (i := 1) (N := some 94) (v := ?_) (a' := ?_) (bm 17 3) rfl rfl (any_of HT_.out (by kernel_rfl)) (fun _ _ _ h => h) (Or.inl ⟨by rfl, ?_⟩) ?_ ?_
         rotate_left; (intro w'; go_simp; with_reducible rfl); rotate_left; (simp only [Act.put, aS, lZ, lS, i64_w, i32_w]; rfl)
         refine pure_ (i := 2) (N := some 95) (v := ?_) (a' := ?_) (bm 17 7) rfl rfl (any_of HT_.out (by kernel_rfl)) (fun _ _ _ h => h) (Or.inl ⟨by rfl, ?_⟩) ?_ ?_
         rotate_left; (intro w'; go_simp; with_reducible rfl); rotate_left; (simp only [Act.put, aS, lZ, lS, i64_w, i32_w]; rfl)
         refine pure_ (i := 5) (N := some 98) (v := ?_) (a' := ?_) (bm 17 39) rfl rfl (any_of HT_.out (by kernel_rfl)) (fun _ _ _ h => h) (Or.inl ⟨by rfl, ?_⟩) ?_ ?_
         rotate_left; (intro w'; go_simp; with_reducible rfl); rotate_left; (simp only [Act.put, aS, lZ, lS, i64_w, i32_w]; rfl)
         refine pure_ (i := 6) (N := some 99) (v := ?_) (a' := ?_) (bm 17 103) rfl rfl (any_of HT_.out (by kernel_rfl)) (fun _ _ _ h => h) (Or.inl ⟨by rfl, ?_⟩) ?_ ?_
         rotate_left; (intro w'; go_simp; with_reducible rfl); rotate_left; (simp only [Act.put, aS, lZ, lS, i64_w, i32_w]; rfl)
         refine pure_ (i := 7) (N := some 100) (v := ?_) (a' := ?_) (bm 17 231) rfl rfl (any_of HT_.out (by kernel_rfl)) (fun _ _ _ h => h) (Or.inl ⟨by rfl, ?_⟩) ?_ ?_
         rotate_left; (intro w'; go_simp; with_reducible rfl); rotate_left; (simp only [Act.put, aS, lZ, lS, i64_w, i32_w]; rfl)
         refine pure_ (i := 8) (N := some 101) (v := ?_) (a' := ?_) (bm 17 487) rfl rfl (any_of HT_.out (by kernel_rfl)) (fun _ _ _ h => h) (Or.inl ⟨by rfl, ?_⟩) ?_ ?_
         rotate_left; (intro w'; go_simp; with_reducible rfl); rotate_left; (simp only [Act.put, aS, lZ, lS, i64_w, i32_w]; rfl)
         refine pure_ (i := 9) (N := some 102) (v := ?_) (a' := ?_) (bm 17 999) rfl rfl (any_of HT_.out (by kernel_rfl)) (fun _ _ _ h => h) (Or.inl ⟨by rfl, ?_⟩) ?_ ?_
         rotate_left; (intro w'; go_simp; with_reducible rfl); rotate_left; (simp only [Act.put, aS, lZ, lS, i64_w, i32_w]; rfl)
         refine take_ (i := 3) (N := some 96) (v := ?_) (a' := ?_) (bm 17 1007) rfl rfl (take_ofW HT_.out HW_.out (by kernel_rfl)) (fun _ _ _ h => h) (Or.inl ⟨by rfl, ?_⟩) hHeld ?_ ?_
         rotate_left
         ·
          rintro w' ⟨s0, s1⟩
          go_simp
          with_reducible rfl
         rotate_left
         ·
          simp only [Act.put, aS, lZ, lS, i64_w, i32_w]
          rfl
         refine pure_ (i := 4) (N := some 97) (v := ?_) (a' := ?_) (bm 17 1023) rfl rfl (any_of HT_.out (by kernel_rfl)) (fun _ _ _ h => h) (Or.inl ⟨by rfl, ?_⟩) ?_ ?_
         rotate_left; (intro w'; go_simp; with_reducible rfl); rotate_left; (simp only [Act.put, aS, lZ, lS, i64_w, i32_w]; rfl)
         refine take_ (i := 10) (N := some 103) (v := ?_) (a' := ?_) (bm 17 2047) rfl rfl (take_ofW HT_.out HW_.out (by kernel_rfl)) (fun _ _ _ h => h) (Or.inl ⟨by rfl, ?_⟩) hHeld ?_ ?_
         rotate_left
         ·
          rintro w' ⟨s0, s1⟩
          go_simp
          with_reducible rfl
         rotate_left
         ·
          simp only [Act.put, aS, lZ, lS, i64_w, i32_w]
          rfl
         refine one_ (i := 11) (N := some 104) (bm 17 4095) rfl rfl (one_of HT_.out (by kernel_rfl)) (by decide) (fun K hK => ?_)
         refine goes_ Try.func15 (by kernel_rfl) rfl #[.int .i64 (wrap64 ((rd t361 x10_2) + 1)), .int .i64 x7_1, .int .i64 a0, .int .i64 (rd l1 x10_2)] (by rfl) rfl rfl (by (try simp only [List.map_toArray, List.map_cons, List.map_nil]); first | done | rfl | (simp only [List.length_drop, List.length_take]; rfl)) ?_
         with_reducible refine (num_Compare.calls k2 (wrap64 ((rd t361 x10_2) + 1)) x7_1 a0 (rd l1 x10_2) t463 t464 _ A20.out).mono ?_
         rintro e w25 ⟨rfl, hb⟩
         have HS0_ := (hb.cell (World.block_lt_of_cell? _ _ (hHeld.1))).trans (hHeld.1)
         refine ⟨_, rfl, ?_⟩
         have n0_ := Aside0.mk (Kd.R_below (by (with_reducible repeat first | apply rA | apply rN | apply rD); exact HO_5.out) hb)
         have n1_ := Aside0.mk (below_step (by repeat with_reducible first | exact HB.out | apply bA | apply bN | apply bD) hb)
         clear HO_5
         clear HB
         have HO_5 := n0_
         have HB := n1_
         clear n0_ n1_
         (try clear hb)
         (try clear hb2)
         (try clear hk)
         (try clear hi)
         refine hK.out _ _ ⟨HS0_, (cb HB.out hw462_0)⟩ (fun hHeld => ?_)
         clear hK K
         refine norm_ (a' := ?_) ?_ ?_
         rotate_left
         ·
          show Act.put _ (some 104) _ = _
          simp only [Act.put, aS, lZ, lS, i64_w, i32_w]
          rfl
         refine pure_ (i := 12) (N := some 92) (v := ?_) (a' := ?_) (bm 17 8191) rfl rfl (any_of HT_.out (by kernel_rfl)) (fun _ _ _ h => h) (Or.inl ⟨by rfl, ?_⟩) ?_ ?_
         rotate_left; (intro w'; go_simp; with_reducible rfl); rotate_left; (simp only [Act.put, aS, lZ, lS, i64_w, i32_w]; rfl)
         refine pure_ (i := 13) (N := some 105) (v := ?_) (a' := ?_) (bm 17 16383) rfl rfl (any_of HT_.out (by kernel_rfl)) (fun _ _ _ h => h) (Or.inl ⟨by rfl, ?_⟩) ?_ ?_
         rotate_left; (intro w'; go_simp; with_reducible rfl); rotate_left; (simp only [Act.put, aS, lZ, lS, i64_w, i32_w]; rfl)
         refine pure_ (i := 14) (N := some 106) (v := ?_) (a' := ?_) (bm 17 32767) rfl rfl (any_of HT_.out (by kernel_rfl)) (fun _ _ _ h => h) (Or.inl ⟨by rfl, ?_⟩) ?_ ?_
         rotate_left; (intro w'; go_simp; with_reducible rfl); rotate_left; (simp only [Act.put, aS, lZ, lS, i64_w, i32_w]; rfl)
         refine pure_ (i := 15) (N := some 13) (v := ?_) (a' := ?_) (bm 17 65535) rfl rfl (any_of HT_.out (by kernel_rfl)) (fun _ _ _ h => h) (Or.inl ⟨by rfl, ?_⟩) ?_ ?_
         rotate_left; (intro w'; go_simp; with_reducible rfl); rotate_left; (simp only [Act.put, aS, lZ, lS, i64_w, i32_w]; rfl)
         refine pure_ (i := 16) (N := some 14) (v := ?_) (a' := ?_) (bm 17 131071) rfl rfl (any_of HT_.out (by kernel_rfl)) (fun _ _ _ h => h) (Or.inl ⟨by rfl, ?_⟩) ?_ ?_
         rotate_left; (intro w'; go_simp; with_reducible rfl); rotate_left; (simp only [Act.put, aS, lZ, lS, i64_w, i32_w]; rfl)
         refine done_ (done_of HT_.out (by kernel_rfl)) ?_
         go_upto_region 21 with (fail)
         go_cut [134] (fun v134 wc => ∃ (kq : Nat) (x134_20 : Bool), v134 = .bool x134_20 ∧ Aside0 (dancestudiolaw12_ShareFair.j2 kq a0 l1 t361 x7_1 x8_1 x10_2 x134_20 = some r) ∧ Aside0 (kq ≤ k2) ∧ Aside0 (Kd.R (Kd.int .i64) 3 wc w.heap.size (fun _ => True) (.slice (some ad457) t361.length co10) t361) ∧ Aside0 (Below w.heap.size w wc))
         case first =>
          have H := HC21.out
          clear HC21
          by_cases c26 : t460 = 0; rotate_left
          · rw [if_neg c26] at H; exact absurd H (by simp)
          rw [if_pos c26] at H
          have c26b0 : (t460 == 0) = true := beq_iff_eq.mpr c26
          have c26b1 : (t460 != 0) = false := bne_eq_false_iff_eq.mpr c26
          clear c26
          (first | rw [c26b0] | (simp only [i64_w, i32_w]; rw [c26b0]) | skip)
          by_cases c27 : t464 = 0; rotate_left
          · rw [if_neg c27] at H; exact absurd H (by simp)
          rw [if_pos c27] at H
          have c27b0 : (t464 == 0) = true := beq_iff_eq.mpr c27
          have c27b1 : (t464 != 0) = false := bne_eq_false_iff_eq.mpr c27
          clear c27
          by_cases c28 : t459 ≥ 0
          · rw [if_pos c28] at H; exact absurd H (by simp)
          rw [if_neg c28] at H
          have c28b0 := decide_eq_false c28
          clear c28
          by_cases c29 : t463 ≤ 0
          · rw [if_pos c29] at H; exact absurd H (by simp)
          rw [if_neg c29] at H
          have c29b0 := decide_eq_false c29
          clear c29
          by_cases c30 : (rd l1 x10_2) = 0
          ·
           rw [if_pos c30] at H
           have c30b0 : ((rd l1 x10_2) == 0) = true := beq_iff_eq.mpr c30
           have c30b1 : ((rd l1 x10_2) != 0) = false := bne_eq_false_iff_eq.mpr c30
           clear c30
           have H' := Aside0.mk H
           clear H
           have p465 : 0 ≤ (x10_2 : Int) := of_decide_eq_true (by first | (with_reducible assumption) | assumption)
           have q465 : x10_2 < (l1.length : Int) := of_decide_eq_true (by first | (with_reducible assumption) | assumption)
           obtain ⟨ad465, e465, hx465_0⟩ := Kd.at_int HR1.out x10_2 p465 q465
           obtain rfl : ad458 = ad465 := (by injection e465)
           replace hx465_0 := cb HB.out hx465_0
           replace p465 := eq_true p465
           replace q465 := eq_true q465
           have p466 : 0 ≤ (x10_2 : Int) := of_decide_eq_true (by first | (with_reducible assumption) | assumption)
           have q466 : x10_2 < (t361.length : Int) := of_decide_eq_true (by first | (with_reducible assumption) | assumption)
           obtain ⟨ad466, e466, hx466_0⟩ := Kd.at_int (Kd.R_reads' HO_5.out).2.2 x10_2 p466 q466
           obtain rfl : ad457 = ad466 := (by injection e466)
           replace p466 := eq_true p466
           replace q466 := eq_true q466
           go_wp2
           go_meet
           case rel => exact ⟨_, (((rd t361 x10_2) != 0)), (by first | rfl | (simp; done) | (simp [*]; done)), H', ⟨by have := HK1.out; have := HK2.out; first | omega | exact Nat.le_refl _⟩, ⟨by (with_reducible repeat first | apply rA | apply rN | apply rD); exact HO_5.out⟩, ⟨by repeat with_reducible first | exact HB.out | apply bA | apply bN | apply bD⟩⟩
          ·
           rw [if_neg c30] at H
           have c30b0 : ((rd l1 x10_2) == 0) = false := beq_eq_false_iff_ne.mpr c30
           have c30b1 : ((rd l1 x10_2) != 0) = true := bne_iff_ne.mpr c30
           have H' := Aside0.mk H
           clear H
           have p465 : 0 ≤ (x10_2 : Int) := of_decide_eq_true (by first | (with_reducible assumption) | assumption)
           have q465 : x10_2 < (l1.length : Int) := of_decide_eq_true (by first | (with_reducible assumption) | assumption)
           obtain ⟨ad465, e465, hx465_0⟩ := Kd.at_int HR1.out x10_2 p465 q465
           obtain rfl : ad458 = ad465 := (by injection e465)
           replace hx465_0 := cb HB.out hx465_0
           replace p465 := eq_true p465
           replace q465 := eq_true q465
           go_wp2
           go_meet
           case rel => exact ⟨_, (false), (by first | rfl | (simp; done) | (simp [*]; done)), H', ⟨by have := HK1.out; have := HK2.out; first | omega | exact Nat.le_refl _⟩, ⟨by (with_reducible repeat first | apply rA | apply rN | apply rD); exact HO_5.out⟩, ⟨by repeat with_reducible first | exact HB.out | apply bA | apply bN | apply bD⟩⟩
         case rest =>
          clear HC21
          try clear c1
          try clear c2
          try clear p2
          try clear c3
          try clear c3b0
          try clear c3b1
          try clear p4
          try clear q4
          try clear hx4
          try clear p6
          try clear c7
          try clear c7b0
          try clear c7b1
          try clear c8
          try clear c8b0
          try clear c8b1
          try clear c8b2
          try clear c9
          try clear c10
          try clear c11
          try clear c11b0
          try clear c12
          try clear c12b0
          try clear c13
          try clear c13b0
          try clear c14
          try clear c14b0
          try clear c15
          try clear c15b0
          try clear c16
          try clear c16b0
          try clear c17
          try clear c17b0
          try clear c18
          try clear c18b0
          try clear c26
          try clear c26b0
          try clear c26b1
          try clear c27
          try clear c27b0
          try clear c27b1
          try clear c28
          try clear c28b0
          try clear c29
          try clear c29b0
          try clear c30
          try clear c30b0
          try clear c30b1
          try clear hx452_0
          try clear hx453_0
          try clear hx454_0
          try clear hx455_0
          try clear hx457_0
          try clear hx458_0
          try clear hx461_0
          try clear hx462_0
          try clear hx465_0
          try clear hx466_0
          try clear p2
          try clear p4
          try clear p452
          try clear p453
          try clear p454
          try clear p455
          try clear p457
          try clear p458
          try clear p461
          try clear p462
          try clear p465
          try clear p466
          try clear p6
          try clear q4
          try clear q452
          try clear q453
          try clear q454
          try clear q455
          try clear q457
          try clear q458
          try clear q461
          try clear q462
          try clear q465
          try clear q466
          obtain ⟨kq, x134_20, rfl, HA, HJ20, HO_5, HB⟩ := hcut
          cases kq with
          | zero => exact absurd HA.out (by simp [dancestudiolaw12_ShareFair.j2])
          | succ kj20 =>
           have H := HA.out
           clear HA
           simp only [dancestudiolaw12_ShareFair.j2] at H
           by_cases c31 : x134_20 = true
           ·
            subst c31
            have H1 : (none) = some r := by rw [if_pos rfl] at H; exact H
            clear H
            have H := H1
            clear H1
            exact absurd H (by simp)
           ·
            replace c31 := Bool.eq_false_iff.mpr c31
            subst c31
            have H1 : (dancestudiolaw12_ShareFair.l2 kj20 a0 l1 t361 x7_1 x8_1 x10_2 0) = some r := by rw [if_neg (show ¬ (false = true) by decide)] at H; exact H
            clear H
            have H := H1
            clear H1
            have H' := Aside0.mk H
            clear H
            go_wp2
            go_loopg [15] kj20 (fun kq v15 w' => ∃ (x15_4 : Int), v15 = .int .i64 x15_4 ∧ Aside0 (dancestudiolaw12_ShareFair.l2 kq a0 l1 t361 x7_1 x8_1 x10_2 x15_4 = some r) ∧ Aside0 (kq ≤ kj20) ∧ Aside0 (Kd.R (Kd.int .i64) 3 w' w.heap.size (fun _ => True) (.slice (some ad457) t361.length co10) t361) ∧ Aside0 (Below w.heap.size w w'))
            case atStart => exact ⟨(0), (by first | rfl | (simp; done) | (simp [*]; done)), H', ⟨Nat.le_refl _⟩, ⟨by (with_reducible repeat first | apply rA | apply rN | apply rD); exact HO_5.out⟩, ⟨by repeat with_reducible first | exact HB.out | apply bA | apply bN | apply bD⟩⟩
            case round =>
             clear H'
             try clear c1
             try clear c2
             try clear p2
             try clear c3
             try clear c3b0
             try clear c3b1
             try clear p4
             try clear q4
             try clear hx4
             try clear p6
             try clear c7
             try clear c7b0
             try clear c7b1
             try clear c8
             try clear c8b0
             try clear c8b1
             try clear c8b2
             try clear c9
             try clear c10
             try clear c11
             try clear c11b0
             try clear c12
             try clear c12b0
             try clear c13
             try clear c13b0
             try clear c14
             try clear c14b0
             try clear c15
             try clear c15b0
             try clear c16
             try clear c16b0
             try clear c17
             try clear c17b0
             try clear c18
             try clear c18b0
             try clear c26
             try clear c26b0
             try clear c26b1
             try clear c27
             try clear c27b0
             try clear c27b1
             try clear c28
             try clear c28b0
             try clear c29
             try clear c29b0
             try clear c30
             try clear c30b0
             try clear c30b1
             try clear c31
             try clear hx452_0
             try clear hx453_0
             try clear hx454_0
             try clear hx455_0
             try clear hx457_0
             try clear hx458_0
             try clear hx461_0
             try clear hx462_0
             try clear hx465_0
             try clear hx466_0
             try clear p2
             try clear p4
             try clear p452
             try clear p453
             try clear p454
             try clear p455
             try clear p457
             try clear p458
             try clear p461
             try clear p462
             try clear p465
             try clear p466
             try clear p6
             try clear q4
             try clear q452
             try clear q453
             try clear q454
             try clear q455
             try clear q457
             try clear q458
             try clear q461
             try clear q462
             try clear q465
             try clear q466
             obtain ⟨x15_4, rfl, HA, HK4, HO_5, HB⟩ := hrel
             cases gk with
             | zero => exact absurd HA.out (by simp [dancestudiolaw12_ShareFair.l2])
             | succ k4 =>
              have H := HA.out
              clear HA
              simp only [dancestudiolaw12_ShareFair.l2] at H
              by_cases c32 : x15_4 < x10_2
              ·
               rw [if_pos c32] at H
               have c32b0 := decide_eq_true c32
               clear c32
               by_cases c33 : 0 ≤ x15_4; rotate_left
               · rw [if_neg c33] at H; exact absurd H (by simp)
               rw [if_pos c33] at H
               have c33b0 := decide_eq_true c33
               clear c33
               by_cases c34 : x15_4 < (l1.length : Int); rotate_left
               · rw [if_neg c34] at H; exact absurd H (by simp)
               rw [if_pos c34] at H
               have c34b0 := decide_eq_true c34
               clear c34
               by_cases c35 : 0 ≤ x10_2; rotate_left
               · rw [if_neg c35] at H; exact absurd H (by simp)
               rw [if_pos c35] at H
               have c35b0 := decide_eq_true c35
               clear c35
               by_cases c36 : x10_2 < (l1.length : Int); rotate_left
               · rw [if_neg c36] at H; exact absurd H (by simp)
               rw [if_pos c36] at H
               have c36b0 := decide_eq_true c36
               clear c36
               by_cases c37 : (rd l1 x15_4) > (rd l1 x10_2)
               ·
                rw [if_pos c37] at H
                have c37b0 := decide_eq_true c37
                clear c37
                by_cases c38 : x15_4 < (t361.length : Int); rotate_left
                · rw [if_neg c38] at H; exact absurd H (by simp)
                rw [if_pos c38] at H
                have c38b0 := decide_eq_true c38
                clear c38
                by_cases c39 : x10_2 < (t361.length : Int); rotate_left
                · rw [if_neg c39] at H; exact absurd H (by simp)
                rw [if_pos c39] at H
                have c39b0 := decide_eq_true c39
                clear c39
                by_cases c40 : (rd t361 x15_4) < (rd t361 x10_2)
                ·
                 rw [if_pos c40] at H
                 have c40b0 := decide_eq_true c40
                 clear c40
                 exact absurd H (by simp)
                ·
                 rw [if_neg c40] at H
                 have c40b0 := decide_eq_false c40
                 clear c40
                 by_cases c41 : (rd l1 x15_4) < (rd l1 x10_2)
                 ·
                  exact absurd c41 (Int.not_lt.mpr (Int.le_of_lt (of_decide_eq_true c37b0)))
                 ·
                  rw [if_neg c41] at H
                  have c41b0 := decide_eq_false c41
                  clear c41
                  by_cases c46 : (rd l1 x15_4) = (rd l1 x10_2)
                  ·
                   exact absurd (of_decide_eq_true c37b0) (by rw [c46]; exact Int.lt_irrefl _)
                  ·
                   rw [if_neg c46] at H
                   have c46b0 : ((rd l1 x15_4) == (rd l1 x10_2)) = false := beq_eq_false_iff_ne.mpr c46
                   have c46b1 : ((rd l1 x15_4) != (rd l1 x10_2)) = true := bne_iff_ne.mpr c46
                   have H' := Aside0.mk H
                   clear H
                   try go_wp2
                   have n0_ := Aside0.mk (Kd.R_drew HO_5.out)
                   have n1_ := Aside0.mk (below_drew1 HB.out)
                   clear HO_5
                   clear HB
                   have HO_5 := n0_
                   have HB := n1_
                   clear n0_ n1_
                   have p495 : 0 ≤ (x15_4 : Int) := of_decide_eq_true (by first | (with_reducible assumption) | assumption)
                   have q495 : x15_4 < (l1.length : Int) := of_decide_eq_true (by first | (with_reducible assumption) | assumption)
                   obtain ⟨ad495, e495, hx495_0⟩ := Kd.at_int HR1.out x15_4 p495 q495
                   have hw495_0 := hx495_0
                   obtain rfl : ad458 = ad495 := (by injection e495)
                   replace hx495_0 := cb HB.out hx495_0
                   replace p495 := eq_true p495
                   replace q495 := eq_true q495
                   have p496 : 0 ≤ (x10_2 : Int) := of_decide_eq_true (by first | (with_reducible assumption) | assumption)
                   have q496 : x10_2 < (l1.length : Int) := of_decide_eq_true (by first | (with_reducible assumption) | assumption)
                   obtain ⟨ad496, e496, hx496_0⟩ := Kd.at_int HR1.out x10_2 p496 q496
                   have hw496_0 := hx496_0
                   obtain rfl : ad458 = ad496 := (by injection e496)
                   replace hx496_0 := cb HB.out hx496_0
                   replace p496 := eq_true p496
                   replace q496 := eq_true q496
                   have p497 : 0 ≤ (x15_4 : Int) := of_decide_eq_true (by first | (with_reducible assumption) | assumption)
                   have q497 : x15_4 < (t361.length : Int) := of_decide_eq_true (by first | (with_reducible assumption) | assumption)
                   obtain ⟨ad497, e497, hx497_0⟩ := Kd.at_int (Kd.R_reads' HO_5.out).2.2 x15_4 p497 q497
                   obtain rfl : ad457 = ad497 := (by injection e497)
                   replace p497 := eq_true p497
                   replace q497 := eq_true q497
                   have p498 : 0 ≤ (x10_2 : Int) := of_decide_eq_true (by first | (with_reducible assumption) | assumption)
                   have q498 : x10_2 < (t361.length : Int) := of_decide_eq_true (by first | (with_reducible assumption) | assumption)
                   obtain ⟨ad498, e498, hx498_0⟩ := Kd.at_int (Kd.R_reads' HO_5.out).2.2 x10_2 p498 q498
                   obtain rfl : ad457 = ad498 := (by injection e498)
                   replace p498 := eq_true p498
                   replace q498 := eq_true q498
                   have p499 : 0 ≤ (x15_4 : Int) := of_decide_eq_true (by first | (with_reducible assumption) | assumption)
                   have q499 : x15_4 < (l1.length : Int) := of_decide_eq_true (by first | (with_reducible assumption) | assumption)
                   obtain ⟨ad499, e499, hx499_0⟩ := Kd.at_int HR1.out x15_4 p499 q499
                   have hw499_0 := hx499_0
                   obtain rfl : ad458 = ad499 := (by injection e499)
                   replace hx499_0 := cb HB.out hx499_0
                   replace p499 := eq_true p499
                   replace q499 := eq_true q499
                   have p500 : 0 ≤ (x10_2 : Int) := of_decide_eq_true (by first | (with_reducible assumption) | assumption)
                   have q500 : x10_2 < (l1.length : Int) := of_decide_eq_true (by first | (with_reducible assumption) | assumption)
                   obtain ⟨ad500, e500, hx500_0⟩ := Kd.at_int HR1.out x10_2 p500 q500
                   have hw500_0 := hx500_0
                   obtain rfl : ad458 = ad500 := (by injection e500)
                   replace hx500_0 := cb HB.out hx500_0
                   replace p500 := eq_true p500
                   replace q500 := eq_true q500
                   have p507 : 0 ≤ (x15_4 : Int) := of_decide_eq_true (by first | (with_reducible assumption) | assumption)
                   have q507 : x15_4 < (l1.length : Int) := of_decide_eq_true (by first | (with_reducible assumption) | assumption)
                   obtain ⟨ad507, e507, hx507_0⟩ := Kd.at_int HR1.out x15_4 p507 q507
                   have hw507_0 := hx507_0
                   obtain rfl : ad458 = ad507 := (by injection e507)
                   replace hx507_0 := cb HB.out hx507_0
                   replace p507 := eq_true p507
                   replace q507 := eq_true q507
                   have p508 : 0 ≤ (x10_2 : Int) := of_decide_eq_true (by first | (with_reducible assumption) | assumption)
                   have q508 : x10_2 < (l1.length : Int) := of_decide_eq_true (by first | (with_reducible assumption) | assumption)
                   obtain ⟨ad508, e508, hx508_0⟩ := Kd.at_int HR1.out x10_2 p508 q508
                   have hw508_0 := hx508_0
                   obtain rfl : ad458 = ad508 := (by injection e508)
                   replace hx508_0 := cb HB.out hx508_0
                   replace p508 := eq_true p508
                   replace q508 := eq_true q508
                   refine start_ (n := 64) (S := fun w' => w'.cell? (ad458.add (x15_4).toNat) = some (.int .i64 (rd l1 x15_4)) ∧ w'.cell? (ad458.add (x10_2).toNat) = some (.int .i64 (rd l1 x10_2)) ∧ w'.cell? (ad457.add (x15_4).toNat) = some (.int .i64 (rd t361 x15_4)) ∧ w'.cell? (ad457.add (x10_2).toNat) = some (.int .i64 (rd t361 x10_2)) ∧ w'.cell? (ad458.add (x15_4).toNat) = some (.int .i64 (rd l1 x15_4)) ∧ w'.cell? (ad458.add (x10_2).toNat) = some (.int .i64 (rd l1 x10_2)) ∧ w'.cell? (ad458.add (x15_4).toNat) = some (.int .i64 (rd l1 x15_4)) ∧ w'.cell? (ad458.add (x10_2).toNat) = some (.int .i64 (rd l1 x10_2))) (ds := []) (bm 64 0) (by kernel_rfl) rfl rfl ⟨(cb HB.out hw495_0), (cb HB.out hw496_0), hx497_0, hx498_0, (cb HB.out hw499_0), (cb HB.out hw500_0), (cb HB.out hw507_0), (cb HB.out hw508_0)⟩ (fun hHeld => ?_); refine with_tabW dancestudiolaw12_ShareFair.tab26 dancestudiolaw12_ShareFair.bits26 (fun HT_ HW_ => ?_)
                   generalize wr.drew = w48 at HO_5 HB hx495_0 hx496_0 hx497_0 hx498_0 hx499_0 hx500_0 hx507_0 hx508_0 hHeld ⊢
                   refine pure_ (i := 0) (N := some 140) (v := ?_) (a' := ?_) (bm 64 1) rfl rfl (any_of HT_.out (by kernel_rfl)) (fun _ _ _ h => h) (Or.inl ⟨by rfl, ?_⟩) ?_ ?_
                   rotate_left; (intro w'; go_simp; with_reducible rfl); rotate_left; (simp only [Act.put, aS, lZ, lS, i64_w, i32_w]; rfl)
                   refine pure_ (i := 1) (N := some 141) (v := ?_) (a' := ?_) (bm 64 3) rfl rfl (any_of HT_.out (by kernel_rfl)) (fun _ _ _ h => h) (Or.inl ⟨by rfl, ?_⟩) ?_ ?_
                   rotate_left; (intro w'; go_simp; with_reducible rfl); rotate_left; (simp only [Act.put, aS, lZ, lS, i64_w, i32_w]; rfl)
                   refine pure_ (i := 2) (N := some 142) (v := ?_) (a' := ?_) (bm 64 7) rfl rfl (any_of HT_.out (by kernel_rfl)) (fun _ _ _ h => h) (Or.inl ⟨by rfl, ?_⟩) ?_ ?_
                   rotate_left; (intro w'; go_simp; with_reducible rfl); rotate_left; (simp only [Act.put, aS, lZ, lS, i64_w, i32_w]; rfl)
                   refine pure_ (i := 4) (N := some 144) (v := ?_) (a' := ?_) (bm 64 23) rfl rfl (any_of HT_.out (by kernel_rfl)) (fun _ _ _ h => h) (Or.inl ⟨by rfl, ?_⟩) ?_ ?_
                   rotate_left; (intro w'; go_simp; with_reducible rfl); rotate_left; (simp only [Act.put, aS, lZ, lS, i64_w, i32_w]; rfl)
                   refine pure_ (i := 5) (N := some 145) (v := ?_) (a' := ?_) (bm 64 55) rfl rfl (any_of HT_.out (by kernel_rfl)) (fun _ _ _ h => h) (Or.inl ⟨by rfl, ?_⟩) ?_ ?_
                   rotate_left; (intro w'; go_simp; with_reducible rfl); rotate_left; (simp only [Act.put, aS, lZ, lS, i64_w, i32_w]; rfl)
                   refine pure_ (i := 6) (N := some 146) (v := ?_) (a' := ?_) (bm 64 119) rfl rfl (any_of HT_.out (by kernel_rfl)) (fun _ _ _ h => h) (Or.inl ⟨by rfl, ?_⟩) ?_ ?_
                   rotate_left; (intro w'; go_simp; with_reducible rfl); rotate_left; (simp only [Act.put, aS, lZ, lS, i64_w, i32_w]; rfl)
                   refine take_ (i := 3) (N := some 143) (v := ?_) (a' := ?_) (bm 64 127) rfl rfl (take_ofW HT_.out HW_.out (by kernel_rfl)) (fun _ _ _ h => h) (Or.inl ⟨by rfl, ?_⟩) hHeld ?_ ?_
                   rotate_left
                   ·
                    rintro w' ⟨s0, s1, s2, s3, s4, s5, s6, s7⟩
                    go_simp
                    with_reducible rfl
                   rotate_left
                   ·
                    simp only [Act.put, aS, lZ, lS, i64_w, i32_w]
                    rfl
                   refine take_ (i := 7) (N := some 147) (v := ?_) (a' := ?_) (bm 64 255) rfl rfl (take_ofW HT_.out HW_.out (by kernel_rfl)) (fun _ _ _ h => h) (Or.inl ⟨by rfl, ?_⟩) hHeld ?_ ?_
                   rotate_left
                   ·
                    rintro w' ⟨s0, s1, s2, s3, s4, s5, s6, s7⟩
                    go_simp
                    with_reducible rfl
                   rotate_left
                   ·
                    simp only [Act.put, aS, lZ, lS, i64_w, i32_w]
                    rfl
                   refine pure_ (i := 8) (N := some 148) (v := ?_) (a' := ?_) (bm 64 511) rfl rfl (any_of HT_.out (by kernel_rfl)) (fun _ _ _ h => h) (Or.inl ⟨by rfl, ?_⟩) ?_ ?_
                   rotate_left; (intro w'; go_simp; with_reducible rfl); rotate_left; (simp only [Act.put, aS, lZ, lS, i64_w, i32_w]; rfl)
                   refine pure_ (i := 9) (N := some 149) (v := ?_) (a' := ?_) (bm 64 1023) rfl rfl (any_of HT_.out (by kernel_rfl)) (fun _ _ _ h => h) (Or.inl ⟨by rfl, ?_⟩) ?_ ?_
                   rotate_left; (intro w'; go_simp; with_reducible rfl); rotate_left; (simp only [Act.put, aS, lZ, lS, i64_w, i32_w]; rfl)
                   refine pure_ (i := 10) (N := some 150) (v := ?_) (a' := ?_) (bm 64 2047) rfl rfl (any_of HT_.out (by kernel_rfl)) (fun _ _ _ h => h) (Or.inl ⟨by rfl, ?_⟩) ?_ ?_
                   rotate_left; (intro w'; go_simp; with_reducible rfl); rotate_left; (simp only [Act.put, aS, lZ, lS, i64_w, i32_w]; rfl)
                   refine pure_ (i := 11) (N := some 151) (v := ?_) (a' := ?_) (bm 64 4095) rfl rfl (any_of HT_.out (by kernel_rfl)) (fun _ _ _ h => h) (Or.inl ⟨by rfl, ?_⟩) ?_ ?_
                   rotate_left; (intro w'; go_simp; with_reducible rfl); rotate_left; (simp only [Act.put, aS, lZ, lS, i64_w, i32_w]; rfl)
                   refine pure_ (i := 12) (N := some 152) (v := ?_) (a' := ?_) (bm 64 8191) rfl rfl (any_of HT_.out (by kernel_rfl)) (fun _ _ _ h => h) (Or.inl ⟨by rfl, ?_⟩) ?_ ?_
                   rotate_left; (intro w'; go_simp; with_reducible rfl); rotate_left; (simp only [Act.put, aS, lZ, lS, i64_w, i32_w]; rfl)
                   refine pure_ (i := 14) (N := some 154) (v := ?_) (a' := ?_) (bm 64 24575) rfl rfl (any_of HT_.out (by kernel_rfl)) (fun _ _ _ h => h) (Or.inl ⟨by rfl, ?_⟩) ?_ ?_
                   rotate_left; (intro w'; go_simp; with_reducible rfl); rotate_left; (simp only [Act.put, aS, lZ, lS, i64_w, i32_w]; rfl)
                   refine pure_ (i := 15) (N := some 155) (v := ?_) (a' := ?_) (bm 64 57343) rfl rfl (any_of HT_.out (by kernel_rfl)) (fun _ _ _ h => h) (Or.inl ⟨by rfl, ?_⟩) ?_ ?_
                   rotate_left; (intro w'; go_simp; with_reducible rfl); rotate_left; (simp only [Act.put, aS, lZ, lS, i64_w, i32_w]; rfl)
                   refine pure_ (i := 16) (N := some 156) (v := ?_) (a' := ?_) (bm 64 122879) rfl rfl (any_of HT_.out (by kernel_rfl)) (fun _ _ _ h => h) (Or.inl ⟨by rfl, ?_⟩) ?_ ?_
                   rotate_left; (intro w'; go_simp; with_reducible rfl); rotate_left; (simp only [Act.put, aS, lZ, lS, i64_w, i32_w]; rfl)
                   refine take_ (i := 13) (N := some 153) (v := ?_) (a' := ?_) (bm 64 131071) rfl rfl (take_ofW HT_.out HW_.out (by kernel_rfl)) (fun _ _ _ h => h) (Or.inl ⟨by rfl, ?_⟩) hHeld ?_ ?_
                   rotate_left
                   ·
                    rintro w' ⟨s0, s1, s2, s3, s4, s5, s6, s7⟩
                    go_simp
                    with_reducible rfl
                   rotate_left
                   ·
                    simp only [Act.put, aS, lZ, lS, i64_w, i32_w]
                    rfl
                   refine take_ (i := 17) (N := some 157) (v := ?_) (a' := ?_) (bm 64 262143) rfl rfl (take_ofW HT_.out HW_.out (by kernel_rfl)) (fun _ _ _ h => h) (Or.inl ⟨by rfl, ?_⟩) hHeld ?_ ?_
                   rotate_left
                   ·
                    rintro w' ⟨s0, s1, s2, s3, s4, s5, s6, s7⟩
                    go_simp
                    with_reducible rfl
                   rotate_left
                   ·
                    simp only [Act.put, aS, lZ, lS, i64_w, i32_w]
                    rfl
                   refine pure_ (i := 18) (N := some 158) (v := ?_) (a' := ?_) (bm 64 524287) rfl rfl (any_of HT_.out (by kernel_rfl)) (fun _ _ _ h => h) (Or.inl ⟨by rfl, ?_⟩) ?_ ?_
                   rotate_left; (intro w'; go_simp; with_reducible rfl); rotate_left; (simp only [Act.put, aS, lZ, lS, i64_w, i32_w]; rfl)
                   refine pure_ (i := 19) (N := some 159) (v := ?_) (a' := ?_) (bm 64 1048575) rfl rfl (any_of HT_.out (by kernel_rfl)) (fun _ _ _ h => h) (Or.inl ⟨by rfl, ?_⟩) ?_ ?_
                   rotate_left; (intro w'; go_simp; with_reducible rfl); rotate_left; (simp only [Act.put, aS, lZ, lS, i64_w, i32_w]; rfl)
                   refine pure_ (i := 20) (N := some 160) (v := ?_) (a' := ?_) (bm 64 2097151) rfl rfl (any_of HT_.out (by kernel_rfl)) (fun _ _ _ h => h) (Or.inl ⟨by rfl, ?_⟩) ?_ ?_
                   rotate_left; (intro w'; go_simp; with_reducible rfl); rotate_left; (simp only [Act.put, aS, lZ, lS, i64_w, i32_w]; rfl)
                   refine pure_ (i := 21) (N := some 161) (v := ?_) (a' := ?_) (bm 64 4194303) rfl rfl (any_of HT_.out (by kernel_rfl)) (fun _ _ _ h => h) (Or.inl ⟨by rfl, ?_⟩) ?_ ?_
                   rotate_left; (intro w'; go_simp; with_reducible rfl); rotate_left; (simp only [Act.put, aS, lZ, lS, i64_w, i32_w]; rfl)
                   refine pure_ (i := 22) (N := some 162) (v := ?_) (a' := ?_) (bm 64 8388607) rfl rfl (any_of HT_.out (by kernel_rfl)) (fun _ _ _ h => h) (Or.inl ⟨by rfl, ?_⟩) ?_ ?_
                   rotate_left; (intro w'; go_simp; with_reducible rfl); rotate_left; (simp only [Act.put, aS, lZ, lS, i64_w, i32_w]; rfl)
                   refine pure_ (i := 23) (N := some 163) (v := ?_) (a' := ?_) (bm 64 16777215) rfl rfl (any_of HT_.out (by kernel_rfl)) (fun _ _ _ h => h) (Or.inl ⟨by rfl, ?_⟩) ?_ ?_
                   rotate_left; (intro w'; go_simp; with_reducible rfl); rotate_left; (simp only [Act.put, aS, lZ, lS, i64_w, i32_w]; rfl)
                   refine pure_ (i := 25) (N := some 165) (v := ?_) (a' := ?_) (bm 64 50331647) rfl rfl (any_of HT_.out (by kernel_rfl)) (fun _ _ _ h => h) (Or.inl ⟨by rfl, ?_⟩) ?_ ?_
                   rotate_left; (intro w'; go_simp; with_reducible rfl); rotate_left; (simp only [Act.put, aS, lZ, lS, i64_w, i32_w]; rfl)
                   refine pure_ (i := 26) (N := some 166) (v := ?_) (a' := ?_) (bm 64 117440511) rfl rfl (any_of HT_.out (by kernel_rfl)) (fun _ _ _ h => h) (Or.inl ⟨by rfl, ?_⟩) ?_ ?_
                   rotate_left; (intro w'; go_simp; with_reducible rfl); rotate_left; (simp only [Act.put, aS, lZ, lS, i64_w, i32_w]; rfl)
                   refine pure_ (i := 27) (N := some 167) (v := ?_) (a' := ?_) (bm 64 251658239) rfl rfl (any_of HT_.out (by kernel_rfl)) (fun _ _ _ h => h) (Or.inl ⟨by rfl, ?_⟩) ?_ ?_
                   rotate_left; (intro w'; go_simp; with_reducible rfl); rotate_left; (simp only [Act.put, aS, lZ, lS, i64_w, i32_w]; rfl)
                   refine take_ (i := 24) (N := some 164) (v := ?_) (a' := ?_) (bm 64 268435455) rfl rfl (take_ofW HT_.out HW_.out (by kernel_rfl)) (fun _ _ _ h => h) (Or.inl ⟨by rfl, ?_⟩) hHeld ?_ ?_
                   rotate_left
                   ·
                    rintro w' ⟨s0, s1, s2, s3, s4, s5, s6, s7⟩
                    go_simp
                    with_reducible rfl
                   rotate_left
                   ·
                    simp only [Act.put, aS, lZ, lS, i64_w, i32_w]
                    rfl
                   refine take_ (i := 28) (N := some 168) (v := ?_) (a' := ?_) (bm 64 536870911) rfl rfl (take_ofW HT_.out HW_.out (by kernel_rfl)) (fun _ _ _ h => h) (Or.inl ⟨by rfl, ?_⟩) hHeld ?_ ?_
                   rotate_left
                   ·
                    rintro w' ⟨s0, s1, s2, s3, s4, s5, s6, s7⟩
                    go_simp
                    with_reducible rfl
                   rotate_left
                   ·
                    simp only [Act.put, aS, lZ, lS, i64_w, i32_w]
                    rfl
                   refine pure_ (i := 29) (N := some 169) (v := ?_) (a' := ?_) (bm 64 1073741823) rfl rfl (any_of HT_.out (by kernel_rfl)) (fun _ _ _ h => h) (Or.inl ⟨by rfl, ?_⟩) ?_ ?_
                   rotate_left; (intro w'; go_simp; with_reducible rfl); rotate_left; (simp only [Act.put, aS, lZ, lS, i64_w, i32_w]; rfl)
                   refine pure_ (i := 30) (N := some 170) (v := ?_) (a' := ?_) (bm 64 2147483647) rfl rfl (any_of HT_.out (by kernel_rfl)) (fun _ _ _ h => h) (Or.inl ⟨by rfl, ?_⟩) ?_ ?_
                   rotate_left; (intro w'; go_simp; with_reducible rfl); rotate_left; (simp only [Act.put, aS, lZ, lS, i64_w, i32_w]; rfl)
                   refine pure_ (i := 31) (N := some 171) (v := undef) (a' := ?_) (bm 64 4294967295) rfl rfl (any_of HT_.out (by kernel_rfl)) (fun _ _ _ h => h) (Or.inr ⟨by rfl, rfl⟩) ?_ ?_
                   rotate_left
                   ·
                    simp only [Act.put, aS, lZ, lS, i64_w, i32_w]
                    rfl
                   refine pure_ (i := 32) (N := some 172) (v := undef) (a' := ?_) (bm 64 8589934591) rfl rfl (any_of HT_.out (by kernel_rfl)) (fun _ _ _ h => h) (Or.inr ⟨by rfl, rfl⟩) ?_ ?_
                   rotate_left
                   ·
                    simp only [Act.put, aS, lZ, lS, i64_w, i32_w]
                    rfl
                   refine pure_ (i := 33) (N := some 173) (v := undef) (a' := ?_) (bm 64 17179869183) rfl rfl (any_of HT_.out (by kernel_rfl)) (fun _ _ _ h => h) (Or.inr ⟨by rfl, rfl⟩) ?_ ?_
                   rotate_left
                   ·
                    simp only [Act.put, aS, lZ, lS, i64_w, i32_w]
                    rfl
                   refine pure_ (i := 34) (N := some 174) (v := undef) (a' := ?_) (bm 64 34359738367) rfl rfl (any_of HT_.out (by kernel_rfl)) (fun _ _ _ h => h) (Or.inr ⟨by rfl, rfl⟩) ?_ ?_
                   rotate_left
                   ·
                    simp only [Act.put, aS, lZ, lS, i64_w, i32_w]
                    rfl
                   refine pure_ (i := 35) (N := some 175) (v := undef) (a' := ?_) (bm 64 68719476735) rfl rfl (any_of HT_.out (by kernel_rfl)) (fun _ _ _ h => h) (Or.inr ⟨by rfl, rfl⟩) ?_ ?_
                   rotate_left
                   ·
                    simp only [Act.put, aS, lZ, lS, i64_w, i32_w]
                    rfl
                   refine pure_ (i := 36) (N := some 176) (v := undef) (a' := ?_) (bm 64 137438953471) rfl rfl (any_of HT_.out (by kernel_rfl)) (fun _ _ _ h => h) (Or.inr ⟨by rfl, rfl⟩) ?_ ?_
                   rotate_left
                   ·
                    simp only [Act.put, aS, lZ, lS, i64_w, i32_w]
                    rfl
                   refine pure_ (i := 37) (N := some 177) (v := undef) (a' := ?_) (bm 64 274877906943) rfl rfl (any_of HT_.out (by kernel_rfl)) (fun _ _ _ h => h) (Or.inr ⟨by rfl, rfl⟩) ?_ ?_
                   rotate_left
                   ·
                    simp only [Act.put, aS, lZ, lS, i64_w, i32_w]
                    rfl
                   refine pure_ (i := 38) (N := some 178) (v := undef) (a' := ?_) (bm 64 549755813887) rfl rfl (any_of HT_.out (by kernel_rfl)) (fun _ _ _ h => h) (Or.inr ⟨by rfl, rfl⟩) ?_ ?_
                   rotate_left
                   ·
                    simp only [Act.put, aS, lZ, lS, i64_w, i32_w]
                    rfl
                   refine pure_ (i := 39) (N := some 179) (v := undef) (a' := ?_) (bm 64 1099511627775) rfl rfl (any_of HT_.out (by kernel_rfl)) (fun _ _ _ h => h) (Or.inr ⟨by rfl, rfl⟩) ?_ ?_
                   rotate_left
                   ·
                    simp only [Act.put, aS, lZ, lS, i64_w, i32_w]
                    rfl
                   refine pure_ (i := 40) (N := some 180) (v := ?_) (a' := ?_) (bm 64 2199023255551) rfl rfl (any_of HT_.out (by kernel_rfl)) (fun _ _ _ h => h) (Or.inl ⟨by rfl, ?_⟩) ?_ ?_
                   rotate_left; (intro w'; go_simp; with_reducible rfl); rotate_left; (simp only [Act.put, aS, lZ, lS, i64_w, i32_w]; rfl)
                   refine pure_ (i := 41) (N := some 181) (v := ?_) (a' := ?_) (bm 64 4398046511103) rfl rfl (any_of HT_.out (by kernel_rfl)) (fun _ _ _ h => h) (Or.inl ⟨by rfl, ?_⟩) ?_ ?_
                   rotate_left; (intro w'; go_simp; with_reducible rfl); rotate_left; (simp only [Act.put, aS, lZ, lS, i64_w, i32_w]; rfl)
                   refine pure_ (i := 42) (N := some 182) (v := ?_) (a' := ?_) (bm 64 8796093022207) rfl rfl (any_of HT_.out (by kernel_rfl)) (fun _ _ _ h => h) (Or.inl ⟨by rfl, ?_⟩) ?_ ?_
                   rotate_left; (intro w'; go_simp; with_reducible rfl); rotate_left; (simp only [Act.put, aS, lZ, lS, i64_w, i32_w]; rfl)
                   refine pure_ (i := 43) (N := some 183) (v := ?_) (a' := ?_) (bm 64 17592186044415) rfl rfl (any_of HT_.out (by kernel_rfl)) (fun _ _ _ h => h) (Or.inl ⟨by rfl, ?_⟩) ?_ ?_
                   rotate_left; (intro w'; go_simp; with_reducible rfl); rotate_left; (simp only [Act.put, aS, lZ, lS, i64_w, i32_w]; rfl)
                   refine pure_ (i := 44) (N := some 184) (v := ?_) (a' := ?_) (bm 64 35184372088831) rfl rfl (any_of HT_.out (by kernel_rfl)) (fun _ _ _ h => h) (Or.inl ⟨by rfl, ?_⟩) ?_ ?_
                   rotate_left; (intro w'; go_simp; with_reducible rfl); rotate_left; (simp only [Act.put, aS, lZ, lS, i64_w, i32_w]; rfl)
                   refine pure_ (i := 45) (N := some 185) (v := ?_) (a' := ?_) (bm 64 70368744177663) rfl rfl (any_of HT_.out (by kernel_rfl)) (fun _ _ _ h => h) (Or.inl ⟨by rfl, ?_⟩) ?_ ?_
                   rotate_left; (intro w'; go_simp; with_reducible rfl); rotate_left; (simp only [Act.put, aS, lZ, lS, i64_w, i32_w]; rfl)
                   refine pure_ (i := 47) (N := some 187) (v := ?_) (a' := ?_) (bm 64 211106232532991) rfl rfl (any_of HT_.out (by kernel_rfl)) (fun _ _ _ h => h) (Or.inl ⟨by rfl, ?_⟩) ?_ ?_
                   rotate_left; (intro w'; go_simp; with_reducible rfl); rotate_left; (simp only [Act.put, aS, lZ, lS, i64_w, i32_w]; rfl)
                   refine pure_ (i := 48) (N := some 188) (v := ?_) (a' := ?_) (bm 64 492581209243647) rfl rfl (any_of HT_.out (by kernel_rfl)) (fun _ _ _ h => h) (Or.inl ⟨by rfl, ?_⟩) ?_ ?_
                   rotate_left; (intro w'; go_simp; with_reducible rfl); rotate_left; (simp only [Act.put, aS, lZ, lS, i64_w, i32_w]; rfl)
                   refine pure_ (i := 49) (N := some 189) (v := ?_) (a' := ?_) (bm 64 1055531162664959) rfl rfl (any_of HT_.out (by kernel_rfl)) (fun _ _ _ h => h) (Or.inl ⟨by rfl, ?_⟩) ?_ ?_
                   rotate_left; (intro w'; go_simp; with_reducible rfl); rotate_left; (simp only [Act.put, aS, lZ, lS, i64_w, i32_w]; rfl)
                   refine take_ (i := 46) (N := some 186) (v := ?_) (a' := ?_) (bm 64 1125899906842623) rfl rfl (take_ofW HT_.out HW_.out (by kernel_rfl)) (fun _ _ _ h => h) (Or.inl ⟨by rfl, ?_⟩) hHeld ?_ ?_
                   rotate_left
                   ·
                    rintro w' ⟨s0, s1, s2, s3, s4, s5, s6, s7⟩
                    go_simp
                    with_reducible rfl
                   rotate_left
                   ·
                    simp only [Act.put, aS, lZ, lS, i64_w, i32_w]
                    rfl
                   refine take_ (i := 50) (N := some 190) (v := ?_) (a' := ?_) (bm 64 2251799813685247) rfl rfl (take_ofW HT_.out HW_.out (by kernel_rfl)) (fun _ _ _ h => h) (Or.inl ⟨by rfl, ?_⟩) hHeld ?_ ?_
                   rotate_left
                   ·
                    rintro w' ⟨s0, s1, s2, s3, s4, s5, s6, s7⟩
                    go_simp
                    with_reducible rfl
                   rotate_left
                   ·
                    simp only [Act.put, aS, lZ, lS, i64_w, i32_w]
                    rfl
                   refine pure_ (i := 51) (N := some 191) (v := ?_) (a' := ?_) (bm 64 4503599627370495) rfl rfl (any_of HT_.out (by kernel_rfl)) (fun _ _ _ h => h) (Or.inl ⟨by rfl, ?_⟩) ?_ ?_
                   rotate_left; (intro w'; go_simp; with_reducible rfl); rotate_left; (simp only [Act.put, aS, lZ, lS, i64_w, i32_w]; rfl)
                   refine pure_ (i := 52) (N := some 192) (v := ?_) (a' := ?_) (bm 64 9007199254740991) rfl rfl (any_of HT_.out (by kernel_rfl)) (fun _ _ _ h => h) (Or.inl ⟨by rfl, ?_⟩) ?_ ?_
                   rotate_left; (intro w'; go_simp; with_reducible rfl); rotate_left; (simp only [Act.put, aS, lZ, lS, i64_w, i32_w]; rfl)
                   refine pure_ (i := 53) (N := some 193) (v := undef) (a' := ?_) (bm 64 18014398509481983) rfl rfl (any_of HT_.out (by kernel_rfl)) (fun _ _ _ h => h) (Or.inr ⟨by rfl, rfl⟩) ?_ ?_
                   rotate_left
                   ·
                    simp only [Act.put, aS, lZ, lS, i64_w, i32_w]
                    rfl
                   refine pure_ (i := 54) (N := some 194) (v := undef) (a' := ?_) (bm 64 36028797018963967) rfl rfl (any_of HT_.out (by kernel_rfl)) (fun _ _ _ h => h) (Or.inr ⟨by rfl, rfl⟩) ?_ ?_
                   rotate_left
                   ·
                    simp only [Act.put, aS, lZ, lS, i64_w, i32_w]
                    rfl
                   refine pure_ (i := 55) (N := some 195) (v := undef) (a' := ?_) (bm 64 72057594037927935) rfl rfl (any_of HT_.out (by kernel_rfl)) (fun _ _ _ h => h) (Or.inr ⟨by rfl, rfl⟩) ?_ ?_
                   rotate_left
                   ·
                    simp only [Act.put, aS, lZ, lS, i64_w, i32_w]
                    rfl
                   refine pure_ (i := 56) (N := some 196) (v := undef) (a' := ?_) (bm 64 144115188075855871) rfl rfl (any_of HT_.out (by kernel_rfl)) (fun _ _ _ h => h) (Or.inr ⟨by rfl, rfl⟩) ?_ ?_
                   rotate_left
                   ·
                    simp only [Act.put, aS, lZ, lS, i64_w, i32_w]
                    rfl
                   refine pure_ (i := 57) (N := some 197) (v := undef) (a' := ?_) (bm 64 288230376151711743) rfl rfl (any_of HT_.out (by kernel_rfl)) (fun _ _ _ h => h) (Or.inr ⟨by rfl, rfl⟩) ?_ ?_
                   rotate_left
                   ·
                    simp only [Act.put, aS, lZ, lS, i64_w, i32_w]
                    rfl
                   refine pure_ (i := 58) (N := some 198) (v := undef) (a' := ?_) (bm 64 576460752303423487) rfl rfl (any_of HT_.out (by kernel_rfl)) (fun _ _ _ h => h) (Or.inr ⟨by rfl, rfl⟩) ?_ ?_
                   rotate_left
                   ·
                    simp only [Act.put, aS, lZ, lS, i64_w, i32_w]
                    rfl
                   refine pure_ (i := 59) (N := some 199) (v := undef) (a' := ?_) (bm 64 1152921504606846975) rfl rfl (any_of HT_.out (by kernel_rfl)) (fun _ _ _ h => h) (Or.inr ⟨by rfl, rfl⟩) ?_ ?_
                   rotate_left
                   ·
                    simp only [Act.put, aS, lZ, lS, i64_w, i32_w]
                    rfl
                   refine pure_ (i := 60) (N := some 200) (v := undef) (a' := ?_) (bm 64 2305843009213693951) rfl rfl (any_of HT_.out (by kernel_rfl)) (fun _ _ _ h => h) (Or.inr ⟨by rfl, rfl⟩) ?_ ?_
                   rotate_left
                   ·
                    simp only [Act.put, aS, lZ, lS, i64_w, i32_w]
                    rfl
                   refine pure_ (i := 61) (N := some 201) (v := undef) (a' := ?_) (bm 64 4611686018427387903) rfl rfl (any_of HT_.out (by kernel_rfl)) (fun _ _ _ h => h) (Or.inr ⟨by rfl, rfl⟩) ?_ ?_
                   rotate_left
                   ·
                    simp only [Act.put, aS, lZ, lS, i64_w, i32_w]
                    rfl
                   refine pure_ (i := 62) (N := some 202) (v := ?_) (a' := ?_) (bm 64 9223372036854775807) rfl rfl (any_of HT_.out (by kernel_rfl)) (fun _ _ _ h => h) (Or.inl ⟨by rfl, ?_⟩) ?_ ?_
                   rotate_left; (intro w'; go_simp; with_reducible rfl); rotate_left; (simp only [Act.put, aS, lZ, lS, i64_w, i32_w]; rfl)
                   refine pure_ (i := 63) (N := some 203) (v := ?_) (a' := ?_) (bm 64 18446744073709551615) rfl rfl (any_of HT_.out (by kernel_rfl)) (fun _ _ _ h => h) (Or.inl ⟨by rfl, ?_⟩) ?_ ?_
                   rotate_left; (intro w'; go_simp; with_reducible rfl); rotate_left; (simp only [Act.put, aS, lZ, lS, i64_w, i32_w]; rfl)
                   refine done_ (done_of HT_.out (by kernel_rfl)) ?_
                   try go_wp2
                   go_roundg k4
                   case measure => have := HK1.out; have := HK2.out; have := HJ20.out; have := HK4.out; omega
                   case rel => exact ⟨(wrap64 (x15_4 + 1)), (by first | rfl | (simp; done) | (simp [*]; done)), H', ⟨by have := HK1.out; have := HK2.out; have := HJ20.out; have := HK4.out; omega⟩, ⟨by (with_reducible repeat first | apply rA | apply rN | apply rD); exact HO_5.out⟩, ⟨by repeat with_reducible first | exact HB.out | apply bA | apply bN | apply bD⟩⟩
               ·
                rw [if_neg c37] at H
                have c37b0 := decide_eq_false c37
                clear c37
                by_cases c49 : (rd l1 x15_4) < (rd l1 x10_2)
                ·
                 rw [if_pos c49] at H
                 have c49b0 := decide_eq_true c49
                 clear c49
                 by_cases c50 : x15_4 < (t361.length : Int); rotate_left
                 · rw [if_neg c50] at H; exact absurd H (by simp)
                 rw [if_pos c50] at H
                 have c50b0 := decide_eq_true c50
                 clear c50
                 by_cases c51 : x10_2 < (t361.length : Int); rotate_left
                 · rw [if_neg c51] at H; exact absurd H (by simp)
                 rw [if_pos c51] at H
                 have c51b0 := decide_eq_true c51
                 clear c51
                 by_cases c52 : (rd t361 x15_4) > (rd t361 x10_2)
                 ·
                  rw [if_pos c52] at H
                  have c52b0 := decide_eq_true c52
                  clear c52
                  exact absurd H (by simp)
                 ·
                  rw [if_neg c52] at H
                  have c52b0 := decide_eq_false c52
                  clear c52
                  by_cases c53 : (rd l1 x15_4) = (rd l1 x10_2)
                  ·
                   exact absurd (of_decide_eq_true c49b0) (by rw [c53]; exact Int.lt_irrefl _)
                  ·
                   rw [if_neg c53] at H
                   have c53b0 : ((rd l1 x15_4) == (rd l1 x10_2)) = false := beq_eq_false_iff_ne.mpr c53
                   have c53b1 : ((rd l1 x15_4) != (rd l1 x10_2)) = true := bne_iff_ne.mpr c53
                   have H' := Aside0.mk H
                   clear H
                   try go_wp2
                   have n0_ := Aside0.mk (Kd.R_drew HO_5.out)
                   have n1_ := Aside0.mk (below_drew1 HB.out)
                   clear HO_5
                   clear HB
                   have HO_5 := n0_
                   have HB := n1_
                   clear n0_ n1_
                   have p495 : 0 ≤ (x15_4 : Int) := of_decide_eq_true (by first | (with_reducible assumption) | assumption)
                   have q495 : x15_4 < (l1.length : Int) := of_decide_eq_true (by first | (with_reducible assumption) | assumption)
                   obtain ⟨ad495, e495, hx495_0⟩ := Kd.at_int HR1.out x15_4 p495 q495
                   have hw495_0 := hx495_0
                   obtain rfl : ad458 = ad495 := (by injection e495)
                   replace hx495_0 := cb HB.out hx495_0
                   replace p495 := eq_true p495
                   replace q495 := eq_true q495
                   have p496 : 0 ≤ (x10_2 : Int) := of_decide_eq_true (by first | (with_reducible assumption) | assumption)
                   have q496 : x10_2 < (l1.length : Int) := of_decide_eq_true (by first | (with_reducible assumption) | assumption)
                   obtain ⟨ad496, e496, hx496_0⟩ := Kd.at_int HR1.out x10_2 p496 q496
                   have hw496_0 := hx496_0
                   obtain rfl : ad458 = ad496 := (by injection e496)
                   replace hx496_0 := cb HB.out hx496_0
                   replace p496 := eq_true p496
                   replace q496 := eq_true q496
                   have p511 : 0 ≤ (x15_4 : Int) := of_decide_eq_true (by first | (with_reducible assumption) | assumption)
                   have q511 : x15_4 < (l1.length : Int) := of_decide_eq_true (by first | (with_reducible assumption) | assumption)
                   obtain ⟨ad511, e511, hx511_0⟩ := Kd.at_int HR1.out x15_4 p511 q511
                   have hw511_0 := hx511_0
                   obtain rfl : ad458 = ad511 := (by injection e511)
                   replace hx511_0 := cb HB.out hx511_0
                   replace p511 := eq_true p511
                   replace q511 := eq_true q511
                   have p512 : 0 ≤ (x10_2 : Int) := of_decide_eq_true (by first | (with_reducible assumption) | assumption)
                   have q512 : x10_2 < (l1.length : Int) := of_decide_eq_true (by first | (with_reducible assumption) | assumption)
                   obtain ⟨ad512, e512, hx512_0⟩ := Kd.at_int HR1.out x10_2 p512 q512
                   have hw512_0 := hx512_0
                   obtain rfl : ad458 = ad512 := (by injection e512)
                   replace hx512_0 := cb HB.out hx512_0
                   replace p512 := eq_true p512
                   replace q512 := eq_true q512
                   have p513 : 0 ≤ (x15_4 : Int) := of_decide_eq_true (by first | (with_reducible assumption) | assumption)
                   have q513 : x15_4 < (t361.length : Int) := of_decide_eq_true (by first | (with_reducible assumption) | assumption)
                   obtain ⟨ad513, e513, hx513_0⟩ := Kd.at_int (Kd.R_reads' HO_5.out).2.2 x15_4 p513 q513
                   obtain rfl : ad457 = ad513 := (by injection e513)
                   replace p513 := eq_true p513
                   replace q513 := eq_true q513
                   have p514 : 0 ≤ (x10_2 : Int) := of_decide_eq_true (by first | (with_reducible assumption) | assumption)
                   have q514 : x10_2 < (t361.length : Int) := of_decide_eq_true (by first | (with_reducible assumption) | assumption)
                   obtain ⟨ad514, e514, hx514_0⟩ := Kd.at_int (Kd.R_reads' HO_5.out).2.2 x10_2 p514 q514
                   obtain rfl : ad457 = ad514 := (by injection e514)
                   replace p514 := eq_true p514
                   replace q514 := eq_true q514
                   have p515 : 0 ≤ (x15_4 : Int) := of_decide_eq_true (by first | (with_reducible assumption) | assumption)
                   have q515 : x15_4 < (l1.length : Int) := of_decide_eq_true (by first | (with_reducible assumption) | assumption)
                   obtain ⟨ad515, e515, hx515_0⟩ := Kd.at_int HR1.out x15_4 p515 q515
                   have hw515_0 := hx515_0
                   obtain rfl : ad458 = ad515 := (by injection e515)
                   replace hx515_0 := cb HB.out hx515_0
                   replace p515 := eq_true p515
                   replace q515 := eq_true q515
                   have p516 : 0 ≤ (x10_2 : Int) := of_decide_eq_true (by first | (with_reducible assumption) | assumption)
                   have q516 : x10_2 < (l1.length : Int) := of_decide_eq_true (by first | (with_reducible assumption) | assumption)
                   obtain ⟨ad516, e516, hx516_0⟩ := Kd.at_int HR1.out x10_2 p516 q516
                   have hw516_0 := hx516_0
                   obtain rfl : ad458 = ad516 := (by injection e516)
                   replace hx516_0 := cb HB.out hx516_0
                   replace p516 := eq_true p516
                   replace q516 := eq_true q516
                   refine start_ (n := 64) (S := fun w' => w'.cell? (ad458.add (x15_4).toNat) = some (.int .i64 (rd l1 x15_4)) ∧ w'.cell? (ad458.add (x10_2).toNat) = some (.int .i64 (rd l1 x10_2)) ∧ w'.cell? (ad458.add (x15_4).toNat) = some (.int .i64 (rd l1 x15_4)) ∧ w'.cell? (ad458.add (x10_2).toNat) = some (.int .i64 (rd l1 x10_2)) ∧ w'.cell? (ad457.add (x15_4).toNat) = some (.int .i64 (rd t361 x15_4)) ∧ w'.cell? (ad457.add (x10_2).toNat) = some (.int .i64 (rd t361 x10_2)) ∧ w'.cell? (ad458.add (x15_4).toNat) = some (.int .i64 (rd l1 x15_4)) ∧ w'.cell? (ad458.add (x10_2).toNat) = some (.int .i64 (rd l1 x10_2))) (ds := []) (bm 64 0) (by kernel_rfl) rfl rfl ⟨(cb HB.out hw495_0), (cb HB.out hw496_0), (cb HB.out hw511_0), (cb HB.out hw512_0), hx513_0, hx514_0, (cb HB.out hw515_0), (cb HB.out hw516_0)⟩ (fun hHeld => ?_); refine with_tabW dancestudiolaw12_ShareFair.tab26 dancestudiolaw12_ShareFair.bits26 (fun HT_ HW_ => ?_)
                   generalize wr.drew = w56 at HO_5 HB hx495_0 hx496_0 hx511_0 hx512_0 hx513_0 hx514_0 hx515_0 hx516_0 hHeld ⊢
                   refine pure_ (i := 0) (N := some 140) (v := ?_) (a' := ?_) (bm 64 1) rfl rfl (any_of HT_.out (by kernel_rfl)) (fun _ _ _ h => h) (Or.inl ⟨by rfl, ?_⟩) ?_ ?_
                   rotate_left; (intro w'; go_simp; with_reducible rfl); rotate_left; (simp only [Act.put, aS, lZ, lS, i64_w, i32_w]; rfl)
                   refine pure_ (i := 1) (N := some 141) (v := ?_) (a' := ?_) (bm 64 3) rfl rfl (any_of HT_.out (by kernel_rfl)) (fun _ _ _ h => h) (Or.inl ⟨by rfl, ?_⟩) ?_ ?_
                   rotate_left; (intro w'; go_simp; with_reducible rfl); rotate_left; (simp only [Act.put, aS, lZ, lS, i64_w, i32_w]; rfl)
                   refine pure_ (i := 2) (N := some 142) (v := ?_) (a' := ?_) (bm 64 7) rfl rfl (any_of HT_.out (by kernel_rfl)) (fun _ _ _ h => h) (Or.inl ⟨by rfl, ?_⟩) ?_ ?_
                   rotate_left; (intro w'; go_simp; with_reducible rfl); rotate_left; (simp only [Act.put, aS, lZ, lS, i64_w, i32_w]; rfl)
                   refine pure_ (i := 4) (N := some 144) (v := ?_) (a' := ?_) (bm 64 23) rfl rfl (any_of HT_.out (by kernel_rfl)) (fun _ _ _ h => h) (Or.inl ⟨by rfl, ?_⟩) ?_ ?_
                   rotate_left; (intro w'; go_simp; with_reducible rfl); rotate_left; (simp only [Act.put, aS, lZ, lS, i64_w, i32_w]; rfl)
                   refine pure_ (i := 5) (N := some 145) (v := ?_) (a' := ?_) (bm 64 55) rfl rfl (any_of HT_.out (by kernel_rfl)) (fun _ _ _ h => h) (Or.inl ⟨by rfl, ?_⟩) ?_ ?_
                   rotate_left; (intro w'; go_simp; with_reducible rfl); rotate_left; (simp only [Act.put, aS, lZ, lS, i64_w, i32_w]; rfl)
                   refine pure_ (i := 6) (N := some 146) (v := ?_) (a' := ?_) (bm 64 119) rfl rfl (any_of HT_.out (by kernel_rfl)) (fun _ _ _ h => h) (Or.inl ⟨by rfl, ?_⟩) ?_ ?_
                   rotate_left; (intro w'; go_simp; with_reducible rfl); rotate_left; (simp only [Act.put, aS, lZ, lS, i64_w, i32_w]; rfl)
                   refine take_ (i := 3) (N := some 143) (v := ?_) (a' := ?_) (bm 64 127) rfl rfl (take_ofW HT_.out HW_.out (by kernel_rfl)) (fun _ _ _ h => h) (Or.inl ⟨by rfl, ?_⟩) hHeld ?_ ?_
                   rotate_left
                   ·
                    rintro w' ⟨s0, s1, s2, s3, s4, s5, s6, s7⟩
                    go_simp
                    with_reducible rfl
                   rotate_left
                   ·
                    simp only [Act.put, aS, lZ, lS, i64_w, i32_w]
                    rfl
                   refine take_ (i := 7) (N := some 147) (v := ?_) (a' := ?_) (bm 64 255) rfl rfl (take_ofW HT_.out HW_.out (by kernel_rfl)) (fun _ _ _ h => h) (Or.inl ⟨by rfl, ?_⟩) hHeld ?_ ?_
                   rotate_left
                   ·
                    rintro w' ⟨s0, s1, s2, s3, s4, s5, s6, s7⟩
                    go_simp
                    with_reducible rfl
                   rotate_left
                   ·
                    simp only [Act.put, aS, lZ, lS, i64_w, i32_w]
                    rfl
                   refine pure_ (i := 8) (N := some 148) (v := ?_) (a' := ?_) (bm 64 511) rfl rfl (any_of HT_.out (by kernel_rfl)) (fun _ _ _ h => h) (Or.inl ⟨by rfl, ?_⟩) ?_ ?_
                   rotate_left; (intro w'; go_simp; with_reducible rfl); rotate_left; (simp only [Act.put, aS, lZ, lS, i64_w, i32_w]; rfl)
                   refine pure_ (i := 9) (N := some 149) (v := ?_) (a' := ?_) (bm 64 1023) rfl rfl (any_of HT_.out (by kernel_rfl)) (fun _ _ _ h => h) (Or.inl ⟨by rfl, ?_⟩) ?_ ?_
                   rotate_left; (intro w'; go_simp; with_reducible rfl); rotate_left; (simp only [Act.put, aS, lZ, lS, i64_w, i32_w]; rfl)
                   refine pure_ (i := 10) (N := some 150) (v := undef) (a' := ?_) (bm 64 2047) rfl rfl (any_of HT_.out (by kernel_rfl)) (fun _ _ _ h => h) (Or.inr ⟨by rfl, rfl⟩) ?_ ?_
                   rotate_left
                   ·
                    simp only [Act.put, aS, lZ, lS, i64_w, i32_w]
                    rfl
                   refine pure_ (i := 11) (N := some 151) (v := undef) (a' := ?_) (bm 64 4095) rfl rfl (any_of HT_.out (by kernel_rfl)) (fun _ _ _ h => h) (Or.inr ⟨by rfl, rfl⟩) ?_ ?_
                   rotate_left
                   ·
                    simp only [Act.put, aS, lZ, lS, i64_w, i32_w]
                    rfl
                   refine pure_ (i := 12) (N := some 152) (v := undef) (a' := ?_) (bm 64 8191) rfl rfl (any_of HT_.out (by kernel_rfl)) (fun _ _ _ h => h) (Or.inr ⟨by rfl, rfl⟩) ?_ ?_
                   rotate_left
                   ·
                    simp only [Act.put, aS, lZ, lS, i64_w, i32_w]
                    rfl
                   refine pure_ (i := 13) (N := some 153) (v := undef) (a' := ?_) (bm 64 16383) rfl rfl (any_of HT_.out (by kernel_rfl)) (fun _ _ _ h => h) (Or.inr ⟨by rfl, rfl⟩) ?_ ?_
                   rotate_left
                   ·
                    simp only [Act.put, aS, lZ, lS, i64_w, i32_w]
                    rfl
                   refine pure_ (i := 14) (N := some 154) (v := undef) (a' := ?_) (bm 64 32767) rfl rfl (any_of HT_.out (by kernel_rfl)) (fun _ _ _ h => h) (Or.inr ⟨by rfl, rfl⟩) ?_ ?_
                   rotate_left
                   ·
                    simp only [Act.put, aS, lZ, lS, i64_w, i32_w]
                    rfl
                   refine pure_ (i := 15) (N := some 155) (v := undef) (a' := ?_) (bm 64 65535) rfl rfl (any_of HT_.out (by kernel_rfl)) (fun _ _ _ h => h) (Or.inr ⟨by rfl, rfl⟩) ?_ ?_
                   rotate_left
                   ·
                    simp only [Act.put, aS, lZ, lS, i64_w, i32_w]
                    rfl
                   refine pure_ (i := 16) (N := some 156) (v := undef) (a' := ?_) (bm 64 131071) rfl rfl (any_of HT_.out (by kernel_rfl)) (fun _ _ _ h => h) (Or.inr ⟨by rfl, rfl⟩) ?_ ?_
                   rotate_left
                   ·
                    simp only [Act.put, aS, lZ, lS, i64_w, i32_w]
                    rfl
                   refine pure_ (i := 17) (N := some 157) (v := undef) (a' := ?_) (bm 64 262143) rfl rfl (any_of HT_.out (by kernel_rfl)) (fun _ _ _ h => h) (Or.inr ⟨by rfl, rfl⟩) ?_ ?_
                   rotate_left
                   ·
                    simp only [Act.put, aS, lZ, lS, i64_w, i32_w]
                    rfl
                   refine pure_ (i := 18) (N := some 158) (v := undef) (a' := ?_) (bm 64 524287) rfl rfl (any_of HT_.out (by kernel_rfl)) (fun _ _ _ h => h) (Or.inr ⟨by rfl, rfl⟩) ?_ ?_
                   rotate_left
                   ·
                    simp only [Act.put, aS, lZ, lS, i64_w, i32_w]
                    rfl
                   refine pure_ (i := 19) (N := some 159) (v := ?_) (a' := ?_) (bm 64 1048575) rfl rfl (any_of HT_.out (by kernel_rfl)) (fun _ _ _ h => h) (Or.inl ⟨by rfl, ?_⟩) ?_ ?_
                   rotate_left; (intro w'; go_simp; with_reducible rfl); rotate_left; (simp only [Act.put, aS, lZ, lS, i64_w, i32_w]; rfl)
                   refine pure_ (i := 20) (N := some 160) (v := ?_) (a' := ?_) (bm 64 2097151) rfl rfl (any_of HT_.out (by kernel_rfl)) (fun _ _ _ h => h) (Or.inl ⟨by rfl, ?_⟩) ?_ ?_
                   rotate_left; (intro w'; go_simp; with_reducible rfl); rotate_left; (simp only [Act.put, aS, lZ, lS, i64_w, i32_w]; rfl)
                   refine pure_ (i := 21) (N := some 161) (v := ?_) (a' := ?_) (bm 64 4194303) rfl rfl (any_of HT_.out (by kernel_rfl)) (fun _ _ _ h => h) (Or.inl ⟨by rfl, ?_⟩) ?_ ?_
                   rotate_left; (intro w'; go_simp; with_reducible rfl); rotate_left; (simp only [Act.put, aS, lZ, lS, i64_w, i32_w]; rfl)
                   refine pure_ (i := 22) (N := some 162) (v := ?_) (a' := ?_) (bm 64 8388607) rfl rfl (any_of HT_.out (by kernel_rfl)) (fun _ _ _ h => h) (Or.inl ⟨by rfl, ?_⟩) ?_ ?_
                   rotate_left; (intro w'; go_simp; with_reducible rfl); rotate_left; (simp only [Act.put, aS, lZ, lS, i64_w, i32_w]; rfl)
                   refine pure_ (i := 23) (N := some 163) (v := ?_) (a' := ?_) (bm 64 16777215) rfl rfl (any_of HT_.out (by kernel_rfl)) (fun _ _ _ h => h) (Or.inl ⟨by rfl, ?_⟩) ?_ ?_
                   rotate_left; (intro w'; go_simp; with_reducible rfl); rotate_left; (simp only [Act.put, aS, lZ, lS, i64_w, i32_w]; rfl)
                   refine pure_ (i := 25) (N := some 165) (v := ?_) (a' := ?_) (bm 64 50331647) rfl rfl (any_of HT_.out (by kernel_rfl)) (fun _ _ _ h => h) (Or.inl ⟨by rfl, ?_⟩) ?_ ?_
                   rotate_left; (intro w'; go_simp; with_reducible rfl); rotate_left; (simp only [Act.put, aS, lZ, lS, i64_w, i32_w]; rfl)
                   refine pure_ (i := 26) (N := some 166) (v := ?_) (a' := ?_) (bm 64 117440511) rfl rfl (any_of HT_.out (by kernel_rfl)) (fun _ _ _ h => h) (Or.inl ⟨by rfl, ?_⟩) ?_ ?_
                   rotate_left; (intro w'; go_simp; with_reducible rfl); rotate_left; (simp only [Act.put, aS, lZ, lS, i64_w, i32_w]; rfl)
                   refine pure_ (i := 27) (N := some 167) (v := ?_) (a' := ?_) (bm 64 251658239) rfl rfl (any_of HT_.out (by kernel_rfl)) (fun _ _ _ h => h) (Or.inl ⟨by rfl, ?_⟩) ?_ ?_
                   rotate_left; (intro w'; go_simp; with_reducible rfl); rotate_left; (simp only [Act.put, aS, lZ, lS, i64_w, i32_w]; rfl)
                   refine take_ (i := 24) (N := some 164) (v := ?_) (a' := ?_) (bm 64 268435455) rfl rfl (take_ofW HT_.out HW_.out (by kernel_rfl)) (fun _ _ _ h => h) (Or.inl ⟨by rfl, ?_⟩) hHeld ?_ ?_
                   rotate_left
                   ·
                    rintro w' ⟨s0, s1, s2, s3, s4, s5, s6, s7⟩
                    go_simp
                    with_reducible rfl
                   rotate_left
                   ·
                    simp only [Act.put, aS, lZ, lS, i64_w, i32_w]
                    rfl
                   refine take_ (i := 28) (N := some 168) (v := ?_) (a' := ?_) (bm 64 536870911) rfl rfl (take_ofW HT_.out HW_.out (by kernel_rfl)) (fun _ _ _ h => h) (Or.inl ⟨by rfl, ?_⟩) hHeld ?_ ?_
                   rotate_left
                   ·
                    rintro w' ⟨s0, s1, s2, s3, s4, s5, s6, s7⟩
                    go_simp
                    with_reducible rfl
                   rotate_left
                   ·
                    simp only [Act.put, aS, lZ, lS, i64_w, i32_w]
                    rfl
                   refine pure_ (i := 29) (N := some 169) (v := ?_) (a' := ?_) (bm 64 1073741823) rfl rfl (any_of HT_.out (by kernel_rfl)) (fun _ _ _ h => h) (Or.inl ⟨by rfl, ?_⟩) ?_ ?_
                   rotate_left; (intro w'; go_simp; with_reducible rfl); rotate_left; (simp only [Act.put, aS, lZ, lS, i64_w, i32_w]; rfl)
                   refine pure_ (i := 30) (N := some 170) (v := ?_) (a' := ?_) (bm 64 2147483647) rfl rfl (any_of HT_.out (by kernel_rfl)) (fun _ _ _ h => h) (Or.inl ⟨by rfl, ?_⟩) ?_ ?_
                   rotate_left; (intro w'; go_simp; with_reducible rfl); rotate_left; (simp only [Act.put, aS, lZ, lS, i64_w, i32_w]; rfl)
                   refine pure_ (i := 31) (N := some 171) (v := ?_) (a' := ?_) (bm 64 4294967295) rfl rfl (any_of HT_.out (by kernel_rfl)) (fun _ _ _ h => h) (Or.inl ⟨by rfl, ?_⟩) ?_ ?_
                   rotate_left; (intro w'; go_simp; with_reducible rfl); rotate_left; (simp only [Act.put, aS, lZ, lS, i64_w, i32_w]; rfl)
                   refine pure_ (i := 32) (N := some 172) (v := ?_) (a' := ?_) (bm 64 8589934591) rfl rfl (any_of HT_.out (by kernel_rfl)) (fun _ _ _ h => h) (Or.inl ⟨by rfl, ?_⟩) ?_ ?_
                   rotate_left; (intro w'; go_simp; with_reducible rfl); rotate_left; (simp only [Act.put, aS, lZ, lS, i64_w, i32_w]; rfl)
                   refine pure_ (i := 33) (N := some 173) (v := ?_) (a' := ?_) (bm 64 17179869183) rfl rfl (any_of HT_.out (by kernel_rfl)) (fun _ _ _ h => h) (Or.inl ⟨by rfl, ?_⟩) ?_ ?_
                   rotate_left; (intro w'; go_simp; with_reducible rfl); rotate_left; (simp only [Act.put, aS, lZ, lS, i64_w, i32_w]; rfl)
                   refine pure_ (i := 35) (N := some 175) (v := ?_) (a' := ?_) (bm 64 51539607551) rfl rfl (any_of HT_.out (by kernel_rfl)) (fun _ _ _ h => h) (Or.inl ⟨by rfl, ?_⟩) ?_ ?_
                   rotate_left; (intro w'; go_simp; with_reducible rfl); rotate_left; (simp only [Act.put, aS, lZ, lS, i64_w, i32_w]; rfl)
                   refine pure_ (i := 36) (N := some 176) (v := ?_) (a' := ?_) (bm 64 120259084287) rfl rfl (any_of HT_.out (by kernel_rfl)) (fun _ _ _ h => h) (Or.inl ⟨by rfl, ?_⟩) ?_ ?_
                   rotate_left; (intro w'; go_simp; with_reducible rfl); rotate_left; (simp only [Act.put, aS, lZ, lS, i64_w, i32_w]; rfl)
                   refine pure_ (i := 37) (N := some 177) (v := ?_) (a' := ?_) (bm 64 257698037759) rfl rfl (any_of HT_.out (by kernel_rfl)) (fun _ _ _ h => h) (Or.inl ⟨by rfl, ?_⟩) ?_ ?_
                   rotate_left; (intro w'; go_simp; with_reducible rfl); rotate_left; (simp only [Act.put, aS, lZ, lS, i64_w, i32_w]; rfl)
                   refine take_ (i := 34) (N := some 174) (v := ?_) (a' := ?_) (bm 64 274877906943) rfl rfl (take_ofW HT_.out HW_.out (by kernel_rfl)) (fun _ _ _ h => h) (Or.inl ⟨by rfl, ?_⟩) hHeld ?_ ?_
                   rotate_left
                   ·
                    rintro w' ⟨s0, s1, s2, s3, s4, s5, s6, s7⟩
                    go_simp
                    with_reducible rfl
                   rotate_left
                   ·
                    simp only [Act.put, aS, lZ, lS, i64_w, i32_w]
                    rfl
                   refine take_ (i := 38) (N := some 178) (v := ?_) (a' := ?_) (bm 64 549755813887) rfl rfl (take_ofW HT_.out HW_.out (by kernel_rfl)) (fun _ _ _ h => h) (Or.inl ⟨by rfl, ?_⟩) hHeld ?_ ?_
                   rotate_left
                   ·
                    rintro w' ⟨s0, s1, s2, s3, s4, s5, s6, s7⟩
                    go_simp
                    with_reducible rfl
                   rotate_left
                   ·
                    simp only [Act.put, aS, lZ, lS, i64_w, i32_w]
                    rfl
                   refine pure_ (i := 39) (N := some 179) (v := ?_) (a' := ?_) (bm 64 1099511627775) rfl rfl (any_of HT_.out (by kernel_rfl)) (fun _ _ _ h => h) (Or.inl ⟨by rfl, ?_⟩) ?_ ?_
                   rotate_left; (intro w'; go_simp; with_reducible rfl); rotate_left; (simp only [Act.put, aS, lZ, lS, i64_w, i32_w]; rfl)
                   refine pure_ (i := 40) (N := some 180) (v := ?_) (a' := ?_) (bm 64 2199023255551) rfl rfl (any_of HT_.out (by kernel_rfl)) (fun _ _ _ h => h) (Or.inl ⟨by rfl, ?_⟩) ?_ ?_
                   rotate_left; (intro w'; go_simp; with_reducible rfl); rotate_left; (simp only [Act.put, aS, lZ, lS, i64_w, i32_w]; rfl)
                   refine pure_ (i := 41) (N := some 181) (v := ?_) (a' := ?_) (bm 64 4398046511103) rfl rfl (any_of HT_.out (by kernel_rfl)) (fun _ _ _ h => h) (Or.inl ⟨by rfl, ?_⟩) ?_ ?_
                   rotate_left; (intro w'; go_simp; with_reducible rfl); rotate_left; (simp only [Act.put, aS, lZ, lS, i64_w, i32_w]; rfl)
                   refine pure_ (i := 42) (N := some 182) (v := ?_) (a' := ?_) (bm 64 8796093022207) rfl rfl (any_of HT_.out (by kernel_rfl)) (fun _ _ _ h => h) (Or.inl ⟨by rfl, ?_⟩) ?_ ?_
                   rotate_left; (intro w'; go_simp; with_reducible rfl); rotate_left; (simp only [Act.put, aS, lZ, lS, i64_w, i32_w]; rfl)
                   refine pure_ (i := 43) (N := some 183) (v := ?_) (a' := ?_) (bm 64 17592186044415) rfl rfl (any_of HT_.out (by kernel_rfl)) (fun _ _ _ h => h) (Or.inl ⟨by rfl, ?_⟩) ?_ ?_
                   rotate_left; (intro w'; go_simp; with_reducible rfl); rotate_left; (simp only [Act.put, aS, lZ, lS, i64_w, i32_w]; rfl)
                   refine pure_ (i := 44) (N := some 184) (v := ?_) (a' := ?_) (bm 64 35184372088831) rfl rfl (any_of HT_.out (by kernel_rfl)) (fun _ _ _ h => h) (Or.inl ⟨by rfl, ?_⟩) ?_ ?_
                   rotate_left; (intro w'; go_simp; with_reducible rfl); rotate_left; (simp only [Act.put, aS, lZ, lS, i64_w, i32_w]; rfl)
                   refine pure_ (i := 45) (N := some 185) (v := ?_) (a' := ?_) (bm 64 70368744177663) rfl rfl (any_of HT_.out (by kernel_rfl)) (fun _ _ _ h => h) (Or.inl ⟨by rfl, ?_⟩) ?_ ?_
                   rotate_left; (intro w'; go_simp; with_reducible rfl); rotate_left; (simp only [Act.put, aS, lZ, lS, i64_w, i32_w]; rfl)
                   refine pure_ (i := 47) (N := some 187) (v := ?_) (a' := ?_) (bm 64 211106232532991) rfl rfl (any_of HT_.out (by kernel_rfl)) (fun _ _ _ h => h) (Or.inl ⟨by rfl, ?_⟩) ?_ ?_
                   rotate_left; (intro w'; go_simp; with_reducible rfl); rotate_left; (simp only [Act.put, aS, lZ, lS, i64_w, i32_w]; rfl)
                   refine pure_ (i := 48) (N := some 188) (v := ?_) (a' := ?_) (bm 64 492581209243647) rfl rfl (any_of HT_.out (by kernel_rfl)) (fun _ _ _ h => h) (Or.inl ⟨by rfl, ?_⟩) ?_ ?_
                   rotate_left; (intro w'; go_simp; with_reducible rfl); rotate_left; (simp only [Act.put, aS, lZ, lS, i64_w, i32_w]; rfl)
                   refine pure_ (i := 49) (N := some 189) (v := ?_) (a' := ?_) (bm 64 1055531162664959) rfl rfl (any_of HT_.out (by kernel_rfl)) (fun _ _ _ h => h) (Or.inl ⟨by rfl, ?_⟩) ?_ ?_
                   rotate_left; (intro w'; go_simp; with_reducible rfl); rotate_left; (simp only [Act.put, aS, lZ, lS, i64_w, i32_w]; rfl)
                   refine take_ (i := 46) (N := some 186) (v := ?_) (a' := ?_) (bm 64 1125899906842623) rfl rfl (take_ofW HT_.out HW_.out (by kernel_rfl)) (fun _ _ _ h => h) (Or.inl ⟨by rfl, ?_⟩) hHeld ?_ ?_
                   rotate_left
                   ·
                    rintro w' ⟨s0, s1, s2, s3, s4, s5, s6, s7⟩
                    go_simp
                    with_reducible rfl
                   rotate_left
                   ·
                    simp only [Act.put, aS, lZ, lS, i64_w, i32_w]
                    rfl
                   refine take_ (i := 50) (N := some 190) (v := ?_) (a' := ?_) (bm 64 2251799813685247) rfl rfl (take_ofW HT_.out HW_.out (by kernel_rfl)) (fun _ _ _ h => h) (Or.inl ⟨by rfl, ?_⟩) hHeld ?_ ?_
                   rotate_left
                   ·
                    rintro w' ⟨s0, s1, s2, s3, s4, s5, s6, s7⟩
                    go_simp
                    with_reducible rfl
                   rotate_left
                   ·
                    simp only [Act.put, aS, lZ, lS, i64_w, i32_w]
                    rfl
                   refine pure_ (i := 51) (N := some 191) (v := ?_) (a' := ?_) (bm 64 4503599627370495) rfl rfl (any_of HT_.out (by kernel_rfl)) (fun _ _ _ h => h) (Or.inl ⟨by rfl, ?_⟩) ?_ ?_
                   rotate_left; (intro w'; go_simp; with_reducible rfl); rotate_left; (simp only [Act.put, aS, lZ, lS, i64_w, i32_w]; rfl)
                   refine pure_ (i := 52) (N := some 192) (v := ?_) (a' := ?_) (bm 64 9007199254740991) rfl rfl (any_of HT_.out (by kernel_rfl)) (fun _ _ _ h => h) (Or.inl ⟨by rfl, ?_⟩) ?_ ?_
                   rotate_left; (intro w'; go_simp; with_reducible rfl); rotate_left; (simp only [Act.put, aS, lZ, lS, i64_w, i32_w]; rfl)
                   refine pure_ (i := 53) (N := some 193) (v := undef) (a' := ?_) (bm 64 18014398509481983) rfl rfl (any_of HT_.out (by kernel_rfl)) (fun _ _ _ h => h) (Or.inr ⟨by rfl, rfl⟩) ?_ ?_
                   rotate_left
                   ·
                    simp only [Act.put, aS, lZ, lS, i64_w, i32_w]
                    rfl
                   refine pure_ (i := 54) (N := some 194) (v := undef) (a' := ?_) (bm 64 36028797018963967) rfl rfl (any_of HT_.out (by kernel_rfl)) (fun _ _ _ h => h) (Or.inr ⟨by rfl, rfl⟩) ?_ ?_
                   rotate_left
                   ·
                    simp only [Act.put, aS, lZ, lS, i64_w, i32_w]
                    rfl
                   refine pure_ (i := 55) (N := some 195) (v := undef) (a' := ?_) (bm 64 72057594037927935) rfl rfl (any_of HT_.out (by kernel_rfl)) (fun _ _ _ h => h) (Or.inr ⟨by rfl, rfl⟩) ?_ ?_
                   rotate_left
                   ·
                    simp only [Act.put, aS, lZ, lS, i64_w, i32_w]
                    rfl
                   refine pure_ (i := 56) (N := some 196) (v := undef) (a' := ?_) (bm 64 144115188075855871) rfl rfl (any_of HT_.out (by kernel_rfl)) (fun _ _ _ h => h) (Or.inr ⟨by rfl, rfl⟩) ?_ ?_
                   rotate_left
                   ·
                    simp only [Act.put, aS, lZ, lS, i64_w, i32_w]
                    rfl
                   refine pure_ (i := 57) (N := some 197) (v := undef) (a' := ?_) (bm 64 288230376151711743) rfl rfl (any_of HT_.out (by kernel_rfl)) (fun _ _ _ h => h) (Or.inr ⟨by rfl, rfl⟩) ?_ ?_
                   rotate_left
                   ·
                    simp only [Act.put, aS, lZ, lS, i64_w, i32_w]
                    rfl
                   refine pure_ (i := 58) (N := some 198) (v := undef) (a' := ?_) (bm 64 576460752303423487) rfl rfl (any_of HT_.out (by kernel_rfl)) (fun _ _ _ h => h) (Or.inr ⟨by rfl, rfl⟩) ?_ ?_
                   rotate_left
                   ·
                    simp only [Act.put, aS, lZ, lS, i64_w, i32_w]
                    rfl
                   refine pure_ (i := 59) (N := some 199) (v := undef) (a' := ?_) (bm 64 1152921504606846975) rfl rfl (any_of HT_.out (by kernel_rfl)) (fun _ _ _ h => h) (Or.inr ⟨by rfl, rfl⟩) ?_ ?_
                   rotate_left
                   ·
                    simp only [Act.put, aS, lZ, lS, i64_w, i32_w]
                    rfl
                   refine pure_ (i := 60) (N := some 200) (v := undef) (a' := ?_) (bm 64 2305843009213693951) rfl rfl (any_of HT_.out (by kernel_rfl)) (fun _ _ _ h => h) (Or.inr ⟨by rfl, rfl⟩) ?_ ?_
                   rotate_left
                   ·
                    simp only [Act.put, aS, lZ, lS, i64_w, i32_w]
                    rfl
                   refine pure_ (i := 61) (N := some 201) (v := undef) (a' := ?_) (bm 64 4611686018427387903) rfl rfl (any_of HT_.out (by kernel_rfl)) (fun _ _ _ h => h) (Or.inr ⟨by rfl, rfl⟩) ?_ ?_
                   rotate_left
                   ·
                    simp only [Act.put, aS, lZ, lS, i64_w, i32_w]
                    rfl
                   refine pure_ (i := 62) (N := some 202) (v := ?_) (a' := ?_) (bm 64 9223372036854775807) rfl rfl (any_of HT_.out (by kernel_rfl)) (fun _ _ _ h => h) (Or.inl ⟨by rfl, ?_⟩) ?_ ?_
                   rotate_left; (intro w'; go_simp; with_reducible rfl); rotate_left; (simp only [Act.put, aS, lZ, lS, i64_w, i32_w]; rfl)
                   refine pure_ (i := 63) (N := some 203) (v := ?_) (a' := ?_) (bm 64 18446744073709551615) rfl rfl (any_of HT_.out (by kernel_rfl)) (fun _ _ _ h => h) (Or.inl ⟨by rfl, ?_⟩) ?_ ?_
                   rotate_left; (intro w'; go_simp; with_reducible rfl); rotate_left; (simp only [Act.put, aS, lZ, lS, i64_w, i32_w]; rfl)
                   refine done_ (done_of HT_.out (by kernel_rfl)) ?_
                   try go_wp2
                   go_roundg k4
                   case measure => have := HK1.out; have := HK2.out; have := HJ20.out; have := HK4.out; omega
                   case rel => exact ⟨(wrap64 (x15_4 + 1)), (by first | rfl | (simp; done) | (simp [*]; done)), H', ⟨by have := HK1.out; have := HK2.out; have := HJ20.out; have := HK4.out; omega⟩, ⟨by (with_reducible repeat first | apply rA | apply rN | apply rD); exact HO_5.out⟩, ⟨by repeat with_reducible first | exact HB.out | apply bA | apply bN | apply bD⟩⟩
                ·
                 rw [if_neg c49] at H
                 have c49b0 := decide_eq_false c49
                 clear c49
                 by_cases c57 : (rd l1 x15_4) = (rd l1 x10_2)
                 ·
                  rw [if_pos c57] at H
                  have c57b0 : ((rd l1 x15_4) == (rd l1 x10_2)) = true := beq_iff_eq.mpr c57
                  have c57b1 : ((rd l1 x15_4) != (rd l1 x10_2)) = false := bne_eq_false_iff_eq.mpr c57
                  clear c57
                  by_cases c58 : x15_4 < (t361.length : Int); rotate_left
                  · rw [if_neg c58] at H; exact absurd H (by simp)
                  rw [if_pos c58] at H
                  have c58b0 := decide_eq_true c58
                  clear c58
                  by_cases c59 : x10_2 < (t361.length : Int); rotate_left
                  · rw [if_neg c59] at H; exact absurd H (by simp)
                  rw [if_pos c59] at H
                  have c59b0 := decide_eq_true c59
                  clear c59
                  by_cases c60 : (rd t361 x15_4) < (rd t361 x10_2)
                  · rw [if_pos c60] at H; exact absurd H (by simp)
                  rw [if_neg c60] at H
                  have c60b0 := decide_eq_false c60
                  clear c60
                  have H' := Aside0.mk H
                  clear H
                  try go_wp2
                  have n0_ := Aside0.mk (Kd.R_drew HO_5.out)
                  have n1_ := Aside0.mk (below_drew1 HB.out)
                  clear HO_5
                  clear HB
                  have HO_5 := n0_
                  have HB := n1_
                  clear n0_ n1_
                  have p495 : 0 ≤ (x15_4 : Int) := of_decide_eq_true (by first | (with_reducible assumption) | assumption)
                  have q495 : x15_4 < (l1.length : Int) := of_decide_eq_true (by first | (with_reducible assumption) | assumption)
                  obtain ⟨ad495, e495, hx495_0⟩ := Kd.at_int HR1.out x15_4 p495 q495
                  have hw495_0 := hx495_0
                  obtain rfl : ad458 = ad495 := (by injection e495)
                  replace hx495_0 := cb HB.out hx495_0
                  replace p495 := eq_true p495
                  replace q495 := eq_true q495
                  have p496 : 0 ≤ (x10_2 : Int) := of_decide_eq_true (by first | (with_reducible assumption) | assumption)
                  have q496 : x10_2 < (l1.length : Int) := of_decide_eq_true (by first | (with_reducible assumption) | assumption)
                  obtain ⟨ad496, e496, hx496_0⟩ := Kd.at_int HR1.out x10_2 p496 q496
                  have hw496_0 := hx496_0
                  obtain rfl : ad458 = ad496 := (by injection e496)
                  replace hx496_0 := cb HB.out hx496_0
                  replace p496 := eq_true p496
                  replace q496 := eq_true q496
                  have p511 : 0 ≤ (x15_4 : Int) := of_decide_eq_true (by first | (with_reducible assumption) | assumption)
                  have q511 : x15_4 < (l1.length : Int) := of_decide_eq_true (by first | (with_reducible assumption) | assumption)
                  obtain ⟨ad511, e511, hx511_0⟩ := Kd.at_int HR1.out x15_4 p511 q511
                  have hw511_0 := hx511_0
                  obtain rfl : ad458 = ad511 := (by injection e511)
                  replace hx511_0 := cb HB.out hx511_0
                  replace p511 := eq_true p511
                  replace q511 := eq_true q511
                  have p512 : 0 ≤ (x10_2 : Int) := of_decide_eq_true (by first | (with_reducible assumption) | assumption)
                  have q512 : x10_2 < (l1.length : Int) := of_decide_eq_true (by first | (with_reducible assumption) | assumption)
                  obtain ⟨ad512, e512, hx512_0⟩ := Kd.at_int HR1.out x10_2 p512 q512
                  have hw512_0 := hx512_0
                  obtain rfl : ad458 = ad512 := (by injection e512)
                  replace hx512_0 := cb HB.out hx512_0
                  replace p512 := eq_true p512
                  replace q512 := eq_true q512
                  have p519 : 0 ≤ (x15_4 : Int) := of_decide_eq_true (by first | (with_reducible assumption) | assumption)
                  have q519 : x15_4 < (l1.length : Int) := of_decide_eq_true (by first | (with_reducible assumption) | assumption)
                  obtain ⟨ad519, e519, hx519_0⟩ := Kd.at_int HR1.out x15_4 p519 q519
                  have hw519_0 := hx519_0
                  obtain rfl : ad458 = ad519 := (by injection e519)
                  replace hx519_0 := cb HB.out hx519_0
                  replace p519 := eq_true p519
                  replace q519 := eq_true q519
                  have p520 : 0 ≤ (x10_2 : Int) := of_decide_eq_true (by first | (with_reducible assumption) | assumption)
                  have q520 : x10_2 < (l1.length : Int) := of_decide_eq_true (by first | (with_reducible assumption) | assumption)
                  obtain ⟨ad520, e520, hx520_0⟩ := Kd.at_int HR1.out x10_2 p520 q520
                  have hw520_0 := hx520_0
                  obtain rfl : ad458 = ad520 := (by injection e520)
                  replace hx520_0 := cb HB.out hx520_0
                  replace p520 := eq_true p520
                  replace q520 := eq_true q520
                  have p521 : 0 ≤ (x15_4 : Int) := of_decide_eq_true (by first | (with_reducible assumption) | assumption)
                  have q521 : x15_4 < (t361.length : Int) := of_decide_eq_true (by first | (with_reducible assumption) | assumption)
                  obtain ⟨ad521, e521, hx521_0⟩ := Kd.at_int (Kd.R_reads' HO_5.out).2.2 x15_4 p521 q521
                  obtain rfl : ad457 = ad521 := (by injection e521)
                  replace p521 := eq_true p521
                  replace q521 := eq_true q521
                  have p522 : 0 ≤ (x10_2 : Int) := of_decide_eq_true (by first | (with_reducible assumption) | assumption)
                  have q522 : x10_2 < (t361.length : Int) := of_decide_eq_true (by first | (with_reducible assumption) | assumption)
                  obtain ⟨ad522, e522, hx522_0⟩ := Kd.at_int (Kd.R_reads' HO_5.out).2.2 x10_2 p522 q522
                  obtain rfl : ad457 = ad522 := (by injection e522)
                  replace p522 := eq_true p522
                  replace q522 := eq_true q522
                  refine start_ (n := 64) (S := fun w' => w'.cell? (ad458.add (x15_4).toNat) = some (.int .i64 (rd l1 x15_4)) ∧ w'.cell? (ad458.add (x10_2).toNat) = some (.int .i64 (rd l1 x10_2)) ∧ w'.cell? (ad458.add (x15_4).toNat) = some (.int .i64 (rd l1 x15_4)) ∧ w'.cell? (ad458.add (x10_2).toNat) = some (.int .i64 (rd l1 x10_2)) ∧ w'.cell? (ad458.add (x15_4).toNat) = some (.int .i64 (rd l1 x15_4)) ∧ w'.cell? (ad458.add (x10_2).toNat) = some (.int .i64 (rd l1 x10_2)) ∧ w'.cell? (ad457.add (x15_4).toNat) = some (.int .i64 (rd t361 x15_4)) ∧ w'.cell? (ad457.add (x10_2).toNat) = some (.int .i64 (rd t361 x10_2))) (ds := []) (bm 64 0) (by kernel_rfl) rfl rfl ⟨(cb HB.out hw495_0), (cb HB.out hw496_0), (cb HB.out hw511_0), (cb HB.out hw512_0), (cb HB.out hw519_0), (cb HB.out hw520_0), hx521_0, hx522_0⟩ (fun hHeld => ?_); refine with_tabW dancestudiolaw12_ShareFair.tab26 dancestudiolaw12_ShareFair.bits26 (fun HT_ HW_ => ?_)
                  generalize wr.drew = w61 at HO_5 HB hx495_0 hx496_0 hx511_0 hx512_0 hx519_0 hx520_0 hx521_0 hx522_0 hHeld ⊢
                  refine pure_ (i := 0) (N := some 140) (v := ?_) (a' := ?_) (bm 64 1) rfl rfl (any_of HT_.out (by kernel_rfl)) (fun _ _ _ h => h) (Or.inl ⟨by rfl, ?_⟩) ?_ ?_
                  rotate_left; (intro w'; go_simp; with_reducible rfl); rotate_left; (simp only [Act.put, aS, lZ, lS, i64_w, i32_w]; rfl)
                  refine pure_ (i := 1) (N := some 141) (v := ?_) (a' := ?_) (bm 64 3) rfl rfl (any_of HT_.out (by kernel_rfl)) (fun _ _ _ h => h) (Or.inl ⟨by rfl, ?_⟩) ?_ ?_
                  rotate_left; (intro w'; go_simp; with_reducible rfl); rotate_left; (simp only [Act.put, aS, lZ, lS, i64_w, i32_w]; rfl)
                  refine pure_ (i := 2) (N := some 142) (v := ?_) (a' := ?_) (bm 64 7) rfl rfl (any_of HT_.out (by kernel_rfl)) (fun _ _ _ h => h) (Or.inl ⟨by rfl, ?_⟩) ?_ ?_
                  rotate_left; (intro w'; go_simp; with_reducible rfl); rotate_left; (simp only [Act.put, aS, lZ, lS, i64_w, i32_w]; rfl)
                  refine pure_ (i := 4) (N := some 144) (v := ?_) (a' := ?_) (bm 64 23) rfl rfl (any_of HT_.out (by kernel_rfl)) (fun _ _ _ h => h) (Or.inl ⟨by rfl, ?_⟩) ?_ ?_
                  rotate_left; (intro w'; go_simp; with_reducible rfl); rotate_left; (simp only [Act.put, aS, lZ, lS, i64_w, i32_w]; rfl)
                  refine pure_ (i := 5) (N := some 145) (v := ?_) (a' := ?_) (bm 64 55) rfl rfl (any_of HT_.out (by kernel_rfl)) (fun _ _ _ h => h) (Or.inl ⟨by rfl, ?_⟩) ?_ ?_
                  rotate_left; (intro w'; go_simp; with_reducible rfl); rotate_left; (simp only [Act.put, aS, lZ, lS, i64_w, i32_w]; rfl)
                  refine pure_ (i := 6) (N := some 146) (v := ?_) (a' := ?_) (bm 64 119) rfl rfl (any_of HT_.out (by kernel_rfl)) (fun _ _ _ h => h) (Or.inl ⟨by rfl, ?_⟩) ?_ ?_
                  rotate_left; (intro w'; go_simp; with_reducible rfl); rotate_left; (simp only [Act.put, aS, lZ, lS, i64_w, i32_w]; rfl)
                  refine take_ (i := 3) (N := some 143) (v := ?_) (a' := ?_) (bm 64 127) rfl rfl (take_ofW HT_.out HW_.out (by kernel_rfl)) (fun _ _ _ h => h) (Or.inl ⟨by rfl, ?_⟩) hHeld ?_ ?_
                  rotate_left
                  ·
                   rintro w' ⟨s0, s1, s2, s3, s4, s5, s6, s7⟩
                   go_simp
                   with_reducible rfl
                  rotate_left
                  ·
                   simp only [Act.put, aS, lZ, lS, i64_w, i32_w]
                   rfl
                  refine take_ (i := 7) (N := some 147) (v := ?_) (a' := ?_) (bm 64 255) rfl rfl (take_ofW HT_.out HW_.out (by kernel_rfl)) (fun _ _ _ h => h) (Or.inl ⟨by rfl, ?_⟩) hHeld ?_ ?_
                  rotate_left
                  ·
                   rintro w' ⟨s0, s1, s2, s3, s4, s5, s6, s7⟩
                   go_simp
                   with_reducible rfl
                  rotate_left
                  ·
                   simp only [Act.put, aS, lZ, lS, i64_w, i32_w]
                   rfl
                  refine pure_ (i := 8) (N := some 148) (v := ?_) (a' := ?_) (bm 64 511) rfl rfl (any_of HT_.out (by kernel_rfl)) (fun _ _ _ h => h) (Or.inl ⟨by rfl, ?_⟩) ?_ ?_
                  rotate_left; (intro w'; go_simp; with_reducible rfl); rotate_left; (simp only [Act.put, aS, lZ, lS, i64_w, i32_w]; rfl)
                  refine pure_ (i := 9) (N := some 149) (v := ?_) (a' := ?_) (bm 64 1023) rfl rfl (any_of HT_.out (by kernel_rfl)) (fun _ _ _ h => h) (Or.inl ⟨by rfl, ?_⟩) ?_ ?_
                  rotate_left; (intro w'; go_simp; with_reducible rfl); rotate_left; (simp only [Act.put, aS, lZ, lS, i64_w, i32_w]; rfl)
                  refine pure_ (i := 10) (N := some 150) (v := undef) (a' := ?_) (bm 64 2047) rfl rfl (any_of HT_.out (by kernel_rfl)) (fun _ _ _ h => h) (Or.inr ⟨by rfl, rfl⟩) ?_ ?_
                  rotate_left
                  ·
                   simp only [Act.put, aS, lZ, lS, i64_w, i32_w]
                   rfl
                  refine pure_ (i := 11) (N := some 151) (v := undef) (a' := ?_) (bm 64 4095) rfl rfl (any_of HT_.out (by kernel_rfl)) (fun _ _ _ h => h) (Or.inr ⟨by rfl, rfl⟩) ?_ ?_
                  rotate_left
                  ·
                   simp only [Act.put, aS, lZ, lS, i64_w, i32_w]
                   rfl
                  refine pure_ (i := 12) (N := some 152) (v := undef) (a' := ?_) (bm 64 8191) rfl rfl (any_of HT_.out (by kernel_rfl)) (fun _ _ _ h => h) (Or.inr ⟨by rfl, rfl⟩) ?_ ?_
                  rotate_left
                  ·
                   simp only [Act.put, aS, lZ, lS, i64_w, i32_w]
                   rfl
                  refine pure_ (i := 13) (N := some 153) (v := undef) (a' := ?_) (bm 64 16383) rfl rfl (any_of HT_.out (by kernel_rfl)) (fun _ _ _ h => h) (Or.inr ⟨by rfl, rfl⟩) ?_ ?_
                  rotate_left
                  ·
                   simp only [Act.put, aS, lZ, lS, i64_w, i32_w]
                   rfl
                  refine pure_ (i := 14) (N := some 154) (v := undef) (a' := ?_) (bm 64 32767) rfl rfl (any_of HT_.out (by kernel_rfl)) (fun _ _ _ h => h) (Or.inr ⟨by rfl, rfl⟩) ?_ ?_
                  rotate_left
                  ·
                   simp only [Act.put, aS, lZ, lS, i64_w, i32_w]
                   rfl
                  refine pure_ (i := 15) (N := some 155) (v := undef) (a' := ?_) (bm 64 65535) rfl rfl (any_of HT_.out (by kernel_rfl)) (fun _ _ _ h => h) (Or.inr ⟨by rfl, rfl⟩) ?_ ?_
                  rotate_left
                  ·
                   simp only [Act.put, aS, lZ, lS, i64_w, i32_w]
                   rfl
                  refine pure_ (i := 16) (N := some 156) (v := undef) (a' := ?_) (bm 64 131071) rfl rfl (any_of HT_.out (by kernel_rfl)) (fun _ _ _ h => h) (Or.inr ⟨by rfl, rfl⟩) ?_ ?_
                  rotate_left
                  ·
                   simp only [Act.put, aS, lZ, lS, i64_w, i32_w]
                   rfl
                  refine pure_ (i := 17) (N := some 157) (v := undef) (a' := ?_) (bm 64 262143) rfl rfl (any_of HT_.out (by kernel_rfl)) (fun _ _ _ h => h) (Or.inr ⟨by rfl, rfl⟩) ?_ ?_
                  rotate_left
                  ·
                   simp only [Act.put, aS, lZ, lS, i64_w, i32_w]
                   rfl
                  refine pure_ (i := 18) (N := some 158) (v := undef) (a' := ?_) (bm 64 524287) rfl rfl (any_of HT_.out (by kernel_rfl)) (fun _ _ _ h => h) (Or.inr ⟨by rfl, rfl⟩) ?_ ?_
                  rotate_left
                  ·
                   simp only [Act.put, aS, lZ, lS, i64_w, i32_w]
                   rfl
                  refine pure_ (i := 19) (N := some 159) (v := ?_) (a' := ?_) (bm 64 1048575) rfl rfl (any_of HT_.out (by kernel_rfl)) (fun _ _ _ h => h) (Or.inl ⟨by rfl, ?_⟩) ?_ ?_
                  rotate_left; (intro w'; go_simp; with_reducible rfl); rotate_left; (simp only [Act.put, aS, lZ, lS, i64_w, i32_w]; rfl)
                  refine pure_ (i := 20) (N := some 160) (v := ?_) (a' := ?_) (bm 64 2097151) rfl rfl (any_of HT_.out (by kernel_rfl)) (fun _ _ _ h => h) (Or.inl ⟨by rfl, ?_⟩) ?_ ?_
                  rotate_left; (intro w'; go_simp; with_reducible rfl); rotate_left; (simp only [Act.put, aS, lZ, lS, i64_w, i32_w]; rfl)
                  refine pure_ (i := 21) (N := some 161) (v := ?_) (a' := ?_) (bm 64 4194303) rfl rfl (any_of HT_.out (by kernel_rfl)) (fun _ _ _ h => h) (Or.inl ⟨by rfl, ?_⟩) ?_ ?_
                  rotate_left; (intro w'; go_simp; with_reducible rfl); rotate_left; (simp only [Act.put, aS, lZ, lS, i64_w, i32_w]; rfl)
                  refine pure_ (i := 22) (N := some 162) (v := ?_) (a' := ?_) (bm 64 8388607) rfl rfl (any_of HT_.out (by kernel_rfl)) (fun _ _ _ h => h) (Or.inl ⟨by rfl, ?_⟩) ?_ ?_
                  rotate_left; (intro w'; go_simp; with_reducible rfl); rotate_left; (simp only [Act.put, aS, lZ, lS, i64_w, i32_w]; rfl)
                  refine pure_ (i := 23) (N := some 163) (v := ?_) (a' := ?_) (bm 64 16777215) rfl rfl (any_of HT_.out (by kernel_rfl)) (fun _ _ _ h => h) (Or.inl ⟨by rfl, ?_⟩) ?_ ?_
                  rotate_left; (intro w'; go_simp; with_reducible rfl); rotate_left; (simp only [Act.put, aS, lZ, lS, i64_w, i32_w]; rfl)
                  refine pure_ (i := 25) (N := some 165) (v := ?_) (a' := ?_) (bm 64 50331647) rfl rfl (any_of HT_.out (by kernel_rfl)) (fun _ _ _ h => h) (Or.inl ⟨by rfl, ?_⟩) ?_ ?_
                  rotate_left; (intro w'; go_simp; with_reducible rfl); rotate_left; (simp only [Act.put, aS, lZ, lS, i64_w, i32_w]; rfl)
                  refine pure_ (i := 26) (N := some 166) (v := ?_) (a' := ?_) (bm 64 117440511) rfl rfl (any_of HT_.out (by kernel_rfl)) (fun _ _ _ h => h) (Or.inl ⟨by rfl, ?_⟩) ?_ ?_
                  rotate_left; (intro w'; go_simp; with_reducible rfl); rotate_left; (simp only [Act.put, aS, lZ, lS, i64_w, i32_w]; rfl)
                  refine pure_ (i := 27) (N := some 167) (v := ?_) (a' := ?_) (bm 64 251658239) rfl rfl (any_of HT_.out (by kernel_rfl)) (fun _ _ _ h => h) (Or.inl ⟨by rfl, ?_⟩) ?_ ?_
                  rotate_left; (intro w'; go_simp; with_reducible rfl); rotate_left; (simp only [Act.put, aS, lZ, lS, i64_w, i32_w]; rfl)
                  refine take_ (i := 24) (N := some 164) (v := ?_) (a' := ?_) (bm 64 268435455) rfl rfl (take_ofW HT_.out HW_.out (by kernel_rfl)) (fun _ _ _ h => h) (Or.inl ⟨by rfl, ?_⟩) hHeld ?_ ?_
                  rotate_left
                  ·
                   rintro w' ⟨s0, s1, s2, s3, s4, s5, s6, s7⟩
                   go_simp
                   with_reducible rfl
                  rotate_left
                  ·
                   simp only [Act.put, aS, lZ, lS, i64_w, i32_w]
                   rfl
                  refine take_ (i := 28) (N := some 168) (v := ?_) (a' := ?_) (bm 64 536870911) rfl rfl (take_ofW HT_.out HW_.out (by kernel_rfl)) (fun _ _ _ h => h) (Or.inl ⟨by rfl, ?_⟩) hHeld ?_ ?_
                  rotate_left
                  ·
                   rintro w' ⟨s0, s1, s2, s3, s4, s5, s6, s7⟩
                   go_simp
                   with_reducible rfl
                  rotate_left
                  ·
                   simp only [Act.put, aS, lZ, lS, i64_w, i32_w]
                   rfl
                  refine pure_ (i := 29) (N := some 169) (v := ?_) (a' := ?_) (bm 64 1073741823) rfl rfl (any_of HT_.out (by kernel_rfl)) (fun _ _ _ h => h) (Or.inl ⟨by rfl, ?_⟩) ?_ ?_
                  rotate_left; (intro w'; go_simp; with_reducible rfl); rotate_left; (simp only [Act.put, aS, lZ, lS, i64_w, i32_w]; rfl)
                  refine pure_ (i := 30) (N := some 170) (v := ?_) (a' := ?_) (bm 64 2147483647) rfl rfl (any_of HT_.out (by kernel_rfl)) (fun _ _ _ h => h) (Or.inl ⟨by rfl, ?_⟩) ?_ ?_
                  rotate_left; (intro w'; go_simp; with_reducible rfl); rotate_left; (simp only [Act.put, aS, lZ, lS, i64_w, i32_w]; rfl)
                  refine pure_ (i := 31) (N := some 171) (v := undef) (a' := ?_) (bm 64 4294967295) rfl rfl (any_of HT_.out (by kernel_rfl)) (fun _ _ _ h => h) (Or.inr ⟨by rfl, rfl⟩) ?_ ?_
                  rotate_left
                  ·
                   simp only [Act.put, aS, lZ, lS, i64_w, i32_w]
                   rfl
                  refine pure_ (i := 32) (N := some 172) (v := undef) (a' := ?_) (bm 64 8589934591) rfl rfl (any_of HT_.out (by kernel_rfl)) (fun _ _ _ h => h) (Or.inr ⟨by rfl, rfl⟩) ?_ ?_
                  rotate_left
                  ·
                   simp only [Act.put, aS, lZ, lS, i64_w, i32_w]
                   rfl
                  refine pure_ (i := 33) (N := some 173) (v := undef) (a' := ?_) (bm 64 17179869183) rfl rfl (any_of HT_.out (by kernel_rfl)) (fun _ _ _ h => h) (Or.inr ⟨by rfl, rfl⟩) ?_ ?_
                  rotate_left
                  ·
                   simp only [Act.put, aS, lZ, lS, i64_w, i32_w]
                   rfl
                  refine pure_ (i := 34) (N := some 174) (v := undef) (a' := ?_) (bm 64 34359738367) rfl rfl (any_of HT_.out (by kernel_rfl)) (fun _ _ _ h => h) (Or.inr ⟨by rfl, rfl⟩) ?_ ?_
                  rotate_left
                  ·
                   simp only [Act.put, aS, lZ, lS, i64_w, i32_w]
                   rfl
                  refine pure_ (i := 35) (N := some 175) (v := undef) (a' := ?_) (bm 64 68719476735) rfl rfl (any_of HT_.out (by kernel_rfl)) (fun _ _ _ h => h) (Or.inr ⟨by rfl, rfl⟩) ?_ ?_
                  rotate_left
                  ·
                   simp only [Act.put, aS, lZ, lS, i64_w, i32_w]
                   rfl
                  refine pure_ (i := 36) (N := some 176) (v := undef) (a' := ?_) (bm 64 137438953471) rfl rfl (any_of HT_.out (by kernel_rfl)) (fun _ _ _ h => h) (Or.inr ⟨by rfl, rfl⟩) ?_ ?_
                  rotate_left
                  ·
                   simp only [Act.put, aS, lZ, lS, i64_w, i32_w]
                   rfl
                  refine pure_ (i := 37) (N := some 177) (v := undef) (a' := ?_) (bm 64 274877906943) rfl rfl (any_of HT_.out (by kernel_rfl)) (fun _ _ _ h => h) (Or.inr ⟨by rfl, rfl⟩) ?_ ?_
                  rotate_left
                  ·
                   simp only [Act.put, aS, lZ, lS, i64_w, i32_w]
                   rfl
                  refine pure_ (i := 38) (N := some 178) (v := undef) (a' := ?_) (bm 64 549755813887) rfl rfl (any_of HT_.out (by kernel_rfl)) (fun _ _ _ h => h) (Or.inr ⟨by rfl, rfl⟩) ?_ ?_
                  rotate_left
                  ·
                   simp only [Act.put, aS, lZ, lS, i64_w, i32_w]
                   rfl
                  refine pure_ (i := 39) (N := some 179) (v := undef) (a' := ?_) (bm 64 1099511627775) rfl rfl (any_of HT_.out (by kernel_rfl)) (fun _ _ _ h => h) (Or.inr ⟨by rfl, rfl⟩) ?_ ?_
                  rotate_left
                  ·
                   simp only [Act.put, aS, lZ, lS, i64_w, i32_w]
                   rfl
                  refine pure_ (i := 40) (N := some 180) (v := ?_) (a' := ?_) (bm 64 2199023255551) rfl rfl (any_of HT_.out (by kernel_rfl)) (fun _ _ _ h => h) (Or.inl ⟨by rfl, ?_⟩) ?_ ?_
                  rotate_left; (intro w'; go_simp; with_reducible rfl); rotate_left; (simp only [Act.put, aS, lZ, lS, i64_w, i32_w]; rfl)
                  refine pure_ (i := 41) (N := some 181) (v := ?_) (a' := ?_) (bm 64 4398046511103) rfl rfl (any_of HT_.out (by kernel_rfl)) (fun _ _ _ h => h) (Or.inl ⟨by rfl, ?_⟩) ?_ ?_
                  rotate_left; (intro w'; go_simp; with_reducible rfl); rotate_left; (simp only [Act.put, aS, lZ, lS, i64_w, i32_w]; rfl)
                  refine pure_ (i := 42) (N := some 182) (v := ?_) (a' := ?_) (bm 64 8796093022207) rfl rfl (any_of HT_.out (by kernel_rfl)) (fun _ _ _ h => h) (Or.inl ⟨by rfl, ?_⟩) ?_ ?_
                  rotate_left; (intro w'; go_simp; with_reducible rfl); rotate_left; (simp only [Act.put, aS, lZ, lS, i64_w, i32_w]; rfl)
                  refine pure_ (i := 43) (N := some 183) (v := ?_) (a' := ?_) (bm 64 17592186044415) rfl rfl (any_of HT_.out (by kernel_rfl)) (fun _ _ _ h => h) (Or.inl ⟨by rfl, ?_⟩) ?_ ?_
                  rotate_left; (intro w'; go_simp; with_reducible rfl); rotate_left; (simp only [Act.put, aS, lZ, lS, i64_w, i32_w]; rfl)
                  refine pure_ (i := 44) (N := some 184) (v := ?_) (a' := ?_) (bm 64 35184372088831) rfl rfl (any_of HT_.out (by kernel_rfl)) (fun _ _ _ h => h) (Or.inl ⟨by rfl, ?_⟩) ?_ ?_
                  rotate_left; (intro w'; go_simp; with_reducible rfl); rotate_left; (simp only [Act.put, aS, lZ, lS, i64_w, i32_w]; rfl)
                  refine pure_ (i := 45) (N := some 185) (v := ?_) (a' := ?_) (bm 64 70368744177663) rfl rfl (any_of HT_.out (by kernel_rfl)) (fun _ _ _ h => h) (Or.inl ⟨by rfl, ?_⟩) ?_ ?_
                  rotate_left; (intro w'; go_simp; with_reducible rfl); rotate_left; (simp only [Act.put, aS, lZ, lS, i64_w, i32_w]; rfl)
                  refine pure_ (i := 47) (N := some 187) (v := ?_) (a' := ?_) (bm 64 211106232532991) rfl rfl (any_of HT_.out (by kernel_rfl)) (fun _ _ _ h => h) (Or.inl ⟨by rfl, ?_⟩) ?_ ?_
                  rotate_left; (intro w'; go_simp; with_reducible rfl); rotate_left; (simp only [Act.put, aS, lZ, lS, i64_w, i32_w]; rfl)
                  refine pure_ (i := 48) (N := some 188) (v := ?_) (a' := ?_) (bm 64 492581209243647) rfl rfl (any_of HT_.out (by kernel_rfl)) (fun _ _ _ h => h) (Or.inl ⟨by rfl, ?_⟩) ?_ ?_
                  rotate_left; (intro w'; go_simp; with_reducible rfl); rotate_left; (simp only [Act.put, aS, lZ, lS, i64_w, i32_w]; rfl)
                  refine pure_ (i := 49) (N := some 189) (v := ?_) (a' := ?_) (bm 64 1055531162664959) rfl rfl (any_of HT_.out (by kernel_rfl)) (fun _ _ _ h => h) (Or.inl ⟨by rfl, ?_⟩) ?_ ?_
                  rotate_left; (intro w'; go_simp; with_reducible rfl); rotate_left; (simp only [Act.put, aS, lZ, lS, i64_w, i32_w]; rfl)
                  refine take_ (i := 46) (N := some 186) (v := ?_) (a' := ?_) (bm 64 1125899906842623) rfl rfl (take_ofW HT_.out HW_.out (by kernel_rfl)) (fun _ _ _ h => h) (Or.inl ⟨by rfl, ?_⟩) hHeld ?_ ?_
                  rotate_left
                  ·
                   rintro w' ⟨s0, s1, s2, s3, s4, s5, s6, s7⟩
                   go_simp
                   with_reducible rfl
                  rotate_left
                  ·
                   simp only [Act.put, aS, lZ, lS, i64_w, i32_w]
                   rfl
                  refine take_ (i := 50) (N := some 190) (v := ?_) (a' := ?_) (bm 64 2251799813685247) rfl rfl (take_ofW HT_.out HW_.out (by kernel_rfl)) (fun _ _ _ h => h) (Or.inl ⟨by rfl, ?_⟩) hHeld ?_ ?_
                  rotate_left
                  ·
                   rintro w' ⟨s0, s1, s2, s3, s4, s5, s6, s7⟩
                   go_simp
                   with_reducible rfl
                  rotate_left
                  ·
                   simp only [Act.put, aS, lZ, lS, i64_w, i32_w]
                   rfl
                  refine pure_ (i := 51) (N := some 191) (v := ?_) (a' := ?_) (bm 64 4503599627370495) rfl rfl (any_of HT_.out (by kernel_rfl)) (fun _ _ _ h => h) (Or.inl ⟨by rfl, ?_⟩) ?_ ?_
                  rotate_left; (intro w'; go_simp; with_reducible rfl); rotate_left; (simp only [Act.put, aS, lZ, lS, i64_w, i32_w]; rfl)
                  refine pure_ (i := 52) (N := some 192) (v := ?_) (a' := ?_) (bm 64 9007199254740991) rfl rfl (any_of HT_.out (by kernel_rfl)) (fun _ _ _ h => h) (Or.inl ⟨by rfl, ?_⟩) ?_ ?_
                  rotate_left; (intro w'; go_simp; with_reducible rfl); rotate_left; (simp only [Act.put, aS, lZ, lS, i64_w, i32_w]; rfl)
                  refine pure_ (i := 53) (N := some 193) (v := ?_) (a' := ?_) (bm 64 18014398509481983) rfl rfl (any_of HT_.out (by kernel_rfl)) (fun _ _ _ h => h) (Or.inl ⟨by rfl, ?_⟩) ?_ ?_
                  rotate_left; (intro w'; go_simp; with_reducible rfl); rotate_left; (simp only [Act.put, aS, lZ, lS, i64_w, i32_w]; rfl)
                  refine pure_ (i := 54) (N := some 194) (v := ?_) (a' := ?_) (bm 64 36028797018963967) rfl rfl (any_of HT_.out (by kernel_rfl)) (fun _ _ _ h => h) (Or.inl ⟨by rfl, ?_⟩) ?_ ?_
                  rotate_left; (intro w'; go_simp; with_reducible rfl); rotate_left; (simp only [Act.put, aS, lZ, lS, i64_w, i32_w]; rfl)
                  refine pure_ (i := 55) (N := some 195) (v := ?_) (a' := ?_) (bm 64 72057594037927935) rfl rfl (any_of HT_.out (by kernel_rfl)) (fun _ _ _ h => h) (Or.inl ⟨by rfl, ?_⟩) ?_ ?_
                  rotate_left; (intro w'; go_simp; with_reducible rfl); rotate_left; (simp only [Act.put, aS, lZ, lS, i64_w, i32_w]; rfl)
                  refine pure_ (i := 57) (N := some 197) (v := ?_) (a' := ?_) (bm 64 216172782113783807) rfl rfl (any_of HT_.out (by kernel_rfl)) (fun _ _ _ h => h) (Or.inl ⟨by rfl, ?_⟩) ?_ ?_
                  rotate_left; (intro w'; go_simp; with_reducible rfl); rotate_left; (simp only [Act.put, aS, lZ, lS, i64_w, i32_w]; rfl)
                  refine pure_ (i := 58) (N := some 198) (v := ?_) (a' := ?_) (bm 64 504403158265495551) rfl rfl (any_of HT_.out (by kernel_rfl)) (fun _ _ _ h => h) (Or.inl ⟨by rfl, ?_⟩) ?_ ?_
                  rotate_left; (intro w'; go_simp; with_reducible rfl); rotate_left; (simp only [Act.put, aS, lZ, lS, i64_w, i32_w]; rfl)
                  refine pure_ (i := 59) (N := some 199) (v := ?_) (a' := ?_) (bm 64 1080863910568919039) rfl rfl (any_of HT_.out (by kernel_rfl)) (fun _ _ _ h => h) (Or.inl ⟨by rfl, ?_⟩) ?_ ?_
                  rotate_left; (intro w'; go_simp; with_reducible rfl); rotate_left; (simp only [Act.put, aS, lZ, lS, i64_w, i32_w]; rfl)
                  refine take_ (i := 56) (N := some 196) (v := ?_) (a' := ?_) (bm 64 1152921504606846975) rfl rfl (take_ofW HT_.out HW_.out (by kernel_rfl)) (fun _ _ _ h => h) (Or.inl ⟨by rfl, ?_⟩) hHeld ?_ ?_
                  rotate_left
                  ·
                   rintro w' ⟨s0, s1, s2, s3, s4, s5, s6, s7⟩
                   go_simp
                   with_reducible rfl
                  rotate_left
                  ·
                   simp only [Act.put, aS, lZ, lS, i64_w, i32_w]
                   rfl
                  refine take_ (i := 60) (N := some 200) (v := ?_) (a' := ?_) (bm 64 2305843009213693951) rfl rfl (take_ofW HT_.out HW_.out (by kernel_rfl)) (fun _ _ _ h => h) (Or.inl ⟨by rfl, ?_⟩) hHeld ?_ ?_
                  rotate_left
                  ·
                   rintro w' ⟨s0, s1, s2, s3, s4, s5, s6, s7⟩
                   go_simp
                   with_reducible rfl
                  rotate_left
                  ·
                   simp only [Act.put, aS, lZ, lS, i64_w, i32_w]
                   rfl
                  refine pure_ (i := 61) (N := some 201) (v := ?_) (a' := ?_) (bm 64 4611686018427387903) rfl rfl (any_of HT_.out (by kernel_rfl)) (fun _ _ _ h => h) (Or.inl ⟨by rfl, ?_⟩) ?_ ?_
                  rotate_left; (intro w'; go_simp; with_reducible rfl); rotate_left; (simp only [Act.put, aS, lZ, lS, i64_w, i32_w]; rfl)
                  refine pure_ (i := 62) (N := some 202) (v := ?_) (a' := ?_) (bm 64 9223372036854775807) rfl rfl (any_of HT_.out (by kernel_rfl)) (fun _ _ _ h => h) (Or.inl ⟨by rfl, ?_⟩) ?_ ?_
                  rotate_left; (intro w'; go_simp; with_reducible rfl); rotate_left; (simp only [Act.put, aS, lZ, lS, i64_w, i32_w]; rfl)
                  refine pure_ (i := 63) (N := some 203) (v := ?_) (a' := ?_) (bm 64 18446744073709551615) rfl rfl (any_of HT_.out (by kernel_rfl)) (fun _ _ _ h => h) (Or.inl ⟨by rfl, ?_⟩) ?_ ?_
                  rotate_left; (intro w'; go_simp; with_reducible rfl); rotate_left; (simp only [Act.put, aS, lZ, lS, i64_w, i32_w]; rfl)
                  refine done_ (done_of HT_.out (by kernel_rfl)) ?_
                  try go_wp2
                  go_roundg k4
                  case measure => have := HK1.out; have := HK2.out; have := HJ20.out; have := HK4.out; omega
                  case rel => exact ⟨(wrap64 (x15_4 + 1)), (by first | rfl | (simp; done) | (simp [*]; done)), H', ⟨by have := HK1.out; have := HK2.out; have := HJ20.out; have := HK4.out; omega⟩, ⟨by (with_reducible repeat first | apply rA | apply rN | apply rD); exact HO_5.out⟩, ⟨by repeat with_reducible first | exact HB.out | apply bA | apply bN | apply bD⟩⟩
                 ·
                  exact absurd (Int.le_antisymm (Int.not_lt.mp (of_decide_eq_false c37b0)) (Int.not_lt.mp (of_decide_eq_false c49b0))) c57
              ·
               rw [if_neg c32] at H
               have c32b0 := decide_eq_false c32
               clear c32
               have H' := Aside0.mk H
               clear H
               go_wp2
               go_roundg k4
               case measure => have := HK1.out; have := HK2.out; have := HJ20.out; have := HK4.out; omega
               case rel => exact ⟨(wrap64 (x10_2 + 1)), (by first | rfl | (simp; done) | (simp [*]; done)), H', ⟨by have := HK1.out; have := HK2.out; have := HJ20.out; have := HK4.out; omega⟩, ⟨by (with_reducible repeat first | apply rA | apply rN | apply rD); exact HO_5.out⟩, ⟨by repeat with_reducible first | exact HB.out | apply bA | apply bN | apply bD⟩⟩
        ·
         rw [if_neg c16] at H
         have c16b0 := decide_eq_false c16
         clear c16
         by_cases c63 : x8_1 = 0; rotate_left
         · rw [if_neg c63] at H; exact absurd H (by simp)
         rw [if_pos c63] at H
         have c63b0 : (x8_1 == 0) = true := beq_iff_eq.mpr c63
         have c63b1 : (x8_1 != 0) = false := bne_eq_false_iff_eq.mpr c63
         clear c63
         replace H := Option.bind_eq_some_iff.mp H
         obtain ⟨t456, A640, H⟩ := H
         replace H : (some t456) = some r := H
         have A64 := Aside0.mk A640
         clear A640
         obtain rfl := Option.some.inj H
         go_wp2_with (first | (go_at_call 9; (with_reducible refine (dancestudiolaw12_awake.calls k2  t456 _ A64.out).mono ?_); rintro e w65 ⟨rfl, hb⟩; replace HO_5 := Aside0.mk (Kd.R_below (by (with_reducible repeat first | apply rA | apply rN | apply rD); exact HO_5.out) hb); replace HB := Aside0.mk (below_step (by repeat with_reducible first | exact HB.out | apply bA | apply bN | apply bD) hb); (try clear hb); (try clear hb2); (try clear hk); (try clear hi)))
         go_ret
         exact ⟨by first | rfl | (simp [errW_none, errW_some] <;> rfl) | (simp [*, errW_none, errW_some] <;> rfl), by repeat with_reducible first | exact HB.out | apply bA | apply bN | apply bD⟩
  ·
   rw [if_neg c7] at H
   have c7b0 : (t362 == 0) = false := beq_eq_false_iff_ne.mpr c7
   have c7b1 : (t362 != 0) = true := bne_iff_ne.mpr c7
   by_cases c66 : (t361.length : Int) = 0
   ·
    rw [if_pos c66] at H
    have c66b0 : ((t361.length : Int) == 0) = true := beq_iff_eq.mpr c66
    have c66b1 : ((t361.length : Int) != 0) = false := bne_eq_false_iff_eq.mpr c66
    clear c66
    replace H := Option.bind_eq_some_iff.mp H
    obtain ⟨t365, A670, H⟩ := H
    replace H : (some t365) = some r := H
    have A67 := Aside0.mk A670
    clear A670
    obtain rfl := Option.some.inj H
    go_enter Try.func8, Try.ntmps8
    go_wp2_with (first | ((with_reducible refine gate_callee (f := 10) rfl ?_); refine goesL_ (some 23) rfl rfl Try.func10 (by kernel_rfl) rfl #[.int .i64 a0, .slice A1 l1.length c1] rfl (by (try simp only [List.map_toArray, List.map_cons, List.map_nil]); first | done | rfl | (simp only [List.length_drop, List.length_take]; rfl)) ?_; (with_reducible refine (share_Split.calls k a0 _ _ l1 t361 t362 _ ?side1 ?side2 A6.out).mono ?_); (case side1 => repeat (first | exact HR1.out | (with_reducible first | apply cA | apply cN | apply cD))); (case side2 => exact HC1.out); rintro e w68 ⟨v363, rfl, ho0, hb⟩; refine ⟨_, rfl, ?_⟩; have HO364 := Aside0.mk (Kd.R_lower ho0 (below_size (by repeat with_reducible first | exact HB.out | apply bA | apply bN | apply bD))); replace HB := Aside0.mk (below_step (by repeat with_reducible first | exact HB.out | apply bA | apply bN | apply bD) hb); (try clear hb); (try clear hb2); (try clear hk); (try clear hi); (try clear ho0); obtain ⟨Ao69, co69, eo69⟩ := Kd.R_slice HO364.out; subst eo69) | (go_at_call 9; (with_reducible refine (dancestudiolaw12_awake.calls k  t365 _ A67.out).mono ?_); rintro e w70 ⟨rfl, hb⟩; replace HO364 := Aside0.mk (Kd.R_below (by (with_reducible repeat first | apply rA | apply rN | apply rD); exact HO364.out) hb); replace HB := Aside0.mk (below_step (by repeat with_reducible first | exact HB.out | apply bA | apply bN | apply bD) hb); (try clear hb); (try clear hb2); (try clear hk); (try clear hi)))
    go_ret
    exact ⟨by first | rfl | (simp [errW_none, errW_some] <;> rfl) | (simp [*, errW_none, errW_some] <;> rfl), by repeat with_reducible first | exact HB.out | apply bA | apply bN | apply bD⟩
   ·
    rw [if_neg c66] at H
    exact absurd H (by simp)

/-- THE ONE PURE STATEMENT of dancestudiolaw12_ShareFair: yours. -/
def dancestudiolaw12_ShareFair.Pure : Prop := ∀ (a0 : Int) (l1 : List Int), (Lit.int .i64 a0).wf = true → l1.length ≤ maxLen → l1.length * 8 ≤ 140737488351232 → (∀ x ∈ l1, (Lit.int .i64 x).wf = true) → ∃ k, dancestudiolaw12_ShareFair.f k a0 l1 = some true
theorem dancestudiolaw12_ShareFair.walk (P : dancestudiolaw12_ShareFair.Pure) (a0 : Int) (a1 : Option Addr) (len1 cap1 : Nat) (z1 : List Int) (w : World) (w0 : (Lit.int .i64 a0).wf = true) (w1 : (a1 = none ∧ len1 = 0 ∧ cap1 = 0 ∧ z1 = []) ∨ ∃ x, a1 = some x ∧ len1 ≤ cap1 ∧ cap1 ≤ maxLen ∧ z1.length = cap1 ∧ (∀ i, i < z1.length → w.cell? (x.add i) = some (.int .i64 (z1.getD i 0))) ∧ ∀ n ∈ z1, (Lit.int .i64 n).wf = true) (y1 : len1 * 8 ≤ 140737488351232) :
  Calls Try.prog 8 #[.int .i64 a0, .slice a1 len1 cap1] w fun e w' => e = .returned (.bool true) ∧ Below w.heap.size w w' := by
 obtain ⟨l1, rfl, hr1, hm1, hw1, hc1⟩ := ReadsInt.ofRowC w1
 obtain ⟨k, h⟩ := P a0 l1 w0 hm1 y1 hw1
 refine (dancestudiolaw12_ShareFair.calls k a0 _ _ l1 true w (Kd.C_of_reads (d := (0 : Int)) (h1 := fun _ => rfl) hr1) hc1 h).mono ?_
 rintro e w' ⟨rfl, hd⟩
 exact ⟨rfl, hd⟩

end Go.Proofs.Ytekbeaogiagidaa.X
