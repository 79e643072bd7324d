-- squeezed
-- written by xprint.py, an own overlay over the kit's print; not trusted: Lean checks it
import Derived.Test.YtmdmajfgpmopbaaX0
import Derived.Test.YtmdmajfgpmopbaaX1
import Derived.Test.YtmdmajfgpmopbaaX4
import Derived.Test.YtmdmajfgpmopbaaX15
import Derived.Test.YtmdmajfgpmopbaaX16
import Derived.Test.YtmdmajfgpmopbaaX17
import Derived.Test.YtmdmajfgpmopbaaX36
import Derived.Test.YtmdmajfgpmopbaaX73
namespace Go.Proofs.Ytmdmajfgpmopbaa.X
open Go.RowKit Go.Proofs.YtmdmajfgpmopbaaW.PrintWords Go.Proofs.YtmdmajfgpmopbaaW.PrintLast Go.Proofs.YtmdmajfgpmopbaaW.PrintMore
attribute [local go_sem] max2_int min2_int max_two min_two max_three min_three max_four min_four   -- for this text's walks alone
set_option linter.unusedVariables false
set_option linter.unusedSimpArgs false

attribute [local go_sem high] eqA35
/-! ### dancestudiolaw43_FloorWay: function 8 -/
def dancestudiolaw43_FloorWay.l0 : Nat → Int → Int → Int → List (S53) → List Int → Option (Bool)
 | 0, _, _, _, _, _ => none
 | k + 1, x3, x14, x15, x709000, x709001 => if x15 < (x709000.length : Int) then (if 0 ≤ x15 then (if 0 ≤ (wrap64 (x15 - 1)) then (if (wrap64 (x15 - 1)) < (x709000.length : Int) then (dancestudiolaw43_FloorWay.l0 k x3 (wrap64 ((wrap64 (x14 + (mx (wrap64 (((rd_T53 x709000 x15).f0.f0) - ((rd_T53 x709000 (wrap64 (x15 - 1))).f0.f0))) (wrap64 (-(wrap64 (((rd_T53 x709000 x15).f0.f0) - ((rd_T53 x709000 (wrap64 (x15 - 1))).f0.f0)))))))) + (mx (wrap64 (((rd_T53 x709000 x15).f0.f1) - ((rd_T53 x709000 (wrap64 (x15 - 1))).f0.f1))) (wrap64 (-(wrap64 (((rd_T53 x709000 x15).f0.f1) - ((rd_T53 x709000 (wrap64 (x15 - 1))).f0.f1)))))))) (wrap64 (x15 + 1)) x709000 x709001) else (none)) else (none)) else (none)) else (if 0 < (x709000.length : Int) then (if 0 ≤ (wrap64 ((x709000.length : Int) - 1)) then (if (wrap64 ((x709000.length : Int) - 1)) < (x709000.length : Int) then ((num_Root.f k (wrap64 ((wrap64 ((wrap64 (((rd_T53 x709000 (wrap64 ((x709000.length : Int) - 1))).f0.f0) - ((rd_T53 x709000 0).f0.f0))) * (wrap64 (((rd_T53 x709000 (wrap64 ((x709000.length : Int) - 1))).f0.f0) - ((rd_T53 x709000 0).f0.f0))))) + (wrap64 ((wrap64 (((rd_T53 x709000 (wrap64 ((x709000.length : Int) - 1))).f0.f1) - ((rd_T53 x709000 0).f0.f1))) * (wrap64 (((rd_T53 x709000 (wrap64 ((x709000.length : Int) - 1))).f0.f1) - ((rd_T53 x709000 0).f0.f1)))))))).bind fun bt830 => (if bt830.2 = 0 then (if x3 ≤ x14 then (if (wrap64 (x3 + (x709001.length : Int))) ≥ bt830.1 then ((dancestudiolaw43_awake.f).bind fun t832 => (some t832)) else (none)) else (none)) else (none))) else (none)) else (none)) else (none))
def dancestudiolaw43_FloorWay.f (k : Nat) (l0_0 : List (S53)) (l0_1 : List Int) : Option (Bool) := (dancestudiolaw43_great.f l0_0 l0_1).bind fun t709 => (if t709 = true then ((dancestudiolaw43_awake.f).bind fun t710 => (some t710)) else ((floor_Way.f k l0_0 l0_1).bind fun bt749 => (if bt749.2 = 0 then ((movement_Reverse.f k l0_0 l0_1).bind fun bt787 => ((floor_Way.f k bt787.1 bt787.2.1).bind fun bt795 => ((floor_Box.f k l0_0 l0_1).bind fun bt797 => ((floor_Box.f k bt787.1 bt787.2.1).bind fun bt804 => (if bt787.2.2 = 0 then (if bt795.2 = 0 then (if bt797.2.2.2.2 = 0 then (if bt804.2.2.2.2 = 0 then (if bt795.1 = bt749.1 then (if (!(bt797.1 == bt804.1) || (!(bt797.2.1 == bt804.2.1))) = true then (none) else (if (!(bt797.2.2.1 == bt804.2.2.1) || (!(bt797.2.2.2.1 == bt804.2.2.2.1))) = true then (none) else (if (l0_0.length : Int) < 2 then (none) else (dancestudiolaw43_FloorWay.l0 k bt749.1 0 1 l0_0 l0_1)))) else (none)) else (none)) else (none)) else (none)) else (none)))))) else (if bt749.1 = 0 then ((dancestudiolaw43_awake.f).bind fun t751 => (some t751)) else (none)))))
theorem dancestudiolaw43_FloorWay.mono_l : ∀ k, (∀ y0 y1 y2 y3 y4, LeO (dancestudiolaw43_FloorWay.l0 k y0 y1 y2 y3 y4) (dancestudiolaw43_FloorWay.l0 (k + 1) y0 y1 y2 y3 y4))
 | 0 => fun _ _ _ _ _ r h => by simp [dancestudiolaw43_FloorWay.l0] at h
 | k + 1 => by
  have ih0 := dancestudiolaw43_FloorWay.mono_l k
  ·
   intro y0 y1 y2 y3 y4
   unfold dancestudiolaw43_FloorWay.l0
   repeat' first
   | (with_reducible exact ih0 _ _ _ _ _)
   | (with_reducible exact floor_Box.mono _ _ _)
   | (with_reducible exact floor_Way.mono _ _ _)
   | (with_reducible exact movement_Reverse.mono _ _ _)
   | (with_reducible exact num_Root.mono _ _)
   | (with_reducible exact LeO.refl _)
   | (with_reducible exact LeO.none _)
   | (with_reducible refine LeO.ite ?_ ?_)
   | (with_reducible refine LeO.bind ?_ (fun _ => ?_))
   | exact ih0 _ _ _ _ _
   | exact floor_Box.mono _ _ _
   | exact floor_Way.mono _ _ _
   | exact movement_Reverse.mono _ _ _
   | exact num_Root.mono _ _
   | exact LeO.none _
   | refine LeO.ite ?_ ?_
   | refine LeO.bind ?_ (fun _ => ?_)
theorem dancestudiolaw43_FloorWay.mono : ∀ a0 a1 k, LeO (dancestudiolaw43_FloorWay.f k a0 a1) (dancestudiolaw43_FloorWay.f (k + 1) a0 a1) := by
 intro a0 a1 k
 have ih0 := dancestudiolaw43_FloorWay.mono_l k
 unfold dancestudiolaw43_FloorWay.f
 repeat' first
   | (with_reducible exact ih0 _ _ _ _ _)
   | (with_reducible exact floor_Box.mono _ _ _)
   | (with_reducible exact floor_Way.mono _ _ _)
   | (with_reducible exact movement_Reverse.mono _ _ _)
   | (with_reducible exact num_Root.mono _ _)
   | (with_reducible exact LeO.refl _)
   | (with_reducible exact LeO.none _)
   | (with_reducible refine LeO.ite ?_ ?_)
   | (with_reducible refine LeO.bind ?_ (fun _ => ?_))
   | exact ih0 _ _ _ _ _
   | exact floor_Box.mono _ _ _
   | exact floor_Way.mono _ _ _
   | exact movement_Reverse.mono _ _ _
   | exact num_Root.mono _ _
   | exact LeO.none _
   | refine LeO.ite ?_ ?_
   | refine LeO.bind ?_ (fun _ => ?_)
def dancestudiolaw43_FloorWay.T16 : Bool × List (List Nat × List Nat) := (true, [([], []), ([0], [0]), ([], []), ([1, 2], [1, 2]), ([3], [3]), ([4], [4]), ([5], [5]), ([], []), ([7], [7]), ([], []), ([9], [9]), ([8, 10], [8, 10]), ([11], [11]), ([12], [12]), ([13], [13]), ([6, 14], [6, 14]), ([], []), ([16], [16]), ([], []), ([17, 18], [17, 18]), ([19], [19]), ([20], [20]), ([21], [21]), ([], []), ([23], [23]), ([], []), ([25], [25]), ([24, 26], [24, 26]), ([27], [27]), ([28], [28]), ([29], [29]), ([22, 30], [22, 30]), ([15, 0, 1, 2, 3, 4, 5, 6, 7, 8, 9, 10, 11, 12, 13, 14, 15], [15]), ([31, 32, 0, 1, 2, 3, 4, 5, 6, 7, 8, 9, 10, 11, 12, 13, 14, 15, 16, 17, 18, 19, 20, 21, 22, 23, 24, 25, 26, 27, 28, 29, 30, 31, 32], [31])])
def dancestudiolaw43_FloorWay.B16 : List Nat := [0, 1, 0, 7, 15, 31, 63, 0, 128, 0, 512, 1920, 3968, 8064, 16256, 32767, 0, 65536, 0, 458752, 983040, 2031616, 4128768, 0, 8388608, 0, 33554432, 125829120, 260046848, 528482304, 1065353216, 2147418112, 65535, 8589934591]
theorem dancestudiolaw43_FloorWay.tab16 : rtab .any (opsOf Try.f8 16) = dancestudiolaw43_FloorWay.T16 := by kernel_rfl
theorem dancestudiolaw43_FloorWay.bits16 : waitsOk dancestudiolaw43_FloorWay.T16.2 dancestudiolaw43_FloorWay.B16 = true := by kernel_rfl
def dancestudiolaw43_FloorWay.T18 : Bool × List (List Nat × List Nat) := (true, [([], []), ([0], [0]), ([1], [1]), ([2], [2]), ([3], [3]), ([], []), ([5], [5]), ([], []), ([7], [7]), ([8], [8]), ([9], [9]), ([6, 10], [6, 10]), ([11], [11]), ([12], [12]), ([], []), ([], []), ([14, 4, 0, 1, 2, 3, 4, 14, 15], [4, 14]), ([15, 13, 16, 0, 1, 2, 3, 4, 5, 6, 7, 8, 9, 10, 11, 12, 13, 14, 15, 16], [13, 15])])
def dancestudiolaw43_FloorWay.B18 : List Nat := [0, 1, 3, 7, 15, 0, 32, 0, 128, 384, 896, 2016, 4064, 8160, 0, 0, 49183, 131071]
theorem dancestudiolaw43_FloorWay.tab18 : rtab .any (opsOf Try.f8 18) = dancestudiolaw43_FloorWay.T18 := by kernel_rfl
theorem dancestudiolaw43_FloorWay.bits18 : waitsOk dancestudiolaw43_FloorWay.T18.2 dancestudiolaw43_FloorWay.B18 = true := by kernel_rfl
set_option maxHeartbeats 8000000 in
set_option maxRecDepth 100000 in
theorem dancestudiolaw43_FloorWay.calls (k : Nat) (A0_0 : Option Addr) (c0_0 : Nat) (l0_0 : List (S53)) (A0_1 : Option Addr) (c0_1 : Nat) (l0_1 : List Int) (r : Bool) (w : World) (hr0_0 : Kd.C k53 w A0_0 l0_0.length l0_0) (hc0_0 : l0_0.length ≤ c0_0) (hr0_1 : Kd.C (Kd.int .i64) w A0_1 l0_1.length l0_1) (hc0_1 : l0_1.length ≤ c0_1) (h : dancestudiolaw43_FloorWay.f k l0_0 l0_1 = some r) :
  Calls Try.prog 8 #[.agg #[.slice A0_0 l0_0.length c0_0, .slice A0_1 l0_1.length c0_1]] w fun e w' => e = .returned (.bool r) ∧ Below w.heap.size w w' := by
 have hu25 := Try.underlying25
 have hu35 := Try.underlying35
 have HR0_0 := Aside0.mk hr0_0
 have HC0_0 := Aside0.mk hc0_0
 clear hr0_0 hc0_0
 have HR0_1 := Aside0.mk hr0_1
 have HC0_1 := Aside0.mk hc0_1
 clear hr0_1 hc0_1
 have HB := Aside0.mk (Below.refl w.heap.size w)
 have H : ((dancestudiolaw43_great.f l0_0 l0_1).bind fun t709 => (if t709 = true then ((dancestudiolaw43_awake.f).bind fun t710 => (some t710)) else ((floor_Way.f k l0_0 l0_1).bind fun bt749 => (if bt749.2 = 0 then ((movement_Reverse.f k l0_0 l0_1).bind fun bt787 => ((floor_Way.f k bt787.1 bt787.2.1).bind fun bt795 => ((floor_Box.f k l0_0 l0_1).bind fun bt797 => ((floor_Box.f k bt787.1 bt787.2.1).bind fun bt804 => (if bt787.2.2 = 0 then (if bt795.2 = 0 then (if bt797.2.2.2.2 = 0 then (if bt804.2.2.2.2 = 0 then (if bt795.1 = bt749.1 then (if (!(bt797.1 == bt804.1) || (!(bt797.2.1 == bt804.2.1))) = true then (none) else (if (!(bt797.2.2.1 == bt804.2.2.1) || (!(bt797.2.2.2.1 == bt804.2.2.2.1))) = true then (none) else (if (l0_0.length : Int) < 2 then (none) else (dancestudiolaw43_FloorWay.l0 k bt749.1 0 1 l0_0 l0_1)))) else (none)) else (none)) else (none)) else (none)) else (none)))))) else (if bt749.1 = 0 then ((dancestudiolaw43_awake.f).bind fun t751 => (some t751)) else (none)))))) = some r := h
 clear h
 replace H := Option.bind_eq_some_iff.mp H
 obtain ⟨t709, A20, H⟩ := H
 replace H : (if t709 = true then ((dancestudiolaw43_awake.f).bind fun t710 => (some t710)) else ((floor_Way.f k l0_0 l0_1).bind fun bt749 => (if bt749.2 = 0 then ((movement_Reverse.f k l0_0 l0_1).bind fun bt787 => ((floor_Way.f k bt787.1 bt787.2.1).bind fun bt795 => ((floor_Box.f k l0_0 l0_1).bind fun bt797 => ((floor_Box.f k bt787.1 bt787.2.1).bind fun bt804 => (if bt787.2.2 = 0 then (if bt795.2 = 0 then (if bt797.2.2.2.2 = 0 then (if bt804.2.2.2.2 = 0 then (if bt795.1 = bt749.1 then (if (!(bt797.1 == bt804.1) || (!(bt797.2.1 == bt804.2.1))) = true then (none) else (if (!(bt797.2.2.1 == bt804.2.2.1) || (!(bt797.2.2.2.1 == bt804.2.2.2.1))) = true then (none) else (if (l0_0.length : Int) < 2 then (none) else (dancestudiolaw43_FloorWay.l0 k bt749.1 0 1 l0_0 l0_1)))) else (none)) else (none)) else (none)) else (none)) else (none)))))) else (if bt749.1 = 0 then ((dancestudiolaw43_awake.f).bind fun t751 => (some t751)) else (none))))) = some r := H
 have A2 := Aside0.mk A20
 clear A20
 by_cases c3 : t709 = true
 ·
  subst c3
  have H1 : ((dancestudiolaw43_awake.f).bind fun t710 => (some t710)) = some r := by rw [if_pos rfl] at H; exact H
  clear H
  have H := H1
  clear H1
  replace H := Option.bind_eq_some_iff.mp H
  obtain ⟨t710, A40, H⟩ := H
  replace H : (some t710) = some r := H
  have A4 := Aside0.mk A40
  clear A40
  obtain rfl := Option.some.inj H
  go_enter Try.func8, Try.ntmps8
  go_wp2_with (first | ((with_reducible refine gate_dst (N := 1) rfl ?_); refine box_event ?hg (N := 1) ?hd (cs := #[.slice A0_0 l0_0.length c0_0, .slice A0_1 l0_1.length c0_1]) (t := 25) ?hr ?_; (case hd => rfl); (case hg => rfl); (case hr => first | (go_simp; done) | (go_simp; rfl)); intro gb708 hg w5 hbox hb; have BK708 := Aside0.mk (hbox); have GW708 := Aside0.mk ((by rw [hg]; exact (below_size (by repeat with_reducible first | exact HB.out | apply bA | apply bN | apply bD)) : w.heap.size ≤ gb708)); have GE708 := GW708; replace HB := Aside0.mk (below_step (by repeat with_reducible first | exact HB.out | apply bA | apply bN | apply bD) hb); clear hb hbox hg; obtain ⟨hcz6_0, hcz6_1, hfz6_0, hfz6_1⟩ := kc2 BK708.out) | ((with_reducible refine gate_callee (f := 9) rfl ?_); refine goesL_ (some 22) rfl rfl Try.func9 (by kernel_rfl) rfl #[.agg #[.slice A0_0 l0_0.length c0_0, .slice A0_1 l0_1.length c0_1]] rfl (by (try simp only [List.map_toArray, List.map_cons, List.map_nil]); first | done | rfl | (simp only [List.length_drop, List.length_take]; rfl)) ?_; (with_reducible refine (dancestudiolaw43_great.calls _ _ l0_0 _ _ l0_1 true _ ?side1 ?side2 ?side3 ?side4 A2.out).mono ?_); (case side1 => repeat (first | exact (Kd.C_below HR0_0.out HB.out) | (with_reducible first | apply cA | apply cN | apply cD))); (case side2 => exact HC0_0.out); (case side3 => repeat (first | exact (Kd.C_below HR0_1.out HB.out) | (with_reducible first | apply cA | apply cN | apply cD))); (case side4 => exact HC0_1.out); rintro e w7 ⟨rfl, hb⟩; refine ⟨_, rfl, ?_⟩; replace BK708 := Aside0.mk (blk_below (o := .cells #[.slice A0_0 l0_0.length c0_0, .slice A0_1 l0_1.length c0_1] 25 (0, 0)) (by with_reducible repeat first | exact BK708.out | apply kN | apply kD | apply kA) hb); replace HB := Aside0.mk (below_step (by repeat with_reducible first | exact HB.out | apply bA | apply bN | apply bD | refine bS ?_ GE708.out) hb); (try clear hb); (try clear hb2); (try clear hk); (try clear hi)) | ((with_reducible refine gate_callee (f := 10) rfl ?_); refine goesL_ (some 23) rfl rfl Try.func10 (by kernel_rfl) rfl #[] rfl (by (try simp only [List.map_toArray, List.map_cons, List.map_nil]); first | done | rfl | (simp only [List.length_drop, List.length_take]; rfl)) ?_; (with_reducible refine (dancestudiolaw43_awake.calls  t710 _ A4.out).mono ?_); rintro e w8 ⟨rfl, hb⟩; refine ⟨_, rfl, ?_⟩; replace BK708 := Aside0.mk (blk_below (o := .cells #[.slice A0_0 l0_0.length c0_0, .slice A0_1 l0_1.length c0_1] 25 (0, 0)) (by with_reducible repeat first | exact BK708.out | apply kN | apply kD | apply kA) hb); replace HB := Aside0.mk (below_step (by repeat with_reducible first | exact HB.out | apply bA | apply bN | apply bD | refine bS ?_ GE708.out) hb); (try clear hb); (try clear hb2); (try clear hk); (try clear hi)))
  go_ret
  exact ⟨by first | rfl | (simp [errW_none, errW_some] <;> rfl) | (simp [*, errW_none, errW_some] <;> rfl), by repeat with_reducible first | exact HB.out | apply bA | apply bN | apply bD | refine bS ?_ GE708.out⟩
 ·
  replace c3 := Bool.eq_false_iff.mpr c3
  subst c3
  have H1 : ((floor_Way.f k l0_0 l0_1).bind fun bt749 => (if bt749.2 = 0 then ((movement_Reverse.f k l0_0 l0_1).bind fun bt787 => ((floor_Way.f k bt787.1 bt787.2.1).bind fun bt795 => ((floor_Box.f k l0_0 l0_1).bind fun bt797 => ((floor_Box.f k bt787.1 bt787.2.1).bind fun bt804 => (if bt787.2.2 = 0 then (if bt795.2 = 0 then (if bt797.2.2.2.2 = 0 then (if bt804.2.2.2.2 = 0 then (if bt795.1 = bt749.1 then (if (!(bt797.1 == bt804.1) || (!(bt797.2.1 == bt804.2.1))) = true then (none) else (if (!(bt797.2.2.1 == bt804.2.2.1) || (!(bt797.2.2.2.1 == bt804.2.2.2.1))) = true then (none) else (if (l0_0.length : Int) < 2 then (none) else (dancestudiolaw43_FloorWay.l0 k bt749.1 0 1 l0_0 l0_1)))) else (none)) else (none)) else (none)) else (none)) else (none)))))) else (if bt749.1 = 0 then ((dancestudiolaw43_awake.f).bind fun t751 => (some t751)) else (none)))) = some r := by rw [if_neg (show ¬ (false = true) by decide)] at H; exact H
  clear H
  have H := H1
  clear H1
  replace H := Option.bind_eq_some_iff.mp H
  obtain ⟨⟨t749, t750⟩, A90, H⟩ := H
  replace H : (if t750 = 0 then ((movement_Reverse.f k l0_0 l0_1).bind fun bt787 => ((floor_Way.f k bt787.1 bt787.2.1).bind fun bt795 => ((floor_Box.f k l0_0 l0_1).bind fun bt797 => ((floor_Box.f k bt787.1 bt787.2.1).bind fun bt804 => (if bt787.2.2 = 0 then (if bt795.2 = 0 then (if bt797.2.2.2.2 = 0 then (if bt804.2.2.2.2 = 0 then (if bt795.1 = t749 then (if (!(bt797.1 == bt804.1) || (!(bt797.2.1 == bt804.2.1))) = true then (none) else (if (!(bt797.2.2.1 == bt804.2.2.1) || (!(bt797.2.2.2.1 == bt804.2.2.2.1))) = true then (none) else (if (l0_0.length : Int) < 2 then (none) else (dancestudiolaw43_FloorWay.l0 k t749 0 1 l0_0 l0_1)))) else (none)) else (none)) else (none)) else (none)) else (none)))))) else (if t749 = 0 then ((dancestudiolaw43_awake.f).bind fun t751 => (some t751)) else (none))) = some r := H
  have A9 := Aside0.mk A90
  clear A90
  by_cases c10 : t750 = 0
  ·
   rw [if_pos c10] at H
   have c10b0 : (t750 == 0) = true := beq_iff_eq.mpr c10
   have c10b1 : (t750 != 0) = false := bne_eq_false_iff_eq.mpr c10
   clear c10
   replace H := Option.bind_eq_some_iff.mp H
   obtain ⟨⟨t787, t790, t793⟩, A110, H⟩ := H
   replace H : ((floor_Way.f k t787 t790).bind fun bt795 => ((floor_Box.f k l0_0 l0_1).bind fun bt797 => ((floor_Box.f k t787 t790).bind fun bt804 => (if t793 = 0 then (if bt795.2 = 0 then (if bt797.2.2.2.2 = 0 then (if bt804.2.2.2.2 = 0 then (if bt795.1 = t749 then (if (!(bt797.1 == bt804.1) || (!(bt797.2.1 == bt804.2.1))) = true then (none) else (if (!(bt797.2.2.1 == bt804.2.2.1) || (!(bt797.2.2.2.1 == bt804.2.2.2.1))) = true then (none) else (if (l0_0.length : Int) < 2 then (none) else (dancestudiolaw43_FloorWay.l0 k t749 0 1 l0_0 l0_1)))) else (none)) else (none)) else (none)) else (none)) else (none))))) = some r := H
   have A11 := Aside0.mk A110
   clear A110
   replace H := Option.bind_eq_some_iff.mp H
   obtain ⟨⟨t795, t796⟩, A120, H⟩ := H
   replace H : ((floor_Box.f k l0_0 l0_1).bind fun bt797 => ((floor_Box.f k t787 t790).bind fun bt804 => (if t793 = 0 then (if t796 = 0 then (if bt797.2.2.2.2 = 0 then (if bt804.2.2.2.2 = 0 then (if t795 = t749 then (if (!(bt797.1 == bt804.1) || (!(bt797.2.1 == bt804.2.1))) = true then (none) else (if (!(bt797.2.2.1 == bt804.2.2.1) || (!(bt797.2.2.2.1 == bt804.2.2.2.1))) = true then (none) else (if (l0_0.length : Int) < 2 then (none) else (dancestudiolaw43_FloorWay.l0 k t749 0 1 l0_0 l0_1)))) else (none)) else (none)) else (none)) else (none)) else (none)))) = some r := H
   have A12 := Aside0.mk A120
   clear A120
   replace H := Option.bind_eq_some_iff.mp H
   obtain ⟨⟨t797, t798, t799, t800, t801⟩, A130, H⟩ := H
   replace H : ((floor_Box.f k t787 t790).bind fun bt804 => (if t793 = 0 then (if t796 = 0 then (if t801 = 0 then (if bt804.2.2.2.2 = 0 then (if t795 = t749 then (if (!(t797 == bt804.1) || (!(t798 == bt804.2.1))) = true then (none) else (if (!(t799 == bt804.2.2.1) || (!(t800 == bt804.2.2.2.1))) = true then (none) else (if (l0_0.length : Int) < 2 then (none) else (dancestudiolaw43_FloorWay.l0 k t749 0 1 l0_0 l0_1)))) else (none)) else (none)) else (none)) else (none)) else (none))) = some r := H
   have A13 := Aside0.mk A130
   clear A130
   replace H := Option.bind_eq_some_iff.mp H
   obtain ⟨⟨t804, t805, t806, t807, t808⟩, A140, H⟩ := H
   replace H : (if t793 = 0 then (if t796 = 0 then (if t801 = 0 then (if t808 = 0 then (if t795 = t749 then (if (!(t797 == t804) || (!(t798 == t805))) = true then (none) else (if (!(t799 == t806) || (!(t800 == t807))) = true then (none) else (if (l0_0.length : Int) < 2 then (none) else (dancestudiolaw43_FloorWay.l0 k t749 0 1 l0_0 l0_1)))) else (none)) else (none)) else (none)) else (none)) else (none)) = some r := H
   have A14 := Aside0.mk A140
   clear A140
   by_cases c15 : t793 = 0; rotate_left
   · rw [if_neg c15] at H; exact absurd H (by simp)
   rw [if_pos c15] at H
   have c15b0 : (t793 == 0) = true := beq_iff_eq.mpr c15
   have c15b1 : (t793 != 0) = false := bne_eq_false_iff_eq.mpr c15
   clear c15
   by_cases c16 : t796 = 0; rotate_left
   · rw [if_neg c16] at H; exact absurd H (by simp)
   rw [if_pos c16] at H
   have c16b0 : (t796 == 0) = true := beq_iff_eq.mpr c16
   have c16b1 : (t796 != 0) = false := bne_eq_false_iff_eq.mpr c16
   clear c16
   by_cases c17 : t801 = 0; rotate_left
   · rw [if_neg c17] at H; exact absurd H (by simp)
   rw [if_pos c17] at H
   have c17b0 : (t801 == 0) = true := beq_iff_eq.mpr c17
   have c17b1 : (t801 != 0) = false := bne_eq_false_iff_eq.mpr c17
   clear c17
   by_cases c18 : t808 = 0; rotate_left
   · rw [if_neg c18] at H; exact absurd H (by simp)
   rw [if_pos c18] at H
   have c18b0 : (t808 == 0) = true := beq_iff_eq.mpr c18
   have c18b1 : (t808 != 0) = false := bne_eq_false_iff_eq.mpr c18
   clear c18
   by_cases c19 : t795 = t749; rotate_left
   · rw [if_neg c19] at H; exact absurd H (by simp)
   rw [if_pos c19] at H
   have c19b0 : (t795 == t749) = true := beq_iff_eq.mpr c19
   have c19b1 : (t795 != t749) = false := bne_eq_false_iff_eq.mpr c19
   clear c19
   by_cases c20 : (!(t797 == t804) || (!(t798 == t805))) = true
   · rw [if_pos c20] at H; exact absurd H (by simp)
   rw [if_neg c20] at H
   have c20b0 : (!(t797 == t804) || (!(t798 == t805))) = false := by simpa using c20
   clear c20
   by_cases c21 : (!(t799 == t806) || (!(t800 == t807))) = true
   · rw [if_pos c21] at H; exact absurd H (by simp)
   rw [if_neg c21] at H
   have c21b0 : (!(t799 == t806) || (!(t800 == t807))) = false := by simpa using c21
   clear c21
   by_cases c22 : (l0_0.length : Int) < 2
   · rw [if_pos c22] at H; exact absurd H (by simp)
   rw [if_neg c22] at H
   have c22b0 := decide_eq_false c22
   have c22b1 : decide (l0_0.length < 2) = false := decide_eq_false (by omega)
   clear c22
   have H' := Aside0.mk H
   clear H
   go_enter Try.func8, Try.ntmps8
   go_wp2_with (first | ((with_reducible refine gate_dst (N := 1) rfl ?_); refine box_event ?hg (N := 1) ?hd (cs := #[.slice A0_0 l0_0.length c0_0, .slice A0_1 l0_1.length c0_1]) (t := 25) ?hr ?_; (case hd => rfl); (case hg => rfl); (case hr => first | (go_simp; done) | (go_simp; rfl)); intro gb708 hg w23 hbox hb; have BK708 := Aside0.mk (hbox); have GW708 := Aside0.mk ((by rw [hg]; exact (below_size (by repeat with_reducible first | exact HB.out | apply bA | apply bN | apply bD)) : w.heap.size ≤ gb708)); have GE708 := GW708; replace HB := Aside0.mk (below_step (by repeat with_reducible first | exact HB.out | apply bA | apply bN | apply bD) hb); clear hb hbox hg; obtain ⟨hcz24_0, hcz24_1, hfz24_0, hfz24_1⟩ := kc2 BK708.out) | ((with_reducible refine gate_callee (f := 9) rfl ?_); refine goesL_ (some 22) rfl rfl Try.func9 (by kernel_rfl) rfl #[.agg #[.slice A0_0 l0_0.length c0_0, .slice A0_1 l0_1.length c0_1]] rfl (by (try simp only [List.map_toArray, List.map_cons, List.map_nil]); first | done | rfl | (simp only [List.length_drop, List.length_take]; rfl)) ?_; (with_reducible refine (dancestudiolaw43_great.calls _ _ l0_0 _ _ l0_1 false _ ?side1 ?side2 ?side3 ?side4 A2.out).mono ?_); (case side1 => repeat (first | exact (Kd.C_below HR0_0.out HB.out) | (with_reducible first | apply cA | apply cN | apply cD))); (case side2 => exact HC0_0.out); (case side3 => repeat (first | exact (Kd.C_below HR0_1.out HB.out) | (with_reducible first | apply cA | apply cN | apply cD))); (case side4 => exact HC0_1.out); rintro e w25 ⟨rfl, hb⟩; refine ⟨_, rfl, ?_⟩; replace BK708 := Aside0.mk (blk_below (o := .cells #[.slice A0_0 l0_0.length c0_0, .slice A0_1 l0_1.length c0_1] 25 (0, 0)) (by with_reducible repeat first | exact BK708.out | apply kN | apply kD | apply kA) hb); replace HB := Aside0.mk (below_step (by repeat with_reducible first | exact HB.out | apply bA | apply bN | apply bD | refine bS ?_ GE708.out) hb); (try clear hb); (try clear hb2); (try clear hk); (try clear hi); obtain ⟨hcz26_0, hcz26_1, hfz26_0, hfz26_1⟩ := kc2 BK708.out) | ((with_reducible refine gate_callee (f := 17) rfl ?_); refine goesL_ (some 26) rfl rfl Try.func17 (by kernel_rfl) rfl #[.agg #[.slice A0_0 l0_0.length c0_0, .slice A0_1 l0_1.length c0_1]] rfl (by (try simp only [List.map_toArray, List.map_cons, List.map_nil]); first | done | rfl | (simp only [List.length_drop, List.length_take]; rfl)) ?_; (with_reducible refine (floor_Way.calls k _ _ l0_0 _ _ l0_1 t749 t750 _ ?side1 ?side2 ?side3 ?side4 A9.out).mono ?_); (case side1 => repeat (first | exact (Kd.C_below HR0_0.out HB.out) | (with_reducible first | apply cA | apply cN | apply cD))); (case side2 => exact HC0_0.out); (case side3 => repeat (first | exact (Kd.C_below HR0_1.out HB.out) | (with_reducible first | apply cA | apply cN | apply cD))); (case side4 => exact HC0_1.out); rintro e w27 ⟨rfl, hb⟩; refine ⟨_, rfl, ?_⟩; replace BK708 := Aside0.mk (blk_below (o := .cells #[.slice A0_0 l0_0.length c0_0, .slice A0_1 l0_1.length c0_1] 25 (0, 0)) (by with_reducible repeat first | exact BK708.out | apply kN | apply kD | apply kA) hb); replace HB := Aside0.mk (below_step (by repeat with_reducible first | exact HB.out | apply bA | apply bN | apply bD | refine bS ?_ GE708.out) hb); (try clear hb); (try clear hb2); (try clear hk); (try clear hi); obtain ⟨hcz28_0, hcz28_1, hfz28_0, hfz28_1⟩ := kc2 BK708.out) | ((with_reducible refine gate_callee (f := 23) rfl ?_); refine goesL_ (some 38) rfl rfl Try.func23 (by kernel_rfl) rfl #[.agg #[.slice A0_0 l0_0.length c0_0, .slice A0_1 l0_1.length c0_1]] rfl (by (try simp only [List.map_toArray, List.map_cons, List.map_nil]); first | done | rfl | (simp only [List.length_drop, List.length_take]; rfl)) ?_; (with_reducible refine (movement_Reverse.calls k _ _ l0_0 _ _ l0_1 t787 t790 t793 _ ?side1 ?side2 ?side3 ?side4 A11.out).mono ?_); (case side1 => repeat (first | exact (Kd.C_below HR0_0.out HB.out) | (with_reducible first | apply cA | apply cN | apply cD))); (case side2 => exact HC0_0.out); (case side3 => repeat (first | exact (Kd.C_below HR0_1.out HB.out) | (with_reducible first | apply cA | apply cN | apply cD))); (case side4 => exact HC0_1.out); rintro e w29 ⟨v788, v791, rfl, ho0, ho1, hb⟩; refine ⟨_, rfl, ?_⟩; have HO789 := Aside0.mk (Kd.R_lower ho0 (below_size (by repeat with_reducible first | exact HB.out | apply bA | apply bN | apply bD | refine bS ?_ GE708.out))); have HO792 := Aside0.mk (Kd.R_lower ho1 (below_size (by repeat with_reducible first | exact HB.out | apply bA | apply bN | apply bD | refine bS ?_ GE708.out))); replace BK708 := Aside0.mk (blk_below (o := .cells #[.slice A0_0 l0_0.length c0_0, .slice A0_1 l0_1.length c0_1] 25 (0, 0)) (by with_reducible repeat first | exact BK708.out | apply kN | apply kD | apply kA) hb); replace HB := Aside0.mk (below_step (by repeat with_reducible first | exact HB.out | apply bA | apply bN | apply bD | refine bS ?_ GE708.out) hb); (try clear hb); (try clear hb2); (try clear hk); (try clear hi); (try clear ho0); (try clear ho1)) | ((with_reducible refine gate_dst (N := 5) rfl ?_); refine box_event ?hg (N := 5) ?hd (cs := #[.slice none 0 0, .slice none 0 0]) (t := 25) ?hr ?_; (case hd => rfl); (case hg => rfl); (case hr => first | (go_simp; done) | (go_simp; rfl)); intro gb794 hg w30 hbox hb; replace HO789 := Aside0.mk (Kd.R_below (by (with_reducible repeat first | apply rA | apply rN | apply rD); exact HO789.out) hb); replace HO792 := Aside0.mk (Kd.R_below (by (with_reducible repeat first | apply rA | apply rN | apply rD); exact HO792.out) hb); have BK794 := Aside0.mk (hbox); have GW794 := Aside0.mk ((by rw [hg]; exact (below_size (by repeat with_reducible first | exact HB.out | apply bA | apply bN | apply bD | refine bS ?_ GE708.out)) : w.heap.size ≤ gb794)); have GE794 := GW794; replace HB := Aside0.mk (below_step (by repeat with_reducible first | exact HB.out | apply bA | apply bN | apply bD | refine bS ?_ GE708.out) hb); have NB708_794 := Aside0.mk ((by rw [hg]; exact Nat.ne_of_lt (blk_lt (by with_reducible repeat first | exact BK708.out | apply kN | apply kD | apply kA)) : gb708 ≠ gb794)); have NB794_708 := Aside0.mk ((by rw [hg]; exact Nat.ne_of_gt (blk_lt (by with_reducible repeat first | exact BK708.out | apply kN | apply kD | apply kA)) : gb794 ≠ gb708)); replace BK708 := Aside0.mk (blk_below (o := .cells #[.slice A0_0 l0_0.length c0_0, .slice A0_1 l0_1.length c0_1] 25 (0, 0)) (by with_reducible repeat first | exact BK708.out | apply kN | apply kD | apply kA) hb); clear hb hbox hg; obtain ⟨Ao31, co31, eo31⟩ := Kd.R_slice HO789.out; subst eo31; have hnb32 := NB794_708.out; have hnc32 := NB708_794.out; obtain ⟨hcz33_0, hcz33_1, hfz33_0, hfz33_1⟩ := kc2 BK794.out; obtain ⟨Ao34, co34, eo34⟩ := Kd.R_slice HO792.out; subst eo34) | ((with_reducible refine gate_callee (f := 17) rfl ?_); refine goesL_ (some 43) rfl rfl Try.func17 (by kernel_rfl) rfl #[.agg #[.slice Ao31 t787.length co31, .slice Ao34 t790.length co34]] rfl (by (try simp only [List.map_toArray, List.map_cons, List.map_nil]); first | done | rfl | (simp only [List.length_drop, List.length_take]; rfl)) ?_; (with_reducible refine (floor_Way.calls k _ _ t787 _ _ t790 t795 t796 _ ?side1 ?side2 ?side3 ?side4 A12.out).mono ?_); (case side1 => refine (Kd.R_reads' (e := 53) (base := w.heap.size) (ok := fun k_ => True) (n := t787.length) (c := co31) ?_).2.2; exact (by (with_reducible repeat first | apply rA | apply rN | apply rD); exact (Kd.R_mono (Kd.R_far (p := ⟨gb794, 1, none⟩) (Kd.R_far (p := ⟨gb794, 0, none⟩) (Kd.R_types HO789.out BK794.out (by decide)) (fun _ hk => hk.2) (.slice Ao31 t787.length co31)) (fun _ hk => hk.2) (.slice Ao34 t790.length co34)) (fun _ h_ => h_.1)))); (case side2 => exact (Kd.R_reads' HO789.out).2.1); (case side3 => refine (Kd.R_reads' (e := 3) (base := w.heap.size) (ok := fun k_ => True) (n := t790.length) (c := co34) ?_).2.2; exact (by (with_reducible repeat first | apply rA | apply rN | apply rD); exact (Kd.R_mono (Kd.R_far (p := ⟨gb794, 1, none⟩) (Kd.R_far (p := ⟨gb794, 0, none⟩) (Kd.R_types HO792.out BK794.out (by decide)) (fun _ hk => hk.2) (.slice Ao31 t787.length co31)) (fun _ hk => hk.2) (.slice Ao34 t790.length co34)) (fun _ h_ => h_.1)))); (case side4 => exact (Kd.R_reads' HO792.out).2.1); rintro e w35 ⟨rfl, hb⟩; refine ⟨_, rfl, ?_⟩; replace HO789 := Aside0.mk (Kd.R_below (by (with_reducible repeat first | apply rA | apply rN | apply rD); exact (Kd.R_mono (Kd.R_far (p := ⟨gb794, 1, none⟩) (Kd.R_far (p := ⟨gb794, 0, none⟩) (Kd.R_types HO789.out BK794.out (by decide)) (fun _ hk => hk.2) (.slice Ao31 t787.length co31)) (fun _ hk => hk.2) (.slice Ao34 t790.length co34)) (fun _ h_ => h_.1))) hb); replace HO792 := Aside0.mk (Kd.R_below (by (with_reducible repeat first | apply rA | apply rN | apply rD); exact (Kd.R_mono (Kd.R_far (p := ⟨gb794, 1, none⟩) (Kd.R_far (p := ⟨gb794, 0, none⟩) (Kd.R_types HO792.out BK794.out (by decide)) (fun _ hk => hk.2) (.slice Ao31 t787.length co31)) (fun _ hk => hk.2) (.slice Ao34 t790.length co34)) (fun _ h_ => h_.1))) hb); replace BK708 := Aside0.mk (blk_below (o := .cells #[.slice A0_0 l0_0.length c0_0, .slice A0_1 l0_1.length c0_1] 25 (0, 0)) (by (with_reducible repeat first | apply kN | apply kD | apply kA); refine blk_far ?_ NB708_794.out _; (with_reducible repeat first | apply kN | apply kD | apply kA); refine blk_far ?_ NB708_794.out _; (with_reducible repeat first | apply kN | apply kD | apply kA); exact BK708.out) hb); replace BK794 := Aside0.mk (blk_below (o := .cells #[.slice Ao31 t787.length co31, .slice Ao34 t790.length co34] 25 (0, 0)) (by (with_reducible repeat first | apply kN | apply kD | apply kA); refine blk_put (cs := #[.slice Ao31 t787.length co31, .slice none 0 0]) ?_ 1 _ rfl; (with_reducible repeat first | apply kN | apply kD | apply kA); refine blk_put (cs := #[.slice none 0 0, .slice none 0 0]) ?_ 0 _ rfl; (with_reducible repeat first | apply kN | apply kD | apply kA); exact BK794.out) hb); replace HB := Aside0.mk (below_step (by repeat with_reducible first | exact HB.out | apply bA | apply bN | apply bD | refine bS ?_ GE708.out | refine bS ?_ GE794.out) hb); (try clear hb); (try clear hb2); (try clear hk); (try clear hi); obtain ⟨hcz36_0, hcz36_1, hfz36_0, hfz36_1⟩ := kc2 BK708.out) | ((with_reducible refine gate_callee (f := 15) rfl ?_); refine goesL_ (some 48) rfl rfl Try.func15 (by kernel_rfl) rfl #[.agg #[.slice A0_0 l0_0.length c0_0, .slice A0_1 l0_1.length c0_1]] rfl (by (try simp only [List.map_toArray, List.map_cons, List.map_nil]); first | done | rfl | (simp only [List.length_drop, List.length_take]; rfl)) ?_; (with_reducible refine (floor_Box.calls k _ _ l0_0 _ _ l0_1 t797 t798 t799 t800 t801 _ ?side1 ?side2 ?side3 ?side4 A13.out).mono ?_); (case side1 => repeat (first | exact (Kd.C_below HR0_0.out HB.out) | (with_reducible first | apply cA | apply cN | apply cD))); (case side2 => exact HC0_0.out); (case side3 => repeat (first | exact (Kd.C_below HR0_1.out HB.out) | (with_reducible first | apply cA | apply cN | apply cD))); (case side4 => exact HC0_1.out); rintro e w37 ⟨rfl, hb⟩; refine ⟨_, rfl, ?_⟩; replace HO789 := Aside0.mk (Kd.R_below (by (with_reducible repeat first | apply rA | apply rN | apply rD); exact HO789.out) hb); replace HO792 := Aside0.mk (Kd.R_below (by (with_reducible repeat first | apply rA | apply rN | apply rD); exact HO792.out) hb); replace BK708 := Aside0.mk (blk_below (o := .cells #[.slice A0_0 l0_0.length c0_0, .slice A0_1 l0_1.length c0_1] 25 (0, 0)) (by with_reducible repeat first | exact BK708.out | apply kN | apply kD | apply kA) hb); replace BK794 := Aside0.mk (blk_below (o := .cells #[.slice Ao31 t787.length co31, .slice Ao34 t790.length co34] 25 (0, 0)) (by with_reducible repeat first | exact BK794.out | apply kN | apply kD | apply kA) hb); replace HB := Aside0.mk (below_step (by repeat with_reducible first | exact HB.out | apply bA | apply bN | apply bD | refine bS ?_ GE708.out | refine bS ?_ GE794.out) hb); (try clear hb); (try clear hb2); (try clear hk); (try clear hi)) | ((with_reducible refine gate_dst (N := 8) rfl ?_); refine box_event ?hg (N := 8) ?hd (cs := #[.int .i64 0, .int .i64 0]) (t := 35) ?hr ?_; (case hd => rfl); (case hg => rfl); (case hr => first | (go_simp; done) | (go_simp; rfl)); intro gb802 hg w38 hbox hb; replace HO789 := Aside0.mk (Kd.R_below (by (with_reducible repeat first | apply rA | apply rN | apply rD); exact HO789.out) hb); replace HO792 := Aside0.mk (Kd.R_below (by (with_reducible repeat first | apply rA | apply rN | apply rD); exact HO792.out) hb); have BK802 := Aside0.mk (hbox); have GW802 := Aside0.mk ((by rw [hg]; exact (below_size (by repeat with_reducible first | exact HB.out | apply bA | apply bN | apply bD | refine bS ?_ GE708.out | refine bS ?_ GE794.out)) : w.heap.size ≤ gb802)); have GE802 := GW802; replace HB := Aside0.mk (below_step (by repeat with_reducible first | exact HB.out | apply bA | apply bN | apply bD | refine bS ?_ GE708.out | refine bS ?_ GE794.out) hb); have NB708_802 := Aside0.mk ((by rw [hg]; exact Nat.ne_of_lt (blk_lt (by with_reducible repeat first | exact BK708.out | apply kN | apply kD | apply kA)) : gb708 ≠ gb802)); have NB802_708 := Aside0.mk ((by rw [hg]; exact Nat.ne_of_gt (blk_lt (by with_reducible repeat first | exact BK708.out | apply kN | apply kD | apply kA)) : gb802 ≠ gb708)); replace BK708 := Aside0.mk (blk_below (o := .cells #[.slice A0_0 l0_0.length c0_0, .slice A0_1 l0_1.length c0_1] 25 (0, 0)) (by with_reducible repeat first | exact BK708.out | apply kN | apply kD | apply kA) hb); have NB794_802 := Aside0.mk ((by rw [hg]; exact Nat.ne_of_lt (blk_lt (by with_reducible repeat first | exact BK794.out | apply kN | apply kD | apply kA)) : gb794 ≠ gb802)); have NB802_794 := Aside0.mk ((by rw [hg]; exact Nat.ne_of_gt (blk_lt (by with_reducible repeat first | exact BK794.out | apply kN | apply kD | apply kA)) : gb802 ≠ gb794)); replace BK794 := Aside0.mk (blk_below (o := .cells #[.slice Ao31 t787.length co31, .slice Ao34 t790.length co34] 25 (0, 0)) (by with_reducible repeat first | exact BK794.out | apply kN | apply kD | apply kA) hb); clear hb hbox hg) | ((with_reducible refine gate_dst (N := 9) rfl ?_); refine box_event ?hg (N := 9) ?hd (cs := #[.int .i64 0, .int .i64 0]) (t := 35) ?hr ?_; (case hd => rfl); (case hg => rfl); (case hr => first | (go_simp; done) | (go_simp; rfl)); intro gb803 hg w39 hbox hb; replace HO789 := Aside0.mk (Kd.R_below (by (with_reducible repeat first | apply rA | apply rN | apply rD); exact HO789.out) hb); replace HO792 := Aside0.mk (Kd.R_below (by (with_reducible repeat first | apply rA | apply rN | apply rD); exact HO792.out) hb); have BK803 := Aside0.mk (hbox); have GW803 := Aside0.mk ((by rw [hg]; exact (below_size (by repeat with_reducible first | exact HB.out | apply bA | apply bN | apply bD | refine bS ?_ GE708.out | refine bS ?_ GE794.out | refine bS ?_ GE802.out)) : w.heap.size ≤ gb803)); have GE803 := GW803; replace HB := Aside0.mk (below_step (by repeat with_reducible first | exact HB.out | apply bA | apply bN | apply bD | refine bS ?_ GE708.out | refine bS ?_ GE794.out | refine bS ?_ GE802.out) hb); have NB708_803 := Aside0.mk ((by rw [hg]; exact Nat.ne_of_lt (blk_lt (by with_reducible repeat first | exact BK708.out | apply kN | apply kD | apply kA)) : gb708 ≠ gb803)); have NB803_708 := Aside0.mk ((by rw [hg]; exact Nat.ne_of_gt (blk_lt (by with_reducible repeat first | exact BK708.out | apply kN | apply kD | apply kA)) : gb803 ≠ gb708)); replace BK708 := Aside0.mk (blk_below (o := .cells #[.slice A0_0 l0_0.length c0_0, .slice A0_1 l0_1.length c0_1] 25 (0, 0)) (by with_reducible repeat first | exact BK708.out | apply kN | apply kD | apply kA) hb); have NB794_803 := Aside0.mk ((by rw [hg]; exact Nat.ne_of_lt (blk_lt (by with_reducible repeat first | exact BK794.out | apply kN | apply kD | apply kA)) : gb794 ≠ gb803)); have NB803_794 := Aside0.mk ((by rw [hg]; exact Nat.ne_of_gt (blk_lt (by with_reducible repeat first | exact BK794.out | apply kN | apply kD | apply kA)) : gb803 ≠ gb794)); replace BK794 := Aside0.mk (blk_below (o := .cells #[.slice Ao31 t787.length co31, .slice Ao34 t790.length co34] 25 (0, 0)) (by with_reducible repeat first | exact BK794.out | apply kN | apply kD | apply kA) hb); have NB802_803 := Aside0.mk ((by rw [hg]; exact Nat.ne_of_lt (blk_lt (by with_reducible repeat first | exact BK802.out | apply kN | apply kD | apply kA)) : gb802 ≠ gb803)); have NB803_802 := Aside0.mk ((by rw [hg]; exact Nat.ne_of_gt (blk_lt (by with_reducible repeat first | exact BK802.out | apply kN | apply kD | apply kA)) : gb803 ≠ gb802)); replace BK802 := Aside0.mk (blk_below (o := .cells #[.int .i64 0, .int .i64 0] 35 (0, 0)) (by with_reducible repeat first | exact BK802.out | apply kN | apply kD | apply kA) hb); clear hb hbox hg; have hnb40 := NB802_708.out; have hnc40 := NB708_802.out; have hnb41 := NB802_794.out; have hnc41 := NB794_802.out; have hnb42 := NB802_803.out; have hnc42 := NB803_802.out; obtain ⟨hcz43_0, hcz43_1, hfz43_0, hfz43_1⟩ := kc2 BK802.out; have hnb44 := NB803_708.out; have hnc44 := NB708_803.out; have hnb45 := NB803_794.out; have hnc45 := NB794_803.out; obtain ⟨hcz46_0, hcz46_1, hfz46_0, hfz46_1⟩ := kc2 BK803.out; obtain ⟨hcz47_0, hcz47_1, hfz47_0, hfz47_1⟩ := kc2 BK794.out) | ((with_reducible refine gate_callee (f := 15) rfl ?_); refine goesL_ (some 54) rfl rfl Try.func15 (by kernel_rfl) rfl #[.agg #[.slice Ao31 t787.length co31, .slice Ao34 t790.length co34]] rfl (by (try simp only [List.map_toArray, List.map_cons, List.map_nil]); first | done | rfl | (simp only [List.length_drop, List.length_take]; rfl)) ?_; (with_reducible refine (floor_Box.calls k _ _ t787 _ _ t790 t804 t805 t806 t807 t808 _ ?side1 ?side2 ?side3 ?side4 A14.out).mono ?_); (case side1 => refine (Kd.R_reads' (e := 53) (base := w.heap.size) (ok := fun k_ => True) (n := t787.length) (c := co31) ?_).2.2; exact (by (with_reducible repeat first | apply rA | apply rN | apply rD); exact (Kd.R_mono (Kd.R_mono (Kd.R_far (p := ⟨gb803, 1, none⟩) (Kd.R_far (p := ⟨gb803, 0, none⟩) (Kd.R_far (p := ⟨gb802, 1, none⟩) (Kd.R_far (p := ⟨gb802, 0, none⟩) (Kd.R_types (Kd.R_types HO789.out BK802.out (by decide)) BK803.out (by decide)) (fun _ hk => hk.1.2) (.int .i64 t797)) (fun _ hk => hk.1.2) (.int .i64 t798)) (fun _ hk => hk.2) (.int .i64 t799)) (fun _ hk => hk.2) (.int .i64 t800)) (fun _ h_ => h_.1)) (fun _ h_ => h_.1)))); (case side2 => exact (Kd.R_reads' HO789.out).2.1); (case side3 => refine (Kd.R_reads' (e := 3) (base := w.heap.size) (ok := fun k_ => True) (n := t790.length) (c := co34) ?_).2.2; exact (by (with_reducible repeat first | apply rA | apply rN | apply rD); exact (Kd.R_mono (Kd.R_mono (Kd.R_far (p := ⟨gb803, 1, none⟩) (Kd.R_far (p := ⟨gb803, 0, none⟩) (Kd.R_far (p := ⟨gb802, 1, none⟩) (Kd.R_far (p := ⟨gb802, 0, none⟩) (Kd.R_types (Kd.R_types HO792.out BK802.out (by decide)) BK803.out (by decide)) (fun _ hk => hk.1.2) (.int .i64 t797)) (fun _ hk => hk.1.2) (.int .i64 t798)) (fun _ hk => hk.2) (.int .i64 t799)) (fun _ hk => hk.2) (.int .i64 t800)) (fun _ h_ => h_.1)) (fun _ h_ => h_.1)))); (case side4 => exact (Kd.R_reads' HO792.out).2.1); rintro e w48 ⟨rfl, hb⟩; refine ⟨_, rfl, ?_⟩; replace HO789 := Aside0.mk (Kd.R_below (by (with_reducible repeat first | apply rA | apply rN | apply rD); exact (Kd.R_mono (Kd.R_mono (Kd.R_far (p := ⟨gb803, 1, none⟩) (Kd.R_far (p := ⟨gb803, 0, none⟩) (Kd.R_far (p := ⟨gb802, 1, none⟩) (Kd.R_far (p := ⟨gb802, 0, none⟩) (Kd.R_types (Kd.R_types HO789.out BK802.out (by decide)) BK803.out (by decide)) (fun _ hk => hk.1.2) (.int .i64 t797)) (fun _ hk => hk.1.2) (.int .i64 t798)) (fun _ hk => hk.2) (.int .i64 t799)) (fun _ hk => hk.2) (.int .i64 t800)) (fun _ h_ => h_.1)) (fun _ h_ => h_.1))) hb); replace HO792 := Aside0.mk (Kd.R_below (by (with_reducible repeat first | apply rA | apply rN | apply rD); exact (Kd.R_mono (Kd.R_mono (Kd.R_far (p := ⟨gb803, 1, none⟩) (Kd.R_far (p := ⟨gb803, 0, none⟩) (Kd.R_far (p := ⟨gb802, 1, none⟩) (Kd.R_far (p := ⟨gb802, 0, none⟩) (Kd.R_types (Kd.R_types HO792.out BK802.out (by decide)) BK803.out (by decide)) (fun _ hk => hk.1.2) (.int .i64 t797)) (fun _ hk => hk.1.2) (.int .i64 t798)) (fun _ hk => hk.2) (.int .i64 t799)) (fun _ hk => hk.2) (.int .i64 t800)) (fun _ h_ => h_.1)) (fun _ h_ => h_.1))) hb); replace BK708 := Aside0.mk (blk_below (o := .cells #[.slice A0_0 l0_0.length c0_0, .slice A0_1 l0_1.length c0_1] 25 (0, 0)) (by (with_reducible repeat first | apply kN | apply kD | apply kA); refine blk_far ?_ NB708_803.out _; (with_reducible repeat first | apply kN | apply kD | apply kA); refine blk_far ?_ NB708_803.out _; (with_reducible repeat first | apply kN | apply kD | apply kA); refine blk_far ?_ NB708_802.out _; (with_reducible repeat first | apply kN | apply kD | apply kA); refine blk_far ?_ NB708_802.out _; (with_reducible repeat first | apply kN | apply kD | apply kA); exact BK708.out) hb); replace BK794 := Aside0.mk (blk_below (o := .cells #[.slice Ao31 t787.length co31, .slice Ao34 t790.length co34] 25 (0, 0)) (by (with_reducible repeat first | apply kN | apply kD | apply kA); refine blk_far ?_ NB794_803.out _; (with_reducible repeat first | apply kN | apply kD | apply kA); refine blk_far ?_ NB794_803.out _; (with_reducible repeat first | apply kN | apply kD | apply kA); refine blk_far ?_ NB794_802.out _; (with_reducible repeat first | apply kN | apply kD | apply kA); refine blk_far ?_ NB794_802.out _; (with_reducible repeat first | apply kN | apply kD | apply kA); exact BK794.out) hb); replace BK802 := Aside0.mk (blk_below (o := .cells #[.int .i64 t797, .int .i64 t798] 35 (0, 0)) (by (with_reducible repeat first | apply kN | apply kD | apply kA); refine blk_far ?_ NB802_803.out _; (with_reducible repeat first | apply kN | apply kD | apply kA); refine blk_far ?_ NB802_803.out _; (with_reducible repeat first | apply kN | apply kD | apply kA); refine blk_put (cs := #[.int .i64 t797, .int .i64 0]) ?_ 1 _ rfl; (with_reducible repeat first | apply kN | apply kD | apply kA); refine blk_put (cs := #[.int .i64 0, .int .i64 0]) ?_ 0 _ rfl; (with_reducible repeat first | apply kN | apply kD | apply kA); exact BK802.out) hb); replace BK803 := Aside0.mk (blk_below (o := .cells #[.int .i64 t799, .int .i64 t800] 35 (0, 0)) (by (with_reducible repeat first | apply kN | apply kD | apply kA); refine blk_put (cs := #[.int .i64 t799, .int .i64 0]) ?_ 1 _ rfl; (with_reducible repeat first | apply kN | apply kD | apply kA); refine blk_put (cs := #[.int .i64 0, .int .i64 0]) ?_ 0 _ rfl; (with_reducible repeat first | apply kN | apply kD | apply kA); refine blk_far ?_ NB803_802.out _; (with_reducible repeat first | apply kN | apply kD | apply kA); refine blk_far ?_ NB803_802.out _; (with_reducible repeat first | apply kN | apply kD | apply kA); exact BK803.out) hb); replace HB := Aside0.mk (below_step (by repeat with_reducible first | exact HB.out | apply bA | apply bN | apply bD | refine bS ?_ GE708.out | refine bS ?_ GE794.out | refine bS ?_ GE802.out | refine bS ?_ GE803.out) hb); (try clear hb); (try clear hb2); (try clear hk); (try clear hi)) | ((with_reducible refine gate_dst (N := 11) rfl ?_); refine box_event ?hg (N := 11) ?hd (cs := #[.int .i64 0, .int .i64 0]) (t := 35) ?hr ?_; (case hd => rfl); (case hg => rfl); (case hr => first | (go_simp; done) | (go_simp; rfl)); intro gb809 hg w49 hbox hb; replace HO789 := Aside0.mk (Kd.R_below (by (with_reducible repeat first | apply rA | apply rN | apply rD); exact HO789.out) hb); replace HO792 := Aside0.mk (Kd.R_below (by (with_reducible repeat first | apply rA | apply rN | apply rD); exact HO792.out) hb); have BK809 := Aside0.mk (hbox); have GW809 := Aside0.mk ((by rw [hg]; exact (below_size (by repeat with_reducible first | exact HB.out | apply bA | apply bN | apply bD | refine bS ?_ GE708.out | refine bS ?_ GE794.out | refine bS ?_ GE802.out | refine bS ?_ GE803.out)) : w.heap.size ≤ gb809)); have GE809 := GW809; replace HB := Aside0.mk (below_step (by repeat with_reducible first | exact HB.out | apply bA | apply bN | apply bD | refine bS ?_ GE708.out | refine bS ?_ GE794.out | refine bS ?_ GE802.out | refine bS ?_ GE803.out) hb); have NB708_809 := Aside0.mk ((by rw [hg]; exact Nat.ne_of_lt (blk_lt (by with_reducible repeat first | exact BK708.out | apply kN | apply kD | apply kA)) : gb708 ≠ gb809)); have NB809_708 := Aside0.mk ((by rw [hg]; exact Nat.ne_of_gt (blk_lt (by with_reducible repeat first | exact BK708.out | apply kN | apply kD | apply kA)) : gb809 ≠ gb708)); replace BK708 := Aside0.mk (blk_below (o := .cells #[.slice A0_0 l0_0.length c0_0, .slice A0_1 l0_1.length c0_1] 25 (0, 0)) (by with_reducible repeat first | exact BK708.out | apply kN | apply kD | apply kA) hb); have NB794_809 := Aside0.mk ((by rw [hg]; exact Nat.ne_of_lt (blk_lt (by with_reducible repeat first | exact BK794.out | apply kN | apply kD | apply kA)) : gb794 ≠ gb809)); have NB809_794 := Aside0.mk ((by rw [hg]; exact Nat.ne_of_gt (blk_lt (by with_reducible repeat first | exact BK794.out | apply kN | apply kD | apply kA)) : gb809 ≠ gb794)); replace BK794 := Aside0.mk (blk_below (o := .cells #[.slice Ao31 t787.length co31, .slice Ao34 t790.length co34] 25 (0, 0)) (by with_reducible repeat first | exact BK794.out | apply kN | apply kD | apply kA) hb); have NB802_809 := Aside0.mk ((by rw [hg]; exact Nat.ne_of_lt (blk_lt (by with_reducible repeat first | exact BK802.out | apply kN | apply kD | apply kA)) : gb802 ≠ gb809)); have NB809_802 := Aside0.mk ((by rw [hg]; exact Nat.ne_of_gt (blk_lt (by with_reducible repeat first | exact BK802.out | apply kN | apply kD | apply kA)) : gb809 ≠ gb802)); replace BK802 := Aside0.mk (blk_below (o := .cells #[.int .i64 t797, .int .i64 t798] 35 (0, 0)) (by with_reducible repeat first | exact BK802.out | apply kN | apply kD | apply kA) hb); have NB803_809 := Aside0.mk ((by rw [hg]; exact Nat.ne_of_lt (blk_lt (by with_reducible repeat first | exact BK803.out | apply kN | apply kD | apply kA)) : gb803 ≠ gb809)); have NB809_803 := Aside0.mk ((by rw [hg]; exact Nat.ne_of_gt (blk_lt (by with_reducible repeat first | exact BK803.out | apply kN | apply kD | apply kA)) : gb809 ≠ gb803)); replace BK803 := Aside0.mk (blk_below (o := .cells #[.int .i64 t799, .int .i64 t800] 35 (0, 0)) (by with_reducible repeat first | exact BK803.out | apply kN | apply kD | apply kA) hb); clear hb hbox hg) | ((with_reducible refine gate_dst (N := 12) rfl ?_); refine box_event ?hg (N := 12) ?hd (cs := #[.int .i64 0, .int .i64 0]) (t := 35) ?hr ?_; (case hd => rfl); (case hg => rfl); (case hr => first | (go_simp; done) | (go_simp; rfl)); intro gb810 hg w50 hbox hb; replace HO789 := Aside0.mk (Kd.R_below (by (with_reducible repeat first | apply rA | apply rN | apply rD); exact HO789.out) hb); replace HO792 := Aside0.mk (Kd.R_below (by (with_reducible repeat first | apply rA | apply rN | apply rD); exact HO792.out) hb); have BK810 := Aside0.mk (hbox); have GW810 := Aside0.mk ((by rw [hg]; exact (below_size (by repeat with_reducible first | exact HB.out | apply bA | apply bN | apply bD | refine bS ?_ GE708.out | refine bS ?_ GE794.out | refine bS ?_ GE802.out | refine bS ?_ GE803.out | refine bS ?_ GE809.out)) : w.heap.size ≤ gb810)); have GE810 := GW810; replace HB := Aside0.mk (below_step (by repeat with_reducible first | exact HB.out | apply bA | apply bN | apply bD | refine bS ?_ GE708.out | refine bS ?_ GE794.out | refine bS ?_ GE802.out | refine bS ?_ GE803.out | refine bS ?_ GE809.out) hb); have NB708_810 := Aside0.mk ((by rw [hg]; exact Nat.ne_of_lt (blk_lt (by with_reducible repeat first | exact BK708.out | apply kN | apply kD | apply kA)) : gb708 ≠ gb810)); have NB810_708 := Aside0.mk ((by rw [hg]; exact Nat.ne_of_gt (blk_lt (by with_reducible repeat first | exact BK708.out | apply kN | apply kD | apply kA)) : gb810 ≠ gb708)); replace BK708 := Aside0.mk (blk_below (o := .cells #[.slice A0_0 l0_0.length c0_0, .slice A0_1 l0_1.length c0_1] 25 (0, 0)) (by with_reducible repeat first | exact BK708.out | apply kN | apply kD | apply kA) hb); have NB794_810 := Aside0.mk ((by rw [hg]; exact Nat.ne_of_lt (blk_lt (by with_reducible repeat first | exact BK794.out | apply kN | apply kD | apply kA)) : gb794 ≠ gb810)); have NB810_794 := Aside0.mk ((by rw [hg]; exact Nat.ne_of_gt (blk_lt (by with_reducible repeat first | exact BK794.out | apply kN | apply kD | apply kA)) : gb810 ≠ gb794)); replace BK794 := Aside0.mk (blk_below (o := .cells #[.slice Ao31 t787.length co31, .slice Ao34 t790.length co34] 25 (0, 0)) (by with_reducible repeat first | exact BK794.out | apply kN | apply kD | apply kA) hb); have NB802_810 := Aside0.mk ((by rw [hg]; exact Nat.ne_of_lt (blk_lt (by with_reducible repeat first | exact BK802.out | apply kN | apply kD | apply kA)) : gb802 ≠ gb810)); have NB810_802 := Aside0.mk ((by rw [hg]; exact Nat.ne_of_gt (blk_lt (by with_reducible repeat first | exact BK802.out | apply kN | apply kD | apply kA)) : gb810 ≠ gb802)); replace BK802 := Aside0.mk (blk_below (o := .cells #[.int .i64 t797, .int .i64 t798] 35 (0, 0)) (by with_reducible repeat first | exact BK802.out | apply kN | apply kD | apply kA) hb); have NB803_810 := Aside0.mk ((by rw [hg]; exact Nat.ne_of_lt (blk_lt (by with_reducible repeat first | exact BK803.out | apply kN | apply kD | apply kA)) : gb803 ≠ gb810)); have NB810_803 := Aside0.mk ((by rw [hg]; exact Nat.ne_of_gt (blk_lt (by with_reducible repeat first | exact BK803.out | apply kN | apply kD | apply kA)) : gb810 ≠ gb803)); replace BK803 := Aside0.mk (blk_below (o := .cells #[.int .i64 t799, .int .i64 t800] 35 (0, 0)) (by with_reducible repeat first | exact BK803.out | apply kN | apply kD | apply kA) hb); have NB809_810 := Aside0.mk ((by rw [hg]; exact Nat.ne_of_lt (blk_lt (by with_reducible repeat first | exact BK809.out | apply kN | apply kD | apply kA)) : gb809 ≠ gb810)); have NB810_809 := Aside0.mk ((by rw [hg]; exact Nat.ne_of_gt (blk_lt (by with_reducible repeat first | exact BK809.out | apply kN | apply kD | apply kA)) : gb810 ≠ gb809)); replace BK809 := Aside0.mk (blk_below (o := .cells #[.int .i64 0, .int .i64 0] 35 (0, 0)) (by with_reducible repeat first | exact BK809.out | apply kN | apply kD | apply kA) hb); clear hb hbox hg; have hnb51 := NB809_708.out; have hnc51 := NB708_809.out; have hnb52 := NB809_794.out; have hnc52 := NB794_809.out; have hnb53 := NB809_802.out; have hnc53 := NB802_809.out; have hnb54 := NB809_803.out; have hnc54 := NB803_809.out; have hnb55 := NB809_810.out; have hnc55 := NB810_809.out; obtain ⟨hcz56_0, hcz56_1, hfz56_0, hfz56_1⟩ := kc2 BK809.out; have hnb57 := NB810_708.out; have hnc57 := NB708_810.out; have hnb58 := NB810_794.out; have hnc58 := NB794_810.out; have hnb59 := NB810_802.out; have hnc59 := NB802_810.out; have hnb60 := NB810_803.out; have hnc60 := NB803_810.out; obtain ⟨hcz61_0, hcz61_1, hfz61_0, hfz61_1⟩ := kc2 BK810.out; obtain ⟨hcz62_0, hcz62_1, hfz62_0, hfz62_1⟩ := kc2 BK802.out; obtain ⟨hcz63_0, hcz63_1, hfz63_0, hfz63_1⟩ := kc2 BK803.out; obtain ⟨hcz64_0, hcz64_1, hfz64_0, hfz64_1⟩ := kc2 BK708.out))
   go_loopg [14, 15] k (fun kq v14 v15 w' => ∃ (x14_1 x15_1 : Int), v14 = .int .i64 x14_1 ∧ v15 = .int .i64 x15_1 ∧ Aside0 (dancestudiolaw43_FloorWay.l0 kq t749 x14_1 x15_1 l0_0 l0_1 = some r) ∧ Aside0 (kq ≤ k) ∧ Aside0 (Kd.R k53 53 w' w.heap.size (fun _ => True) (.slice Ao31 t787.length co31) t787) ∧ Aside0 (Kd.R (Kd.int .i64) 3 w' w.heap.size (fun _ => True) (.slice Ao34 t790.length co34) t790) ∧ Aside0 (w'.heap[gb708]? = some (.cells #[(.slice A0_0 l0_0.length c0_0), (.slice A0_1 l0_1.length c0_1)] 25 (0, 0))) ∧ Aside0 (w'.heap[gb794]? = some (.cells #[(.slice Ao31 t787.length co31), (.slice Ao34 t790.length co34)] 25 (0, 0))) ∧ Aside0 (w'.heap[gb802]? = some (.cells #[.int .i64 t797, .int .i64 t798] 35 (0, 0))) ∧ Aside0 (w'.heap[gb803]? = some (.cells #[.int .i64 t799, .int .i64 t800] 35 (0, 0))) ∧ Aside0 (w'.heap[gb809]? = some (.cells #[.int .i64 t804, .int .i64 t805] 35 (0, 0))) ∧ Aside0 (w'.heap[gb810]? = some (.cells #[.int .i64 t806, .int .i64 t807] 35 (0, 0))) ∧ Aside0 (Below w.heap.size w w'))
   case atStart => exact ⟨(0), (1), (by first | rfl | (simp; done) | (simp [*]; done)), (by first | rfl | (simp; done) | (simp [*]; done)), H', ⟨Nat.le_refl _⟩, ⟨by (with_reducible repeat first | apply rA | apply rN | apply rD); exact Kd.R_mono (Kd.R_far (p := ⟨gb810, 1, none⟩) (Kd.R_far (p := ⟨gb810, 0, none⟩) (Kd.R_far (p := ⟨gb809, 1, none⟩) (Kd.R_far (p := ⟨gb809, 0, none⟩) (Kd.R_types (Kd.R_types HO789.out BK809.out (by decide)) BK810.out (by decide)) (fun _ hk => hk.1.2) (.int .i64 t804)) (fun _ hk => hk.1.2) (.int .i64 t805)) (fun _ hk => hk.2) (.int .i64 t806)) (fun _ hk => hk.2) (.int .i64 t807)) (fun _ hk => trivial)⟩, ⟨by (with_reducible repeat first | apply rA | apply rN | apply rD); exact Kd.R_mono (Kd.R_far (p := ⟨gb810, 1, none⟩) (Kd.R_far (p := ⟨gb810, 0, none⟩) (Kd.R_far (p := ⟨gb809, 1, none⟩) (Kd.R_far (p := ⟨gb809, 0, none⟩) (Kd.R_types (Kd.R_types HO792.out BK809.out (by decide)) BK810.out (by decide)) (fun _ hk => hk.1.2) (.int .i64 t804)) (fun _ hk => hk.1.2) (.int .i64 t805)) (fun _ hk => hk.2) (.int .i64 t806)) (fun _ hk => hk.2) (.int .i64 t807)) (fun _ hk => trivial)⟩, ⟨by (with_reducible repeat first | apply kN | apply kD | apply kA); refine blk_far ?_ NB708_810.out _; (with_reducible repeat first | apply kN | apply kD | apply kA); refine blk_far ?_ NB708_810.out _; (with_reducible repeat first | apply kN | apply kD | apply kA); refine blk_far ?_ NB708_809.out _; (with_reducible repeat first | apply kN | apply kD | apply kA); refine blk_far ?_ NB708_809.out _; (with_reducible repeat first | apply kN | apply kD | apply kA); exact BK708.out⟩, ⟨by (with_reducible repeat first | apply kN | apply kD | apply kA); refine blk_far ?_ NB794_810.out _; (with_reducible repeat first | apply kN | apply kD | apply kA); refine blk_far ?_ NB794_810.out _; (with_reducible repeat first | apply kN | apply kD | apply kA); refine blk_far ?_ NB794_809.out _; (with_reducible repeat first | apply kN | apply kD | apply kA); refine blk_far ?_ NB794_809.out _; (with_reducible repeat first | apply kN | apply kD | apply kA); exact BK794.out⟩, ⟨by (with_reducible repeat first | apply kN | apply kD | apply kA); refine blk_far ?_ NB802_810.out _; (with_reducible repeat first | apply kN | apply kD | apply kA); refine blk_far ?_ NB802_810.out _; (with_reducible repeat first | apply kN | apply kD | apply kA); refine blk_far ?_ NB802_809.out _; (with_reducible repeat first | apply kN | apply kD | apply kA); refine blk_far ?_ NB802_809.out _; (with_reducible repeat first | apply kN | apply kD | apply kA); exact BK802.out⟩, ⟨by (with_reducible repeat first | apply kN | apply kD | apply kA); refine blk_far ?_ NB803_810.out _; (with_reducible repeat first | apply kN | apply kD | apply kA); refine blk_far ?_ NB803_810.out _; (with_reducible repeat first | apply kN | apply kD | apply kA); refine blk_far ?_ NB803_809.out _; (with_reducible repeat first | apply kN | apply kD | apply kA); refine blk_far ?_ NB803_809.out _; (with_reducible repeat first | apply kN | apply kD | apply kA); exact BK803.out⟩, ⟨by (with_reducible repeat first | apply kN | apply kD | apply kA); refine blk_far ?_ NB809_810.out _; (with_reducible repeat first | apply kN | apply kD | apply kA); refine blk_far ?_ NB809_810.out _; (with_reducible repeat first | apply kN | apply kD | apply kA); refine blk_put (cs := #[.int .i64 t804, .int .i64 0]) ?_ 1 _ rfl; (with_reducible repeat first | apply kN | apply kD | apply kA); refine blk_put (cs := #[.int .i64 0, .int .i64 0]) ?_ 0 _ rfl; (with_reducible repeat first | apply kN | apply kD | apply kA); exact BK809.out⟩, ⟨by (with_reducible repeat first | apply kN | apply kD | apply kA); refine blk_put (cs := #[.int .i64 t806, .int .i64 0]) ?_ 1 _ rfl; (with_reducible repeat first | apply kN | apply kD | apply kA); refine blk_put (cs := #[.int .i64 0, .int .i64 0]) ?_ 0 _ rfl; (with_reducible repeat first | apply kN | apply kD | apply kA); refine blk_far ?_ NB810_809.out _; (with_reducible repeat first | apply kN | apply kD | apply kA); refine blk_far ?_ NB810_809.out _; (with_reducible repeat first | apply kN | apply kD | apply kA); exact BK810.out⟩, ⟨by repeat with_reducible first | exact HB.out | apply bA | apply bN | apply bD | refine bS ?_ GE708.out | refine bS ?_ GE794.out | refine bS ?_ GE802.out | refine bS ?_ GE803.out | refine bS ?_ GE809.out | refine bS ?_ GE810.out⟩⟩
   case round =>
    clear H'
    try clear c1
    try clear c2
    try clear p2
    try clear c3
    try clear c4
    try clear c5
    try clear c6
    try clear c8
    try clear c9
    try clear c10
    try clear c10b0
    try clear c10b1
    try clear c15
    try clear c15b0
    try clear c15b1
    try clear c16
    try clear c16b0
    try clear c16b1
    try clear c17
    try clear c17b0
    try clear c17b1
    try clear c18
    try clear c18b0
    try clear c18b1
    try clear c19
    try clear c19b0
    try clear c19b1
    try clear c20
    try clear c20b0
    try clear c21
    try clear c21b0
    try clear c22
    try clear c22b0
    try clear c22b1
    try clear c23
    try clear c32
    try clear c40
    try clear c41
    try clear c42
    try clear c44
    try clear c45
    try clear c51
    try clear c52
    try clear c53
    try clear c54
    try clear c55
    try clear c57
    try clear c58
    try clear c59
    try clear c60
    try clear hcz24_0
    try clear hcz24_1
    try clear hcz26_0
    try clear hcz26_1
    try clear hcz28_0
    try clear hcz28_1
    try clear hcz33_0
    try clear hcz33_1
    try clear hcz36_0
    try clear hcz36_1
    try clear hcz43_0
    try clear hcz43_1
    try clear hcz46_0
    try clear hcz46_1
    try clear hcz47_0
    try clear hcz47_1
    try clear hcz56_0
    try clear hcz56_1
    try clear hcz61_0
    try clear hcz61_1
    try clear hcz62_0
    try clear hcz62_1
    try clear hcz63_0
    try clear hcz63_1
    try clear hcz64_0
    try clear hcz64_1
    try clear hcz6_0
    try clear hcz6_1
    try clear hfz24_0
    try clear hfz24_1
    try clear hfz26_0
    try clear hfz26_1
    try clear hfz28_0
    try clear hfz28_1
    try clear hfz33_0
    try clear hfz33_1
    try clear hfz36_0
    try clear hfz36_1
    try clear hfz43_0
    try clear hfz43_1
    try clear hfz46_0
    try clear hfz46_1
    try clear hfz47_0
    try clear hfz47_1
    try clear hfz56_0
    try clear hfz56_1
    try clear hfz61_0
    try clear hfz61_1
    try clear hfz62_0
    try clear hfz62_1
    try clear hfz63_0
    try clear hfz63_1
    try clear hfz64_0
    try clear hfz64_1
    try clear hfz6_0
    try clear hfz6_1
    obtain ⟨x14_1, x15_1, rfl, rfl, HA, HK1, HO_795000, HO_795001, BK708, BK794, BK802, BK803, BK809, BK810, HB⟩ := hrel
    cases gk with
    | zero => exact absurd HA.out (by simp [dancestudiolaw43_FloorWay.l0])
    | succ k1 =>
     have H := HA.out
     clear HA
     simp only [dancestudiolaw43_FloorWay.l0] at H
     by_cases c65 : x15_1 < (l0_0.length : Int)
     ·
      rw [if_pos c65] at H
      have c65b0 := decide_eq_true c65
      clear c65
      by_cases c66 : 0 ≤ x15_1; rotate_left
      · rw [if_neg c66] at H; exact absurd H (by simp)
      rw [if_pos c66] at H
      have c66b0 := decide_eq_true c66
      clear c66
      obtain ⟨ji67, hji67⟩ : ∃ j_ : Int, (wrap64 (x15_1 - 1)) = j_ := ⟨_, rfl⟩
      replace H : (if 0 ≤ (ji67) then (if (ji67) < (l0_0.length : Int) then (dancestudiolaw43_FloorWay.l0 k1 t749 (wrap64 ((wrap64 (x14_1 + (mx (wrap64 (((rd_T53 l0_0 x15_1).f0.f0) - ((rd_T53 l0_0 (ji67)).f0.f0))) (wrap64 (-(wrap64 (((rd_T53 l0_0 x15_1).f0.f0) - ((rd_T53 l0_0 (ji67)).f0.f0)))))))) + (mx (wrap64 (((rd_T53 l0_0 x15_1).f0.f1) - ((rd_T53 l0_0 (ji67)).f0.f1))) (wrap64 (-(wrap64 (((rd_T53 l0_0 x15_1).f0.f1) - ((rd_T53 l0_0 (ji67)).f0.f1)))))))) (wrap64 (x15_1 + 1)) l0_0 l0_1) else (none)) else (none)) = some r := by first | (rw [hji67] at H; exact H) | (simp only [hji67] at H ⊢; exact H)
      have hji67w : (IntKind.i64.wrap (x15_1 - 1)) = ji67 := (i64_w _).trans hji67
      by_cases c68 : 0 ≤ (ji67); rotate_left
      · rw [if_neg c68] at H; exact absurd H (by simp)
      rw [if_pos c68] at H
      have c68b0 := decide_eq_true c68
      clear c68
      by_cases c69 : (ji67) < (l0_0.length : Int); rotate_left
      · rw [if_neg c69] at H; exact absurd H (by simp)
      rw [if_pos c69] at H
      have c69b0 := decide_eq_true c69
      clear c69
      obtain ⟨ji70, hji70⟩ : ∃ j_ : Int, (mx (wrap64 (((rd_T53 l0_0 x15_1).f0.f0) - ((rd_T53 l0_0 (ji67)).f0.f0))) (wrap64 (-(wrap64 (((rd_T53 l0_0 x15_1).f0.f0) - ((rd_T53 l0_0 (ji67)).f0.f0)))))) = j_ := ⟨_, rfl⟩
      replace H : (dancestudiolaw43_FloorWay.l0 k1 t749 (wrap64 ((wrap64 (x14_1 + (ji70))) + (mx (wrap64 (((rd_T53 l0_0 x15_1).f0.f1) - ((rd_T53 l0_0 (ji67)).f0.f1))) (wrap64 (-(wrap64 (((rd_T53 l0_0 x15_1).f0.f1) - ((rd_T53 l0_0 (ji67)).f0.f1)))))))) (wrap64 (x15_1 + 1)) l0_0 l0_1) = some r := by first | (rw [hji70] at H; exact H) | (simp only [hji70] at H ⊢; exact H)
      have hji70_ : (if (wrap64 (((rd_T53 l0_0 x15_1).f0.f0) - ((rd_T53 l0_0 (ji67)).f0.f0))) < (wrap64 (-(wrap64 (((rd_T53 l0_0 x15_1).f0.f0) - ((rd_T53 l0_0 (ji67)).f0.f0))))) then (wrap64 (-(wrap64 (((rd_T53 l0_0 x15_1).f0.f0) - ((rd_T53 l0_0 (ji67)).f0.f0))))) else (wrap64 (((rd_T53 l0_0 x15_1).f0.f0) - ((rd_T53 l0_0 (ji67)).f0.f0)))) = ji70 := hji70
      obtain ⟨ji71, hji71⟩ : ∃ j_ : Int, (mx (wrap64 (((rd_T53 l0_0 x15_1).f0.f1) - ((rd_T53 l0_0 (ji67)).f0.f1))) (wrap64 (-(wrap64 (((rd_T53 l0_0 x15_1).f0.f1) - ((rd_T53 l0_0 (ji67)).f0.f1)))))) = j_ := ⟨_, rfl⟩
      replace H : (dancestudiolaw43_FloorWay.l0 k1 t749 (wrap64 ((wrap64 (x14_1 + (ji70))) + (ji71))) (wrap64 (x15_1 + 1)) l0_0 l0_1) = some r := by first | (rw [hji71] at H; exact H) | (simp only [hji71] at H ⊢; exact H)
      have hji71_ : (if (wrap64 (((rd_T53 l0_0 x15_1).f0.f1) - ((rd_T53 l0_0 (ji67)).f0.f1))) < (wrap64 (-(wrap64 (((rd_T53 l0_0 x15_1).f0.f1) - ((rd_T53 l0_0 (ji67)).f0.f1))))) then (wrap64 (-(wrap64 (((rd_T53 l0_0 x15_1).f0.f1) - ((rd_T53 l0_0 (ji67)).f0.f1))))) else (wrap64 (((rd_T53 l0_0 x15_1).f0.f1) - ((rd_T53 l0_0 (ji67)).f0.f1)))) = ji71 := hji71
      have H' := Aside0.mk H
      clear H
      have hnb72 := NB708_794.out
      have hnc72 := NB794_708.out
      have hnb73 := NB708_802.out
      have hnc73 := NB802_708.out
      have hnb74 := NB708_803.out
      have hnc74 := NB803_708.out
      have hnb75 := NB708_809.out
      have hnc75 := NB809_708.out
      have hnb76 := NB708_810.out
      have hnc76 := NB810_708.out
      obtain ⟨hcz77_0, hcz77_1, hfz77_0, hfz77_1⟩ := kc2 BK708.out
      try go_wp2
      have n0_ := Aside0.mk (Kd.R_drew HO_795000.out)
      have n1_ := Aside0.mk (Kd.R_drew HO_795001.out)
      have n2_ := Aside0.mk (blk_drew BK708.out)
      have n3_ := Aside0.mk (blk_drew BK794.out)
      have n4_ := Aside0.mk (blk_drew BK802.out)
      have n5_ := Aside0.mk (blk_drew BK803.out)
      have n6_ := Aside0.mk (blk_drew BK809.out)
      have n7_ := Aside0.mk (blk_drew BK810.out)
      have n8_ := Aside0.mk (below_drew1 HB.out)
      clear HO_795000
      clear HO_795001
      clear BK708
      clear BK794
      clear BK802
      clear BK803
      clear BK809
      clear BK810
      clear HB
      have HO_795000 := n0_
      have HO_795001 := n1_
      have BK708 := n2_
      have BK794 := n3_
      have BK802 := n4_
      have BK803 := n5_
      have BK809 := n6_
      have BK810 := n7_
      have HB := n8_
      clear n0_ n1_ n2_ n3_ n4_ n5_ n6_ n7_ n8_
      have p822 : 0 ≤ (x15_1 : Int) := of_decide_eq_true (by first | (with_reducible assumption) | assumption)
      have q822 : x15_1 < (l0_0.length : Int) := of_decide_eq_true (by first | (with_reducible assumption) | assumption)
      obtain ⟨ad822, e822, hx822_0, _, _, _, _, _, _, _, _, _, _, _, _, _, _, _, _, _, _, _, _, _⟩ := at_T53 HR0_0.out x15_1 p822 q822
      have hw822_0 := hx822_0
      cases e822
      replace hx822_0 := cb HB.out hx822_0
      replace p822 := eq_true p822
      replace q822 := eq_true q822
      have p823 : 0 ≤ ((ji67) : Int) := of_decide_eq_true (by first | (with_reducible assumption) | assumption)
      have q823 : (ji67) < (l0_0.length : Int) := of_decide_eq_true (by first | (with_reducible assumption) | assumption)
      obtain ⟨ad823, e823, hx823_0, _, _, _, _, _, _, _, _, _, _, _, _, _, _, _, _, _, _, _, _, _⟩ := at_T53 HR0_0.out (ji67) p823 q823
      have hw823_0 := hx823_0
      obtain rfl : ad822 = ad823 := (by injection e823)
      replace hx823_0 := cb HB.out hx823_0
      replace p823 := eq_true p823
      replace q823 := eq_true q823
      have p824 : 0 ≤ (x15_1 : Int) := of_decide_eq_true (by first | (with_reducible assumption) | assumption)
      have q824 : x15_1 < (l0_0.length : Int) := of_decide_eq_true (by first | (with_reducible assumption) | assumption)
      obtain ⟨ad824, e824, _, hx824_1, _, _, _, _, _, _, _, _, _, _, _, _, _, _, _, _, _, _, _, _⟩ := at_T53 HR0_0.out x15_1 p824 q824
      have hw824_1 := hx824_1
      obtain rfl : ad822 = ad824 := (by injection e824)
      replace hx824_1 := cb HB.out hx824_1
      replace p824 := eq_true p824
      replace q824 := eq_true q824
      have p825 : 0 ≤ ((ji67) : Int) := of_decide_eq_true (by first | (with_reducible assumption) | assumption)
      have q825 : (ji67) < (l0_0.length : Int) := of_decide_eq_true (by first | (with_reducible assumption) | assumption)
      obtain ⟨ad825, e825, _, hx825_1, _, _, _, _, _, _, _, _, _, _, _, _, _, _, _, _, _, _, _, _⟩ := at_T53 HR0_0.out (ji67) p825 q825
      have hw825_1 := hx825_1
      obtain rfl : ad822 = ad825 := (by injection e825)
      replace hx825_1 := cb HB.out hx825_1
      replace p825 := eq_true p825
      replace q825 := eq_true q825
      refine start_ (n := 34) (S := fun w' => w'.cell? ⟨gb708, 0, none⟩ = some (.slice (some ad822) l0_0.length c0_0) ∧ w'.cell? ⟨gb708, 1, none⟩ = some (.slice A0_1 l0_1.length c0_1) ∧ w'.cell? (ad822.add ((x15_1).toNat * 22)) = some (.int .i64 ((rd_T53 l0_0 x15_1).f0.f0)) ∧ w'.cell? (ad822.add (((ji67)).toNat * 22)) = some (.int .i64 ((rd_T53 l0_0 (ji67)).f0.f0)) ∧ w'.cell? ⟨(ad822.add ((x15_1).toNat * 22)).block, (ad822.add ((x15_1).toNat * 22)).off + 1, none⟩ = some (.int .i64 ((rd_T53 l0_0 x15_1).f0.f1)) ∧ w'.cell? ⟨(ad822.add (((ji67)).toNat * 22)).block, (ad822.add (((ji67)).toNat * 22)).off + 1, none⟩ = some (.int .i64 ((rd_T53 l0_0 (ji67)).f0.f1))) (ds := []) (bm 34 0) (by kernel_rfl) rfl rfl ⟨(blk_cell BK708.out 0).trans rfl, (blk_cell BK708.out 1).trans rfl, (cb HB.out hw822_0), (cb HB.out hw823_0), (cb HB.out hw824_1), (cb HB.out hw825_1)⟩ (fun hHeld => ?_); refine with_tabW dancestudiolaw43_FloorWay.tab16 dancestudiolaw43_FloorWay.bits16 (fun HT_ HW_ => ?_)
      generalize wr.drew = w78 at HO_795000 HO_795001 BK708 BK794 BK802 BK803 BK809 BK810 HB hx822_0 hx823_0 hx824_1 hx825_1 hHeld ⊢
      refine pure_ (i := 0) (N := some 100) (v := ?_) (a' := ?_) (bm 34 1) rfl rfl (any_of HT_.out (by kernel_rfl)) (fun _ _ _ h => h) (Or.inl ⟨by rfl, ?_⟩) ?_ ?_
      rotate_left; (intro w'; go_simp; with_reducible rfl); rotate_left; (simp only [Act.put, aS, lZ, lS, i64_w, i32_w]; rfl)
      refine pure_ (i := 2) (N := some 102) (v := ?_) (a' := ?_) (bm 34 5) rfl rfl (any_of HT_.out (by kernel_rfl)) (fun _ _ _ h => h) (Or.inl ⟨by rfl, ?_⟩) ?_ ?_
      rotate_left; (intro w'; go_simp; with_reducible rfl); rotate_left; (simp only [Act.put, aS, lZ, lS, i64_w, i32_w]; rfl)
      refine pure_ (i := 7) (N := some 107) (v := ?_) (a' := ?_) (bm 34 133) rfl rfl (any_of HT_.out (by kernel_rfl)) (fun _ _ _ h => h) (Or.inl ⟨by rfl, ?_⟩) ?_ ?_
      rotate_left; (intro w'; go_simp; with_reducible rfl); rotate_left; (simp only [Act.put, aS, lZ, lS, i64_w, i32_w]; rfl)
      refine pure_ (i := 9) (N := some 109) (v := ?_) (a' := ?_) (bm 34 645) rfl rfl (any_of HT_.out (by kernel_rfl)) (fun _ _ _ h => h) (Or.inl ⟨by rfl, ?_⟩) ?_ ?_
      rotate_left; (intro w'; go_simp; with_reducible rfl); rotate_left; (simp only [Act.put, aS, lZ, lS, i64_w, i32_w]; rfl)
      refine pure_ (i := 10) (N := some 110) (v := ?_) (a' := ?_) (bm 34 1669) rfl rfl (any_of HT_.out (by kernel_rfl)) (fun _ _ _ h => h) (Or.inl ⟨by rfl, ?_⟩) ?_ ?_
      rotate_left; (intro w'; go_simp; with_reducible rfl); rotate_left; (simp only [Act.put, aS, lZ, lS, i64_w, i32_w]; rfl)
      refine pure_ (i := 16) (N := some 116) (v := ?_) (a' := ?_) (bm 34 67205) rfl rfl (any_of HT_.out (by kernel_rfl)) (fun _ _ _ h => h) (Or.inl ⟨by rfl, ?_⟩) ?_ ?_
      rotate_left; (intro w'; go_simp; with_reducible rfl); rotate_left; (simp only [Act.put, aS, lZ, lS, i64_w, i32_w]; rfl)
      refine pure_ (i := 18) (N := some 118) (v := ?_) (a' := ?_) (bm 34 329349) rfl rfl (any_of HT_.out (by kernel_rfl)) (fun _ _ _ h => h) (Or.inl ⟨by rfl, ?_⟩) ?_ ?_
      rotate_left; (intro w'; go_simp; with_reducible rfl); rotate_left; (simp only [Act.put, aS, lZ, lS, i64_w, i32_w]; rfl)
      refine pure_ (i := 23) (N := some 123) (v := ?_) (a' := ?_) (bm 34 8717957) rfl rfl (any_of HT_.out (by kernel_rfl)) (fun _ _ _ h => h) (Or.inl ⟨by rfl, ?_⟩) ?_ ?_
      rotate_left; (intro w'; go_simp; with_reducible rfl); rotate_left; (simp only [Act.put, aS, lZ, lS, i64_w, i32_w]; rfl)
      refine pure_ (i := 25) (N := some 125) (v := ?_) (a' := ?_) (bm 34 42272389) rfl rfl (any_of HT_.out (by kernel_rfl)) (fun _ _ _ h => h) (Or.inl ⟨by rfl, ?_⟩) ?_ ?_
      rotate_left; (intro w'; go_simp; with_reducible rfl); rotate_left; (simp only [Act.put, aS, lZ, lS, i64_w, i32_w]; rfl)
      refine pure_ (i := 26) (N := some 126) (v := ?_) (a' := ?_) (bm 34 109381253) rfl rfl (any_of HT_.out (by kernel_rfl)) (fun _ _ _ h => h) (Or.inl ⟨by rfl, ?_⟩) ?_ ?_
      rotate_left; (intro w'; go_simp; with_reducible rfl); rotate_left; (simp only [Act.put, aS, lZ, lS, i64_w, i32_w]; rfl)
      refine take_ (i := 1) (N := some 101) (v := ?_) (a' := ?_) (bm 34 109381255) rfl rfl (take_ofW HT_.out HW_.out (by kernel_rfl)) (fun _ _ _ h => h) (Or.inl ⟨by rfl, ?_⟩) hHeld ?_ ?_
      rotate_left
      ·
       rintro w' ⟨s0, s1, s2, s3, s4, s5⟩
       go_simp
       with_reducible rfl
      rotate_left
      ·
       simp only [Act.put, aS, lZ, lS, i64_w, i32_w]
       rfl
      refine pure_ (i := 3) (N := some 103) (v := ?_) (a' := ?_) (bm 34 109381263) rfl rfl (any_of HT_.out (by kernel_rfl)) (fun _ _ _ h => h) (Or.inl ⟨by rfl, ?_⟩) ?_ ?_
      rotate_left; (intro w'; go_simp; with_reducible rfl); rotate_left; (simp only [Act.put, aS, lZ, lS, i64_w, i32_w]; rfl)
      refine pure_ (i := 4) (N := some 104) (v := ?_) (a' := ?_) (bm 34 109381279) rfl rfl (any_of HT_.out (by kernel_rfl)) (fun _ _ _ h => h) (Or.inl ⟨by rfl, ?_⟩) ?_ ?_
      rotate_left; (intro w'; go_simp; with_reducible rfl); rotate_left; (simp only [Act.put, aS, lZ, lS, i64_w, i32_w]; rfl)
      refine pure_ (i := 5) (N := some 105) (v := ?_) (a' := ?_) (bm 34 109381311) rfl rfl (any_of HT_.out (by kernel_rfl)) (fun _ _ _ h => h) (Or.inl ⟨by rfl, ?_⟩) ?_ ?_
      rotate_left; (intro w'; go_simp; with_reducible rfl); rotate_left; (simp only [Act.put, aS, lZ, lS, i64_w, i32_w]; rfl)
      refine take_ (i := 6) (N := some 106) (v := ?_) (a' := ?_) (bm 34 109381375) rfl rfl (take_ofW HT_.out HW_.out (by kernel_rfl)) (fun _ _ _ h => h) (Or.inl ⟨by rfl, ?_⟩) hHeld ?_ ?_
      rotate_left
      ·
       rintro w' ⟨s0, s1, s2, s3, s4, s5⟩
       go_simp
       with_reducible rfl
      rotate_left
      ·
       simp only [Act.put, aS, lZ, lS, i64_w, i32_w]
       rfl
      refine take_ (i := 8) (N := some 108) (v := ?_) (a' := ?_) (bm 34 109381631) rfl rfl (take_ofW HT_.out HW_.out (by kernel_rfl)) (fun _ _ _ h => h) (Or.inl ⟨by rfl, ?_⟩) hHeld ?_ ?_
      rotate_left
      ·
       rintro w' ⟨s0, s1, s2, s3, s4, s5⟩
       go_simp
       with_reducible rfl
      rotate_left
      ·
       simp only [Act.put, aS, lZ, lS, i64_w, i32_w]
       rfl
      refine pure_ (i := 11) (N := some 111) (v := ?_) (a' := ?_) (bm 34 109383679) rfl rfl (any_of HT_.out (by kernel_rfl)) (fun _ _ _ h => h) (Or.inl ⟨by rfl, ?_⟩) ?_ ?_
      rotate_left; (intro w'; go_simp; with_reducible rfl); rotate_left; (simp only [Act.put, aS, lZ, lS, i64_w, i32_w]; rfl)
      refine pure_ (i := 12) (N := some 112) (v := ?_) (a' := ?_) (bm 34 109387775) rfl rfl (any_of HT_.out (by kernel_rfl)) (fun _ _ _ h => h) (Or.inl ⟨by rfl, ?_⟩) ?_ ?_
      rotate_left; (intro w'; go_simp; with_reducible rfl); rotate_left; (simp only [Act.put, aS, lZ, lS, i64_w, i32_w]; rfl)
      refine pure_ (i := 13) (N := some 113) (v := ?_) (a' := ?_) (bm 34 109395967) rfl rfl (any_of HT_.out (by kernel_rfl)) (fun _ _ _ h => h) (Or.inl ⟨by rfl, ?_⟩) ?_ ?_
      rotate_left; (intro w'; go_simp; with_reducible rfl); rotate_left; (simp only [Act.put, aS, lZ, lS, i64_w, i32_w]; rfl)
      refine take_ (i := 14) (N := some 114) (v := ?_) (a' := ?_) (bm 34 109412351) rfl rfl (take_ofW HT_.out HW_.out (by kernel_rfl)) (fun _ _ _ h => h) (Or.inl ⟨by rfl, ?_⟩) hHeld ?_ ?_
      rotate_left
      ·
       rintro w' ⟨s0, s1, s2, s3, s4, s5⟩
       go_simp
       with_reducible rfl
      rotate_left
      ·
       simp only [Act.put, aS, lZ, lS, i64_w, i32_w]
       rfl
      refine pure_ (i := 15) (N := some 115) (v := ?_) (a' := ?_) (bm 34 109445119) rfl rfl (any_of HT_.out (by kernel_rfl)) (fun _ _ _ h => h) (Or.inl ⟨by rfl, ?_⟩) ?_ ?_
      rotate_left; (intro w'; go_simp; with_reducible rfl); rotate_left; (simp only [Act.put, aS, lZ, lS, i64_w, i32_w]; rfl)
      refine pure_ (i := 32) (N := some 16) (v := ?_) (a' := ?_) (bm 34 4404412415) rfl rfl (any_of HT_.out (by kernel_rfl)) (fun _ _ _ h => h) (Or.inl ⟨by rfl, ?_⟩) ?_ ?_
      rotate_left; (intro w'; go_simp; with_reducible rfl); rotate_left; (simp only [Act.put, aS, lZ, lS, i64_w, i32_w]; rfl)
      refine take_ (i := 17) (N := some 117) (v := ?_) (a' := ?_) (bm 34 4404543487) rfl rfl (take_ofW HT_.out HW_.out (by kernel_rfl)) (fun _ _ _ h => h) (Or.inl ⟨by rfl, ?_⟩) hHeld ?_ ?_
      rotate_left
      ·
       rintro w' ⟨s0, s1, s2, s3, s4, s5⟩
       go_simp
       with_reducible rfl
      rotate_left
      ·
       simp only [Act.put, aS, lZ, lS, i64_w, i32_w]
       rfl
      refine pure_ (i := 19) (N := some 119) (v := ?_) (a' := ?_) (bm 34 4405067775) rfl rfl (any_of HT_.out (by kernel_rfl)) (fun _ _ _ h => h) (Or.inl ⟨by rfl, ?_⟩) ?_ ?_
      rotate_left; (intro w'; go_simp; with_reducible rfl); rotate_left; (simp only [Act.put, aS, lZ, lS, i64_w, i32_w]; rfl)
      refine pure_ (i := 20) (N := some 120) (v := ?_) (a' := ?_) (bm 34 4406116351) rfl rfl (any_of HT_.out (by kernel_rfl)) (fun _ _ _ h => h) (Or.inl ⟨by rfl, ?_⟩) ?_ ?_
      rotate_left; (intro w'; go_simp; with_reducible rfl); rotate_left; (simp only [Act.put, aS, lZ, lS, i64_w, i32_w]; rfl)
      refine pure_ (i := 21) (N := some 121) (v := ?_) (a' := ?_) (bm 34 4408213503) rfl rfl (any_of HT_.out (by kernel_rfl)) (fun _ _ _ h => h) (Or.inl ⟨by rfl, ?_⟩) ?_ ?_
      rotate_left; (intro w'; go_simp; with_reducible rfl); rotate_left; (simp only [Act.put, aS, lZ, lS, i64_w, i32_w]; rfl)
      refine take_ (i := 22) (N := some 122) (v := ?_) (a' := ?_) (bm 34 4412407807) rfl rfl (take_ofW HT_.out HW_.out (by kernel_rfl)) (fun _ _ _ h => h) (Or.inl ⟨by rfl, ?_⟩) hHeld ?_ ?_
      rotate_left
      ·
       rintro w' ⟨s0, s1, s2, s3, s4, s5⟩
       go_simp
       with_reducible rfl
      rotate_left
      ·
       simp only [Act.put, aS, lZ, lS, i64_w, i32_w]
       rfl
      refine take_ (i := 24) (N := some 124) (v := ?_) (a' := ?_) (bm 34 4429185023) rfl rfl (take_ofW HT_.out HW_.out (by kernel_rfl)) (fun _ _ _ h => h) (Or.inl ⟨by rfl, ?_⟩) hHeld ?_ ?_
      rotate_left
      ·
       rintro w' ⟨s0, s1, s2, s3, s4, s5⟩
       go_simp
       with_reducible rfl
      rotate_left
      ·
       simp only [Act.put, aS, lZ, lS, i64_w, i32_w]
       rfl
      refine pure_ (i := 27) (N := some 127) (v := ?_) (a' := ?_) (bm 34 4563402751) rfl rfl (any_of HT_.out (by kernel_rfl)) (fun _ _ _ h => h) (Or.inl ⟨by rfl, ?_⟩) ?_ ?_
      rotate_left; (intro w'; go_simp; with_reducible rfl); rotate_left; (simp only [Act.put, aS, lZ, lS, i64_w, i32_w]; rfl)
      refine pure_ (i := 28) (N := some 128) (v := ?_) (a' := ?_) (bm 34 4831838207) rfl rfl (any_of HT_.out (by kernel_rfl)) (fun _ _ _ h => h) (Or.inl ⟨by rfl, ?_⟩) ?_ ?_
      rotate_left; (intro w'; go_simp; with_reducible rfl); rotate_left; (simp only [Act.put, aS, lZ, lS, i64_w, i32_w]; rfl)
      refine pure_ (i := 29) (N := some 129) (v := ?_) (a' := ?_) (bm 34 5368709119) rfl rfl (any_of HT_.out (by kernel_rfl)) (fun _ _ _ h => h) (Or.inl ⟨by rfl, ?_⟩) ?_ ?_
      rotate_left; (intro w'; go_simp; with_reducible rfl); rotate_left; (simp only [Act.put, aS, lZ, lS, i64_w, i32_w]; rfl)
      refine take_ (i := 30) (N := some 130) (v := ?_) (a' := ?_) (bm 34 6442450943) rfl rfl (take_ofW HT_.out HW_.out (by kernel_rfl)) (fun _ _ _ h => h) (Or.inl ⟨by rfl, ?_⟩) hHeld ?_ ?_
      rotate_left
      ·
       rintro w' ⟨s0, s1, s2, s3, s4, s5⟩
       go_simp
       with_reducible rfl
      rotate_left
      ·
       simp only [Act.put, aS, lZ, lS, i64_w, i32_w]
       rfl
      refine pure_ (i := 31) (N := some 131) (v := ?_) (a' := ?_) (bm 34 8589934591) rfl rfl (any_of HT_.out (by kernel_rfl)) (fun _ _ _ h => h) (Or.inl ⟨by rfl, ?_⟩) ?_ ?_
      rotate_left; (intro w'; go_simp; with_reducible rfl); rotate_left; (simp only [Act.put, aS, lZ, lS, i64_w, i32_w]; rfl)
      refine pure_ (i := 33) (N := some 17) (v := ?_) (a' := ?_) (bm 34 17179869183) rfl rfl (any_of HT_.out (by kernel_rfl)) (fun _ _ _ h => h) (Or.inl ⟨by rfl, ?_⟩) ?_ ?_
      rotate_left; (intro w'; go_simp; with_reducible rfl); rotate_left; (simp only [Act.put, aS, lZ, lS, i64_w, i32_w]; rfl)
      refine done_ (done_of HT_.out (by kernel_rfl)) ?_
      try go_wp2
      go_roundg k1
      case measure => have := HK1.out; omega
      case rel => exact ⟨(wrap64 ((wrap64 (x14_1 + (ji70))) + (ji71))), (wrap64 (x15_1 + 1)), (by first | rfl | (simp; done) | (simp only [← hji70, ← hji71] <;> (first | rfl | simp)) | (simp [*]; done)), (by first | rfl | (simp; done) | (simp [*]; done)), H', ⟨by have := HK1.out; omega⟩, ⟨by (with_reducible repeat first | apply rA | apply rN | apply rD); exact HO_795000.out⟩, ⟨by (with_reducible repeat first | apply rA | apply rN | apply rD); exact HO_795001.out⟩, ⟨by (with_reducible repeat first | apply kN | apply kD | apply kA); exact BK708.out⟩, ⟨by (with_reducible repeat first | apply kN | apply kD | apply kA); exact BK794.out⟩, ⟨by (with_reducible repeat first | apply kN | apply kD | apply kA); exact BK802.out⟩, ⟨by (with_reducible repeat first | apply kN | apply kD | apply kA); exact BK803.out⟩, ⟨by (with_reducible repeat first | apply kN | apply kD | apply kA); exact BK809.out⟩, ⟨by (with_reducible repeat first | apply kN | apply kD | apply kA); exact BK810.out⟩, ⟨by repeat with_reducible first | exact HB.out | apply bA | apply bN | apply bD | refine bS ?_ GE708.out | refine bS ?_ GE794.out | refine bS ?_ GE802.out | refine bS ?_ GE803.out | refine bS ?_ GE809.out | refine bS ?_ GE810.out⟩⟩
     ·
      rw [if_neg c65] at H
      have c65b0 := decide_eq_false c65
      clear c65
      by_cases c79 : 0 < (l0_0.length : Int); rotate_left
      · rw [if_neg c79] at H; exact absurd H (by simp)
      rw [if_pos c79] at H
      have c79b0 := decide_eq_true c79
      have c79b1 : decide (0 < l0_0.length) = true := decide_eq_true (by omega)
      clear c79
      obtain ⟨ji80, hji80⟩ : ∃ j_ : Int, (wrap64 ((l0_0.length : Int) - 1)) = j_ := ⟨_, rfl⟩
      replace H : (if 0 ≤ (ji80) then (if (ji80) < (l0_0.length : Int) then ((num_Root.f k1 (wrap64 ((wrap64 ((wrap64 (((rd_T53 l0_0 (ji80)).f0.f0) - ((rd_T53 l0_0 0).f0.f0))) * (wrap64 (((rd_T53 l0_0 (ji80)).f0.f0) - ((rd_T53 l0_0 0).f0.f0))))) + (wrap64 ((wrap64 (((rd_T53 l0_0 (ji80)).f0.f1) - ((rd_T53 l0_0 0).f0.f1))) * (wrap64 (((rd_T53 l0_0 (ji80)).f0.f1) - ((rd_T53 l0_0 0).f0.f1)))))))).bind fun bt830 => (if bt830.2 = 0 then (if t749 ≤ x14_1 then (if (wrap64 (t749 + (l0_1.length : Int))) ≥ bt830.1 then ((dancestudiolaw43_awake.f).bind fun t832 => (some t832)) else (none)) else (none)) else (none))) else (none)) else (none)) = some r := by first | (rw [hji80] at H; exact H) | (simp only [hji80] at H ⊢; exact H)
      have hji80w : (IntKind.i64.wrap ((l0_0.length : Int) - 1)) = ji80 := (i64_w _).trans hji80
      by_cases c81 : 0 ≤ (ji80); rotate_left
      · rw [if_neg c81] at H; exact absurd H (by simp)
      rw [if_pos c81] at H
      have c81b0 := decide_eq_true c81
      clear c81
      by_cases c82 : (ji80) < (l0_0.length : Int); rotate_left
      · rw [if_neg c82] at H; exact absurd H (by simp)
      rw [if_pos c82] at H
      have c82b0 := decide_eq_true c82
      clear c82
      replace H := Option.bind_eq_some_iff.mp H
      obtain ⟨⟨t830, t831⟩, A830, H⟩ := H
      replace H : (if t831 = 0 then (if t749 ≤ x14_1 then (if (wrap64 (t749 + (l0_1.length : Int))) ≥ t830 then ((dancestudiolaw43_awake.f).bind fun t832 => (some t832)) else (none)) else (none)) else (none)) = some r := H
      have A83 := Aside0.mk A830
      clear A830
      by_cases c84 : t831 = 0; rotate_left
      · rw [if_neg c84] at H; exact absurd H (by simp)
      rw [if_pos c84] at H
      have c84b0 : (t831 == 0) = true := beq_iff_eq.mpr c84
      have c84b1 : (t831 != 0) = false := bne_eq_false_iff_eq.mpr c84
      clear c84
      by_cases c85 : t749 ≤ x14_1; rotate_left
      · rw [if_neg c85] at H; exact absurd H (by simp)
      rw [if_pos c85] at H
      have c85b0 := decide_eq_true c85
      clear c85
      by_cases c86 : (wrap64 (t749 + (l0_1.length : Int))) ≥ t830; rotate_left
      · rw [if_neg c86] at H; exact absurd H (by simp)
      rw [if_pos c86] at H
      have c86b0 := decide_eq_true c86
      clear c86
      replace H := Option.bind_eq_some_iff.mp H
      obtain ⟨t832, A870, H⟩ := H
      replace H : (some t832) = some r := H
      have A87 := Aside0.mk A870
      clear A870
      obtain rfl := Option.some.inj H
      have hnb88 := NB708_794.out
      have hnc88 := NB794_708.out
      have hnb89 := NB708_802.out
      have hnc89 := NB802_708.out
      have hnb90 := NB708_803.out
      have hnc90 := NB803_708.out
      have hnb91 := NB708_809.out
      have hnc91 := NB809_708.out
      have hnb92 := NB708_810.out
      have hnc92 := NB810_708.out
      obtain ⟨hcz93_0, hcz93_1, hfz93_0, hfz93_1⟩ := kc2 BK708.out
      try go_wp2
      have n0_ := Aside0.mk (Kd.R_drew HO_795000.out)
      have n1_ := Aside0.mk (Kd.R_drew HO_795001.out)
      have n2_ := Aside0.mk (blk_drew BK708.out)
      have n3_ := Aside0.mk (blk_drew BK794.out)
      have n4_ := Aside0.mk (blk_drew BK802.out)
      have n5_ := Aside0.mk (blk_drew BK803.out)
      have n6_ := Aside0.mk (blk_drew BK809.out)
      have n7_ := Aside0.mk (blk_drew BK810.out)
      have n8_ := Aside0.mk (below_drew1 HB.out)
      clear HO_795000
      clear HO_795001
      clear BK708
      clear BK794
      clear BK802
      clear BK803
      clear BK809
      clear BK810
      clear HB
      have HO_795000 := n0_
      have HO_795001 := n1_
      have BK708 := n2_
      have BK794 := n3_
      have BK802 := n4_
      have BK803 := n5_
      have BK809 := n6_
      have BK810 := n7_
      have HB := n8_
      clear n0_ n1_ n2_ n3_ n4_ n5_ n6_ n7_ n8_
      have p826 : 0 ≤ (0 : Int) := (by omega)
      have q826 : 0 < (l0_0.length : Int) := of_decide_eq_true (by first | (with_reducible assumption) | assumption)
      obtain ⟨ad826, e826, hx826_0, hx826_1, _, _, _, _, _, _, _, _, _, _, _, _, _, _, _, _, _, _, _, _⟩ := at_T53 HR0_0.out 0 p826 q826
      have hw826_1 := hx826_1
      (try rw [show ((0 : Int)).toNat = 0 from rfl] at hw826_1)
      (try rw [show 0 * 22 = 0 from rfl] at hw826_1)
      (try rw [Addr.add_zero'] at hw826_1)
      have hw826_0 := hx826_0
      (try rw [show ((0 : Int)).toNat = 0 from rfl] at hw826_0)
      (try rw [show 0 * 22 = 0 from rfl] at hw826_0)
      (try rw [Addr.add_zero'] at hw826_0)
      cases e826
      have qi826 : (0 < l0_0.length) = True := eq_true (by omega)
      (try rw [show ((0 : Int)).toNat = 0 from rfl] at hx826_0)
      (try rw [show 0 * 22 = 0 from rfl] at hx826_0)
      (try rw [Addr.add_zero'] at hx826_0)
      (try rw [show ((0 : Int)).toNat = 0 from rfl] at hx826_1)
      (try rw [show 0 * 22 = 0 from rfl] at hx826_1)
      (try rw [Addr.add_zero'] at hx826_1)
      replace hx826_0 := cb HB.out hx826_0
      replace hx826_1 := cb HB.out hx826_1
      replace p826 := eq_true p826
      replace q826 := eq_true q826
      have p827 : 0 ≤ ((ji80) : Int) := of_decide_eq_true (by first | (with_reducible assumption) | assumption)
      have q827 : (ji80) < (l0_0.length : Int) := of_decide_eq_true (by first | (with_reducible assumption) | assumption)
      obtain ⟨ad827, e827, hx827_0, hx827_1, _, _, _, _, _, _, _, _, _, _, _, _, _, _, _, _, _, _, _, _⟩ := at_T53 HR0_0.out (ji80) p827 q827
      have hw827_1 := hx827_1
      have hw827_0 := hx827_0
      obtain rfl : ad826 = ad827 := (by injection e827)
      replace hx827_0 := cb HB.out hx827_0
      replace hx827_1 := cb HB.out hx827_1
      replace p827 := eq_true p827
      replace q827 := eq_true q827
      refine start_ (n := 18) (S := fun w' => w'.cell? ⟨gb708, 0, none⟩ = some (.slice (some ad826) l0_0.length c0_0) ∧ w'.cell? ⟨gb708, 1, none⟩ = some (.slice A0_1 l0_1.length c0_1) ∧ w'.cell? ad826 = some (.int .i64 ((rd_T53 l0_0 0).f0.f0)) ∧ w'.cell? ⟨ad826.block, ad826.off + 1, none⟩ = some (.int .i64 ((rd_T53 l0_0 0).f0.f1)) ∧ w'.cell? (ad826.add (((ji80)).toNat * 22)) = some (.int .i64 ((rd_T53 l0_0 (ji80)).f0.f0)) ∧ w'.cell? ⟨(ad826.add (((ji80)).toNat * 22)).block, (ad826.add (((ji80)).toNat * 22)).off + 1, none⟩ = some (.int .i64 ((rd_T53 l0_0 (ji80)).f0.f1))) (ds := []) (bm 18 0) (by kernel_rfl) rfl rfl ⟨(blk_cell BK708.out 0).trans rfl, (blk_cell BK708.out 1).trans rfl, (cb HB.out hw826_0), (cb HB.out hw826_1), (cb HB.out hw827_0), (cb HB.out hw827_1)⟩ (fun hHeld => ?_); refine with_tabW dancestudiolaw43_FloorWay.tab18 dancestudiolaw43_FloorWay.bits18 (fun HT_ HW_ => ?_)
      generalize wr.drew = w94 at HO_795000 HO_795001 BK708 BK794 BK802 BK803 BK809 BK810 HB hx826_0 hx826_1 hx827_0 hx827_1 hHeld ⊢
      refine pure_ (i := 0) (N := some 143) (v := ?_) (a' := ?_) (bm 18 1) rfl rfl (any_of HT_.out (by kernel_rfl)) (fun _ _ _ h => h) (Or.inl ⟨by rfl, ?_⟩) ?_ ?_
      rotate_left; (intro w'; go_simp; with_reducible rfl); rotate_left; (simp only [Act.put, aS, lZ, lS, i64_w, i32_w]; rfl)
      refine pure_ (i := 5) (N := some 148) (v := ?_) (a' := ?_) (bm 18 33) rfl rfl (any_of HT_.out (by kernel_rfl)) (fun _ _ _ h => h) (Or.inl ⟨by rfl, ?_⟩) ?_ ?_
      rotate_left; (intro w'; go_simp; with_reducible rfl); rotate_left; (simp only [Act.put, aS, lZ, lS, i64_w, i32_w]; rfl)
      refine pure_ (i := 7) (N := some 150) (v := ?_) (a' := ?_) (bm 18 161) rfl rfl (any_of HT_.out (by kernel_rfl)) (fun _ _ _ h => h) (Or.inl ⟨by rfl, ?_⟩) ?_ ?_
      rotate_left; (intro w'; go_simp; with_reducible rfl); rotate_left; (simp only [Act.put, aS, lZ, lS, i64_w, i32_w]; rfl)
      refine take_ (i := 1) (N := some 144) (v := ?_) (a' := ?_) (bm 18 163) rfl rfl (take_ofW HT_.out HW_.out (by kernel_rfl)) (fun _ _ _ h => h) (Or.inl ⟨by rfl, ?_⟩) hHeld ?_ ?_
      rotate_left
      ·
       rintro w' ⟨s0, s1, s2, s3, s4, s5⟩
       go_simp
       with_reducible rfl
      rotate_left
      ·
       simp only [Act.put, aS, lZ, lS, i64_w, i32_w]
       rfl
      refine pure_ (i := 2) (N := some 145) (v := ?_) (a' := ?_) (bm 18 167) rfl rfl (any_of HT_.out (by kernel_rfl)) (fun _ _ _ h => h) (Or.inl ⟨by rfl, ?_⟩) ?_ ?_
      rotate_left; (intro w'; go_simp; with_reducible rfl); rotate_left; (simp only [Act.put, aS, lZ, lS, i64_w, i32_w]; rfl)
      refine pure_ (i := 3) (N := some 146) (v := ?_) (a' := ?_) (bm 18 175) rfl rfl (any_of HT_.out (by kernel_rfl)) (fun _ _ _ h => h) (Or.inl ⟨by rfl, ?_⟩) ?_ ?_
      rotate_left; (intro w'; go_simp; with_reducible rfl); rotate_left; (simp only [Act.put, aS, lZ, lS, i64_w, i32_w]; rfl)
      refine take_ (i := 4) (N := some 147) (v := ?_) (a' := ?_) (bm 18 191) rfl rfl (take_ofW HT_.out HW_.out (by kernel_rfl)) (fun _ _ _ h => h) (Or.inl ⟨by rfl, ?_⟩) hHeld ?_ ?_
      rotate_left
      ·
       rintro w' ⟨s0, s1, s2, s3, s4, s5⟩
       go_simp
       with_reducible rfl
      rotate_left
      ·
       simp only [Act.put, aS, lZ, lS, i64_w, i32_w]
       rfl
      refine take_ (i := 6) (N := some 149) (v := ?_) (a' := ?_) (bm 18 255) rfl rfl (take_ofW HT_.out HW_.out (by kernel_rfl)) (fun _ _ _ h => h) (Or.inl ⟨by rfl, ?_⟩) hHeld ?_ ?_
      rotate_left
      ·
       rintro w' ⟨s0, s1, s2, s3, s4, s5⟩
       go_simp
       with_reducible rfl
      rotate_left
      ·
       simp only [Act.put, aS, lZ, lS, i64_w, i32_w]
       rfl
      refine take_ (i := 8) (N := some 151) (v := ?_) (a' := ?_) (bm 18 511) rfl rfl (take_ofW HT_.out HW_.out (by kernel_rfl)) (fun _ _ _ h => h) (Or.inl ⟨by rfl, ?_⟩) hHeld ?_ ?_
      rotate_left
      ·
       rintro w' ⟨s0, s1, s2, s3, s4, s5⟩
       go_simp
       with_reducible rfl
      rotate_left
      ·
       simp only [Act.put, aS, lZ, lS, i64_w, i32_w]
       rfl
      refine pure_ (i := 9) (N := some 152) (v := ?_) (a' := ?_) (bm 18 1023) rfl rfl (any_of HT_.out (by kernel_rfl)) (fun _ _ _ h => h) (Or.inl ⟨by rfl, ?_⟩) ?_ ?_
      rotate_left; (intro w'; go_simp; with_reducible rfl); rotate_left; (simp only [Act.put, aS, lZ, lS, i64_w, i32_w]; rfl)
      refine pure_ (i := 10) (N := some 153) (v := ?_) (a' := ?_) (bm 18 2047) rfl rfl (any_of HT_.out (by kernel_rfl)) (fun _ _ _ h => h) (Or.inl ⟨by rfl, ?_⟩) ?_ ?_
      rotate_left; (intro w'; go_simp; with_reducible rfl); rotate_left; (simp only [Act.put, aS, lZ, lS, i64_w, i32_w]; rfl)
      refine pure_ (i := 11) (N := some 154) (v := ?_) (a' := ?_) (bm 18 4095) rfl rfl (any_of HT_.out (by kernel_rfl)) (fun _ _ _ h => h) (Or.inl ⟨by rfl, ?_⟩) ?_ ?_
      rotate_left; (intro w'; go_simp; with_reducible rfl); rotate_left; (simp only [Act.put, aS, lZ, lS, i64_w, i32_w]; rfl)
      refine pure_ (i := 12) (N := some 155) (v := ?_) (a' := ?_) (bm 18 8191) rfl rfl (any_of HT_.out (by kernel_rfl)) (fun _ _ _ h => h) (Or.inl ⟨by rfl, ?_⟩) ?_ ?_
      rotate_left; (intro w'; go_simp; with_reducible rfl); rotate_left; (simp only [Act.put, aS, lZ, lS, i64_w, i32_w]; rfl)
      refine take_ (i := 13) (N := some 156) (v := ?_) (a' := ?_) (bm 18 16383) rfl rfl (take_ofW HT_.out HW_.out (by kernel_rfl)) (fun _ _ _ h => h) (Or.inl ⟨by rfl, ?_⟩) hHeld ?_ ?_
      rotate_left
      ·
       rintro w' ⟨s0, s1, s2, s3, s4, s5⟩
       go_simp
       with_reducible rfl
      rotate_left
      ·
       simp only [Act.put, aS, lZ, lS, i64_w, i32_w]
       rfl
      refine join_ (σ := Nat × Nat) 2 (bm 18 65535) (fun s_ => [(18, .pointer (some ⟨s_.1, 0, none⟩)), (19, .pointer (some ⟨s_.2, 0, none⟩))]) (fun s_ w' => (w'.cell? ⟨gb708, 0, none⟩ = some (.slice (some ad826) l0_0.length c0_0) ∧ w'.cell? ⟨gb708, 1, none⟩ = some (.slice A0_1 l0_1.length c0_1) ∧ w'.cell? ad826 = some (.int .i64 ((rd_T53 l0_0 0).f0.f0)) ∧ w'.cell? ⟨ad826.block, ad826.off + 1, none⟩ = some (.int .i64 ((rd_T53 l0_0 0).f0.f1)) ∧ w'.cell? (ad826.add (((ji80)).toNat * 22)) = some (.int .i64 ((rd_T53 l0_0 (ji80)).f0.f0)) ∧ w'.cell? ⟨(ad826.add (((ji80)).toNat * 22)).block, (ad826.add (((ji80)).toNat * 22)).off + 1, none⟩ = some (.int .i64 ((rd_T53 l0_0 (ji80)).f0.f1))) ∧ (Kd.R k53 53 w' w.heap.size (fun _ => True) (.slice Ao31 t787.length co31) t787) ∧ (Kd.R (Kd.int .i64) 3 w' w.heap.size (fun _ => True) (.slice Ao34 t790.length co34) t790) ∧ (w'.heap[gb708]? = some (.cells #[.slice (some ad826) l0_0.length c0_0, .slice A0_1 l0_1.length c0_1] 25 (0, 0))) ∧ (w'.heap[gb794]? = some (.cells #[.slice Ao31 t787.length co31, .slice Ao34 t790.length co34] 25 (0, 0))) ∧ (w'.heap[gb802]? = some (.cells #[.int .i64 t797, .int .i64 t798] 35 (0, 0))) ∧ (w'.heap[gb803]? = some (.cells #[.int .i64 t799, .int .i64 t800] 35 (0, 0))) ∧ (w'.heap[gb809]? = some (.cells #[.int .i64 t804, .int .i64 t805] 35 (0, 0))) ∧ (w'.heap[gb810]? = some (.cells #[.int .i64 t806, .int .i64 t807] 35 (0, 0))) ∧ (w'.heap[s_.1]? = some (.cells #[.int .i64 0, .int .i64 0] 35 (0, 0))) ∧ (w'.heap[s_.2]? = some (.cells #[.int .i64 0, .int .i64 0] 35 (0, 0))) ∧ (w.heap.size ≤ s_.1) ∧ (w.heap.size ≤ s_.1) ∧ (gb708 ≠ s_.1) ∧ (s_.1 ≠ gb708) ∧ (gb794 ≠ s_.1) ∧ (s_.1 ≠ gb794) ∧ (gb802 ≠ s_.1) ∧ (s_.1 ≠ gb802) ∧ (gb803 ≠ s_.1) ∧ (s_.1 ≠ gb803) ∧ (gb809 ≠ s_.1) ∧ (s_.1 ≠ gb809) ∧ (gb810 ≠ s_.1) ∧ (s_.1 ≠ gb810) ∧ (s_.2 ≠ s_.1) ∧ (s_.1 ≠ s_.2) ∧ (w.heap.size ≤ s_.2) ∧ (w.heap.size ≤ s_.2) ∧ (gb708 ≠ s_.2) ∧ (s_.2 ≠ gb708) ∧ (gb794 ≠ s_.2) ∧ (s_.2 ≠ gb794) ∧ (gb802 ≠ s_.2) ∧ (s_.2 ≠ gb802) ∧ (gb803 ≠ s_.2) ∧ (s_.2 ≠ gb803) ∧ (gb809 ≠ s_.2) ∧ (s_.2 ≠ gb809) ∧ (gb810 ≠ s_.2) ∧ (s_.2 ≠ gb810) ∧ (Below w.heap.size w w')) ?_ ?_
      rotate_left
      ·
       intro hCont
       refine two_ (i := 14) (j := 15) (Ni := some 18) (Nj := some 19) (bm 18 32767) (bm 18 49151) rfl rfl rfl rfl (two_of HT_.out (by kernel_rfl)) (by decide) (by decide) (fun K hK => ?_) (fun K hK => ?_)
       ·
        skip
        refine box_step ?hg (N := 18) ?hd (cs := #[.int .i64 0, .int .i64 0]) (t := 35) ?hr ?_; (case hd => rfl); (case hg => rfl); (case hr => first | (go_simp; done) | (go_simp; rfl))
        intro gb828 hg w95 hbox hb
        have n0_ := Aside0.mk (Kd.R_below (by (with_reducible repeat first | apply rA | apply rN | apply rD); exact HO_795000.out) hb)
        have n1_ := Aside0.mk (Kd.R_below (by (with_reducible repeat first | apply rA | apply rN | apply rD); exact HO_795001.out) hb)
        have n2_ := Aside0.mk (blk_below (o := .cells #[.slice (some ad826) l0_0.length c0_0, .slice A0_1 l0_1.length c0_1] 25 (0, 0)) (by with_reducible repeat first | exact BK708.out | apply kN | apply kD | apply kA) hb)
        have n3_ := Aside0.mk (blk_below (o := .cells #[.slice Ao31 t787.length co31, .slice Ao34 t790.length co34] 25 (0, 0)) (by with_reducible repeat first | exact BK794.out | apply kN | apply kD | apply kA) hb)
        have n4_ := Aside0.mk (blk_below (o := .cells #[.int .i64 t797, .int .i64 t798] 35 (0, 0)) (by with_reducible repeat first | exact BK802.out | apply kN | apply kD | apply kA) hb)
        have n5_ := Aside0.mk (blk_below (o := .cells #[.int .i64 t799, .int .i64 t800] 35 (0, 0)) (by with_reducible repeat first | exact BK803.out | apply kN | apply kD | apply kA) hb)
        have n6_ := Aside0.mk (blk_below (o := .cells #[.int .i64 t804, .int .i64 t805] 35 (0, 0)) (by with_reducible repeat first | exact BK809.out | apply kN | apply kD | apply kA) hb)
        have n7_ := Aside0.mk (blk_below (o := .cells #[.int .i64 t806, .int .i64 t807] 35 (0, 0)) (by with_reducible repeat first | exact BK810.out | apply kN | apply kD | apply kA) hb)
        have n8_ := Aside0.mk (below_step (by repeat with_reducible first | exact HB.out | apply bA | apply bN | apply bD | refine bS ?_ GE708.out | refine bS ?_ GE794.out | refine bS ?_ GE802.out | refine bS ?_ GE803.out | refine bS ?_ GE809.out | refine bS ?_ GE810.out) hb)
        have n9_ := Aside0.mk (hbox)
        have n10_ := Aside0.mk ((by rw [hg]; exact (below_size (by repeat with_reducible first | exact HB.out | apply bA | apply bN | apply bD | refine bS ?_ GE708.out | refine bS ?_ GE794.out | refine bS ?_ GE802.out | refine bS ?_ GE803.out | refine bS ?_ GE809.out | refine bS ?_ GE810.out)) : w.heap.size ≤ gb828))
        have n11_ := Aside0.mk ((by rw [hg]; exact (below_size (by repeat with_reducible first | exact HB.out | apply bA | apply bN | apply bD | refine bS ?_ GE708.out | refine bS ?_ GE794.out | refine bS ?_ GE802.out | refine bS ?_ GE803.out | refine bS ?_ GE809.out | refine bS ?_ GE810.out)) : w.heap.size ≤ gb828))
        have n12_ := Aside0.mk ((by rw [hg]; exact Nat.ne_of_lt (blk_lt (by with_reducible repeat first | exact BK708.out | apply kN | apply kD | apply kA)) : gb708 ≠ gb828))
        have n13_ := Aside0.mk ((by rw [hg]; exact Nat.ne_of_gt (blk_lt (by with_reducible repeat first | exact BK708.out | apply kN | apply kD | apply kA)) : gb828 ≠ gb708))
        have n14_ := Aside0.mk ((by rw [hg]; exact Nat.ne_of_lt (blk_lt (by with_reducible repeat first | exact BK794.out | apply kN | apply kD | apply kA)) : gb794 ≠ gb828))
        have n15_ := Aside0.mk ((by rw [hg]; exact Nat.ne_of_gt (blk_lt (by with_reducible repeat first | exact BK794.out | apply kN | apply kD | apply kA)) : gb828 ≠ gb794))
        have n16_ := Aside0.mk ((by rw [hg]; exact Nat.ne_of_lt (blk_lt (by with_reducible repeat first | exact BK802.out | apply kN | apply kD | apply kA)) : gb802 ≠ gb828))
        have n17_ := Aside0.mk ((by rw [hg]; exact Nat.ne_of_gt (blk_lt (by with_reducible repeat first | exact BK802.out | apply kN | apply kD | apply kA)) : gb828 ≠ gb802))
        have n18_ := Aside0.mk ((by rw [hg]; exact Nat.ne_of_lt (blk_lt (by with_reducible repeat first | exact BK803.out | apply kN | apply kD | apply kA)) : gb803 ≠ gb828))
        have n19_ := Aside0.mk ((by rw [hg]; exact Nat.ne_of_gt (blk_lt (by with_reducible repeat first | exact BK803.out | apply kN | apply kD | apply kA)) : gb828 ≠ gb803))
        have n20_ := Aside0.mk ((by rw [hg]; exact Nat.ne_of_lt (blk_lt (by with_reducible repeat first | exact BK809.out | apply kN | apply kD | apply kA)) : gb809 ≠ gb828))
        have n21_ := Aside0.mk ((by rw [hg]; exact Nat.ne_of_gt (blk_lt (by with_reducible repeat first | exact BK809.out | apply kN | apply kD | apply kA)) : gb828 ≠ gb809))
        have n22_ := Aside0.mk ((by rw [hg]; exact Nat.ne_of_lt (blk_lt (by with_reducible repeat first | exact BK810.out | apply kN | apply kD | apply kA)) : gb810 ≠ gb828))
        have n23_ := Aside0.mk ((by rw [hg]; exact Nat.ne_of_gt (blk_lt (by with_reducible repeat first | exact BK810.out | apply kN | apply kD | apply kA)) : gb828 ≠ gb810))
        clear HO_795000
        clear HO_795001
        clear BK708
        clear BK794
        clear BK802
        clear BK803
        clear BK809
        clear BK810
        clear HB
        have HO_795000 := n0_
        have HO_795001 := n1_
        have BK708 := n2_
        have BK794 := n3_
        have BK802 := n4_
        have BK803 := n5_
        have BK809 := n6_
        have BK810 := n7_
        have HB := n8_
        have BK828 := n9_
        have GW828 := n10_
        have GE828 := n11_
        have NB708_828 := n12_
        have NB828_708 := n13_
        have NB794_828 := n14_
        have NB828_794 := n15_
        have NB802_828 := n16_
        have NB828_802 := n17_
        have NB803_828 := n18_
        have NB828_803 := n19_
        have NB809_828 := n20_
        have NB828_809 := n21_
        have NB810_828 := n22_
        have NB828_810 := n23_
        clear n0_ n1_ n2_ n3_ n4_ n5_ n6_ n7_ n8_ n9_ n10_ n11_ n12_ n13_ n14_ n15_ n16_ n17_ n18_ n19_ n20_ n21_ n22_ n23_
        clear hb hbox hg
        refine hK.out _ _ ⟨(blk_cell BK708.out 0).trans rfl, (blk_cell BK708.out 1).trans rfl, (cb HB.out hw826_0), (cb HB.out hw826_1), (cb HB.out hw827_0), (cb HB.out hw827_1)⟩ (fun hHeld => ?_)
        clear hK K
        refine norm_ (a' := ?_) ?_ ?_
        rotate_left
        ·
         show Act.put _ (some 18) _ = _
         simp only [Act.put, aS, lZ, lS, i64_w, i32_w]
         rfl
        refine one_ (i := 15) (N := some 19) (bm 18 65535) rfl rfl (one_of HT_.out (by kernel_rfl)) (by decide) (fun K hK => ?_)
        refine box_step ?hg (N := 19) ?hd (cs := #[.int .i64 0, .int .i64 0]) (t := 35) ?hr ?_; (case hd => rfl); (case hg => rfl); (case hr => first | (go_simp; done) | (go_simp; rfl))
        intro gb829 hg w96 hbox hb
        have n0_ := Aside0.mk (Kd.R_below (by (with_reducible repeat first | apply rA | apply rN | apply rD); exact HO_795000.out) hb)
        have n1_ := Aside0.mk (Kd.R_below (by (with_reducible repeat first | apply rA | apply rN | apply rD); exact HO_795001.out) hb)
        have n2_ := Aside0.mk (blk_below (o := .cells #[.slice (some ad826) l0_0.length c0_0, .slice A0_1 l0_1.length c0_1] 25 (0, 0)) (by with_reducible repeat first | exact BK708.out | apply kN | apply kD | apply kA) hb)
        have n3_ := Aside0.mk (blk_below (o := .cells #[.slice Ao31 t787.length co31, .slice Ao34 t790.length co34] 25 (0, 0)) (by with_reducible repeat first | exact BK794.out | apply kN | apply kD | apply kA) hb)
        have n4_ := Aside0.mk (blk_below (o := .cells #[.int .i64 t797, .int .i64 t798] 35 (0, 0)) (by with_reducible repeat first | exact BK802.out | apply kN | apply kD | apply kA) hb)
        have n5_ := Aside0.mk (blk_below (o := .cells #[.int .i64 t799, .int .i64 t800] 35 (0, 0)) (by with_reducible repeat first | exact BK803.out | apply kN | apply kD | apply kA) hb)
        have n6_ := Aside0.mk (blk_below (o := .cells #[.int .i64 t804, .int .i64 t805] 35 (0, 0)) (by with_reducible repeat first | exact BK809.out | apply kN | apply kD | apply kA) hb)
        have n7_ := Aside0.mk (blk_below (o := .cells #[.int .i64 t806, .int .i64 t807] 35 (0, 0)) (by with_reducible repeat first | exact BK810.out | apply kN | apply kD | apply kA) hb)
        have n8_ := Aside0.mk (blk_below (o := .cells #[.int .i64 0, .int .i64 0] 35 (0, 0)) (by with_reducible repeat first | exact BK828.out | apply kN | apply kD | apply kA) hb)
        have n9_ := Aside0.mk (below_step (by repeat with_reducible first | exact HB.out | apply bA | apply bN | apply bD | refine bS ?_ GE708.out | refine bS ?_ GE794.out | refine bS ?_ GE802.out | refine bS ?_ GE803.out | refine bS ?_ GE809.out | refine bS ?_ GE810.out | refine bS ?_ GE828.out) hb)
        have n10_ := Aside0.mk (hbox)
        have n11_ := Aside0.mk ((by rw [hg]; exact (below_size (by repeat with_reducible first | exact HB.out | apply bA | apply bN | apply bD | refine bS ?_ GE708.out | refine bS ?_ GE794.out | refine bS ?_ GE802.out | refine bS ?_ GE803.out | refine bS ?_ GE809.out | refine bS ?_ GE810.out | refine bS ?_ GE828.out)) : w.heap.size ≤ gb829))
        have n12_ := Aside0.mk ((by rw [hg]; exact (below_size (by repeat with_reducible first | exact HB.out | apply bA | apply bN | apply bD | refine bS ?_ GE708.out | refine bS ?_ GE794.out | refine bS ?_ GE802.out | refine bS ?_ GE803.out | refine bS ?_ GE809.out | refine bS ?_ GE810.out | refine bS ?_ GE828.out)) : w.heap.size ≤ gb829))
        have n13_ := Aside0.mk ((by rw [hg]; exact Nat.ne_of_lt (blk_lt (by with_reducible repeat first | exact BK708.out | apply kN | apply kD | apply kA)) : gb708 ≠ gb829))
        have n14_ := Aside0.mk ((by rw [hg]; exact Nat.ne_of_gt (blk_lt (by with_reducible repeat first | exact BK708.out | apply kN | apply kD | apply kA)) : gb829 ≠ gb708))
        have n15_ := Aside0.mk ((by rw [hg]; exact Nat.ne_of_lt (blk_lt (by with_reducible repeat first | exact BK794.out | apply kN | apply kD | apply kA)) : gb794 ≠ gb829))
        have n16_ := Aside0.mk ((by rw [hg]; exact Nat.ne_of_gt (blk_lt (by with_reducible repeat first | exact BK794.out | apply kN | apply kD | apply kA)) : gb829 ≠ gb794))
        have n17_ := Aside0.mk ((by rw [hg]; exact Nat.ne_of_lt (blk_lt (by with_reducible repeat first | exact BK802.out | apply kN | apply kD | apply kA)) : gb802 ≠ gb829))
        have n18_ := Aside0.mk ((by rw [hg]; exact Nat.ne_of_gt (blk_lt (by with_reducible repeat first | exact BK802.out | apply kN | apply kD | apply kA)) : gb829 ≠ gb802))
        have n19_ := Aside0.mk ((by rw [hg]; exact Nat.ne_of_lt (blk_lt (by with_reducible repeat first | exact BK803.out | apply kN | apply kD | apply kA)) : gb803 ≠ gb829))
        have n20_ := Aside0.mk ((by rw [hg]; exact Nat.ne_of_gt (blk_lt (by with_reducible repeat first | exact BK803.out | apply kN | apply kD | apply kA)) : gb829 ≠ gb803))
        have n21_ := Aside0.mk ((by rw [hg]; exact Nat.ne_of_lt (blk_lt (by with_reducible repeat first | exact BK809.out | apply kN | apply kD | apply kA)) : gb809 ≠ gb829))
        have n22_ := Aside0.mk ((by rw [hg]; exact Nat.ne_of_gt (blk_lt (by with_reducible repeat first | exact BK809.out | apply kN | apply kD | apply kA)) : gb829 ≠ gb809))
        have n23_ := Aside0.mk ((by rw [hg]; exact Nat.ne_of_lt (blk_lt (by with_reducible repeat first | exact BK810.out | apply kN | apply kD | apply kA)) : gb810 ≠ gb829))
        have n24_ := Aside0.mk ((by rw [hg]; exact Nat.ne_of_gt (blk_lt (by with_reducible repeat first | exact BK810.out | apply kN | apply kD | apply kA)) : gb829 ≠ gb810))
        have n25_ := Aside0.mk ((by rw [hg]; exact Nat.ne_of_lt (blk_lt (by with_reducible repeat first | exact BK828.out | apply kN | apply kD | apply kA)) : gb828 ≠ gb829))
        have n26_ := Aside0.mk ((by rw [hg]; exact Nat.ne_of_gt (blk_lt (by with_reducible repeat first | exact BK828.out | apply kN | apply kD | apply kA)) : gb829 ≠ gb828))
        clear HO_795000
        clear HO_795001
        clear BK708
        clear BK794
        clear BK802
        clear BK803
        clear BK809
        clear BK810
        clear BK828
        clear HB
        have HO_795000 := n0_
        have HO_795001 := n1_
        have BK708 := n2_
        have BK794 := n3_
        have BK802 := n4_
        have BK803 := n5_
        have BK809 := n6_
        have BK810 := n7_
        have BK828 := n8_
        have HB := n9_
        have BK829 := n10_
        have GW829 := n11_
        have GE829 := n12_
        have NB708_829 := n13_
        have NB829_708 := n14_
        have NB794_829 := n15_
        have NB829_794 := n16_
        have NB802_829 := n17_
        have NB829_802 := n18_
        have NB803_829 := n19_
        have NB829_803 := n20_
        have NB809_829 := n21_
        have NB829_809 := n22_
        have NB810_829 := n23_
        have NB829_810 := n24_
        have NB828_829 := n25_
        have NB829_828 := n26_
        clear n0_ n1_ n2_ n3_ n4_ n5_ n6_ n7_ n8_ n9_ n10_ n11_ n12_ n13_ n14_ n15_ n16_ n17_ n18_ n19_ n20_ n21_ n22_ n23_ n24_ n25_ n26_
        clear hb hbox hg
        refine hK.out _ _ ⟨(blk_cell BK708.out 0).trans rfl, (blk_cell BK708.out 1).trans rfl, (cb HB.out hw826_0), (cb HB.out hw826_1), (cb HB.out hw827_0), (cb HB.out hw827_1)⟩ (fun hHeld => ?_)
        clear hK K
        refine norm_ (a' := ?_) ?_ ?_
        rotate_left
        ·
         show Act.put _ (some 19) _ = _
         simp only [Act.put, aS, lZ, lS, i64_w, i32_w]
         rfl
        exact norm_ (by simp only [putAll, Act.put, List.setIfInBounds_toArray, List.set_cons_zero, List.set_cons_succ]) (hCont (gb828, gb829) _ ⟨hHeld, (by (with_reducible repeat first | apply rA | apply rN | apply rD); exact HO_795000.out), (by (with_reducible repeat first | apply rA | apply rN | apply rD); exact HO_795001.out), (by with_reducible repeat first | exact BK708.out | apply kN | apply kD | apply kA), (by with_reducible repeat first | exact BK794.out | apply kN | apply kD | apply kA), (by with_reducible repeat first | exact BK802.out | apply kN | apply kD | apply kA), (by with_reducible repeat first | exact BK803.out | apply kN | apply kD | apply kA), (by with_reducible repeat first | exact BK809.out | apply kN | apply kD | apply kA), (by with_reducible repeat first | exact BK810.out | apply kN | apply kD | apply kA), (by with_reducible repeat first | exact BK828.out | apply kN | apply kD | apply kA), (by with_reducible repeat first | exact BK829.out | apply kN | apply kD | apply kA), GW828.out, GE828.out, NB708_828.out, NB828_708.out, NB794_828.out, NB828_794.out, NB802_828.out, NB828_802.out, NB803_828.out, NB828_803.out, NB809_828.out, NB828_809.out, NB810_828.out, NB828_810.out, NB829_828.out, NB828_829.out, GW829.out, GE829.out, NB708_829.out, NB829_708.out, NB794_829.out, NB829_794.out, NB802_829.out, NB829_802.out, NB803_829.out, NB829_803.out, NB809_829.out, NB829_809.out, NB810_829.out, NB829_810.out, (by repeat with_reducible first | exact HB.out | apply bA | apply bN | apply bD | refine bS ?_ GE708.out | refine bS ?_ GE794.out | refine bS ?_ GE802.out | refine bS ?_ GE803.out | refine bS ?_ GE809.out | refine bS ?_ GE810.out | refine bS ?_ GE828.out | refine bS ?_ GE829.out)⟩)
       ·
        skip
        refine box_step ?hg (N := 19) ?hd (cs := #[.int .i64 0, .int .i64 0]) (t := 35) ?hr ?_; (case hd => rfl); (case hg => rfl); (case hr => first | (go_simp; done) | (go_simp; rfl))
        intro gb829 hg w95 hbox hb
        have n0_ := Aside0.mk (Kd.R_below (by (with_reducible repeat first | apply rA | apply rN | apply rD); exact HO_795000.out) hb)
        have n1_ := Aside0.mk (Kd.R_below (by (with_reducible repeat first | apply rA | apply rN | apply rD); exact HO_795001.out) hb)
        have n2_ := Aside0.mk (blk_below (o := .cells #[.slice (some ad826) l0_0.length c0_0, .slice A0_1 l0_1.length c0_1] 25 (0, 0)) (by with_reducible repeat first | exact BK708.out | apply kN | apply kD | apply kA) hb)
        have n3_ := Aside0.mk (blk_below (o := .cells #[.slice Ao31 t787.length co31, .slice Ao34 t790.length co34] 25 (0, 0)) (by with_reducible repeat first | exact BK794.out | apply kN | apply kD | apply kA) hb)
        have n4_ := Aside0.mk (blk_below (o := .cells #[.int .i64 t797, .int .i64 t798] 35 (0, 0)) (by with_reducible repeat first | exact BK802.out | apply kN | apply kD | apply kA) hb)
        have n5_ := Aside0.mk (blk_below (o := .cells #[.int .i64 t799, .int .i64 t800] 35 (0, 0)) (by with_reducible repeat first | exact BK803.out | apply kN | apply kD | apply kA) hb)
        have n6_ := Aside0.mk (blk_below (o := .cells #[.int .i64 t804, .int .i64 t805] 35 (0, 0)) (by with_reducible repeat first | exact BK809.out | apply kN | apply kD | apply kA) hb)
        have n7_ := Aside0.mk (blk_below (o := .cells #[.int .i64 t806, .int .i64 t807] 35 (0, 0)) (by with_reducible repeat first | exact BK810.out | apply kN | apply kD | apply kA) hb)
        have n8_ := Aside0.mk (below_step (by repeat with_reducible first | exact HB.out | apply bA | apply bN | apply bD | refine bS ?_ GE708.out | refine bS ?_ GE794.out | refine bS ?_ GE802.out | refine bS ?_ GE803.out | refine bS ?_ GE809.out | refine bS ?_ GE810.out) hb)
        have n9_ := Aside0.mk (hbox)
        have n10_ := Aside0.mk ((by rw [hg]; exact (below_size (by repeat with_reducible first | exact HB.out | apply bA | apply bN | apply bD | refine bS ?_ GE708.out | refine bS ?_ GE794.out | refine bS ?_ GE802.out | refine bS ?_ GE803.out | refine bS ?_ GE809.out | refine bS ?_ GE810.out)) : w.heap.size ≤ gb829))
        have n11_ := Aside0.mk ((by rw [hg]; exact (below_size (by repeat with_reducible first | exact HB.out | apply bA | apply bN | apply bD | refine bS ?_ GE708.out | refine bS ?_ GE794.out | refine bS ?_ GE802.out | refine bS ?_ GE803.out | refine bS ?_ GE809.out | refine bS ?_ GE810.out)) : w.heap.size ≤ gb829))
        have n12_ := Aside0.mk ((by rw [hg]; exact Nat.ne_of_lt (blk_lt (by with_reducible repeat first | exact BK708.out | apply kN | apply kD | apply kA)) : gb708 ≠ gb829))
        have n13_ := Aside0.mk ((by rw [hg]; exact Nat.ne_of_gt (blk_lt (by with_reducible repeat first | exact BK708.out | apply kN | apply kD | apply kA)) : gb829 ≠ gb708))
        have n14_ := Aside0.mk ((by rw [hg]; exact Nat.ne_of_lt (blk_lt (by with_reducible repeat first | exact BK794.out | apply kN | apply kD | apply kA)) : gb794 ≠ gb829))
        have n15_ := Aside0.mk ((by rw [hg]; exact Nat.ne_of_gt (blk_lt (by with_reducible repeat first | exact BK794.out | apply kN | apply kD | apply kA)) : gb829 ≠ gb794))
        have n16_ := Aside0.mk ((by rw [hg]; exact Nat.ne_of_lt (blk_lt (by with_reducible repeat first | exact BK802.out | apply kN | apply kD | apply kA)) : gb802 ≠ gb829))
        have n17_ := Aside0.mk ((by rw [hg]; exact Nat.ne_of_gt (blk_lt (by with_reducible repeat first | exact BK802.out | apply kN | apply kD | apply kA)) : gb829 ≠ gb802))
        have n18_ := Aside0.mk ((by rw [hg]; exact Nat.ne_of_lt (blk_lt (by with_reducible repeat first | exact BK803.out | apply kN | apply kD | apply kA)) : gb803 ≠ gb829))
        have n19_ := Aside0.mk ((by rw [hg]; exact Nat.ne_of_gt (blk_lt (by with_reducible repeat first | exact BK803.out | apply kN | apply kD | apply kA)) : gb829 ≠ gb803))
        have n20_ := Aside0.mk ((by rw [hg]; exact Nat.ne_of_lt (blk_lt (by with_reducible repeat first | exact BK809.out | apply kN | apply kD | apply kA)) : gb809 ≠ gb829))
        have n21_ := Aside0.mk ((by rw [hg]; exact Nat.ne_of_gt (blk_lt (by with_reducible repeat first | exact BK809.out | apply kN | apply kD | apply kA)) : gb829 ≠ gb809))
        have n22_ := Aside0.mk ((by rw [hg]; exact Nat.ne_of_lt (blk_lt (by with_reducible repeat first | exact BK810.out | apply kN | apply kD | apply kA)) : gb810 ≠ gb829))
        have n23_ := Aside0.mk ((by rw [hg]; exact Nat.ne_of_gt (blk_lt (by with_reducible repeat first | exact BK810.out | apply kN | apply kD | apply kA)) : gb829 ≠ gb810))
        clear HO_795000
        clear HO_795001
        clear BK708
        clear BK794
        clear BK802
        clear BK803
        clear BK809
        clear BK810
        clear HB
        have HO_795000 := n0_
        have HO_795001 := n1_
        have BK708 := n2_
        have BK794 := n3_
        have BK802 := n4_
        have BK803 := n5_
        have BK809 := n6_
        have BK810 := n7_
        have HB := n8_
        have BK829 := n9_
        have GW829 := n10_
        have GE829 := n11_
        have NB708_829 := n12_
        have NB829_708 := n13_
        have NB794_829 := n14_
        have NB829_794 := n15_
        have NB802_829 := n16_
        have NB829_802 := n17_
        have NB803_829 := n18_
        have NB829_803 := n19_
        have NB809_829 := n20_
        have NB829_809 := n21_
        have NB810_829 := n22_
        have NB829_810 := n23_
        clear n0_ n1_ n2_ n3_ n4_ n5_ n6_ n7_ n8_ n9_ n10_ n11_ n12_ n13_ n14_ n15_ n16_ n17_ n18_ n19_ n20_ n21_ n22_ n23_
        clear hb hbox hg
        refine hK.out _ _ ⟨(blk_cell BK708.out 0).trans rfl, (blk_cell BK708.out 1).trans rfl, (cb HB.out hw826_0), (cb HB.out hw826_1), (cb HB.out hw827_0), (cb HB.out hw827_1)⟩ (fun hHeld => ?_)
        clear hK K
        refine norm_ (a' := ?_) ?_ ?_
        rotate_left
        ·
         show Act.put _ (some 19) _ = _
         simp only [Act.put, aS, lZ, lS, i64_w, i32_w]
         rfl
        refine one_ (i := 14) (N := some 18) (bm 18 65535) rfl rfl (one_of HT_.out (by kernel_rfl)) (by decide) (fun K hK => ?_)
        refine box_step ?hg (N := 18) ?hd (cs := #[.int .i64 0, .int .i64 0]) (t := 35) ?hr ?_; (case hd => rfl); (case hg => rfl); (case hr => first | (go_simp; done) | (go_simp; rfl))
        intro gb828 hg w96 hbox hb
        have n0_ := Aside0.mk (Kd.R_below (by (with_reducible repeat first | apply rA | apply rN | apply rD); exact HO_795000.out) hb)
        have n1_ := Aside0.mk (Kd.R_below (by (with_reducible repeat first | apply rA | apply rN | apply rD); exact HO_795001.out) hb)
        have n2_ := Aside0.mk (blk_below (o := .cells #[.slice (some ad826) l0_0.length c0_0, .slice A0_1 l0_1.length c0_1] 25 (0, 0)) (by with_reducible repeat first | exact BK708.out | apply kN | apply kD | apply kA) hb)
        have n3_ := Aside0.mk (blk_below (o := .cells #[.slice Ao31 t787.length co31, .slice Ao34 t790.length co34] 25 (0, 0)) (by with_reducible repeat first | exact BK794.out | apply kN | apply kD | apply kA) hb)
        have n4_ := Aside0.mk (blk_below (o := .cells #[.int .i64 t797, .int .i64 t798] 35 (0, 0)) (by with_reducible repeat first | exact BK802.out | apply kN | apply kD | apply kA) hb)
        have n5_ := Aside0.mk (blk_below (o := .cells #[.int .i64 t799, .int .i64 t800] 35 (0, 0)) (by with_reducible repeat first | exact BK803.out | apply kN | apply kD | apply kA) hb)
        have n6_ := Aside0.mk (blk_below (o := .cells #[.int .i64 t804, .int .i64 t805] 35 (0, 0)) (by with_reducible repeat first | exact BK809.out | apply kN | apply kD | apply kA) hb)
        have n7_ := Aside0.mk (blk_below (o := .cells #[.int .i64 t806, .int .i64 t807] 35 (0, 0)) (by with_reducible repeat first | exact BK810.out | apply kN | apply kD | apply kA) hb)
        have n8_ := Aside0.mk (blk_below (o := .cells #[.int .i64 0, .int .i64 0] 35 (0, 0)) (by with_reducible repeat first | exact BK829.out | apply kN | apply kD | apply kA) hb)
        have n9_ := Aside0.mk (below_step (by repeat with_reducible first | exact HB.out | apply bA | apply bN | apply bD | refine bS ?_ GE708.out | refine bS ?_ GE794.out | refine bS ?_ GE802.out | refine bS ?_ GE803.out | refine bS ?_ GE809.out | refine bS ?_ GE810.out | refine bS ?_ GE829.out) hb)
        have n10_ := Aside0.mk (hbox)
        have n11_ := Aside0.mk ((by rw [hg]; exact (below_size (by repeat with_reducible first | exact HB.out | apply bA | apply bN | apply bD | refine bS ?_ GE708.out | refine bS ?_ GE794.out | refine bS ?_ GE802.out | refine bS ?_ GE803.out | refine bS ?_ GE809.out | refine bS ?_ GE810.out | refine bS ?_ GE829.out)) : w.heap.size ≤ gb828))
        have n12_ := Aside0.mk ((by rw [hg]; exact (below_size (by repeat with_reducible first | exact HB.out | apply bA | apply bN | apply bD | refine bS ?_ GE708.out | refine bS ?_ GE794.out | refine bS ?_ GE802.out | refine bS ?_ GE803.out | refine bS ?_ GE809.out | refine bS ?_ GE810.out | refine bS ?_ GE829.out)) : w.heap.size ≤ gb828))
        have n13_ := Aside0.mk ((by rw [hg]; exact Nat.ne_of_lt (blk_lt (by with_reducible repeat first | exact BK708.out | apply kN | apply kD | apply kA)) : gb708 ≠ gb828))
        have n14_ := Aside0.mk ((by rw [hg]; exact Nat.ne_of_gt (blk_lt (by with_reducible repeat first | exact BK708.out | apply kN | apply kD | apply kA)) : gb828 ≠ gb708))
        have n15_ := Aside0.mk ((by rw [hg]; exact Nat.ne_of_lt (blk_lt (by with_reducible repeat first | exact BK794.out | apply kN | apply kD | apply kA)) : gb794 ≠ gb828))
        have n16_ := Aside0.mk ((by rw [hg]; exact Nat.ne_of_gt (blk_lt (by with_reducible repeat first | exact BK794.out | apply kN | apply kD | apply kA)) : gb828 ≠ gb794))
        have n17_ := Aside0.mk ((by rw [hg]; exact Nat.ne_of_lt (blk_lt (by with_reducible repeat first | exact BK802.out | apply kN | apply kD | apply kA)) : gb802 ≠ gb828))
        have n18_ := Aside0.mk ((by rw [hg]; exact Nat.ne_of_gt (blk_lt (by with_reducible repeat first | exact BK802.out | apply kN | apply kD | apply kA)) : gb828 ≠ gb802))
        have n19_ := Aside0.mk ((by rw [hg]; exact Nat.ne_of_lt (blk_lt (by with_reducible repeat first | exact BK803.out | apply kN | apply kD | apply kA)) : gb803 ≠ gb828))
        have n20_ := Aside0.mk ((by rw [hg]; exact Nat.ne_of_gt (blk_lt (by with_reducible repeat first | exact BK803.out | apply kN | apply kD | apply kA)) : gb828 ≠ gb803))
        have n21_ := Aside0.mk ((by rw [hg]; exact Nat.ne_of_lt (blk_lt (by with_reducible repeat first | exact BK809.out | apply kN | apply kD | apply kA)) : gb809 ≠ gb828))
        have n22_ := Aside0.mk ((by rw [hg]; exact Nat.ne_of_gt (blk_lt (by with_reducible repeat first | exact BK809.out | apply kN | apply kD | apply kA)) : gb828 ≠ gb809))
        have n23_ := Aside0.mk ((by rw [hg]; exact Nat.ne_of_lt (blk_lt (by with_reducible repeat first | exact BK810.out | apply kN | apply kD | apply kA)) : gb810 ≠ gb828))
        have n24_ := Aside0.mk ((by rw [hg]; exact Nat.ne_of_gt (blk_lt (by with_reducible repeat first | exact BK810.out | apply kN | apply kD | apply kA)) : gb828 ≠ gb810))
        have n25_ := Aside0.mk ((by rw [hg]; exact Nat.ne_of_lt (blk_lt (by with_reducible repeat first | exact BK829.out | apply kN | apply kD | apply kA)) : gb829 ≠ gb828))
        have n26_ := Aside0.mk ((by rw [hg]; exact Nat.ne_of_gt (blk_lt (by with_reducible repeat first | exact BK829.out | apply kN | apply kD | apply kA)) : gb828 ≠ gb829))
        clear HO_795000
        clear HO_795001
        clear BK708
        clear BK794
        clear BK802
        clear BK803
        clear BK809
        clear BK810
        clear BK829
        clear HB
        have HO_795000 := n0_
        have HO_795001 := n1_
        have BK708 := n2_
        have BK794 := n3_
        have BK802 := n4_
        have BK803 := n5_
        have BK809 := n6_
        have BK810 := n7_
        have BK829 := n8_
        have HB := n9_
        have BK828 := n10_
        have GW828 := n11_
        have GE828 := n12_
        have NB708_828 := n13_
        have NB828_708 := n14_
        have NB794_828 := n15_
        have NB828_794 := n16_
        have NB802_828 := n17_
        have NB828_802 := n18_
        have NB803_828 := n19_
        have NB828_803 := n20_
        have NB809_828 := n21_
        have NB828_809 := n22_
        have NB810_828 := n23_
        have NB828_810 := n24_
        have NB829_828 := n25_
        have NB828_829 := n26_
        clear n0_ n1_ n2_ n3_ n4_ n5_ n6_ n7_ n8_ n9_ n10_ n11_ n12_ n13_ n14_ n15_ n16_ n17_ n18_ n19_ n20_ n21_ n22_ n23_ n24_ n25_ n26_
        clear hb hbox hg
        refine hK.out _ _ ⟨(blk_cell BK708.out 0).trans rfl, (blk_cell BK708.out 1).trans rfl, (cb HB.out hw826_0), (cb HB.out hw826_1), (cb HB.out hw827_0), (cb HB.out hw827_1)⟩ (fun hHeld => ?_)
        clear hK K
        refine norm_ (a' := ?_) ?_ ?_
        rotate_left
        ·
         show Act.put _ (some 18) _ = _
         simp only [Act.put, aS, lZ, lS, i64_w, i32_w]
         rfl
        exact norm_ (by simp only [putAll, Act.put, List.setIfInBounds_toArray, List.set_cons_zero, List.set_cons_succ]) (hCont (gb828, gb829) _ ⟨hHeld, (by (with_reducible repeat first | apply rA | apply rN | apply rD); exact HO_795000.out), (by (with_reducible repeat first | apply rA | apply rN | apply rD); exact HO_795001.out), (by with_reducible repeat first | exact BK708.out | apply kN | apply kD | apply kA), (by with_reducible repeat first | exact BK794.out | apply kN | apply kD | apply kA), (by with_reducible repeat first | exact BK802.out | apply kN | apply kD | apply kA), (by with_reducible repeat first | exact BK803.out | apply kN | apply kD | apply kA), (by with_reducible repeat first | exact BK809.out | apply kN | apply kD | apply kA), (by with_reducible repeat first | exact BK810.out | apply kN | apply kD | apply kA), (by with_reducible repeat first | exact BK828.out | apply kN | apply kD | apply kA), (by with_reducible repeat first | exact BK829.out | apply kN | apply kD | apply kA), GW828.out, GE828.out, NB708_828.out, NB828_708.out, NB794_828.out, NB828_794.out, NB802_828.out, NB828_802.out, NB803_828.out, NB828_803.out, NB809_828.out, NB828_809.out, NB810_828.out, NB828_810.out, NB829_828.out, NB828_829.out, GW829.out, GE829.out, NB708_829.out, NB829_708.out, NB794_829.out, NB829_794.out, NB802_829.out, NB829_802.out, NB803_829.out, NB829_803.out, NB809_829.out, NB829_809.out, NB810_829.out, NB829_810.out, (by repeat with_reducible first | exact HB.out | apply bA | apply bN | apply bD | refine bS ?_ GE708.out | refine bS ?_ GE794.out | refine bS ?_ GE802.out | refine bS ?_ GE803.out | refine bS ?_ GE809.out | refine bS ?_ GE810.out | refine bS ?_ GE829.out | refine bS ?_ GE828.out)⟩)
      rintro ⟨gb828, gb829⟩ w97 ⟨hS_, h0_, h1_, h2_, h3_, h4_, h5_, h6_, h7_, h8_, h9_, h10_, h11_, h12_, h13_, h14_, h15_, h16_, h17_, h18_, h19_, h20_, h21_, h22_, h23_, h24_, h25_, h26_, h27_, h28_, h29_, h30_, h31_, h32_, h33_, h34_, h35_, h36_, h37_, h38_, h39_, h40_⟩
      have n0_ : Aside0 (Kd.R k53 53 w97 w.heap.size (fun _ => True) (.slice Ao31 t787.length co31) t787) := ⟨h0_⟩
      have n1_ : Aside0 (Kd.R (Kd.int .i64) 3 w97 w.heap.size (fun _ => True) (.slice Ao34 t790.length co34) t790) := ⟨h1_⟩
      have n2_ : Aside0 (w97.heap[gb708]? = some (.cells #[.slice (some ad826) l0_0.length c0_0, .slice A0_1 l0_1.length c0_1] 25 (0, 0))) := ⟨h2_⟩
      have n3_ : Aside0 (w97.heap[gb794]? = some (.cells #[.slice Ao31 t787.length co31, .slice Ao34 t790.length co34] 25 (0, 0))) := ⟨h3_⟩
      have n4_ : Aside0 (w97.heap[gb802]? = some (.cells #[.int .i64 t797, .int .i64 t798] 35 (0, 0))) := ⟨h4_⟩
      have n5_ : Aside0 (w97.heap[gb803]? = some (.cells #[.int .i64 t799, .int .i64 t800] 35 (0, 0))) := ⟨h5_⟩
      have n6_ : Aside0 (w97.heap[gb809]? = some (.cells #[.int .i64 t804, .int .i64 t805] 35 (0, 0))) := ⟨h6_⟩
      have n7_ : Aside0 (w97.heap[gb810]? = some (.cells #[.int .i64 t806, .int .i64 t807] 35 (0, 0))) := ⟨h7_⟩
      have n8_ : Aside0 (w97.heap[gb828]? = some (.cells #[.int .i64 0, .int .i64 0] 35 (0, 0))) := ⟨h8_⟩
      have n9_ : Aside0 (w97.heap[gb829]? = some (.cells #[.int .i64 0, .int .i64 0] 35 (0, 0))) := ⟨h9_⟩
      have n10_ : Aside0 (w.heap.size ≤ gb828) := ⟨h10_⟩
      have n11_ : Aside0 (w.heap.size ≤ gb828) := ⟨h11_⟩
      have n12_ : Aside0 (gb708 ≠ gb828) := ⟨h12_⟩
      have n13_ : Aside0 (gb828 ≠ gb708) := ⟨h13_⟩
      have n14_ : Aside0 (gb794 ≠ gb828) := ⟨h14_⟩
      have n15_ : Aside0 (gb828 ≠ gb794) := ⟨h15_⟩
      have n16_ : Aside0 (gb802 ≠ gb828) := ⟨h16_⟩
      have n17_ : Aside0 (gb828 ≠ gb802) := ⟨h17_⟩
      have n18_ : Aside0 (gb803 ≠ gb828) := ⟨h18_⟩
      have n19_ : Aside0 (gb828 ≠ gb803) := ⟨h19_⟩
      have n20_ : Aside0 (gb809 ≠ gb828) := ⟨h20_⟩
      have n21_ : Aside0 (gb828 ≠ gb809) := ⟨h21_⟩
      have n22_ : Aside0 (gb810 ≠ gb828) := ⟨h22_⟩
      have n23_ : Aside0 (gb828 ≠ gb810) := ⟨h23_⟩
      have n24_ : Aside0 (gb829 ≠ gb828) := ⟨h24_⟩
      have n25_ : Aside0 (gb828 ≠ gb829) := ⟨h25_⟩
      have n26_ : Aside0 (w.heap.size ≤ gb829) := ⟨h26_⟩
      have n27_ : Aside0 (w.heap.size ≤ gb829) := ⟨h27_⟩
      have n28_ : Aside0 (gb708 ≠ gb829) := ⟨h28_⟩
      have n29_ : Aside0 (gb829 ≠ gb708) := ⟨h29_⟩
      have n30_ : Aside0 (gb794 ≠ gb829) := ⟨h30_⟩
      have n31_ : Aside0 (gb829 ≠ gb794) := ⟨h31_⟩
      have n32_ : Aside0 (gb802 ≠ gb829) := ⟨h32_⟩
      have n33_ : Aside0 (gb829 ≠ gb802) := ⟨h33_⟩
      have n34_ : Aside0 (gb803 ≠ gb829) := ⟨h34_⟩
      have n35_ : Aside0 (gb829 ≠ gb803) := ⟨h35_⟩
      have n36_ : Aside0 (gb809 ≠ gb829) := ⟨h36_⟩
      have n37_ : Aside0 (gb829 ≠ gb809) := ⟨h37_⟩
      have n38_ : Aside0 (gb810 ≠ gb829) := ⟨h38_⟩
      have n39_ : Aside0 (gb829 ≠ gb810) := ⟨h39_⟩
      have n40_ : Aside0 (Below w.heap.size w w97) := ⟨h40_⟩
      clear HO_795000
      clear HO_795001
      clear BK708
      clear BK794
      clear BK802
      clear BK803
      clear BK809
      clear BK810
      clear HB
      clear h0_ h1_ h2_ h3_ h4_ h5_ h6_ h7_ h8_ h9_ h10_ h11_ h12_ h13_ h14_ h15_ h16_ h17_ h18_ h19_ h20_ h21_ h22_ h23_ h24_ h25_ h26_ h27_ h28_ h29_ h30_ h31_ h32_ h33_ h34_ h35_ h36_ h37_ h38_ h39_ h40_
      have HO_795000 := n0_
      have HO_795001 := n1_
      have BK708 := n2_
      have BK794 := n3_
      have BK802 := n4_
      have BK803 := n5_
      have BK809 := n6_
      have BK810 := n7_
      have BK828 := n8_
      have BK829 := n9_
      have GW828 := n10_
      have GE828 := n11_
      have NB708_828 := n12_
      have NB828_708 := n13_
      have NB794_828 := n14_
      have NB828_794 := n15_
      have NB802_828 := n16_
      have NB828_802 := n17_
      have NB803_828 := n18_
      have NB828_803 := n19_
      have NB809_828 := n20_
      have NB828_809 := n21_
      have NB810_828 := n22_
      have NB828_810 := n23_
      have NB829_828 := n24_
      have NB828_829 := n25_
      have GW829 := n26_
      have GE829 := n27_
      have NB708_829 := n28_
      have NB829_708 := n29_
      have NB794_829 := n30_
      have NB829_794 := n31_
      have NB802_829 := n32_
      have NB829_802 := n33_
      have NB803_829 := n34_
      have NB829_803 := n35_
      have NB809_829 := n36_
      have NB829_809 := n37_
      have NB810_829 := n38_
      have NB829_810 := n39_
      have HB := n40_
      clear n0_ n1_ n2_ n3_ n4_ n5_ n6_ n7_ n8_ n9_ n10_ n11_ n12_ n13_ n14_ n15_ n16_ n17_ n18_ n19_ n20_ n21_ n22_ n23_ n24_ n25_ n26_ n27_ n28_ n29_ n30_ n31_ n32_ n33_ n34_ n35_ n36_ n37_ n38_ n39_ n40_
      have hHeld : w97.cell? ⟨gb708, 0, none⟩ = some (.slice (some ad826) l0_0.length c0_0) ∧ w97.cell? ⟨gb708, 1, none⟩ = some (.slice A0_1 l0_1.length c0_1) ∧ w97.cell? ad826 = some (.int .i64 ((rd_T53 l0_0 0).f0.f0)) ∧ w97.cell? ⟨ad826.block, ad826.off + 1, none⟩ = some (.int .i64 ((rd_T53 l0_0 0).f0.f1)) ∧ w97.cell? (ad826.add (((ji80)).toNat * 22)) = some (.int .i64 ((rd_T53 l0_0 (ji80)).f0.f0)) ∧ w97.cell? ⟨(ad826.add (((ji80)).toNat * 22)).block, (ad826.add (((ji80)).toNat * 22)).off + 1, none⟩ = some (.int .i64 ((rd_T53 l0_0 (ji80)).f0.f1)) := hS_
      refine norm_ (a' := ?_) ?_ ?_
      rotate_left
      ·
       simp only [putAll, Act.put, List.setIfInBounds_toArray, List.set_cons_zero, List.set_cons_succ]
       rfl
      refine one_ (i := 16) (N := none) (bm 18 131071) rfl rfl (one_of HT_.out (by kernel_rfl)) (by decide) (fun K hK => ?_)
      have hs98 : w97.cell? ⟨gb828, 0, none⟩ = some (.int .i64 0) := (blk_cell BK828.out 0).trans rfl
      have hfs98 := blk_frozen BK828.out 0
      have hns98_0 := NB708_828.out
      have hns98_1 := NB794_828.out
      have hns98_2 := NB802_828.out
      have hns98_3 := NB803_828.out
      have hns98_4 := NB809_828.out
      have hns98_5 := NB810_828.out
      have hns98_7 := NB829_828.out
      have hms98_0 := NB828_708.out
      have hms98_1 := NB828_794.out
      have hms98_2 := NB828_802.out
      have hms98_3 := NB828_803.out
      have hms98_4 := NB828_809.out
      have hms98_5 := NB828_810.out
      have hms98_7 := NB828_829.out
      have hs99 : w97.cell? ⟨gb828, 1, none⟩ = some (.int .i64 0) := (blk_cell BK828.out 1).trans rfl
      have hfs99 := blk_frozen BK828.out 1
      have hns99_0 := NB708_828.out
      have hns99_1 := NB794_828.out
      have hns99_2 := NB802_828.out
      have hns99_3 := NB803_828.out
      have hns99_4 := NB809_828.out
      have hns99_5 := NB810_828.out
      have hns99_7 := NB829_828.out
      have hms99_0 := NB828_708.out
      have hms99_1 := NB828_794.out
      have hms99_2 := NB828_802.out
      have hms99_3 := NB828_803.out
      have hms99_4 := NB828_809.out
      have hms99_5 := NB828_810.out
      have hms99_7 := NB828_829.out
      refine skip_ (w1 := ?_) (by rfl) rfl ?_ ?_
      rotate_left
      ·
       go_simp
       rfl
      refine hK.out _ _ ⟨((cell_far (p := ⟨gb828, _, none⟩) NB708_828.out _).trans (((cell_far (p := ⟨gb828, _, none⟩) NB708_828.out _).trans (hHeld.1)))), ((cell_far (p := ⟨gb828, _, none⟩) NB708_828.out _).trans (((cell_far (p := ⟨gb828, _, none⟩) NB708_828.out _).trans (hHeld.2.1)))), ((cell_far (p := ⟨gb828, _, none⟩) (by first | exact nb hw826_0 GW828.out | exact nc hw826_0 GW828.out | exact nd hw826_0 GW828.out) _).trans (((cell_far (p := ⟨gb828, _, none⟩) (by first | exact nb hw826_0 GW828.out | exact nc hw826_0 GW828.out | exact nd hw826_0 GW828.out) _).trans (hHeld.2.2.1)))), ((cell_far (p := ⟨gb828, _, none⟩) (by first | exact nb hw826_1 GW828.out | exact nc hw826_1 GW828.out | exact nd hw826_1 GW828.out) _).trans (((cell_far (p := ⟨gb828, _, none⟩) (by first | exact nb hw826_1 GW828.out | exact nc hw826_1 GW828.out | exact nd hw826_1 GW828.out) _).trans (hHeld.2.2.2.1)))), ((cell_far (p := ⟨gb828, _, none⟩) (by first | exact nb hw827_0 GW828.out | exact nc hw827_0 GW828.out | exact nd hw827_0 GW828.out) _).trans (((cell_far (p := ⟨gb828, _, none⟩) (by first | exact nb hw827_0 GW828.out | exact nc hw827_0 GW828.out | exact nd hw827_0 GW828.out) _).trans (hHeld.2.2.2.2.1)))), ((cell_far (p := ⟨gb828, _, none⟩) (by first | exact nb hw827_1 GW828.out | exact nc hw827_1 GW828.out | exact nd hw827_1 GW828.out) _).trans (((cell_far (p := ⟨gb828, _, none⟩) (by first | exact nb hw827_1 GW828.out | exact nc hw827_1 GW828.out | exact nd hw827_1 GW828.out) _).trans (hHeld.2.2.2.2.2))))⟩ (fun hHeld => ?_)
      clear hK K
      refine one_ (i := 17) (N := none) (bm 18 262143) rfl rfl (one_of HT_.out (by kernel_rfl)) (by decide) (fun K hK => ?_)
      have hs100 : w97.cell? ⟨gb829, 0, none⟩ = some (.int .i64 0) := (blk_cell BK829.out 0).trans rfl
      have hfs100 := blk_frozen BK829.out 0
      have hns100_0 := NB708_829.out
      have hns100_1 := NB794_829.out
      have hns100_2 := NB802_829.out
      have hns100_3 := NB803_829.out
      have hns100_4 := NB809_829.out
      have hns100_5 := NB810_829.out
      have hns100_6 := NB828_829.out
      have hms100_0 := NB829_708.out
      have hms100_1 := NB829_794.out
      have hms100_2 := NB829_802.out
      have hms100_3 := NB829_803.out
      have hms100_4 := NB829_809.out
      have hms100_5 := NB829_810.out
      have hms100_6 := NB829_828.out
      have hs101 : w97.cell? ⟨gb829, 1, none⟩ = some (.int .i64 0) := (blk_cell BK829.out 1).trans rfl
      have hfs101 := blk_frozen BK829.out 1
      have hns101_0 := NB708_829.out
      have hns101_1 := NB794_829.out
      have hns101_2 := NB802_829.out
      have hns101_3 := NB803_829.out
      have hns101_4 := NB809_829.out
      have hns101_5 := NB810_829.out
      have hns101_6 := NB828_829.out
      have hms101_0 := NB829_708.out
      have hms101_1 := NB829_794.out
      have hms101_2 := NB829_802.out
      have hms101_3 := NB829_803.out
      have hms101_4 := NB829_809.out
      have hms101_5 := NB829_810.out
      have hms101_6 := NB829_828.out
      refine skip_ (w1 := ?_) (by rfl) rfl ?_ ?_
      rotate_left
      ·
       go_simp
       rfl
      refine hK.out _ _ ⟨((cell_far (p := ⟨gb829, _, none⟩) NB708_829.out _).trans (((cell_far (p := ⟨gb829, _, none⟩) NB708_829.out _).trans (hHeld.1)))), ((cell_far (p := ⟨gb829, _, none⟩) NB708_829.out _).trans (((cell_far (p := ⟨gb829, _, none⟩) NB708_829.out _).trans (hHeld.2.1)))), ((cell_far (p := ⟨gb829, _, none⟩) (by first | exact nb hw826_0 GW829.out | exact nc hw826_0 GW829.out | exact nd hw826_0 GW829.out) _).trans (((cell_far (p := ⟨gb829, _, none⟩) (by first | exact nb hw826_0 GW829.out | exact nc hw826_0 GW829.out | exact nd hw826_0 GW829.out) _).trans (hHeld.2.2.1)))), ((cell_far (p := ⟨gb829, _, none⟩) (by first | exact nb hw826_1 GW829.out | exact nc hw826_1 GW829.out | exact nd hw826_1 GW829.out) _).trans (((cell_far (p := ⟨gb829, _, none⟩) (by first | exact nb hw826_1 GW829.out | exact nc hw826_1 GW829.out | exact nd hw826_1 GW829.out) _).trans (hHeld.2.2.2.1)))), ((cell_far (p := ⟨gb829, _, none⟩) (by first | exact nb hw827_0 GW829.out | exact nc hw827_0 GW829.out | exact nd hw827_0 GW829.out) _).trans (((cell_far (p := ⟨gb829, _, none⟩) (by first | exact nb hw827_0 GW829.out | exact nc hw827_0 GW829.out | exact nd hw827_0 GW829.out) _).trans (hHeld.2.2.2.2.1)))), ((cell_far (p := ⟨gb829, _, none⟩) (by first | exact nb hw827_1 GW829.out | exact nc hw827_1 GW829.out | exact nd hw827_1 GW829.out) _).trans (((cell_far (p := ⟨gb829, _, none⟩) (by first | exact nb hw827_1 GW829.out | exact nc hw827_1 GW829.out | exact nd hw827_1 GW829.out) _).trans (hHeld.2.2.2.2.2))))⟩ (fun hHeld => ?_)
      clear hK K
      refine done_ (done_of HT_.out (by kernel_rfl)) ?_
      have hnb102 := NB829_708.out
      have hnc102 := NB708_829.out
      have hnb103 := NB829_794.out
      have hnc103 := NB794_829.out
      have hnb104 := NB829_802.out
      have hnc104 := NB802_829.out
      have hnb105 := NB829_803.out
      have hnc105 := NB803_829.out
      have hnb106 := NB829_809.out
      have hnc106 := NB809_829.out
      have hnb107 := NB829_810.out
      have hnc107 := NB810_829.out
      have hnb108 := NB829_828.out
      have hnc108 := NB828_829.out
      obtain ⟨hcz109_0, hcz109_1, hfz109_0, hfz109_1⟩ := kc2 BK829.out
      have hnb110 := NB828_708.out
      have hnc110 := NB708_828.out
      have hnb111 := NB828_794.out
      have hnc111 := NB794_828.out
      have hnb112 := NB828_802.out
      have hnc112 := NB802_828.out
      have hnb113 := NB828_803.out
      have hnc113 := NB803_828.out
      have hnb114 := NB828_809.out
      have hnc114 := NB809_828.out
      have hnb115 := NB828_810.out
      have hnc115 := NB810_828.out
      obtain ⟨hcz116_0, hcz116_1, hfz116_0, hfz116_1⟩ := kc2 BK828.out
      try go_wp2_with (first | ((with_reducible refine gate_callee (f := 24) rfl ?_); refine goesL_ (some 181) rfl rfl Try.func24 (by kernel_rfl) rfl #[.int .i64 (wrap64 ((wrap64 ((wrap64 (((rd_T53 l0_0 (ji80)).f0.f0) - ((rd_T53 l0_0 0).f0.f0))) * (wrap64 (((rd_T53 l0_0 (ji80)).f0.f0) - ((rd_T53 l0_0 0).f0.f0))))) + (wrap64 ((wrap64 (((rd_T53 l0_0 (ji80)).f0.f1) - ((rd_T53 l0_0 0).f0.f1))) * (wrap64 (((rd_T53 l0_0 (ji80)).f0.f1) - ((rd_T53 l0_0 0).f0.f1)))))))] rfl (by (try simp only [List.map_toArray, List.map_cons, List.map_nil]); first | done | (simp only [hji80]; rfl) | rfl | (simp only [List.length_drop, List.length_take]; rfl)) ?_; (with_reducible refine (num_Root.calls k1 (wrap64 ((wrap64 ((wrap64 (((rd_T53 l0_0 (ji80)).f0.f0) - ((rd_T53 l0_0 0).f0.f0))) * (wrap64 (((rd_T53 l0_0 (ji80)).f0.f0) - ((rd_T53 l0_0 0).f0.f0))))) + (wrap64 ((wrap64 (((rd_T53 l0_0 (ji80)).f0.f1) - ((rd_T53 l0_0 0).f0.f1))) * (wrap64 (((rd_T53 l0_0 (ji80)).f0.f1) - ((rd_T53 l0_0 0).f0.f1))))))) t830 t831 _ A83.out).mono ?_); rintro e w' ⟨rfl, ⟨nd, rfl⟩⟩; refine ⟨_, rfl, ?_⟩; obtain ⟨hcz117_0, hcz117_1, hfz117_0, hfz117_1⟩ := kc2 BK708.out) | (go_at_call 10; (with_reducible refine (dancestudiolaw43_awake.calls  t832 _ A87.out).mono ?_); rintro e w118 ⟨rfl, hb⟩; replace HO_795000 := Aside0.mk (Kd.R_below (by (with_reducible repeat first | apply rA | apply rN | apply rD); exact (Kd.R_mono (Kd.R_mono (Kd.R_far (p := ⟨gb829, 1, none⟩) (Kd.R_far (p := ⟨gb829, 0, none⟩) (Kd.R_far (p := ⟨gb828, 1, none⟩) (Kd.R_far (p := ⟨gb828, 0, none⟩) (Kd.R_types (Kd.R_types HO_795000.out BK828.out (by decide)) BK829.out (by decide)) (fun _ hk => hk.1.2) (.int .i64 ((rd_T53 l0_0 0).f0.f0))) (fun _ hk => hk.1.2) (.int .i64 ((rd_T53 l0_0 0).f0.f1))) (fun _ hk => hk.2) (.int .i64 ((rd_T53 l0_0 (ji80)).f0.f0))) (fun _ hk => hk.2) (.int .i64 ((rd_T53 l0_0 (ji80)).f0.f1))) (fun _ h_ => h_.1)) (fun _ h_ => h_.1))) hb); replace HO_795001 := Aside0.mk (Kd.R_below (by (with_reducible repeat first | apply rA | apply rN | apply rD); exact (Kd.R_mono (Kd.R_mono (Kd.R_far (p := ⟨gb829, 1, none⟩) (Kd.R_far (p := ⟨gb829, 0, none⟩) (Kd.R_far (p := ⟨gb828, 1, none⟩) (Kd.R_far (p := ⟨gb828, 0, none⟩) (Kd.R_types (Kd.R_types HO_795001.out BK828.out (by decide)) BK829.out (by decide)) (fun _ hk => hk.1.2) (.int .i64 ((rd_T53 l0_0 0).f0.f0))) (fun _ hk => hk.1.2) (.int .i64 ((rd_T53 l0_0 0).f0.f1))) (fun _ hk => hk.2) (.int .i64 ((rd_T53 l0_0 (ji80)).f0.f0))) (fun _ hk => hk.2) (.int .i64 ((rd_T53 l0_0 (ji80)).f0.f1))) (fun _ h_ => h_.1)) (fun _ h_ => h_.1))) hb); replace BK708 := Aside0.mk (blk_below (o := .cells #[.slice (some ad826) l0_0.length c0_0, .slice A0_1 l0_1.length c0_1] 25 (0, 0)) (by (with_reducible repeat first | apply kN | apply kD | apply kA); refine blk_far ?_ NB708_829.out _; (with_reducible repeat first | apply kN | apply kD | apply kA); refine blk_far ?_ NB708_829.out _; (with_reducible repeat first | apply kN | apply kD | apply kA); refine blk_far ?_ NB708_828.out _; (with_reducible repeat first | apply kN | apply kD | apply kA); refine blk_far ?_ NB708_828.out _; (with_reducible repeat first | apply kN | apply kD | apply kA); exact BK708.out) hb); replace BK794 := Aside0.mk (blk_below (o := .cells #[.slice Ao31 t787.length co31, .slice Ao34 t790.length co34] 25 (0, 0)) (by (with_reducible repeat first | apply kN | apply kD | apply kA); refine blk_far ?_ NB794_829.out _; (with_reducible repeat first | apply kN | apply kD | apply kA); refine blk_far ?_ NB794_829.out _; (with_reducible repeat first | apply kN | apply kD | apply kA); refine blk_far ?_ NB794_828.out _; (with_reducible repeat first | apply kN | apply kD | apply kA); refine blk_far ?_ NB794_828.out _; (with_reducible repeat first | apply kN | apply kD | apply kA); exact BK794.out) hb); replace BK802 := Aside0.mk (blk_below (o := .cells #[.int .i64 t797, .int .i64 t798] 35 (0, 0)) (by (with_reducible repeat first | apply kN | apply kD | apply kA); refine blk_far ?_ NB802_829.out _; (with_reducible repeat first | apply kN | apply kD | apply kA); refine blk_far ?_ NB802_829.out _; (with_reducible repeat first | apply kN | apply kD | apply kA); refine blk_far ?_ NB802_828.out _; (with_reducible repeat first | apply kN | apply kD | apply kA); refine blk_far ?_ NB802_828.out _; (with_reducible repeat first | apply kN | apply kD | apply kA); exact BK802.out) hb); replace BK803 := Aside0.mk (blk_below (o := .cells #[.int .i64 t799, .int .i64 t800] 35 (0, 0)) (by (with_reducible repeat first | apply kN | apply kD | apply kA); refine blk_far ?_ NB803_829.out _; (with_reducible repeat first | apply kN | apply kD | apply kA); refine blk_far ?_ NB803_829.out _; (with_reducible repeat first | apply kN | apply kD | apply kA); refine blk_far ?_ NB803_828.out _; (with_reducible repeat first | apply kN | apply kD | apply kA); refine blk_far ?_ NB803_828.out _; (with_reducible repeat first | apply kN | apply kD | apply kA); exact BK803.out) hb); replace BK809 := Aside0.mk (blk_below (o := .cells #[.int .i64 t804, .int .i64 t805] 35 (0, 0)) (by (with_reducible repeat first | apply kN | apply kD | apply kA); refine blk_far ?_ NB809_829.out _; (with_reducible repeat first | apply kN | apply kD | apply kA); refine blk_far ?_ NB809_829.out _; (with_reducible repeat first | apply kN | apply kD | apply kA); refine blk_far ?_ NB809_828.out _; (with_reducible repeat first | apply kN | apply kD | apply kA); refine blk_far ?_ NB809_828.out _; (with_reducible repeat first | apply kN | apply kD | apply kA); exact BK809.out) hb); replace BK810 := Aside0.mk (blk_below (o := .cells #[.int .i64 t806, .int .i64 t807] 35 (0, 0)) (by (with_reducible repeat first | apply kN | apply kD | apply kA); refine blk_far ?_ NB810_829.out _; (with_reducible repeat first | apply kN | apply kD | apply kA); refine blk_far ?_ NB810_829.out _; (with_reducible repeat first | apply kN | apply kD | apply kA); refine blk_far ?_ NB810_828.out _; (with_reducible repeat first | apply kN | apply kD | apply kA); refine blk_far ?_ NB810_828.out _; (with_reducible repeat first | apply kN | apply kD | apply kA); exact BK810.out) hb); replace BK828 := Aside0.mk (blk_below (o := .cells #[.int .i64 ((rd_T53 l0_0 0).f0.f0), .int .i64 ((rd_T53 l0_0 0).f0.f1)] 35 (0, 0)) (by (with_reducible repeat first | apply kN | apply kD | apply kA); refine blk_far ?_ NB828_829.out _; (with_reducible repeat first | apply kN | apply kD | apply kA); refine blk_far ?_ NB828_829.out _; (with_reducible repeat first | apply kN | apply kD | apply kA); refine blk_put (cs := #[.int .i64 ((rd_T53 l0_0 0).f0.f0), .int .i64 0]) ?_ 1 _ rfl; (with_reducible repeat first | apply kN | apply kD | apply kA); refine blk_put (cs := #[.int .i64 0, .int .i64 0]) ?_ 0 _ rfl; (with_reducible repeat first | apply kN | apply kD | apply kA); exact BK828.out) hb); replace BK829 := Aside0.mk (blk_below (o := .cells #[.int .i64 ((rd_T53 l0_0 (ji80)).f0.f0), .int .i64 ((rd_T53 l0_0 (ji80)).f0.f1)] 35 (0, 0)) (by (with_reducible repeat first | apply kN | apply kD | apply kA); refine blk_put (cs := #[.int .i64 ((rd_T53 l0_0 (ji80)).f0.f0), .int .i64 0]) ?_ 1 _ rfl; (with_reducible repeat first | apply kN | apply kD | apply kA); refine blk_put (cs := #[.int .i64 0, .int .i64 0]) ?_ 0 _ rfl; (with_reducible repeat first | apply kN | apply kD | apply kA); refine blk_far ?_ NB829_828.out _; (with_reducible repeat first | apply kN | apply kD | apply kA); refine blk_far ?_ NB829_828.out _; (with_reducible repeat first | apply kN | apply kD | apply kA); exact BK829.out) hb); replace HB := Aside0.mk (below_step (by repeat with_reducible first | exact HB.out | apply bA | apply bN | apply bD | refine bS ?_ GE708.out | refine bS ?_ GE794.out | refine bS ?_ GE802.out | refine bS ?_ GE803.out | refine bS ?_ GE809.out | refine bS ?_ GE810.out | refine bS ?_ GE828.out | refine bS ?_ GE829.out) hb); (try clear hb); (try clear hb2); (try clear hk); (try clear hi)))
      go_ret
      exact ⟨by first | rfl | (simp [errW_none, errW_some] <;> rfl) | (simp only [← hji80]; first | rfl | (simp [errW_none, errW_some] <;> rfl)) | (simp [*, errW_none, errW_some] <;> rfl), by repeat with_reducible first | exact HB.out | apply bA | apply bN | apply bD | refine bS ?_ GE708.out | refine bS ?_ GE794.out | refine bS ?_ GE802.out | refine bS ?_ GE803.out | refine bS ?_ GE809.out | refine bS ?_ GE810.out | refine bS ?_ GE828.out | refine bS ?_ GE829.out⟩
  ·
   rw [if_neg c10] at H
   have c10b0 : (t750 == 0) = false := beq_eq_false_iff_ne.mpr c10
   have c10b1 : (t750 != 0) = true := bne_iff_ne.mpr c10
   by_cases c119 : t749 = 0
   ·
    rw [if_pos c119] at H
    have c119b0 : (t749 == 0) = true := beq_iff_eq.mpr c119
    have c119b1 : (t749 != 0) = false := bne_eq_false_iff_eq.mpr c119
    clear c119
    replace H := Option.bind_eq_some_iff.mp H
    obtain ⟨t751, A1200, H⟩ := H
    replace H : (some t751) = some r := H
    have A120 := Aside0.mk A1200
    clear A1200
    obtain rfl := Option.some.inj H
    go_enter Try.func8, Try.ntmps8
    go_wp2_with (first | ((with_reducible refine gate_dst (N := 1) rfl ?_); refine box_event ?hg (N := 1) ?hd (cs := #[.slice A0_0 l0_0.length c0_0, .slice A0_1 l0_1.length c0_1]) (t := 25) ?hr ?_; (case hd => rfl); (case hg => rfl); (case hr => first | (go_simp; done) | (go_simp; rfl)); intro gb708 hg w121 hbox hb; have BK708 := Aside0.mk (hbox); have GW708 := Aside0.mk ((by rw [hg]; exact (below_size (by repeat with_reducible first | exact HB.out | apply bA | apply bN | apply bD)) : w.heap.size ≤ gb708)); have GE708 := GW708; replace HB := Aside0.mk (below_step (by repeat with_reducible first | exact HB.out | apply bA | apply bN | apply bD) hb); clear hb hbox hg; obtain ⟨hcz122_0, hcz122_1, hfz122_0, hfz122_1⟩ := kc2 BK708.out) | ((with_reducible refine gate_callee (f := 9) rfl ?_); refine goesL_ (some 22) rfl rfl Try.func9 (by kernel_rfl) rfl #[.agg #[.slice A0_0 l0_0.length c0_0, .slice A0_1 l0_1.length c0_1]] rfl (by (try simp only [List.map_toArray, List.map_cons, List.map_nil]); first | done | rfl | (simp only [List.length_drop, List.length_take]; rfl)) ?_; (with_reducible refine (dancestudiolaw43_great.calls _ _ l0_0 _ _ l0_1 false _ ?side1 ?side2 ?side3 ?side4 A2.out).mono ?_); (case side1 => repeat (first | exact (Kd.C_below HR0_0.out HB.out) | (with_reducible first | apply cA | apply cN | apply cD))); (case side2 => exact HC0_0.out); (case side3 => repeat (first | exact (Kd.C_below HR0_1.out HB.out) | (with_reducible first | apply cA | apply cN | apply cD))); (case side4 => exact HC0_1.out); rintro e w123 ⟨rfl, hb⟩; refine ⟨_, rfl, ?_⟩; replace BK708 := Aside0.mk (blk_below (o := .cells #[.slice A0_0 l0_0.length c0_0, .slice A0_1 l0_1.length c0_1] 25 (0, 0)) (by with_reducible repeat first | exact BK708.out | apply kN | apply kD | apply kA) hb); replace HB := Aside0.mk (below_step (by repeat with_reducible first | exact HB.out | apply bA | apply bN | apply bD | refine bS ?_ GE708.out) hb); (try clear hb); (try clear hb2); (try clear hk); (try clear hi); obtain ⟨hcz124_0, hcz124_1, hfz124_0, hfz124_1⟩ := kc2 BK708.out) | ((with_reducible refine gate_callee (f := 17) rfl ?_); refine goesL_ (some 26) rfl rfl Try.func17 (by kernel_rfl) rfl #[.agg #[.slice A0_0 l0_0.length c0_0, .slice A0_1 l0_1.length c0_1]] rfl (by (try simp only [List.map_toArray, List.map_cons, List.map_nil]); first | done | rfl | (simp only [List.length_drop, List.length_take]; rfl)) ?_; (with_reducible refine (floor_Way.calls k _ _ l0_0 _ _ l0_1 t749 t750 _ ?side1 ?side2 ?side3 ?side4 A9.out).mono ?_); (case side1 => repeat (first | exact (Kd.C_below HR0_0.out HB.out) | (with_reducible first | apply cA | apply cN | apply cD))); (case side2 => exact HC0_0.out); (case side3 => repeat (first | exact (Kd.C_below HR0_1.out HB.out) | (with_reducible first | apply cA | apply cN | apply cD))); (case side4 => exact HC0_1.out); rintro e w125 ⟨rfl, hb⟩; refine ⟨_, rfl, ?_⟩; replace BK708 := Aside0.mk (blk_below (o := .cells #[.slice A0_0 l0_0.length c0_0, .slice A0_1 l0_1.length c0_1] 25 (0, 0)) (by with_reducible repeat first | exact BK708.out | apply kN | apply kD | apply kA) hb); replace HB := Aside0.mk (below_step (by repeat with_reducible first | exact HB.out | apply bA | apply bN | apply bD | refine bS ?_ GE708.out) hb); (try clear hb); (try clear hb2); (try clear hk); (try clear hi)) | (go_at_call 10; (with_reducible refine (dancestudiolaw43_awake.calls  t751 _ A120.out).mono ?_); rintro e w126 ⟨rfl, hb⟩; replace BK708 := Aside0.mk (blk_below (o := .cells #[.slice A0_0 l0_0.length c0_0, .slice A0_1 l0_1.length c0_1] 25 (0, 0)) (by with_reducible repeat first | exact BK708.out | apply kN | apply kD | apply kA) hb); replace HB := Aside0.mk (below_step (by repeat with_reducible first | exact HB.out | apply bA | apply bN | apply bD | refine bS ?_ GE708.out) hb); (try clear hb); (try clear hb2); (try clear hk); (try clear hi)))
    go_ret
    exact ⟨by first | rfl | (simp [errW_none, errW_some] <;> rfl) | (simp [*, errW_none, errW_some] <;> rfl), by repeat with_reducible first | exact HB.out | apply bA | apply bN | apply bD | refine bS ?_ GE708.out⟩
   ·
    rw [if_neg c119] at H
    exact absurd H (by simp)

end Go.Proofs.Ytmdmajfgpmopbaa.X
