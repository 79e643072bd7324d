-- squeezed
-- written by xprint.py, an own overlay over the kit's print; not trusted: Lean checks it
import Derived.Test.YtmdmajfgpmopbaaX0
import Derived.Test.YtmdmajfgpmopbaaX2
import Derived.Test.YtmdmajfgpmopbaaX4
import Derived.Test.YtmdmajfgpmopbaaX32
import Derived.Test.YtmdmajfgpmopbaaX33
import Derived.Test.YtmdmajfgpmopbaaX36
namespace Go.Proofs.Ytmdmajfgpmopbaa.X
open Go.RowKit Go.Proofs.YtmdmajfgpmopbaaW.PrintWords Go.Proofs.YtmdmajfgpmopbaaW.PrintLast Go.Proofs.YtmdmajfgpmopbaaW.PrintMore
attribute [local go_sem] max2_int min2_int max_two min_two max_three min_three max_four min_four   -- for this text's walks alone
set_option linter.unusedVariables false
set_option linter.unusedSimpArgs false

attribute [local go_sem high] eqA44
/-! ### dancestudiolaw43_FloorHits: function 7 -/
def dancestudiolaw43_FloorHits.l0 : Nat → Int → Int → Int → Int → List (S64) → List (S53) → List Int → Int → Int → Int → Option (Bool)
 | 0, _, _, _, _, _, _, _, _, _, _ => none
 | k + 1, x2, x9, x641000, x641001, x641002, x642000, x642001, x663000, x663001, x663002 => if x9 < (x642001.length : Int) then (if 0 ≤ x9 then (if x9 < (x642000.length : Int) then (if 0 ≤ (wrap64 (x9 + 1)) then (if (wrap64 (x9 + 1)) < (x642000.length : Int) then ((stage_Clear.f k x641000 x641001 x641002 ((rd_T53 x642000 x9).f0.f0) ((rd_T53 x642000 x9).f0.f1) ((rd_T53 x642000 (wrap64 (x9 + 1))).f0.f0) ((rd_T53 x642000 (wrap64 (x9 + 1))).f0.f1) x2).bind fun bt683 => (if bt683.2.2 = 0 then (if x9 = x663000 then (if bt683.1 = true then (if bt683.2.1 ≥ 0 then (if x663002 = bt683.2.1 then ((dancestudiolaw43_awake.f).bind fun t686 => (some t686)) else (none)) else (none)) else (if x663002 = (-1) then ((dancestudiolaw43_awake.f).bind fun t687 => (some t687)) else (none))) else (if bt683.1 = true then (if bt683.2.1 ≥ 0 then (none) else (dancestudiolaw43_FloorHits.l0 k x2 (wrap64 (x9 + 1)) x641000 x641001 x641002 x642000 x642001 x663000 x663001 x663002)) else (none))) else (none))) else (none)) else (none)) else (none)) else (none)) else (if (x663000 == (-1) && (x663001 == 0 && (x663002 == 0))) = true then ((dancestudiolaw43_awake.f).bind fun t680 => (some t680)) else (none))
def dancestudiolaw43_FloorHits.f (k : Nat) (a0_0 a0_1 : Int) (l0_2 : List (S64)) (l1_0 : List (S53)) (l1_1 : List Int) (a2 : Int) : Option (Bool) := (dancestudiolaw43_great.f l1_0 l1_1).bind fun t642 => (if t642 = true then ((dancestudiolaw43_awake.f).bind fun t643 => (some t643)) else ((floor_First.f k a0_0 a0_1 l0_2 l1_0 l1_1 a2).bind fun bt658 => (if bt658.2.2.2 = 0 then (if bt658.1 < (-1) then (none) else (if bt658.1 ≥ (l1_1.length : Int) then (none) else (if (l1_0.length : Int) = (wrap64 ((l1_1.length : Int) + 1)) then (if bt658.2.1 = 0 then (dancestudiolaw43_FloorHits.l0 k a2 0 a0_0 a0_1 l0_2 l1_0 l1_1 bt658.1 bt658.2.1 bt658.2.2.1) else (none)) else (none)))) else (if (bt658.1 == 0 && (bt658.2.1 == 0 && (bt658.2.2.1 == 0))) = true then ((dancestudiolaw43_awake.f).bind fun t663 => (some t663)) else (none)))))
theorem dancestudiolaw43_FloorHits.mono_l : ∀ k, (∀ y0 y1 y2 y3 y4 y5 y6 y7 y8 y9, LeO (dancestudiolaw43_FloorHits.l0 k y0 y1 y2 y3 y4 y5 y6 y7 y8 y9) (dancestudiolaw43_FloorHits.l0 (k + 1) y0 y1 y2 y3 y4 y5 y6 y7 y8 y9))
 | 0 => fun _ _ _ _ _ _ _ _ _ _ r h => by simp [dancestudiolaw43_FloorHits.l0] at h
 | k + 1 => by
  have ih0 := dancestudiolaw43_FloorHits.mono_l k
  ·
   intro y0 y1 y2 y3 y4 y5 y6 y7 y8 y9
   unfold dancestudiolaw43_FloorHits.l0
   repeat' first
   | (with_reducible exact ih0 _ _ _ _ _ _ _ _ _ _)
   | (with_reducible exact floor_First.mono _ _ _ _ _ _ _)
   | (with_reducible exact stage_Clear.mono _ _ _ _ _ _ _ _ _)
   | (with_reducible exact LeO.refl _)
   | (with_reducible exact LeO.none _)
   | (with_reducible refine LeO.ite ?_ ?_)
   | (with_reducible refine LeO.bind ?_ (fun _ => ?_))
   | exact ih0 _ _ _ _ _ _ _ _ _ _
   | exact floor_First.mono _ _ _ _ _ _ _
   | exact stage_Clear.mono _ _ _ _ _ _ _ _ _
   | exact LeO.none _
   | refine LeO.ite ?_ ?_
   | refine LeO.bind ?_ (fun _ => ?_)
theorem dancestudiolaw43_FloorHits.mono : ∀ a0 a1 a2 a3 a4 a5 k, LeO (dancestudiolaw43_FloorHits.f k a0 a1 a2 a3 a4 a5) (dancestudiolaw43_FloorHits.f (k + 1) a0 a1 a2 a3 a4 a5) := by
 intro a0 a1 a2 a3 a4 a5 k
 have ih0 := dancestudiolaw43_FloorHits.mono_l k
 unfold dancestudiolaw43_FloorHits.f
 repeat' first
   | (with_reducible exact ih0 _ _ _ _ _ _ _ _ _ _)
   | (with_reducible exact floor_First.mono _ _ _ _ _ _ _)
   | (with_reducible exact stage_Clear.mono _ _ _ _ _ _ _ _ _)
   | (with_reducible exact LeO.refl _)
   | (with_reducible exact LeO.none _)
   | (with_reducible refine LeO.ite ?_ ?_)
   | (with_reducible refine LeO.bind ?_ (fun _ => ?_))
   | exact ih0 _ _ _ _ _ _ _ _ _ _
   | exact floor_First.mono _ _ _ _ _ _ _
   | exact stage_Clear.mono _ _ _ _ _ _ _ _ _
   | exact LeO.none _
   | refine LeO.ite ?_ ?_
   | refine LeO.bind ?_ (fun _ => ?_)
def dancestudiolaw43_FloorHits.T11 : Bool × List (List Nat × List Nat) := (true, [([], []), ([], []), ([1], [1]), ([], []), ([2, 3], [2, 3]), ([4], [4]), ([5], [5]), ([], []), ([7], [7]), ([], []), ([9], [9]), ([8, 10], [8, 10]), ([11], [11]), ([12], [12]), ([], []), ([6, 13, 14], [6, 13, 14]), ([0, 15], [0, 15]), ([16], [16]), ([17], [17]), ([17], [17]), ([17], [17]), ([18, 16, 0, 1, 2, 3, 4, 5, 6, 7, 8, 9, 10, 11, 12, 13, 14, 15, 16, 17, 18], [18]), ([19, 21, 0, 1, 2, 3, 4, 5, 6, 7, 8, 9, 10, 11, 12, 13, 14, 15, 16, 17, 18, 19, 21], [19]), ([20, 22, 0, 1, 2, 3, 4, 5, 6, 7, 8, 9, 10, 11, 12, 13, 14, 15, 16, 17, 18, 19, 20, 21, 22], [20])])
def dancestudiolaw43_FloorHits.B11 : List Nat := [0, 0, 2, 0, 14, 30, 62, 0, 128, 0, 512, 1920, 3968, 8064, 0, 32766, 65535, 131071, 262143, 262143, 262143, 524287, 3145727, 8388607]
theorem dancestudiolaw43_FloorHits.tab11 : rtab .any (opsOf Try.f7 11) = dancestudiolaw43_FloorHits.T11 := by kernel_rfl
theorem dancestudiolaw43_FloorHits.bits11 : waitsOk dancestudiolaw43_FloorHits.T11.2 dancestudiolaw43_FloorHits.B11 = true := by kernel_rfl
set_option maxHeartbeats 8000000 in
set_option maxRecDepth 100000 in
theorem dancestudiolaw43_FloorHits.calls (k : Nat) (a0_0 a0_1 : Int) (A0_2 : Option Addr) (c0_2 : Nat) (l0_2 : List (S64)) (A1_0 : Option Addr) (c1_0 : Nat) (l1_0 : List (S53)) (A1_1 : Option Addr) (c1_1 : Nat) (l1_1 : List Int) (a2 : Int) (r : Bool) (w : World) (hr0_2 : Kd.C k64 w A0_2 l0_2.length l0_2) (hc0_2 : l0_2.length ≤ c0_2) (hr1_0 : Kd.C k53 w A1_0 l1_0.length l1_0) (hc1_0 : l1_0.length ≤ c1_0) (hr1_1 : Kd.C (Kd.int .i64) w A1_1 l1_1.length l1_1) (hc1_1 : l1_1.length ≤ c1_1) (h : dancestudiolaw43_FloorHits.f k a0_0 a0_1 l0_2 l1_0 l1_1 a2 = some r) :
  Calls Try.prog 7 #[.agg #[.int .i64 a0_0, .int .i64 a0_1, .slice A0_2 l0_2.length c0_2], .agg #[.slice A1_0 l1_0.length c1_0, .slice A1_1 l1_1.length c1_1], .int .i64 a2] w fun e w' => e = .returned (.bool r) ∧ Below w.heap.size w w' := by
 have hu42 := Try.underlying42
 have hu25 := Try.underlying25
 have hu44 := Try.underlying44
 have hu35 := Try.underlying35
 have hu57 := Try.underlying57
 have HR0_2 := Aside0.mk hr0_2
 have HC0_2 := Aside0.mk hc0_2
 clear hr0_2 hc0_2
 have HR1_0 := Aside0.mk hr1_0
 have HC1_0 := Aside0.mk hc1_0
 clear hr1_0 hc1_0
 have HR1_1 := Aside0.mk hr1_1
 have HC1_1 := Aside0.mk hc1_1
 clear hr1_1 hc1_1
 have HB := Aside0.mk (Below.refl w.heap.size w)
 have H : ((dancestudiolaw43_great.f l1_0 l1_1).bind fun t642 => (if t642 = true then ((dancestudiolaw43_awake.f).bind fun t643 => (some t643)) else ((floor_First.f k a0_0 a0_1 l0_2 l1_0 l1_1 a2).bind fun bt658 => (if bt658.2.2.2 = 0 then (if bt658.1 < (-1) then (none) else (if bt658.1 ≥ (l1_1.length : Int) then (none) else (if (l1_0.length : Int) = (wrap64 ((l1_1.length : Int) + 1)) then (if bt658.2.1 = 0 then (dancestudiolaw43_FloorHits.l0 k a2 0 a0_0 a0_1 l0_2 l1_0 l1_1 bt658.1 bt658.2.1 bt658.2.2.1) else (none)) else (none)))) else (if (bt658.1 == 0 && (bt658.2.1 == 0 && (bt658.2.2.1 == 0))) = true then ((dancestudiolaw43_awake.f).bind fun t663 => (some t663)) else (none)))))) = some r := h
 clear h
 replace H := Option.bind_eq_some_iff.mp H
 obtain ⟨t642, A40, H⟩ := H
 replace H : (if t642 = true then ((dancestudiolaw43_awake.f).bind fun t643 => (some t643)) else ((floor_First.f k a0_0 a0_1 l0_2 l1_0 l1_1 a2).bind fun bt658 => (if bt658.2.2.2 = 0 then (if bt658.1 < (-1) then (none) else (if bt658.1 ≥ (l1_1.length : Int) then (none) else (if (l1_0.length : Int) = (wrap64 ((l1_1.length : Int) + 1)) then (if bt658.2.1 = 0 then (dancestudiolaw43_FloorHits.l0 k a2 0 a0_0 a0_1 l0_2 l1_0 l1_1 bt658.1 bt658.2.1 bt658.2.2.1) else (none)) else (none)))) else (if (bt658.1 == 0 && (bt658.2.1 == 0 && (bt658.2.2.1 == 0))) = true then ((dancestudiolaw43_awake.f).bind fun t663 => (some t663)) else (none))))) = some r := H
 have A4 := Aside0.mk A40
 clear A40
 by_cases c5 : t642 = true
 ·
  subst c5
  have H1 : ((dancestudiolaw43_awake.f).bind fun t643 => (some t643)) = some r := by rw [if_pos rfl] at H; exact H
  clear H
  have H := H1
  clear H1
  replace H := Option.bind_eq_some_iff.mp H
  obtain ⟨t643, A60, H⟩ := H
  replace H : (some t643) = some r := H
  have A6 := Aside0.mk A60
  clear A60
  obtain rfl := Option.some.inj H
  go_enter Try.func7, Try.ntmps7
  go_wp2_with (first | ((with_reducible refine gate_dst (N := 3) rfl ?_); refine box_event ?hg (N := 3) ?hd (cs := #[.int .i64 a0_0, .int .i64 a0_1, .slice A0_2 l0_2.length c0_2]) (t := 42) ?hr ?_; (case hd => rfl); (case hg => rfl); (case hr => first | (go_simp; done) | (go_simp; rfl)); intro gb640 hg w7 hbox hb; have BK640 := Aside0.mk (hbox); have GW640 := Aside0.mk ((by rw [hg]; exact (below_size (by repeat with_reducible first | exact HB.out | apply bA | apply bN | apply bD)) : w.heap.size ≤ gb640)); have GE640 := GW640; replace HB := Aside0.mk (below_step (by repeat with_reducible first | exact HB.out | apply bA | apply bN | apply bD) hb); clear hb hbox hg) | ((with_reducible refine gate_dst (N := 4) rfl ?_); refine box_event ?hg (N := 4) ?hd (cs := #[.slice A1_0 l1_0.length c1_0, .slice A1_1 l1_1.length c1_1]) (t := 25) ?hr ?_; (case hd => rfl); (case hg => rfl); (case hr => first | (go_simp; done) | (go_simp; rfl)); intro gb641 hg w8 hbox hb; have BK641 := Aside0.mk (hbox); have GW641 := Aside0.mk ((by rw [hg]; exact (below_size (by repeat with_reducible first | exact HB.out | apply bA | apply bN | apply bD | refine bS ?_ GE640.out)) : w.heap.size ≤ gb641)); have GE641 := GW641; replace HB := Aside0.mk (below_step (by repeat with_reducible first | exact HB.out | apply bA | apply bN | apply bD | refine bS ?_ GE640.out) hb); have NB640_641 := Aside0.mk ((by rw [hg]; exact Nat.ne_of_lt (blk_lt (by with_reducible repeat first | exact BK640.out | apply kN | apply kD | apply kA)) : gb640 ≠ gb641)); have NB641_640 := Aside0.mk ((by rw [hg]; exact Nat.ne_of_gt (blk_lt (by with_reducible repeat first | exact BK640.out | apply kN | apply kD | apply kA)) : gb641 ≠ gb640)); replace BK640 := Aside0.mk (blk_below (o := .cells #[.int .i64 a0_0, .int .i64 a0_1, .slice A0_2 l0_2.length c0_2] 42 (0, 0)) (by with_reducible repeat first | exact BK640.out | apply kN | apply kD | apply kA) hb); clear hb hbox hg; have hnb9 := NB641_640.out; have hnc9 := NB640_641.out; obtain ⟨hcz10_0, hcz10_1, hfz10_0, hfz10_1⟩ := kc2 BK641.out) | ((with_reducible refine gate_callee (f := 9) rfl ?_); refine goesL_ (some 14) rfl rfl Try.func9 (by kernel_rfl) rfl #[.agg #[.slice A1_0 l1_0.length c1_0, .slice A1_1 l1_1.length c1_1]] rfl (by (try simp only [List.map_toArray, List.map_cons, List.map_nil]); first | done | rfl | (simp only [List.length_drop, List.length_take]; rfl)) ?_; (with_reducible refine (dancestudiolaw43_great.calls _ _ l1_0 _ _ l1_1 true _ ?side1 ?side2 ?side3 ?side4 A4.out).mono ?_); (case side1 => repeat (first | exact (Kd.C_below HR1_0.out HB.out) | (with_reducible first | apply cA | apply cN | apply cD))); (case side2 => exact HC1_0.out); (case side3 => repeat (first | exact (Kd.C_below HR1_1.out HB.out) | (with_reducible first | apply cA | apply cN | apply cD))); (case side4 => exact HC1_1.out); rintro e w11 ⟨rfl, hb⟩; refine ⟨_, rfl, ?_⟩; replace BK640 := Aside0.mk (blk_below (o := .cells #[.int .i64 a0_0, .int .i64 a0_1, .slice A0_2 l0_2.length c0_2] 42 (0, 0)) (by with_reducible repeat first | exact BK640.out | apply kN | apply kD | apply kA) hb); replace BK641 := Aside0.mk (blk_below (o := .cells #[.slice A1_0 l1_0.length c1_0, .slice A1_1 l1_1.length c1_1] 25 (0, 0)) (by with_reducible repeat first | exact BK641.out | apply kN | apply kD | apply kA) hb); replace HB := Aside0.mk (below_step (by repeat with_reducible first | exact HB.out | apply bA | apply bN | apply bD | refine bS ?_ GE640.out | refine bS ?_ GE641.out) hb); (try clear hb); (try clear hb2); (try clear hk); (try clear hi)) | ((with_reducible refine gate_callee (f := 10) rfl ?_); refine goesL_ (some 15) rfl rfl Try.func10 (by kernel_rfl) rfl #[] rfl (by (try simp only [List.map_toArray, List.map_cons, List.map_nil]); first | done | rfl | (simp only [List.length_drop, List.length_take]; rfl)) ?_; (with_reducible refine (dancestudiolaw43_awake.calls  t643 _ A6.out).mono ?_); rintro e w12 ⟨rfl, hb⟩; refine ⟨_, rfl, ?_⟩; replace BK640 := Aside0.mk (blk_below (o := .cells #[.int .i64 a0_0, .int .i64 a0_1, .slice A0_2 l0_2.length c0_2] 42 (0, 0)) (by with_reducible repeat first | exact BK640.out | apply kN | apply kD | apply kA) hb); replace BK641 := Aside0.mk (blk_below (o := .cells #[.slice A1_0 l1_0.length c1_0, .slice A1_1 l1_1.length c1_1] 25 (0, 0)) (by with_reducible repeat first | exact BK641.out | apply kN | apply kD | apply kA) hb); replace HB := Aside0.mk (below_step (by repeat with_reducible first | exact HB.out | apply bA | apply bN | apply bD | refine bS ?_ GE640.out | refine bS ?_ GE641.out) hb); (try clear hb); (try clear hb2); (try clear hk); (try clear hi)))
  go_ret
  exact ⟨by first | rfl | (simp [errW_none, errW_some] <;> rfl) | (simp [*, errW_none, errW_some] <;> rfl), by repeat with_reducible first | exact HB.out | apply bA | apply bN | apply bD | refine bS ?_ GE640.out | refine bS ?_ GE641.out⟩
 ·
  replace c5 := Bool.eq_false_iff.mpr c5
  subst c5
  have H1 : ((floor_First.f k a0_0 a0_1 l0_2 l1_0 l1_1 a2).bind fun bt658 => (if bt658.2.2.2 = 0 then (if bt658.1 < (-1) then (none) else (if bt658.1 ≥ (l1_1.length : Int) then (none) else (if (l1_0.length : Int) = (wrap64 ((l1_1.length : Int) + 1)) then (if bt658.2.1 = 0 then (dancestudiolaw43_FloorHits.l0 k a2 0 a0_0 a0_1 l0_2 l1_0 l1_1 bt658.1 bt658.2.1 bt658.2.2.1) else (none)) else (none)))) else (if (bt658.1 == 0 && (bt658.2.1 == 0 && (bt658.2.2.1 == 0))) = true then ((dancestudiolaw43_awake.f).bind fun t663 => (some t663)) else (none)))) = some r := by rw [if_neg (show ¬ (false = true) by decide)] at H; exact H
  clear H
  have H := H1
  clear H1
  replace H := Option.bind_eq_some_iff.mp H
  obtain ⟨⟨t658, t659, t660, t661⟩, A130, H⟩ := H
  replace H : (if t661 = 0 then (if t658 < (-1) then (none) else (if t658 ≥ (l1_1.length : Int) then (none) else (if (l1_0.length : Int) = (wrap64 ((l1_1.length : Int) + 1)) then (if t659 = 0 then (dancestudiolaw43_FloorHits.l0 k a2 0 a0_0 a0_1 l0_2 l1_0 l1_1 t658 t659 t660) else (none)) else (none)))) else (if (t658 == 0 && (t659 == 0 && (t660 == 0))) = true then ((dancestudiolaw43_awake.f).bind fun t663 => (some t663)) else (none))) = some r := H
  have A13 := Aside0.mk A130
  clear A130
  by_cases c14 : t661 = 0
  ·
   rw [if_pos c14] at H
   have c14b0 : (t661 == 0) = true := beq_iff_eq.mpr c14
   have c14b1 : (t661 != 0) = false := bne_eq_false_iff_eq.mpr c14
   clear c14
   by_cases c15 : t658 < (-1)
   ·
    rw [if_pos c15] at H
    exact absurd H (by simp)
   ·
    rw [if_neg c15] at H
    have c15b0 : decide (t658 < (-1)) = false := decide_eq_false c15
    clear c15
    by_cases c16 : t658 ≥ (l1_1.length : Int)
    ·
     rw [if_pos c16] at H
     exact absurd H (by simp)
    ·
     rw [if_neg c16] at H
     have c16b0 : decide ((l1_1.length : Int) ≤ t658) = false := decide_eq_false c16
     clear c16
     by_cases c17 : (l1_0.length : Int) = (wrap64 ((l1_1.length : Int) + 1))
     ·
      rw [if_pos c17] at H
      have c17b0 : ((l1_0.length : Int) == (wrap64 ((l1_1.length : Int) + 1))) = true := beq_iff_eq.mpr c17
      have c17b1 : ((l1_0.length : Int) != (wrap64 ((l1_1.length : Int) + 1))) = false := bne_eq_false_iff_eq.mpr c17
      clear c17
      by_cases c18 : t659 = 0
      ·
       rw [if_pos c18] at H
       have c18b0 : (t659 == 0) = true := beq_iff_eq.mpr c18
       have c18b1 : (t659 != 0) = false := bne_eq_false_iff_eq.mpr c18
       clear c18
       have H' := Aside0.mk H
       clear H
       go_enter Try.func7, Try.ntmps7
       go_wp2_with (first | ((with_reducible refine gate_dst (N := 3) rfl ?_); refine box_event ?hg (N := 3) ?hd (cs := #[.int .i64 a0_0, .int .i64 a0_1, .slice A0_2 l0_2.length c0_2]) (t := 42) ?hr ?_; (case hd => rfl); (case hg => rfl); (case hr => first | (go_simp; done) | (go_simp; rfl)); intro gb640 hg w19 hbox hb; have BK640 := Aside0.mk (hbox); have GW640 := Aside0.mk ((by rw [hg]; exact (below_size (by repeat with_reducible first | exact HB.out | apply bA | apply bN | apply bD)) : w.heap.size ≤ gb640)); have GE640 := GW640; replace HB := Aside0.mk (below_step (by repeat with_reducible first | exact HB.out | apply bA | apply bN | apply bD) hb); clear hb hbox hg) | ((with_reducible refine gate_dst (N := 4) rfl ?_); refine box_event ?hg (N := 4) ?hd (cs := #[.slice A1_0 l1_0.length c1_0, .slice A1_1 l1_1.length c1_1]) (t := 25) ?hr ?_; (case hd => rfl); (case hg => rfl); (case hr => first | (go_simp; done) | (go_simp; rfl)); intro gb641 hg w20 hbox hb; have BK641 := Aside0.mk (hbox); have GW641 := Aside0.mk ((by rw [hg]; exact (below_size (by repeat with_reducible first | exact HB.out | apply bA | apply bN | apply bD | refine bS ?_ GE640.out)) : w.heap.size ≤ gb641)); have GE641 := GW641; replace HB := Aside0.mk (below_step (by repeat with_reducible first | exact HB.out | apply bA | apply bN | apply bD | refine bS ?_ GE640.out) hb); have NB640_641 := Aside0.mk ((by rw [hg]; exact Nat.ne_of_lt (blk_lt (by with_reducible repeat first | exact BK640.out | apply kN | apply kD | apply kA)) : gb640 ≠ gb641)); have NB641_640 := Aside0.mk ((by rw [hg]; exact Nat.ne_of_gt (blk_lt (by with_reducible repeat first | exact BK640.out | apply kN | apply kD | apply kA)) : gb641 ≠ gb640)); replace BK640 := Aside0.mk (blk_below (o := .cells #[.int .i64 a0_0, .int .i64 a0_1, .slice A0_2 l0_2.length c0_2] 42 (0, 0)) (by with_reducible repeat first | exact BK640.out | apply kN | apply kD | apply kA) hb); clear hb hbox hg; have hnb21 := NB641_640.out; have hnc21 := NB640_641.out; obtain ⟨hcz22_0, hcz22_1, hfz22_0, hfz22_1⟩ := kc2 BK641.out) | ((with_reducible refine gate_callee (f := 9) rfl ?_); refine goesL_ (some 14) rfl rfl Try.func9 (by kernel_rfl) rfl #[.agg #[.slice A1_0 l1_0.length c1_0, .slice A1_1 l1_1.length c1_1]] rfl (by (try simp only [List.map_toArray, List.map_cons, List.map_nil]); first | done | rfl | (simp only [List.length_drop, List.length_take]; rfl)) ?_; (with_reducible refine (dancestudiolaw43_great.calls _ _ l1_0 _ _ l1_1 false _ ?side1 ?side2 ?side3 ?side4 A4.out).mono ?_); (case side1 => repeat (first | exact (Kd.C_below HR1_0.out HB.out) | (with_reducible first | apply cA | apply cN | apply cD))); (case side2 => exact HC1_0.out); (case side3 => repeat (first | exact (Kd.C_below HR1_1.out HB.out) | (with_reducible first | apply cA | apply cN | apply cD))); (case side4 => exact HC1_1.out); rintro e w23 ⟨rfl, hb⟩; refine ⟨_, rfl, ?_⟩; replace BK640 := Aside0.mk (blk_below (o := .cells #[.int .i64 a0_0, .int .i64 a0_1, .slice A0_2 l0_2.length c0_2] 42 (0, 0)) (by with_reducible repeat first | exact BK640.out | apply kN | apply kD | apply kA) hb); replace BK641 := Aside0.mk (blk_below (o := .cells #[.slice A1_0 l1_0.length c1_0, .slice A1_1 l1_1.length c1_1] 25 (0, 0)) (by with_reducible repeat first | exact BK641.out | apply kN | apply kD | apply kA) hb); replace HB := Aside0.mk (below_step (by repeat with_reducible first | exact HB.out | apply bA | apply bN | apply bD | refine bS ?_ GE640.out | refine bS ?_ GE641.out) hb); (try clear hb); (try clear hb2); (try clear hk); (try clear hi); obtain ⟨hcz24_0, hcz24_1, hcz24_2, hfz24_0, hfz24_1, hfz24_2⟩ := kc3 BK640.out; obtain ⟨hcz25_0, hcz25_1, hfz25_0, hfz25_1⟩ := kc2 BK641.out) | ((with_reducible refine gate_callee (f := 19) rfl ?_); refine goesL_ (some 20) rfl rfl Try.func19 (by kernel_rfl) rfl #[.agg #[.int .i64 a0_0, .int .i64 a0_1, .slice A0_2 l0_2.length c0_2], .agg #[.slice A1_0 l1_0.length c1_0, .slice A1_1 l1_1.length c1_1], .int .i64 a2] rfl (by (try simp only [List.map_toArray, List.map_cons, List.map_nil]); first | done | rfl | (simp only [List.length_drop, List.length_take]; rfl)) ?_; (with_reducible refine (floor_First.calls k a0_0 a0_1 _ _ l0_2 _ _ l1_0 _ _ l1_1 a2 t658 t659 t660 t661 _ ?side1 ?side2 ?side3 ?side4 ?side5 ?side6 A13.out).mono ?_); (case side1 => repeat (first | exact (Kd.C_below HR0_2.out HB.out) | (with_reducible first | apply cA | apply cN | apply cD))); (case side2 => exact HC0_2.out); (case side3 => repeat (first | exact (Kd.C_below HR1_0.out HB.out) | (with_reducible first | apply cA | apply cN | apply cD))); (case side4 => exact HC1_0.out); (case side5 => repeat (first | exact (Kd.C_below HR1_1.out HB.out) | (with_reducible first | apply cA | apply cN | apply cD))); (case side6 => exact HC1_1.out); rintro e w26 ⟨rfl, hb⟩; refine ⟨_, rfl, ?_⟩; replace BK640 := Aside0.mk (blk_below (o := .cells #[.int .i64 a0_0, .int .i64 a0_1, .slice A0_2 l0_2.length c0_2] 42 (0, 0)) (by with_reducible repeat first | exact BK640.out | apply kN | apply kD | apply kA) hb); replace BK641 := Aside0.mk (blk_below (o := .cells #[.slice A1_0 l1_0.length c1_0, .slice A1_1 l1_1.length c1_1] 25 (0, 0)) (by with_reducible repeat first | exact BK641.out | apply kN | apply kD | apply kA) hb); replace HB := Aside0.mk (below_step (by repeat with_reducible first | exact HB.out | apply bA | apply bN | apply bD | refine bS ?_ GE640.out | refine bS ?_ GE641.out) hb); (try clear hb); (try clear hb2); (try clear hk); (try clear hi)) | ((with_reducible refine gate_dst (N := 7) rfl ?_); refine box_event ?hg (N := 7) ?hd (cs := #[.int .i64 0, .int .i64 0, .int .i64 0]) (t := 44) ?hr ?_; (case hd => rfl); (case hg => rfl); (case hr => first | (go_simp; done) | (go_simp; rfl)); intro gb662 hg w27 hbox hb; have BK662 := Aside0.mk (hbox); have GW662 := Aside0.mk ((by rw [hg]; exact (below_size (by repeat with_reducible first | exact HB.out | apply bA | apply bN | apply bD | refine bS ?_ GE640.out | refine bS ?_ GE641.out)) : w.heap.size ≤ gb662)); have GE662 := GW662; replace HB := Aside0.mk (below_step (by repeat with_reducible first | exact HB.out | apply bA | apply bN | apply bD | refine bS ?_ GE640.out | refine bS ?_ GE641.out) hb); have NB640_662 := Aside0.mk ((by rw [hg]; exact Nat.ne_of_lt (blk_lt (by with_reducible repeat first | exact BK640.out | apply kN | apply kD | apply kA)) : gb640 ≠ gb662)); have NB662_640 := Aside0.mk ((by rw [hg]; exact Nat.ne_of_gt (blk_lt (by with_reducible repeat first | exact BK640.out | apply kN | apply kD | apply kA)) : gb662 ≠ gb640)); replace BK640 := Aside0.mk (blk_below (o := .cells #[.int .i64 a0_0, .int .i64 a0_1, .slice A0_2 l0_2.length c0_2] 42 (0, 0)) (by with_reducible repeat first | exact BK640.out | apply kN | apply kD | apply kA) hb); have NB641_662 := Aside0.mk ((by rw [hg]; exact Nat.ne_of_lt (blk_lt (by with_reducible repeat first | exact BK641.out | apply kN | apply kD | apply kA)) : gb641 ≠ gb662)); have NB662_641 := Aside0.mk ((by rw [hg]; exact Nat.ne_of_gt (blk_lt (by with_reducible repeat first | exact BK641.out | apply kN | apply kD | apply kA)) : gb662 ≠ gb641)); replace BK641 := Aside0.mk (blk_below (o := .cells #[.slice A1_0 l1_0.length c1_0, .slice A1_1 l1_1.length c1_1] 25 (0, 0)) (by with_reducible repeat first | exact BK641.out | apply kN | apply kD | apply kA) hb); clear hb hbox hg; have hnb28 := NB662_640.out; have hnc28 := NB640_662.out; have hnb29 := NB662_641.out; have hnc29 := NB641_662.out; obtain ⟨hcz30_0, hcz30_1, hcz30_2, hfz30_0, hfz30_1, hfz30_2⟩ := kc3 BK662.out; obtain ⟨hcz31_0, hcz31_1, hfz31_0, hfz31_1⟩ := kc2 BK641.out))
       go_loopg [9] k (fun kq v9 w' => ∃ (x9_1 : Int), v9 = .int .i64 x9_1 ∧ Aside0 (dancestudiolaw43_FloorHits.l0 kq a2 x9_1 a0_0 a0_1 l0_2 l1_0 l1_1 t658 t659 t660 = some r) ∧ Aside0 (kq ≤ k) ∧ Aside0 (w'.heap[gb640]? = some (.cells #[.int .i64 a0_0, .int .i64 a0_1, (.slice A0_2 l0_2.length c0_2)] 42 (0, 0))) ∧ Aside0 (w'.heap[gb641]? = some (.cells #[(.slice A1_0 l1_0.length c1_0), (.slice A1_1 l1_1.length c1_1)] 25 (0, 0))) ∧ Aside0 (w'.heap[gb662]? = some (.cells #[.int .i64 t658, .int .i64 t659, .int .i64 t660] 44 (0, 0))) ∧ Aside0 (Below w.heap.size w w'))
       case atStart => exact ⟨(0), (by first | rfl | (simp; done) | (simp [*]; done)), H', ⟨Nat.le_refl _⟩, ⟨by (with_reducible repeat first | apply kN | apply kD | apply kA); refine blk_far ?_ NB640_662.out _; (with_reducible repeat first | apply kN | apply kD | apply kA); refine blk_far ?_ NB640_662.out _; (with_reducible repeat first | apply kN | apply kD | apply kA); refine blk_far ?_ NB640_662.out _; (with_reducible repeat first | apply kN | apply kD | apply kA); exact BK640.out⟩, ⟨by (with_reducible repeat first | apply kN | apply kD | apply kA); refine blk_far ?_ NB641_662.out _; (with_reducible repeat first | apply kN | apply kD | apply kA); refine blk_far ?_ NB641_662.out _; (with_reducible repeat first | apply kN | apply kD | apply kA); refine blk_far ?_ NB641_662.out _; (with_reducible repeat first | apply kN | apply kD | apply kA); exact BK641.out⟩, ⟨by (with_reducible repeat first | apply kN | apply kD | apply kA); refine blk_put (cs := #[.int .i64 t658, .int .i64 t659, .int .i64 0]) ?_ 2 _ rfl; (with_reducible repeat first | apply kN | apply kD | apply kA); refine blk_put (cs := #[.int .i64 t658, .int .i64 0, .int .i64 0]) ?_ 1 _ rfl; (with_reducible repeat first | apply kN | apply kD | apply kA); refine blk_put (cs := #[.int .i64 0, .int .i64 0, .int .i64 0]) ?_ 0 _ rfl; (with_reducible repeat first | apply kN | apply kD | apply kA); exact BK662.out⟩, ⟨by repeat with_reducible first | exact HB.out | apply bA | apply bN | apply bD | refine bS ?_ GE640.out | refine bS ?_ GE641.out | refine bS ?_ GE662.out⟩⟩
       case round =>
        clear H'
        try clear c1
        try clear c2
        try clear p2
        try clear c5
        try clear p6
        try clear c7
        try clear c9
        try clear c10
        try clear c14
        try clear c14b0
        try clear c14b1
        try clear c15
        try clear c15b0
        try clear c16
        try clear c16b0
        try clear c17
        try clear c17b0
        try clear c17b1
        try clear c18
        try clear c18b0
        try clear c18b1
        try clear c19
        try clear c21
        try clear c28
        try clear c29
        try clear hcz10_0
        try clear hcz10_1
        try clear hcz22_0
        try clear hcz22_1
        try clear hcz24_0
        try clear hcz24_1
        try clear hcz24_2
        try clear hcz25_0
        try clear hcz25_1
        try clear hcz30_0
        try clear hcz30_1
        try clear hcz30_2
        try clear hcz31_0
        try clear hcz31_1
        try clear hfz10_0
        try clear hfz10_1
        try clear hfz22_0
        try clear hfz22_1
        try clear hfz24_0
        try clear hfz24_1
        try clear hfz24_2
        try clear hfz25_0
        try clear hfz25_1
        try clear hfz30_0
        try clear hfz30_1
        try clear hfz30_2
        try clear hfz31_0
        try clear hfz31_1
        obtain ⟨x9_1, rfl, HA, HK1, BK640, BK641, BK662, HB⟩ := hrel
        cases gk with
        | zero => exact absurd HA.out (by simp [dancestudiolaw43_FloorHits.l0])
        | succ k1 =>
         have H := HA.out
         clear HA
         simp only [dancestudiolaw43_FloorHits.l0] at H
         by_cases c32 : x9_1 < (l1_1.length : Int)
         ·
          rw [if_pos c32] at H
          have c32b0 : decide (x9_1 < (l1_1.length : Int)) = true := decide_eq_true c32
          clear c32
          by_cases c33 : 0 ≤ x9_1
          ·
           rw [if_pos c33] at H
           have c33b0 : decide (0 ≤ x9_1) = true := decide_eq_true c33
           clear c33
           by_cases c34 : x9_1 < (l1_0.length : Int)
           ·
            rw [if_pos c34] at H
            have c34b0 : decide (x9_1 < (l1_0.length : Int)) = true := decide_eq_true c34
            clear c34
            obtain ⟨ji35, hji35⟩ : ∃ j_ : Int, (wrap64 (x9_1 + 1)) = j_ := ⟨_, rfl⟩
            replace H : (if 0 ≤ (ji35) then (if (ji35) < (l1_0.length : Int) then ((stage_Clear.f k1 a0_0 a0_1 l0_2 ((rd_T53 l1_0 x9_1).f0.f0) ((rd_T53 l1_0 x9_1).f0.f1) ((rd_T53 l1_0 (ji35)).f0.f0) ((rd_T53 l1_0 (ji35)).f0.f1) a2).bind fun bt683 => (if bt683.2.2 = 0 then (if x9_1 = t658 then (if bt683.1 = true then (if bt683.2.1 ≥ 0 then (if t660 = bt683.2.1 then ((dancestudiolaw43_awake.f).bind fun t686 => (some t686)) else (none)) else (none)) else (if t660 = (-1) then ((dancestudiolaw43_awake.f).bind fun t687 => (some t687)) else (none))) else (if bt683.1 = true then (if bt683.2.1 ≥ 0 then (none) else (dancestudiolaw43_FloorHits.l0 k1 a2 ji35 a0_0 a0_1 l0_2 l1_0 l1_1 t658 t659 t660)) else (none))) else (none))) else (none)) else (none)) = some r := by first | (rw [hji35] at H; exact H) | (simp only [hji35] at H ⊢; exact H)
            have hji35w : (IntKind.i64.wrap (x9_1 + 1)) = ji35 := (i64_w _).trans hji35
            by_cases c36 : 0 ≤ (ji35)
            ·
             rw [if_pos c36] at H
             have c36b0 : decide (0 ≤ (ji35)) = true := decide_eq_true c36
             clear c36
             by_cases c37 : (ji35) < (l1_0.length : Int)
             ·
              rw [if_pos c37] at H
              have c37b0 : decide ((ji35) < (l1_0.length : Int)) = true := decide_eq_true c37
              clear c37
              replace H := Option.bind_eq_some_iff.mp H
              obtain ⟨⟨t683, t684, t685⟩, A380, H⟩ := H
              replace H : (if t685 = 0 then (if x9_1 = t658 then (if t683 = true then (if t684 ≥ 0 then (if t660 = t684 then ((dancestudiolaw43_awake.f).bind fun t686 => (some t686)) else (none)) else (none)) else (if t660 = (-1) then ((dancestudiolaw43_awake.f).bind fun t687 => (some t687)) else (none))) else (if t683 = true then (if t684 ≥ 0 then (none) else (dancestudiolaw43_FloorHits.l0 k1 a2 ji35 a0_0 a0_1 l0_2 l1_0 l1_1 t658 t659 t660)) else (none))) else (none)) = some r := H
              have A38 := Aside0.mk A380
              clear A380
              by_cases c39 : t685 = 0
              ·
               rw [if_pos c39] at H
               have c39b0 : (t685 == 0) = true := beq_iff_eq.mpr c39
               have c39b1 : (t685 != 0) = false := bne_eq_false_iff_eq.mpr c39
               clear c39
               by_cases c40 : x9_1 = t658
               ·
                rw [if_pos c40] at H
                have c40b0 : (x9_1 == t658) = true := beq_iff_eq.mpr c40
                have c40b1 : (x9_1 != t658) = false := bne_eq_false_iff_eq.mpr c40
                clear c40
                by_cases c41 : t683 = true
                ·
                 subst c41
                 have H1 : (if t684 ≥ 0 then (if t660 = t684 then ((dancestudiolaw43_awake.f).bind fun t686 => (some t686)) else (none)) else (none)) = some r := by rw [if_pos rfl] at H; exact H
                 clear H
                 have H := H1
                 clear H1
                 by_cases c42 : t684 ≥ 0
                 ·
                  rw [if_pos c42] at H
                  have c42b0 : decide (0 ≤ t684) = true := decide_eq_true c42
                  clear c42
                  by_cases c43 : t660 = t684
                  ·
                   rw [if_pos c43] at H
                   have c43b0 : (t660 == t684) = true := beq_iff_eq.mpr c43
                   have c43b1 : (t660 != t684) = false := bne_eq_false_iff_eq.mpr c43
                   clear c43
                   replace H := Option.bind_eq_some_iff.mp H
                   obtain ⟨t686, A440, H⟩ := H
                   replace H : (some t686) = some r := H
                   have A44 := Aside0.mk A440
                   clear A440
                   obtain rfl := Option.some.inj H
                   have hnb45 := NB641_640.out
                   have hnc45 := NB640_641.out
                   have hnb46 := NB641_662.out
                   have hnc46 := NB662_641.out
                   have hcz47_0 : wr.cell? ⟨gb641, 0, none⟩ = some (.slice A1_0 l1_0.length c1_0) := (blk_cell BK641.out 0).trans rfl
                   have hcz47_1 : wr.cell? ⟨gb641, 1, none⟩ = some (.slice A1_1 l1_1.length c1_1) := (blk_cell BK641.out 1).trans rfl
                   have hfz47_0 := blk_frozen BK641.out 0
                   have hfz47_1 := blk_frozen BK641.out 1
                   try go_wp2
                   have n0_ := Aside0.mk (blk_drew BK640.out)
                   have n1_ := Aside0.mk (blk_drew BK641.out)
                   have n2_ := Aside0.mk (blk_drew BK662.out)
                   have n3_ := Aside0.mk (below_drew1 HB.out)
                   clear BK640
                   clear BK641
                   clear BK662
                   clear HB
                   have BK640 := n0_
                   have BK641 := n1_
                   have BK662 := n2_
                   have HB := n3_
                   clear n0_ n1_ n2_ n3_
                   have p681 : 0 ≤ (x9_1 : Int) := of_decide_eq_true (by first | (with_reducible assumption) | assumption)
                   have q681 : x9_1 < (l1_0.length : Int) := of_decide_eq_true (by first | (with_reducible assumption) | assumption)
                   obtain ⟨ad681, e681, hx681_0, hx681_1, _, _, _, _, _, _, _, _, _, _, _, _, _, _, _, _, _, _, _, _⟩ := at_T53 HR1_0.out x9_1 p681 q681
                   have hw681_1 := hx681_1
                   have hw681_0 := hx681_0
                   cases e681
                   replace hx681_0 := cb HB.out hx681_0
                   replace hx681_1 := cb HB.out hx681_1
                   replace p681 := eq_true p681
                   replace q681 := eq_true q681
                   have p682 : 0 ≤ ((ji35) : Int) := of_decide_eq_true (by first | (with_reducible assumption) | assumption)
                   have q682 : (ji35) < (l1_0.length : Int) := of_decide_eq_true (by first | (with_reducible assumption) | assumption)
                   obtain ⟨ad682, e682, hx682_0, hx682_1, _, _, _, _, _, _, _, _, _, _, _, _, _, _, _, _, _, _, _, _⟩ := at_T53 HR1_0.out (ji35) p682 q682
                   have hw682_1 := hx682_1
                   have hw682_0 := hx682_0
                   obtain rfl : ad681 = ad682 := (by injection e682)
                   replace hx682_0 := cb HB.out hx682_0
                   replace hx682_1 := cb HB.out hx682_1
                   replace p682 := eq_true p682
                   replace q682 := eq_true q682
                   refine start_ (n := 24) (S := fun w' => w'.cell? ⟨gb640, 0, none⟩ = some (.int .i64 a0_0) ∧ w'.cell? ⟨gb640, 1, none⟩ = some (.int .i64 a0_1) ∧ w'.cell? ⟨gb640, 2, none⟩ = some (.slice A0_2 l0_2.length c0_2) ∧ w'.cell? ⟨gb641, 0, none⟩ = some (.slice (some ad681) l1_0.length c1_0) ∧ w'.cell? ⟨gb641, 1, none⟩ = some (.slice A1_1 l1_1.length c1_1) ∧ w'.cell? (ad681.add ((x9_1).toNat * 22)) = some (.int .i64 ((rd_T53 l1_0 x9_1).f0.f0)) ∧ w'.cell? ⟨(ad681.add ((x9_1).toNat * 22)).block, (ad681.add ((x9_1).toNat * 22)).off + 1, none⟩ = some (.int .i64 ((rd_T53 l1_0 x9_1).f0.f1)) ∧ w'.cell? (ad681.add (((ji35)).toNat * 22)) = some (.int .i64 ((rd_T53 l1_0 (ji35)).f0.f0)) ∧ w'.cell? ⟨(ad681.add (((ji35)).toNat * 22)).block, (ad681.add (((ji35)).toNat * 22)).off + 1, none⟩ = some (.int .i64 ((rd_T53 l1_0 (ji35)).f0.f1))) (ds := []) #[false, false, false, false, false, false, false, false, false, false, false, false, false, false, false, false, false, false, false, false, false, false, false, false] (by kernel_rfl) rfl rfl ⟨(blk_cell BK640.out 0).trans rfl, (blk_cell BK640.out 1).trans rfl, (blk_cell BK640.out 2).trans rfl, (blk_cell BK641.out 0).trans rfl, (blk_cell BK641.out 1).trans rfl, (cb HB.out hw681_0), (cb HB.out hw681_1), (cb HB.out hw682_0), (cb HB.out hw682_1)⟩ (fun hHeld => ?_); refine with_tabW dancestudiolaw43_FloorHits.tab11 dancestudiolaw43_FloorHits.bits11 (fun HT_ HW_ => ?_)
                   generalize wr.drew = w48 at BK640 BK641 BK662 HB hx681_0 hx681_1 hx682_0 hx682_1 hHeld ⊢
                   refine pure_ (i := 1) (N := some 66) (v := ?_) (a' := ?_) #[false, true, false, false, false, false, false, false, false, false, false, false, false, false, false, false, false, false, false, false, false, false, false, false] rfl rfl (any_of HT_.out (by kernel_rfl)) (fun _ _ _ h => h) (Or.inl ⟨by rfl, ?_⟩) ?_ ?_
                   rotate_left; (intro w'; go_simp; with_reducible rfl); rotate_left; (simp only [Act.put, aS, lZ, lS, i64_w, i32_w]; rfl)
                   refine pure_ (i := 3) (N := some 68) (v := ?_) (a' := ?_) #[false, true, false, true, false, false, false, false, false, false, false, false, false, false, false, false, false, false, false, false, false, false, false, false] rfl rfl (any_of HT_.out (by kernel_rfl)) (fun _ _ _ h => h) (Or.inl ⟨by rfl, ?_⟩) ?_ ?_
                   rotate_left; (intro w'; go_simp; with_reducible rfl); rotate_left; (simp only [Act.put, aS, lZ, lS, i64_w, i32_w]; rfl)
                   refine pure_ (i := 7) (N := some 72) (v := ?_) (a' := ?_) #[false, true, false, true, false, false, false, true, false, false, false, false, false, false, false, false, false, false, false, false, false, false, false, false] rfl rfl (any_of HT_.out (by kernel_rfl)) (fun _ _ _ h => h) (Or.inl ⟨by rfl, ?_⟩) ?_ ?_
                   rotate_left; (intro w'; go_simp; with_reducible rfl); rotate_left; (simp only [Act.put, aS, lZ, lS, i64_w, i32_w]; rfl)
                   refine pure_ (i := 9) (N := some 74) (v := ?_) (a' := ?_) #[false, true, false, true, false, false, false, true, false, true, false, false, false, false, false, false, false, false, false, false, false, false, false, false] rfl rfl (any_of HT_.out (by kernel_rfl)) (fun _ _ _ h => h) (Or.inl ⟨by rfl, ?_⟩) ?_ ?_
                   rotate_left; (intro w'; go_simp; with_reducible rfl); rotate_left; (simp only [Act.put, aS, lZ, lS, i64_w, i32_w]; rfl)
                   refine pure_ (i := 10) (N := some 75) (v := ?_) (a' := ?_) #[false, true, false, true, false, false, false, true, false, true, true, false, false, false, false, false, false, false, false, false, false, false, false, false] rfl rfl (any_of HT_.out (by kernel_rfl)) (fun _ _ _ h => h) (Or.inl ⟨by rfl, ?_⟩) ?_ ?_
                   rotate_left; (intro w'; go_simp; with_reducible rfl); rotate_left; (simp only [Act.put, aS, lZ, lS, i64_w, i32_w]; rfl)
                   refine pure_ (i := 14) (N := some 79) (v := ?_) (a' := ?_) #[false, true, false, true, false, false, false, true, false, true, true, false, false, false, true, false, false, false, false, false, false, false, false, false] rfl rfl (any_of HT_.out (by kernel_rfl)) (fun _ _ _ h => h) (Or.inl ⟨by rfl, ?_⟩) ?_ ?_
                   rotate_left; (intro w'; go_simp; with_reducible rfl); rotate_left; (simp only [Act.put, aS, lZ, lS, i64_w, i32_w]; rfl)
                   refine take_ (i := 0) (N := some 65) (v := ?_) (a' := ?_) #[true, true, false, true, false, false, false, true, false, true, true, false, false, false, true, false, false, false, false, false, false, false, false, false] rfl rfl (take_ofW HT_.out HW_.out (by kernel_rfl)) (fun _ _ _ h => h) (Or.inl ⟨by rfl, ?_⟩) hHeld ?_ ?_
                   rotate_left
                   ·
                    rintro w' ⟨s0, s1, s2, s3, s4, s5, s6, s7, s8⟩
                    go_simp
                    with_reducible rfl
                   rotate_left
                   ·
                    simp only [Act.put, aS, lZ, lS, i64_w, i32_w]
                    rfl
                   refine take_ (i := 2) (N := some 67) (v := ?_) (a' := ?_) #[true, true, true, true, false, false, false, true, false, true, true, false, false, false, true, false, false, false, false, false, false, false, false, false] rfl rfl (take_ofW HT_.out HW_.out (by kernel_rfl)) (fun _ _ _ h => h) (Or.inl ⟨by rfl, ?_⟩) hHeld ?_ ?_
                   rotate_left
                   ·
                    rintro w' ⟨s0, s1, s2, s3, s4, s5, s6, s7, s8⟩
                    go_simp
                    with_reducible rfl
                   rotate_left
                   ·
                    simp only [Act.put, aS, lZ, lS, i64_w, i32_w]
                    rfl
                   refine pure_ (i := 4) (N := some 69) (v := ?_) (a' := ?_) #[true, true, true, true, true, false, false, true, false, true, true, false, false, false, true, false, false, false, false, false, false, false, false, false] rfl rfl (any_of HT_.out (by kernel_rfl)) (fun _ _ _ h => h) (Or.inl ⟨by rfl, ?_⟩) ?_ ?_
                   rotate_left; (intro w'; go_simp; with_reducible rfl); rotate_left; (simp only [Act.put, aS, lZ, lS, i64_w, i32_w]; rfl)
                   refine pure_ (i := 5) (N := some 70) (v := ?_) (a' := ?_) #[true, true, true, true, true, true, false, true, false, true, true, false, false, false, true, false, false, false, false, false, false, false, false, false] rfl rfl (any_of HT_.out (by kernel_rfl)) (fun _ _ _ h => h) (Or.inl ⟨by rfl, ?_⟩) ?_ ?_
                   rotate_left; (intro w'; go_simp; with_reducible rfl); rotate_left; (simp only [Act.put, aS, lZ, lS, i64_w, i32_w]; rfl)
                   refine take_ (i := 6) (N := some 71) (v := ?_) (a' := ?_) #[true, true, true, true, true, true, true, true, false, true, true, false, false, false, true, false, false, false, false, false, false, false, false, false] rfl rfl (take_ofW HT_.out HW_.out (by kernel_rfl)) (fun _ _ _ h => h) (Or.inl ⟨by rfl, ?_⟩) hHeld ?_ ?_
                   rotate_left
                   ·
                    rintro w' ⟨s0, s1, s2, s3, s4, s5, s6, s7, s8⟩
                    go_simp
                    with_reducible rfl
                   rotate_left
                   ·
                    simp only [Act.put, aS, lZ, lS, i64_w, i32_w]
                    rfl
                   refine take_ (i := 8) (N := some 73) (v := ?_) (a' := ?_) #[true, true, true, true, true, true, true, true, true, true, true, false, false, false, true, false, false, false, false, false, false, false, false, false] rfl rfl (take_ofW HT_.out HW_.out (by kernel_rfl)) (fun _ _ _ h => h) (Or.inl ⟨by rfl, ?_⟩) hHeld ?_ ?_
                   rotate_left
                   ·
                    rintro w' ⟨s0, s1, s2, s3, s4, s5, s6, s7, s8⟩
                    go_simp
                    with_reducible rfl
                   rotate_left
                   ·
                    simp only [Act.put, aS, lZ, lS, i64_w, i32_w]
                    rfl
                   refine pure_ (i := 11) (N := some 76) (v := ?_) (a' := ?_) #[true, true, true, true, true, true, true, true, true, true, true, true, false, false, true, false, false, false, false, false, false, false, false, false] rfl rfl (any_of HT_.out (by kernel_rfl)) (fun _ _ _ h => h) (Or.inl ⟨by rfl, ?_⟩) ?_ ?_
                   rotate_left; (intro w'; go_simp; with_reducible rfl); rotate_left; (simp only [Act.put, aS, lZ, lS, i64_w, i32_w]; rfl)
                   refine pure_ (i := 12) (N := some 77) (v := ?_) (a' := ?_) #[true, true, true, true, true, true, true, true, true, true, true, true, true, false, true, false, false, false, false, false, false, false, false, false] rfl rfl (any_of HT_.out (by kernel_rfl)) (fun _ _ _ h => h) (Or.inl ⟨by rfl, ?_⟩) ?_ ?_
                   rotate_left; (intro w'; go_simp; with_reducible rfl); rotate_left; (simp only [Act.put, aS, lZ, lS, i64_w, i32_w]; rfl)
                   refine take_ (i := 13) (N := some 78) (v := ?_) (a' := ?_) #[true, true, true, true, true, true, true, true, true, true, true, true, true, true, true, false, false, false, false, false, false, false, false, false] rfl rfl (take_ofW HT_.out HW_.out (by kernel_rfl)) (fun _ _ _ h => h) (Or.inl ⟨by rfl, ?_⟩) hHeld ?_ ?_
                   rotate_left
                   ·
                    rintro w' ⟨s0, s1, s2, s3, s4, s5, s6, s7, s8⟩
                    go_simp
                    with_reducible rfl
                   rotate_left
                   ·
                    simp only [Act.put, aS, lZ, lS, i64_w, i32_w]
                    rfl
                   refine pure_ (i := 15) (N := some 80) (v := ?_) (a' := ?_) #[true, true, true, true, true, true, true, true, true, true, true, true, true, true, true, true, false, false, false, false, false, false, false, false] rfl rfl (any_of HT_.out (by kernel_rfl)) (fun _ _ _ h => h) (Or.inl ⟨by rfl, ?_⟩) ?_ ?_
                   rotate_left; (intro w'; go_simp; with_reducible rfl); rotate_left; (simp only [Act.put, aS, lZ, lS, i64_w, i32_w]; rfl)
                   refine one_ (i := 16) (N := some 81) #[true, true, true, true, true, true, true, true, true, true, true, true, true, true, true, true, true, false, false, false, false, false, false, false] rfl rfl (one_of HT_.out (by kernel_rfl)) (by decide) (fun K hK => ?_)
                   refine goes_ Try.func22 (by kernel_rfl) rfl #[.agg #[.int .i64 a0_0, .int .i64 a0_1, .slice A0_2 l0_2.length c0_2], .agg #[.int .i64 ((rd_T53 l1_0 x9_1).f0.f0), .int .i64 ((rd_T53 l1_0 x9_1).f0.f1), .int .i64 ((rd_T53 l1_0 (ji35)).f0.f0), .int .i64 ((rd_T53 l1_0 (ji35)).f0.f1), .int .i64 a2]] (by rfl) rfl rfl (by (try simp only [List.map_toArray, List.map_cons, List.map_nil]); first | done | (simp only [hji35]; rfl) | rfl | (simp only [List.length_drop, List.length_take]; rfl)) ?_
                   with_reducible refine (stage_Clear.calls k1 a0_0 a0_1 _ _ l0_2 ((rd_T53 l1_0 x9_1).f0.f0) ((rd_T53 l1_0 x9_1).f0.f1) ((rd_T53 l1_0 (ji35)).f0.f0) ((rd_T53 l1_0 (ji35)).f0.f1) a2 true t684 t685 _ ?side1 ?side2 A38.out).mono ?_
                   (case side1 => repeat (first | exact (Kd.C_below HR0_2.out HB.out) | (with_reducible first | apply cA | apply cN | apply cD)))
                   (case side2 => exact HC0_2.out)
                   rintro e w49 ⟨rfl, hb⟩
                   refine ⟨_, rfl, ?_⟩
                   have n0_ := Aside0.mk (blk_below (o := .cells #[.int .i64 a0_0, .int .i64 a0_1, .slice A0_2 l0_2.length c0_2] 42 (0, 0)) (by with_reducible repeat first | exact BK640.out | apply kN | apply kD | apply kA) hb)
                   have n1_ := Aside0.mk (blk_below (o := .cells #[.slice (some ad681) l1_0.length c1_0, .slice A1_1 l1_1.length c1_1] 25 (0, 0)) (by with_reducible repeat first | exact BK641.out | apply kN | apply kD | apply kA) hb)
                   have n2_ := Aside0.mk (blk_below (o := .cells #[.int .i64 t658, .int .i64 t659, .int .i64 t660] 44 (0, 0)) (by with_reducible repeat first | exact BK662.out | apply kN | apply kD | apply kA) hb)
                   have n3_ := Aside0.mk (below_step (by repeat with_reducible first | exact HB.out | apply bA | apply bN | apply bD | refine bS ?_ GE640.out | refine bS ?_ GE641.out | refine bS ?_ GE662.out) hb)
                   clear BK640
                   clear BK641
                   clear BK662
                   clear HB
                   have BK640 := n0_
                   have BK641 := n1_
                   have BK662 := n2_
                   have HB := n3_
                   clear n0_ n1_ n2_ n3_
                   (try clear hb)
                   (try clear hb2)
                   (try clear hk)
                   (try clear hi)
                   refine hK.out _ _ ⟨(blk_cell BK640.out 0).trans rfl, (blk_cell BK640.out 1).trans rfl, (blk_cell BK640.out 2).trans rfl, (blk_cell BK641.out 0).trans rfl, (blk_cell BK641.out 1).trans rfl, (cb HB.out hw681_0), (cb HB.out hw681_1), (cb HB.out hw682_0), (cb HB.out hw682_1)⟩ (fun hHeld => ?_)
                   clear hK K
                   refine norm_ (a' := ?_) ?_ ?_
                   rotate_left
                   ·
                    show Act.put _ (some 81) _ = _
                    simp only [Act.put, aS, lZ, lS, i64_w, i32_w]
                    rfl
                   refine pure_ (i := 17) (N := some 64) (v := ?_) (a' := ?_) #[true, true, true, true, true, true, true, true, true, true, true, true, true, true, true, true, true, true, false, false, false, false, false, false] rfl rfl (any_of HT_.out (by kernel_rfl)) (fun _ _ _ h => h) (Or.inl ⟨by rfl, ?_⟩) ?_ ?_
                   rotate_left; (intro w'; go_simp; with_reducible rfl); rotate_left; (simp only [Act.put, aS, lZ, lS, i64_w, i32_w]; rfl)
                   refine pure_ (i := 18) (N := some 82) (v := ?_) (a' := ?_) #[true, true, true, true, true, true, true, true, true, true, true, true, true, true, true, true, true, true, true, false, false, false, false, false] rfl rfl (any_of HT_.out (by kernel_rfl)) (fun _ _ _ h => h) (Or.inl ⟨by rfl, ?_⟩) ?_ ?_
                   rotate_left; (intro w'; go_simp; with_reducible rfl); rotate_left; (simp only [Act.put, aS, lZ, lS, i64_w, i32_w]; rfl)
                   refine pure_ (i := 19) (N := some 83) (v := ?_) (a' := ?_) #[true, true, true, true, true, true, true, true, true, true, true, true, true, true, true, true, true, true, true, true, false, false, false, false] rfl rfl (any_of HT_.out (by kernel_rfl)) (fun _ _ _ h => h) (Or.inl ⟨by rfl, ?_⟩) ?_ ?_
                   rotate_left; (intro w'; go_simp; with_reducible rfl); rotate_left; (simp only [Act.put, aS, lZ, lS, i64_w, i32_w]; rfl)
                   refine pure_ (i := 20) (N := some 84) (v := ?_) (a' := ?_) #[true, true, true, true, true, true, true, true, true, true, true, true, true, true, true, true, true, true, true, true, true, false, false, false] rfl rfl (any_of HT_.out (by kernel_rfl)) (fun _ _ _ h => h) (Or.inl ⟨by rfl, ?_⟩) ?_ ?_
                   rotate_left; (intro w'; go_simp; with_reducible rfl); rotate_left; (simp only [Act.put, aS, lZ, lS, i64_w, i32_w]; rfl)
                   refine pure_ (i := 21) (N := some 10) (v := ?_) (a' := ?_) #[true, true, true, true, true, true, true, true, true, true, true, true, true, true, true, true, true, true, true, true, true, true, false, false] rfl rfl (any_of HT_.out (by kernel_rfl)) (fun _ _ _ h => h) (Or.inl ⟨by rfl, ?_⟩) ?_ ?_
                   rotate_left; (intro w'; go_simp; with_reducible rfl); rotate_left; (simp only [Act.put, aS, lZ, lS, i64_w, i32_w]; rfl)
                   refine pure_ (i := 22) (N := some 11) (v := ?_) (a' := ?_) #[true, true, true, true, true, true, true, true, true, true, true, true, true, true, true, true, true, true, true, true, true, true, true, false] rfl rfl (any_of HT_.out (by kernel_rfl)) (fun _ _ _ h => h) (Or.inl ⟨by rfl, ?_⟩) ?_ ?_
                   rotate_left; (intro w'; go_simp; with_reducible rfl); rotate_left; (simp only [Act.put, aS, lZ, lS, i64_w, i32_w]; rfl)
                   refine pure_ (i := 23) (N := some 12) (v := ?_) (a' := ?_) #[true, true, true, true, true, true, true, true, true, true, true, true, true, true, true, true, true, true, true, true, true, true, true, true] rfl rfl (any_of HT_.out (by kernel_rfl)) (fun _ _ _ h => h) (Or.inl ⟨by rfl, ?_⟩) ?_ ?_
                   rotate_left; (intro w'; go_simp; with_reducible rfl); rotate_left; (simp only [Act.put, aS, lZ, lS, i64_w, i32_w]; rfl)
                   refine done_ (done_of HT_.out (by kernel_rfl)) ?_
                   have hnb50 := NB662_640.out
                   have hnc50 := NB640_662.out
                   have hcz51_0 : w49.cell? ⟨gb662, 0, none⟩ = some (.int .i64 t658) := (blk_cell BK662.out 0).trans rfl
                   have hcz51_1 : w49.cell? ⟨gb662, 1, none⟩ = some (.int .i64 t659) := (blk_cell BK662.out 1).trans rfl
                   have hcz51_2 : w49.cell? ⟨gb662, 2, none⟩ = some (.int .i64 t660) := (blk_cell BK662.out 2).trans rfl
                   have hfz51_0 := blk_frozen BK662.out 0
                   have hfz51_1 := blk_frozen BK662.out 1
                   have hfz51_2 := blk_frozen BK662.out 2
                   try go_wp2_with (first | (go_at_call 10; (with_reducible refine (dancestudiolaw43_awake.calls  t686 _ A44.out).mono ?_); rintro e w52 ⟨rfl, hb⟩; replace BK640 := Aside0.mk (blk_below (o := .cells #[.int .i64 a0_0, .int .i64 a0_1, .slice A0_2 l0_2.length c0_2] 42 (0, 0)) (by with_reducible repeat first | exact BK640.out | apply kN | apply kD | apply kA) hb); replace BK641 := Aside0.mk (blk_below (o := .cells #[.slice (some ad681) l1_0.length c1_0, .slice A1_1 l1_1.length c1_1] 25 (0, 0)) (by with_reducible repeat first | exact BK641.out | apply kN | apply kD | apply kA) hb); replace BK662 := Aside0.mk (blk_below (o := .cells #[.int .i64 t658, .int .i64 t659, .int .i64 t660] 44 (0, 0)) (by with_reducible repeat first | exact BK662.out | apply kN | apply kD | apply kA) hb); replace HB := Aside0.mk (below_step (by repeat with_reducible first | exact HB.out | apply bA | apply bN | apply bD | refine bS ?_ GE640.out | refine bS ?_ GE641.out | refine bS ?_ GE662.out) hb); (try clear hb); (try clear hb2); (try clear hk); (try clear hi)))
                   go_ret
                   exact ⟨by first | rfl | (simp [errW_none, errW_some] <;> rfl) | (simp only [← hji35]; first | rfl | (simp [errW_none, errW_some] <;> rfl)) | (simp [*, errW_none, errW_some] <;> rfl), by repeat with_reducible first | exact HB.out | apply bA | apply bN | apply bD | refine bS ?_ GE640.out | refine bS ?_ GE641.out | refine bS ?_ GE662.out⟩
                  ·
                   rw [if_neg c43] at H
                   exact absurd H (by simp)
                 ·
                  rw [if_neg c42] at H
                  exact absurd H (by simp)
                ·
                 replace c41 := Bool.eq_false_iff.mpr c41
                 subst c41
                 have H1 : (if t660 = (-1) then ((dancestudiolaw43_awake.f).bind fun t687 => (some t687)) else (none)) = some r := by rw [if_neg (show ¬ (false = true) by decide)] at H; exact H
                 clear H
                 have H := H1
                 clear H1
                 by_cases c53 : t660 = (-1)
                 ·
                  rw [if_pos c53] at H
                  have c53b0 : (t660 == (-1)) = true := beq_iff_eq.mpr c53
                  have c53b1 : (t660 != (-1)) = false := bne_eq_false_iff_eq.mpr c53
                  clear c53
                  replace H := Option.bind_eq_some_iff.mp H
                  obtain ⟨t687, A540, H⟩ := H
                  replace H : (some t687) = some r := H
                  have A54 := Aside0.mk A540
                  clear A540
                  obtain rfl := Option.some.inj H
                  have hnb55 := NB641_640.out
                  have hnc55 := NB640_641.out
                  have hnb56 := NB641_662.out
                  have hnc56 := NB662_641.out
                  have hcz57_0 : wr.cell? ⟨gb641, 0, none⟩ = some (.slice A1_0 l1_0.length c1_0) := (blk_cell BK641.out 0).trans rfl
                  have hcz57_1 : wr.cell? ⟨gb641, 1, none⟩ = some (.slice A1_1 l1_1.length c1_1) := (blk_cell BK641.out 1).trans rfl
                  have hfz57_0 := blk_frozen BK641.out 0
                  have hfz57_1 := blk_frozen BK641.out 1
                  try go_wp2
                  have n0_ := Aside0.mk (blk_drew BK640.out)
                  have n1_ := Aside0.mk (blk_drew BK641.out)
                  have n2_ := Aside0.mk (blk_drew BK662.out)
                  have n3_ := Aside0.mk (below_drew1 HB.out)
                  clear BK640
                  clear BK641
                  clear BK662
                  clear HB
                  have BK640 := n0_
                  have BK641 := n1_
                  have BK662 := n2_
                  have HB := n3_
                  clear n0_ n1_ n2_ n3_
                  have p681 : 0 ≤ (x9_1 : Int) := of_decide_eq_true (by first | (with_reducible assumption) | assumption)
                  have q681 : x9_1 < (l1_0.length : Int) := of_decide_eq_true (by first | (with_reducible assumption) | assumption)
                  obtain ⟨ad681, e681, hx681_0, hx681_1, _, _, _, _, _, _, _, _, _, _, _, _, _, _, _, _, _, _, _, _⟩ := at_T53 HR1_0.out x9_1 p681 q681
                  have hw681_1 := hx681_1
                  have hw681_0 := hx681_0
                  cases e681
                  replace hx681_0 := cb HB.out hx681_0
                  replace hx681_1 := cb HB.out hx681_1
                  replace p681 := eq_true p681
                  replace q681 := eq_true q681
                  have p682 : 0 ≤ ((ji35) : Int) := of_decide_eq_true (by first | (with_reducible assumption) | assumption)
                  have q682 : (ji35) < (l1_0.length : Int) := of_decide_eq_true (by first | (with_reducible assumption) | assumption)
                  obtain ⟨ad682, e682, hx682_0, hx682_1, _, _, _, _, _, _, _, _, _, _, _, _, _, _, _, _, _, _, _, _⟩ := at_T53 HR1_0.out (ji35) p682 q682
                  have hw682_1 := hx682_1
                  have hw682_0 := hx682_0
                  obtain rfl : ad681 = ad682 := (by injection e682)
                  replace hx682_0 := cb HB.out hx682_0
                  replace hx682_1 := cb HB.out hx682_1
                  replace p682 := eq_true p682
                  replace q682 := eq_true q682
                  refine start_ (n := 24) (S := fun w' => w'.cell? ⟨gb640, 0, none⟩ = some (.int .i64 a0_0) ∧ w'.cell? ⟨gb640, 1, none⟩ = some (.int .i64 a0_1) ∧ w'.cell? ⟨gb640, 2, none⟩ = some (.slice A0_2 l0_2.length c0_2) ∧ w'.cell? ⟨gb641, 0, none⟩ = some (.slice (some ad681) l1_0.length c1_0) ∧ w'.cell? ⟨gb641, 1, none⟩ = some (.slice A1_1 l1_1.length c1_1) ∧ w'.cell? (ad681.add ((x9_1).toNat * 22)) = some (.int .i64 ((rd_T53 l1_0 x9_1).f0.f0)) ∧ w'.cell? ⟨(ad681.add ((x9_1).toNat * 22)).block, (ad681.add ((x9_1).toNat * 22)).off + 1, none⟩ = some (.int .i64 ((rd_T53 l1_0 x9_1).f0.f1)) ∧ w'.cell? (ad681.add (((ji35)).toNat * 22)) = some (.int .i64 ((rd_T53 l1_0 (ji35)).f0.f0)) ∧ w'.cell? ⟨(ad681.add (((ji35)).toNat * 22)).block, (ad681.add (((ji35)).toNat * 22)).off + 1, none⟩ = some (.int .i64 ((rd_T53 l1_0 (ji35)).f0.f1))) (ds := []) #[false, false, false, false, false, false, false, false, false, false, false, false, false, false, false, false, false, false, false, false, false, false, false, false] (by kernel_rfl) rfl rfl ⟨(blk_cell BK640.out 0).trans rfl, (blk_cell BK640.out 1).trans rfl, (blk_cell BK640.out 2).trans rfl, (blk_cell BK641.out 0).trans rfl, (blk_cell BK641.out 1).trans rfl, (cb HB.out hw681_0), (cb HB.out hw681_1), (cb HB.out hw682_0), (cb HB.out hw682_1)⟩ (fun hHeld => ?_); refine with_tabW dancestudiolaw43_FloorHits.tab11 dancestudiolaw43_FloorHits.bits11 (fun HT_ HW_ => ?_)
                  generalize wr.drew = w58 at BK640 BK641 BK662 HB hx681_0 hx681_1 hx682_0 hx682_1 hHeld ⊢
                  refine pure_ (i := 1) (N := some 66) (v := ?_) (a' := ?_) #[false, true, false, false, false, false, false, false, false, false, false, false, false, false, false, false, false, false, false, false, false, false, false, false] rfl rfl (any_of HT_.out (by kernel_rfl)) (fun _ _ _ h => h) (Or.inl ⟨by rfl, ?_⟩) ?_ ?_
                  rotate_left; (intro w'; go_simp; with_reducible rfl); rotate_left; (simp only [Act.put, aS, lZ, lS, i64_w, i32_w]; rfl)
                  refine pure_ (i := 3) (N := some 68) (v := ?_) (a' := ?_) #[false, true, false, true, false, false, false, false, false, false, false, false, false, false, false, false, false, false, false, false, false, false, false, false] rfl rfl (any_of HT_.out (by kernel_rfl)) (fun _ _ _ h => h) (Or.inl ⟨by rfl, ?_⟩) ?_ ?_
                  rotate_left; (intro w'; go_simp; with_reducible rfl); rotate_left; (simp only [Act.put, aS, lZ, lS, i64_w, i32_w]; rfl)
                  refine pure_ (i := 7) (N := some 72) (v := ?_) (a' := ?_) #[false, true, false, true, false, false, false, true, false, false, false, false, false, false, false, false, false, false, false, false, false, false, false, false] rfl rfl (any_of HT_.out (by kernel_rfl)) (fun _ _ _ h => h) (Or.inl ⟨by rfl, ?_⟩) ?_ ?_
                  rotate_left; (intro w'; go_simp; with_reducible rfl); rotate_left; (simp only [Act.put, aS, lZ, lS, i64_w, i32_w]; rfl)
                  refine pure_ (i := 9) (N := some 74) (v := ?_) (a' := ?_) #[false, true, false, true, false, false, false, true, false, true, false, false, false, false, false, false, false, false, false, false, false, false, false, false] rfl rfl (any_of HT_.out (by kernel_rfl)) (fun _ _ _ h => h) (Or.inl ⟨by rfl, ?_⟩) ?_ ?_
                  rotate_left; (intro w'; go_simp; with_reducible rfl); rotate_left; (simp only [Act.put, aS, lZ, lS, i64_w, i32_w]; rfl)
                  refine pure_ (i := 10) (N := some 75) (v := ?_) (a' := ?_) #[false, true, false, true, false, false, false, true, false, true, true, false, false, false, false, false, false, false, false, false, false, false, false, false] rfl rfl (any_of HT_.out (by kernel_rfl)) (fun _ _ _ h => h) (Or.inl ⟨by rfl, ?_⟩) ?_ ?_
                  rotate_left; (intro w'; go_simp; with_reducible rfl); rotate_left; (simp only [Act.put, aS, lZ, lS, i64_w, i32_w]; rfl)
                  refine pure_ (i := 14) (N := some 79) (v := ?_) (a' := ?_) #[false, true, false, true, false, false, false, true, false, true, true, false, false, false, true, false, false, false, false, false, false, false, false, false] rfl rfl (any_of HT_.out (by kernel_rfl)) (fun _ _ _ h => h) (Or.inl ⟨by rfl, ?_⟩) ?_ ?_
                  rotate_left; (intro w'; go_simp; with_reducible rfl); rotate_left; (simp only [Act.put, aS, lZ, lS, i64_w, i32_w]; rfl)
                  refine take_ (i := 0) (N := some 65) (v := ?_) (a' := ?_) #[true, true, false, true, false, false, false, true, false, true, true, false, false, false, true, false, false, false, false, false, false, false, false, false] rfl rfl (take_ofW HT_.out HW_.out (by kernel_rfl)) (fun _ _ _ h => h) (Or.inl ⟨by rfl, ?_⟩) hHeld ?_ ?_
                  rotate_left
                  ·
                   rintro w' ⟨s0, s1, s2, s3, s4, s5, s6, s7, s8⟩
                   go_simp
                   with_reducible rfl
                  rotate_left
                  ·
                   simp only [Act.put, aS, lZ, lS, i64_w, i32_w]
                   rfl
                  refine take_ (i := 2) (N := some 67) (v := ?_) (a' := ?_) #[true, true, true, true, false, false, false, true, false, true, true, false, false, false, true, false, false, false, false, false, false, false, false, false] rfl rfl (take_ofW HT_.out HW_.out (by kernel_rfl)) (fun _ _ _ h => h) (Or.inl ⟨by rfl, ?_⟩) hHeld ?_ ?_
                  rotate_left
                  ·
                   rintro w' ⟨s0, s1, s2, s3, s4, s5, s6, s7, s8⟩
                   go_simp
                   with_reducible rfl
                  rotate_left
                  ·
                   simp only [Act.put, aS, lZ, lS, i64_w, i32_w]
                   rfl
                  refine pure_ (i := 4) (N := some 69) (v := ?_) (a' := ?_) #[true, true, true, true, true, false, false, true, false, true, true, false, false, false, true, false, false, false, false, false, false, false, false, false] rfl rfl (any_of HT_.out (by kernel_rfl)) (fun _ _ _ h => h) (Or.inl ⟨by rfl, ?_⟩) ?_ ?_
                  rotate_left; (intro w'; go_simp; with_reducible rfl); rotate_left; (simp only [Act.put, aS, lZ, lS, i64_w, i32_w]; rfl)
                  refine pure_ (i := 5) (N := some 70) (v := ?_) (a' := ?_) #[true, true, true, true, true, true, false, true, false, true, true, false, false, false, true, false, false, false, false, false, false, false, false, false] rfl rfl (any_of HT_.out (by kernel_rfl)) (fun _ _ _ h => h) (Or.inl ⟨by rfl, ?_⟩) ?_ ?_
                  rotate_left; (intro w'; go_simp; with_reducible rfl); rotate_left; (simp only [Act.put, aS, lZ, lS, i64_w, i32_w]; rfl)
                  refine take_ (i := 6) (N := some 71) (v := ?_) (a' := ?_) #[true, true, true, true, true, true, true, true, false, true, true, false, false, false, true, false, false, false, false, false, false, false, false, false] rfl rfl (take_ofW HT_.out HW_.out (by kernel_rfl)) (fun _ _ _ h => h) (Or.inl ⟨by rfl, ?_⟩) hHeld ?_ ?_
                  rotate_left
                  ·
                   rintro w' ⟨s0, s1, s2, s3, s4, s5, s6, s7, s8⟩
                   go_simp
                   with_reducible rfl
                  rotate_left
                  ·
                   simp only [Act.put, aS, lZ, lS, i64_w, i32_w]
                   rfl
                  refine take_ (i := 8) (N := some 73) (v := ?_) (a' := ?_) #[true, true, true, true, true, true, true, true, true, true, true, false, false, false, true, false, false, false, false, false, false, false, false, false] rfl rfl (take_ofW HT_.out HW_.out (by kernel_rfl)) (fun _ _ _ h => h) (Or.inl ⟨by rfl, ?_⟩) hHeld ?_ ?_
                  rotate_left
                  ·
                   rintro w' ⟨s0, s1, s2, s3, s4, s5, s6, s7, s8⟩
                   go_simp
                   with_reducible rfl
                  rotate_left
                  ·
                   simp only [Act.put, aS, lZ, lS, i64_w, i32_w]
                   rfl
                  refine pure_ (i := 11) (N := some 76) (v := ?_) (a' := ?_) #[true, true, true, true, true, true, true, true, true, true, true, true, false, false, true, false, false, false, false, false, false, false, false, false] rfl rfl (any_of HT_.out (by kernel_rfl)) (fun _ _ _ h => h) (Or.inl ⟨by rfl, ?_⟩) ?_ ?_
                  rotate_left; (intro w'; go_simp; with_reducible rfl); rotate_left; (simp only [Act.put, aS, lZ, lS, i64_w, i32_w]; rfl)
                  refine pure_ (i := 12) (N := some 77) (v := ?_) (a' := ?_) #[true, true, true, true, true, true, true, true, true, true, true, true, true, false, true, false, false, false, false, false, false, false, false, false] rfl rfl (any_of HT_.out (by kernel_rfl)) (fun _ _ _ h => h) (Or.inl ⟨by rfl, ?_⟩) ?_ ?_
                  rotate_left; (intro w'; go_simp; with_reducible rfl); rotate_left; (simp only [Act.put, aS, lZ, lS, i64_w, i32_w]; rfl)
                  refine take_ (i := 13) (N := some 78) (v := ?_) (a' := ?_) #[true, true, true, true, true, true, true, true, true, true, true, true, true, true, true, false, false, false, false, false, false, false, false, false] rfl rfl (take_ofW HT_.out HW_.out (by kernel_rfl)) (fun _ _ _ h => h) (Or.inl ⟨by rfl, ?_⟩) hHeld ?_ ?_
                  rotate_left
                  ·
                   rintro w' ⟨s0, s1, s2, s3, s4, s5, s6, s7, s8⟩
                   go_simp
                   with_reducible rfl
                  rotate_left
                  ·
                   simp only [Act.put, aS, lZ, lS, i64_w, i32_w]
                   rfl
                  refine pure_ (i := 15) (N := some 80) (v := ?_) (a' := ?_) #[true, true, true, true, true, true, true, true, true, true, true, true, true, true, true, true, false, false, false, false, false, false, false, false] rfl rfl (any_of HT_.out (by kernel_rfl)) (fun _ _ _ h => h) (Or.inl ⟨by rfl, ?_⟩) ?_ ?_
                  rotate_left; (intro w'; go_simp; with_reducible rfl); rotate_left; (simp only [Act.put, aS, lZ, lS, i64_w, i32_w]; rfl)
                  refine one_ (i := 16) (N := some 81) #[true, true, true, true, true, true, true, true, true, true, true, true, true, true, true, true, true, false, false, false, false, false, false, false] rfl rfl (one_of HT_.out (by kernel_rfl)) (by decide) (fun K hK => ?_)
                  refine goes_ Try.func22 (by kernel_rfl) rfl #[.agg #[.int .i64 a0_0, .int .i64 a0_1, .slice A0_2 l0_2.length c0_2], .agg #[.int .i64 ((rd_T53 l1_0 x9_1).f0.f0), .int .i64 ((rd_T53 l1_0 x9_1).f0.f1), .int .i64 ((rd_T53 l1_0 (ji35)).f0.f0), .int .i64 ((rd_T53 l1_0 (ji35)).f0.f1), .int .i64 a2]] (by rfl) rfl rfl (by (try simp only [List.map_toArray, List.map_cons, List.map_nil]); first | done | (simp only [hji35]; rfl) | rfl | (simp only [List.length_drop, List.length_take]; rfl)) ?_
                  with_reducible refine (stage_Clear.calls k1 a0_0 a0_1 _ _ l0_2 ((rd_T53 l1_0 x9_1).f0.f0) ((rd_T53 l1_0 x9_1).f0.f1) ((rd_T53 l1_0 (ji35)).f0.f0) ((rd_T53 l1_0 (ji35)).f0.f1) a2 false t684 t685 _ ?side1 ?side2 A38.out).mono ?_
                  (case side1 => repeat (first | exact (Kd.C_below HR0_2.out HB.out) | (with_reducible first | apply cA | apply cN | apply cD)))
                  (case side2 => exact HC0_2.out)
                  rintro e w59 ⟨rfl, hb⟩
                  refine ⟨_, rfl, ?_⟩
                  have n0_ := Aside0.mk (blk_below (o := .cells #[.int .i64 a0_0, .int .i64 a0_1, .slice A0_2 l0_2.length c0_2] 42 (0, 0)) (by with_reducible repeat first | exact BK640.out | apply kN | apply kD | apply kA) hb)
                  have n1_ := Aside0.mk (blk_below (o := .cells #[.slice (some ad681) l1_0.length c1_0, .slice A1_1 l1_1.length c1_1] 25 (0, 0)) (by with_reducible repeat first | exact BK641.out | apply kN | apply kD | apply kA) hb)
                  have n2_ := Aside0.mk (blk_below (o := .cells #[.int .i64 t658, .int .i64 t659, .int .i64 t660] 44 (0, 0)) (by with_reducible repeat first | exact BK662.out | apply kN | apply kD | apply kA) hb)
                  have n3_ := Aside0.mk (below_step (by repeat with_reducible first | exact HB.out | apply bA | apply bN | apply bD | refine bS ?_ GE640.out | refine bS ?_ GE641.out | refine bS ?_ GE662.out) hb)
                  clear BK640
                  clear BK641
                  clear BK662
                  clear HB
                  have BK640 := n0_
                  have BK641 := n1_
                  have BK662 := n2_
                  have HB := n3_
                  clear n0_ n1_ n2_ n3_
                  (try clear hb)
                  (try clear hb2)
                  (try clear hk)
                  (try clear hi)
                  refine hK.out _ _ ⟨(blk_cell BK640.out 0).trans rfl, (blk_cell BK640.out 1).trans rfl, (blk_cell BK640.out 2).trans rfl, (blk_cell BK641.out 0).trans rfl, (blk_cell BK641.out 1).trans rfl, (cb HB.out hw681_0), (cb HB.out hw681_1), (cb HB.out hw682_0), (cb HB.out hw682_1)⟩ (fun hHeld => ?_)
                  clear hK K
                  refine norm_ (a' := ?_) ?_ ?_
                  rotate_left
                  ·
                   show Act.put _ (some 81) _ = _
                   simp only [Act.put, aS, lZ, lS, i64_w, i32_w]
                   rfl
                  refine pure_ (i := 17) (N := some 64) (v := ?_) (a' := ?_) #[true, true, true, true, true, true, true, true, true, true, true, true, true, true, true, true, true, true, false, false, false, false, false, false] rfl rfl (any_of HT_.out (by kernel_rfl)) (fun _ _ _ h => h) (Or.inl ⟨by rfl, ?_⟩) ?_ ?_
                  rotate_left; (intro w'; go_simp; with_reducible rfl); rotate_left; (simp only [Act.put, aS, lZ, lS, i64_w, i32_w]; rfl)
                  refine pure_ (i := 18) (N := some 82) (v := ?_) (a' := ?_) #[true, true, true, true, true, true, true, true, true, true, true, true, true, true, true, true, true, true, true, false, false, false, false, false] rfl rfl (any_of HT_.out (by kernel_rfl)) (fun _ _ _ h => h) (Or.inl ⟨by rfl, ?_⟩) ?_ ?_
                  rotate_left; (intro w'; go_simp; with_reducible rfl); rotate_left; (simp only [Act.put, aS, lZ, lS, i64_w, i32_w]; rfl)
                  refine pure_ (i := 19) (N := some 83) (v := ?_) (a' := ?_) #[true, true, true, true, true, true, true, true, true, true, true, true, true, true, true, true, true, true, true, true, false, false, false, false] rfl rfl (any_of HT_.out (by kernel_rfl)) (fun _ _ _ h => h) (Or.inl ⟨by rfl, ?_⟩) ?_ ?_
                  rotate_left; (intro w'; go_simp; with_reducible rfl); rotate_left; (simp only [Act.put, aS, lZ, lS, i64_w, i32_w]; rfl)
                  refine pure_ (i := 20) (N := some 84) (v := ?_) (a' := ?_) #[true, true, true, true, true, true, true, true, true, true, true, true, true, true, true, true, true, true, true, true, true, false, false, false] rfl rfl (any_of HT_.out (by kernel_rfl)) (fun _ _ _ h => h) (Or.inl ⟨by rfl, ?_⟩) ?_ ?_
                  rotate_left; (intro w'; go_simp; with_reducible rfl); rotate_left; (simp only [Act.put, aS, lZ, lS, i64_w, i32_w]; rfl)
                  refine pure_ (i := 21) (N := some 10) (v := ?_) (a' := ?_) #[true, true, true, true, true, true, true, true, true, true, true, true, true, true, true, true, true, true, true, true, true, true, false, false] rfl rfl (any_of HT_.out (by kernel_rfl)) (fun _ _ _ h => h) (Or.inl ⟨by rfl, ?_⟩) ?_ ?_
                  rotate_left; (intro w'; go_simp; with_reducible rfl); rotate_left; (simp only [Act.put, aS, lZ, lS, i64_w, i32_w]; rfl)
                  refine pure_ (i := 22) (N := some 11) (v := ?_) (a' := ?_) #[true, true, true, true, true, true, true, true, true, true, true, true, true, true, true, true, true, true, true, true, true, true, true, false] rfl rfl (any_of HT_.out (by kernel_rfl)) (fun _ _ _ h => h) (Or.inl ⟨by rfl, ?_⟩) ?_ ?_
                  rotate_left; (intro w'; go_simp; with_reducible rfl); rotate_left; (simp only [Act.put, aS, lZ, lS, i64_w, i32_w]; rfl)
                  refine pure_ (i := 23) (N := some 12) (v := ?_) (a' := ?_) #[true, true, true, true, true, true, true, true, true, true, true, true, true, true, true, true, true, true, true, true, true, true, true, true] rfl rfl (any_of HT_.out (by kernel_rfl)) (fun _ _ _ h => h) (Or.inl ⟨by rfl, ?_⟩) ?_ ?_
                  rotate_left; (intro w'; go_simp; with_reducible rfl); rotate_left; (simp only [Act.put, aS, lZ, lS, i64_w, i32_w]; rfl)
                  refine done_ (done_of HT_.out (by kernel_rfl)) ?_
                  have hnb60 := NB662_640.out
                  have hnc60 := NB640_662.out
                  have hcz61_0 : w59.cell? ⟨gb662, 0, none⟩ = some (.int .i64 t658) := (blk_cell BK662.out 0).trans rfl
                  have hcz61_1 : w59.cell? ⟨gb662, 1, none⟩ = some (.int .i64 t659) := (blk_cell BK662.out 1).trans rfl
                  have hcz61_2 : w59.cell? ⟨gb662, 2, none⟩ = some (.int .i64 t660) := (blk_cell BK662.out 2).trans rfl
                  have hfz61_0 := blk_frozen BK662.out 0
                  have hfz61_1 := blk_frozen BK662.out 1
                  have hfz61_2 := blk_frozen BK662.out 2
                  try go_wp2_with (first | (go_at_call 10; (with_reducible refine (dancestudiolaw43_awake.calls  t687 _ A54.out).mono ?_); rintro e w62 ⟨rfl, hb⟩; replace BK640 := Aside0.mk (blk_below (o := .cells #[.int .i64 a0_0, .int .i64 a0_1, .slice A0_2 l0_2.length c0_2] 42 (0, 0)) (by with_reducible repeat first | exact BK640.out | apply kN | apply kD | apply kA) hb); replace BK641 := Aside0.mk (blk_below (o := .cells #[.slice (some ad681) l1_0.length c1_0, .slice A1_1 l1_1.length c1_1] 25 (0, 0)) (by with_reducible repeat first | exact BK641.out | apply kN | apply kD | apply kA) hb); replace BK662 := Aside0.mk (blk_below (o := .cells #[.int .i64 t658, .int .i64 t659, .int .i64 t660] 44 (0, 0)) (by with_reducible repeat first | exact BK662.out | apply kN | apply kD | apply kA) hb); replace HB := Aside0.mk (below_step (by repeat with_reducible first | exact HB.out | apply bA | apply bN | apply bD | refine bS ?_ GE640.out | refine bS ?_ GE641.out | refine bS ?_ GE662.out) hb); (try clear hb); (try clear hb2); (try clear hk); (try clear hi)))
                  go_ret
                  exact ⟨by first | rfl | (simp [errW_none, errW_some] <;> rfl) | (simp only [← hji35]; first | rfl | (simp [errW_none, errW_some] <;> rfl)) | (simp [*, errW_none, errW_some] <;> rfl), by repeat with_reducible first | exact HB.out | apply bA | apply bN | apply bD | refine bS ?_ GE640.out | refine bS ?_ GE641.out | refine bS ?_ GE662.out⟩
                 ·
                  rw [if_neg c53] at H
                  exact absurd H (by simp)
               ·
                rw [if_neg c40] at H
                have c40b0 : (x9_1 == t658) = false := beq_eq_false_iff_ne.mpr c40
                have c40b1 : (x9_1 != t658) = true := bne_iff_ne.mpr c40
                by_cases c63 : t683 = true
                ·
                 subst c63
                 have H1 : (if t684 ≥ 0 then (none) else (dancestudiolaw43_FloorHits.l0 k1 a2 ji35 a0_0 a0_1 l0_2 l1_0 l1_1 t658 t659 t660)) = some r := by rw [if_pos rfl] at H; exact H
                 clear H
                 have H := H1
                 clear H1
                 by_cases c64 : t684 ≥ 0
                 ·
                  rw [if_pos c64] at H
                  exact absurd H (by simp)
                 ·
                  rw [if_neg c64] at H
                  have c64b0 : decide (0 ≤ t684) = false := decide_eq_false c64
                  clear c64
                  have H' := Aside0.mk H
                  clear H
                  have hnb65 := NB641_640.out
                  have hnc65 := NB640_641.out
                  have hnb66 := NB641_662.out
                  have hnc66 := NB662_641.out
                  have hcz67_0 : wr.cell? ⟨gb641, 0, none⟩ = some (.slice A1_0 l1_0.length c1_0) := (blk_cell BK641.out 0).trans rfl
                  have hcz67_1 : wr.cell? ⟨gb641, 1, none⟩ = some (.slice A1_1 l1_1.length c1_1) := (blk_cell BK641.out 1).trans rfl
                  have hfz67_0 := blk_frozen BK641.out 0
                  have hfz67_1 := blk_frozen BK641.out 1
                  try go_wp2
                  have n0_ := Aside0.mk (blk_drew BK640.out)
                  have n1_ := Aside0.mk (blk_drew BK641.out)
                  have n2_ := Aside0.mk (blk_drew BK662.out)
                  have n3_ := Aside0.mk (below_drew1 HB.out)
                  clear BK640
                  clear BK641
                  clear BK662
                  clear HB
                  have BK640 := n0_
                  have BK641 := n1_
                  have BK662 := n2_
                  have HB := n3_
                  clear n0_ n1_ n2_ n3_
                  have p681 : 0 ≤ (x9_1 : Int) := of_decide_eq_true (by first | (with_reducible assumption) | assumption)
                  have q681 : x9_1 < (l1_0.length : Int) := of_decide_eq_true (by first | (with_reducible assumption) | assumption)
                  obtain ⟨ad681, e681, hx681_0, hx681_1, _, _, _, _, _, _, _, _, _, _, _, _, _, _, _, _, _, _, _, _⟩ := at_T53 HR1_0.out x9_1 p681 q681
                  have hw681_1 := hx681_1
                  have hw681_0 := hx681_0
                  cases e681
                  replace hx681_0 := cb HB.out hx681_0
                  replace hx681_1 := cb HB.out hx681_1
                  replace p681 := eq_true p681
                  replace q681 := eq_true q681
                  have p682 : 0 ≤ ((ji35) : Int) := of_decide_eq_true (by first | (with_reducible assumption) | assumption)
                  have q682 : (ji35) < (l1_0.length : Int) := of_decide_eq_true (by first | (with_reducible assumption) | assumption)
                  obtain ⟨ad682, e682, hx682_0, hx682_1, _, _, _, _, _, _, _, _, _, _, _, _, _, _, _, _, _, _, _, _⟩ := at_T53 HR1_0.out (ji35) p682 q682
                  have hw682_1 := hx682_1
                  have hw682_0 := hx682_0
                  obtain rfl : ad681 = ad682 := (by injection e682)
                  replace hx682_0 := cb HB.out hx682_0
                  replace hx682_1 := cb HB.out hx682_1
                  replace p682 := eq_true p682
                  replace q682 := eq_true q682
                  refine start_ (n := 24) (S := fun w' => w'.cell? ⟨gb640, 0, none⟩ = some (.int .i64 a0_0) ∧ w'.cell? ⟨gb640, 1, none⟩ = some (.int .i64 a0_1) ∧ w'.cell? ⟨gb640, 2, none⟩ = some (.slice A0_2 l0_2.length c0_2) ∧ w'.cell? ⟨gb641, 0, none⟩ = some (.slice (some ad681) l1_0.length c1_0) ∧ w'.cell? ⟨gb641, 1, none⟩ = some (.slice A1_1 l1_1.length c1_1) ∧ w'.cell? (ad681.add ((x9_1).toNat * 22)) = some (.int .i64 ((rd_T53 l1_0 x9_1).f0.f0)) ∧ w'.cell? ⟨(ad681.add ((x9_1).toNat * 22)).block, (ad681.add ((x9_1).toNat * 22)).off + 1, none⟩ = some (.int .i64 ((rd_T53 l1_0 x9_1).f0.f1)) ∧ w'.cell? (ad681.add (((ji35)).toNat * 22)) = some (.int .i64 ((rd_T53 l1_0 (ji35)).f0.f0)) ∧ w'.cell? ⟨(ad681.add (((ji35)).toNat * 22)).block, (ad681.add (((ji35)).toNat * 22)).off + 1, none⟩ = some (.int .i64 ((rd_T53 l1_0 (ji35)).f0.f1))) (ds := []) #[false, false, false, false, false, false, false, false, false, false, false, false, false, false, false, false, false, false, false, false, false, false, false, false] (by kernel_rfl) rfl rfl ⟨(blk_cell BK640.out 0).trans rfl, (blk_cell BK640.out 1).trans rfl, (blk_cell BK640.out 2).trans rfl, (blk_cell BK641.out 0).trans rfl, (blk_cell BK641.out 1).trans rfl, (cb HB.out hw681_0), (cb HB.out hw681_1), (cb HB.out hw682_0), (cb HB.out hw682_1)⟩ (fun hHeld => ?_); refine with_tabW dancestudiolaw43_FloorHits.tab11 dancestudiolaw43_FloorHits.bits11 (fun HT_ HW_ => ?_)
                  generalize wr.drew = w68 at BK640 BK641 BK662 HB hx681_0 hx681_1 hx682_0 hx682_1 hHeld ⊢
                  refine pure_ (i := 1) (N := some 66) (v := ?_) (a' := ?_) #[false, true, false, false, false, false, false, false, false, false, false, false, false, false, false, false, false, false, false, false, false, false, false, false] rfl rfl (any_of HT_.out (by kernel_rfl)) (fun _ _ _ h => h) (Or.inl ⟨by rfl, ?_⟩) ?_ ?_
                  rotate_left; (intro w'; go_simp; with_reducible rfl); rotate_left; (simp only [Act.put, aS, lZ, lS, i64_w, i32_w]; rfl)
                  refine pure_ (i := 3) (N := some 68) (v := ?_) (a' := ?_) #[false, true, false, true, false, false, false, false, false, false, false, false, false, false, false, false, false, false, false, false, false, false, false, false] rfl rfl (any_of HT_.out (by kernel_rfl)) (fun _ _ _ h => h) (Or.inl ⟨by rfl, ?_⟩) ?_ ?_
                  rotate_left; (intro w'; go_simp; with_reducible rfl); rotate_left; (simp only [Act.put, aS, lZ, lS, i64_w, i32_w]; rfl)
                  refine pure_ (i := 7) (N := some 72) (v := ?_) (a' := ?_) #[false, true, false, true, false, false, false, true, false, false, false, false, false, false, false, false, false, false, false, false, false, false, false, false] rfl rfl (any_of HT_.out (by kernel_rfl)) (fun _ _ _ h => h) (Or.inl ⟨by rfl, ?_⟩) ?_ ?_
                  rotate_left; (intro w'; go_simp; with_reducible rfl); rotate_left; (simp only [Act.put, aS, lZ, lS, i64_w, i32_w]; rfl)
                  refine pure_ (i := 9) (N := some 74) (v := ?_) (a' := ?_) #[false, true, false, true, false, false, false, true, false, true, false, false, false, false, false, false, false, false, false, false, false, false, false, false] rfl rfl (any_of HT_.out (by kernel_rfl)) (fun _ _ _ h => h) (Or.inl ⟨by rfl, ?_⟩) ?_ ?_
                  rotate_left; (intro w'; go_simp; with_reducible rfl); rotate_left; (simp only [Act.put, aS, lZ, lS, i64_w, i32_w]; rfl)
                  refine pure_ (i := 10) (N := some 75) (v := ?_) (a' := ?_) #[false, true, false, true, false, false, false, true, false, true, true, false, false, false, false, false, false, false, false, false, false, false, false, false] rfl rfl (any_of HT_.out (by kernel_rfl)) (fun _ _ _ h => h) (Or.inl ⟨by rfl, ?_⟩) ?_ ?_
                  rotate_left; (intro w'; go_simp; with_reducible rfl); rotate_left; (simp only [Act.put, aS, lZ, lS, i64_w, i32_w]; rfl)
                  refine pure_ (i := 14) (N := some 79) (v := ?_) (a' := ?_) #[false, true, false, true, false, false, false, true, false, true, true, false, false, false, true, false, false, false, false, false, false, false, false, false] rfl rfl (any_of HT_.out (by kernel_rfl)) (fun _ _ _ h => h) (Or.inl ⟨by rfl, ?_⟩) ?_ ?_
                  rotate_left; (intro w'; go_simp; with_reducible rfl); rotate_left; (simp only [Act.put, aS, lZ, lS, i64_w, i32_w]; rfl)
                  refine take_ (i := 0) (N := some 65) (v := ?_) (a' := ?_) #[true, true, false, true, false, false, false, true, false, true, true, false, false, false, true, false, false, false, false, false, false, false, false, false] rfl rfl (take_ofW HT_.out HW_.out (by kernel_rfl)) (fun _ _ _ h => h) (Or.inl ⟨by rfl, ?_⟩) hHeld ?_ ?_
                  rotate_left
                  ·
                   rintro w' ⟨s0, s1, s2, s3, s4, s5, s6, s7, s8⟩
                   go_simp
                   with_reducible rfl
                  rotate_left
                  ·
                   simp only [Act.put, aS, lZ, lS, i64_w, i32_w]
                   rfl
                  refine take_ (i := 2) (N := some 67) (v := ?_) (a' := ?_) #[true, true, true, true, false, false, false, true, false, true, true, false, false, false, true, false, false, false, false, false, false, false, false, false] rfl rfl (take_ofW HT_.out HW_.out (by kernel_rfl)) (fun _ _ _ h => h) (Or.inl ⟨by rfl, ?_⟩) hHeld ?_ ?_
                  rotate_left
                  ·
                   rintro w' ⟨s0, s1, s2, s3, s4, s5, s6, s7, s8⟩
                   go_simp
                   with_reducible rfl
                  rotate_left
                  ·
                   simp only [Act.put, aS, lZ, lS, i64_w, i32_w]
                   rfl
                  refine pure_ (i := 4) (N := some 69) (v := ?_) (a' := ?_) #[true, true, true, true, true, false, false, true, false, true, true, false, false, false, true, false, false, false, false, false, false, false, false, false] rfl rfl (any_of HT_.out (by kernel_rfl)) (fun _ _ _ h => h) (Or.inl ⟨by rfl, ?_⟩) ?_ ?_
                  rotate_left; (intro w'; go_simp; with_reducible rfl); rotate_left; (simp only [Act.put, aS, lZ, lS, i64_w, i32_w]; rfl)
                  refine pure_ (i := 5) (N := some 70) (v := ?_) (a' := ?_) #[true, true, true, true, true, true, false, true, false, true, true, false, false, false, true, false, false, false, false, false, false, false, false, false] rfl rfl (any_of HT_.out (by kernel_rfl)) (fun _ _ _ h => h) (Or.inl ⟨by rfl, ?_⟩) ?_ ?_
                  rotate_left; (intro w'; go_simp; with_reducible rfl); rotate_left; (simp only [Act.put, aS, lZ, lS, i64_w, i32_w]; rfl)
                  refine take_ (i := 6) (N := some 71) (v := ?_) (a' := ?_) #[true, true, true, true, true, true, true, true, false, true, true, false, false, false, true, false, false, false, false, false, false, false, false, false] rfl rfl (take_ofW HT_.out HW_.out (by kernel_rfl)) (fun _ _ _ h => h) (Or.inl ⟨by rfl, ?_⟩) hHeld ?_ ?_
                  rotate_left
                  ·
                   rintro w' ⟨s0, s1, s2, s3, s4, s5, s6, s7, s8⟩
                   go_simp
                   with_reducible rfl
                  rotate_left
                  ·
                   simp only [Act.put, aS, lZ, lS, i64_w, i32_w]
                   rfl
                  refine take_ (i := 8) (N := some 73) (v := ?_) (a' := ?_) #[true, true, true, true, true, true, true, true, true, true, true, false, false, false, true, false, false, false, false, false, false, false, false, false] rfl rfl (take_ofW HT_.out HW_.out (by kernel_rfl)) (fun _ _ _ h => h) (Or.inl ⟨by rfl, ?_⟩) hHeld ?_ ?_
                  rotate_left
                  ·
                   rintro w' ⟨s0, s1, s2, s3, s4, s5, s6, s7, s8⟩
                   go_simp
                   with_reducible rfl
                  rotate_left
                  ·
                   simp only [Act.put, aS, lZ, lS, i64_w, i32_w]
                   rfl
                  refine pure_ (i := 11) (N := some 76) (v := ?_) (a' := ?_) #[true, true, true, true, true, true, true, true, true, true, true, true, false, false, true, false, false, false, false, false, false, false, false, false] rfl rfl (any_of HT_.out (by kernel_rfl)) (fun _ _ _ h => h) (Or.inl ⟨by rfl, ?_⟩) ?_ ?_
                  rotate_left; (intro w'; go_simp; with_reducible rfl); rotate_left; (simp only [Act.put, aS, lZ, lS, i64_w, i32_w]; rfl)
                  refine pure_ (i := 12) (N := some 77) (v := ?_) (a' := ?_) #[true, true, true, true, true, true, true, true, true, true, true, true, true, false, true, false, false, false, false, false, false, false, false, false] rfl rfl (any_of HT_.out (by kernel_rfl)) (fun _ _ _ h => h) (Or.inl ⟨by rfl, ?_⟩) ?_ ?_
                  rotate_left; (intro w'; go_simp; with_reducible rfl); rotate_left; (simp only [Act.put, aS, lZ, lS, i64_w, i32_w]; rfl)
                  refine take_ (i := 13) (N := some 78) (v := ?_) (a' := ?_) #[true, true, true, true, true, true, true, true, true, true, true, true, true, true, true, false, false, false, false, false, false, false, false, false] rfl rfl (take_ofW HT_.out HW_.out (by kernel_rfl)) (fun _ _ _ h => h) (Or.inl ⟨by rfl, ?_⟩) hHeld ?_ ?_
                  rotate_left
                  ·
                   rintro w' ⟨s0, s1, s2, s3, s4, s5, s6, s7, s8⟩
                   go_simp
                   with_reducible rfl
                  rotate_left
                  ·
                   simp only [Act.put, aS, lZ, lS, i64_w, i32_w]
                   rfl
                  refine pure_ (i := 15) (N := some 80) (v := ?_) (a' := ?_) #[true, true, true, true, true, true, true, true, true, true, true, true, true, true, true, true, false, false, false, false, false, false, false, false] rfl rfl (any_of HT_.out (by kernel_rfl)) (fun _ _ _ h => h) (Or.inl ⟨by rfl, ?_⟩) ?_ ?_
                  rotate_left; (intro w'; go_simp; with_reducible rfl); rotate_left; (simp only [Act.put, aS, lZ, lS, i64_w, i32_w]; rfl)
                  refine one_ (i := 16) (N := some 81) #[true, true, true, true, true, true, true, true, true, true, true, true, true, true, true, true, true, false, false, false, false, false, false, false] rfl rfl (one_of HT_.out (by kernel_rfl)) (by decide) (fun K hK => ?_)
                  refine goes_ Try.func22 (by kernel_rfl) rfl #[.agg #[.int .i64 a0_0, .int .i64 a0_1, .slice A0_2 l0_2.length c0_2], .agg #[.int .i64 ((rd_T53 l1_0 x9_1).f0.f0), .int .i64 ((rd_T53 l1_0 x9_1).f0.f1), .int .i64 ((rd_T53 l1_0 (ji35)).f0.f0), .int .i64 ((rd_T53 l1_0 (ji35)).f0.f1), .int .i64 a2]] (by rfl) rfl rfl (by (try simp only [List.map_toArray, List.map_cons, List.map_nil]); first | done | (simp only [hji35]; rfl) | rfl | (simp only [List.length_drop, List.length_take]; rfl)) ?_
                  with_reducible refine (stage_Clear.calls k1 a0_0 a0_1 _ _ l0_2 ((rd_T53 l1_0 x9_1).f0.f0) ((rd_T53 l1_0 x9_1).f0.f1) ((rd_T53 l1_0 (ji35)).f0.f0) ((rd_T53 l1_0 (ji35)).f0.f1) a2 true t684 t685 _ ?side1 ?side2 A38.out).mono ?_
                  (case side1 => repeat (first | exact (Kd.C_below HR0_2.out HB.out) | (with_reducible first | apply cA | apply cN | apply cD)))
                  (case side2 => exact HC0_2.out)
                  rintro e w69 ⟨rfl, hb⟩
                  refine ⟨_, rfl, ?_⟩
                  have n0_ := Aside0.mk (blk_below (o := .cells #[.int .i64 a0_0, .int .i64 a0_1, .slice A0_2 l0_2.length c0_2] 42 (0, 0)) (by with_reducible repeat first | exact BK640.out | apply kN | apply kD | apply kA) hb)
                  have n1_ := Aside0.mk (blk_below (o := .cells #[.slice (some ad681) l1_0.length c1_0, .slice A1_1 l1_1.length c1_1] 25 (0, 0)) (by with_reducible repeat first | exact BK641.out | apply kN | apply kD | apply kA) hb)
                  have n2_ := Aside0.mk (blk_below (o := .cells #[.int .i64 t658, .int .i64 t659, .int .i64 t660] 44 (0, 0)) (by with_reducible repeat first | exact BK662.out | apply kN | apply kD | apply kA) hb)
                  have n3_ := Aside0.mk (below_step (by repeat with_reducible first | exact HB.out | apply bA | apply bN | apply bD | refine bS ?_ GE640.out | refine bS ?_ GE641.out | refine bS ?_ GE662.out) hb)
                  clear BK640
                  clear BK641
                  clear BK662
                  clear HB
                  have BK640 := n0_
                  have BK641 := n1_
                  have BK662 := n2_
                  have HB := n3_
                  clear n0_ n1_ n2_ n3_
                  (try clear hb)
                  (try clear hb2)
                  (try clear hk)
                  (try clear hi)
                  refine hK.out _ _ ⟨(blk_cell BK640.out 0).trans rfl, (blk_cell BK640.out 1).trans rfl, (blk_cell BK640.out 2).trans rfl, (blk_cell BK641.out 0).trans rfl, (blk_cell BK641.out 1).trans rfl, (cb HB.out hw681_0), (cb HB.out hw681_1), (cb HB.out hw682_0), (cb HB.out hw682_1)⟩ (fun hHeld => ?_)
                  clear hK K
                  refine norm_ (a' := ?_) ?_ ?_
                  rotate_left
                  ·
                   show Act.put _ (some 81) _ = _
                   simp only [Act.put, aS, lZ, lS, i64_w, i32_w]
                   rfl
                  refine pure_ (i := 17) (N := some 64) (v := ?_) (a' := ?_) #[true, true, true, true, true, true, true, true, true, true, true, true, true, true, true, true, true, true, false, false, false, false, false, false] rfl rfl (any_of HT_.out (by kernel_rfl)) (fun _ _ _ h => h) (Or.inl ⟨by rfl, ?_⟩) ?_ ?_
                  rotate_left; (intro w'; go_simp; with_reducible rfl); rotate_left; (simp only [Act.put, aS, lZ, lS, i64_w, i32_w]; rfl)
                  refine pure_ (i := 18) (N := some 82) (v := ?_) (a' := ?_) #[true, true, true, true, true, true, true, true, true, true, true, true, true, true, true, true, true, true, true, false, false, false, false, false] rfl rfl (any_of HT_.out (by kernel_rfl)) (fun _ _ _ h => h) (Or.inl ⟨by rfl, ?_⟩) ?_ ?_
                  rotate_left; (intro w'; go_simp; with_reducible rfl); rotate_left; (simp only [Act.put, aS, lZ, lS, i64_w, i32_w]; rfl)
                  refine pure_ (i := 19) (N := some 83) (v := ?_) (a' := ?_) #[true, true, true, true, true, true, true, true, true, true, true, true, true, true, true, true, true, true, true, true, false, false, false, false] rfl rfl (any_of HT_.out (by kernel_rfl)) (fun _ _ _ h => h) (Or.inl ⟨by rfl, ?_⟩) ?_ ?_
                  rotate_left; (intro w'; go_simp; with_reducible rfl); rotate_left; (simp only [Act.put, aS, lZ, lS, i64_w, i32_w]; rfl)
                  refine pure_ (i := 20) (N := some 84) (v := ?_) (a' := ?_) #[true, true, true, true, true, true, true, true, true, true, true, true, true, true, true, true, true, true, true, true, true, false, false, false] rfl rfl (any_of HT_.out (by kernel_rfl)) (fun _ _ _ h => h) (Or.inl ⟨by rfl, ?_⟩) ?_ ?_
                  rotate_left; (intro w'; go_simp; with_reducible rfl); rotate_left; (simp only [Act.put, aS, lZ, lS, i64_w, i32_w]; rfl)
                  refine pure_ (i := 21) (N := some 10) (v := ?_) (a' := ?_) #[true, true, true, true, true, true, true, true, true, true, true, true, true, true, true, true, true, true, true, true, true, true, false, false] rfl rfl (any_of HT_.out (by kernel_rfl)) (fun _ _ _ h => h) (Or.inl ⟨by rfl, ?_⟩) ?_ ?_
                  rotate_left; (intro w'; go_simp; with_reducible rfl); rotate_left; (simp only [Act.put, aS, lZ, lS, i64_w, i32_w]; rfl)
                  refine pure_ (i := 22) (N := some 11) (v := ?_) (a' := ?_) #[true, true, true, true, true, true, true, true, true, true, true, true, true, true, true, true, true, true, true, true, true, true, true, false] rfl rfl (any_of HT_.out (by kernel_rfl)) (fun _ _ _ h => h) (Or.inl ⟨by rfl, ?_⟩) ?_ ?_
                  rotate_left; (intro w'; go_simp; with_reducible rfl); rotate_left; (simp only [Act.put, aS, lZ, lS, i64_w, i32_w]; rfl)
                  refine pure_ (i := 23) (N := some 12) (v := ?_) (a' := ?_) #[true, true, true, true, true, true, true, true, true, true, true, true, true, true, true, true, true, true, true, true, true, true, true, true] rfl rfl (any_of HT_.out (by kernel_rfl)) (fun _ _ _ h => h) (Or.inl ⟨by rfl, ?_⟩) ?_ ?_
                  rotate_left; (intro w'; go_simp; with_reducible rfl); rotate_left; (simp only [Act.put, aS, lZ, lS, i64_w, i32_w]; rfl)
                  refine done_ (done_of HT_.out (by kernel_rfl)) ?_
                  have hnb70 := NB662_640.out
                  have hnc70 := NB640_662.out
                  have hcz71_0 : w69.cell? ⟨gb662, 0, none⟩ = some (.int .i64 t658) := (blk_cell BK662.out 0).trans rfl
                  have hcz71_1 : w69.cell? ⟨gb662, 1, none⟩ = some (.int .i64 t659) := (blk_cell BK662.out 1).trans rfl
                  have hcz71_2 : w69.cell? ⟨gb662, 2, none⟩ = some (.int .i64 t660) := (blk_cell BK662.out 2).trans rfl
                  have hfz71_0 := blk_frozen BK662.out 0
                  have hfz71_1 := blk_frozen BK662.out 1
                  have hfz71_2 := blk_frozen BK662.out 2
                  try go_wp2
                  go_roundg k1
                  case measure => have := HK1.out; omega
                  case rel => exact ⟨(ji35), (by first | rfl | (simp; done) | (simp only [← hji35] <;> (first | rfl | simp)) | (simp [*]; done)), H', ⟨by have := HK1.out; omega⟩, ⟨by (with_reducible repeat first | apply kN | apply kD | apply kA); exact BK640.out⟩, ⟨by (with_reducible repeat first | apply kN | apply kD | apply kA); exact BK641.out⟩, ⟨by (with_reducible repeat first | apply kN | apply kD | apply kA); exact BK662.out⟩, ⟨by repeat with_reducible first | exact HB.out | apply bA | apply bN | apply bD | refine bS ?_ GE640.out | refine bS ?_ GE641.out | refine bS ?_ GE662.out⟩⟩
                ·
                 replace c63 := Bool.eq_false_iff.mpr c63
                 subst c63
                 have H1 : (none) = some r := by rw [if_neg (show ¬ (false = true) by decide)] at H; exact H
                 clear H
                 have H := H1
                 clear H1
                 exact absurd H (by simp)
              ·
               rw [if_neg c39] at H
               exact absurd H (by simp)
             ·
              rw [if_neg c37] at H
              exact absurd H (by simp)
            ·
             rw [if_neg c36] at H
             exact absurd H (by simp)
           ·
            rw [if_neg c34] at H
            exact absurd H (by simp)
          ·
           rw [if_neg c33] at H
           exact absurd H (by simp)
         ·
          rw [if_neg c32] at H
          have c32b0 : decide (x9_1 < (l1_1.length : Int)) = false := decide_eq_false c32
          clear c32
          by_cases c72 : (t658 == (-1) && (t659 == 0 && (t660 == 0))) = true
          ·
           rw [if_pos c72] at H
           have c72b0 : (t658 == (-1) && (t659 == 0 && (t660 == 0))) = true := c72
           (try (have c72b1 : decide (t658 = (-1) && (t659 == 0 && (t660 == 0))) = true := by simpa using c72))
           (try (have c72b2 : (t658 == (-1) && (t659 == 0 && (t660 == 0))) = true := by simpa using c72))
           clear c72
           replace H := Option.bind_eq_some_iff.mp H
           obtain ⟨t680, A730, H⟩ := H
           replace H : (some t680) = some r := H
           have A73 := Aside0.mk A730
           clear A730
           obtain rfl := Option.some.inj H
           have hnb74 := NB641_640.out
           have hnc74 := NB640_641.out
           have hnb75 := NB641_662.out
           have hnc75 := NB662_641.out
           have hcz76_0 : wr.cell? ⟨gb641, 0, none⟩ = some (.slice A1_0 l1_0.length c1_0) := (blk_cell BK641.out 0).trans rfl
           have hcz76_1 : wr.cell? ⟨gb641, 1, none⟩ = some (.slice A1_1 l1_1.length c1_1) := (blk_cell BK641.out 1).trans rfl
           have hfz76_0 := blk_frozen BK641.out 0
           have hfz76_1 := blk_frozen BK641.out 1
           have hnb77 := NB662_640.out
           have hnc77 := NB640_662.out
           have hcz78_0 : wr.cell? ⟨gb662, 0, none⟩ = some (.int .i64 t658) := (blk_cell BK662.out 0).trans rfl
           have hcz78_1 : wr.cell? ⟨gb662, 1, none⟩ = some (.int .i64 t659) := (blk_cell BK662.out 1).trans rfl
           have hcz78_2 : wr.cell? ⟨gb662, 2, none⟩ = some (.int .i64 t660) := (blk_cell BK662.out 2).trans rfl
           have hfz78_0 := blk_frozen BK662.out 0
           have hfz78_1 := blk_frozen BK662.out 1
           have hfz78_2 := blk_frozen BK662.out 2
           go_wp2_with (first | (go_at_call 10; (with_reducible refine (dancestudiolaw43_awake.calls  t680 _ A73.out).mono ?_); rintro e w79 ⟨rfl, hb⟩; replace BK640 := Aside0.mk (blk_below (o := .cells #[.int .i64 a0_0, .int .i64 a0_1, .slice A0_2 l0_2.length c0_2] 42 (0, 0)) (by with_reducible repeat first | exact BK640.out | apply kN | apply kD | apply kA) hb); replace BK641 := Aside0.mk (blk_below (o := .cells #[.slice A1_0 l1_0.length c1_0, .slice A1_1 l1_1.length c1_1] 25 (0, 0)) (by with_reducible repeat first | exact BK641.out | apply kN | apply kD | apply kA) hb); replace BK662 := Aside0.mk (blk_below (o := .cells #[.int .i64 t658, .int .i64 t659, .int .i64 t660] 44 (0, 0)) (by with_reducible repeat first | exact BK662.out | apply kN | apply kD | apply kA) hb); replace HB := Aside0.mk (below_step (by repeat with_reducible first | exact HB.out | apply bA | apply bN | apply bD | refine bS ?_ GE640.out | refine bS ?_ GE641.out | refine bS ?_ GE662.out) hb); (try clear hb); (try clear hb2); (try clear hk); (try clear hi)))
           go_ret
           exact ⟨by first | rfl | (simp [errW_none, errW_some] <;> rfl) | (simp [*, errW_none, errW_some] <;> rfl), by repeat with_reducible first | exact HB.out | apply bA | apply bN | apply bD | refine bS ?_ GE640.out | refine bS ?_ GE641.out | refine bS ?_ GE662.out⟩
          ·
           rw [if_neg c72] at H
           exact absurd H (by simp)
      ·
       rw [if_neg c18] at H
       exact absurd H (by simp)
     ·
      rw [if_neg c17] at H
      exact absurd H (by simp)
  ·
   rw [if_neg c14] at H
   have c14b0 : (t661 == 0) = false := beq_eq_false_iff_ne.mpr c14
   have c14b1 : (t661 != 0) = true := bne_iff_ne.mpr c14
   by_cases c80 : (t658 == 0 && (t659 == 0 && (t660 == 0))) = true
   ·
    rw [if_pos c80] at H
    have c80b0 : (t658 == 0 && (t659 == 0 && (t660 == 0))) = true := c80
    (try (have c80b1 : decide (t658 = 0 && (t659 == 0 && (t660 == 0))) = true := by simpa using c80))
    (try (have c80b2 : (t658 == 0 && (t659 == 0 && (t660 == 0))) = true := by simpa using c80))
    clear c80
    replace H := Option.bind_eq_some_iff.mp H
    obtain ⟨t663, A810, H⟩ := H
    replace H : (some t663) = some r := H
    have A81 := Aside0.mk A810
    clear A810
    obtain rfl := Option.some.inj H
    go_enter Try.func7, Try.ntmps7
    go_wp2_with (first | ((with_reducible refine gate_dst (N := 3) rfl ?_); refine box_event ?hg (N := 3) ?hd (cs := #[.int .i64 a0_0, .int .i64 a0_1, .slice A0_2 l0_2.length c0_2]) (t := 42) ?hr ?_; (case hd => rfl); (case hg => rfl); (case hr => first | (go_simp; done) | (go_simp; rfl)); intro gb640 hg w82 hbox hb; have BK640 := Aside0.mk (hbox); have GW640 := Aside0.mk ((by rw [hg]; exact (below_size (by repeat with_reducible first | exact HB.out | apply bA | apply bN | apply bD)) : w.heap.size ≤ gb640)); have GE640 := GW640; replace HB := Aside0.mk (below_step (by repeat with_reducible first | exact HB.out | apply bA | apply bN | apply bD) hb); clear hb hbox hg) | ((with_reducible refine gate_dst (N := 4) rfl ?_); refine box_event ?hg (N := 4) ?hd (cs := #[.slice A1_0 l1_0.length c1_0, .slice A1_1 l1_1.length c1_1]) (t := 25) ?hr ?_; (case hd => rfl); (case hg => rfl); (case hr => first | (go_simp; done) | (go_simp; rfl)); intro gb641 hg w83 hbox hb; have BK641 := Aside0.mk (hbox); have GW641 := Aside0.mk ((by rw [hg]; exact (below_size (by repeat with_reducible first | exact HB.out | apply bA | apply bN | apply bD | refine bS ?_ GE640.out)) : w.heap.size ≤ gb641)); have GE641 := GW641; replace HB := Aside0.mk (below_step (by repeat with_reducible first | exact HB.out | apply bA | apply bN | apply bD | refine bS ?_ GE640.out) hb); have NB640_641 := Aside0.mk ((by rw [hg]; exact Nat.ne_of_lt (blk_lt (by with_reducible repeat first | exact BK640.out | apply kN | apply kD | apply kA)) : gb640 ≠ gb641)); have NB641_640 := Aside0.mk ((by rw [hg]; exact Nat.ne_of_gt (blk_lt (by with_reducible repeat first | exact BK640.out | apply kN | apply kD | apply kA)) : gb641 ≠ gb640)); replace BK640 := Aside0.mk (blk_below (o := .cells #[.int .i64 a0_0, .int .i64 a0_1, .slice A0_2 l0_2.length c0_2] 42 (0, 0)) (by with_reducible repeat first | exact BK640.out | apply kN | apply kD | apply kA) hb); clear hb hbox hg; have hnb84 := NB641_640.out; have hnc84 := NB640_641.out; obtain ⟨hcz85_0, hcz85_1, hfz85_0, hfz85_1⟩ := kc2 BK641.out) | ((with_reducible refine gate_callee (f := 9) rfl ?_); refine goesL_ (some 14) rfl rfl Try.func9 (by kernel_rfl) rfl #[.agg #[.slice A1_0 l1_0.length c1_0, .slice A1_1 l1_1.length c1_1]] rfl (by (try simp only [List.map_toArray, List.map_cons, List.map_nil]); first | done | rfl | (simp only [List.length_drop, List.length_take]; rfl)) ?_; (with_reducible refine (dancestudiolaw43_great.calls _ _ l1_0 _ _ l1_1 false _ ?side1 ?side2 ?side3 ?side4 A4.out).mono ?_); (case side1 => repeat (first | exact (Kd.C_below HR1_0.out HB.out) | (with_reducible first | apply cA | apply cN | apply cD))); (case side2 => exact HC1_0.out); (case side3 => repeat (first | exact (Kd.C_below HR1_1.out HB.out) | (with_reducible first | apply cA | apply cN | apply cD))); (case side4 => exact HC1_1.out); rintro e w86 ⟨rfl, hb⟩; refine ⟨_, rfl, ?_⟩; replace BK640 := Aside0.mk (blk_below (o := .cells #[.int .i64 a0_0, .int .i64 a0_1, .slice A0_2 l0_2.length c0_2] 42 (0, 0)) (by with_reducible repeat first | exact BK640.out | apply kN | apply kD | apply kA) hb); replace BK641 := Aside0.mk (blk_below (o := .cells #[.slice A1_0 l1_0.length c1_0, .slice A1_1 l1_1.length c1_1] 25 (0, 0)) (by with_reducible repeat first | exact BK641.out | apply kN | apply kD | apply kA) hb); replace HB := Aside0.mk (below_step (by repeat with_reducible first | exact HB.out | apply bA | apply bN | apply bD | refine bS ?_ GE640.out | refine bS ?_ GE641.out) hb); (try clear hb); (try clear hb2); (try clear hk); (try clear hi); obtain ⟨hcz87_0, hcz87_1, hcz87_2, hfz87_0, hfz87_1, hfz87_2⟩ := kc3 BK640.out; obtain ⟨hcz88_0, hcz88_1, hfz88_0, hfz88_1⟩ := kc2 BK641.out) | ((with_reducible refine gate_callee (f := 19) rfl ?_); refine goesL_ (some 20) rfl rfl Try.func19 (by kernel_rfl) rfl #[.agg #[.int .i64 a0_0, .int .i64 a0_1, .slice A0_2 l0_2.length c0_2], .agg #[.slice A1_0 l1_0.length c1_0, .slice A1_1 l1_1.length c1_1], .int .i64 a2] rfl (by (try simp only [List.map_toArray, List.map_cons, List.map_nil]); first | done | rfl | (simp only [List.length_drop, List.length_take]; rfl)) ?_; (with_reducible refine (floor_First.calls k a0_0 a0_1 _ _ l0_2 _ _ l1_0 _ _ l1_1 a2 t658 t659 t660 t661 _ ?side1 ?side2 ?side3 ?side4 ?side5 ?side6 A13.out).mono ?_); (case side1 => repeat (first | exact (Kd.C_below HR0_2.out HB.out) | (with_reducible first | apply cA | apply cN | apply cD))); (case side2 => exact HC0_2.out); (case side3 => repeat (first | exact (Kd.C_below HR1_0.out HB.out) | (with_reducible first | apply cA | apply cN | apply cD))); (case side4 => exact HC1_0.out); (case side5 => repeat (first | exact (Kd.C_below HR1_1.out HB.out) | (with_reducible first | apply cA | apply cN | apply cD))); (case side6 => exact HC1_1.out); rintro e w89 ⟨rfl, hb⟩; refine ⟨_, rfl, ?_⟩; replace BK640 := Aside0.mk (blk_below (o := .cells #[.int .i64 a0_0, .int .i64 a0_1, .slice A0_2 l0_2.length c0_2] 42 (0, 0)) (by with_reducible repeat first | exact BK640.out | apply kN | apply kD | apply kA) hb); replace BK641 := Aside0.mk (blk_below (o := .cells #[.slice A1_0 l1_0.length c1_0, .slice A1_1 l1_1.length c1_1] 25 (0, 0)) (by with_reducible repeat first | exact BK641.out | apply kN | apply kD | apply kA) hb); replace HB := Aside0.mk (below_step (by repeat with_reducible first | exact HB.out | apply bA | apply bN | apply bD | refine bS ?_ GE640.out | refine bS ?_ GE641.out) hb); (try clear hb); (try clear hb2); (try clear hk); (try clear hi)) | ((with_reducible refine gate_dst (N := 7) rfl ?_); refine box_event ?hg (N := 7) ?hd (cs := #[.int .i64 0, .int .i64 0, .int .i64 0]) (t := 44) ?hr ?_; (case hd => rfl); (case hg => rfl); (case hr => first | (go_simp; done) | (go_simp; rfl)); intro gb662 hg w90 hbox hb; have BK662 := Aside0.mk (hbox); have GW662 := Aside0.mk ((by rw [hg]; exact (below_size (by repeat with_reducible first | exact HB.out | apply bA | apply bN | apply bD | refine bS ?_ GE640.out | refine bS ?_ GE641.out)) : w.heap.size ≤ gb662)); have GE662 := GW662; replace HB := Aside0.mk (below_step (by repeat with_reducible first | exact HB.out | apply bA | apply bN | apply bD | refine bS ?_ GE640.out | refine bS ?_ GE641.out) hb); have NB640_662 := Aside0.mk ((by rw [hg]; exact Nat.ne_of_lt (blk_lt (by with_reducible repeat first | exact BK640.out | apply kN | apply kD | apply kA)) : gb640 ≠ gb662)); have NB662_640 := Aside0.mk ((by rw [hg]; exact Nat.ne_of_gt (blk_lt (by with_reducible repeat first | exact BK640.out | apply kN | apply kD | apply kA)) : gb662 ≠ gb640)); replace BK640 := Aside0.mk (blk_below (o := .cells #[.int .i64 a0_0, .int .i64 a0_1, .slice A0_2 l0_2.length c0_2] 42 (0, 0)) (by with_reducible repeat first | exact BK640.out | apply kN | apply kD | apply kA) hb); have NB641_662 := Aside0.mk ((by rw [hg]; exact Nat.ne_of_lt (blk_lt (by with_reducible repeat first | exact BK641.out | apply kN | apply kD | apply kA)) : gb641 ≠ gb662)); have NB662_641 := Aside0.mk ((by rw [hg]; exact Nat.ne_of_gt (blk_lt (by with_reducible repeat first | exact BK641.out | apply kN | apply kD | apply kA)) : gb662 ≠ gb641)); replace BK641 := Aside0.mk (blk_below (o := .cells #[.slice A1_0 l1_0.length c1_0, .slice A1_1 l1_1.length c1_1] 25 (0, 0)) (by with_reducible repeat first | exact BK641.out | apply kN | apply kD | apply kA) hb); clear hb hbox hg; have hnb91 := NB662_640.out; have hnc91 := NB640_662.out; have hnb92 := NB662_641.out; have hnc92 := NB641_662.out; obtain ⟨hcz93_0, hcz93_1, hcz93_2, hfz93_0, hfz93_1, hfz93_2⟩ := kc3 BK662.out) | (go_at_call 10; (with_reducible refine (dancestudiolaw43_awake.calls  t663 _ A81.out).mono ?_); rintro e w94 ⟨rfl, hb⟩; replace BK640 := Aside0.mk (blk_below (o := .cells #[.int .i64 a0_0, .int .i64 a0_1, .slice A0_2 l0_2.length c0_2] 42 (0, 0)) (by (with_reducible repeat first | apply kN | apply kD | apply kA); refine blk_far ?_ NB640_662.out _; (with_reducible repeat first | apply kN | apply kD | apply kA); refine blk_far ?_ NB640_662.out _; (with_reducible repeat first | apply kN | apply kD | apply kA); refine blk_far ?_ NB640_662.out _; (with_reducible repeat first | apply kN | apply kD | apply kA); exact BK640.out) hb); replace BK641 := Aside0.mk (blk_below (o := .cells #[.slice A1_0 l1_0.length c1_0, .slice A1_1 l1_1.length c1_1] 25 (0, 0)) (by (with_reducible repeat first | apply kN | apply kD | apply kA); refine blk_far ?_ NB641_662.out _; (with_reducible repeat first | apply kN | apply kD | apply kA); refine blk_far ?_ NB641_662.out _; (with_reducible repeat first | apply kN | apply kD | apply kA); refine blk_far ?_ NB641_662.out _; (with_reducible repeat first | apply kN | apply kD | apply kA); exact BK641.out) hb); replace BK662 := Aside0.mk (blk_below (o := .cells #[.int .i64 t658, .int .i64 t659, .int .i64 t660] 44 (0, 0)) (by (with_reducible repeat first | apply kN | apply kD | apply kA); refine blk_put (cs := #[.int .i64 t658, .int .i64 t659, .int .i64 0]) ?_ 2 _ rfl; (with_reducible repeat first | apply kN | apply kD | apply kA); refine blk_put (cs := #[.int .i64 t658, .int .i64 0, .int .i64 0]) ?_ 1 _ rfl; (with_reducible repeat first | apply kN | apply kD | apply kA); refine blk_put (cs := #[.int .i64 0, .int .i64 0, .int .i64 0]) ?_ 0 _ rfl; (with_reducible repeat first | apply kN | apply kD | apply kA); exact BK662.out) hb); replace HB := Aside0.mk (below_step (by repeat with_reducible first | exact HB.out | apply bA | apply bN | apply bD | refine bS ?_ GE640.out | refine bS ?_ GE641.out | refine bS ?_ GE662.out) hb); (try clear hb); (try clear hb2); (try clear hk); (try clear hi)))
    go_ret
    exact ⟨by first | rfl | (simp [errW_none, errW_some] <;> rfl) | (simp [*, errW_none, errW_some] <;> rfl), by repeat with_reducible first | exact HB.out | apply bA | apply bN | apply bD | refine bS ?_ GE640.out | refine bS ?_ GE641.out | refine bS ?_ GE662.out⟩
   ·
    rw [if_neg c80] at H
    exact absurd H (by simp)

end Go.Proofs.Ytmdmajfgpmopbaa.X
