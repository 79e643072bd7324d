import Derived.Test.YtmdmajfgpmopbaaX0
import Derived.Test.YtmdmajfgpmopbaaX42
import Derived.Test.YtmdmajfgpmopbaaX50
import Derived.Test.YtmdmajfgpmopbaaX63
namespace Go.Proofs.Ytmdmajfgpmopbaa.X
open Go.RowKit YtmdmajfgpmopbaaW.PrintWords YtmdmajfgpmopbaaW.PrintLast YtmdmajfgpmopbaaW.PrintMore
attribute [local go_sem] max2_int min2_int max_two min_two max_three min_three max_four min_four
set_option linter.unusedVariables false
set_option linter.unusedSimpArgs false

/-! ### dancestudioref43_First: function 20 -/
mutual
def dancestudioref43_First.j0 : Nat → Int → Bool → Int → Int → List (S64) → List (S53) → List Int → Option (Int × Int × Int × Int)
 | 0, _, _, _, _, _, _, _ => none
 | k + 1, x2, x31, x479000, x479001, x479002, x480000, x480001 => if x31 = true then (some (0, 0, 0, 1)) else (dancestudioref43_First.l0 k x2 0 x479000 x479001 x479002 x480000 x480001)
def dancestudioref43_First.l0 : Nat → Int → Int → Int → Int → List (S64) → List (S53) → List Int → Option (Int × Int × Int × Int)
 | 0, _, _, _, _, _, _, _ => none
 | k + 1, x2, x10, x479000, x479001, x479002, x480000, x480001 => if x10 < (x480001.length : Int) then (if 0 ≤ x10 then (if x10 < (x480000.length : Int) then (if 0 ≤ (wrap64 (x10 + 1)) then (if (wrap64 (x10 + 1)) < (x480000.length : Int) then ((dancestudioref42_Clear.f k x479000 x479001 x479002 ((rd_T53 x480000 x10).f0.f0) ((rd_T53 x480000 x10).f0.f1) ((rd_T53 x480000 (wrap64 (x10 + 1))).f0.f0) ((rd_T53 x480000 (wrap64 (x10 + 1))).f0.f1) x2).bind fun bt485 => (if bt485.1 = true then (if bt485.2.1 ≥ 0 then (some (x10, 0, bt485.2.1, 0)) else (dancestudioref43_First.l0 k x2 (wrap64 (x10 + 1)) x479000 x479001 x479002 x480000 x480001)) else (some (x10, 0, (-1), 0)))) else (none)) else (none)) else (none)) else (none)) else (some ((-1), 0, 0, 0))
end
def dancestudioref43_First.f (k : Nat) (a0_0 a0_1 : Int) (l0_2 : List (S64)) (l1_0 : List (S53)) (l1_1 : List Int) (a2 : Int) : Option (Int × Int × Int × Int) := (dancestudioref42_Check.f k a0_0 a0_1 l0_2).bind fun t481 => (if t481 = 0 then ((dancestudioref29_Check.f k l1_0 l1_1).bind fun t482 => (if t482 = 0 then (if a2 < 0 then (dancestudioref43_First.j0 k a2 true a0_0 a0_1 l0_2 l1_0 l1_1) else (dancestudioref43_First.j0 k a2 (decide (a2 > 32768)) a0_0 a0_1 l0_2 l1_0 l1_1)) else (some (0, 0, 0, t482)))) else (some (0, 0, 0, t481)))
theorem dancestudioref43_First.mono_l : ∀ k, (∀ y0 y1 y2 y3 y4 y5 y6, LeO (dancestudioref43_First.j0 k y0 y1 y2 y3 y4 y5 y6) (dancestudioref43_First.j0 (k + 1) y0 y1 y2 y3 y4 y5 y6)) ∧ (∀ y0 y1 y2 y3 y4 y5 y6, LeO (dancestudioref43_First.l0 k y0 y1 y2 y3 y4 y5 y6) (dancestudioref43_First.l0 (k + 1) y0 y1 y2 y3 y4 y5 y6))
 | 0 => ⟨fun _ _ _ _ _ _ _ r h => by simp [dancestudioref43_First.j0] at h, fun _ _ _ _ _ _ _ r h => by simp [dancestudioref43_First.l0] at h⟩
 | k + 1 => by
  obtain ⟨ih0, ih1⟩ := dancestudioref43_First.mono_l k
  refine ⟨?_, ?_⟩
  ·
   intro y0 y1 y2 y3 y4 y5 y6
   unfold dancestudioref43_First.j0
   repeat' first
   | (with_reducible exact ih0 _ _ _ _ _ _ _)
   | (with_reducible exact ih1 _ _ _ _ _ _ _)
   | (with_reducible exact dancestudioref29_Check.mono _ _ _)
   | (with_reducible exact dancestudioref42_Check.mono _ _ _ _)
   | (with_reducible exact dancestudioref42_Clear.mono _ _ _ _ _ _ _ _ _)
   | (with_reducible exact LeO.refl _)
   | (with_reducible exact LeO.none _)
   | (with_reducible refine LeO.ite ?_ ?_)
   | (with_reducible refine LeO.bind ?_ (fun _ => ?_))
   | exact ih0 _ _ _ _ _ _ _
   | exact ih1 _ _ _ _ _ _ _
   | exact dancestudioref29_Check.mono _ _ _
   | exact dancestudioref42_Check.mono _ _ _ _
   | exact dancestudioref42_Clear.mono _ _ _ _ _ _ _ _ _
   | exact LeO.none _
   | refine LeO.ite ?_ ?_
   | refine LeO.bind ?_ (fun _ => ?_)
  ·
   intro y0 y1 y2 y3 y4 y5 y6
   unfold dancestudioref43_First.l0
   repeat' first
   | (with_reducible exact ih0 _ _ _ _ _ _ _)
   | (with_reducible exact ih1 _ _ _ _ _ _ _)
   | (with_reducible exact dancestudioref29_Check.mono _ _ _)
   | (with_reducible exact dancestudioref42_Check.mono _ _ _ _)
   | (with_reducible exact dancestudioref42_Clear.mono _ _ _ _ _ _ _ _ _)
   | (with_reducible exact LeO.refl _)
   | (with_reducible exact LeO.none _)
   | (with_reducible refine LeO.ite ?_ ?_)
   | (with_reducible refine LeO.bind ?_ (fun _ => ?_))
   | exact ih0 _ _ _ _ _ _ _
   | exact ih1 _ _ _ _ _ _ _
   | exact dancestudioref29_Check.mono _ _ _
   | exact dancestudioref42_Check.mono _ _ _ _
   | exact dancestudioref42_Clear.mono _ _ _ _ _ _ _ _ _
   | exact LeO.none _
   | refine LeO.ite ?_ ?_
   | refine LeO.bind ?_ (fun _ => ?_)
theorem dancestudioref43_First.mono : ∀ a0 a1 a2 a3 a4 a5 k, LeO (dancestudioref43_First.f k a0 a1 a2 a3 a4 a5) (dancestudioref43_First.f (k + 1) a0 a1 a2 a3 a4 a5) := by
 intro a0 a1 a2 a3 a4 a5 k
 obtain ⟨ih0, ih1⟩ := dancestudioref43_First.mono_l k
 unfold dancestudioref43_First.f
 repeat' first
   | (with_reducible exact ih0 _ _ _ _ _ _ _)
   | (with_reducible exact ih1 _ _ _ _ _ _ _)
   | (with_reducible exact dancestudioref29_Check.mono _ _ _)
   | (with_reducible exact dancestudioref42_Check.mono _ _ _ _)
   | (with_reducible exact dancestudioref42_Clear.mono _ _ _ _ _ _ _ _ _)
   | (with_reducible exact LeO.refl _)
   | (with_reducible exact LeO.none _)
   | (with_reducible refine LeO.ite ?_ ?_)
   | (with_reducible refine LeO.bind ?_ (fun _ => ?_))
   | exact ih0 _ _ _ _ _ _ _
   | exact ih1 _ _ _ _ _ _ _
   | exact dancestudioref29_Check.mono _ _ _
   | exact dancestudioref42_Check.mono _ _ _ _
   | exact dancestudioref42_Clear.mono _ _ _ _ _ _ _ _ _
   | exact LeO.none _
   | refine LeO.ite ?_ ?_
   | refine LeO.bind ?_ (fun _ => ?_)
def dancestudioref43_First.T12 : Bool × List (List Nat × List Nat) := (true, [([], []), ([], []), ([1], [1]), ([], []), ([2, 3], [2, 3]), ([4], [4]), ([5], [5]), ([], []), ([7], [7]), ([], []), ([9], [9]), ([8, 10], [8, 10]), ([11], [11]), ([12], [12]), ([], []), ([6, 13, 14], [6, 13, 14]), ([0, 15], [0, 15]), ([16], [16]), ([17], [17]), ([17], [17]), ([17], [17]), ([18, 16, 0, 1, 2, 3, 4, 5, 6, 7, 8, 9, 10, 11, 12, 13, 14, 15, 16, 17, 18], [18]), ([19, 21, 0, 1, 2, 3, 4, 5, 6, 7, 8, 9, 10, 11, 12, 13, 14, 15, 16, 17, 18, 19, 21], [19]), ([20, 22, 0, 1, 2, 3, 4, 5, 6, 7, 8, 9, 10, 11, 12, 13, 14, 15, 16, 17, 18, 19, 20, 21, 22], [20])])
def dancestudioref43_First.B12 : List Nat := [0, 0, 2, 0, 14, 30, 62, 0, 128, 0, 512, 1920, 3968, 8064, 0, 32766, 65535, 131071, 262143, 262143, 262143, 524287, 3145727, 8388607]
theorem dancestudioref43_First.tab12 : rtab .any (opsOf Try.f20 12) = dancestudioref43_First.T12 := by kernel_rfl
theorem dancestudioref43_First.bits12 : waitsOk dancestudioref43_First.T12.2 dancestudioref43_First.B12 = true := by kernel_rfl
set_option maxHeartbeats 8000000 in
set_option maxRecDepth 100000 in
theorem dancestudioref43_First.calls (k : Nat) (a0_0 a0_1 : Int) (A0_2 : Option Addr) (c0_2 : Nat) (l0_2 : List (S64)) (A1_0 : Option Addr) (c1_0 : Nat) (l1_0 : List (S53)) (A1_1 : Option Addr) (c1_1 : Nat) (l1_1 : List Int) (a2 r1 r2 r3 r4 : Int) (w : World) (hr0_2 : Kd.C k64 w A0_2 l0_2.length l0_2) (hc0_2 : l0_2.length ≤ c0_2) (hr1_0 : Kd.C k53 w A1_0 l1_0.length l1_0) (hc1_0 : l1_0.length ≤ c1_0) (hr1_1 : Kd.C (Kd.int .i64) w A1_1 l1_1.length l1_1) (hc1_1 : l1_1.length ≤ c1_1) (h : dancestudioref43_First.f k a0_0 a0_1 l0_2 l1_0 l1_1 a2 = some (r1, r2, r3, r4)) :
  Calls Try.prog 20 #[.agg #[.int .i64 a0_0, .int .i64 a0_1, .slice A0_2 l0_2.length c0_2], .agg #[.slice A1_0 l1_0.length c1_0, .slice A1_1 l1_1.length c1_1], .int .i64 a2] w fun e w' => e = .returned (.tuple #[.agg #[.int .i64 r1, .int .i64 r2, .int .i64 r3], .int .i64 r4]) ∧ Below w.heap.size w w' := by
 have hu42 := Try.underlying42
 have hu25 := Try.underlying25
 have hu44 := Try.underlying44
 have hu35 := Try.underlying35
 have hu57 := Try.underlying57
 have HR0_2 := am hr0_2
 have HC0_2 := am hc0_2
 clear hr0_2 hc0_2
 have HR1_0 := am hr1_0
 have HC1_0 := am hc1_0
 clear hr1_0 hc1_0
 have HR1_1 := am hr1_1
 have HC1_1 := am hc1_1
 clear hr1_1 hc1_1
 have HB := am (Below.refl w.heap.size w)
 have H : ((dancestudioref42_Check.f k a0_0 a0_1 l0_2).bind fun t481 => (if t481 = 0 then ((dancestudioref29_Check.f k l1_0 l1_1).bind fun t482 => (if t482 = 0 then (if a2 < 0 then (dancestudioref43_First.j0 k a2 true a0_0 a0_1 l0_2 l1_0 l1_1) else (dancestudioref43_First.j0 k a2 (decide (a2 > 32768)) a0_0 a0_1 l0_2 l1_0 l1_1)) else (some (0, 0, 0, t482)))) else (some (0, 0, 0, t481)))) = some (r1, r2, r3, r4) := h
 clear h
 replace H := Option.bind_eq_some_iff.mp H
 obtain ⟨t481, A40, H⟩ := H
 replace H : (if t481 = 0 then ((dancestudioref29_Check.f k l1_0 l1_1).bind fun t482 => (if t482 = 0 then (if a2 < 0 then (dancestudioref43_First.j0 k a2 true a0_0 a0_1 l0_2 l1_0 l1_1) else (dancestudioref43_First.j0 k a2 (decide (a2 > 32768)) a0_0 a0_1 l0_2 l1_0 l1_1)) else (some (0, 0, 0, t482)))) else (some (0, 0, 0, t481))) = some (r1, r2, r3, r4) := H
 have A4 := am A40
 clear A40
 by_cases c5 : t481 = 0
 ·
  rw [if_pos c5] at H
  have c5b0 : (t481 == 0) = true := beq_iff_eq.mpr c5
  have c5b1 : (t481 != 0) = false := bne_eq_false_iff_eq.mpr c5
  clear c5
  replace H := Option.bind_eq_some_iff.mp H
  obtain ⟨t482, A60, H⟩ := H
  replace H : (if t482 = 0 then (if a2 < 0 then (dancestudioref43_First.j0 k a2 true a0_0 a0_1 l0_2 l1_0 l1_1) else (dancestudioref43_First.j0 k a2 (decide (a2 > 32768)) a0_0 a0_1 l0_2 l1_0 l1_1)) else (some (0, 0, 0, t482))) = some (r1, r2, r3, r4) := H
  have A6 := am A60
  clear A60
  by_cases c7 : t482 = 0
  ·
   rw [if_pos c7] at H
   have c7b0 : (t482 == 0) = true := beq_iff_eq.mpr c7
   have c7b1 : (t482 != 0) = false := bne_eq_false_iff_eq.mpr c7
   clear c7
   have HC8 := am H
   clear H
   go_enter Try.func20, Try.ntmps20
   go_upto_region 7 with (first | ((with_reducible refine gate_dst (N := 3) rfl ?_); refine box_event yz (N := 3) yz (cs := #[.int .i64 a0_0, .int .i64 a0_1, .slice A0_2 l0_2.length c0_2]) (t := 42) gz ?_; intro gb478 hg w9 hbox hb; have BK478 := am (hbox); have GW478 := gwz (g := gb478) HB hg; have GE478 := GW478; replace HB := am (below_step bz hb); clear hb hbox hg) | ((with_reducible refine gate_dst (N := 4) rfl ?_); refine box_event yz (N := 4) yz (cs := #[.slice A1_0 l1_0.length c1_0, .slice A1_1 l1_1.length c1_1]) (t := 25) gz ?_; intro gb479 hg w10 hbox hb; have BK479 := am (hbox); have GW479 := gwz (g := gb479) HB hg; have GE479 := GW479; replace HB := am (below_step bz hb); have NB478_479 := nlt (g' := gb479) BK478 hg; have NB479_478 := ngt (g' := gb479) BK478 hg; replace BK478 := am (blk_below (o := .cells #[.int .i64 a0_0, .int .i64 a0_1, .slice A0_2 l0_2.length c0_2] 42 (0, 0)) (kz BK478) hb); clear hb hbox hg) | ((with_reducible refine gate_dst (N := 6) rfl ?_); refine box_event yz (N := 6) yz (cs := #[.int .i64 0, .int .i64 0, .int .i64 0]) (t := 44) gz ?_; intro gb480 hg w11 hbox hb; have BK480 := am (hbox); have GW480 := gwz (g := gb480) HB hg; have GE480 := GW480; replace HB := am (below_step bz hb); have NB478_480 := nlt (g' := gb480) BK478 hg; have NB480_478 := ngt (g' := gb480) BK478 hg; replace BK478 := am (blk_below (o := .cells #[.int .i64 a0_0, .int .i64 a0_1, .slice A0_2 l0_2.length c0_2] 42 (0, 0)) (kz BK478) hb); have NB479_480 := nlt (g' := gb480) BK479 hg; have NB480_479 := ngt (g' := gb480) BK479 hg; replace BK479 := am (blk_below (o := .cells #[.slice A1_0 l1_0.length c1_0, .slice A1_1 l1_1.length c1_1] 25 (0, 0)) (kz BK479) hb); clear hb hbox hg; have hnb12 := NB478_479.out; have hnc12 := NB479_478.out; have hnb13 := NB478_480.out; have hnc13 := NB480_478.out; obtain ⟨hcz14_0, hcz14_1, hcz14_2, hfz14_0, hfz14_1, hfz14_2⟩ := kc3 BK478.out) | ((with_reducible refine gate_callee (f := 32) rfl ?_); refine goesL_ (some 15) rfl rfl Try.func32 qz rfl #[.agg #[.int .i64 a0_0, .int .i64 a0_1, .slice A0_2 l0_2.length c0_2]] rfl mz ?_; (with_reducible refine (dancestudioref42_Check.calls k a0_0 a0_1 _ _ l0_2 t481 _ ?side1 ?side2 A4.out).mono ?_); (case side1 => exact cz HR0_2); (case side2 => exact HC0_2.out); rintro e w15 ⟨rfl, hb⟩; refine ⟨_, rfl, ?_⟩; replace BK478 := am (blk_below (o := .cells #[.int .i64 a0_0, .int .i64 a0_1, .slice A0_2 l0_2.length c0_2] 42 (0, 0)) (kz BK478) hb); replace BK479 := am (blk_below (o := .cells #[.slice A1_0 l1_0.length c1_0, .slice A1_1 l1_1.length c1_1] 25 (0, 0)) (kz BK479) hb); replace BK480 := am (blk_below (o := .cells #[.int .i64 0, .int .i64 0, .int .i64 0] 44 (0, 0)) (kz BK480) hb); replace HB := am (below_step bz hb); (try clear hb); (try clear hb2); (try clear hk); (try clear hi); have hnb16 := NB479_480.out; have hnc16 := NB480_479.out; obtain ⟨hcz17_0, hcz17_1, hfz17_0, hfz17_1⟩ := kc2 BK479.out) | ((with_reducible refine gate_callee (f := 28) rfl ?_); refine goesL_ (some 21) rfl rfl Try.func28 qz rfl #[.agg #[.slice A1_0 l1_0.length c1_0, .slice A1_1 l1_1.length c1_1]] rfl mz ?_; (with_reducible refine (dancestudioref29_Check.calls k _ _ l1_0 _ _ l1_1 t482 _ ?side1 ?side2 ?side3 ?side4 A6.out).mono ?_); (case side1 => exact cz HR1_0); (case side2 => exact HC1_0.out); (case side3 => exact cz HR1_1); (case side4 => exact HC1_1.out); rintro e w18 ⟨rfl, hb⟩; refine ⟨_, rfl, ?_⟩; replace BK478 := am (blk_below (o := .cells #[.int .i64 a0_0, .int .i64 a0_1, .slice A0_2 l0_2.length c0_2] 42 (0, 0)) (kz BK478) hb); replace BK479 := am (blk_below (o := .cells #[.slice A1_0 l1_0.length c1_0, .slice A1_1 l1_1.length c1_1] 25 (0, 0)) (kz BK479) hb); replace BK480 := am (blk_below (o := .cells #[.int .i64 0, .int .i64 0, .int .i64 0] 44 (0, 0)) (kz BK480) hb); replace HB := am (below_step bz hb); (try clear hb); (try clear hb2); (try clear hk); (try clear hi)))
   (try simp only [Act.put, List.setIfInBounds_toArray, List.set_cons_zero, List.set_cons_succ])
   go_cut [31] (fun v31 wc => ∃ (kq : Nat) (x31_7 : Bool), v31 = .bool x31_7 ∧ Aside0 (dancestudioref43_First.j0 kq a2 x31_7 a0_0 a0_1 l0_2 l1_0 l1_1 = some (r1, r2, r3, r4)) ∧ Aside0 (kq ≤ k) ∧ Aside0 (wc.heap[gb478]? = some (.cells #[.int .i64 a0_0, .int .i64 a0_1, (.slice A0_2 l0_2.length c0_2)] 42 (0, 0))) ∧ Aside0 (wc.heap[gb479]? = some (.cells #[(.slice A1_0 l1_0.length c1_0), (.slice A1_1 l1_1.length c1_1)] 25 (0, 0))) ∧ Aside0 (wc.heap[gb480]? = some (.cells #[.int .i64 0, .int .i64 0, .int .i64 0] 44 (0, 0))) ∧ Aside0 (Below w.heap.size w wc))
   case first =>
    have H := HC8.out
    clear HC8
    by_cases c19 : a2 < 0
    ·
     rw [if_pos c19] at H
     have c19b0 := decide_eq_true c19
     clear c19
     (first | rw [c19b0] | (simp only [i64_w, i32_w]; rw [c19b0]) | skip)
     have H' := am H
     clear H
     go_wp2
     go_meet
     case rel => exact ⟨_, (true), sz, H', ⟨by first | omega | exact Nat.le_refl _⟩, ⟨kz BK478⟩, ⟨kz BK479⟩, ⟨kz BK480⟩, ⟨bz⟩⟩
    ·
     rw [if_neg c19] at H
     have c19b0 := decide_eq_false c19
     clear c19
     (first | rw [c19b0] | (simp only [i64_w, i32_w]; rw [c19b0]) | skip)
     have H' := am H
     clear H
     go_wp2
     go_meet
     case rel => exact ⟨_, (decide (a2 > 32768)), sz, H', ⟨by first | omega | exact Nat.le_refl _⟩, ⟨kz BK478⟩, ⟨kz BK479⟩, ⟨kz BK480⟩, ⟨bz⟩⟩
   case rest =>
    clear HC8
    try clear c1
    try clear c2
    try clear p2
    try clear c3
    try clear c5
    try clear c5b0
    try clear c5b1
    try clear c7
    try clear c7b0
    try clear c7b1
    try clear c12
    try clear c13
    try clear c16
    try clear c19
    try clear c19b0
    try clear hcz14_0
    try clear hcz14_1
    try clear hcz14_2
    try clear hcz17_0
    try clear hcz17_1
    try clear hfz14_0
    try clear hfz14_1
    try clear hfz14_2
    try clear hfz17_0
    try clear hfz17_1
    obtain ⟨kq, x31_7, rfl, HA, HJ7, BK478, BK479, BK480, HB⟩ := hcut
    cases kq with
    | zero => exact absurd HA.out (by simp [dancestudioref43_First.j0])
    | succ kj7 =>
     have H := HA.out
     clear HA
     simp only [dancestudioref43_First.j0] at H
     by_cases c20 : x31_7 = true
     ·
      subst c20
      have H1 : (some (0, 0, 0, 1)) = some (r1, r2, r3, r4) := by rw [if_pos rfl] at H; exact H
      clear H
      have H := H1
      clear H1
      simp only [Option.some.injEq, Prod.mk.injEq] at H
      obtain ⟨rfl, rfl, rfl, rfl⟩ := H
      have hnb21 := NB480_478.out
      have hnc21 := NB478_480.out
      have hnb22 := NB480_479.out
      have hnc22 := NB479_480.out
      obtain ⟨hcz23_0, hcz23_1, hcz23_2, hfz23_0, hfz23_1, hfz23_2⟩ := kc3 BK480.out
      go_wp2
      refine bodyPost_ret (results_ct rfl _ _ gb480 44 #[.int .i64 0, .int .i64 0, .int .i64 0] (0, 0) _ rfl (by (with_reducible repeat first | apply kN | apply kD | apply kA); refine blk_put (cs := #[.int .i64 0, .int .i64 0, .int .i64 0]) ?_ 2 _ rfl; (with_reducible repeat first | apply kN | apply kD | apply kA); refine blk_put (cs := #[.int .i64 0, .int .i64 0, .int .i64 0]) ?_ 1 _ rfl; (with_reducible repeat first | apply kN | apply kD | apply kA); refine blk_put (cs := #[.int .i64 0, .int .i64 0, .int .i64 0]) ?_ 0 _ rfl; (with_reducible repeat first | apply kN | apply kD | apply kA); exact BK480.out) Try.underlying44 rfl qz) rfl ?_
      exact ⟨ez, bz⟩
     ·
      replace c20 := Bool.eq_false_iff.mpr c20
      subst c20
      have H1 : (dancestudioref43_First.l0 kj7 a2 0 a0_0 a0_1 l0_2 l1_0 l1_1) = some (r1, r2, r3, r4) := by rw [if_neg (show ¬ (false = true) by decide)] at H; exact H
      clear H
      have H := H1
      clear H1
      have H' := am H
      clear H
      go_wp2
      go_loopg [10] kj7 (fun kq v10 w' => ∃ (x10_2 x481000_2 x481001_2 x481002_2 : Int), v10 = .int .i64 x10_2 ∧ Aside0 (dancestudioref43_First.l0 kq a2 x10_2 a0_0 a0_1 l0_2 l1_0 l1_1 = some (r1, r2, r3, r4)) ∧ Aside0 (kq ≤ kj7) ∧ Aside0 (w'.heap[gb478]? = some (.cells #[.int .i64 a0_0, .int .i64 a0_1, (.slice A0_2 l0_2.length c0_2)] 42 (0, 0))) ∧ Aside0 (w'.heap[gb479]? = some (.cells #[(.slice A1_0 l1_0.length c1_0), (.slice A1_1 l1_1.length c1_1)] 25 (0, 0))) ∧ Aside0 (w'.heap[gb480]? = some (.cells #[.int .i64 x481000_2, .int .i64 x481001_2, .int .i64 x481002_2] 44 (0, 0))) ∧ Aside0 (Below w.heap.size w w'))
      case atStart => exact ⟨(0), (0), (0), (0), sz, H', ⟨Nat.le_refl _⟩, ⟨kz BK478⟩, ⟨kz BK479⟩, ⟨kz BK480⟩, ⟨bz⟩⟩
      case round =>
       clear H'
       try clear c1
       try clear c2
       try clear p2
       try clear c3
       try clear c5
       try clear c5b0
       try clear c5b1
       try clear c7
       try clear c7b0
       try clear c7b1
       try clear c12
       try clear c13
       try clear c16
       try clear c19
       try clear c19b0
       try clear c20
       try clear c21
       try clear c22
       try clear hcz14_0
       try clear hcz14_1
       try clear hcz14_2
       try clear hcz17_0
       try clear hcz17_1
       try clear hcz23_0
       try clear hcz23_1
       try clear hcz23_2
       try clear hfz14_0
       try clear hfz14_1
       try clear hfz14_2
       try clear hfz17_0
       try clear hfz17_1
       try clear hfz23_0
       try clear hfz23_1
       try clear hfz23_2
       try clear p2
       obtain ⟨x10_2, x481000_2, x481001_2, x481002_2, rfl, HA, HK2, BK478, BK479, BK480, HB⟩ := hrel
       cases gk with
       | zero => exact absurd HA.out (by simp [dancestudioref43_First.l0])
       | succ k2 =>
        have H := HA.out
        clear HA
        simp only [dancestudioref43_First.l0] at H
        by_cases c24 : x10_2 < (l1_1.length : Int)
        ·
         rw [if_pos c24] at H
         have c24b0 := decide_eq_true c24
         clear c24
         by_cases c25 : 0 ≤ x10_2; rotate_left
         · rw [if_neg c25] at H; exact absurd H (by simp)
         rw [if_pos c25] at H
         have c25b0 := decide_eq_true c25
         clear c25
         by_cases c26 : x10_2 < (l1_0.length : Int); rotate_left
         · rw [if_neg c26] at H; exact absurd H (by simp)
         rw [if_pos c26] at H
         have c26b0 := decide_eq_true c26
         clear c26
         obtain ⟨ji27, hji27⟩ : ∃ j_ : Int, (wrap64 (x10_2 + 1)) = j_ := ⟨_, rfl⟩
         replace H : (if 0 ≤ (ji27) then (if (ji27) < (l1_0.length : Int) then ((dancestudioref42_Clear.f k2 a0_0 a0_1 l0_2 ((rd_T53 l1_0 x10_2).f0.f0) ((rd_T53 l1_0 x10_2).f0.f1) ((rd_T53 l1_0 (ji27)).f0.f0) ((rd_T53 l1_0 (ji27)).f0.f1) a2).bind fun bt485 => (if bt485.1 = true then (if bt485.2.1 ≥ 0 then (some (x10_2, 0, bt485.2.1, 0)) else (dancestudioref43_First.l0 k2 a2 ji27 a0_0 a0_1 l0_2 l1_0 l1_1)) else (some (x10_2, 0, (-1), 0)))) else (none)) else (none)) = some (r1, r2, r3, r4) := by first | (rw [hji27] at H; exact H) | (simp only [hji27] at H ⊢; exact H)
         have hji27w : (IntKind.i64.wrap (x10_2 + 1)) = ji27 := (i64_w _).trans hji27
         by_cases c28 : 0 ≤ (ji27); rotate_left
         · rw [if_neg c28] at H; exact absurd H (by simp)
         rw [if_pos c28] at H
         have c28b0 := decide_eq_true c28
         clear c28
         by_cases c29 : (ji27) < (l1_0.length : Int); rotate_left
         · rw [if_neg c29] at H; exact absurd H (by simp)
         rw [if_pos c29] at H
         have c29b0 := decide_eq_true c29
         clear c29
         replace H := Option.bind_eq_some_iff.mp H
         obtain ⟨⟨t485, t486, t487⟩, A300, H⟩ := H
         replace H : (if t485 = true then (if t486 ≥ 0 then (some (x10_2, 0, t486, 0)) else (dancestudioref43_First.l0 k2 a2 ji27 a0_0 a0_1 l0_2 l1_0 l1_1)) else (some (x10_2, 0, (-1), 0))) = some (r1, r2, r3, r4) := H
         have A30 := am A300
         clear A300
         by_cases c31 : t485 = true
         ·
          subst c31
          have H1 : (if t486 ≥ 0 then (some (x10_2, 0, t486, 0)) else (dancestudioref43_First.l0 k2 a2 ji27 a0_0 a0_1 l0_2 l1_0 l1_1)) = some (r1, r2, r3, r4) := by rw [if_pos rfl] at H; exact H
          clear H
          have H := H1
          clear H1
          by_cases c32 : t486 ≥ 0
          ·
           rw [if_pos c32] at H
           have c32b0 := decide_eq_true c32
           clear c32
           simp only [Option.some.injEq, Prod.mk.injEq] at H
           obtain ⟨rfl, rfl, rfl, rfl⟩ := H
           have hnb33 := NB479_478.out
           have hnc33 := NB478_479.out
           have hnb34 := NB479_480.out
           have hnc34 := NB480_479.out
           obtain ⟨hcz35_0, hcz35_1, hfz35_0, hfz35_1⟩ := kc2 BK479.out
           try go_wp2
           have n0_ := am (blk_drew BK478.out)
           have n1_ := am (blk_drew BK479.out)
           have n2_ := am (blk_drew BK480.out)
           have n3_ := am (below_drew1 HB.out)
           clear BK478
           clear BK479
           clear BK480
           clear HB
           have BK478 := n0_
           have BK479 := n1_
           have BK480 := n2_
           have HB := n3_
           clear n0_ n1_ n2_ n3_
           have p483 : 0 ≤ (x10_2 : Int) := az
           have q483 : x10_2 < (l1_0.length : Int) := az
           obtain ⟨ad483, e483, hx483_0, hx483_1, _, _, _, _, _, _, _, _, _, _, _, _, _, _, _, _, _, _, _, _⟩ := at_T53 HR1_0.out x10_2 p483 q483
           have hw483_1 := hx483_1
           have hw483_0 := hx483_0
           cases e483
           replace hx483_0 := cb HB.out hx483_0
           replace hx483_1 := cb HB.out hx483_1
           replace p483 := eq_true p483
           replace q483 := eq_true q483
           have p484 : 0 ≤ ((ji27) : Int) := az
           have q484 : (ji27) < (l1_0.length : Int) := az
           obtain ⟨ad484, e484, hx484_0, hx484_1, _, _, _, _, _, _, _, _, _, _, _, _, _, _, _, _, _, _, _, _⟩ := at_T53 HR1_0.out (ji27) p484 q484
           have hw484_1 := hx484_1
           have hw484_0 := hx484_0
           obtain rfl : ad483 = ad484 := (by injection e484)
           replace hx484_0 := cb HB.out hx484_0
           replace hx484_1 := cb HB.out hx484_1
           replace p484 := eq_true p484
           replace q484 := eq_true q484
           refine start_ (n := 24) (S := fun w' => w'.cell? ⟨gb478, 0, none⟩ = some (.int .i64 a0_0) ∧ w'.cell? ⟨gb478, 1, none⟩ = some (.int .i64 a0_1) ∧ w'.cell? ⟨gb478, 2, none⟩ = some (.slice A0_2 l0_2.length c0_2) ∧ w'.cell? ⟨gb479, 0, none⟩ = some (.slice (some ad483) l1_0.length c1_0) ∧ w'.cell? ⟨gb479, 1, none⟩ = some (.slice A1_1 l1_1.length c1_1) ∧ w'.cell? (ad483.add ((x10_2).toNat * 22)) = some (.int .i64 ((rd_T53 l1_0 x10_2).f0.f0)) ∧ w'.cell? ⟨(ad483.add ((x10_2).toNat * 22)).block, (ad483.add ((x10_2).toNat * 22)).off + 1, none⟩ = some (.int .i64 ((rd_T53 l1_0 x10_2).f0.f1)) ∧ w'.cell? (ad483.add (((ji27)).toNat * 22)) = some (.int .i64 ((rd_T53 l1_0 (ji27)).f0.f0)) ∧ w'.cell? ⟨(ad483.add (((ji27)).toNat * 22)).block, (ad483.add (((ji27)).toNat * 22)).off + 1, none⟩ = some (.int .i64 ((rd_T53 l1_0 (ji27)).f0.f1))) (ds := []) (bm 24 0) qz rfl rfl ⟨(blk_cell BK478.out 0).trans rfl, (blk_cell BK478.out 1).trans rfl, (blk_cell BK478.out 2).trans rfl, (blk_cell BK479.out 0).trans rfl, (blk_cell BK479.out 1).trans rfl, (cb HB.out hw483_0), (cb HB.out hw483_1), (cb HB.out hw484_0), (cb HB.out hw484_1)⟩ (fun hHeld => ?_); refine with_tabW dancestudioref43_First.tab12 dancestudioref43_First.bits12 (fun HT_ HW_ => ?_)
           generalize wr.drew = w36 at BK478 BK479 BK480 HB hx483_0 hx483_1 hx484_0 hx484_1 hHeld ⊢
           refine pa (i := 1) (N := some 42) (bm 24 2) HT_ ?_
           refine pa (i := 3) (N := some 44) (bm 24 10) HT_ ?_
           refine pa (i := 7) (N := some 48) (bm 24 138) HT_ ?_
           refine pa (i := 9) (N := some 50) (bm 24 650) HT_ ?_
           refine pa (i := 10) (N := some 51) (bm 24 1674) HT_ ?_
           refine pa (i := 14) (N := some 55) (bm 24 18058) HT_ ?_
           refine take_ (i := 0) (N := some 41) (v := ?_) (a' := ?_) (bm 24 18059) rfl rfl (take_ofW HT_.out HW_.out qz) iz (Or.inl ⟨by rfl, ?_⟩) hHeld ?_ ?_
           rotate_left
           ·
            rintro w' ⟨s0, s1, s2, s3, s4, s5, s6, s7, s8⟩
            go_simp
            with_reducible rfl
           rotate_left
           ·
            simp only [Act.put, aS, lZ, lS, i64_w, i32_w]
            rfl
           refine take_ (i := 2) (N := some 43) (v := ?_) (a' := ?_) (bm 24 18063) rfl rfl (take_ofW HT_.out HW_.out qz) iz (Or.inl ⟨by rfl, ?_⟩) hHeld ?_ ?_
           rotate_left
           ·
            rintro w' ⟨s0, s1, s2, s3, s4, s5, s6, s7, s8⟩
            go_simp
            with_reducible rfl
           rotate_left
           ·
            simp only [Act.put, aS, lZ, lS, i64_w, i32_w]
            rfl
           refine pa (i := 4) (N := some 45) (bm 24 18079) HT_ ?_
           refine pa (i := 5) (N := some 46) (bm 24 18111) HT_ ?_
           refine take_ (i := 6) (N := some 47) (v := ?_) (a' := ?_) (bm 24 18175) rfl rfl (take_ofW HT_.out HW_.out qz) iz (Or.inl ⟨by rfl, ?_⟩) hHeld ?_ ?_
           rotate_left
           ·
            rintro w' ⟨s0, s1, s2, s3, s4, s5, s6, s7, s8⟩
            go_simp
            with_reducible rfl
           rotate_left
           ·
            simp only [Act.put, aS, lZ, lS, i64_w, i32_w]
            rfl
           refine take_ (i := 8) (N := some 49) (v := ?_) (a' := ?_) (bm 24 18431) rfl rfl (take_ofW HT_.out HW_.out qz) iz (Or.inl ⟨by rfl, ?_⟩) hHeld ?_ ?_
           rotate_left
           ·
            rintro w' ⟨s0, s1, s2, s3, s4, s5, s6, s7, s8⟩
            go_simp
            with_reducible rfl
           rotate_left
           ·
            simp only [Act.put, aS, lZ, lS, i64_w, i32_w]
            rfl
           refine pa (i := 11) (N := some 52) (bm 24 20479) HT_ ?_
           refine pa (i := 12) (N := some 53) (bm 24 24575) HT_ ?_
           refine take_ (i := 13) (N := some 54) (v := ?_) (a' := ?_) (bm 24 32767) rfl rfl (take_ofW HT_.out HW_.out qz) iz (Or.inl ⟨by rfl, ?_⟩) hHeld ?_ ?_
           rotate_left
           ·
            rintro w' ⟨s0, s1, s2, s3, s4, s5, s6, s7, s8⟩
            go_simp
            with_reducible rfl
           rotate_left
           ·
            simp only [Act.put, aS, lZ, lS, i64_w, i32_w]
            rfl
           refine pa (i := 15) (N := some 56) (bm 24 65535) HT_ ?_
           refine one_ (i := 16) (N := some 57) (bm 24 131071) rfl rfl (one_of HT_.out qz) (by decide) (fun K hK => ?_)
           refine goes_ Try.func33 qz rfl #[.agg #[.int .i64 a0_0, .int .i64 a0_1, .slice A0_2 l0_2.length c0_2], .agg #[.int .i64 ((rd_T53 l1_0 x10_2).f0.f0), .int .i64 ((rd_T53 l1_0 x10_2).f0.f1), .int .i64 ((rd_T53 l1_0 (ji27)).f0.f0), .int .i64 ((rd_T53 l1_0 (ji27)).f0.f1), .int .i64 a2]] (by rfl) rfl rfl (by (try simp only [List.map_toArray, List.map_cons, List.map_nil]); first | done | (simp only [hji27]; rfl) | rfl | (simp only [List.length_drop, List.length_take]; rfl)) ?_
           with_reducible refine (dancestudioref42_Clear.calls k2 a0_0 a0_1 _ _ l0_2 ((rd_T53 l1_0 x10_2).f0.f0) ((rd_T53 l1_0 x10_2).f0.f1) ((rd_T53 l1_0 (ji27)).f0.f0) ((rd_T53 l1_0 (ji27)).f0.f1) a2 true t486 t487 _ ?side1 ?side2 A30.out).mono ?_
           (case side1 => exact cz HR0_2)
           (case side2 => exact HC0_2.out)
           rintro e w37 ⟨rfl, hb⟩
           refine ⟨_, rfl, ?_⟩
           have n0_ := am (blk_below (o := .cells #[.int .i64 a0_0, .int .i64 a0_1, .slice A0_2 l0_2.length c0_2] 42 (0, 0)) (kz BK478) hb)
           have n1_ := am (blk_below (o := .cells #[.slice (some ad483) l1_0.length c1_0, .slice A1_1 l1_1.length c1_1] 25 (0, 0)) (kz BK479) hb)
           have n2_ := am (blk_below (o := .cells #[.int .i64 x481000_2, .int .i64 x481001_2, .int .i64 x481002_2] 44 (0, 0)) (kz BK480) hb)
           have n3_ := am (below_step bz hb)
           clear BK478
           clear BK479
           clear BK480
           clear HB
           have BK478 := n0_
           have BK479 := n1_
           have BK480 := n2_
           have HB := n3_
           clear n0_ n1_ n2_ n3_
           (try clear hb)
           (try clear hb2)
           (try clear hk)
           (try clear hi)
           refine hK.out _ _ ⟨(blk_cell BK478.out 0).trans rfl, (blk_cell BK478.out 1).trans rfl, (blk_cell BK478.out 2).trans rfl, (blk_cell BK479.out 0).trans rfl, (blk_cell BK479.out 1).trans rfl, (cb HB.out hw483_0), (cb HB.out hw483_1), (cb HB.out hw484_0), (cb HB.out hw484_1)⟩ (fun hHeld => ?_)
           clear hK K
           refine norm_ (a' := ?_) ?_ ?_
           rotate_left
           ·
            show Act.put _ (some 57) _ = _
            simp only [Act.put, aS, lZ, lS, i64_w, i32_w]
            rfl
           refine pa (i := 17) (N := some 40) (bm 24 262143) HT_ ?_
           refine pa (i := 18) (N := some 58) (bm 24 524287) HT_ ?_
           refine pa (i := 19) (N := some 59) (bm 24 1048575) HT_ ?_
           refine pa (i := 20) (N := some 60) (bm 24 2097151) HT_ ?_
           refine pa (i := 21) (N := some 11) (bm 24 4194303) HT_ ?_
           refine pa (i := 22) (N := some 12) (bm 24 8388607) HT_ ?_
           refine pa (i := 23) (N := some 13) (bm 24 16777215) HT_ ?_
           refine done_ (done_of HT_.out qz) ?_
           have hnb38 := NB480_478.out
           have hnc38 := NB478_480.out
           obtain ⟨hcz39_0, hcz39_1, hcz39_2, hfz39_0, hfz39_1, hfz39_2⟩ := kc3 BK480.out
           try go_wp2
           refine bodyPost_ret (results_ct rfl _ _ gb480 44 #[.int .i64 x10_2, .int .i64 0, .int .i64 t486] (0, 0) _ rfl (by (with_reducible repeat first | apply kN | apply kD | apply kA); refine blk_put (cs := #[.int .i64 x10_2, .int .i64 0, .int .i64 x481002_2]) ?_ 2 _ rfl; (with_reducible repeat first | apply kN | apply kD | apply kA); refine blk_put (cs := #[.int .i64 x10_2, .int .i64 x481001_2, .int .i64 x481002_2]) ?_ 1 _ rfl; (with_reducible repeat first | apply kN | apply kD | apply kA); refine blk_put (cs := #[.int .i64 x481000_2, .int .i64 x481001_2, .int .i64 x481002_2]) ?_ 0 _ rfl; (with_reducible repeat first | apply kN | apply kD | apply kA); exact BK480.out) Try.underlying44 rfl qz) rfl ?_
           exact ⟨by first | rfl | (simp [errW_none, errW_some] <;> rfl) | (simp only [← hji27]; first | rfl | (simp [errW_none, errW_some] <;> rfl)) | (simp [*, errW_none, errW_some] <;> rfl), bz⟩
          ·
           rw [if_neg c32] at H
           have c32b0 := decide_eq_false c32
           clear c32
           have H' := am H
           clear H
           have hnb40 := NB479_478.out
           have hnc40 := NB478_479.out
           have hnb41 := NB479_480.out
           have hnc41 := NB480_479.out
           obtain ⟨hcz42_0, hcz42_1, hfz42_0, hfz42_1⟩ := kc2 BK479.out
           try go_wp2
           have n0_ := am (blk_drew BK478.out)
           have n1_ := am (blk_drew BK479.out)
           have n2_ := am (blk_drew BK480.out)
           have n3_ := am (below_drew1 HB.out)
           clear BK478
           clear BK479
           clear BK480
           clear HB
           have BK478 := n0_
           have BK479 := n1_
           have BK480 := n2_
           have HB := n3_
           clear n0_ n1_ n2_ n3_
           have p483 : 0 ≤ (x10_2 : Int) := az
           have q483 : x10_2 < (l1_0.length : Int) := az
           obtain ⟨ad483, e483, hx483_0, hx483_1, _, _, _, _, _, _, _, _, _, _, _, _, _, _, _, _, _, _, _, _⟩ := at_T53 HR1_0.out x10_2 p483 q483
           have hw483_1 := hx483_1
           have hw483_0 := hx483_0
           cases e483
           replace hx483_0 := cb HB.out hx483_0
           replace hx483_1 := cb HB.out hx483_1
           replace p483 := eq_true p483
           replace q483 := eq_true q483
           have p484 : 0 ≤ ((ji27) : Int) := az
           have q484 : (ji27) < (l1_0.length : Int) := az
           obtain ⟨ad484, e484, hx484_0, hx484_1, _, _, _, _, _, _, _, _, _, _, _, _, _, _, _, _, _, _, _, _⟩ := at_T53 HR1_0.out (ji27) p484 q484
           have hw484_1 := hx484_1
           have hw484_0 := hx484_0
           obtain rfl : ad483 = ad484 := (by injection e484)
           replace hx484_0 := cb HB.out hx484_0
           replace hx484_1 := cb HB.out hx484_1
           replace p484 := eq_true p484
           replace q484 := eq_true q484
           refine start_ (n := 24) (S := fun w' => w'.cell? ⟨gb478, 0, none⟩ = some (.int .i64 a0_0) ∧ w'.cell? ⟨gb478, 1, none⟩ = some (.int .i64 a0_1) ∧ w'.cell? ⟨gb478, 2, none⟩ = some (.slice A0_2 l0_2.length c0_2) ∧ w'.cell? ⟨gb479, 0, none⟩ = some (.slice (some ad483) l1_0.length c1_0) ∧ w'.cell? ⟨gb479, 1, none⟩ = some (.slice A1_1 l1_1.length c1_1) ∧ w'.cell? (ad483.add ((x10_2).toNat * 22)) = some (.int .i64 ((rd_T53 l1_0 x10_2).f0.f0)) ∧ w'.cell? ⟨(ad483.add ((x10_2).toNat * 22)).block, (ad483.add ((x10_2).toNat * 22)).off + 1, none⟩ = some (.int .i64 ((rd_T53 l1_0 x10_2).f0.f1)) ∧ w'.cell? (ad483.add (((ji27)).toNat * 22)) = some (.int .i64 ((rd_T53 l1_0 (ji27)).f0.f0)) ∧ w'.cell? ⟨(ad483.add (((ji27)).toNat * 22)).block, (ad483.add (((ji27)).toNat * 22)).off + 1, none⟩ = some (.int .i64 ((rd_T53 l1_0 (ji27)).f0.f1))) (ds := []) (bm 24 0) qz rfl rfl ⟨(blk_cell BK478.out 0).trans rfl, (blk_cell BK478.out 1).trans rfl, (blk_cell BK478.out 2).trans rfl, (blk_cell BK479.out 0).trans rfl, (blk_cell BK479.out 1).trans rfl, (cb HB.out hw483_0), (cb HB.out hw483_1), (cb HB.out hw484_0), (cb HB.out hw484_1)⟩ (fun hHeld => ?_); refine with_tabW dancestudioref43_First.tab12 dancestudioref43_First.bits12 (fun HT_ HW_ => ?_)
           generalize wr.drew = w43 at BK478 BK479 BK480 HB hx483_0 hx483_1 hx484_0 hx484_1 hHeld ⊢
           refine pa (i := 1) (N := some 42) (bm 24 2) HT_ ?_
           refine pa (i := 3) (N := some 44) (bm 24 10) HT_ ?_
           refine pa (i := 7) (N := some 48) (bm 24 138) HT_ ?_
           refine pa (i := 9) (N := some 50) (bm 24 650) HT_ ?_
           refine pa (i := 10) (N := some 51) (bm 24 1674) HT_ ?_
           refine pa (i := 14) (N := some 55) (bm 24 18058) HT_ ?_
           refine take_ (i := 0) (N := some 41) (v := ?_) (a' := ?_) (bm 24 18059) rfl rfl (take_ofW HT_.out HW_.out qz) iz (Or.inl ⟨by rfl, ?_⟩) hHeld ?_ ?_
           rotate_left
           ·
            rintro w' ⟨s0, s1, s2, s3, s4, s5, s6, s7, s8⟩
            go_simp
            with_reducible rfl
           rotate_left
           ·
            simp only [Act.put, aS, lZ, lS, i64_w, i32_w]
            rfl
           refine take_ (i := 2) (N := some 43) (v := ?_) (a' := ?_) (bm 24 18063) rfl rfl (take_ofW HT_.out HW_.out qz) iz (Or.inl ⟨by rfl, ?_⟩) hHeld ?_ ?_
           rotate_left
           ·
            rintro w' ⟨s0, s1, s2, s3, s4, s5, s6, s7, s8⟩
            go_simp
            with_reducible rfl
           rotate_left
           ·
            simp only [Act.put, aS, lZ, lS, i64_w, i32_w]
            rfl
           refine pa (i := 4) (N := some 45) (bm 24 18079) HT_ ?_
           refine pa (i := 5) (N := some 46) (bm 24 18111) HT_ ?_
           refine take_ (i := 6) (N := some 47) (v := ?_) (a' := ?_) (bm 24 18175) rfl rfl (take_ofW HT_.out HW_.out qz) iz (Or.inl ⟨by rfl, ?_⟩) hHeld ?_ ?_
           rotate_left
           ·
            rintro w' ⟨s0, s1, s2, s3, s4, s5, s6, s7, s8⟩
            go_simp
            with_reducible rfl
           rotate_left
           ·
            simp only [Act.put, aS, lZ, lS, i64_w, i32_w]
            rfl
           refine take_ (i := 8) (N := some 49) (v := ?_) (a' := ?_) (bm 24 18431) rfl rfl (take_ofW HT_.out HW_.out qz) iz (Or.inl ⟨by rfl, ?_⟩) hHeld ?_ ?_
           rotate_left
           ·
            rintro w' ⟨s0, s1, s2, s3, s4, s5, s6, s7, s8⟩
            go_simp
            with_reducible rfl
           rotate_left
           ·
            simp only [Act.put, aS, lZ, lS, i64_w, i32_w]
            rfl
           refine pa (i := 11) (N := some 52) (bm 24 20479) HT_ ?_
           refine pa (i := 12) (N := some 53) (bm 24 24575) HT_ ?_
           refine take_ (i := 13) (N := some 54) (v := ?_) (a' := ?_) (bm 24 32767) rfl rfl (take_ofW HT_.out HW_.out qz) iz (Or.inl ⟨by rfl, ?_⟩) hHeld ?_ ?_
           rotate_left
           ·
            rintro w' ⟨s0, s1, s2, s3, s4, s5, s6, s7, s8⟩
            go_simp
            with_reducible rfl
           rotate_left
           ·
            simp only [Act.put, aS, lZ, lS, i64_w, i32_w]
            rfl
           refine pa (i := 15) (N := some 56) (bm 24 65535) HT_ ?_
           refine one_ (i := 16) (N := some 57) (bm 24 131071) rfl rfl (one_of HT_.out qz) (by decide) (fun K hK => ?_)
           refine goes_ Try.func33 qz rfl #[.agg #[.int .i64 a0_0, .int .i64 a0_1, .slice A0_2 l0_2.length c0_2], .agg #[.int .i64 ((rd_T53 l1_0 x10_2).f0.f0), .int .i64 ((rd_T53 l1_0 x10_2).f0.f1), .int .i64 ((rd_T53 l1_0 (ji27)).f0.f0), .int .i64 ((rd_T53 l1_0 (ji27)).f0.f1), .int .i64 a2]] (by rfl) rfl rfl (by (try simp only [List.map_toArray, List.map_cons, List.map_nil]); first | done | (simp only [hji27]; rfl) | rfl | (simp only [List.length_drop, List.length_take]; rfl)) ?_
           with_reducible refine (dancestudioref42_Clear.calls k2 a0_0 a0_1 _ _ l0_2 ((rd_T53 l1_0 x10_2).f0.f0) ((rd_T53 l1_0 x10_2).f0.f1) ((rd_T53 l1_0 (ji27)).f0.f0) ((rd_T53 l1_0 (ji27)).f0.f1) a2 true t486 t487 _ ?side1 ?side2 A30.out).mono ?_
           (case side1 => exact cz HR0_2)
           (case side2 => exact HC0_2.out)
           rintro e w44 ⟨rfl, hb⟩
           refine ⟨_, rfl, ?_⟩
           have n0_ := am (blk_below (o := .cells #[.int .i64 a0_0, .int .i64 a0_1, .slice A0_2 l0_2.length c0_2] 42 (0, 0)) (kz BK478) hb)
           have n1_ := am (blk_below (o := .cells #[.slice (some ad483) l1_0.length c1_0, .slice A1_1 l1_1.length c1_1] 25 (0, 0)) (kz BK479) hb)
           have n2_ := am (blk_below (o := .cells #[.int .i64 x481000_2, .int .i64 x481001_2, .int .i64 x481002_2] 44 (0, 0)) (kz BK480) hb)
           have n3_ := am (below_step bz hb)
           clear BK478
           clear BK479
           clear BK480
           clear HB
           have BK478 := n0_
           have BK479 := n1_
           have BK480 := n2_
           have HB := n3_
           clear n0_ n1_ n2_ n3_
           (try clear hb)
           (try clear hb2)
           (try clear hk)
           (try clear hi)
           refine hK.out _ _ ⟨(blk_cell BK478.out 0).trans rfl, (blk_cell BK478.out 1).trans rfl, (blk_cell BK478.out 2).trans rfl, (blk_cell BK479.out 0).trans rfl, (blk_cell BK479.out 1).trans rfl, (cb HB.out hw483_0), (cb HB.out hw483_1), (cb HB.out hw484_0), (cb HB.out hw484_1)⟩ (fun hHeld => ?_)
           clear hK K
           refine norm_ (a' := ?_) ?_ ?_
           rotate_left
           ·
            show Act.put _ (some 57) _ = _
            simp only [Act.put, aS, lZ, lS, i64_w, i32_w]
            rfl
           refine pa (i := 17) (N := some 40) (bm 24 262143) HT_ ?_
           refine pa (i := 18) (N := some 58) (bm 24 524287) HT_ ?_
           refine pa (i := 19) (N := some 59) (bm 24 1048575) HT_ ?_
           refine pa (i := 20) (N := some 60) (bm 24 2097151) HT_ ?_
           refine pa (i := 21) (N := some 11) (bm 24 4194303) HT_ ?_
           refine pa (i := 22) (N := some 12) (bm 24 8388607) HT_ ?_
           refine pa (i := 23) (N := some 13) (bm 24 16777215) HT_ ?_
           refine done_ (done_of HT_.out qz) ?_
           try go_wp2
           go_roundg k2
           case measure => have := HJ7.out; have := HK2.out; omega
           case rel => exact ⟨(ji27), (x481000_2), (x481001_2), (x481002_2), (by first | rfl | (simp; done) | (simp only [← hji27] <;> (first | rfl | simp)) | (simp [*]; done)), H', ⟨by have := HJ7.out; have := HK2.out; omega⟩, ⟨kz BK478⟩, ⟨kz BK479⟩, ⟨kz BK480⟩, ⟨bz⟩⟩
         ·
          replace c31 := Bool.eq_false_iff.mpr c31
          subst c31
          have H1 : (some (x10_2, 0, (-1), 0)) = some (r1, r2, r3, r4) := by rw [if_neg (show ¬ (false = true) by decide)] at H; exact H
          clear H
          have H := H1
          clear H1
          simp only [Option.some.injEq, Prod.mk.injEq] at H
          obtain ⟨rfl, rfl, rfl, rfl⟩ := H
          have hnb45 := NB479_478.out
          have hnc45 := NB478_479.out
          have hnb46 := NB479_480.out
          have hnc46 := NB480_479.out
          obtain ⟨hcz47_0, hcz47_1, hfz47_0, hfz47_1⟩ := kc2 BK479.out
          try go_wp2
          have n0_ := am (blk_drew BK478.out)
          have n1_ := am (blk_drew BK479.out)
          have n2_ := am (blk_drew BK480.out)
          have n3_ := am (below_drew1 HB.out)
          clear BK478
          clear BK479
          clear BK480
          clear HB
          have BK478 := n0_
          have BK479 := n1_
          have BK480 := n2_
          have HB := n3_
          clear n0_ n1_ n2_ n3_
          have p483 : 0 ≤ (x10_2 : Int) := az
          have q483 : x10_2 < (l1_0.length : Int) := az
          obtain ⟨ad483, e483, hx483_0, hx483_1, _, _, _, _, _, _, _, _, _, _, _, _, _, _, _, _, _, _, _, _⟩ := at_T53 HR1_0.out x10_2 p483 q483
          have hw483_1 := hx483_1
          have hw483_0 := hx483_0
          cases e483
          replace hx483_0 := cb HB.out hx483_0
          replace hx483_1 := cb HB.out hx483_1
          replace p483 := eq_true p483
          replace q483 := eq_true q483
          have p484 : 0 ≤ ((ji27) : Int) := az
          have q484 : (ji27) < (l1_0.length : Int) := az
          obtain ⟨ad484, e484, hx484_0, hx484_1, _, _, _, _, _, _, _, _, _, _, _, _, _, _, _, _, _, _, _, _⟩ := at_T53 HR1_0.out (ji27) p484 q484
          have hw484_1 := hx484_1
          have hw484_0 := hx484_0
          obtain rfl : ad483 = ad484 := (by injection e484)
          replace hx484_0 := cb HB.out hx484_0
          replace hx484_1 := cb HB.out hx484_1
          replace p484 := eq_true p484
          replace q484 := eq_true q484
          refine start_ (n := 24) (S := fun w' => w'.cell? ⟨gb478, 0, none⟩ = some (.int .i64 a0_0) ∧ w'.cell? ⟨gb478, 1, none⟩ = some (.int .i64 a0_1) ∧ w'.cell? ⟨gb478, 2, none⟩ = some (.slice A0_2 l0_2.length c0_2) ∧ w'.cell? ⟨gb479, 0, none⟩ = some (.slice (some ad483) l1_0.length c1_0) ∧ w'.cell? ⟨gb479, 1, none⟩ = some (.slice A1_1 l1_1.length c1_1) ∧ w'.cell? (ad483.add ((x10_2).toNat * 22)) = some (.int .i64 ((rd_T53 l1_0 x10_2).f0.f0)) ∧ w'.cell? ⟨(ad483.add ((x10_2).toNat * 22)).block, (ad483.add ((x10_2).toNat * 22)).off + 1, none⟩ = some (.int .i64 ((rd_T53 l1_0 x10_2).f0.f1)) ∧ w'.cell? (ad483.add (((ji27)).toNat * 22)) = some (.int .i64 ((rd_T53 l1_0 (ji27)).f0.f0)) ∧ w'.cell? ⟨(ad483.add (((ji27)).toNat * 22)).block, (ad483.add (((ji27)).toNat * 22)).off + 1, none⟩ = some (.int .i64 ((rd_T53 l1_0 (ji27)).f0.f1))) (ds := []) (bm 24 0) qz rfl rfl ⟨(blk_cell BK478.out 0).trans rfl, (blk_cell BK478.out 1).trans rfl, (blk_cell BK478.out 2).trans rfl, (blk_cell BK479.out 0).trans rfl, (blk_cell BK479.out 1).trans rfl, (cb HB.out hw483_0), (cb HB.out hw483_1), (cb HB.out hw484_0), (cb HB.out hw484_1)⟩ (fun hHeld => ?_); refine with_tabW dancestudioref43_First.tab12 dancestudioref43_First.bits12 (fun HT_ HW_ => ?_)
          generalize wr.drew = w48 at BK478 BK479 BK480 HB hx483_0 hx483_1 hx484_0 hx484_1 hHeld ⊢
          refine pa (i := 1) (N := some 42) (bm 24 2) HT_ ?_
          refine pa (i := 3) (N := some 44) (bm 24 10) HT_ ?_
          refine pa (i := 7) (N := some 48) (bm 24 138) HT_ ?_
          refine pa (i := 9) (N := some 50) (bm 24 650) HT_ ?_
          refine pa (i := 10) (N := some 51) (bm 24 1674) HT_ ?_
          refine pa (i := 14) (N := some 55) (bm 24 18058) HT_ ?_
          refine take_ (i := 0) (N := some 41) (v := ?_) (a' := ?_) (bm 24 18059) rfl rfl (take_ofW HT_.out HW_.out qz) iz (Or.inl ⟨by rfl, ?_⟩) hHeld ?_ ?_
          rotate_left
          ·
           rintro w' ⟨s0, s1, s2, s3, s4, s5, s6, s7, s8⟩
           go_simp
           with_reducible rfl
          rotate_left
          ·
           simp only [Act.put, aS, lZ, lS, i64_w, i32_w]
           rfl
          refine take_ (i := 2) (N := some 43) (v := ?_) (a' := ?_) (bm 24 18063) rfl rfl (take_ofW HT_.out HW_.out qz) iz (Or.inl ⟨by rfl, ?_⟩) hHeld ?_ ?_
          rotate_left
          ·
           rintro w' ⟨s0, s1, s2, s3, s4, s5, s6, s7, s8⟩
           go_simp
           with_reducible rfl
          rotate_left
          ·
           simp only [Act.put, aS, lZ, lS, i64_w, i32_w]
           rfl
          refine pa (i := 4) (N := some 45) (bm 24 18079) HT_ ?_
          refine pa (i := 5) (N := some 46) (bm 24 18111) HT_ ?_
          refine take_ (i := 6) (N := some 47) (v := ?_) (a' := ?_) (bm 24 18175) rfl rfl (take_ofW HT_.out HW_.out qz) iz (Or.inl ⟨by rfl, ?_⟩) hHeld ?_ ?_
          rotate_left
          ·
           rintro w' ⟨s0, s1, s2, s3, s4, s5, s6, s7, s8⟩
           go_simp
           with_reducible rfl
          rotate_left
          ·
           simp only [Act.put, aS, lZ, lS, i64_w, i32_w]
           rfl
          refine take_ (i := 8) (N := some 49) (v := ?_) (a' := ?_) (bm 24 18431) rfl rfl (take_ofW HT_.out HW_.out qz) iz (Or.inl ⟨by rfl, ?_⟩) hHeld ?_ ?_
          rotate_left
          ·
           rintro w' ⟨s0, s1, s2, s3, s4, s5, s6, s7, s8⟩
           go_simp
           with_reducible rfl
          rotate_left
          ·
           simp only [Act.put, aS, lZ, lS, i64_w, i32_w]
           rfl
          refine pa (i := 11) (N := some 52) (bm 24 20479) HT_ ?_
          refine pa (i := 12) (N := some 53) (bm 24 24575) HT_ ?_
          refine take_ (i := 13) (N := some 54) (v := ?_) (a' := ?_) (bm 24 32767) rfl rfl (take_ofW HT_.out HW_.out qz) iz (Or.inl ⟨by rfl, ?_⟩) hHeld ?_ ?_
          rotate_left
          ·
           rintro w' ⟨s0, s1, s2, s3, s4, s5, s6, s7, s8⟩
           go_simp
           with_reducible rfl
          rotate_left
          ·
           simp only [Act.put, aS, lZ, lS, i64_w, i32_w]
           rfl
          refine pa (i := 15) (N := some 56) (bm 24 65535) HT_ ?_
          refine one_ (i := 16) (N := some 57) (bm 24 131071) rfl rfl (one_of HT_.out qz) (by decide) (fun K hK => ?_)
          refine goes_ Try.func33 qz rfl #[.agg #[.int .i64 a0_0, .int .i64 a0_1, .slice A0_2 l0_2.length c0_2], .agg #[.int .i64 ((rd_T53 l1_0 x10_2).f0.f0), .int .i64 ((rd_T53 l1_0 x10_2).f0.f1), .int .i64 ((rd_T53 l1_0 (ji27)).f0.f0), .int .i64 ((rd_T53 l1_0 (ji27)).f0.f1), .int .i64 a2]] (by rfl) rfl rfl (by (try simp only [List.map_toArray, List.map_cons, List.map_nil]); first | done | (simp only [hji27]; rfl) | rfl | (simp only [List.length_drop, List.length_take]; rfl)) ?_
          with_reducible refine (dancestudioref42_Clear.calls k2 a0_0 a0_1 _ _ l0_2 ((rd_T53 l1_0 x10_2).f0.f0) ((rd_T53 l1_0 x10_2).f0.f1) ((rd_T53 l1_0 (ji27)).f0.f0) ((rd_T53 l1_0 (ji27)).f0.f1) a2 false t486 t487 _ ?side1 ?side2 A30.out).mono ?_
          (case side1 => exact cz HR0_2)
          (case side2 => exact HC0_2.out)
          rintro e w49 ⟨rfl, hb⟩
          refine ⟨_, rfl, ?_⟩
          have n0_ := am (blk_below (o := .cells #[.int .i64 a0_0, .int .i64 a0_1, .slice A0_2 l0_2.length c0_2] 42 (0, 0)) (kz BK478) hb)
          have n1_ := am (blk_below (o := .cells #[.slice (some ad483) l1_0.length c1_0, .slice A1_1 l1_1.length c1_1] 25 (0, 0)) (kz BK479) hb)
          have n2_ := am (blk_below (o := .cells #[.int .i64 x481000_2, .int .i64 x481001_2, .int .i64 x481002_2] 44 (0, 0)) (kz BK480) hb)
          have n3_ := am (below_step bz hb)
          clear BK478
          clear BK479
          clear BK480
          clear HB
          have BK478 := n0_
          have BK479 := n1_
          have BK480 := n2_
          have HB := n3_
          clear n0_ n1_ n2_ n3_
          (try clear hb)
          (try clear hb2)
          (try clear hk)
          (try clear hi)
          refine hK.out _ _ ⟨(blk_cell BK478.out 0).trans rfl, (blk_cell BK478.out 1).trans rfl, (blk_cell BK478.out 2).trans rfl, (blk_cell BK479.out 0).trans rfl, (blk_cell BK479.out 1).trans rfl, (cb HB.out hw483_0), (cb HB.out hw483_1), (cb HB.out hw484_0), (cb HB.out hw484_1)⟩ (fun hHeld => ?_)
          clear hK K
          refine norm_ (a' := ?_) ?_ ?_
          rotate_left
          ·
           show Act.put _ (some 57) _ = _
           simp only [Act.put, aS, lZ, lS, i64_w, i32_w]
           rfl
          refine pa (i := 17) (N := some 40) (bm 24 262143) HT_ ?_
          refine pa (i := 18) (N := some 58) (bm 24 524287) HT_ ?_
          refine pa (i := 19) (N := some 59) (bm 24 1048575) HT_ ?_
          refine pa (i := 20) (N := some 60) (bm 24 2097151) HT_ ?_
          refine pa (i := 21) (N := some 11) (bm 24 4194303) HT_ ?_
          refine pa (i := 22) (N := some 12) (bm 24 8388607) HT_ ?_
          refine pa (i := 23) (N := some 13) (bm 24 16777215) HT_ ?_
          refine done_ (done_of HT_.out qz) ?_
          have hnb50 := NB480_478.out
          have hnc50 := NB478_480.out
          obtain ⟨hcz51_0, hcz51_1, hcz51_2, hfz51_0, hfz51_1, hfz51_2⟩ := kc3 BK480.out
          try go_wp2
          refine bodyPost_ret (results_ct rfl _ _ gb480 44 #[.int .i64 x10_2, .int .i64 0, .int .i64 (-1)] (0, 0) _ rfl (by (with_reducible repeat first | apply kN | apply kD | apply kA); refine blk_put (cs := #[.int .i64 x10_2, .int .i64 0, .int .i64 x481002_2]) ?_ 2 _ rfl; (with_reducible repeat first | apply kN | apply kD | apply kA); refine blk_put (cs := #[.int .i64 x10_2, .int .i64 x481001_2, .int .i64 x481002_2]) ?_ 1 _ rfl; (with_reducible repeat first | apply kN | apply kD | apply kA); refine blk_put (cs := #[.int .i64 x481000_2, .int .i64 x481001_2, .int .i64 x481002_2]) ?_ 0 _ rfl; (with_reducible repeat first | apply kN | apply kD | apply kA); exact BK480.out) Try.underlying44 rfl qz) rfl ?_
          exact ⟨by first | rfl | (simp [errW_none, errW_some] <;> rfl) | (simp only [← hji27]; first | rfl | (simp [errW_none, errW_some] <;> rfl)) | (simp [*, errW_none, errW_some] <;> rfl), bz⟩
        ·
         rw [if_neg c24] at H
         have c24b0 := decide_eq_false c24
         clear c24
         simp only [Option.some.injEq, Prod.mk.injEq] at H
         obtain ⟨rfl, rfl, rfl, rfl⟩ := H
         have hnb52 := NB479_478.out
         have hnc52 := NB478_479.out
         have hnb53 := NB479_480.out
         have hnc53 := NB480_479.out
         obtain ⟨hcz54_0, hcz54_1, hfz54_0, hfz54_1⟩ := kc2 BK479.out
         have hnb55 := NB480_478.out
         have hnc55 := NB478_480.out
         obtain ⟨hcz56_0, hcz56_1, hcz56_2, hfz56_0, hfz56_1, hfz56_2⟩ := kc3 BK480.out
         go_wp2
         refine bodyPost_ret (results_ct rfl _ _ gb480 44 #[.int .i64 (-1), .int .i64 0, .int .i64 0] (0, 0) _ rfl (by (with_reducible repeat first | apply kN | apply kD | apply kA); refine blk_put (cs := #[.int .i64 (-1), .int .i64 0, .int .i64 x481002_2]) ?_ 2 _ rfl; (with_reducible repeat first | apply kN | apply kD | apply kA); refine blk_put (cs := #[.int .i64 (-1), .int .i64 x481001_2, .int .i64 x481002_2]) ?_ 1 _ rfl; (with_reducible repeat first | apply kN | apply kD | apply kA); refine blk_put (cs := #[.int .i64 x481000_2, .int .i64 x481001_2, .int .i64 x481002_2]) ?_ 0 _ rfl; (with_reducible repeat first | apply kN | apply kD | apply kA); exact BK480.out) Try.underlying44 rfl qz) rfl ?_
         exact ⟨ez, bz⟩
  ·
   rw [if_neg c7] at H
   have c7b0 : (t482 == 0) = false := beq_eq_false_iff_ne.mpr c7
   have c7b1 : (t482 != 0) = true := bne_iff_ne.mpr c7
   simp only [Option.some.injEq, Prod.mk.injEq] at H
   obtain ⟨rfl, rfl, rfl, rfl⟩ := H
   go_enter Try.func20, Try.ntmps20
   go_wp2_with (first | ((with_reducible refine gate_dst (N := 3) rfl ?_); refine box_event yz (N := 3) yz (cs := #[.int .i64 a0_0, .int .i64 a0_1, .slice A0_2 l0_2.length c0_2]) (t := 42) gz ?_; intro gb478 hg w57 hbox hb; have BK478 := am (hbox); have GW478 := gwz (g := gb478) HB hg; have GE478 := GW478; replace HB := am (below_step bz hb); clear hb hbox hg) | ((with_reducible refine gate_dst (N := 4) rfl ?_); refine box_event yz (N := 4) yz (cs := #[.slice A1_0 l1_0.length c1_0, .slice A1_1 l1_1.length c1_1]) (t := 25) gz ?_; intro gb479 hg w58 hbox hb; have BK479 := am (hbox); have GW479 := gwz (g := gb479) HB hg; have GE479 := GW479; replace HB := am (below_step bz hb); have NB478_479 := nlt (g' := gb479) BK478 hg; have NB479_478 := ngt (g' := gb479) BK478 hg; replace BK478 := am (blk_below (o := .cells #[.int .i64 a0_0, .int .i64 a0_1, .slice A0_2 l0_2.length c0_2] 42 (0, 0)) (kz BK478) hb); clear hb hbox hg) | ((with_reducible refine gate_dst (N := 6) rfl ?_); refine box_event yz (N := 6) yz (cs := #[.int .i64 0, .int .i64 0, .int .i64 0]) (t := 44) gz ?_; intro gb480 hg w59 hbox hb; have BK480 := am (hbox); have GW480 := gwz (g := gb480) HB hg; have GE480 := GW480; replace HB := am (below_step bz hb); have NB478_480 := nlt (g' := gb480) BK478 hg; have NB480_478 := ngt (g' := gb480) BK478 hg; replace BK478 := am (blk_below (o := .cells #[.int .i64 a0_0, .int .i64 a0_1, .slice A0_2 l0_2.length c0_2] 42 (0, 0)) (kz BK478) hb); have NB479_480 := nlt (g' := gb480) BK479 hg; have NB480_479 := ngt (g' := gb480) BK479 hg; replace BK479 := am (blk_below (o := .cells #[.slice A1_0 l1_0.length c1_0, .slice A1_1 l1_1.length c1_1] 25 (0, 0)) (kz BK479) hb); clear hb hbox hg; have hnb60 := NB478_479.out; have hnc60 := NB479_478.out; have hnb61 := NB478_480.out; have hnc61 := NB480_478.out; obtain ⟨hcz62_0, hcz62_1, hcz62_2, hfz62_0, hfz62_1, hfz62_2⟩ := kc3 BK478.out) | ((with_reducible refine gate_callee (f := 32) rfl ?_); refine goesL_ (some 15) rfl rfl Try.func32 qz rfl #[.agg #[.int .i64 a0_0, .int .i64 a0_1, .slice A0_2 l0_2.length c0_2]] rfl mz ?_; (with_reducible refine (dancestudioref42_Check.calls k a0_0 a0_1 _ _ l0_2 t481 _ ?side1 ?side2 A4.out).mono ?_); (case side1 => exact cz HR0_2); (case side2 => exact HC0_2.out); rintro e w63 ⟨rfl, hb⟩; refine ⟨_, rfl, ?_⟩; replace BK478 := am (blk_below (o := .cells #[.int .i64 a0_0, .int .i64 a0_1, .slice A0_2 l0_2.length c0_2] 42 (0, 0)) (kz BK478) hb); replace BK479 := am (blk_below (o := .cells #[.slice A1_0 l1_0.length c1_0, .slice A1_1 l1_1.length c1_1] 25 (0, 0)) (kz BK479) hb); replace BK480 := am (blk_below (o := .cells #[.int .i64 0, .int .i64 0, .int .i64 0] 44 (0, 0)) (kz BK480) hb); replace HB := am (below_step bz hb); (try clear hb); (try clear hb2); (try clear hk); (try clear hi); have hnb64 := NB479_480.out; have hnc64 := NB480_479.out; obtain ⟨hcz65_0, hcz65_1, hfz65_0, hfz65_1⟩ := kc2 BK479.out) | ((with_reducible refine gate_callee (f := 28) rfl ?_); refine goesL_ (some 21) rfl rfl Try.func28 qz rfl #[.agg #[.slice A1_0 l1_0.length c1_0, .slice A1_1 l1_1.length c1_1]] rfl mz ?_; (with_reducible refine (dancestudioref29_Check.calls k _ _ l1_0 _ _ l1_1 t482 _ ?side1 ?side2 ?side3 ?side4 A6.out).mono ?_); (case side1 => exact cz HR1_0); (case side2 => exact HC1_0.out); (case side3 => exact cz HR1_1); (case side4 => exact HC1_1.out); rintro e w66 ⟨rfl, hb⟩; refine ⟨_, rfl, ?_⟩; replace BK478 := am (blk_below (o := .cells #[.int .i64 a0_0, .int .i64 a0_1, .slice A0_2 l0_2.length c0_2] 42 (0, 0)) (kz BK478) hb); replace BK479 := am (blk_below (o := .cells #[.slice A1_0 l1_0.length c1_0, .slice A1_1 l1_1.length c1_1] 25 (0, 0)) (kz BK479) hb); replace BK480 := am (blk_below (o := .cells #[.int .i64 0, .int .i64 0, .int .i64 0] 44 (0, 0)) (kz BK480) hb); replace HB := am (below_step bz hb); (try clear hb); (try clear hb2); (try clear hk); (try clear hi); obtain ⟨hcz67_0, hcz67_1, hcz67_2, hfz67_0, hfz67_1, hfz67_2⟩ := kc3 BK480.out))
   refine bodyPost_ret (results_ct rfl _ _ gb480 44 #[.int .i64 0, .int .i64 0, .int .i64 0] (0, 0) _ rfl (by (with_reducible repeat first | apply kN | apply kD | apply kA); refine blk_put (cs := #[.int .i64 0, .int .i64 0, .int .i64 0]) ?_ 2 _ rfl; (with_reducible repeat first | apply kN | apply kD | apply kA); refine blk_put (cs := #[.int .i64 0, .int .i64 0, .int .i64 0]) ?_ 1 _ rfl; (with_reducible repeat first | apply kN | apply kD | apply kA); refine blk_put (cs := #[.int .i64 0, .int .i64 0, .int .i64 0]) ?_ 0 _ rfl; (with_reducible repeat first | apply kN | apply kD | apply kA); exact BK480.out) Try.underlying44 rfl qz) rfl ?_
   exact ⟨ez, bz⟩
 ·
  rw [if_neg c5] at H
  have c5b0 : (t481 == 0) = false := beq_eq_false_iff_ne.mpr c5
  have c5b1 : (t481 != 0) = true := bne_iff_ne.mpr c5
  simp only [Option.some.injEq, Prod.mk.injEq] at H
  obtain ⟨rfl, rfl, rfl, rfl⟩ := H
  go_enter Try.func20, Try.ntmps20
  go_wp2_with (first | ((with_reducible refine gate_dst (N := 3) rfl ?_); refine box_event yz (N := 3) yz (cs := #[.int .i64 a0_0, .int .i64 a0_1, .slice A0_2 l0_2.length c0_2]) (t := 42) gz ?_; intro gb478 hg w68 hbox hb; have BK478 := am (hbox); have GW478 := gwz (g := gb478) HB hg; have GE478 := GW478; replace HB := am (below_step bz hb); clear hb hbox hg) | ((with_reducible refine gate_dst (N := 4) rfl ?_); refine box_event yz (N := 4) yz (cs := #[.slice A1_0 l1_0.length c1_0, .slice A1_1 l1_1.length c1_1]) (t := 25) gz ?_; intro gb479 hg w69 hbox hb; have BK479 := am (hbox); have GW479 := gwz (g := gb479) HB hg; have GE479 := GW479; replace HB := am (below_step bz hb); have NB478_479 := nlt (g' := gb479) BK478 hg; have NB479_478 := ngt (g' := gb479) BK478 hg; replace BK478 := am (blk_below (o := .cells #[.int .i64 a0_0, .int .i64 a0_1, .slice A0_2 l0_2.length c0_2] 42 (0, 0)) (kz BK478) hb); clear hb hbox hg) | ((with_reducible refine gate_dst (N := 6) rfl ?_); refine box_event yz (N := 6) yz (cs := #[.int .i64 0, .int .i64 0, .int .i64 0]) (t := 44) gz ?_; intro gb480 hg w70 hbox hb; have BK480 := am (hbox); have GW480 := gwz (g := gb480) HB hg; have GE480 := GW480; replace HB := am (below_step bz hb); have NB478_480 := nlt (g' := gb480) BK478 hg; have NB480_478 := ngt (g' := gb480) BK478 hg; replace BK478 := am (blk_below (o := .cells #[.int .i64 a0_0, .int .i64 a0_1, .slice A0_2 l0_2.length c0_2] 42 (0, 0)) (kz BK478) hb); have NB479_480 := nlt (g' := gb480) BK479 hg; have NB480_479 := ngt (g' := gb480) BK479 hg; replace BK479 := am (blk_below (o := .cells #[.slice A1_0 l1_0.length c1_0, .slice A1_1 l1_1.length c1_1] 25 (0, 0)) (kz BK479) hb); clear hb hbox hg; have hnb71 := NB478_479.out; have hnc71 := NB479_478.out; have hnb72 := NB478_480.out; have hnc72 := NB480_478.out; obtain ⟨hcz73_0, hcz73_1, hcz73_2, hfz73_0, hfz73_1, hfz73_2⟩ := kc3 BK478.out) | ((with_reducible refine gate_callee (f := 32) rfl ?_); refine goesL_ (some 15) rfl rfl Try.func32 qz rfl #[.agg #[.int .i64 a0_0, .int .i64 a0_1, .slice A0_2 l0_2.length c0_2]] rfl mz ?_; (with_reducible refine (dancestudioref42_Check.calls k a0_0 a0_1 _ _ l0_2 t481 _ ?side1 ?side2 A4.out).mono ?_); (case side1 => exact cz HR0_2); (case side2 => exact HC0_2.out); rintro e w74 ⟨rfl, hb⟩; refine ⟨_, rfl, ?_⟩; replace BK478 := am (blk_below (o := .cells #[.int .i64 a0_0, .int .i64 a0_1, .slice A0_2 l0_2.length c0_2] 42 (0, 0)) (kz BK478) hb); replace BK479 := am (blk_below (o := .cells #[.slice A1_0 l1_0.length c1_0, .slice A1_1 l1_1.length c1_1] 25 (0, 0)) (kz BK479) hb); replace BK480 := am (blk_below (o := .cells #[.int .i64 0, .int .i64 0, .int .i64 0] 44 (0, 0)) (kz BK480) hb); replace HB := am (below_step bz hb); (try clear hb); (try clear hb2); (try clear hk); (try clear hi); have hnb75 := NB480_479.out; have hnc75 := NB479_480.out; obtain ⟨hcz76_0, hcz76_1, hcz76_2, hfz76_0, hfz76_1, hfz76_2⟩ := kc3 BK480.out))
  refine bodyPost_ret (results_ct rfl _ _ gb480 44 #[.int .i64 0, .int .i64 0, .int .i64 0] (0, 0) _ rfl (by (with_reducible repeat first | apply kN | apply kD | apply kA); refine blk_put (cs := #[.int .i64 0, .int .i64 0, .int .i64 0]) ?_ 2 _ rfl; (with_reducible repeat first | apply kN | apply kD | apply kA); refine blk_put (cs := #[.int .i64 0, .int .i64 0, .int .i64 0]) ?_ 1 _ rfl; (with_reducible repeat first | apply kN | apply kD | apply kA); refine blk_put (cs := #[.int .i64 0, .int .i64 0, .int .i64 0]) ?_ 0 _ rfl; (with_reducible repeat first | apply kN | apply kD | apply kA); exact BK480.out) Try.underlying44 rfl qz) rfl ?_
  exact ⟨ez, bz⟩

end Go.Proofs.Ytmdmajfgpmopbaa.X
