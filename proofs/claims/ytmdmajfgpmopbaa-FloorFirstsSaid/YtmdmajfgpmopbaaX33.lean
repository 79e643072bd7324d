import Derived.Test.YtmdmajfgpmopbaaX0
import Derived.Test.YtmdmajfgpmopbaaX10
import Derived.Test.YtmdmajfgpmopbaaX20
import Derived.Test.YtmdmajfgpmopbaaX32
namespace Go.Proofs.Ytmdmajfgpmopbaa.X
open Go.RowKit YtmdmajfgpmopbaaW.PrintWords YtmdmajfgpmopbaaW.PrintLast YtmdmajfgpmopbaaW.PrintMore
attribute [local go_sem] max2_int min2_int max_two min_two max_three min_three max_four min_four
set_option linter.unusedVariables false
set_option linter.unusedSimpArgs false

/-! ### floor_First: function 19 -/
mutual
def floor_First.j0 : Nat → Int → Bool → Int → Int → List (S64) → List (S53) → List Int → Option (Int × Int × Int × Int)
 | 0, _, _, _, _, _, _, _ => none
 | k + 1, x2, x31, x246000, x246001, x246002, x247000, x247001 => if x31 = true then (some (0, 0, 0, 1)) else (floor_First.l0 k x2 (x247001.length : Int) 0 x246000 x246001 x246002 x247000 x247001)
def floor_First.l0 : Nat → Int → Int → Int → Int → Int → List (S64) → List (S53) → List Int → Option (Int × Int × Int × Int)
 | 0, _, _, _, _, _, _, _, _ => none
 | k + 1, x2, x35, x36, x246000, x246001, x246002, x247000, x247001 => if x36 < x35 then (if 0 ≤ x36 then (if x36 < (x247000.length : Int) then (if 0 ≤ (wrap64 (x36 + 1)) then (if (wrap64 (x36 + 1)) < (x247000.length : Int) then ((stage_Clear.f k x246000 x246001 x246002 ((rd_T53 x247000 x36).f0.f0) ((rd_T53 x247000 x36).f0.f1) ((rd_T53 x247000 (wrap64 (x36 + 1))).f0.f0) ((rd_T53 x247000 (wrap64 (x36 + 1))).f0.f1) x2).bind fun bt252 => (if bt252.2.2 = 0 then (if bt252.1 = true then (if bt252.2.1 ≥ 0 then (some (x36, 0, bt252.2.1, 0)) else (floor_First.l0 k x2 x35 (wrap64 (x36 + 1)) x246000 x246001 x246002 x247000 x247001)) else (some (x36, 0, (-1), 0))) else (some (0, 0, 0, bt252.2.2)))) else (none)) else (none)) else (none)) else (none)) else (some ((-1), 0, 0, 0))
end
def floor_First.f (k : Nat) (a0_0 a0_1 : Int) (l0_2 : List (S64)) (l1_0 : List (S53)) (l1_1 : List Int) (a2 : Int) : Option (Int × Int × Int × Int) := (stage_Check.f k a0_0 a0_1 l0_2).bind fun t248 => (if t248 = 0 then ((movement_Check.f k l1_0 l1_1).bind fun t249 => (if t249 = 0 then (if a2 < 0 then (floor_First.j0 k a2 true a0_0 a0_1 l0_2 l1_0 l1_1) else (floor_First.j0 k a2 (decide (a2 > 32768)) a0_0 a0_1 l0_2 l1_0 l1_1)) else (some (0, 0, 0, t249)))) else (some (0, 0, 0, t248)))
theorem floor_First.mono_l : ∀ k, (∀ y0 y1 y2 y3 y4 y5 y6, LeO (floor_First.j0 k y0 y1 y2 y3 y4 y5 y6) (floor_First.j0 (k + 1) y0 y1 y2 y3 y4 y5 y6)) ∧ (∀ y0 y1 y2 y3 y4 y5 y6 y7, LeO (floor_First.l0 k y0 y1 y2 y3 y4 y5 y6 y7) (floor_First.l0 (k + 1) y0 y1 y2 y3 y4 y5 y6 y7))
 | 0 => ⟨fun _ _ _ _ _ _ _ r h => by simp [floor_First.j0] at h, fun _ _ _ _ _ _ _ _ r h => by simp [floor_First.l0] at h⟩
 | k + 1 => by
  obtain ⟨ih0, ih1⟩ := floor_First.mono_l k
  refine ⟨?_, ?_⟩
  ·
   intro y0 y1 y2 y3 y4 y5 y6
   unfold floor_First.j0
   repeat' first
   | (with_reducible exact ih0 _ _ _ _ _ _ _)
   | (with_reducible exact ih1 _ _ _ _ _ _ _ _)
   | (with_reducible exact movement_Check.mono _ _ _)
   | (with_reducible exact stage_Check.mono _ _ _ _)
   | (with_reducible exact stage_Clear.mono _ _ _ _ _ _ _ _ _)
   | (with_reducible exact LeO.refl _)
   | (with_reducible exact LeO.none _)
   | (with_reducible refine LeO.ite ?_ ?_)
   | (with_reducible refine LeO.bind ?_ (fun _ => ?_))
   | exact ih0 _ _ _ _ _ _ _
   | exact ih1 _ _ _ _ _ _ _ _
   | exact movement_Check.mono _ _ _
   | exact stage_Check.mono _ _ _ _
   | exact stage_Clear.mono _ _ _ _ _ _ _ _ _
   | exact LeO.none _
   | refine LeO.ite ?_ ?_
   | refine LeO.bind ?_ (fun _ => ?_)
  ·
   intro y0 y1 y2 y3 y4 y5 y6 y7
   unfold floor_First.l0
   repeat' first
   | (with_reducible exact ih0 _ _ _ _ _ _ _)
   | (with_reducible exact ih1 _ _ _ _ _ _ _ _)
   | (with_reducible exact movement_Check.mono _ _ _)
   | (with_reducible exact stage_Check.mono _ _ _ _)
   | (with_reducible exact stage_Clear.mono _ _ _ _ _ _ _ _ _)
   | (with_reducible exact LeO.refl _)
   | (with_reducible exact LeO.none _)
   | (with_reducible refine LeO.ite ?_ ?_)
   | (with_reducible refine LeO.bind ?_ (fun _ => ?_))
   | exact ih0 _ _ _ _ _ _ _
   | exact ih1 _ _ _ _ _ _ _ _
   | exact movement_Check.mono _ _ _
   | exact stage_Check.mono _ _ _ _
   | exact stage_Clear.mono _ _ _ _ _ _ _ _ _
   | exact LeO.none _
   | refine LeO.ite ?_ ?_
   | refine LeO.bind ?_ (fun _ => ?_)
theorem floor_First.mono : ∀ a0 a1 a2 a3 a4 a5 k, LeO (floor_First.f k a0 a1 a2 a3 a4 a5) (floor_First.f (k + 1) a0 a1 a2 a3 a4 a5) := by
 intro a0 a1 a2 a3 a4 a5 k
 obtain ⟨ih0, ih1⟩ := floor_First.mono_l k
 unfold floor_First.f
 repeat' first
   | (with_reducible exact ih0 _ _ _ _ _ _ _)
   | (with_reducible exact ih1 _ _ _ _ _ _ _ _)
   | (with_reducible exact movement_Check.mono _ _ _)
   | (with_reducible exact stage_Check.mono _ _ _ _)
   | (with_reducible exact stage_Clear.mono _ _ _ _ _ _ _ _ _)
   | (with_reducible exact LeO.refl _)
   | (with_reducible exact LeO.none _)
   | (with_reducible refine LeO.ite ?_ ?_)
   | (with_reducible refine LeO.bind ?_ (fun _ => ?_))
   | exact ih0 _ _ _ _ _ _ _
   | exact ih1 _ _ _ _ _ _ _ _
   | exact movement_Check.mono _ _ _
   | exact stage_Check.mono _ _ _ _
   | exact stage_Clear.mono _ _ _ _ _ _ _ _ _
   | exact LeO.none _
   | refine LeO.ite ?_ ?_
   | refine LeO.bind ?_ (fun _ => ?_)
def floor_First.T12 : Bool × List (List Nat × List Nat) := (true, [([], []), ([], []), ([1], [1]), ([], []), ([2, 3], [2, 3]), ([4], [4]), ([5], [5]), ([], []), ([7], [7]), ([], []), ([9], [9]), ([8, 10], [8, 10]), ([11], [11]), ([12], [12]), ([], []), ([6, 13, 14], [6, 13, 14]), ([0, 15], [0, 15]), ([16], [16]), ([17], [17]), ([17], [17]), ([17], [17]), ([18, 16, 0, 1, 2, 3, 4, 5, 6, 7, 8, 9, 10, 11, 12, 13, 14, 15, 16, 17, 18], [18]), ([19, 21, 0, 1, 2, 3, 4, 5, 6, 7, 8, 9, 10, 11, 12, 13, 14, 15, 16, 17, 18, 19, 21], [19]), ([20, 22, 0, 1, 2, 3, 4, 5, 6, 7, 8, 9, 10, 11, 12, 13, 14, 15, 16, 17, 18, 19, 20, 21, 22], [20])])
def floor_First.B12 : List Nat := [0, 0, 2, 0, 14, 30, 62, 0, 128, 0, 512, 1920, 3968, 8064, 0, 32766, 65535, 131071, 262143, 262143, 262143, 524287, 3145727, 8388607]
theorem floor_First.tab12 : rtab .any (opsOf Try.f19 12) = floor_First.T12 := by kernel_rfl
theorem floor_First.bits12 : waitsOk floor_First.T12.2 floor_First.B12 = true := by kernel_rfl
set_option maxHeartbeats 8000000 in
set_option maxRecDepth 100000 in
theorem floor_First.calls (k : Nat) (a0_0 a0_1 : Int) (A0_2 : Option Addr) (c0_2 : Nat) (l0_2 : List (S64)) (A1_0 : Option Addr) (c1_0 : Nat) (l1_0 : List (S53)) (A1_1 : Option Addr) (c1_1 : Nat) (l1_1 : List Int) (a2 r1 r2 r3 r4 : Int) (w : World) (hr0_2 : Kd.C k64 w A0_2 l0_2.length l0_2) (hc0_2 : l0_2.length ≤ c0_2) (hr1_0 : Kd.C k53 w A1_0 l1_0.length l1_0) (hc1_0 : l1_0.length ≤ c1_0) (hr1_1 : Kd.C (Kd.int .i64) w A1_1 l1_1.length l1_1) (hc1_1 : l1_1.length ≤ c1_1) (h : floor_First.f k a0_0 a0_1 l0_2 l1_0 l1_1 a2 = some (r1, r2, r3, r4)) :
  Calls Try.prog 19 #[.agg #[.int .i64 a0_0, .int .i64 a0_1, .slice A0_2 l0_2.length c0_2], .agg #[.slice A1_0 l1_0.length c1_0, .slice A1_1 l1_1.length c1_1], .int .i64 a2] w fun e w' => e = .returned (.tuple #[.agg #[.int .i64 r1, .int .i64 r2, .int .i64 r3], .int .i64 r4]) ∧ Below w.heap.size w w' := by
 have hu42 := Try.underlying42
 have hu25 := Try.underlying25
 have hu44 := Try.underlying44
 have hu35 := Try.underlying35
 have hu57 := Try.underlying57
 have HR0_2 := am hr0_2
 have HC0_2 := am hc0_2
 clear hr0_2 hc0_2
 have HR1_0 := am hr1_0
 have HC1_0 := am hc1_0
 clear hr1_0 hc1_0
 have HR1_1 := am hr1_1
 have HC1_1 := am hc1_1
 clear hr1_1 hc1_1
 have HB := am (Below.refl w.heap.size w)
 have H : ((stage_Check.f k a0_0 a0_1 l0_2).bind fun t248 => (if t248 = 0 then ((movement_Check.f k l1_0 l1_1).bind fun t249 => (if t249 = 0 then (if a2 < 0 then (floor_First.j0 k a2 true a0_0 a0_1 l0_2 l1_0 l1_1) else (floor_First.j0 k a2 (decide (a2 > 32768)) a0_0 a0_1 l0_2 l1_0 l1_1)) else (some (0, 0, 0, t249)))) else (some (0, 0, 0, t248)))) = some (r1, r2, r3, r4) := h
 clear h
 replace H := Option.bind_eq_some_iff.mp H
 obtain ⟨t248, A40, H⟩ := H
 replace H : (if t248 = 0 then ((movement_Check.f k l1_0 l1_1).bind fun t249 => (if t249 = 0 then (if a2 < 0 then (floor_First.j0 k a2 true a0_0 a0_1 l0_2 l1_0 l1_1) else (floor_First.j0 k a2 (decide (a2 > 32768)) a0_0 a0_1 l0_2 l1_0 l1_1)) else (some (0, 0, 0, t249)))) else (some (0, 0, 0, t248))) = some (r1, r2, r3, r4) := H
 have A4 := am A40
 clear A40
 by_cases c5 : t248 = 0
 ·
  rw [if_pos c5] at H
  have c5b0 : (t248 == 0) = true := beq_iff_eq.mpr c5
  have c5b1 : (t248 != 0) = false := bne_eq_false_iff_eq.mpr c5
  clear c5
  replace H := Option.bind_eq_some_iff.mp H
  obtain ⟨t249, A60, H⟩ := H
  replace H : (if t249 = 0 then (if a2 < 0 then (floor_First.j0 k a2 true a0_0 a0_1 l0_2 l1_0 l1_1) else (floor_First.j0 k a2 (decide (a2 > 32768)) a0_0 a0_1 l0_2 l1_0 l1_1)) else (some (0, 0, 0, t249))) = some (r1, r2, r3, r4) := H
  have A6 := am A60
  clear A60
  by_cases c7 : t249 = 0
  ·
   rw [if_pos c7] at H
   have c7b0 : (t249 == 0) = true := beq_iff_eq.mpr c7
   have c7b1 : (t249 != 0) = false := bne_eq_false_iff_eq.mpr c7
   clear c7
   have HC8 := am H
   clear H
   go_enter Try.func19, Try.ntmps19
   go_upto_region 7 with (first | ((with_reducible refine gate_dst (N := 3) rfl ?_); refine box_event yz (N := 3) yz (cs := #[.int .i64 a0_0, .int .i64 a0_1, .slice A0_2 l0_2.length c0_2]) (t := 42) gz ?_; intro gb245 hg w9 hbox hb; have BK245 := am (hbox); have GW245 := gwz (g := gb245) HB hg; have GE245 := GW245; replace HB := am (below_step bz hb); clear hb hbox hg) | ((with_reducible refine gate_dst (N := 4) rfl ?_); refine box_event yz (N := 4) yz (cs := #[.slice A1_0 l1_0.length c1_0, .slice A1_1 l1_1.length c1_1]) (t := 25) gz ?_; intro gb246 hg w10 hbox hb; have BK246 := am (hbox); have GW246 := gwz (g := gb246) HB hg; have GE246 := GW246; replace HB := am (below_step bz hb); have NB245_246 := nlt (g' := gb246) BK245 hg; have NB246_245 := ngt (g' := gb246) BK245 hg; replace BK245 := am (blk_below (o := .cells #[.int .i64 a0_0, .int .i64 a0_1, .slice A0_2 l0_2.length c0_2] 42 (0, 0)) (kz BK245) hb); clear hb hbox hg) | ((with_reducible refine gate_dst (N := 6) rfl ?_); refine box_event yz (N := 6) yz (cs := #[.int .i64 0, .int .i64 0, .int .i64 0]) (t := 44) gz ?_; intro gb247 hg w11 hbox hb; have BK247 := am (hbox); have GW247 := gwz (g := gb247) HB hg; have GE247 := GW247; replace HB := am (below_step bz hb); have NB245_247 := nlt (g' := gb247) BK245 hg; have NB247_245 := ngt (g' := gb247) BK245 hg; replace BK245 := am (blk_below (o := .cells #[.int .i64 a0_0, .int .i64 a0_1, .slice A0_2 l0_2.length c0_2] 42 (0, 0)) (kz BK245) hb); have NB246_247 := nlt (g' := gb247) BK246 hg; have NB247_246 := ngt (g' := gb247) BK246 hg; replace BK246 := am (blk_below (o := .cells #[.slice A1_0 l1_0.length c1_0, .slice A1_1 l1_1.length c1_1] 25 (0, 0)) (kz BK246) hb); clear hb hbox hg; have hnb12 := NB245_246.out; have hnc12 := NB246_245.out; have hnb13 := NB245_247.out; have hnc13 := NB247_245.out; obtain ⟨hcz14_0, hcz14_1, hcz14_2, hfz14_0, hfz14_1, hfz14_2⟩ := kc3 BK245.out) | ((with_reducible refine gate_callee (f := 31) rfl ?_); refine goesL_ (some 15) rfl rfl Try.func31 qz rfl #[.agg #[.int .i64 a0_0, .int .i64 a0_1, .slice A0_2 l0_2.length c0_2]] rfl mz ?_; (with_reducible refine (stage_Check.calls k a0_0 a0_1 _ _ l0_2 t248 _ ?side1 ?side2 A4.out).mono ?_); (case side1 => exact cz HR0_2); (case side2 => exact HC0_2.out); rintro e w15 ⟨rfl, hb⟩; refine ⟨_, rfl, ?_⟩; replace BK245 := am (blk_below (o := .cells #[.int .i64 a0_0, .int .i64 a0_1, .slice A0_2 l0_2.length c0_2] 42 (0, 0)) (kz BK245) hb); replace BK246 := am (blk_below (o := .cells #[.slice A1_0 l1_0.length c1_0, .slice A1_1 l1_1.length c1_1] 25 (0, 0)) (kz BK246) hb); replace BK247 := am (blk_below (o := .cells #[.int .i64 0, .int .i64 0, .int .i64 0] 44 (0, 0)) (kz BK247) hb); replace HB := am (below_step bz hb); (try clear hb); (try clear hb2); (try clear hk); (try clear hi); have hnb16 := NB246_247.out; have hnc16 := NB247_246.out; obtain ⟨hcz17_0, hcz17_1, hfz17_0, hfz17_1⟩ := kc2 BK246.out) | ((with_reducible refine gate_callee (f := 21) rfl ?_); refine goesL_ (some 21) rfl rfl Try.func21 qz rfl #[.agg #[.slice A1_0 l1_0.length c1_0, .slice A1_1 l1_1.length c1_1]] rfl mz ?_; (with_reducible refine (movement_Check.calls k _ _ l1_0 _ _ l1_1 t249 _ ?side1 ?side2 ?side3 ?side4 A6.out).mono ?_); (case side1 => exact cz HR1_0); (case side2 => exact HC1_0.out); (case side3 => exact cz HR1_1); (case side4 => exact HC1_1.out); rintro e w18 ⟨rfl, hb⟩; refine ⟨_, rfl, ?_⟩; replace BK245 := am (blk_below (o := .cells #[.int .i64 a0_0, .int .i64 a0_1, .slice A0_2 l0_2.length c0_2] 42 (0, 0)) (kz BK245) hb); replace BK246 := am (blk_below (o := .cells #[.slice A1_0 l1_0.length c1_0, .slice A1_1 l1_1.length c1_1] 25 (0, 0)) (kz BK246) hb); replace BK247 := am (blk_below (o := .cells #[.int .i64 0, .int .i64 0, .int .i64 0] 44 (0, 0)) (kz BK247) hb); replace HB := am (below_step bz hb); (try clear hb); (try clear hb2); (try clear hk); (try clear hi)))
   (try simp only [Act.put, List.setIfInBounds_toArray, List.set_cons_zero, List.set_cons_succ])
   go_cut [31] (fun v31 wc => ∃ (kq : Nat) (x31_7 : Bool), v31 = .bool x31_7 ∧ Aside0 (floor_First.j0 kq a2 x31_7 a0_0 a0_1 l0_2 l1_0 l1_1 = some (r1, r2, r3, r4)) ∧ Aside0 (kq ≤ k) ∧ Aside0 (wc.heap[gb245]? = some (.cells #[.int .i64 a0_0, .int .i64 a0_1, (.slice A0_2 l0_2.length c0_2)] 42 (0, 0))) ∧ Aside0 (wc.heap[gb246]? = some (.cells #[(.slice A1_0 l1_0.length c1_0), (.slice A1_1 l1_1.length c1_1)] 25 (0, 0))) ∧ Aside0 (wc.heap[gb247]? = some (.cells #[.int .i64 0, .int .i64 0, .int .i64 0] 44 (0, 0))) ∧ Aside0 (Below w.heap.size w wc))
   case first =>
    have H := HC8.out
    clear HC8
    by_cases c19 : a2 < 0
    ·
     rw [if_pos c19] at H
     have c19b0 := decide_eq_true c19
     clear c19
     (first | rw [c19b0] | (simp only [i64_w, i32_w]; rw [c19b0]) | skip)
     have H' := am H
     clear H
     go_wp2
     go_meet
     case rel => exact ⟨_, (true), sz, H', ⟨by first | omega | exact Nat.le_refl _⟩, ⟨kz BK245⟩, ⟨kz BK246⟩, ⟨kz BK247⟩, ⟨bz⟩⟩
    ·
     rw [if_neg c19] at H
     have c19b0 := decide_eq_false c19
     clear c19
     (first | rw [c19b0] | (simp only [i64_w, i32_w]; rw [c19b0]) | skip)
     have H' := am H
     clear H
     go_wp2
     go_meet
     case rel => exact ⟨_, (decide (a2 > 32768)), sz, H', ⟨by first | omega | exact Nat.le_refl _⟩, ⟨kz BK245⟩, ⟨kz BK246⟩, ⟨kz BK247⟩, ⟨bz⟩⟩
   case rest =>
    clear HC8
    try clear c1
    try clear c2
    try clear p2
    try clear c3
    try clear c5
    try clear c5b0
    try clear c5b1
    try clear c7
    try clear c7b0
    try clear c7b1
    try clear c12
    try clear c13
    try clear c16
    try clear c19
    try clear c19b0
    try clear hcz14_0
    try clear hcz14_1
    try clear hcz14_2
    try clear hcz17_0
    try clear hcz17_1
    try clear hfz14_0
    try clear hfz14_1
    try clear hfz14_2
    try clear hfz17_0
    try clear hfz17_1
    obtain ⟨kq, x31_7, rfl, HA, HJ7, BK245, BK246, BK247, HB⟩ := hcut
    cases kq with
    | zero => exact absurd HA.out (by simp [floor_First.j0])
    | succ kj7 =>
     have H := HA.out
     clear HA
     simp only [floor_First.j0] at H
     by_cases c20 : x31_7 = true
     ·
      subst c20
      have H1 : (some (0, 0, 0, 1)) = some (r1, r2, r3, r4) := by rw [if_pos rfl] at H; exact H
      clear H
      have H := H1
      clear H1
      simp only [Option.some.injEq, Prod.mk.injEq] at H
      obtain ⟨rfl, rfl, rfl, rfl⟩ := H
      have hnb21 := NB247_245.out
      have hnc21 := NB245_247.out
      have hnb22 := NB247_246.out
      have hnc22 := NB246_247.out
      obtain ⟨hcz23_0, hcz23_1, hcz23_2, hfz23_0, hfz23_1, hfz23_2⟩ := kc3 BK247.out
      go_wp2
      refine bodyPost_ret (results_ct rfl _ _ gb247 44 #[.int .i64 0, .int .i64 0, .int .i64 0] (0, 0) _ rfl (by (with_reducible repeat first | apply kN | apply kD | apply kA); refine blk_put (cs := #[.int .i64 0, .int .i64 0, .int .i64 0]) ?_ 2 _ rfl; (with_reducible repeat first | apply kN | apply kD | apply kA); refine blk_put (cs := #[.int .i64 0, .int .i64 0, .int .i64 0]) ?_ 1 _ rfl; (with_reducible repeat first | apply kN | apply kD | apply kA); refine blk_put (cs := #[.int .i64 0, .int .i64 0, .int .i64 0]) ?_ 0 _ rfl; (with_reducible repeat first | apply kN | apply kD | apply kA); exact BK247.out) Try.underlying44 rfl qz) rfl ?_
      exact ⟨ez, bz⟩
     ·
      replace c20 := Bool.eq_false_iff.mpr c20
      subst c20
      have H1 : (floor_First.l0 kj7 a2 (l1_1.length : Int) 0 a0_0 a0_1 l0_2 l1_0 l1_1) = some (r1, r2, r3, r4) := by rw [if_neg (show ¬ (false = true) by decide)] at H; exact H
      clear H
      have H := H1
      clear H1
      have H' := am H
      clear H
      have hnb24 := NB246_245.out
      have hnc24 := NB245_246.out
      have hnb25 := NB246_247.out
      have hnc25 := NB247_246.out
      obtain ⟨hcz26_0, hcz26_1, hfz26_0, hfz26_1⟩ := kc2 BK246.out
      go_wp2
      go_loopg [36] kj7 (fun kq v36 w' => ∃ (x36_2 x248000_2 x248001_2 x248002_2 : Int), v36 = .int .i64 x36_2 ∧ Aside0 (floor_First.l0 kq a2 (l1_1.length : Int) x36_2 a0_0 a0_1 l0_2 l1_0 l1_1 = some (r1, r2, r3, r4)) ∧ Aside0 (kq ≤ kj7) ∧ Aside0 (w'.heap[gb245]? = some (.cells #[.int .i64 a0_0, .int .i64 a0_1, (.slice A0_2 l0_2.length c0_2)] 42 (0, 0))) ∧ Aside0 (w'.heap[gb246]? = some (.cells #[(.slice A1_0 l1_0.length c1_0), (.slice A1_1 l1_1.length c1_1)] 25 (0, 0))) ∧ Aside0 (w'.heap[gb247]? = some (.cells #[.int .i64 x248000_2, .int .i64 x248001_2, .int .i64 x248002_2] 44 (0, 0))) ∧ Aside0 (Below w.heap.size w w'))
      case atStart => exact ⟨(0), (0), (0), (0), sz, H', ⟨Nat.le_refl _⟩, ⟨kz BK245⟩, ⟨kz BK246⟩, ⟨kz BK247⟩, ⟨bz⟩⟩
      case round =>
       clear H'
       try clear c1
       try clear c2
       try clear p2
       try clear c3
       try clear c5
       try clear c5b0
       try clear c5b1
       try clear c7
       try clear c7b0
       try clear c7b1
       try clear c12
       try clear c13
       try clear c16
       try clear c19
       try clear c19b0
       try clear c20
       try clear c21
       try clear c22
       try clear c24
       try clear c25
       try clear hcz14_0
       try clear hcz14_1
       try clear hcz14_2
       try clear hcz17_0
       try clear hcz17_1
       try clear hcz23_0
       try clear hcz23_1
       try clear hcz23_2
       try clear hcz26_0
       try clear hcz26_1
       try clear hfz14_0
       try clear hfz14_1
       try clear hfz14_2
       try clear hfz17_0
       try clear hfz17_1
       try clear hfz23_0
       try clear hfz23_1
       try clear hfz23_2
       try clear hfz26_0
       try clear hfz26_1
       try clear p2
       obtain ⟨x36_2, x248000_2, x248001_2, x248002_2, rfl, HA, HK2, BK245, BK246, BK247, HB⟩ := hrel
       cases gk with
       | zero => exact absurd HA.out (by simp [floor_First.l0])
       | succ k2 =>
        have H := HA.out
        clear HA
        simp only [floor_First.l0] at H
        by_cases c27 : x36_2 < (l1_1.length : Int)
        ·
         rw [if_pos c27] at H
         have c27b0 := decide_eq_true c27
         clear c27
         by_cases c28 : 0 ≤ x36_2; rotate_left
         · rw [if_neg c28] at H; exact absurd H (by simp)
         rw [if_pos c28] at H
         have c28b0 := decide_eq_true c28
         clear c28
         by_cases c29 : x36_2 < (l1_0.length : Int); rotate_left
         · rw [if_neg c29] at H; exact absurd H (by simp)
         rw [if_pos c29] at H
         have c29b0 := decide_eq_true c29
         clear c29
         obtain ⟨ji30, hji30⟩ : ∃ j_ : Int, (wrap64 (x36_2 + 1)) = j_ := ⟨_, rfl⟩
         replace H : (if 0 ≤ (ji30) then (if (ji30) < (l1_0.length : Int) then ((stage_Clear.f k2 a0_0 a0_1 l0_2 ((rd_T53 l1_0 x36_2).f0.f0) ((rd_T53 l1_0 x36_2).f0.f1) ((rd_T53 l1_0 (ji30)).f0.f0) ((rd_T53 l1_0 (ji30)).f0.f1) a2).bind fun bt252 => (if bt252.2.2 = 0 then (if bt252.1 = true then (if bt252.2.1 ≥ 0 then (some (x36_2, 0, bt252.2.1, 0)) else (floor_First.l0 k2 a2 (l1_1.length : Int) ji30 a0_0 a0_1 l0_2 l1_0 l1_1)) else (some (x36_2, 0, (-1), 0))) else (some (0, 0, 0, bt252.2.2)))) else (none)) else (none)) = some (r1, r2, r3, r4) := by first | (rw [hji30] at H; exact H) | (simp only [hji30] at H ⊢; exact H)
         have hji30w : (IntKind.i64.wrap (x36_2 + 1)) = ji30 := (i64_w _).trans hji30
         by_cases c31 : 0 ≤ (ji30); rotate_left
         · rw [if_neg c31] at H; exact absurd H (by simp)
         rw [if_pos c31] at H
         have c31b0 := decide_eq_true c31
         clear c31
         by_cases c32 : (ji30) < (l1_0.length : Int); rotate_left
         · rw [if_neg c32] at H; exact absurd H (by simp)
         rw [if_pos c32] at H
         have c32b0 := decide_eq_true c32
         clear c32
         replace H := Option.bind_eq_some_iff.mp H
         obtain ⟨⟨t252, t253, t254⟩, A330, H⟩ := H
         replace H : (if t254 = 0 then (if t252 = true then (if t253 ≥ 0 then (some (x36_2, 0, t253, 0)) else (floor_First.l0 k2 a2 (l1_1.length : Int) ji30 a0_0 a0_1 l0_2 l1_0 l1_1)) else (some (x36_2, 0, (-1), 0))) else (some (0, 0, 0, t254))) = some (r1, r2, r3, r4) := H
         have A33 := am A330
         clear A330
         by_cases c34 : t254 = 0
         ·
          rw [if_pos c34] at H
          have c34b0 : (t254 == 0) = true := beq_iff_eq.mpr c34
          have c34b1 : (t254 != 0) = false := bne_eq_false_iff_eq.mpr c34
          clear c34
          by_cases c35 : t252 = true
          ·
           subst c35
           have H1 : (if t253 ≥ 0 then (some (x36_2, 0, t253, 0)) else (floor_First.l0 k2 a2 (l1_1.length : Int) ji30 a0_0 a0_1 l0_2 l1_0 l1_1)) = some (r1, r2, r3, r4) := by rw [if_pos rfl] at H; exact H
           clear H
           have H := H1
           clear H1
           by_cases c36 : t253 ≥ 0
           ·
            rw [if_pos c36] at H
            have c36b0 := decide_eq_true c36
            clear c36
            simp only [Option.some.injEq, Prod.mk.injEq] at H
            obtain ⟨rfl, rfl, rfl, rfl⟩ := H
            try go_wp2
            have n0_ := am (blk_drew BK245.out)
            have n1_ := am (blk_drew BK246.out)
            have n2_ := am (blk_drew BK247.out)
            have n3_ := am (below_drew1 HB.out)
            clear BK245
            clear BK246
            clear BK247
            clear HB
            have BK245 := n0_
            have BK246 := n1_
            have BK247 := n2_
            have HB := n3_
            clear n0_ n1_ n2_ n3_
            have p250 : 0 ≤ (x36_2 : Int) := az
            have q250 : x36_2 < (l1_0.length : Int) := az
            obtain ⟨ad250, e250, hx250_0, hx250_1, _, _, _, _, _, _, _, _, _, _, _, _, _, _, _, _, _, _, _, _⟩ := at_T53 HR1_0.out x36_2 p250 q250
            have hw250_1 := hx250_1
            have hw250_0 := hx250_0
            cases e250
            replace hx250_0 := cb HB.out hx250_0
            replace hx250_1 := cb HB.out hx250_1
            replace p250 := eq_true p250
            replace q250 := eq_true q250
            have p251 : 0 ≤ ((ji30) : Int) := az
            have q251 : (ji30) < (l1_0.length : Int) := az
            obtain ⟨ad251, e251, hx251_0, hx251_1, _, _, _, _, _, _, _, _, _, _, _, _, _, _, _, _, _, _, _, _⟩ := at_T53 HR1_0.out (ji30) p251 q251
            have hw251_1 := hx251_1
            have hw251_0 := hx251_0
            obtain rfl : ad250 = ad251 := (by injection e251)
            replace hx251_0 := cb HB.out hx251_0
            replace hx251_1 := cb HB.out hx251_1
            replace p251 := eq_true p251
            replace q251 := eq_true q251
            refine start_ (n := 24) (S := fun w' => w'.cell? ⟨gb245, 0, none⟩ = some (.int .i64 a0_0) ∧ w'.cell? ⟨gb245, 1, none⟩ = some (.int .i64 a0_1) ∧ w'.cell? ⟨gb245, 2, none⟩ = some (.slice A0_2 l0_2.length c0_2) ∧ w'.cell? ⟨gb246, 0, none⟩ = some (.slice (some ad250) l1_0.length c1_0) ∧ w'.cell? ⟨gb246, 1, none⟩ = some (.slice A1_1 l1_1.length c1_1) ∧ w'.cell? (ad250.add ((x36_2).toNat * 22)) = some (.int .i64 ((rd_T53 l1_0 x36_2).f0.f0)) ∧ w'.cell? ⟨(ad250.add ((x36_2).toNat * 22)).block, (ad250.add ((x36_2).toNat * 22)).off + 1, none⟩ = some (.int .i64 ((rd_T53 l1_0 x36_2).f0.f1)) ∧ w'.cell? (ad250.add (((ji30)).toNat * 22)) = some (.int .i64 ((rd_T53 l1_0 (ji30)).f0.f0)) ∧ w'.cell? ⟨(ad250.add (((ji30)).toNat * 22)).block, (ad250.add (((ji30)).toNat * 22)).off + 1, none⟩ = some (.int .i64 ((rd_T53 l1_0 (ji30)).f0.f1))) (ds := []) (bm 24 0) qz rfl rfl ⟨(blk_cell BK245.out 0).trans rfl, (blk_cell BK245.out 1).trans rfl, (blk_cell BK245.out 2).trans rfl, (blk_cell BK246.out 0).trans rfl, (blk_cell BK246.out 1).trans rfl, (cb HB.out hw250_0), (cb HB.out hw250_1), (cb HB.out hw251_0), (cb HB.out hw251_1)⟩ (fun hHeld => ?_); refine with_tabW floor_First.tab12 floor_First.bits12 (fun HT_ HW_ => ?_)
            generalize wr.drew = w37 at BK245 BK246 BK247 HB hx250_0 hx250_1 hx251_0 hx251_1 hHeld ⊢
            refine pa (i := 1) (N := some 41) (bm 24 2) HT_ ?_
            refine pa (i := 3) (N := some 43) (bm 24 10) HT_ ?_
            refine pa (i := 7) (N := some 47) (bm 24 138) HT_ ?_
            refine pa (i := 9) (N := some 49) (bm 24 650) HT_ ?_
            refine pa (i := 10) (N := some 50) (bm 24 1674) HT_ ?_
            refine pa (i := 14) (N := some 54) (bm 24 18058) HT_ ?_
            refine take_ (i := 0) (N := some 40) (v := ?_) (a' := ?_) (bm 24 18059) rfl rfl (take_ofW HT_.out HW_.out qz) iz (Or.inl ⟨by rfl, ?_⟩) hHeld ?_ ?_
            rotate_left
            ·
             rintro w' ⟨s0, s1, s2, s3, s4, s5, s6, s7, s8⟩
             go_simp
             with_reducible rfl
            rotate_left
            ·
             simp only [Act.put, aS, lZ, lS, i64_w, i32_w]
             rfl
            refine take_ (i := 2) (N := some 42) (v := ?_) (a' := ?_) (bm 24 18063) rfl rfl (take_ofW HT_.out HW_.out qz) iz (Or.inl ⟨by rfl, ?_⟩) hHeld ?_ ?_
            rotate_left
            ·
             rintro w' ⟨s0, s1, s2, s3, s4, s5, s6, s7, s8⟩
             go_simp
             with_reducible rfl
            rotate_left
            ·
             simp only [Act.put, aS, lZ, lS, i64_w, i32_w]
             rfl
            refine pa (i := 4) (N := some 44) (bm 24 18079) HT_ ?_
            refine pa (i := 5) (N := some 45) (bm 24 18111) HT_ ?_
            refine take_ (i := 6) (N := some 46) (v := ?_) (a' := ?_) (bm 24 18175) rfl rfl (take_ofW HT_.out HW_.out qz) iz (Or.inl ⟨by rfl, ?_⟩) hHeld ?_ ?_
            rotate_left
            ·
             rintro w' ⟨s0, s1, s2, s3, s4, s5, s6, s7, s8⟩
             go_simp
             with_reducible rfl
            rotate_left
            ·
             simp only [Act.put, aS, lZ, lS, i64_w, i32_w]
             rfl
            refine take_ (i := 8) (N := some 48) (v := ?_) (a' := ?_) (bm 24 18431) rfl rfl (take_ofW HT_.out HW_.out qz) iz (Or.inl ⟨by rfl, ?_⟩) hHeld ?_ ?_
            rotate_left
            ·
             rintro w' ⟨s0, s1, s2, s3, s4, s5, s6, s7, s8⟩
             go_simp
             with_reducible rfl
            rotate_left
            ·
             simp only [Act.put, aS, lZ, lS, i64_w, i32_w]
             rfl
            refine pa (i := 11) (N := some 51) (bm 24 20479) HT_ ?_
            refine pa (i := 12) (N := some 52) (bm 24 24575) HT_ ?_
            refine take_ (i := 13) (N := some 53) (v := ?_) (a' := ?_) (bm 24 32767) rfl rfl (take_ofW HT_.out HW_.out qz) iz (Or.inl ⟨by rfl, ?_⟩) hHeld ?_ ?_
            rotate_left
            ·
             rintro w' ⟨s0, s1, s2, s3, s4, s5, s6, s7, s8⟩
             go_simp
             with_reducible rfl
            rotate_left
            ·
             simp only [Act.put, aS, lZ, lS, i64_w, i32_w]
             rfl
            refine pa (i := 15) (N := some 55) (bm 24 65535) HT_ ?_
            refine one_ (i := 16) (N := some 56) (bm 24 131071) rfl rfl (one_of HT_.out qz) (by decide) (fun K hK => ?_)
            refine goes_ Try.func22 qz rfl #[.agg #[.int .i64 a0_0, .int .i64 a0_1, .slice A0_2 l0_2.length c0_2], .agg #[.int .i64 ((rd_T53 l1_0 x36_2).f0.f0), .int .i64 ((rd_T53 l1_0 x36_2).f0.f1), .int .i64 ((rd_T53 l1_0 (ji30)).f0.f0), .int .i64 ((rd_T53 l1_0 (ji30)).f0.f1), .int .i64 a2]] (by rfl) rfl rfl (by (try simp only [List.map_toArray, List.map_cons, List.map_nil]); first | done | (simp only [hji30]; rfl) | rfl | (simp only [List.length_drop, List.length_take]; rfl)) ?_
            with_reducible refine (stage_Clear.calls k2 a0_0 a0_1 _ _ l0_2 ((rd_T53 l1_0 x36_2).f0.f0) ((rd_T53 l1_0 x36_2).f0.f1) ((rd_T53 l1_0 (ji30)).f0.f0) ((rd_T53 l1_0 (ji30)).f0.f1) a2 true t253 t254 _ ?side1 ?side2 A33.out).mono ?_
            (case side1 => exact cz HR0_2)
            (case side2 => exact HC0_2.out)
            rintro e w38 ⟨rfl, hb⟩
            refine ⟨_, rfl, ?_⟩
            have n0_ := am (blk_below (o := .cells #[.int .i64 a0_0, .int .i64 a0_1, .slice A0_2 l0_2.length c0_2] 42 (0, 0)) (kz BK245) hb)
            have n1_ := am (blk_below (o := .cells #[.slice (some ad250) l1_0.length c1_0, .slice A1_1 l1_1.length c1_1] 25 (0, 0)) (kz BK246) hb)
            have n2_ := am (blk_below (o := .cells #[.int .i64 x248000_2, .int .i64 x248001_2, .int .i64 x248002_2] 44 (0, 0)) (kz BK247) hb)
            have n3_ := am (below_step bz hb)
            clear BK245
            clear BK246
            clear BK247
            clear HB
            have BK245 := n0_
            have BK246 := n1_
            have BK247 := n2_
            have HB := n3_
            clear n0_ n1_ n2_ n3_
            (try clear hb)
            (try clear hb2)
            (try clear hk)
            (try clear hi)
            refine hK.out _ _ ⟨(blk_cell BK245.out 0).trans rfl, (blk_cell BK245.out 1).trans rfl, (blk_cell BK245.out 2).trans rfl, (blk_cell BK246.out 0).trans rfl, (blk_cell BK246.out 1).trans rfl, (cb HB.out hw250_0), (cb HB.out hw250_1), (cb HB.out hw251_0), (cb HB.out hw251_1)⟩ (fun hHeld => ?_)
            clear hK K
            refine norm_ (a' := ?_) ?_ ?_
            rotate_left
            ·
             show Act.put _ (some 56) _ = _
             simp only [Act.put, aS, lZ, lS, i64_w, i32_w]
             rfl
            refine pa (i := 17) (N := some 39) (bm 24 262143) HT_ ?_
            refine pa (i := 18) (N := some 57) (bm 24 524287) HT_ ?_
            refine pa (i := 19) (N := some 58) (bm 24 1048575) HT_ ?_
            refine pa (i := 20) (N := some 59) (bm 24 2097151) HT_ ?_
            refine pa (i := 21) (N := some 11) (bm 24 4194303) HT_ ?_
            refine pa (i := 22) (N := some 12) (bm 24 8388607) HT_ ?_
            refine pa (i := 23) (N := some 13) (bm 24 16777215) HT_ ?_
            refine done_ (done_of HT_.out qz) ?_
            have hnb39 := NB247_245.out
            have hnc39 := NB245_247.out
            have hnb40 := NB247_246.out
            have hnc40 := NB246_247.out
            obtain ⟨hcz41_0, hcz41_1, hcz41_2, hfz41_0, hfz41_1, hfz41_2⟩ := kc3 BK247.out
            try go_wp2
            refine bodyPost_ret (results_ct rfl _ _ gb247 44 #[.int .i64 x36_2, .int .i64 0, .int .i64 t253] (0, 0) _ rfl (by (with_reducible repeat first | apply kN | apply kD | apply kA); refine blk_put (cs := #[.int .i64 x36_2, .int .i64 0, .int .i64 x248002_2]) ?_ 2 _ rfl; (with_reducible repeat first | apply kN | apply kD | apply kA); refine blk_put (cs := #[.int .i64 x36_2, .int .i64 x248001_2, .int .i64 x248002_2]) ?_ 1 _ rfl; (with_reducible repeat first | apply kN | apply kD | apply kA); refine blk_put (cs := #[.int .i64 x248000_2, .int .i64 x248001_2, .int .i64 x248002_2]) ?_ 0 _ rfl; (with_reducible repeat first | apply kN | apply kD | apply kA); exact BK247.out) Try.underlying44 rfl qz) rfl ?_
            exact ⟨by first | rfl | (simp [errW_none, errW_some] <;> rfl) | (simp only [← hji30]; first | rfl | (simp [errW_none, errW_some] <;> rfl)) | (simp [*, errW_none, errW_some] <;> rfl), bz⟩
           ·
            rw [if_neg c36] at H
            have c36b0 := decide_eq_false c36
            clear c36
            have H' := am H
            clear H
            try go_wp2
            have n0_ := am (blk_drew BK245.out)
            have n1_ := am (blk_drew BK246.out)
            have n2_ := am (blk_drew BK247.out)
            have n3_ := am (below_drew1 HB.out)
            clear BK245
            clear BK246
            clear BK247
            clear HB
            have BK245 := n0_
            have BK246 := n1_
            have BK247 := n2_
            have HB := n3_
            clear n0_ n1_ n2_ n3_
            have p250 : 0 ≤ (x36_2 : Int) := az
            have q250 : x36_2 < (l1_0.length : Int) := az
            obtain ⟨ad250, e250, hx250_0, hx250_1, _, _, _, _, _, _, _, _, _, _, _, _, _, _, _, _, _, _, _, _⟩ := at_T53 HR1_0.out x36_2 p250 q250
            have hw250_1 := hx250_1
            have hw250_0 := hx250_0
            cases e250
            replace hx250_0 := cb HB.out hx250_0
            replace hx250_1 := cb HB.out hx250_1
            replace p250 := eq_true p250
            replace q250 := eq_true q250
            have p251 : 0 ≤ ((ji30) : Int) := az
            have q251 : (ji30) < (l1_0.length : Int) := az
            obtain ⟨ad251, e251, hx251_0, hx251_1, _, _, _, _, _, _, _, _, _, _, _, _, _, _, _, _, _, _, _, _⟩ := at_T53 HR1_0.out (ji30) p251 q251
            have hw251_1 := hx251_1
            have hw251_0 := hx251_0
            obtain rfl : ad250 = ad251 := (by injection e251)
            replace hx251_0 := cb HB.out hx251_0
            replace hx251_1 := cb HB.out hx251_1
            replace p251 := eq_true p251
            replace q251 := eq_true q251
            refine start_ (n := 24) (S := fun w' => w'.cell? ⟨gb245, 0, none⟩ = some (.int .i64 a0_0) ∧ w'.cell? ⟨gb245, 1, none⟩ = some (.int .i64 a0_1) ∧ w'.cell? ⟨gb245, 2, none⟩ = some (.slice A0_2 l0_2.length c0_2) ∧ w'.cell? ⟨gb246, 0, none⟩ = some (.slice (some ad250) l1_0.length c1_0) ∧ w'.cell? ⟨gb246, 1, none⟩ = some (.slice A1_1 l1_1.length c1_1) ∧ w'.cell? (ad250.add ((x36_2).toNat * 22)) = some (.int .i64 ((rd_T53 l1_0 x36_2).f0.f0)) ∧ w'.cell? ⟨(ad250.add ((x36_2).toNat * 22)).block, (ad250.add ((x36_2).toNat * 22)).off + 1, none⟩ = some (.int .i64 ((rd_T53 l1_0 x36_2).f0.f1)) ∧ w'.cell? (ad250.add (((ji30)).toNat * 22)) = some (.int .i64 ((rd_T53 l1_0 (ji30)).f0.f0)) ∧ w'.cell? ⟨(ad250.add (((ji30)).toNat * 22)).block, (ad250.add (((ji30)).toNat * 22)).off + 1, none⟩ = some (.int .i64 ((rd_T53 l1_0 (ji30)).f0.f1))) (ds := []) (bm 24 0) qz rfl rfl ⟨(blk_cell BK245.out 0).trans rfl, (blk_cell BK245.out 1).trans rfl, (blk_cell BK245.out 2).trans rfl, (blk_cell BK246.out 0).trans rfl, (blk_cell BK246.out 1).trans rfl, (cb HB.out hw250_0), (cb HB.out hw250_1), (cb HB.out hw251_0), (cb HB.out hw251_1)⟩ (fun hHeld => ?_); refine with_tabW floor_First.tab12 floor_First.bits12 (fun HT_ HW_ => ?_)
            generalize wr.drew = w42 at BK245 BK246 BK247 HB hx250_0 hx250_1 hx251_0 hx251_1 hHeld ⊢
            refine pa (i := 1) (N := some 41) (bm 24 2) HT_ ?_
            refine pa (i := 3) (N := some 43) (bm 24 10) HT_ ?_
            refine pa (i := 7) (N := some 47) (bm 24 138) HT_ ?_
            refine pa (i := 9) (N := some 49) (bm 24 650) HT_ ?_
            refine pa (i := 10) (N := some 50) (bm 24 1674) HT_ ?_
            refine pa (i := 14) (N := some 54) (bm 24 18058) HT_ ?_
            refine take_ (i := 0) (N := some 40) (v := ?_) (a' := ?_) (bm 24 18059) rfl rfl (take_ofW HT_.out HW_.out qz) iz (Or.inl ⟨by rfl, ?_⟩) hHeld ?_ ?_
            rotate_left
            ·
             rintro w' ⟨s0, s1, s2, s3, s4, s5, s6, s7, s8⟩
             go_simp
             with_reducible rfl
            rotate_left
            ·
             simp only [Act.put, aS, lZ, lS, i64_w, i32_w]
             rfl
            refine take_ (i := 2) (N := some 42) (v := ?_) (a' := ?_) (bm 24 18063) rfl rfl (take_ofW HT_.out HW_.out qz) iz (Or.inl ⟨by rfl, ?_⟩) hHeld ?_ ?_
            rotate_left
            ·
             rintro w' ⟨s0, s1, s2, s3, s4, s5, s6, s7, s8⟩
             go_simp
             with_reducible rfl
            rotate_left
            ·
             simp only [Act.put, aS, lZ, lS, i64_w, i32_w]
             rfl
            refine pa (i := 4) (N := some 44) (bm 24 18079) HT_ ?_
            refine pa (i := 5) (N := some 45) (bm 24 18111) HT_ ?_
            refine take_ (i := 6) (N := some 46) (v := ?_) (a' := ?_) (bm 24 18175) rfl rfl (take_ofW HT_.out HW_.out qz) iz (Or.inl ⟨by rfl, ?_⟩) hHeld ?_ ?_
            rotate_left
            ·
             rintro w' ⟨s0, s1, s2, s3, s4, s5, s6, s7, s8⟩
             go_simp
             with_reducible rfl
            rotate_left
            ·
             simp only [Act.put, aS, lZ, lS, i64_w, i32_w]
             rfl
            refine take_ (i := 8) (N := some 48) (v := ?_) (a' := ?_) (bm 24 18431) rfl rfl (take_ofW HT_.out HW_.out qz) iz (Or.inl ⟨by rfl, ?_⟩) hHeld ?_ ?_
            rotate_left
            ·
             rintro w' ⟨s0, s1, s2, s3, s4, s5, s6, s7, s8⟩
             go_simp
             with_reducible rfl
            rotate_left
            ·
             simp only [Act.put, aS, lZ, lS, i64_w, i32_w]
             rfl
            refine pa (i := 11) (N := some 51) (bm 24 20479) HT_ ?_
            refine pa (i := 12) (N := some 52) (bm 24 24575) HT_ ?_
            refine take_ (i := 13) (N := some 53) (v := ?_) (a' := ?_) (bm 24 32767) rfl rfl (take_ofW HT_.out HW_.out qz) iz (Or.inl ⟨by rfl, ?_⟩) hHeld ?_ ?_
            rotate_left
            ·
             rintro w' ⟨s0, s1, s2, s3, s4, s5, s6, s7, s8⟩
             go_simp
             with_reducible rfl
            rotate_left
            ·
             simp only [Act.put, aS, lZ, lS, i64_w, i32_w]
             rfl
            refine pa (i := 15) (N := some 55) (bm 24 65535) HT_ ?_
            refine one_ (i := 16) (N := some 56) (bm 24 131071) rfl rfl (one_of HT_.out qz) (by decide) (fun K hK => ?_)
            refine goes_ Try.func22 qz rfl #[.agg #[.int .i64 a0_0, .int .i64 a0_1, .slice A0_2 l0_2.length c0_2], .agg #[.int .i64 ((rd_T53 l1_0 x36_2).f0.f0), .int .i64 ((rd_T53 l1_0 x36_2).f0.f1), .int .i64 ((rd_T53 l1_0 (ji30)).f0.f0), .int .i64 ((rd_T53 l1_0 (ji30)).f0.f1), .int .i64 a2]] (by rfl) rfl rfl (by (try simp only [List.map_toArray, List.map_cons, List.map_nil]); first | done | (simp only [hji30]; rfl) | rfl | (simp only [List.length_drop, List.length_take]; rfl)) ?_
            with_reducible refine (stage_Clear.calls k2 a0_0 a0_1 _ _ l0_2 ((rd_T53 l1_0 x36_2).f0.f0) ((rd_T53 l1_0 x36_2).f0.f1) ((rd_T53 l1_0 (ji30)).f0.f0) ((rd_T53 l1_0 (ji30)).f0.f1) a2 true t253 t254 _ ?side1 ?side2 A33.out).mono ?_
            (case side1 => exact cz HR0_2)
            (case side2 => exact HC0_2.out)
            rintro e w43 ⟨rfl, hb⟩
            refine ⟨_, rfl, ?_⟩
            have n0_ := am (blk_below (o := .cells #[.int .i64 a0_0, .int .i64 a0_1, .slice A0_2 l0_2.length c0_2] 42 (0, 0)) (kz BK245) hb)
            have n1_ := am (blk_below (o := .cells #[.slice (some ad250) l1_0.length c1_0, .slice A1_1 l1_1.length c1_1] 25 (0, 0)) (kz BK246) hb)
            have n2_ := am (blk_below (o := .cells #[.int .i64 x248000_2, .int .i64 x248001_2, .int .i64 x248002_2] 44 (0, 0)) (kz BK247) hb)
            have n3_ := am (below_step bz hb)
            clear BK245
            clear BK246
            clear BK247
            clear HB
            have BK245 := n0_
            have BK246 := n1_
            have BK247 := n2_
            have HB := n3_
            clear n0_ n1_ n2_ n3_
            (try clear hb)
            (try clear hb2)
            (try clear hk)
            (try clear hi)
            refine hK.out _ _ ⟨(blk_cell BK245.out 0).trans rfl, (blk_cell BK245.out 1).trans rfl, (blk_cell BK245.out 2).trans rfl, (blk_cell BK246.out 0).trans rfl, (blk_cell BK246.out 1).trans rfl, (cb HB.out hw250_0), (cb HB.out hw250_1), (cb HB.out hw251_0), (cb HB.out hw251_1)⟩ (fun hHeld => ?_)
            clear hK K
            refine norm_ (a' := ?_) ?_ ?_
            rotate_left
            ·
             show Act.put _ (some 56) _ = _
             simp only [Act.put, aS, lZ, lS, i64_w, i32_w]
             rfl
            refine pa (i := 17) (N := some 39) (bm 24 262143) HT_ ?_
            refine pa (i := 18) (N := some 57) (bm 24 524287) HT_ ?_
            refine pa (i := 19) (N := some 58) (bm 24 1048575) HT_ ?_
            refine pa (i := 20) (N := some 59) (bm 24 2097151) HT_ ?_
            refine pa (i := 21) (N := some 11) (bm 24 4194303) HT_ ?_
            refine pa (i := 22) (N := some 12) (bm 24 8388607) HT_ ?_
            refine pa (i := 23) (N := some 13) (bm 24 16777215) HT_ ?_
            refine done_ (done_of HT_.out qz) ?_
            try go_wp2
            go_roundg k2
            case measure => have := HJ7.out; have := HK2.out; omega
            case rel => exact ⟨(ji30), (x248000_2), (x248001_2), (x248002_2), (by first | rfl | (simp; done) | (simp only [← hji30] <;> (first | rfl | simp)) | (simp [*]; done)), H', ⟨by have := HJ7.out; have := HK2.out; omega⟩, ⟨kz BK245⟩, ⟨kz BK246⟩, ⟨kz BK247⟩, ⟨bz⟩⟩
          ·
           replace c35 := Bool.eq_false_iff.mpr c35
           subst c35
           have H1 : (some (x36_2, 0, (-1), 0)) = some (r1, r2, r3, r4) := by rw [if_neg (show ¬ (false = true) by decide)] at H; exact H
           clear H
           have H := H1
           clear H1
           simp only [Option.some.injEq, Prod.mk.injEq] at H
           obtain ⟨rfl, rfl, rfl, rfl⟩ := H
           try go_wp2
           have n0_ := am (blk_drew BK245.out)
           have n1_ := am (blk_drew BK246.out)
           have n2_ := am (blk_drew BK247.out)
           have n3_ := am (below_drew1 HB.out)
           clear BK245
           clear BK246
           clear BK247
           clear HB
           have BK245 := n0_
           have BK246 := n1_
           have BK247 := n2_
           have HB := n3_
           clear n0_ n1_ n2_ n3_
           have p250 : 0 ≤ (x36_2 : Int) := az
           have q250 : x36_2 < (l1_0.length : Int) := az
           obtain ⟨ad250, e250, hx250_0, hx250_1, _, _, _, _, _, _, _, _, _, _, _, _, _, _, _, _, _, _, _, _⟩ := at_T53 HR1_0.out x36_2 p250 q250
           have hw250_1 := hx250_1
           have hw250_0 := hx250_0
           cases e250
           replace hx250_0 := cb HB.out hx250_0
           replace hx250_1 := cb HB.out hx250_1
           replace p250 := eq_true p250
           replace q250 := eq_true q250
           have p251 : 0 ≤ ((ji30) : Int) := az
           have q251 : (ji30) < (l1_0.length : Int) := az
           obtain ⟨ad251, e251, hx251_0, hx251_1, _, _, _, _, _, _, _, _, _, _, _, _, _, _, _, _, _, _, _, _⟩ := at_T53 HR1_0.out (ji30) p251 q251
           have hw251_1 := hx251_1
           have hw251_0 := hx251_0
           obtain rfl : ad250 = ad251 := (by injection e251)
           replace hx251_0 := cb HB.out hx251_0
           replace hx251_1 := cb HB.out hx251_1
           replace p251 := eq_true p251
           replace q251 := eq_true q251
           refine start_ (n := 24) (S := fun w' => w'.cell? ⟨gb245, 0, none⟩ = some (.int .i64 a0_0) ∧ w'.cell? ⟨gb245, 1, none⟩ = some (.int .i64 a0_1) ∧ w'.cell? ⟨gb245, 2, none⟩ = some (.slice A0_2 l0_2.length c0_2) ∧ w'.cell? ⟨gb246, 0, none⟩ = some (.slice (some ad250) l1_0.length c1_0) ∧ w'.cell? ⟨gb246, 1, none⟩ = some (.slice A1_1 l1_1.length c1_1) ∧ w'.cell? (ad250.add ((x36_2).toNat * 22)) = some (.int .i64 ((rd_T53 l1_0 x36_2).f0.f0)) ∧ w'.cell? ⟨(ad250.add ((x36_2).toNat * 22)).block, (ad250.add ((x36_2).toNat * 22)).off + 1, none⟩ = some (.int .i64 ((rd_T53 l1_0 x36_2).f0.f1)) ∧ w'.cell? (ad250.add (((ji30)).toNat * 22)) = some (.int .i64 ((rd_T53 l1_0 (ji30)).f0.f0)) ∧ w'.cell? ⟨(ad250.add (((ji30)).toNat * 22)).block, (ad250.add (((ji30)).toNat * 22)).off + 1, none⟩ = some (.int .i64 ((rd_T53 l1_0 (ji30)).f0.f1))) (ds := []) (bm 24 0) qz rfl rfl ⟨(blk_cell BK245.out 0).trans rfl, (blk_cell BK245.out 1).trans rfl, (blk_cell BK245.out 2).trans rfl, (blk_cell BK246.out 0).trans rfl, (blk_cell BK246.out 1).trans rfl, (cb HB.out hw250_0), (cb HB.out hw250_1), (cb HB.out hw251_0), (cb HB.out hw251_1)⟩ (fun hHeld => ?_); refine with_tabW floor_First.tab12 floor_First.bits12 (fun HT_ HW_ => ?_)
           generalize wr.drew = w44 at BK245 BK246 BK247 HB hx250_0 hx250_1 hx251_0 hx251_1 hHeld ⊢
           refine pa (i := 1) (N := some 41) (bm 24 2) HT_ ?_
           refine pa (i := 3) (N := some 43) (bm 24 10) HT_ ?_
           refine pa (i := 7) (N := some 47) (bm 24 138) HT_ ?_
           refine pa (i := 9) (N := some 49) (bm 24 650) HT_ ?_
           refine pa (i := 10) (N := some 50) (bm 24 1674) HT_ ?_
           refine pa (i := 14) (N := some 54) (bm 24 18058) HT_ ?_
           refine take_ (i := 0) (N := some 40) (v := ?_) (a' := ?_) (bm 24 18059) rfl rfl (take_ofW HT_.out HW_.out qz) iz (Or.inl ⟨by rfl, ?_⟩) hHeld ?_ ?_
           rotate_left
           ·
            rintro w' ⟨s0, s1, s2, s3, s4, s5, s6, s7, s8⟩
            go_simp
            with_reducible rfl
           rotate_left
           ·
            simp only [Act.put, aS, lZ, lS, i64_w, i32_w]
            rfl
           refine take_ (i := 2) (N := some 42) (v := ?_) (a' := ?_) (bm 24 18063) rfl rfl (take_ofW HT_.out HW_.out qz) iz (Or.inl ⟨by rfl, ?_⟩) hHeld ?_ ?_
           rotate_left
           ·
            rintro w' ⟨s0, s1, s2, s3, s4, s5, s6, s7, s8⟩
            go_simp
            with_reducible rfl
           rotate_left
           ·
            simp only [Act.put, aS, lZ, lS, i64_w, i32_w]
            rfl
           refine pa (i := 4) (N := some 44) (bm 24 18079) HT_ ?_
           refine pa (i := 5) (N := some 45) (bm 24 18111) HT_ ?_
           refine take_ (i := 6) (N := some 46) (v := ?_) (a' := ?_) (bm 24 18175) rfl rfl (take_ofW HT_.out HW_.out qz) iz (Or.inl ⟨by rfl, ?_⟩) hHeld ?_ ?_
           rotate_left
           ·
            rintro w' ⟨s0, s1, s2, s3, s4, s5, s6, s7, s8⟩
            go_simp
            with_reducible rfl
           rotate_left
           ·
            simp only [Act.put, aS, lZ, lS, i64_w, i32_w]
            rfl
           refine take_ (i := 8) (N := some 48) (v := ?_) (a' := ?_) (bm 24 18431) rfl rfl (take_ofW HT_.out HW_.out qz) iz (Or.inl ⟨by rfl, ?_⟩) hHeld ?_ ?_
           rotate_left
           ·
            rintro w' ⟨s0, s1, s2, s3, s4, s5, s6, s7, s8⟩
            go_simp
            with_reducible rfl
           rotate_left
           ·
            simp only [Act.put, aS, lZ, lS, i64_w, i32_w]
            rfl
           refine pa (i := 11) (N := some 51) (bm 24 20479) HT_ ?_
           refine pa (i := 12) (N := some 52) (bm 24 24575) HT_ ?_
           refine take_ (i := 13) (N := some 53) (v := ?_) (a' := ?_) (bm 24 32767) rfl rfl (take_ofW HT_.out HW_.out qz) iz (Or.inl ⟨by rfl, ?_⟩) hHeld ?_ ?_
           rotate_left
           ·
            rintro w' ⟨s0, s1, s2, s3, s4, s5, s6, s7, s8⟩
            go_simp
            with_reducible rfl
           rotate_left
           ·
            simp only [Act.put, aS, lZ, lS, i64_w, i32_w]
            rfl
           refine pa (i := 15) (N := some 55) (bm 24 65535) HT_ ?_
           refine one_ (i := 16) (N := some 56) (bm 24 131071) rfl rfl (one_of HT_.out qz) (by decide) (fun K hK => ?_)
           refine goes_ Try.func22 qz rfl #[.agg #[.int .i64 a0_0, .int .i64 a0_1, .slice A0_2 l0_2.length c0_2], .agg #[.int .i64 ((rd_T53 l1_0 x36_2).f0.f0), .int .i64 ((rd_T53 l1_0 x36_2).f0.f1), .int .i64 ((rd_T53 l1_0 (ji30)).f0.f0), .int .i64 ((rd_T53 l1_0 (ji30)).f0.f1), .int .i64 a2]] (by rfl) rfl rfl (by (try simp only [List.map_toArray, List.map_cons, List.map_nil]); first | done | (simp only [hji30]; rfl) | rfl | (simp only [List.length_drop, List.length_take]; rfl)) ?_
           with_reducible refine (stage_Clear.calls k2 a0_0 a0_1 _ _ l0_2 ((rd_T53 l1_0 x36_2).f0.f0) ((rd_T53 l1_0 x36_2).f0.f1) ((rd_T53 l1_0 (ji30)).f0.f0) ((rd_T53 l1_0 (ji30)).f0.f1) a2 false t253 t254 _ ?side1 ?side2 A33.out).mono ?_
           (case side1 => exact cz HR0_2)
           (case side2 => exact HC0_2.out)
           rintro e w45 ⟨rfl, hb⟩
           refine ⟨_, rfl, ?_⟩
           have n0_ := am (blk_below (o := .cells #[.int .i64 a0_0, .int .i64 a0_1, .slice A0_2 l0_2.length c0_2] 42 (0, 0)) (kz BK245) hb)
           have n1_ := am (blk_below (o := .cells #[.slice (some ad250) l1_0.length c1_0, .slice A1_1 l1_1.length c1_1] 25 (0, 0)) (kz BK246) hb)
           have n2_ := am (blk_below (o := .cells #[.int .i64 x248000_2, .int .i64 x248001_2, .int .i64 x248002_2] 44 (0, 0)) (kz BK247) hb)
           have n3_ := am (below_step bz hb)
           clear BK245
           clear BK246
           clear BK247
           clear HB
           have BK245 := n0_
           have BK246 := n1_
           have BK247 := n2_
           have HB := n3_
           clear n0_ n1_ n2_ n3_
           (try clear hb)
           (try clear hb2)
           (try clear hk)
           (try clear hi)
           refine hK.out _ _ ⟨(blk_cell BK245.out 0).trans rfl, (blk_cell BK245.out 1).trans rfl, (blk_cell BK245.out 2).trans rfl, (blk_cell BK246.out 0).trans rfl, (blk_cell BK246.out 1).trans rfl, (cb HB.out hw250_0), (cb HB.out hw250_1), (cb HB.out hw251_0), (cb HB.out hw251_1)⟩ (fun hHeld => ?_)
           clear hK K
           refine norm_ (a' := ?_) ?_ ?_
           rotate_left
           ·
            show Act.put _ (some 56) _ = _
            simp only [Act.put, aS, lZ, lS, i64_w, i32_w]
            rfl
           refine pa (i := 17) (N := some 39) (bm 24 262143) HT_ ?_
           refine pa (i := 18) (N := some 57) (bm 24 524287) HT_ ?_
           refine pa (i := 19) (N := some 58) (bm 24 1048575) HT_ ?_
           refine pa (i := 20) (N := some 59) (bm 24 2097151) HT_ ?_
           refine pa (i := 21) (N := some 11) (bm 24 4194303) HT_ ?_
           refine pa (i := 22) (N := some 12) (bm 24 8388607) HT_ ?_
           refine pa (i := 23) (N := some 13) (bm 24 16777215) HT_ ?_
           refine done_ (done_of HT_.out qz) ?_
           have hnb46 := NB247_245.out
           have hnc46 := NB245_247.out
           have hnb47 := NB247_246.out
           have hnc47 := NB246_247.out
           obtain ⟨hcz48_0, hcz48_1, hcz48_2, hfz48_0, hfz48_1, hfz48_2⟩ := kc3 BK247.out
           try go_wp2
           refine bodyPost_ret (results_ct rfl _ _ gb247 44 #[.int .i64 x36_2, .int .i64 0, .int .i64 (-1)] (0, 0) _ rfl (by (with_reducible repeat first | apply kN | apply kD | apply kA); refine blk_put (cs := #[.int .i64 x36_2, .int .i64 0, .int .i64 x248002_2]) ?_ 2 _ rfl; (with_reducible repeat first | apply kN | apply kD | apply kA); refine blk_put (cs := #[.int .i64 x36_2, .int .i64 x248001_2, .int .i64 x248002_2]) ?_ 1 _ rfl; (with_reducible repeat first | apply kN | apply kD | apply kA); refine blk_put (cs := #[.int .i64 x248000_2, .int .i64 x248001_2, .int .i64 x248002_2]) ?_ 0 _ rfl; (with_reducible repeat first | apply kN | apply kD | apply kA); exact BK247.out) Try.underlying44 rfl qz) rfl ?_
           exact ⟨by first | rfl | (simp [errW_none, errW_some] <;> rfl) | (simp only [← hji30]; first | rfl | (simp [errW_none, errW_some] <;> rfl)) | (simp [*, errW_none, errW_some] <;> rfl), bz⟩
         ·
          rw [if_neg c34] at H
          have c34b0 : (t254 == 0) = false := beq_eq_false_iff_ne.mpr c34
          have c34b1 : (t254 != 0) = true := bne_iff_ne.mpr c34
          simp only [Option.some.injEq, Prod.mk.injEq] at H
          obtain ⟨rfl, rfl, rfl, rfl⟩ := H
          try go_wp2
          have n0_ := am (blk_drew BK245.out)
          have n1_ := am (blk_drew BK246.out)
          have n2_ := am (blk_drew BK247.out)
          have n3_ := am (below_drew1 HB.out)
          clear BK245
          clear BK246
          clear BK247
          clear HB
          have BK245 := n0_
          have BK246 := n1_
          have BK247 := n2_
          have HB := n3_
          clear n0_ n1_ n2_ n3_
          have p250 : 0 ≤ (x36_2 : Int) := az
          have q250 : x36_2 < (l1_0.length : Int) := az
          obtain ⟨ad250, e250, hx250_0, hx250_1, _, _, _, _, _, _, _, _, _, _, _, _, _, _, _, _, _, _, _, _⟩ := at_T53 HR1_0.out x36_2 p250 q250
          have hw250_1 := hx250_1
          have hw250_0 := hx250_0
          cases e250
          replace hx250_0 := cb HB.out hx250_0
          replace hx250_1 := cb HB.out hx250_1
          replace p250 := eq_true p250
          replace q250 := eq_true q250
          have p251 : 0 ≤ ((ji30) : Int) := az
          have q251 : (ji30) < (l1_0.length : Int) := az
          obtain ⟨ad251, e251, hx251_0, hx251_1, _, _, _, _, _, _, _, _, _, _, _, _, _, _, _, _, _, _, _, _⟩ := at_T53 HR1_0.out (ji30) p251 q251
          have hw251_1 := hx251_1
          have hw251_0 := hx251_0
          obtain rfl : ad250 = ad251 := (by injection e251)
          replace hx251_0 := cb HB.out hx251_0
          replace hx251_1 := cb HB.out hx251_1
          replace p251 := eq_true p251
          replace q251 := eq_true q251
          refine start_ (n := 24) (S := fun w' => w'.cell? ⟨gb245, 0, none⟩ = some (.int .i64 a0_0) ∧ w'.cell? ⟨gb245, 1, none⟩ = some (.int .i64 a0_1) ∧ w'.cell? ⟨gb245, 2, none⟩ = some (.slice A0_2 l0_2.length c0_2) ∧ w'.cell? ⟨gb246, 0, none⟩ = some (.slice (some ad250) l1_0.length c1_0) ∧ w'.cell? ⟨gb246, 1, none⟩ = some (.slice A1_1 l1_1.length c1_1) ∧ w'.cell? (ad250.add ((x36_2).toNat * 22)) = some (.int .i64 ((rd_T53 l1_0 x36_2).f0.f0)) ∧ w'.cell? ⟨(ad250.add ((x36_2).toNat * 22)).block, (ad250.add ((x36_2).toNat * 22)).off + 1, none⟩ = some (.int .i64 ((rd_T53 l1_0 x36_2).f0.f1)) ∧ w'.cell? (ad250.add (((ji30)).toNat * 22)) = some (.int .i64 ((rd_T53 l1_0 (ji30)).f0.f0)) ∧ w'.cell? ⟨(ad250.add (((ji30)).toNat * 22)).block, (ad250.add (((ji30)).toNat * 22)).off + 1, none⟩ = some (.int .i64 ((rd_T53 l1_0 (ji30)).f0.f1))) (ds := []) (bm 24 0) qz rfl rfl ⟨(blk_cell BK245.out 0).trans rfl, (blk_cell BK245.out 1).trans rfl, (blk_cell BK245.out 2).trans rfl, (blk_cell BK246.out 0).trans rfl, (blk_cell BK246.out 1).trans rfl, (cb HB.out hw250_0), (cb HB.out hw250_1), (cb HB.out hw251_0), (cb HB.out hw251_1)⟩ (fun hHeld => ?_); refine with_tabW floor_First.tab12 floor_First.bits12 (fun HT_ HW_ => ?_)
          generalize wr.drew = w49 at BK245 BK246 BK247 HB hx250_0 hx250_1 hx251_0 hx251_1 hHeld ⊢
          refine pa (i := 1) (N := some 41) (bm 24 2) HT_ ?_
          refine pa (i := 3) (N := some 43) (bm 24 10) HT_ ?_
          refine pa (i := 7) (N := some 47) (bm 24 138) HT_ ?_
          refine pa (i := 9) (N := some 49) (bm 24 650) HT_ ?_
          refine pa (i := 10) (N := some 50) (bm 24 1674) HT_ ?_
          refine pa (i := 14) (N := some 54) (bm 24 18058) HT_ ?_
          refine take_ (i := 0) (N := some 40) (v := ?_) (a' := ?_) (bm 24 18059) rfl rfl (take_ofW HT_.out HW_.out qz) iz (Or.inl ⟨by rfl, ?_⟩) hHeld ?_ ?_
          rotate_left
          ·
           rintro w' ⟨s0, s1, s2, s3, s4, s5, s6, s7, s8⟩
           go_simp
           with_reducible rfl
          rotate_left
          ·
           simp only [Act.put, aS, lZ, lS, i64_w, i32_w]
           rfl
          refine take_ (i := 2) (N := some 42) (v := ?_) (a' := ?_) (bm 24 18063) rfl rfl (take_ofW HT_.out HW_.out qz) iz (Or.inl ⟨by rfl, ?_⟩) hHeld ?_ ?_
          rotate_left
          ·
           rintro w' ⟨s0, s1, s2, s3, s4, s5, s6, s7, s8⟩
           go_simp
           with_reducible rfl
          rotate_left
          ·
           simp only [Act.put, aS, lZ, lS, i64_w, i32_w]
           rfl
          refine pa (i := 4) (N := some 44) (bm 24 18079) HT_ ?_
          refine pa (i := 5) (N := some 45) (bm 24 18111) HT_ ?_
          refine take_ (i := 6) (N := some 46) (v := ?_) (a' := ?_) (bm 24 18175) rfl rfl (take_ofW HT_.out HW_.out qz) iz (Or.inl ⟨by rfl, ?_⟩) hHeld ?_ ?_
          rotate_left
          ·
           rintro w' ⟨s0, s1, s2, s3, s4, s5, s6, s7, s8⟩
           go_simp
           with_reducible rfl
          rotate_left
          ·
           simp only [Act.put, aS, lZ, lS, i64_w, i32_w]
           rfl
          refine take_ (i := 8) (N := some 48) (v := ?_) (a' := ?_) (bm 24 18431) rfl rfl (take_ofW HT_.out HW_.out qz) iz (Or.inl ⟨by rfl, ?_⟩) hHeld ?_ ?_
          rotate_left
          ·
           rintro w' ⟨s0, s1, s2, s3, s4, s5, s6, s7, s8⟩
           go_simp
           with_reducible rfl
          rotate_left
          ·
           simp only [Act.put, aS, lZ, lS, i64_w, i32_w]
           rfl
          refine pa (i := 11) (N := some 51) (bm 24 20479) HT_ ?_
          refine pa (i := 12) (N := some 52) (bm 24 24575) HT_ ?_
          refine take_ (i := 13) (N := some 53) (v := ?_) (a' := ?_) (bm 24 32767) rfl rfl (take_ofW HT_.out HW_.out qz) iz (Or.inl ⟨by rfl, ?_⟩) hHeld ?_ ?_
          rotate_left
          ·
           rintro w' ⟨s0, s1, s2, s3, s4, s5, s6, s7, s8⟩
           go_simp
           with_reducible rfl
          rotate_left
          ·
           simp only [Act.put, aS, lZ, lS, i64_w, i32_w]
           rfl
          refine pa (i := 15) (N := some 55) (bm 24 65535) HT_ ?_
          refine one_ (i := 16) (N := some 56) (bm 24 131071) rfl rfl (one_of HT_.out qz) (by decide) (fun K hK => ?_)
          refine goes_ Try.func22 qz rfl #[.agg #[.int .i64 a0_0, .int .i64 a0_1, .slice A0_2 l0_2.length c0_2], .agg #[.int .i64 ((rd_T53 l1_0 x36_2).f0.f0), .int .i64 ((rd_T53 l1_0 x36_2).f0.f1), .int .i64 ((rd_T53 l1_0 (ji30)).f0.f0), .int .i64 ((rd_T53 l1_0 (ji30)).f0.f1), .int .i64 a2]] (by rfl) rfl rfl (by (try simp only [List.map_toArray, List.map_cons, List.map_nil]); first | done | (simp only [hji30]; rfl) | rfl | (simp only [List.length_drop, List.length_take]; rfl)) ?_
          with_reducible refine (stage_Clear.calls k2 a0_0 a0_1 _ _ l0_2 ((rd_T53 l1_0 x36_2).f0.f0) ((rd_T53 l1_0 x36_2).f0.f1) ((rd_T53 l1_0 (ji30)).f0.f0) ((rd_T53 l1_0 (ji30)).f0.f1) a2 t252 t253 t254 _ ?side1 ?side2 A33.out).mono ?_
          (case side1 => exact cz HR0_2)
          (case side2 => exact HC0_2.out)
          rintro e w50 ⟨rfl, hb⟩
          refine ⟨_, rfl, ?_⟩
          have n0_ := am (blk_below (o := .cells #[.int .i64 a0_0, .int .i64 a0_1, .slice A0_2 l0_2.length c0_2] 42 (0, 0)) (kz BK245) hb)
          have n1_ := am (blk_below (o := .cells #[.slice (some ad250) l1_0.length c1_0, .slice A1_1 l1_1.length c1_1] 25 (0, 0)) (kz BK246) hb)
          have n2_ := am (blk_below (o := .cells #[.int .i64 x248000_2, .int .i64 x248001_2, .int .i64 x248002_2] 44 (0, 0)) (kz BK247) hb)
          have n3_ := am (below_step bz hb)
          clear BK245
          clear BK246
          clear BK247
          clear HB
          have BK245 := n0_
          have BK246 := n1_
          have BK247 := n2_
          have HB := n3_
          clear n0_ n1_ n2_ n3_
          (try clear hb)
          (try clear hb2)
          (try clear hk)
          (try clear hi)
          refine hK.out _ _ ⟨(blk_cell BK245.out 0).trans rfl, (blk_cell BK245.out 1).trans rfl, (blk_cell BK245.out 2).trans rfl, (blk_cell BK246.out 0).trans rfl, (blk_cell BK246.out 1).trans rfl, (cb HB.out hw250_0), (cb HB.out hw250_1), (cb HB.out hw251_0), (cb HB.out hw251_1)⟩ (fun hHeld => ?_)
          clear hK K
          refine norm_ (a' := ?_) ?_ ?_
          rotate_left
          ·
           show Act.put _ (some 56) _ = _
           simp only [Act.put, aS, lZ, lS, i64_w, i32_w]
           rfl
          refine pa (i := 17) (N := some 39) (bm 24 262143) HT_ ?_
          refine pa (i := 18) (N := some 57) (bm 24 524287) HT_ ?_
          refine pa (i := 19) (N := some 58) (bm 24 1048575) HT_ ?_
          refine pa (i := 20) (N := some 59) (bm 24 2097151) HT_ ?_
          refine pa (i := 21) (N := some 11) (bm 24 4194303) HT_ ?_
          refine pa (i := 22) (N := some 12) (bm 24 8388607) HT_ ?_
          refine pa (i := 23) (N := some 13) (bm 24 16777215) HT_ ?_
          refine done_ (done_of HT_.out qz) ?_
          have hnb51 := NB247_245.out
          have hnc51 := NB245_247.out
          have hnb52 := NB247_246.out
          have hnc52 := NB246_247.out
          obtain ⟨hcz53_0, hcz53_1, hcz53_2, hfz53_0, hfz53_1, hfz53_2⟩ := kc3 BK247.out
          try go_wp2
          refine bodyPost_ret (results_ct rfl _ _ gb247 44 #[.int .i64 0, .int .i64 0, .int .i64 0] (0, 0) _ rfl (by (with_reducible repeat first | apply kN | apply kD | apply kA); refine blk_put (cs := #[.int .i64 0, .int .i64 0, .int .i64 x248002_2]) ?_ 2 _ rfl; (with_reducible repeat first | apply kN | apply kD | apply kA); refine blk_put (cs := #[.int .i64 0, .int .i64 x248001_2, .int .i64 x248002_2]) ?_ 1 _ rfl; (with_reducible repeat first | apply kN | apply kD | apply kA); refine blk_put (cs := #[.int .i64 x248000_2, .int .i64 x248001_2, .int .i64 x248002_2]) ?_ 0 _ rfl; (with_reducible repeat first | apply kN | apply kD | apply kA); exact BK247.out) Try.underlying44 rfl qz) rfl ?_
          exact ⟨by first | rfl | (simp [errW_none, errW_some] <;> rfl) | (simp only [← hji30]; first | rfl | (simp [errW_none, errW_some] <;> rfl)) | (simp [*, errW_none, errW_some] <;> rfl), bz⟩
        ·
         rw [if_neg c27] at H
         have c27b0 := decide_eq_false c27
         clear c27
         simp only [Option.some.injEq, Prod.mk.injEq] at H
         obtain ⟨rfl, rfl, rfl, rfl⟩ := H
         have hnb54 := NB247_245.out
         have hnc54 := NB245_247.out
         have hnb55 := NB247_246.out
         have hnc55 := NB246_247.out
         obtain ⟨hcz56_0, hcz56_1, hcz56_2, hfz56_0, hfz56_1, hfz56_2⟩ := kc3 BK247.out
         go_wp2
         refine bodyPost_ret (results_ct rfl _ _ gb247 44 #[.int .i64 (-1), .int .i64 0, .int .i64 0] (0, 0) _ rfl (by (with_reducible repeat first | apply kN | apply kD | apply kA); refine blk_put (cs := #[.int .i64 (-1), .int .i64 0, .int .i64 x248002_2]) ?_ 2 _ rfl; (with_reducible repeat first | apply kN | apply kD | apply kA); refine blk_put (cs := #[.int .i64 (-1), .int .i64 x248001_2, .int .i64 x248002_2]) ?_ 1 _ rfl; (with_reducible repeat first | apply kN | apply kD | apply kA); refine blk_put (cs := #[.int .i64 x248000_2, .int .i64 x248001_2, .int .i64 x248002_2]) ?_ 0 _ rfl; (with_reducible repeat first | apply kN | apply kD | apply kA); exact BK247.out) Try.underlying44 rfl qz) rfl ?_
         exact ⟨ez, bz⟩
  ·
   rw [if_neg c7] at H
   have c7b0 : (t249 == 0) = false := beq_eq_false_iff_ne.mpr c7
   have c7b1 : (t249 != 0) = true := bne_iff_ne.mpr c7
   simp only [Option.some.injEq, Prod.mk.injEq] at H
   obtain ⟨rfl, rfl, rfl, rfl⟩ := H
   go_enter Try.func19, Try.ntmps19
   go_wp2_with (first | ((with_reducible refine gate_dst (N := 3) rfl ?_); refine box_event yz (N := 3) yz (cs := #[.int .i64 a0_0, .int .i64 a0_1, .slice A0_2 l0_2.length c0_2]) (t := 42) gz ?_; intro gb245 hg w57 hbox hb; have BK245 := am (hbox); have GW245 := gwz (g := gb245) HB hg; have GE245 := GW245; replace HB := am (below_step bz hb); clear hb hbox hg) | ((with_reducible refine gate_dst (N := 4) rfl ?_); refine box_event yz (N := 4) yz (cs := #[.slice A1_0 l1_0.length c1_0, .slice A1_1 l1_1.length c1_1]) (t := 25) gz ?_; intro gb246 hg w58 hbox hb; have BK246 := am (hbox); have GW246 := gwz (g := gb246) HB hg; have GE246 := GW246; replace HB := am (below_step bz hb); have NB245_246 := nlt (g' := gb246) BK245 hg; have NB246_245 := ngt (g' := gb246) BK245 hg; replace BK245 := am (blk_below (o := .cells #[.int .i64 a0_0, .int .i64 a0_1, .slice A0_2 l0_2.length c0_2] 42 (0, 0)) (kz BK245) hb); clear hb hbox hg) | ((with_reducible refine gate_dst (N := 6) rfl ?_); refine box_event yz (N := 6) yz (cs := #[.int .i64 0, .int .i64 0, .int .i64 0]) (t := 44) gz ?_; intro gb247 hg w59 hbox hb; have BK247 := am (hbox); have GW247 := gwz (g := gb247) HB hg; have GE247 := GW247; replace HB := am (below_step bz hb); have NB245_247 := nlt (g' := gb247) BK245 hg; have NB247_245 := ngt (g' := gb247) BK245 hg; replace BK245 := am (blk_below (o := .cells #[.int .i64 a0_0, .int .i64 a0_1, .slice A0_2 l0_2.length c0_2] 42 (0, 0)) (kz BK245) hb); have NB246_247 := nlt (g' := gb247) BK246 hg; have NB247_246 := ngt (g' := gb247) BK246 hg; replace BK246 := am (blk_below (o := .cells #[.slice A1_0 l1_0.length c1_0, .slice A1_1 l1_1.length c1_1] 25 (0, 0)) (kz BK246) hb); clear hb hbox hg; have hnb60 := NB245_246.out; have hnc60 := NB246_245.out; have hnb61 := NB245_247.out; have hnc61 := NB247_245.out; obtain ⟨hcz62_0, hcz62_1, hcz62_2, hfz62_0, hfz62_1, hfz62_2⟩ := kc3 BK245.out) | ((with_reducible refine gate_callee (f := 31) rfl ?_); refine goesL_ (some 15) rfl rfl Try.func31 qz rfl #[.agg #[.int .i64 a0_0, .int .i64 a0_1, .slice A0_2 l0_2.length c0_2]] rfl mz ?_; (with_reducible refine (stage_Check.calls k a0_0 a0_1 _ _ l0_2 t248 _ ?side1 ?side2 A4.out).mono ?_); (case side1 => exact cz HR0_2); (case side2 => exact HC0_2.out); rintro e w63 ⟨rfl, hb⟩; refine ⟨_, rfl, ?_⟩; replace BK245 := am (blk_below (o := .cells #[.int .i64 a0_0, .int .i64 a0_1, .slice A0_2 l0_2.length c0_2] 42 (0, 0)) (kz BK245) hb); replace BK246 := am (blk_below (o := .cells #[.slice A1_0 l1_0.length c1_0, .slice A1_1 l1_1.length c1_1] 25 (0, 0)) (kz BK246) hb); replace BK247 := am (blk_below (o := .cells #[.int .i64 0, .int .i64 0, .int .i64 0] 44 (0, 0)) (kz BK247) hb); replace HB := am (below_step bz hb); (try clear hb); (try clear hb2); (try clear hk); (try clear hi); have hnb64 := NB246_247.out; have hnc64 := NB247_246.out; obtain ⟨hcz65_0, hcz65_1, hfz65_0, hfz65_1⟩ := kc2 BK246.out) | ((with_reducible refine gate_callee (f := 21) rfl ?_); refine goesL_ (some 21) rfl rfl Try.func21 qz rfl #[.agg #[.slice A1_0 l1_0.length c1_0, .slice A1_1 l1_1.length c1_1]] rfl mz ?_; (with_reducible refine (movement_Check.calls k _ _ l1_0 _ _ l1_1 t249 _ ?side1 ?side2 ?side3 ?side4 A6.out).mono ?_); (case side1 => exact cz HR1_0); (case side2 => exact HC1_0.out); (case side3 => exact cz HR1_1); (case side4 => exact HC1_1.out); rintro e w66 ⟨rfl, hb⟩; refine ⟨_, rfl, ?_⟩; replace BK245 := am (blk_below (o := .cells #[.int .i64 a0_0, .int .i64 a0_1, .slice A0_2 l0_2.length c0_2] 42 (0, 0)) (kz BK245) hb); replace BK246 := am (blk_below (o := .cells #[.slice A1_0 l1_0.length c1_0, .slice A1_1 l1_1.length c1_1] 25 (0, 0)) (kz BK246) hb); replace BK247 := am (blk_below (o := .cells #[.int .i64 0, .int .i64 0, .int .i64 0] 44 (0, 0)) (kz BK247) hb); replace HB := am (below_step bz hb); (try clear hb); (try clear hb2); (try clear hk); (try clear hi); obtain ⟨hcz67_0, hcz67_1, hcz67_2, hfz67_0, hfz67_1, hfz67_2⟩ := kc3 BK247.out))
   refine bodyPost_ret (results_ct rfl _ _ gb247 44 #[.int .i64 0, .int .i64 0, .int .i64 0] (0, 0) _ rfl (by (with_reducible repeat first | apply kN | apply kD | apply kA); refine blk_put (cs := #[.int .i64 0, .int .i64 0, .int .i64 0]) ?_ 2 _ rfl; (with_reducible repeat first | apply kN | apply kD | apply kA); refine blk_put (cs := #[.int .i64 0, .int .i64 0, .int .i64 0]) ?_ 1 _ rfl; (with_reducible repeat first | apply kN | apply kD | apply kA); refine blk_put (cs := #[.int .i64 0, .int .i64 0, .int .i64 0]) ?_ 0 _ rfl; (with_reducible repeat first | apply kN | apply kD | apply kA); exact BK247.out) Try.underlying44 rfl qz) rfl ?_
   exact ⟨ez, bz⟩
 ·
  rw [if_neg c5] at H
  have c5b0 : (t248 == 0) = false := beq_eq_false_iff_ne.mpr c5
  have c5b1 : (t248 != 0) = true := bne_iff_ne.mpr c5
  simp only [Option.some.injEq, Prod.mk.injEq] at H
  obtain ⟨rfl, rfl, rfl, rfl⟩ := H
  go_enter Try.func19, Try.ntmps19
  go_wp2_with (first | ((with_reducible refine gate_dst (N := 3) rfl ?_); refine box_event yz (N := 3) yz (cs := #[.int .i64 a0_0, .int .i64 a0_1, .slice A0_2 l0_2.length c0_2]) (t := 42) gz ?_; intro gb245 hg w68 hbox hb; have BK245 := am (hbox); have GW245 := gwz (g := gb245) HB hg; have GE245 := GW245; replace HB := am (below_step bz hb); clear hb hbox hg) | ((with_reducible refine gate_dst (N := 4) rfl ?_); refine box_event yz (N := 4) yz (cs := #[.slice A1_0 l1_0.length c1_0, .slice A1_1 l1_1.length c1_1]) (t := 25) gz ?_; intro gb246 hg w69 hbox hb; have BK246 := am (hbox); have GW246 := gwz (g := gb246) HB hg; have GE246 := GW246; replace HB := am (below_step bz hb); have NB245_246 := nlt (g' := gb246) BK245 hg; have NB246_245 := ngt (g' := gb246) BK245 hg; replace BK245 := am (blk_below (o := .cells #[.int .i64 a0_0, .int .i64 a0_1, .slice A0_2 l0_2.length c0_2] 42 (0, 0)) (kz BK245) hb); clear hb hbox hg) | ((with_reducible refine gate_dst (N := 6) rfl ?_); refine box_event yz (N := 6) yz (cs := #[.int .i64 0, .int .i64 0, .int .i64 0]) (t := 44) gz ?_; intro gb247 hg w70 hbox hb; have BK247 := am (hbox); have GW247 := gwz (g := gb247) HB hg; have GE247 := GW247; replace HB := am (below_step bz hb); have NB245_247 := nlt (g' := gb247) BK245 hg; have NB247_245 := ngt (g' := gb247) BK245 hg; replace BK245 := am (blk_below (o := .cells #[.int .i64 a0_0, .int .i64 a0_1, .slice A0_2 l0_2.length c0_2] 42 (0, 0)) (kz BK245) hb); have NB246_247 := nlt (g' := gb247) BK246 hg; have NB247_246 := ngt (g' := gb247) BK246 hg; replace BK246 := am (blk_below (o := .cells #[.slice A1_0 l1_0.length c1_0, .slice A1_1 l1_1.length c1_1] 25 (0, 0)) (kz BK246) hb); clear hb hbox hg; have hnb71 := NB245_246.out; have hnc71 := NB246_245.out; have hnb72 := NB245_247.out; have hnc72 := NB247_245.out; obtain ⟨hcz73_0, hcz73_1, hcz73_2, hfz73_0, hfz73_1, hfz73_2⟩ := kc3 BK245.out) | ((with_reducible refine gate_callee (f := 31) rfl ?_); refine goesL_ (some 15) rfl rfl Try.func31 qz rfl #[.agg #[.int .i64 a0_0, .int .i64 a0_1, .slice A0_2 l0_2.length c0_2]] rfl mz ?_; (with_reducible refine (stage_Check.calls k a0_0 a0_1 _ _ l0_2 t248 _ ?side1 ?side2 A4.out).mono ?_); (case side1 => exact cz HR0_2); (case side2 => exact HC0_2.out); rintro e w74 ⟨rfl, hb⟩; refine ⟨_, rfl, ?_⟩; replace BK245 := am (blk_below (o := .cells #[.int .i64 a0_0, .int .i64 a0_1, .slice A0_2 l0_2.length c0_2] 42 (0, 0)) (kz BK245) hb); replace BK246 := am (blk_below (o := .cells #[.slice A1_0 l1_0.length c1_0, .slice A1_1 l1_1.length c1_1] 25 (0, 0)) (kz BK246) hb); replace BK247 := am (blk_below (o := .cells #[.int .i64 0, .int .i64 0, .int .i64 0] 44 (0, 0)) (kz BK247) hb); replace HB := am (below_step bz hb); (try clear hb); (try clear hb2); (try clear hk); (try clear hi); have hnb75 := NB247_246.out; have hnc75 := NB246_247.out; obtain ⟨hcz76_0, hcz76_1, hcz76_2, hfz76_0, hfz76_1, hfz76_2⟩ := kc3 BK247.out))
  refine bodyPost_ret (results_ct rfl _ _ gb247 44 #[.int .i64 0, .int .i64 0, .int .i64 0] (0, 0) _ rfl (by (with_reducible repeat first | apply kN | apply kD | apply kA); refine blk_put (cs := #[.int .i64 0, .int .i64 0, .int .i64 0]) ?_ 2 _ rfl; (with_reducible repeat first | apply kN | apply kD | apply kA); refine blk_put (cs := #[.int .i64 0, .int .i64 0, .int .i64 0]) ?_ 1 _ rfl; (with_reducible repeat first | apply kN | apply kD | apply kA); refine blk_put (cs := #[.int .i64 0, .int .i64 0, .int .i64 0]) ?_ 0 _ rfl; (with_reducible repeat first | apply kN | apply kD | apply kA); exact BK247.out) Try.underlying44 rfl qz) rfl ?_
  exact ⟨ez, bz⟩

end Go.Proofs.Ytmdmajfgpmopbaa.X
