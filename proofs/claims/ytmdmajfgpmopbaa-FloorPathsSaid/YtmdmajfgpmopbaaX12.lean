import Derived.Test.YtmdmajfgpmopbaaX0
import Derived.Test.YtmdmajfgpmopbaaX1
import Derived.Test.YtmdmajfgpmopbaaX10
import Derived.Test.YtmdmajfgpmopbaaX11
namespace Go.Proofs.Ytmdmajfgpmopbaa.X
open Go.RowKit YtmdmajfgpmopbaaW.PrintWords YtmdmajfgpmopbaaW.PrintLast YtmdmajfgpmopbaaW.PrintMore
attribute [local go_sem] max2_int min2_int max_two min_two max_three min_three max_four min_four
set_option linter.unusedVariables false
set_option linter.unusedSimpArgs false

attribute [local go_sem high] eqA35
/-! ### floor_Path: function 11 -/
def floor_Path.l0 : Nat → List (S35) → List Int → List (S53) → Int → Int → List (S53) → List Int → Option ((List (S35)) × List Int × Int)
 | 0, _, _, _, _, _, _, _ => none
 | k + 1, x6, x7, x16, x17, x18, x119000, x119001 => if x18 < x17 then (if 0 ≤ x18 then (if x18 < (x16.length : Int) then (if x18 > 0 then (if x18 < (x119001.length : Int) then ((floor_step.f x119000 x119001 (wrap64 (x18 - 1))).bind fun bt122 => ((floor_step.f x119000 x119001 x18).bind fun bt124 => (if (bt122.1 == bt124.1 && (bt122.2 == bt124.2)) = true then (floor_Path.l0 k x6 x7 x16 x17 (wrap64 (x18 + 1)) x119000 x119001) else (if x6.length < 8796093022208 then (if x7.length < 17592186044416 then (floor_Path.l0 k (x6 ++ [(⟨(rd_T53 x16 x18).f0.f0, (rd_T53 x16 x18).f0.f1⟩ : S35)]) (x7 ++ [x18]) x16 x17 (wrap64 (x18 + 1)) x119000 x119001) else (none)) else (none))))) else (if x6.length < 8796093022208 then (if x7.length < 17592186044416 then (floor_Path.l0 k (x6 ++ [(⟨(rd_T53 x16 x18).f0.f0, (rd_T53 x16 x18).f0.f1⟩ : S35)]) (x7 ++ [x18]) x16 x17 (wrap64 (x18 + 1)) x119000 x119001) else (none)) else (none))) else (if x6.length < 8796093022208 then (if x7.length < 17592186044416 then (floor_Path.l0 k (x6 ++ [(⟨(rd_T53 x16 x18).f0.f0, (rd_T53 x16 x18).f0.f1⟩ : S35)]) (x7 ++ [x18]) x16 x17 (wrap64 (x18 + 1)) x119000 x119001) else (none)) else (none))) else (none)) else (none)) else (some (x6, x7, 0))
def floor_Path.f (k : Nat) (l0_0 : List (S53)) (l0_1 : List Int) : Option ((List (S35)) × List Int × Int) := (movement_Check.f k l0_0 l0_1).bind fun t119 => (if t119 = 0 then (floor_Path.l0 k ([] : List (S35)) ([] : List Int) l0_0 (l0_0.length : Int) 0 l0_0 l0_1) else (some (([] : List (S35)), ([] : List Int), t119)))
theorem floor_Path.mono_l : ∀ k, (∀ y0 y1 y2 y3 y4 y5 y6, LeO (floor_Path.l0 k y0 y1 y2 y3 y4 y5 y6) (floor_Path.l0 (k + 1) y0 y1 y2 y3 y4 y5 y6))
 | 0 => fun _ _ _ _ _ _ _ r h => by simp [floor_Path.l0] at h
 | k + 1 => by
  have ih0 := floor_Path.mono_l k
  ·
   intro y0 y1 y2 y3 y4 y5 y6
   unfold floor_Path.l0
   repeat' first
   | (with_reducible exact ih0 _ _ _ _ _ _ _)
   | (with_reducible exact movement_Check.mono _ _ _)
   | (with_reducible exact LeO.refl _)
   | (with_reducible exact LeO.none _)
   | (with_reducible refine LeO.ite ?_ ?_)
   | (with_reducible refine LeO.bind ?_ (fun _ => ?_))
   | exact ih0 _ _ _ _ _ _ _
   | exact movement_Check.mono _ _ _
   | exact LeO.none _
   | refine LeO.ite ?_ ?_
   | refine LeO.bind ?_ (fun _ => ?_)
theorem floor_Path.mono : ∀ a0 a1 k, LeO (floor_Path.f k a0 a1) (floor_Path.f (k + 1) a0 a1) := by
 intro a0 a1 k
 have ih0 := floor_Path.mono_l k
 unfold floor_Path.f
 repeat' first
   | (with_reducible exact ih0 _ _ _ _ _ _ _)
   | (with_reducible exact movement_Check.mono _ _ _)
   | (with_reducible exact LeO.refl _)
   | (with_reducible exact LeO.none _)
   | (with_reducible refine LeO.ite ?_ ?_)
   | (with_reducible refine LeO.bind ?_ (fun _ => ?_))
   | exact ih0 _ _ _ _ _ _ _
   | exact movement_Check.mono _ _ _
   | exact LeO.none _
   | refine LeO.ite ?_ ?_
   | refine LeO.bind ?_ (fun _ => ?_)
def floor_Path.T9 : Bool × List (List Nat × List Nat) := (true, [([], []), ([0], [0]), ([1], [1]), ([2], [2]), ([2], [2]), ([4, 2], [2, 4]), ([5, 2], [2, 5]), ([3, 6, 2], [2, 3, 6]), ([2, 7], [2, 7]), ([8, 2], [8]), ([9], [9]), ([9], [9]), ([11, 9], [9, 11]), ([10, 12, 9, 9], [9, 10, 12]), ([9], [9]), ([9], [9]), ([14, 15, 13, 9], [9, 14, 15]), ([13, 16, 9], [9, 13, 16]), ([9, 17], [9, 17])])
def floor_Path.B9 : List Nat := [0, 1, 3, 7, 7, 23, 55, 127, 255, 511, 1023, 1023, 3071, 8191, 1023, 1023, 65535, 131071, 262143]
theorem floor_Path.tab9 : rtab .any (opsOf Try.f11 9) = floor_Path.T9 := by kernel_rfl
theorem floor_Path.bits9 : waitsOk floor_Path.T9.2 floor_Path.B9 = true := by kernel_rfl
set_option maxHeartbeats 8000000 in
set_option maxRecDepth 100000 in
theorem floor_Path.calls (k : Nat) (A0_0 : Option Addr) (c0_0 : Nat) (l0_0 : List (S53)) (A0_1 : Option Addr) (c0_1 : Nat) (l0_1 : List Int) (r1 : List (S35)) (r2 : List Int) (r3 : Int) (w : World) (hr0_0 : Kd.C k53 w A0_0 l0_0.length l0_0) (hc0_0 : l0_0.length ≤ c0_0) (hr0_1 : Kd.C (Kd.int .i64) w A0_1 l0_1.length l0_1) (hc0_1 : l0_1.length ≤ c0_1) (h : floor_Path.f k l0_0 l0_1 = some (r1, r2, r3)) :
  Calls Try.prog 11 #[.agg #[.slice A0_0 l0_0.length c0_0, .slice A0_1 l0_1.length c0_1]] w fun e w' => ∃ v0_ v1_ : Value, e = .returned (.tuple #[v0_, v1_, .int .i64 r3]) ∧ Kd.R k35 35 w' w.heap.size (fun _ => True) v0_ r1 ∧ Kd.R (Kd.int .i64) 3 w' w.heap.size (fun _ => True) v1_ r2 ∧ Below w.heap.size w w' := by
 have hu25 := Try.underlying25
 have hu53 := Try.underlying53
 have hu35 := Try.underlying35
 have HR0_0 := am hr0_0
 have HC0_0 := am hc0_0
 clear hr0_0 hc0_0
 have HR0_1 := am hr0_1
 have HC0_1 := am hc0_1
 clear hr0_1 hc0_1
 have HB := am (Below.refl w.heap.size w)
 have H : ((movement_Check.f k l0_0 l0_1).bind fun t119 => (if t119 = 0 then (floor_Path.l0 k ([] : List (S35)) ([] : List Int) l0_0 (l0_0.length : Int) 0 l0_0 l0_1) else (some (([] : List (S35)), ([] : List Int), t119)))) = some (r1, r2, r3) := h
 clear h
 replace H := Option.bind_eq_some_iff.mp H
 obtain ⟨t119, A20, H⟩ := H
 replace H : (if t119 = 0 then (floor_Path.l0 k ([] : List (S35)) ([] : List Int) l0_0 (l0_0.length : Int) 0 l0_0 l0_1) else (some (([] : List (S35)), ([] : List Int), t119))) = some (r1, r2, r3) := H
 have A2 := am A20
 clear A20
 by_cases c3 : t119 = 0
 ·
  rw [if_pos c3] at H
  have c3b0 : (t119 == 0) = true := beq_iff_eq.mpr c3
  have c3b1 : (t119 != 0) = false := bne_eq_false_iff_eq.mpr c3
  clear c3
  have H' := am H
  clear H
  go_enter Try.func11, Try.ntmps11
  go_wp2_with (first | ((with_reducible refine gate_dst (N := 1) rfl ?_); refine box_event yz (N := 1) yz (cs := #[.slice A0_0 l0_0.length c0_0, .slice A0_1 l0_1.length c0_1]) (t := 25) gz ?_; intro gb118 hg w4 hbox hb; have BK118 := am (hbox); have GW118 := gwz (g := gb118) HB hg; have GE118 := GW118; replace HB := am (below_step bz hb); clear hb hbox hg; obtain ⟨hcz5_0, hcz5_1, hfz5_0, hfz5_1⟩ := kc2 BK118.out) | ((with_reducible refine gate_callee (f := 21) rfl ?_); refine goesL_ (some 11) rfl rfl Try.func21 qz rfl #[.agg #[.slice A0_0 l0_0.length c0_0, .slice A0_1 l0_1.length c0_1]] rfl mz ?_; (with_reducible refine (movement_Check.calls k _ _ l0_0 _ _ l0_1 t119 _ ?side1 ?side2 ?side3 ?side4 A2.out).mono ?_); (case side1 => exact cz HR0_0); (case side2 => exact HC0_0.out); (case side3 => exact cz HR0_1); (case side4 => exact HC0_1.out); rintro e w6 ⟨rfl, hb⟩; refine ⟨_, rfl, ?_⟩; replace BK118 := am (blk_below (o := .cells #[.slice A0_0 l0_0.length c0_0, .slice A0_1 l0_1.length c0_1] 25 (0, 0)) (kz BK118) hb); replace HB := am (below_step bz hb); (try clear hb); (try clear hb2); (try clear hk); (try clear hi); obtain ⟨hcz7_0, hcz7_1, hfz7_0, hfz7_1⟩ := kc2 BK118.out))
  go_loopg [6, 7, 18] k (fun kq v6 v7 v18 w' => ∃ (x6_1 : List (S35)) (x7_1 : List Int) (x18_1 : Int), v18 = .int .i64 x18_1 ∧ Aside0 (floor_Path.l0 kq x6_1 x7_1 l0_0 (l0_0.length : Int) x18_1 l0_0 l0_1 = some (r1, r2, r3)) ∧ Aside0 (kq ≤ k) ∧ Aside0 (Kd.R k35 35 w' w.heap.size (fun _ => True) v6 x6_1) ∧ Aside0 (Kd.R (Kd.int .i64) 3 w' w.heap.size (fun _ => True) v7 x7_1) ∧ Aside0 (w'.heap[gb118]? = some (.cells #[(.slice A0_0 l0_0.length c0_0), (.slice A0_1 l0_1.length c0_1)] 25 (0, 0))) ∧ Aside0 (Below w.heap.size w w'))
  case atStart => exact ⟨(([] : List (S35))), (([] : List Int)), (0), sz, H', ⟨Nat.le_refl _⟩, ⟨by first | exact Kd.R_nil _ _ _ _ _ | exact Kd.N_nil _ _ _ _ _ | exact Kd.V_nil _ _ _ _ _ | exact Kd.Q_nil _ _ _ _ _ | exact Kd.S_nil _ _ _ _ _⟩, ⟨by first | exact Kd.R_nil _ _ _ _ _ | exact Kd.N_nil _ _ _ _ _ | exact Kd.V_nil _ _ _ _ _ | exact Kd.Q_nil _ _ _ _ _ | exact Kd.S_nil _ _ _ _ _⟩, ⟨kz BK118⟩, ⟨bz⟩⟩
  case round =>
   clear H'
   try clear c1
   try clear c2
   try clear p2
   try clear c3
   try clear c3b0
   try clear c3b1
   try clear hcz5_0
   try clear hcz5_1
   try clear hcz7_0
   try clear hcz7_1
   try clear hfz5_0
   try clear hfz5_1
   try clear hfz7_0
   try clear hfz7_1
   obtain ⟨x6_1, x7_1, x18_1, rfl, HA, HK1, HO_6, HO_7, BK118, HB⟩ := hrel
   cases gk with
   | zero => exact absurd HA.out (by simp [floor_Path.l0])
   | succ k1 =>
    have H := HA.out
    clear HA
    simp only [floor_Path.l0] at H
    by_cases c8 : x18_1 < (l0_0.length : Int)
    ·
     rw [if_pos c8] at H
     have c8b0 := decide_eq_true c8
     clear c8
     by_cases c9 : 0 ≤ x18_1; rotate_left
     · rw [if_neg c9] at H; exact absurd H (by simp)
     rw [if_pos c9] at H
     have c9b0 := decide_eq_true c9
     clear c9
     by_cases c10 : x18_1 < (l0_0.length : Int); rotate_left
     · rw [if_neg c10] at H; exact absurd H (by simp)
     rw [if_pos c10] at H
     have c10b0 := decide_eq_true c10
     clear c10
     by_cases c11 : x18_1 > 0
     ·
      rw [if_pos c11] at H
      have c11b0 := decide_eq_true c11
      clear c11
      by_cases c12 : x18_1 < (l0_1.length : Int)
      ·
       rw [if_pos c12] at H
       have c12b0 := decide_eq_true c12
       clear c12
       replace H := Option.bind_eq_some_iff.mp H
       obtain ⟨⟨t122, t123⟩, A130, H⟩ := H
       replace H : ((floor_step.f l0_0 l0_1 x18_1).bind fun bt124 => (if (t122 == bt124.1 && (t123 == bt124.2)) = true then (floor_Path.l0 k1 x6_1 x7_1 l0_0 (l0_0.length : Int) (wrap64 (x18_1 + 1)) l0_0 l0_1) else (if x6_1.length < 8796093022208 then (if x7_1.length < 17592186044416 then (floor_Path.l0 k1 (x6_1 ++ [(⟨(rd_T53 l0_0 x18_1).f0.f0, (rd_T53 l0_0 x18_1).f0.f1⟩ : S35)]) (x7_1 ++ [x18_1]) l0_0 (l0_0.length : Int) (wrap64 (x18_1 + 1)) l0_0 l0_1) else (none)) else (none)))) = some (r1, r2, r3) := H
       have A13 := am A130
       clear A130
       replace H := Option.bind_eq_some_iff.mp H
       obtain ⟨⟨t124, t125⟩, A140, H⟩ := H
       replace H : (if (t122 == t124 && (t123 == t125)) = true then (floor_Path.l0 k1 x6_1 x7_1 l0_0 (l0_0.length : Int) (wrap64 (x18_1 + 1)) l0_0 l0_1) else (if x6_1.length < 8796093022208 then (if x7_1.length < 17592186044416 then (floor_Path.l0 k1 (x6_1 ++ [(⟨(rd_T53 l0_0 x18_1).f0.f0, (rd_T53 l0_0 x18_1).f0.f1⟩ : S35)]) (x7_1 ++ [x18_1]) l0_0 (l0_0.length : Int) (wrap64 (x18_1 + 1)) l0_0 l0_1) else (none)) else (none))) = some (r1, r2, r3) := H
       have A14 := am A140
       clear A140
       by_cases c15 : (t122 == t124 && (t123 == t125)) = true
       ·
        rw [if_pos c15] at H
        have c15b0 : (t122 == t124 && (t123 == t125)) = true := c15
        (try (have c15b1 : decide (t122 = t124 && (t123 == t125)) = true := by simpa using c15))
        (try (have c15b2 : (t122 == t124 && (t123 == t125)) = true := by simpa using c15))
        clear c15
        have H' := am H
        clear H
        have p120 : 0 ≤ (x18_1 : Int) := az
        have q120 : x18_1 < (l0_0.length : Int) := az
        obtain ⟨ad120, ce120, e120, hK120, hW120⟩ := Kd.C_rowAt (HR0_0.out) (z53) x18_1 p120 q120
        obtain rfl := k53_open (show k53.K _ (rd_T53 l0_0 x18_1) _ from hK120)
        clear hK120
        replace hW120 := RowAt.below hW120 HB.out
        cases e120
        have HW120 := am hW120
        clear hW120
        replace p120 := eq_true p120
        replace q120 := eq_true q120
        try go_wp2_with (first | ((with_reducible refine gate_dst (N := 22) rfl ?_); refine' load_big ?h0 53 (.tmp 21) ?ho _ ?hx _ _ ?hc Try.underlying53 ?hd ?hi ?_; (case h0 => rfl); (case ho => rfl); (case hx => first | rfl | (go_simp; rfl)); (case hc => first | exact HW120.out | (simpa only [add_plain] using HW120.out) | (simpa only [Addr.add, Nat.zero_add] using HW120.out)); (case hd => rfl); (case hi => rfl)) | ((with_reducible refine gate_dst (N := 9) rfl ?_); refine box_event yz (N := 9) yz (cs := #[.int .i64 0, .int .i64 0, .int .i64 0, .int .i64 0, .int .i64 0, .int .i64 0, .int .i64 0, .int .i64 0, .int .i64 0, .int .i64 0, .int .i64 0, .int .i64 0, .int .i64 0, .int .i64 0, .int .i64 0, .int .i64 0, .int .i64 0, .int .i64 0, .int .i64 0, .int .i64 0, .int .i64 0, .int .i64 0]) (t := 53) gz ?_; intro gb121 hg_ w16 hbox_ hb_; have HA121 := am (And.intro hbox_ (And.intro hb_ hg_)); clear hbox_ hb_ hg_) | ((with_reducible refine row_gate (t := 53) (p := 9) rfl ?_); refine row_event ?h0 53 (.tmp 9) (.tmp 22) ?ho ?hd gb121 #[.int .i64 ((rd_T53 l0_0 x18_1).f0.f0), .int .i64 ((rd_T53 l0_0 x18_1).f0.f1), .int .i64 ((rd_T53 l0_0 x18_1).f1), .int .i64 ((rd_T53 l0_0 x18_1).f2), .int .i64 ((rd_T53 l0_0 x18_1).f3.f0.f0), .int .i64 ((rd_T53 l0_0 x18_1).f3.f0.f1), .int .i64 ((rd_T53 l0_0 x18_1).f3.f0.f2), .int .i64 ((rd_T53 l0_0 x18_1).f3.f1.f0), .int .i64 ((rd_T53 l0_0 x18_1).f3.f1.f1), .int .i64 ((rd_T53 l0_0 x18_1).f3.f1.f2), .int .i64 ((rd_T53 l0_0 x18_1).f3.f2.f0), .int .i64 ((rd_T53 l0_0 x18_1).f3.f2.f1), .int .i64 ((rd_T53 l0_0 x18_1).f3.f2.f2), .int .i64 ((rd_T53 l0_0 x18_1).f3.f3.f0), .int .i64 ((rd_T53 l0_0 x18_1).f3.f3.f1), .int .i64 ((rd_T53 l0_0 x18_1).f3.f3.f2), .int .i64 ((rd_T53 l0_0 x18_1).f3.f4.f0), .int .i64 ((rd_T53 l0_0 x18_1).f3.f4.f1), .int .i64 ((rd_T53 l0_0 x18_1).f3.f4.f2), .int .i64 ((rd_T53 l0_0 x18_1).f3.f5.f0), .int .i64 ((rd_T53 l0_0 x18_1).f3.f5.f1), .int .i64 ((rd_T53 l0_0 x18_1).f3.f5.f2)] ?hx ?hy _ _ HA121.out.1 ?hi ?hs ?h1 ?_; (case h0 => rfl); (case ho => rfl); (case hd => rfl); (case hx => first | rfl | (go_simp; rfl)); (case hy => first | rfl | (go_simp; rfl)); (case hi => rfl); (case hs => rfl); (case h1 => simp [Value.oneCell']); intro w17 hbox ho_ hb_; have hg := HA121.out.2.2; have hb := hb_ _ _ HA121.out.2.1 (Nat.le_of_eq hg.symm); clear ho_ hb_; replace HO_6 := am (Kd.R_below (rz HO_6) hb); replace HO_7 := am (Kd.R_below (rz HO_7) hb); have BK121 := am (hbox); have GW121 := gwz (g := gb121) HB hg; have GE121 := GW121; replace HB := am (below_step bz hb); have NB118_121 := nlt (g' := gb121) BK118 hg; have NB121_118 := ngt (g' := gb121) BK118 hg; replace BK118 := am (blk_below (o := .cells #[.slice (some ad120) l0_0.length c0_0, .slice A0_1 l0_1.length c0_1] 25 (0, 0)) (kz BK118) hb); clear hb hbox hg))
        have n0_ := am (Kd.R_drew HO_6.out)
        have n1_ := am (Kd.R_drew HO_7.out)
        have n2_ := am (blk_drew BK118.out)
        have n3_ := am (blk_drew BK121.out)
        have n4_ := am (below_drew1 HB.out)
        clear HO_6
        clear HO_7
        clear BK118
        clear BK121
        clear HB
        have HO_6 := n0_
        have HO_7 := n1_
        have BK118 := n2_
        have BK121 := n3_
        have HB := n4_
        clear n0_ n1_ n2_ n3_ n4_
        refine start_ (n := 19) (S := fun w' => w'.cell? ⟨gb118, 0, none⟩ = some (.slice (some ad120) l0_0.length c0_0) ∧ w'.cell? ⟨gb118, 1, none⟩ = some (.slice A0_1 l0_1.length c0_1)) (ds := []) (bm 19 0) qz rfl rfl ⟨(blk_cell BK118.out 0).trans rfl, (blk_cell BK118.out 1).trans rfl⟩ (fun hHeld => ?_); refine with_tabW floor_Path.tab9 floor_Path.bits9 (fun HT_ HW_ => ?_)
        generalize w17.drew = w18 at HO_6 HO_7 BK118 BK121 HB hHeld ⊢
        refine pa (i := 0) (N := some 23) (bm 19 1) HT_ ?_
        refine pa (i := 1) (N := some 24) (bm 19 3) HT_ ?_
        refine pa (i := 2) (N := some 25) (bm 19 7) HT_ ?_
        refine pa (i := 3) (N := some 26) (bm 19 15) HT_ ?_
        refine pa (i := 4) (N := some 27) (bm 19 31) HT_ ?_
        refine take_ (i := 5) (N := some 28) (v := ?_) (a' := ?_) (bm 19 63) rfl rfl (take_ofW HT_.out HW_.out qz) iz (Or.inl ⟨by rfl, ?_⟩) hHeld ?_ ?_
        rotate_left
        ·
         rintro w' ⟨s0, s1⟩
         go_simp
         with_reducible rfl
        rotate_left
        ·
         simp only [Act.put, aS, lZ, lS, i64_w, i32_w]
         rfl
        refine pa (i := 6) (N := some 29) (bm 19 127) HT_ ?_
        refine pa (i := 7) (N := some 30) (bm 19 255) HT_ ?_
        refine pa (i := 8) (N := some 31) (bm 19 511) HT_ ?_
        refine pa (i := 9) (N := some 32) (bm 19 1023) HT_ ?_
        refine pa (i := 11) (N := some 34) (bm 19 3071) HT_ ?_
        refine pa (i := 12) (N := some 35) (bm 19 7167) HT_ ?_
        refine pa (i := 15) (N := some 38) (bm 19 39935) HT_ ?_
        refine take_ (i := 10) (N := some 33) (v := ?_) (a' := ?_) (bm 19 40959) rfl rfl (take_ofW HT_.out HW_.out qz) iz (Or.inl ⟨by rfl, ?_⟩) hHeld ?_ ?_
        rotate_left
        ·
         rintro w' ⟨s0, s1⟩
         go_simp
         with_reducible rfl
        rotate_left
        ·
         simp only [Act.put, aS, lZ, lS, i64_w, i32_w]
         rfl
        refine take_ (i := 14) (N := some 37) (v := ?_) (a' := ?_) (bm 19 57343) rfl rfl (take_ofW HT_.out HW_.out qz) iz (Or.inl ⟨by rfl, ?_⟩) hHeld ?_ ?_
        rotate_left
        ·
         rintro w' ⟨s0, s1⟩
         go_simp
         with_reducible rfl
        rotate_left
        ·
         simp only [Act.put, aS, lZ, lS, i64_w, i32_w]
         rfl
        refine one_ (i := 13) (N := some 36) (bm 19 65535) rfl rfl (one_of HT_.out qz) (by decide) (fun K hK => ?_)
        refine goes_ Try.func27 qz rfl #[.agg #[.slice (some ad120) l0_0.length c0_0, .slice A0_1 l0_1.length c0_1], .int .i64 (wrap64 (x18_1 - 1))] (by rfl) rfl rfl mz ?_
        with_reducible refine (floor_step.calls _ _ l0_0 _ _ l0_1 (wrap64 (x18_1 - 1)) t122 t123 _ ?side1 ?side2 ?side3 ?side4 A13.out).mono ?_
        (case side1 => exact cz HR0_0)
        (case side2 => exact HC0_0.out)
        (case side3 => exact cz HR0_1)
        (case side4 => exact HC0_1.out)
        rintro e w19 ⟨rfl, hb⟩
        refine ⟨_, rfl, ?_⟩
        have n0_ := am (Kd.R_below (rz HO_6) hb)
        have n1_ := am (Kd.R_below (rz HO_7) hb)
        have n2_ := am (blk_below (o := .cells #[.slice (some ad120) l0_0.length c0_0, .slice A0_1 l0_1.length c0_1] 25 (0, 0)) (kz BK118) hb)
        have n3_ := am (blk_below (o := .cells #[.int .i64 ((rd_T53 l0_0 x18_1).f0.f0), .int .i64 ((rd_T53 l0_0 x18_1).f0.f1), .int .i64 ((rd_T53 l0_0 x18_1).f1), .int .i64 ((rd_T53 l0_0 x18_1).f2), .int .i64 ((rd_T53 l0_0 x18_1).f3.f0.f0), .int .i64 ((rd_T53 l0_0 x18_1).f3.f0.f1), .int .i64 ((rd_T53 l0_0 x18_1).f3.f0.f2), .int .i64 ((rd_T53 l0_0 x18_1).f3.f1.f0), .int .i64 ((rd_T53 l0_0 x18_1).f3.f1.f1), .int .i64 ((rd_T53 l0_0 x18_1).f3.f1.f2), .int .i64 ((rd_T53 l0_0 x18_1).f3.f2.f0), .int .i64 ((rd_T53 l0_0 x18_1).f3.f2.f1), .int .i64 ((rd_T53 l0_0 x18_1).f3.f2.f2), .int .i64 ((rd_T53 l0_0 x18_1).f3.f3.f0), .int .i64 ((rd_T53 l0_0 x18_1).f3.f3.f1), .int .i64 ((rd_T53 l0_0 x18_1).f3.f3.f2), .int .i64 ((rd_T53 l0_0 x18_1).f3.f4.f0), .int .i64 ((rd_T53 l0_0 x18_1).f3.f4.f1), .int .i64 ((rd_T53 l0_0 x18_1).f3.f4.f2), .int .i64 ((rd_T53 l0_0 x18_1).f3.f5.f0), .int .i64 ((rd_T53 l0_0 x18_1).f3.f5.f1), .int .i64 ((rd_T53 l0_0 x18_1).f3.f5.f2)] 53 (0, 0)) (kz BK121) hb)
        have n4_ := am (below_step bz hb)
        clear HO_6
        clear HO_7
        clear BK118
        clear BK121
        clear HB
        have HO_6 := n0_
        have HO_7 := n1_
        have BK118 := n2_
        have BK121 := n3_
        have HB := n4_
        clear n0_ n1_ n2_ n3_ n4_
        (try clear hb)
        (try clear hb2)
        (try clear hk)
        (try clear hi)
        refine hK.out _ _ ⟨(blk_cell BK118.out 0).trans rfl, (blk_cell BK118.out 1).trans rfl⟩ (fun hHeld => ?_)
        clear hK K
        refine norm_ (a' := ?_) ?_ ?_
        rotate_left
        ·
         show Act.put _ (some 36) _ = _
         simp only [Act.put, aS, lZ, lS, i64_w, i32_w]
         rfl
        refine one_ (i := 16) (N := some 39) (bm 19 131071) rfl rfl (one_of HT_.out qz) (by decide) (fun K hK => ?_)
        refine goes_ Try.func27 qz rfl #[.agg #[.slice (some ad120) l0_0.length c0_0, .slice A0_1 l0_1.length c0_1], .int .i64 x18_1] (by rfl) rfl rfl mz ?_
        with_reducible refine (floor_step.calls _ _ l0_0 _ _ l0_1 x18_1 t124 t125 _ ?side1 ?side2 ?side3 ?side4 A14.out).mono ?_
        (case side1 => exact cz HR0_0)
        (case side2 => exact HC0_0.out)
        (case side3 => exact cz HR0_1)
        (case side4 => exact HC0_1.out)
        rintro e w20 ⟨rfl, hb⟩
        refine ⟨_, rfl, ?_⟩
        have n0_ := am (Kd.R_below (rz HO_6) hb)
        have n1_ := am (Kd.R_below (rz HO_7) hb)
        have n2_ := am (blk_below (o := .cells #[.slice (some ad120) l0_0.length c0_0, .slice A0_1 l0_1.length c0_1] 25 (0, 0)) (kz BK118) hb)
        have n3_ := am (blk_below (o := .cells #[.int .i64 ((rd_T53 l0_0 x18_1).f0.f0), .int .i64 ((rd_T53 l0_0 x18_1).f0.f1), .int .i64 ((rd_T53 l0_0 x18_1).f1), .int .i64 ((rd_T53 l0_0 x18_1).f2), .int .i64 ((rd_T53 l0_0 x18_1).f3.f0.f0), .int .i64 ((rd_T53 l0_0 x18_1).f3.f0.f1), .int .i64 ((rd_T53 l0_0 x18_1).f3.f0.f2), .int .i64 ((rd_T53 l0_0 x18_1).f3.f1.f0), .int .i64 ((rd_T53 l0_0 x18_1).f3.f1.f1), .int .i64 ((rd_T53 l0_0 x18_1).f3.f1.f2), .int .i64 ((rd_T53 l0_0 x18_1).f3.f2.f0), .int .i64 ((rd_T53 l0_0 x18_1).f3.f2.f1), .int .i64 ((rd_T53 l0_0 x18_1).f3.f2.f2), .int .i64 ((rd_T53 l0_0 x18_1).f3.f3.f0), .int .i64 ((rd_T53 l0_0 x18_1).f3.f3.f1), .int .i64 ((rd_T53 l0_0 x18_1).f3.f3.f2), .int .i64 ((rd_T53 l0_0 x18_1).f3.f4.f0), .int .i64 ((rd_T53 l0_0 x18_1).f3.f4.f1), .int .i64 ((rd_T53 l0_0 x18_1).f3.f4.f2), .int .i64 ((rd_T53 l0_0 x18_1).f3.f5.f0), .int .i64 ((rd_T53 l0_0 x18_1).f3.f5.f1), .int .i64 ((rd_T53 l0_0 x18_1).f3.f5.f2)] 53 (0, 0)) (kz BK121) hb)
        have n4_ := am (below_step bz hb)
        clear HO_6
        clear HO_7
        clear BK118
        clear BK121
        clear HB
        have HO_6 := n0_
        have HO_7 := n1_
        have BK118 := n2_
        have BK121 := n3_
        have HB := n4_
        clear n0_ n1_ n2_ n3_ n4_
        (try clear hb)
        (try clear hb2)
        (try clear hk)
        (try clear hi)
        refine hK.out _ _ ⟨(blk_cell BK118.out 0).trans rfl, (blk_cell BK118.out 1).trans rfl⟩ (fun hHeld => ?_)
        clear hK K
        refine norm_ (a' := ?_) ?_ ?_
        rotate_left
        ·
         show Act.put _ (some 39) _ = _
         simp only [Act.put, aS, lZ, lS, i64_w, i32_w]
         rfl
        refine pa (i := 17) (N := some 40) (bm 19 262143) HT_ ?_
        refine pa (i := 18) (N := some 41) (bm 19 524287) HT_ ?_
        refine done_ (done_of HT_.out qz) ?_
        try go_wp2
        go_roundg k1
        case measure => have := HK1.out; omega
        case rel => exact ⟨(x6_1), (x7_1), (wrap64 (x18_1 + 1)), sz, H', ⟨by have := HK1.out; omega⟩, ⟨rz HO_6⟩, ⟨rz HO_7⟩, ⟨kz BK118⟩, ⟨bz⟩⟩
       ·
        rw [if_neg c15] at H
        have c15b0 : (t122 == t124 && (t123 == t125)) = false := by simpa using c15
        (try (have c15b1 : decide (t122 = t124 && (t123 == t125)) = false := by simpa using c15))
        (try (have c15b2 : (t122 == t124 && (t123 == t125)) = false := by simpa using c15))
        (try (have c15b3 : ¬ (t122 = t124 && (t123 == t125)) := by simpa using c15))
        clear c15
        by_cases c21 : x6_1.length < 8796093022208; rotate_left
        · rw [if_neg c21] at H; exact absurd H (by simp)
        rw [if_pos c21] at H
        have LMc21 := am c21
        clear c21
        obtain ⟨y126, hy126⟩ : ∃ y_ : List (S35), y_ = (x6_1 ++ [(⟨(rd_T53 l0_0 x18_1).f0.f0, (rd_T53 l0_0 x18_1).f0.f1⟩ : S35)]) := ⟨_, rfl⟩
        replace H : (if x7_1.length < 17592186044416 then (floor_Path.l0 k1 y126 (x7_1 ++ [x18_1]) l0_0 (l0_0.length : Int) (wrap64 (x18_1 + 1)) l0_0 l0_1) else (none)) = some (r1, r2, r3) := by first | (rw [hy126]; with_reducible exact H) | (have H2_ := (Option.bind_some _ _).symm.trans H; rw [hy126]; with_reducible exact H2_) | (have H2_ := (Option.bind_some _ _).symm.trans H; with_reducible exact H2_) | with_reducible exact H | (rw [hy126]; exact H) | exact H
        have Ny126 := am hy126
        clear hy126
        by_cases c22 : x7_1.length < 17592186044416; rotate_left
        · rw [if_neg c22] at H; exact absurd H (by simp)
        rw [if_pos c22] at H
        have LMc22 := am c22
        clear c22
        obtain ⟨y129, hy129⟩ : ∃ y_ : List Int, y_ = (x7_1 ++ [x18_1]) := ⟨_, rfl⟩
        replace H : (floor_Path.l0 k1 y126 y129 l0_0 (l0_0.length : Int) (wrap64 (x18_1 + 1)) l0_0 l0_1) = some (r1, r2, r3) := by first | (rw [hy129]; with_reducible exact H) | (have H2_ := (Option.bind_some _ _).symm.trans H; rw [hy129]; with_reducible exact H2_) | (have H2_ := (Option.bind_some _ _).symm.trans H; with_reducible exact H2_) | with_reducible exact H | (rw [hy129]; exact H) | exact H
        have Ny129 := am hy129
        clear hy129
        have H' := am H
        clear H
        have p120 : 0 ≤ (x18_1 : Int) := az
        have q120 : x18_1 < (l0_0.length : Int) := az
        obtain ⟨ad120, ce120, e120, hK120, hW120⟩ := Kd.C_rowAt (HR0_0.out) (z53) x18_1 p120 q120
        obtain rfl := k53_open (show k53.K _ (rd_T53 l0_0 x18_1) _ from hK120)
        clear hK120
        replace hW120 := RowAt.below hW120 HB.out
        cases e120
        have HW120 := am hW120
        clear hW120
        replace p120 := eq_true p120
        replace q120 := eq_true q120
        try go_wp2_with (first | ((with_reducible refine gate_dst (N := 22) rfl ?_); refine' load_big ?h0 53 (.tmp 21) ?ho _ ?hx _ _ ?hc Try.underlying53 ?hd ?hi ?_; (case h0 => rfl); (case ho => rfl); (case hx => first | rfl | (go_simp; rfl)); (case hc => first | exact HW120.out | (simpa only [add_plain] using HW120.out) | (simpa only [Addr.add, Nat.zero_add] using HW120.out)); (case hd => rfl); (case hi => rfl)) | ((with_reducible refine gate_dst (N := 9) rfl ?_); refine box_event yz (N := 9) yz (cs := #[.int .i64 0, .int .i64 0, .int .i64 0, .int .i64 0, .int .i64 0, .int .i64 0, .int .i64 0, .int .i64 0, .int .i64 0, .int .i64 0, .int .i64 0, .int .i64 0, .int .i64 0, .int .i64 0, .int .i64 0, .int .i64 0, .int .i64 0, .int .i64 0, .int .i64 0, .int .i64 0, .int .i64 0, .int .i64 0]) (t := 53) gz ?_; intro gb121 hg_ w23 hbox_ hb_; have HA121 := am (And.intro hbox_ (And.intro hb_ hg_)); clear hbox_ hb_ hg_) | ((with_reducible refine row_gate (t := 53) (p := 9) rfl ?_); refine row_event ?h0 53 (.tmp 9) (.tmp 22) ?ho ?hd gb121 #[.int .i64 ((rd_T53 l0_0 x18_1).f0.f0), .int .i64 ((rd_T53 l0_0 x18_1).f0.f1), .int .i64 ((rd_T53 l0_0 x18_1).f1), .int .i64 ((rd_T53 l0_0 x18_1).f2), .int .i64 ((rd_T53 l0_0 x18_1).f3.f0.f0), .int .i64 ((rd_T53 l0_0 x18_1).f3.f0.f1), .int .i64 ((rd_T53 l0_0 x18_1).f3.f0.f2), .int .i64 ((rd_T53 l0_0 x18_1).f3.f1.f0), .int .i64 ((rd_T53 l0_0 x18_1).f3.f1.f1), .int .i64 ((rd_T53 l0_0 x18_1).f3.f1.f2), .int .i64 ((rd_T53 l0_0 x18_1).f3.f2.f0), .int .i64 ((rd_T53 l0_0 x18_1).f3.f2.f1), .int .i64 ((rd_T53 l0_0 x18_1).f3.f2.f2), .int .i64 ((rd_T53 l0_0 x18_1).f3.f3.f0), .int .i64 ((rd_T53 l0_0 x18_1).f3.f3.f1), .int .i64 ((rd_T53 l0_0 x18_1).f3.f3.f2), .int .i64 ((rd_T53 l0_0 x18_1).f3.f4.f0), .int .i64 ((rd_T53 l0_0 x18_1).f3.f4.f1), .int .i64 ((rd_T53 l0_0 x18_1).f3.f4.f2), .int .i64 ((rd_T53 l0_0 x18_1).f3.f5.f0), .int .i64 ((rd_T53 l0_0 x18_1).f3.f5.f1), .int .i64 ((rd_T53 l0_0 x18_1).f3.f5.f2)] ?hx ?hy _ _ HA121.out.1 ?hi ?hs ?h1 ?_; (case h0 => rfl); (case ho => rfl); (case hd => rfl); (case hx => first | rfl | (go_simp; rfl)); (case hy => first | rfl | (go_simp; rfl)); (case hi => rfl); (case hs => rfl); (case h1 => simp [Value.oneCell']); intro w24 hbox ho_ hb_; have hg := HA121.out.2.2; have hb := hb_ _ _ HA121.out.2.1 (Nat.le_of_eq hg.symm); clear ho_ hb_; replace HO_6 := am (Kd.R_below (rz HO_6) hb); replace HO_7 := am (Kd.R_below (rz HO_7) hb); have BK121 := am (hbox); have GW121 := gwz (g := gb121) HB hg; have GE121 := GW121; replace HB := am (below_step bz hb); have NB118_121 := nlt (g' := gb121) BK118 hg; have NB121_118 := ngt (g' := gb121) BK118 hg; replace BK118 := am (blk_below (o := .cells #[.slice (some ad120) l0_0.length c0_0, .slice A0_1 l0_1.length c0_1] 25 (0, 0)) (kz BK118) hb); clear hb hbox hg))
        have n0_ := am (Kd.R_drew HO_6.out)
        have n1_ := am (Kd.R_drew HO_7.out)
        have n2_ := am (blk_drew BK118.out)
        have n3_ := am (blk_drew BK121.out)
        have n4_ := am (below_drew1 HB.out)
        clear HO_6
        clear HO_7
        clear BK118
        clear BK121
        clear HB
        have HO_6 := n0_
        have HO_7 := n1_
        have BK118 := n2_
        have BK121 := n3_
        have HB := n4_
        clear n0_ n1_ n2_ n3_ n4_
        refine start_ (n := 19) (S := fun w' => w'.cell? ⟨gb118, 0, none⟩ = some (.slice (some ad120) l0_0.length c0_0) ∧ w'.cell? ⟨gb118, 1, none⟩ = some (.slice A0_1 l0_1.length c0_1)) (ds := []) (bm 19 0) qz rfl rfl ⟨(blk_cell BK118.out 0).trans rfl, (blk_cell BK118.out 1).trans rfl⟩ (fun hHeld => ?_); refine with_tabW floor_Path.tab9 floor_Path.bits9 (fun HT_ HW_ => ?_)
        generalize w24.drew = w25 at HO_6 HO_7 BK118 BK121 HB hHeld ⊢
        refine pa (i := 0) (N := some 23) (bm 19 1) HT_ ?_
        refine pa (i := 1) (N := some 24) (bm 19 3) HT_ ?_
        refine pa (i := 2) (N := some 25) (bm 19 7) HT_ ?_
        refine pa (i := 3) (N := some 26) (bm 19 15) HT_ ?_
        refine pa (i := 4) (N := some 27) (bm 19 31) HT_ ?_
        refine take_ (i := 5) (N := some 28) (v := ?_) (a' := ?_) (bm 19 63) rfl rfl (take_ofW HT_.out HW_.out qz) iz (Or.inl ⟨by rfl, ?_⟩) hHeld ?_ ?_
        rotate_left
        ·
         rintro w' ⟨s0, s1⟩
         go_simp
         with_reducible rfl
        rotate_left
        ·
         simp only [Act.put, aS, lZ, lS, i64_w, i32_w]
         rfl
        refine pa (i := 6) (N := some 29) (bm 19 127) HT_ ?_
        refine pa (i := 7) (N := some 30) (bm 19 255) HT_ ?_
        refine pa (i := 8) (N := some 31) (bm 19 511) HT_ ?_
        refine pa (i := 9) (N := some 32) (bm 19 1023) HT_ ?_
        refine pa (i := 11) (N := some 34) (bm 19 3071) HT_ ?_
        refine pa (i := 12) (N := some 35) (bm 19 7167) HT_ ?_
        refine pa (i := 15) (N := some 38) (bm 19 39935) HT_ ?_
        refine take_ (i := 10) (N := some 33) (v := ?_) (a' := ?_) (bm 19 40959) rfl rfl (take_ofW HT_.out HW_.out qz) iz (Or.inl ⟨by rfl, ?_⟩) hHeld ?_ ?_
        rotate_left
        ·
         rintro w' ⟨s0, s1⟩
         go_simp
         with_reducible rfl
        rotate_left
        ·
         simp only [Act.put, aS, lZ, lS, i64_w, i32_w]
         rfl
        refine take_ (i := 14) (N := some 37) (v := ?_) (a' := ?_) (bm 19 57343) rfl rfl (take_ofW HT_.out HW_.out qz) iz (Or.inl ⟨by rfl, ?_⟩) hHeld ?_ ?_
        rotate_left
        ·
         rintro w' ⟨s0, s1⟩
         go_simp
         with_reducible rfl
        rotate_left
        ·
         simp only [Act.put, aS, lZ, lS, i64_w, i32_w]
         rfl
        refine one_ (i := 13) (N := some 36) (bm 19 65535) rfl rfl (one_of HT_.out qz) (by decide) (fun K hK => ?_)
        refine goes_ Try.func27 qz rfl #[.agg #[.slice (some ad120) l0_0.length c0_0, .slice A0_1 l0_1.length c0_1], .int .i64 (wrap64 (x18_1 - 1))] (by rfl) rfl rfl mz ?_
        with_reducible refine (floor_step.calls _ _ l0_0 _ _ l0_1 (wrap64 (x18_1 - 1)) t122 t123 _ ?side1 ?side2 ?side3 ?side4 A13.out).mono ?_
        (case side1 => exact cz HR0_0)
        (case side2 => exact HC0_0.out)
        (case side3 => exact cz HR0_1)
        (case side4 => exact HC0_1.out)
        rintro e w26 ⟨rfl, hb⟩
        refine ⟨_, rfl, ?_⟩
        have n0_ := am (Kd.R_below (rz HO_6) hb)
        have n1_ := am (Kd.R_below (rz HO_7) hb)
        have n2_ := am (blk_below (o := .cells #[.slice (some ad120) l0_0.length c0_0, .slice A0_1 l0_1.length c0_1] 25 (0, 0)) (kz BK118) hb)
        have n3_ := am (blk_below (o := .cells #[.int .i64 ((rd_T53 l0_0 x18_1).f0.f0), .int .i64 ((rd_T53 l0_0 x18_1).f0.f1), .int .i64 ((rd_T53 l0_0 x18_1).f1), .int .i64 ((rd_T53 l0_0 x18_1).f2), .int .i64 ((rd_T53 l0_0 x18_1).f3.f0.f0), .int .i64 ((rd_T53 l0_0 x18_1).f3.f0.f1), .int .i64 ((rd_T53 l0_0 x18_1).f3.f0.f2), .int .i64 ((rd_T53 l0_0 x18_1).f3.f1.f0), .int .i64 ((rd_T53 l0_0 x18_1).f3.f1.f1), .int .i64 ((rd_T53 l0_0 x18_1).f3.f1.f2), .int .i64 ((rd_T53 l0_0 x18_1).f3.f2.f0), .int .i64 ((rd_T53 l0_0 x18_1).f3.f2.f1), .int .i64 ((rd_T53 l0_0 x18_1).f3.f2.f2), .int .i64 ((rd_T53 l0_0 x18_1).f3.f3.f0), .int .i64 ((rd_T53 l0_0 x18_1).f3.f3.f1), .int .i64 ((rd_T53 l0_0 x18_1).f3.f3.f2), .int .i64 ((rd_T53 l0_0 x18_1).f3.f4.f0), .int .i64 ((rd_T53 l0_0 x18_1).f3.f4.f1), .int .i64 ((rd_T53 l0_0 x18_1).f3.f4.f2), .int .i64 ((rd_T53 l0_0 x18_1).f3.f5.f0), .int .i64 ((rd_T53 l0_0 x18_1).f3.f5.f1), .int .i64 ((rd_T53 l0_0 x18_1).f3.f5.f2)] 53 (0, 0)) (kz BK121) hb)
        have n4_ := am (below_step bz hb)
        clear HO_6
        clear HO_7
        clear BK118
        clear BK121
        clear HB
        have HO_6 := n0_
        have HO_7 := n1_
        have BK118 := n2_
        have BK121 := n3_
        have HB := n4_
        clear n0_ n1_ n2_ n3_ n4_
        (try clear hb)
        (try clear hb2)
        (try clear hk)
        (try clear hi)
        refine hK.out _ _ ⟨(blk_cell BK118.out 0).trans rfl, (blk_cell BK118.out 1).trans rfl⟩ (fun hHeld => ?_)
        clear hK K
        refine norm_ (a' := ?_) ?_ ?_
        rotate_left
        ·
         show Act.put _ (some 36) _ = _
         simp only [Act.put, aS, lZ, lS, i64_w, i32_w]
         rfl
        refine one_ (i := 16) (N := some 39) (bm 19 131071) rfl rfl (one_of HT_.out qz) (by decide) (fun K hK => ?_)
        refine goes_ Try.func27 qz rfl #[.agg #[.slice (some ad120) l0_0.length c0_0, .slice A0_1 l0_1.length c0_1], .int .i64 x18_1] (by rfl) rfl rfl mz ?_
        with_reducible refine (floor_step.calls _ _ l0_0 _ _ l0_1 x18_1 t124 t125 _ ?side1 ?side2 ?side3 ?side4 A14.out).mono ?_
        (case side1 => exact cz HR0_0)
        (case side2 => exact HC0_0.out)
        (case side3 => exact cz HR0_1)
        (case side4 => exact HC0_1.out)
        rintro e w27 ⟨rfl, hb⟩
        refine ⟨_, rfl, ?_⟩
        have n0_ := am (Kd.R_below (rz HO_6) hb)
        have n1_ := am (Kd.R_below (rz HO_7) hb)
        have n2_ := am (blk_below (o := .cells #[.slice (some ad120) l0_0.length c0_0, .slice A0_1 l0_1.length c0_1] 25 (0, 0)) (kz BK118) hb)
        have n3_ := am (blk_below (o := .cells #[.int .i64 ((rd_T53 l0_0 x18_1).f0.f0), .int .i64 ((rd_T53 l0_0 x18_1).f0.f1), .int .i64 ((rd_T53 l0_0 x18_1).f1), .int .i64 ((rd_T53 l0_0 x18_1).f2), .int .i64 ((rd_T53 l0_0 x18_1).f3.f0.f0), .int .i64 ((rd_T53 l0_0 x18_1).f3.f0.f1), .int .i64 ((rd_T53 l0_0 x18_1).f3.f0.f2), .int .i64 ((rd_T53 l0_0 x18_1).f3.f1.f0), .int .i64 ((rd_T53 l0_0 x18_1).f3.f1.f1), .int .i64 ((rd_T53 l0_0 x18_1).f3.f1.f2), .int .i64 ((rd_T53 l0_0 x18_1).f3.f2.f0), .int .i64 ((rd_T53 l0_0 x18_1).f3.f2.f1), .int .i64 ((rd_T53 l0_0 x18_1).f3.f2.f2), .int .i64 ((rd_T53 l0_0 x18_1).f3.f3.f0), .int .i64 ((rd_T53 l0_0 x18_1).f3.f3.f1), .int .i64 ((rd_T53 l0_0 x18_1).f3.f3.f2), .int .i64 ((rd_T53 l0_0 x18_1).f3.f4.f0), .int .i64 ((rd_T53 l0_0 x18_1).f3.f4.f1), .int .i64 ((rd_T53 l0_0 x18_1).f3.f4.f2), .int .i64 ((rd_T53 l0_0 x18_1).f3.f5.f0), .int .i64 ((rd_T53 l0_0 x18_1).f3.f5.f1), .int .i64 ((rd_T53 l0_0 x18_1).f3.f5.f2)] 53 (0, 0)) (kz BK121) hb)
        have n4_ := am (below_step bz hb)
        clear HO_6
        clear HO_7
        clear BK118
        clear BK121
        clear HB
        have HO_6 := n0_
        have HO_7 := n1_
        have BK118 := n2_
        have BK121 := n3_
        have HB := n4_
        clear n0_ n1_ n2_ n3_ n4_
        (try clear hb)
        (try clear hb2)
        (try clear hk)
        (try clear hi)
        refine hK.out _ _ ⟨(blk_cell BK118.out 0).trans rfl, (blk_cell BK118.out 1).trans rfl⟩ (fun hHeld => ?_)
        clear hK K
        refine norm_ (a' := ?_) ?_ ?_
        rotate_left
        ·
         show Act.put _ (some 39) _ = _
         simp only [Act.put, aS, lZ, lS, i64_w, i32_w]
         rfl
        refine pa (i := 17) (N := some 40) (bm 19 262143) HT_ ?_
        refine pa (i := 18) (N := some 41) (bm 19 524287) HT_ ?_
        refine done_ (done_of HT_.out qz) ?_
        have hnb28 := NB121_118.out
        have hnc28 := NB118_121.out
        have hcz29_0 : w27.cell? ⟨gb121, 0, none⟩ = some (.int .i64 ((rd_T53 l0_0 x18_1).f0.f0)) := (blk_cell BK121.out 0).trans (by rfl)
        have hcz29_1 : w27.cell? ⟨gb121, 1, none⟩ = some (.int .i64 ((rd_T53 l0_0 x18_1).f0.f1)) := (blk_cell BK121.out 1).trans (by rfl)
        have hfz29_0 := blk_frozen BK121.out 0
        have hfz29_1 := blk_frozen BK121.out 1
        try go_wp2_with (first | ((with_reducible refine gate_builtin (b := .append) (xs := #[.tmp 42, .tmp 45]) rfl ?_); at_builtin; refine Kd.R_append k35 (w0 := w) w.heap.size rfl (.tmp 42) (.tmp 45) 28 35 (.agg #[(.int .i64 0), (.int .i64 0)]) 16 rfl Try.underlying28 info35 rfl (by decide) (by omega) u6 x6_1 (⟨(rd_T53 l0_0 x18_1).f0.f0, (rd_T53 l0_0 x18_1).f0.f1⟩ : S35) [.int .i64 ((rd_T53 l0_0 x18_1).f0.f0), .int .i64 ((rd_T53 l0_0 x18_1).f0.f1)] (fun _ => True) (fun _ => False) rfl rfl ?aP (fun _ hk => hk.elim) ?aF ?aO ?aB ?aS ?aL ?_; (case aP => exact k35_mkM _ _ _ (⟨(rd_T53 l0_0 x18_1).f0.f0, (rd_T53 l0_0 x18_1).f0.f1⟩ : S35)); (case aB => exact bz); (case aF => exact (fun _ _ => trivial)); (case aO => exact (rz HO_6)); (case aS => exact (below_size bz)); (case aL => have := LMc21.out; omega); intro v127 w30 ho hb hg hat; rw [← Ny126.out] at ho; replace HO_7 := am (Kd.R_over' (rz HO_7) (Kd.R_typed (rz HO_6)) (by decide) hg); replace BK118 := am (blk_grown (g := gb118) (o := .cells #[.slice (some ad120) l0_0.length c0_0, .slice A0_1 l0_1.length c0_1] 25 (0, 0)) (kz BK118) hg (Kd.R_ne HO_6.out BK118.out (by decide))); replace BK121 := am (blk_grown (g := gb121) (o := .cells #[.int .i64 ((rd_T53 l0_0 x18_1).f0.f0), .int .i64 ((rd_T53 l0_0 x18_1).f0.f1), .int .i64 ((rd_T53 l0_0 x18_1).f1), .int .i64 ((rd_T53 l0_0 x18_1).f2), .int .i64 ((rd_T53 l0_0 x18_1).f3.f0.f0), .int .i64 ((rd_T53 l0_0 x18_1).f3.f0.f1), .int .i64 ((rd_T53 l0_0 x18_1).f3.f0.f2), .int .i64 ((rd_T53 l0_0 x18_1).f3.f1.f0), .int .i64 ((rd_T53 l0_0 x18_1).f3.f1.f1), .int .i64 ((rd_T53 l0_0 x18_1).f3.f1.f2), .int .i64 ((rd_T53 l0_0 x18_1).f3.f2.f0), .int .i64 ((rd_T53 l0_0 x18_1).f3.f2.f1), .int .i64 ((rd_T53 l0_0 x18_1).f3.f2.f2), .int .i64 ((rd_T53 l0_0 x18_1).f3.f3.f0), .int .i64 ((rd_T53 l0_0 x18_1).f3.f3.f1), .int .i64 ((rd_T53 l0_0 x18_1).f3.f3.f2), .int .i64 ((rd_T53 l0_0 x18_1).f3.f4.f0), .int .i64 ((rd_T53 l0_0 x18_1).f3.f4.f1), .int .i64 ((rd_T53 l0_0 x18_1).f3.f4.f2), .int .i64 ((rd_T53 l0_0 x18_1).f3.f5.f0), .int .i64 ((rd_T53 l0_0 x18_1).f3.f5.f1), .int .i64 ((rd_T53 l0_0 x18_1).f3.f5.f2)] 53 (0, 0)) (kz BK121) hg (Kd.R_ne HO_6.out BK121.out (by decide))); replace HB := am (hb); have HO128 := am (ho); clear HO_6; clear ho hb hg hat) | ((with_reducible refine gate_builtin (b := .append) (xs := #[.tmp 47, .tmp 49]) rfl ?_); at_builtin; refine Kd.R_append (Kd.int .i64) (w0 := w) w.heap.size rfl (.tmp 47) (.tmp 49) 23 3 (.int .i64 0) 8 rfl Try.underlying23 info3 rfl (by decide) (by omega) u7 x7_1 x18_1 [.int .i64 x18_1] (fun _ => True) (fun _ => False) rfl rfl ?aP (fun _ hk => hk.elim) ?aF ?aO ?aB ?aS ?aL ?_; (case aP => exact rfl); (case aB => exact bz); (case aF => exact (fun _ _ => trivial)); (case aO => exact (rz HO_7)); (case aS => exact (below_size bz)); (case aL => have := LMc22.out; omega); intro v130 w31 ho hb hg hat; rw [← Ny129.out] at ho; replace BK118 := am (blk_grown (g := gb118) (o := .cells #[.slice (some ad120) l0_0.length c0_0, .slice A0_1 l0_1.length c0_1] 25 (0, 0)) (kz BK118) hg (Kd.R_ne HO_7.out BK118.out (by decide))); replace BK121 := am (blk_grown (g := gb121) (o := .cells #[.int .i64 ((rd_T53 l0_0 x18_1).f0.f0), .int .i64 ((rd_T53 l0_0 x18_1).f0.f1), .int .i64 ((rd_T53 l0_0 x18_1).f1), .int .i64 ((rd_T53 l0_0 x18_1).f2), .int .i64 ((rd_T53 l0_0 x18_1).f3.f0.f0), .int .i64 ((rd_T53 l0_0 x18_1).f3.f0.f1), .int .i64 ((rd_T53 l0_0 x18_1).f3.f0.f2), .int .i64 ((rd_T53 l0_0 x18_1).f3.f1.f0), .int .i64 ((rd_T53 l0_0 x18_1).f3.f1.f1), .int .i64 ((rd_T53 l0_0 x18_1).f3.f1.f2), .int .i64 ((rd_T53 l0_0 x18_1).f3.f2.f0), .int .i64 ((rd_T53 l0_0 x18_1).f3.f2.f1), .int .i64 ((rd_T53 l0_0 x18_1).f3.f2.f2), .int .i64 ((rd_T53 l0_0 x18_1).f3.f3.f0), .int .i64 ((rd_T53 l0_0 x18_1).f3.f3.f1), .int .i64 ((rd_T53 l0_0 x18_1).f3.f3.f2), .int .i64 ((rd_T53 l0_0 x18_1).f3.f4.f0), .int .i64 ((rd_T53 l0_0 x18_1).f3.f4.f1), .int .i64 ((rd_T53 l0_0 x18_1).f3.f4.f2), .int .i64 ((rd_T53 l0_0 x18_1).f3.f5.f0), .int .i64 ((rd_T53 l0_0 x18_1).f3.f5.f1), .int .i64 ((rd_T53 l0_0 x18_1).f3.f5.f2)] 53 (0, 0)) (kz BK121) hg (Kd.R_ne HO_7.out BK121.out (by decide))); replace HO128 := am (Kd.R_over' (rz HO128) (Kd.R_typed (rz HO_7)) (by decide) hg); replace HB := am (hb); have HO131 := am (ho); clear HO_7; clear ho hb hg hat))
        go_roundg k1
        case measure => have := HK1.out; omega
        case rel => exact ⟨(y126), (y129), (wrap64 (x18_1 + 1)), sz, H', ⟨by have := HK1.out; omega⟩, ⟨rz HO128⟩, ⟨rz HO131⟩, ⟨kz BK118⟩, ⟨bz⟩⟩
      ·
       rw [if_neg c12] at H
       have c12b0 := decide_eq_false c12
       clear c12
       by_cases c32 : x6_1.length < 8796093022208; rotate_left
       · rw [if_neg c32] at H; exact absurd H (by simp)
       rw [if_pos c32] at H
       have LMc32 := am c32
       clear c32
       obtain ⟨y132, hy132⟩ : ∃ y_ : List (S35), y_ = (x6_1 ++ [(⟨(rd_T53 l0_0 x18_1).f0.f0, (rd_T53 l0_0 x18_1).f0.f1⟩ : S35)]) := ⟨_, rfl⟩
       replace H : (if x7_1.length < 17592186044416 then (floor_Path.l0 k1 y132 (x7_1 ++ [x18_1]) l0_0 (l0_0.length : Int) (wrap64 (x18_1 + 1)) l0_0 l0_1) else (none)) = some (r1, r2, r3) := by first | (rw [hy132]; with_reducible exact H) | (have H2_ := (Option.bind_some _ _).symm.trans H; rw [hy132]; with_reducible exact H2_) | (have H2_ := (Option.bind_some _ _).symm.trans H; with_reducible exact H2_) | with_reducible exact H | (rw [hy132]; exact H) | exact H
       have Ny132 := am hy132
       clear hy132
       by_cases c33 : x7_1.length < 17592186044416; rotate_left
       · rw [if_neg c33] at H; exact absurd H (by simp)
       rw [if_pos c33] at H
       have LMc33 := am c33
       clear c33
       obtain ⟨y135, hy135⟩ : ∃ y_ : List Int, y_ = (x7_1 ++ [x18_1]) := ⟨_, rfl⟩
       replace H : (floor_Path.l0 k1 y132 y135 l0_0 (l0_0.length : Int) (wrap64 (x18_1 + 1)) l0_0 l0_1) = some (r1, r2, r3) := by first | (rw [hy135]; with_reducible exact H) | (have H2_ := (Option.bind_some _ _).symm.trans H; rw [hy135]; with_reducible exact H2_) | (have H2_ := (Option.bind_some _ _).symm.trans H; with_reducible exact H2_) | with_reducible exact H | (rw [hy135]; exact H) | exact H
       have Ny135 := am hy135
       clear hy135
       have H' := am H
       clear H
       have p120 : 0 ≤ (x18_1 : Int) := az
       have q120 : x18_1 < (l0_0.length : Int) := az
       obtain ⟨ad120, ce120, e120, hK120, hW120⟩ := Kd.C_rowAt (HR0_0.out) (z53) x18_1 p120 q120
       obtain rfl := k53_open (show k53.K _ (rd_T53 l0_0 x18_1) _ from hK120)
       clear hK120
       replace hW120 := RowAt.below hW120 HB.out
       cases e120
       have HW120 := am hW120
       clear hW120
       replace p120 := eq_true p120
       replace q120 := eq_true q120
       try go_wp2_with (first | ((with_reducible refine gate_dst (N := 22) rfl ?_); refine' load_big ?h0 53 (.tmp 21) ?ho _ ?hx _ _ ?hc Try.underlying53 ?hd ?hi ?_; (case h0 => rfl); (case ho => rfl); (case hx => first | rfl | (go_simp; rfl)); (case hc => first | exact HW120.out | (simpa only [add_plain] using HW120.out) | (simpa only [Addr.add, Nat.zero_add] using HW120.out)); (case hd => rfl); (case hi => rfl)) | ((with_reducible refine gate_dst (N := 9) rfl ?_); refine box_event yz (N := 9) yz (cs := #[.int .i64 0, .int .i64 0, .int .i64 0, .int .i64 0, .int .i64 0, .int .i64 0, .int .i64 0, .int .i64 0, .int .i64 0, .int .i64 0, .int .i64 0, .int .i64 0, .int .i64 0, .int .i64 0, .int .i64 0, .int .i64 0, .int .i64 0, .int .i64 0, .int .i64 0, .int .i64 0, .int .i64 0, .int .i64 0]) (t := 53) gz ?_; intro gb121 hg_ w34 hbox_ hb_; have HA121 := am (And.intro hbox_ (And.intro hb_ hg_)); clear hbox_ hb_ hg_) | ((with_reducible refine row_gate (t := 53) (p := 9) rfl ?_); refine row_event ?h0 53 (.tmp 9) (.tmp 22) ?ho ?hd gb121 #[.int .i64 ((rd_T53 l0_0 x18_1).f0.f0), .int .i64 ((rd_T53 l0_0 x18_1).f0.f1), .int .i64 ((rd_T53 l0_0 x18_1).f1), .int .i64 ((rd_T53 l0_0 x18_1).f2), .int .i64 ((rd_T53 l0_0 x18_1).f3.f0.f0), .int .i64 ((rd_T53 l0_0 x18_1).f3.f0.f1), .int .i64 ((rd_T53 l0_0 x18_1).f3.f0.f2), .int .i64 ((rd_T53 l0_0 x18_1).f3.f1.f0), .int .i64 ((rd_T53 l0_0 x18_1).f3.f1.f1), .int .i64 ((rd_T53 l0_0 x18_1).f3.f1.f2), .int .i64 ((rd_T53 l0_0 x18_1).f3.f2.f0), .int .i64 ((rd_T53 l0_0 x18_1).f3.f2.f1), .int .i64 ((rd_T53 l0_0 x18_1).f3.f2.f2), .int .i64 ((rd_T53 l0_0 x18_1).f3.f3.f0), .int .i64 ((rd_T53 l0_0 x18_1).f3.f3.f1), .int .i64 ((rd_T53 l0_0 x18_1).f3.f3.f2), .int .i64 ((rd_T53 l0_0 x18_1).f3.f4.f0), .int .i64 ((rd_T53 l0_0 x18_1).f3.f4.f1), .int .i64 ((rd_T53 l0_0 x18_1).f3.f4.f2), .int .i64 ((rd_T53 l0_0 x18_1).f3.f5.f0), .int .i64 ((rd_T53 l0_0 x18_1).f3.f5.f1), .int .i64 ((rd_T53 l0_0 x18_1).f3.f5.f2)] ?hx ?hy _ _ HA121.out.1 ?hi ?hs ?h1 ?_; (case h0 => rfl); (case ho => rfl); (case hd => rfl); (case hx => first | rfl | (go_simp; rfl)); (case hy => first | rfl | (go_simp; rfl)); (case hi => rfl); (case hs => rfl); (case h1 => simp [Value.oneCell']); intro w35 hbox ho_ hb_; have hg := HA121.out.2.2; have hb := hb_ _ _ HA121.out.2.1 (Nat.le_of_eq hg.symm); clear ho_ hb_; replace HO_6 := am (Kd.R_below (rz HO_6) hb); replace HO_7 := am (Kd.R_below (rz HO_7) hb); have BK121 := am (hbox); have GW121 := gwz (g := gb121) HB hg; have GE121 := GW121; replace HB := am (below_step bz hb); have NB118_121 := nlt (g' := gb121) BK118 hg; have NB121_118 := ngt (g' := gb121) BK118 hg; replace BK118 := am (blk_below (o := .cells #[.slice (some ad120) l0_0.length c0_0, .slice A0_1 l0_1.length c0_1] 25 (0, 0)) (kz BK118) hb); clear hb hbox hg))
       have n0_ := am (Kd.R_drew HO_6.out)
       have n1_ := am (Kd.R_drew HO_7.out)
       have n2_ := am (blk_drew BK118.out)
       have n3_ := am (blk_drew BK121.out)
       have n4_ := am (below_drew1 HB.out)
       clear HO_6
       clear HO_7
       clear BK118
       clear BK121
       clear HB
       have HO_6 := n0_
       have HO_7 := n1_
       have BK118 := n2_
       have BK121 := n3_
       have HB := n4_
       clear n0_ n1_ n2_ n3_ n4_
       refine start_ (n := 19) (S := fun w' => w'.cell? ⟨gb118, 0, none⟩ = some (.slice (some ad120) l0_0.length c0_0) ∧ w'.cell? ⟨gb118, 1, none⟩ = some (.slice A0_1 l0_1.length c0_1)) (ds := []) (bm 19 0) qz rfl rfl ⟨(blk_cell BK118.out 0).trans rfl, (blk_cell BK118.out 1).trans rfl⟩ (fun hHeld => ?_); refine with_tabW floor_Path.tab9 floor_Path.bits9 (fun HT_ HW_ => ?_)
       generalize w35.drew = w36 at HO_6 HO_7 BK118 BK121 HB hHeld ⊢
       refine pa (i := 0) (N := some 23) (bm 19 1) HT_ ?_
       refine pa (i := 1) (N := some 24) (bm 19 3) HT_ ?_
       refine pa (i := 2) (N := some 25) (bm 19 7) HT_ ?_
       refine pa (i := 3) (N := some 26) (bm 19 15) HT_ ?_
       refine pa (i := 4) (N := some 27) (bm 19 31) HT_ ?_
       refine take_ (i := 5) (N := some 28) (v := ?_) (a' := ?_) (bm 19 63) rfl rfl (take_ofW HT_.out HW_.out qz) iz (Or.inl ⟨by rfl, ?_⟩) hHeld ?_ ?_
       rotate_left
       ·
        rintro w' ⟨s0, s1⟩
        go_simp
        with_reducible rfl
       rotate_left
       ·
        simp only [Act.put, aS, lZ, lS, i64_w, i32_w]
        rfl
       refine pa (i := 6) (N := some 29) (bm 19 127) HT_ ?_
       refine pa (i := 7) (N := some 30) (bm 19 255) HT_ ?_
       refine pa (i := 8) (N := some 31) (bm 19 511) HT_ ?_
       refine pa (i := 9) (N := some 32) (bm 19 1023) HT_ ?_
       refine pu (i := 10) (N := some 33) (bm 19 2047) HT_ ?_
       refine pu (i := 11) (N := some 34) (bm 19 4095) HT_ ?_
       refine pu (i := 12) (N := some 35) (bm 19 8191) HT_ ?_
       refine pu (i := 13) (N := some 36) (bm 19 16383) HT_ ?_
       refine pu (i := 14) (N := some 37) (bm 19 32767) HT_ ?_
       refine pu (i := 15) (N := some 38) (bm 19 65535) HT_ ?_
       refine pu (i := 16) (N := some 39) (bm 19 131071) HT_ ?_
       refine pu (i := 17) (N := some 40) (bm 19 262143) HT_ ?_
       refine pa (i := 18) (N := some 41) (bm 19 524287) HT_ ?_
       refine done_ (done_of HT_.out qz) ?_
       have hnb37 := NB121_118.out
       have hnc37 := NB118_121.out
       have hcz38_0 : w36.cell? ⟨gb121, 0, none⟩ = some (.int .i64 ((rd_T53 l0_0 x18_1).f0.f0)) := (blk_cell BK121.out 0).trans (by rfl)
       have hcz38_1 : w36.cell? ⟨gb121, 1, none⟩ = some (.int .i64 ((rd_T53 l0_0 x18_1).f0.f1)) := (blk_cell BK121.out 1).trans (by rfl)
       have hfz38_0 := blk_frozen BK121.out 0
       have hfz38_1 := blk_frozen BK121.out 1
       try go_wp2_with (first | ((with_reducible refine gate_builtin (b := .append) (xs := #[.tmp 42, .tmp 45]) rfl ?_); at_builtin; refine Kd.R_append k35 (w0 := w) w.heap.size rfl (.tmp 42) (.tmp 45) 28 35 (.agg #[(.int .i64 0), (.int .i64 0)]) 16 rfl Try.underlying28 info35 rfl (by decide) (by omega) u6 x6_1 (⟨(rd_T53 l0_0 x18_1).f0.f0, (rd_T53 l0_0 x18_1).f0.f1⟩ : S35) [.int .i64 ((rd_T53 l0_0 x18_1).f0.f0), .int .i64 ((rd_T53 l0_0 x18_1).f0.f1)] (fun _ => True) (fun _ => False) rfl rfl ?aP (fun _ hk => hk.elim) ?aF ?aO ?aB ?aS ?aL ?_; (case aP => exact k35_mkM _ _ _ (⟨(rd_T53 l0_0 x18_1).f0.f0, (rd_T53 l0_0 x18_1).f0.f1⟩ : S35)); (case aB => exact bz); (case aF => exact (fun _ _ => trivial)); (case aO => exact (rz HO_6)); (case aS => exact (below_size bz)); (case aL => have := LMc32.out; omega); intro v133 w39 ho hb hg hat; rw [← Ny132.out] at ho; replace HO_7 := am (Kd.R_over' (rz HO_7) (Kd.R_typed (rz HO_6)) (by decide) hg); replace BK118 := am (blk_grown (g := gb118) (o := .cells #[.slice (some ad120) l0_0.length c0_0, .slice A0_1 l0_1.length c0_1] 25 (0, 0)) (kz BK118) hg (Kd.R_ne HO_6.out BK118.out (by decide))); replace BK121 := am (blk_grown (g := gb121) (o := .cells #[.int .i64 ((rd_T53 l0_0 x18_1).f0.f0), .int .i64 ((rd_T53 l0_0 x18_1).f0.f1), .int .i64 ((rd_T53 l0_0 x18_1).f1), .int .i64 ((rd_T53 l0_0 x18_1).f2), .int .i64 ((rd_T53 l0_0 x18_1).f3.f0.f0), .int .i64 ((rd_T53 l0_0 x18_1).f3.f0.f1), .int .i64 ((rd_T53 l0_0 x18_1).f3.f0.f2), .int .i64 ((rd_T53 l0_0 x18_1).f3.f1.f0), .int .i64 ((rd_T53 l0_0 x18_1).f3.f1.f1), .int .i64 ((rd_T53 l0_0 x18_1).f3.f1.f2), .int .i64 ((rd_T53 l0_0 x18_1).f3.f2.f0), .int .i64 ((rd_T53 l0_0 x18_1).f3.f2.f1), .int .i64 ((rd_T53 l0_0 x18_1).f3.f2.f2), .int .i64 ((rd_T53 l0_0 x18_1).f3.f3.f0), .int .i64 ((rd_T53 l0_0 x18_1).f3.f3.f1), .int .i64 ((rd_T53 l0_0 x18_1).f3.f3.f2), .int .i64 ((rd_T53 l0_0 x18_1).f3.f4.f0), .int .i64 ((rd_T53 l0_0 x18_1).f3.f4.f1), .int .i64 ((rd_T53 l0_0 x18_1).f3.f4.f2), .int .i64 ((rd_T53 l0_0 x18_1).f3.f5.f0), .int .i64 ((rd_T53 l0_0 x18_1).f3.f5.f1), .int .i64 ((rd_T53 l0_0 x18_1).f3.f5.f2)] 53 (0, 0)) (kz BK121) hg (Kd.R_ne HO_6.out BK121.out (by decide))); replace HB := am (hb); have HO134 := am (ho); clear HO_6; clear ho hb hg hat) | ((with_reducible refine gate_builtin (b := .append) (xs := #[.tmp 47, .tmp 49]) rfl ?_); at_builtin; refine Kd.R_append (Kd.int .i64) (w0 := w) w.heap.size rfl (.tmp 47) (.tmp 49) 23 3 (.int .i64 0) 8 rfl Try.underlying23 info3 rfl (by decide) (by omega) u7 x7_1 x18_1 [.int .i64 x18_1] (fun _ => True) (fun _ => False) rfl rfl ?aP (fun _ hk => hk.elim) ?aF ?aO ?aB ?aS ?aL ?_; (case aP => exact rfl); (case aB => exact bz); (case aF => exact (fun _ _ => trivial)); (case aO => exact (rz HO_7)); (case aS => exact (below_size bz)); (case aL => have := LMc33.out; omega); intro v136 w40 ho hb hg hat; rw [← Ny135.out] at ho; replace BK118 := am (blk_grown (g := gb118) (o := .cells #[.slice (some ad120) l0_0.length c0_0, .slice A0_1 l0_1.length c0_1] 25 (0, 0)) (kz BK118) hg (Kd.R_ne HO_7.out BK118.out (by decide))); replace BK121 := am (blk_grown (g := gb121) (o := .cells #[.int .i64 ((rd_T53 l0_0 x18_1).f0.f0), .int .i64 ((rd_T53 l0_0 x18_1).f0.f1), .int .i64 ((rd_T53 l0_0 x18_1).f1), .int .i64 ((rd_T53 l0_0 x18_1).f2), .int .i64 ((rd_T53 l0_0 x18_1).f3.f0.f0), .int .i64 ((rd_T53 l0_0 x18_1).f3.f0.f1), .int .i64 ((rd_T53 l0_0 x18_1).f3.f0.f2), .int .i64 ((rd_T53 l0_0 x18_1).f3.f1.f0), .int .i64 ((rd_T53 l0_0 x18_1).f3.f1.f1), .int .i64 ((rd_T53 l0_0 x18_1).f3.f1.f2), .int .i64 ((rd_T53 l0_0 x18_1).f3.f2.f0), .int .i64 ((rd_T53 l0_0 x18_1).f3.f2.f1), .int .i64 ((rd_T53 l0_0 x18_1).f3.f2.f2), .int .i64 ((rd_T53 l0_0 x18_1).f3.f3.f0), .int .i64 ((rd_T53 l0_0 x18_1).f3.f3.f1), .int .i64 ((rd_T53 l0_0 x18_1).f3.f3.f2), .int .i64 ((rd_T53 l0_0 x18_1).f3.f4.f0), .int .i64 ((rd_T53 l0_0 x18_1).f3.f4.f1), .int .i64 ((rd_T53 l0_0 x18_1).f3.f4.f2), .int .i64 ((rd_T53 l0_0 x18_1).f3.f5.f0), .int .i64 ((rd_T53 l0_0 x18_1).f3.f5.f1), .int .i64 ((rd_T53 l0_0 x18_1).f3.f5.f2)] 53 (0, 0)) (kz BK121) hg (Kd.R_ne HO_7.out BK121.out (by decide))); replace HO134 := am (Kd.R_over' (rz HO134) (Kd.R_typed (rz HO_7)) (by decide) hg); replace HB := am (hb); have HO137 := am (ho); clear HO_7; clear ho hb hg hat))
       go_roundg k1
       case measure => have := HK1.out; omega
       case rel => exact ⟨(y132), (y135), (wrap64 (x18_1 + 1)), sz, H', ⟨by have := HK1.out; omega⟩, ⟨rz HO134⟩, ⟨rz HO137⟩, ⟨kz BK118⟩, ⟨bz⟩⟩
     ·
      rw [if_neg c11] at H
      have c11b0 := decide_eq_false c11
      clear c11
      by_cases c41 : x6_1.length < 8796093022208; rotate_left
      · rw [if_neg c41] at H; exact absurd H (by simp)
      rw [if_pos c41] at H
      have LMc41 := am c41
      clear c41
      obtain ⟨y138, hy138⟩ : ∃ y_ : List (S35), y_ = (x6_1 ++ [(⟨(rd_T53 l0_0 x18_1).f0.f0, (rd_T53 l0_0 x18_1).f0.f1⟩ : S35)]) := ⟨_, rfl⟩
      replace H : (if x7_1.length < 17592186044416 then (floor_Path.l0 k1 y138 (x7_1 ++ [x18_1]) l0_0 (l0_0.length : Int) (wrap64 (x18_1 + 1)) l0_0 l0_1) else (none)) = some (r1, r2, r3) := by first | (rw [hy138]; with_reducible exact H) | (have H2_ := (Option.bind_some _ _).symm.trans H; rw [hy138]; with_reducible exact H2_) | (have H2_ := (Option.bind_some _ _).symm.trans H; with_reducible exact H2_) | with_reducible exact H | (rw [hy138]; exact H) | exact H
      have Ny138 := am hy138
      clear hy138
      by_cases c42 : x7_1.length < 17592186044416; rotate_left
      · rw [if_neg c42] at H; exact absurd H (by simp)
      rw [if_pos c42] at H
      have LMc42 := am c42
      clear c42
      obtain ⟨y141, hy141⟩ : ∃ y_ : List Int, y_ = (x7_1 ++ [x18_1]) := ⟨_, rfl⟩
      replace H : (floor_Path.l0 k1 y138 y141 l0_0 (l0_0.length : Int) (wrap64 (x18_1 + 1)) l0_0 l0_1) = some (r1, r2, r3) := by first | (rw [hy141]; with_reducible exact H) | (have H2_ := (Option.bind_some _ _).symm.trans H; rw [hy141]; with_reducible exact H2_) | (have H2_ := (Option.bind_some _ _).symm.trans H; with_reducible exact H2_) | with_reducible exact H | (rw [hy141]; exact H) | exact H
      have Ny141 := am hy141
      clear hy141
      have H' := am H
      clear H
      have p120 : 0 ≤ (x18_1 : Int) := az
      have q120 : x18_1 < (l0_0.length : Int) := az
      obtain ⟨ad120, ce120, e120, hK120, hW120⟩ := Kd.C_rowAt (HR0_0.out) (z53) x18_1 p120 q120
      obtain rfl := k53_open (show k53.K _ (rd_T53 l0_0 x18_1) _ from hK120)
      clear hK120
      replace hW120 := RowAt.below hW120 HB.out
      cases e120
      have HW120 := am hW120
      clear hW120
      replace p120 := eq_true p120
      replace q120 := eq_true q120
      try go_wp2_with (first | ((with_reducible refine gate_dst (N := 22) rfl ?_); refine' load_big ?h0 53 (.tmp 21) ?ho _ ?hx _ _ ?hc Try.underlying53 ?hd ?hi ?_; (case h0 => rfl); (case ho => rfl); (case hx => first | rfl | (go_simp; rfl)); (case hc => first | exact HW120.out | (simpa only [add_plain] using HW120.out) | (simpa only [Addr.add, Nat.zero_add] using HW120.out)); (case hd => rfl); (case hi => rfl)) | ((with_reducible refine gate_dst (N := 9) rfl ?_); refine box_event yz (N := 9) yz (cs := #[.int .i64 0, .int .i64 0, .int .i64 0, .int .i64 0, .int .i64 0, .int .i64 0, .int .i64 0, .int .i64 0, .int .i64 0, .int .i64 0, .int .i64 0, .int .i64 0, .int .i64 0, .int .i64 0, .int .i64 0, .int .i64 0, .int .i64 0, .int .i64 0, .int .i64 0, .int .i64 0, .int .i64 0, .int .i64 0]) (t := 53) gz ?_; intro gb121 hg_ w43 hbox_ hb_; have HA121 := am (And.intro hbox_ (And.intro hb_ hg_)); clear hbox_ hb_ hg_) | ((with_reducible refine row_gate (t := 53) (p := 9) rfl ?_); refine row_event ?h0 53 (.tmp 9) (.tmp 22) ?ho ?hd gb121 #[.int .i64 ((rd_T53 l0_0 x18_1).f0.f0), .int .i64 ((rd_T53 l0_0 x18_1).f0.f1), .int .i64 ((rd_T53 l0_0 x18_1).f1), .int .i64 ((rd_T53 l0_0 x18_1).f2), .int .i64 ((rd_T53 l0_0 x18_1).f3.f0.f0), .int .i64 ((rd_T53 l0_0 x18_1).f3.f0.f1), .int .i64 ((rd_T53 l0_0 x18_1).f3.f0.f2), .int .i64 ((rd_T53 l0_0 x18_1).f3.f1.f0), .int .i64 ((rd_T53 l0_0 x18_1).f3.f1.f1), .int .i64 ((rd_T53 l0_0 x18_1).f3.f1.f2), .int .i64 ((rd_T53 l0_0 x18_1).f3.f2.f0), .int .i64 ((rd_T53 l0_0 x18_1).f3.f2.f1), .int .i64 ((rd_T53 l0_0 x18_1).f3.f2.f2), .int .i64 ((rd_T53 l0_0 x18_1).f3.f3.f0), .int .i64 ((rd_T53 l0_0 x18_1).f3.f3.f1), .int .i64 ((rd_T53 l0_0 x18_1).f3.f3.f2), .int .i64 ((rd_T53 l0_0 x18_1).f3.f4.f0), .int .i64 ((rd_T53 l0_0 x18_1).f3.f4.f1), .int .i64 ((rd_T53 l0_0 x18_1).f3.f4.f2), .int .i64 ((rd_T53 l0_0 x18_1).f3.f5.f0), .int .i64 ((rd_T53 l0_0 x18_1).f3.f5.f1), .int .i64 ((rd_T53 l0_0 x18_1).f3.f5.f2)] ?hx ?hy _ _ HA121.out.1 ?hi ?hs ?h1 ?_; (case h0 => rfl); (case ho => rfl); (case hd => rfl); (case hx => first | rfl | (go_simp; rfl)); (case hy => first | rfl | (go_simp; rfl)); (case hi => rfl); (case hs => rfl); (case h1 => simp [Value.oneCell']); intro w44 hbox ho_ hb_; have hg := HA121.out.2.2; have hb := hb_ _ _ HA121.out.2.1 (Nat.le_of_eq hg.symm); clear ho_ hb_; replace HO_6 := am (Kd.R_below (rz HO_6) hb); replace HO_7 := am (Kd.R_below (rz HO_7) hb); have BK121 := am (hbox); have GW121 := gwz (g := gb121) HB hg; have GE121 := GW121; replace HB := am (below_step bz hb); have NB118_121 := nlt (g' := gb121) BK118 hg; have NB121_118 := ngt (g' := gb121) BK118 hg; replace BK118 := am (blk_below (o := .cells #[.slice (some ad120) l0_0.length c0_0, .slice A0_1 l0_1.length c0_1] 25 (0, 0)) (kz BK118) hb); clear hb hbox hg))
      have n0_ := am (Kd.R_drew HO_6.out)
      have n1_ := am (Kd.R_drew HO_7.out)
      have n2_ := am (blk_drew BK118.out)
      have n3_ := am (blk_drew BK121.out)
      have n4_ := am (below_drew1 HB.out)
      clear HO_6
      clear HO_7
      clear BK118
      clear BK121
      clear HB
      have HO_6 := n0_
      have HO_7 := n1_
      have BK118 := n2_
      have BK121 := n3_
      have HB := n4_
      clear n0_ n1_ n2_ n3_ n4_
      refine start_ (n := 19) (S := fun w' => True) (ds := []) (bm 19 0) qz rfl rfl trivial (fun hHeld => ?_); refine with_tabW floor_Path.tab9 floor_Path.bits9 (fun HT_ HW_ => ?_)
      generalize w44.drew = w45 at HO_6 HO_7 BK118 BK121 HB hHeld ⊢
      refine pa (i := 0) (N := some 23) (bm 19 1) HT_ ?_
      refine pa (i := 1) (N := some 24) (bm 19 3) HT_ ?_
      refine pa (i := 2) (N := some 25) (bm 19 7) HT_ ?_
      refine pu (i := 3) (N := some 26) (bm 19 15) HT_ ?_
      refine pu (i := 4) (N := some 27) (bm 19 31) HT_ ?_
      refine pu (i := 5) (N := some 28) (bm 19 63) HT_ ?_
      refine pu (i := 6) (N := some 29) (bm 19 127) HT_ ?_
      refine pu (i := 7) (N := some 30) (bm 19 255) HT_ ?_
      refine pa (i := 8) (N := some 31) (bm 19 511) HT_ ?_
      refine pa (i := 9) (N := some 32) (bm 19 1023) HT_ ?_
      refine pu (i := 10) (N := some 33) (bm 19 2047) HT_ ?_
      refine pu (i := 11) (N := some 34) (bm 19 4095) HT_ ?_
      refine pu (i := 12) (N := some 35) (bm 19 8191) HT_ ?_
      refine pu (i := 13) (N := some 36) (bm 19 16383) HT_ ?_
      refine pu (i := 14) (N := some 37) (bm 19 32767) HT_ ?_
      refine pu (i := 15) (N := some 38) (bm 19 65535) HT_ ?_
      refine pu (i := 16) (N := some 39) (bm 19 131071) HT_ ?_
      refine pu (i := 17) (N := some 40) (bm 19 262143) HT_ ?_
      refine pa (i := 18) (N := some 41) (bm 19 524287) HT_ ?_
      refine done_ (done_of HT_.out qz) ?_
      have hnb46 := NB121_118.out
      have hnc46 := NB118_121.out
      have hcz47_0 : w45.cell? ⟨gb121, 0, none⟩ = some (.int .i64 ((rd_T53 l0_0 x18_1).f0.f0)) := (blk_cell BK121.out 0).trans (by rfl)
      have hcz47_1 : w45.cell? ⟨gb121, 1, none⟩ = some (.int .i64 ((rd_T53 l0_0 x18_1).f0.f1)) := (blk_cell BK121.out 1).trans (by rfl)
      have hfz47_0 := blk_frozen BK121.out 0
      have hfz47_1 := blk_frozen BK121.out 1
      try go_wp2_with (first | ((with_reducible refine gate_builtin (b := .append) (xs := #[.tmp 42, .tmp 45]) rfl ?_); at_builtin; refine Kd.R_append k35 (w0 := w) w.heap.size rfl (.tmp 42) (.tmp 45) 28 35 (.agg #[(.int .i64 0), (.int .i64 0)]) 16 rfl Try.underlying28 info35 rfl (by decide) (by omega) u6 x6_1 (⟨(rd_T53 l0_0 x18_1).f0.f0, (rd_T53 l0_0 x18_1).f0.f1⟩ : S35) [.int .i64 ((rd_T53 l0_0 x18_1).f0.f0), .int .i64 ((rd_T53 l0_0 x18_1).f0.f1)] (fun _ => True) (fun _ => False) rfl rfl ?aP (fun _ hk => hk.elim) ?aF ?aO ?aB ?aS ?aL ?_; (case aP => exact k35_mkM _ _ _ (⟨(rd_T53 l0_0 x18_1).f0.f0, (rd_T53 l0_0 x18_1).f0.f1⟩ : S35)); (case aB => exact bz); (case aF => exact (fun _ _ => trivial)); (case aO => exact (rz HO_6)); (case aS => exact (below_size bz)); (case aL => have := LMc41.out; omega); intro v139 w48 ho hb hg hat; rw [← Ny138.out] at ho; replace HO_7 := am (Kd.R_over' (rz HO_7) (Kd.R_typed (rz HO_6)) (by decide) hg); replace BK118 := am (blk_grown (g := gb118) (o := .cells #[.slice (some ad120) l0_0.length c0_0, .slice A0_1 l0_1.length c0_1] 25 (0, 0)) (kz BK118) hg (Kd.R_ne HO_6.out BK118.out (by decide))); replace BK121 := am (blk_grown (g := gb121) (o := .cells #[.int .i64 ((rd_T53 l0_0 x18_1).f0.f0), .int .i64 ((rd_T53 l0_0 x18_1).f0.f1), .int .i64 ((rd_T53 l0_0 x18_1).f1), .int .i64 ((rd_T53 l0_0 x18_1).f2), .int .i64 ((rd_T53 l0_0 x18_1).f3.f0.f0), .int .i64 ((rd_T53 l0_0 x18_1).f3.f0.f1), .int .i64 ((rd_T53 l0_0 x18_1).f3.f0.f2), .int .i64 ((rd_T53 l0_0 x18_1).f3.f1.f0), .int .i64 ((rd_T53 l0_0 x18_1).f3.f1.f1), .int .i64 ((rd_T53 l0_0 x18_1).f3.f1.f2), .int .i64 ((rd_T53 l0_0 x18_1).f3.f2.f0), .int .i64 ((rd_T53 l0_0 x18_1).f3.f2.f1), .int .i64 ((rd_T53 l0_0 x18_1).f3.f2.f2), .int .i64 ((rd_T53 l0_0 x18_1).f3.f3.f0), .int .i64 ((rd_T53 l0_0 x18_1).f3.f3.f1), .int .i64 ((rd_T53 l0_0 x18_1).f3.f3.f2), .int .i64 ((rd_T53 l0_0 x18_1).f3.f4.f0), .int .i64 ((rd_T53 l0_0 x18_1).f3.f4.f1), .int .i64 ((rd_T53 l0_0 x18_1).f3.f4.f2), .int .i64 ((rd_T53 l0_0 x18_1).f3.f5.f0), .int .i64 ((rd_T53 l0_0 x18_1).f3.f5.f1), .int .i64 ((rd_T53 l0_0 x18_1).f3.f5.f2)] 53 (0, 0)) (kz BK121) hg (Kd.R_ne HO_6.out BK121.out (by decide))); replace HB := am (hb); have HO140 := am (ho); clear HO_6; clear ho hb hg hat) | ((with_reducible refine gate_builtin (b := .append) (xs := #[.tmp 47, .tmp 49]) rfl ?_); at_builtin; refine Kd.R_append (Kd.int .i64) (w0 := w) w.heap.size rfl (.tmp 47) (.tmp 49) 23 3 (.int .i64 0) 8 rfl Try.underlying23 info3 rfl (by decide) (by omega) u7 x7_1 x18_1 [.int .i64 x18_1] (fun _ => True) (fun _ => False) rfl rfl ?aP (fun _ hk => hk.elim) ?aF ?aO ?aB ?aS ?aL ?_; (case aP => exact rfl); (case aB => exact bz); (case aF => exact (fun _ _ => trivial)); (case aO => exact (rz HO_7)); (case aS => exact (below_size bz)); (case aL => have := LMc42.out; omega); intro v142 w49 ho hb hg hat; rw [← Ny141.out] at ho; replace BK118 := am (blk_grown (g := gb118) (o := .cells #[.slice (some ad120) l0_0.length c0_0, .slice A0_1 l0_1.length c0_1] 25 (0, 0)) (kz BK118) hg (Kd.R_ne HO_7.out BK118.out (by decide))); replace BK121 := am (blk_grown (g := gb121) (o := .cells #[.int .i64 ((rd_T53 l0_0 x18_1).f0.f0), .int .i64 ((rd_T53 l0_0 x18_1).f0.f1), .int .i64 ((rd_T53 l0_0 x18_1).f1), .int .i64 ((rd_T53 l0_0 x18_1).f2), .int .i64 ((rd_T53 l0_0 x18_1).f3.f0.f0), .int .i64 ((rd_T53 l0_0 x18_1).f3.f0.f1), .int .i64 ((rd_T53 l0_0 x18_1).f3.f0.f2), .int .i64 ((rd_T53 l0_0 x18_1).f3.f1.f0), .int .i64 ((rd_T53 l0_0 x18_1).f3.f1.f1), .int .i64 ((rd_T53 l0_0 x18_1).f3.f1.f2), .int .i64 ((rd_T53 l0_0 x18_1).f3.f2.f0), .int .i64 ((rd_T53 l0_0 x18_1).f3.f2.f1), .int .i64 ((rd_T53 l0_0 x18_1).f3.f2.f2), .int .i64 ((rd_T53 l0_0 x18_1).f3.f3.f0), .int .i64 ((rd_T53 l0_0 x18_1).f3.f3.f1), .int .i64 ((rd_T53 l0_0 x18_1).f3.f3.f2), .int .i64 ((rd_T53 l0_0 x18_1).f3.f4.f0), .int .i64 ((rd_T53 l0_0 x18_1).f3.f4.f1), .int .i64 ((rd_T53 l0_0 x18_1).f3.f4.f2), .int .i64 ((rd_T53 l0_0 x18_1).f3.f5.f0), .int .i64 ((rd_T53 l0_0 x18_1).f3.f5.f1), .int .i64 ((rd_T53 l0_0 x18_1).f3.f5.f2)] 53 (0, 0)) (kz BK121) hg (Kd.R_ne HO_7.out BK121.out (by decide))); replace HO140 := am (Kd.R_over' (rz HO140) (Kd.R_typed (rz HO_7)) (by decide) hg); replace HB := am (hb); have HO143 := am (ho); clear HO_7; clear ho hb hg hat))
      go_roundg k1
      case measure => have := HK1.out; omega
      case rel => exact ⟨(y138), (y141), (wrap64 (x18_1 + 1)), sz, H', ⟨by have := HK1.out; omega⟩, ⟨rz HO140⟩, ⟨rz HO143⟩, ⟨kz BK118⟩, ⟨bz⟩⟩
    ·
     rw [if_neg c8] at H
     have c8b0 := decide_eq_false c8
     clear c8
     simp only [Option.some.injEq, Prod.mk.injEq] at H
     obtain ⟨rfl, rfl, rfl⟩ := H
     go_wp2
     go_ret3
     exact ⟨_, _, ez, by (with_reducible repeat first | apply rA | apply rN | apply rD); exact HO_6.out, by (with_reducible repeat first | apply rA | apply rN | apply rD); exact HO_7.out, bz⟩
 ·
  rw [if_neg c3] at H
  have c3b0 : (t119 == 0) = false := beq_eq_false_iff_ne.mpr c3
  have c3b1 : (t119 != 0) = true := bne_iff_ne.mpr c3
  simp only [Option.some.injEq, Prod.mk.injEq] at H
  obtain ⟨rfl, rfl, rfl⟩ := H
  go_enter Try.func11, Try.ntmps11
  go_wp2_with (first | ((with_reducible refine gate_dst (N := 1) rfl ?_); refine box_event yz (N := 1) yz (cs := #[.slice A0_0 l0_0.length c0_0, .slice A0_1 l0_1.length c0_1]) (t := 25) gz ?_; intro gb118 hg w50 hbox hb; have BK118 := am (hbox); have GW118 := gwz (g := gb118) HB hg; have GE118 := GW118; replace HB := am (below_step bz hb); clear hb hbox hg; obtain ⟨hcz51_0, hcz51_1, hfz51_0, hfz51_1⟩ := kc2 BK118.out) | ((with_reducible refine gate_callee (f := 21) rfl ?_); refine goesL_ (some 11) rfl rfl Try.func21 qz rfl #[.agg #[.slice A0_0 l0_0.length c0_0, .slice A0_1 l0_1.length c0_1]] rfl mz ?_; (with_reducible refine (movement_Check.calls k _ _ l0_0 _ _ l0_1 t119 _ ?side1 ?side2 ?side3 ?side4 A2.out).mono ?_); (case side1 => exact cz HR0_0); (case side2 => exact HC0_0.out); (case side3 => exact cz HR0_1); (case side4 => exact HC0_1.out); rintro e w52 ⟨rfl, hb⟩; refine ⟨_, rfl, ?_⟩; replace BK118 := am (blk_below (o := .cells #[.slice A0_0 l0_0.length c0_0, .slice A0_1 l0_1.length c0_1] 25 (0, 0)) (kz BK118) hb); replace HB := am (below_step bz hb); (try clear hb); (try clear hb2); (try clear hk); (try clear hi)))
  go_ret3
  exact ⟨_, _, ez, by first | exact Kd.R_nil _ _ _ _ _ | exact Kd.N_nil _ _ _ _ _ | exact Kd.V_nil _ _ _ _ _ | exact Kd.Q_nil _ _ _ _ _ | exact Kd.S_nil _ _ _ _ _, by first | exact Kd.R_nil _ _ _ _ _ | exact Kd.N_nil _ _ _ _ _ | exact Kd.V_nil _ _ _ _ _ | exact Kd.Q_nil _ _ _ _ _ | exact Kd.S_nil _ _ _ _ _, bz⟩

end Go.Proofs.Ytmdmajfgpmopbaa.X
