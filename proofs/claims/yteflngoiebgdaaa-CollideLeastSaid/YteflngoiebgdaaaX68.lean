import Derived.Test.YteflngoiebgdaaaX0
import Derived.Test.YteflngoiebgdaaaX1
import Derived.Test.YteflngoiebgdaaaX2
import Derived.Test.YteflngoiebgdaaaX26
import Derived.Test.YteflngoiebgdaaaX32
import Derived.Test.YteflngoiebgdaaaX34
namespace Go.Proofs.Yteflngoiebgdaaa.X
open Go.RowKit YteflngoiebgdaaaW.PrintWords YteflngoiebgdaaaW.PrintLast YteflngoiebgdaaaW.PrintMore
attribute [local go_sem] max2_int min2_int max_two min_two max_three min_three max_four min_four
set_option linter.unusedVariables false
set_option linter.unusedSimpArgs false

attribute [local go_sem high] eqA30
/-! ### dancestudiolaw44_CollideLeast: function 7 -/
mutual
def dancestudiolaw44_CollideLeast.l0 : Nat → List (S30) → Int → Int → Int → Int → Int → Int → Int → Option (Bool)
 | 0, _, _, _, _, _, _, _, _ => none
 | k + 1, x9, x12, x660000, x660001, x660002, x695000, x695001, x695002 => if x12 < (x9.length : Int) then (if 0 ≤ x12 then (if ((rd_T30 x9 x12).f1) ≥ ((rd_T30 x9 x12).f2) then (none) else (if ((rd_T30 x9 x12).f0) < 0 then (none) else (if x12 > 0 then (if 0 ≤ (wrap64 (x12 - 1)) then (if (wrap64 (x12 - 1)) < (x9.length : Int) then (if ((rd_T30 x9 x12).f1) < ((rd_T30 x9 (wrap64 (x12 - 1))).f1) then (none) else (if ((rd_T30 x9 x12).f1) = ((rd_T30 x9 (wrap64 (x12 - 1))).f1) then (dancestudiolaw44_CollideLeast.j1 k x9 x12 (decide (((rd_T30 x9 x12).f2) ≤ ((rd_T30 x9 (wrap64 (x12 - 1))).f2))) x660000 x660001 x660002 x695000 x695001 x695002 ((rd_T30 x9 x12).f0) ((rd_T30 x9 x12).f1) ((rd_T30 x9 x12).f2)) else (dancestudiolaw44_CollideLeast.j1 k x9 x12 false x660000 x660001 x660002 x695000 x695001 x695002 ((rd_T30 x9 x12).f0) ((rd_T30 x9 x12).f1) ((rd_T30 x9 x12).f2)))) else (none)) else (none)) else (dancestudiolaw44_CollideLeast.j1 k x9 x12 false x660000 x660001 x660002 x695000 x695001 x695002 ((rd_T30 x9 x12).f0) ((rd_T30 x9 x12).f1) ((rd_T30 x9 x12).f2))))) else (none)) else (if (x660000 == x695000 && (x660001 == x695001 && (x660002 == x695002))) = true then ((dancestudiolaw44_awake.f k).bind fun t695 => (some t695)) else (none))
def dancestudiolaw44_CollideLeast.j1 : Nat → List (S30) → Int → Bool → Int → Int → Int → Int → Int → Int → Int → Int → Int → Option (Bool)
 | 0, _, _, _, _, _, _, _, _, _, _, _, _ => none
 | k + 1, x9, x12, x112, x660000, x660001, x660002, x695000, x695001, x695002, x698000, x698001, x698002 => if x112 = true then (none) else (if x698000 < x695000 then (dancestudiolaw44_CollideLeast.l0 k x9 (wrap64 (x12 + 1)) x660000 x660001 x660002 x698000 x698001 x698002) else (dancestudiolaw44_CollideLeast.l0 k x9 (wrap64 (x12 + 1)) x660000 x660001 x660002 x695000 x695001 x695002))
end
def dancestudiolaw44_CollideLeast.f (k : Nat) (l0 : List (S43)) (l1 : List Int) (l2 : List (S62)) : Option (Bool) := (dancestudioref44_Light.f k l0 l2).bind fun t634 => (if t634 = true then ((collide_First.f k l0 l1 l2).bind fun bt655 => ((collide_All.f k l0 l1 l2).bind fun bt660 => (if bt655.2.2.2 = bt660.2 then (if bt655.2.2.2 = 0 then (if (bt660.1.length : Int) = 0 then (if (bt655.1 == (-1) && (bt655.2.1 == 0 && (bt655.2.2.1 == 0))) = true then ((dancestudiolaw44_awake.f k).bind fun t684 => (some t684)) else (none)) else (if 0 < (bt660.1.length : Int) then (dancestudiolaw44_CollideLeast.l0 k bt660.1 0 bt655.1 bt655.2.1 bt655.2.2.1 ((rd_T30 bt660.1 0).f0) ((rd_T30 bt660.1 0).f1) ((rd_T30 bt660.1 0).f2)) else (none))) else (if (bt660.1.length : Int) = 0 then ((dancestudiolaw44_awake.f k).bind fun t674 => (some t674)) else (none))) else (none)))) else ((dancestudiolaw44_awake.f k).bind fun t635 => (some t635)))
theorem dancestudiolaw44_CollideLeast.mono_l : ∀ k, (∀ y0 y1 y2 y3 y4 y5 y6 y7, LeO (dancestudiolaw44_CollideLeast.l0 k y0 y1 y2 y3 y4 y5 y6 y7) (dancestudiolaw44_CollideLeast.l0 (k + 1) y0 y1 y2 y3 y4 y5 y6 y7)) ∧ (∀ y0 y1 y2 y3 y4 y5 y6 y7 y8 y9 y10 y11, LeO (dancestudiolaw44_CollideLeast.j1 k y0 y1 y2 y3 y4 y5 y6 y7 y8 y9 y10 y11) (dancestudiolaw44_CollideLeast.j1 (k + 1) y0 y1 y2 y3 y4 y5 y6 y7 y8 y9 y10 y11))
 | 0 => ⟨fun _ _ _ _ _ _ _ _ r h => by simp [dancestudiolaw44_CollideLeast.l0] at h, fun _ _ _ _ _ _ _ _ _ _ _ _ r h => by simp [dancestudiolaw44_CollideLeast.j1] at h⟩
 | k + 1 => by
  obtain ⟨ih0, ih1⟩ := dancestudiolaw44_CollideLeast.mono_l k
  refine ⟨?_, ?_⟩
  ·
   intro y0 y1 y2 y3 y4 y5 y6 y7
   unfold dancestudiolaw44_CollideLeast.l0
   repeat' first
   | (with_reducible exact ih0 _ _ _ _ _ _ _ _)
   | (with_reducible exact ih1 _ _ _ _ _ _ _ _ _ _ _ _)
   | (with_reducible exact collide_All.mono _ _ _ _)
   | (with_reducible exact collide_First.mono _ _ _ _)
   | (with_reducible exact dancestudiolaw44_awake.mono _)
   | (with_reducible exact dancestudioref44_Light.mono _ _ _)
   | (with_reducible exact LeO.refl _)
   | (with_reducible exact LeO.none _)
   | (with_reducible refine LeO.ite ?_ ?_)
   | (with_reducible refine LeO.bind ?_ (fun _ => ?_))
   | exact ih0 _ _ _ _ _ _ _ _
   | exact ih1 _ _ _ _ _ _ _ _ _ _ _ _
   | exact collide_All.mono _ _ _ _
   | exact collide_First.mono _ _ _ _
   | exact dancestudiolaw44_awake.mono _
   | exact dancestudioref44_Light.mono _ _ _
   | exact LeO.none _
   | refine LeO.ite ?_ ?_
   | refine LeO.bind ?_ (fun _ => ?_)
  ·
   intro y0 y1 y2 y3 y4 y5 y6 y7 y8 y9 y10 y11
   unfold dancestudiolaw44_CollideLeast.j1
   repeat' first
   | (with_reducible exact ih0 _ _ _ _ _ _ _ _)
   | (with_reducible exact ih1 _ _ _ _ _ _ _ _ _ _ _ _)
   | (with_reducible exact collide_All.mono _ _ _ _)
   | (with_reducible exact collide_First.mono _ _ _ _)
   | (with_reducible exact dancestudiolaw44_awake.mono _)
   | (with_reducible exact dancestudioref44_Light.mono _ _ _)
   | (with_reducible exact LeO.refl _)
   | (with_reducible exact LeO.none _)
   | (with_reducible refine LeO.ite ?_ ?_)
   | (with_reducible refine LeO.bind ?_ (fun _ => ?_))
   | exact ih0 _ _ _ _ _ _ _ _
   | exact ih1 _ _ _ _ _ _ _ _ _ _ _ _
   | exact collide_All.mono _ _ _ _
   | exact collide_First.mono _ _ _ _
   | exact dancestudiolaw44_awake.mono _
   | exact dancestudioref44_Light.mono _ _ _
   | exact LeO.none _
   | refine LeO.ite ?_ ?_
   | refine LeO.bind ?_ (fun _ => ?_)
theorem dancestudiolaw44_CollideLeast.mono : ∀ a0 a1 a2 k, LeO (dancestudiolaw44_CollideLeast.f k a0 a1 a2) (dancestudiolaw44_CollideLeast.f (k + 1) a0 a1 a2) := by
 intro a0 a1 a2 k
 obtain ⟨ih0, ih1⟩ := dancestudiolaw44_CollideLeast.mono_l k
 unfold dancestudiolaw44_CollideLeast.f
 repeat' first
   | (with_reducible exact ih0 _ _ _ _ _ _ _ _)
   | (with_reducible exact ih1 _ _ _ _ _ _ _ _ _ _ _ _)
   | (with_reducible exact collide_All.mono _ _ _ _)
   | (with_reducible exact collide_First.mono _ _ _ _)
   | (with_reducible exact dancestudiolaw44_awake.mono _)
   | (with_reducible exact dancestudioref44_Light.mono _ _ _)
   | (with_reducible exact LeO.refl _)
   | (with_reducible exact LeO.none _)
   | (with_reducible refine LeO.ite ?_ ?_)
   | (with_reducible refine LeO.bind ?_ (fun _ => ?_))
   | exact ih0 _ _ _ _ _ _ _ _
   | exact ih1 _ _ _ _ _ _ _ _ _ _ _ _
   | exact collide_All.mono _ _ _ _
   | exact collide_First.mono _ _ _ _
   | exact dancestudiolaw44_awake.mono _
   | exact dancestudioref44_Light.mono _ _ _
   | exact LeO.none _
   | refine LeO.ite ?_ ?_
   | refine LeO.bind ?_ (fun _ => ?_)
set_option maxHeartbeats 8000000 in
set_option maxRecDepth 100000 in
theorem dancestudiolaw44_CollideLeast.calls (k : Nat) (A0 : Option Addr) (c0 : Nat) (l0 : List (S43)) (A1 : Option Addr) (c1 : Nat) (l1 : List Int) (A2 : Option Addr) (c2 : Nat) (l2 : List (S62)) (r : Bool) (w : World) (hr0 : Kd.C k43 w A0 l0.length l0) (hc0 : l0.length ≤ c0) (hr1 : Kd.C (Kd.int .i64) w A1 l1.length l1) (hc1 : l1.length ≤ c1) (hr2 : Kd.C k62 w A2 l2.length l2) (hc2 : l2.length ≤ c2) (h : dancestudiolaw44_CollideLeast.f k l0 l1 l2 = some r) :
  Calls Try.prog 7 #[.slice A0 l0.length c0, .slice A1 l1.length c1, .slice A2 l2.length c2] w fun e w' => e = .returned (.bool r) ∧ Below w.heap.size w w' := by
 have hu30 := Try.underlying30
 have HR0 := am hr0
 have HC0 := am hc0
 clear hr0 hc0
 have HR1 := am hr1
 have HC1 := am hc1
 clear hr1 hc1
 have HR2 := am hr2
 have HC2 := am hc2
 clear hr2 hc2
 have HB := am (Below.refl w.heap.size w)
 have H : ((dancestudioref44_Light.f k l0 l2).bind fun t634 => (if t634 = true then ((collide_First.f k l0 l1 l2).bind fun bt655 => ((collide_All.f k l0 l1 l2).bind fun bt660 => (if bt655.2.2.2 = bt660.2 then (if bt655.2.2.2 = 0 then (if (bt660.1.length : Int) = 0 then (if (bt655.1 == (-1) && (bt655.2.1 == 0 && (bt655.2.2.1 == 0))) = true then ((dancestudiolaw44_awake.f k).bind fun t684 => (some t684)) else (none)) else (if 0 < (bt660.1.length : Int) then (dancestudiolaw44_CollideLeast.l0 k bt660.1 0 bt655.1 bt655.2.1 bt655.2.2.1 ((rd_T30 bt660.1 0).f0) ((rd_T30 bt660.1 0).f1) ((rd_T30 bt660.1 0).f2)) else (none))) else (if (bt660.1.length : Int) = 0 then ((dancestudiolaw44_awake.f k).bind fun t674 => (some t674)) else (none))) else (none)))) else ((dancestudiolaw44_awake.f k).bind fun t635 => (some t635)))) = some r := h
 clear h
 replace H := Option.bind_eq_some_iff.mp H
 obtain ⟨t634, A40, H⟩ := H
 replace H : (if t634 = true then ((collide_First.f k l0 l1 l2).bind fun bt655 => ((collide_All.f k l0 l1 l2).bind fun bt660 => (if bt655.2.2.2 = bt660.2 then (if bt655.2.2.2 = 0 then (if (bt660.1.length : Int) = 0 then (if (bt655.1 == (-1) && (bt655.2.1 == 0 && (bt655.2.2.1 == 0))) = true then ((dancestudiolaw44_awake.f k).bind fun t684 => (some t684)) else (none)) else (if 0 < (bt660.1.length : Int) then (dancestudiolaw44_CollideLeast.l0 k bt660.1 0 bt655.1 bt655.2.1 bt655.2.2.1 ((rd_T30 bt660.1 0).f0) ((rd_T30 bt660.1 0).f1) ((rd_T30 bt660.1 0).f2)) else (none))) else (if (bt660.1.length : Int) = 0 then ((dancestudiolaw44_awake.f k).bind fun t674 => (some t674)) else (none))) else (none)))) else ((dancestudiolaw44_awake.f k).bind fun t635 => (some t635))) = some r := H
 have A4 := am A40
 clear A40
 by_cases c5 : t634 = true
 ·
  subst c5
  have H1 : ((collide_First.f k l0 l1 l2).bind fun bt655 => ((collide_All.f k l0 l1 l2).bind fun bt660 => (if bt655.2.2.2 = bt660.2 then (if bt655.2.2.2 = 0 then (if (bt660.1.length : Int) = 0 then (if (bt655.1 == (-1) && (bt655.2.1 == 0 && (bt655.2.2.1 == 0))) = true then ((dancestudiolaw44_awake.f k).bind fun t684 => (some t684)) else (none)) else (if 0 < (bt660.1.length : Int) then (dancestudiolaw44_CollideLeast.l0 k bt660.1 0 bt655.1 bt655.2.1 bt655.2.2.1 ((rd_T30 bt660.1 0).f0) ((rd_T30 bt660.1 0).f1) ((rd_T30 bt660.1 0).f2)) else (none))) else (if (bt660.1.length : Int) = 0 then ((dancestudiolaw44_awake.f k).bind fun t674 => (some t674)) else (none))) else (none)))) = some r := by rw [if_pos rfl] at H; exact H
  clear H
  have H := H1
  clear H1
  replace H := Option.bind_eq_some_iff.mp H
  obtain ⟨⟨t655, t656, t657, t658⟩, A60, H⟩ := H
  replace H : ((collide_All.f k l0 l1 l2).bind fun bt660 => (if t658 = bt660.2 then (if t658 = 0 then (if (bt660.1.length : Int) = 0 then (if (t655 == (-1) && (t656 == 0 && (t657 == 0))) = true then ((dancestudiolaw44_awake.f k).bind fun t684 => (some t684)) else (none)) else (if 0 < (bt660.1.length : Int) then (dancestudiolaw44_CollideLeast.l0 k bt660.1 0 t655 t656 t657 ((rd_T30 bt660.1 0).f0) ((rd_T30 bt660.1 0).f1) ((rd_T30 bt660.1 0).f2)) else (none))) else (if (bt660.1.length : Int) = 0 then ((dancestudiolaw44_awake.f k).bind fun t674 => (some t674)) else (none))) else (none))) = some r := H
  have A6 := am A60
  clear A60
  replace H := Option.bind_eq_some_iff.mp H
  obtain ⟨⟨t660, t661⟩, A70, H⟩ := H
  replace H : (if t658 = t661 then (if t658 = 0 then (if (t660.length : Int) = 0 then (if (t655 == (-1) && (t656 == 0 && (t657 == 0))) = true then ((dancestudiolaw44_awake.f k).bind fun t684 => (some t684)) else (none)) else (if 0 < (t660.length : Int) then (dancestudiolaw44_CollideLeast.l0 k t660 0 t655 t656 t657 ((rd_T30 t660 0).f0) ((rd_T30 t660 0).f1) ((rd_T30 t660 0).f2)) else (none))) else (if (t660.length : Int) = 0 then ((dancestudiolaw44_awake.f k).bind fun t674 => (some t674)) else (none))) else (none)) = some r := H
  have A7 := am A70
  clear A70
  by_cases c8 : t658 = t661; rotate_left
  · rw [if_neg c8] at H; exact absurd H (by simp)
  rw [if_pos c8] at H
  have c8b0 : (t658 == t661) = true := beq_iff_eq.mpr c8
  have c8b1 : (t658 != t661) = false := bne_eq_false_iff_eq.mpr c8
  clear c8
  by_cases c9 : t658 = 0
  ·
   rw [if_pos c9] at H
   have c9b0 : (t658 == 0) = true := beq_iff_eq.mpr c9
   have c9b1 : (t658 != 0) = false := bne_eq_false_iff_eq.mpr c9
   clear c9
   by_cases c10 : (t660.length : Int) = 0
   ·
    rw [if_pos c10] at H
    have c10b0 : ((t660.length : Int) == 0) = true := beq_iff_eq.mpr c10
    have c10b1 : ((t660.length : Int) != 0) = false := bne_eq_false_iff_eq.mpr c10
    clear c10
    by_cases c11 : (t655 == (-1) && (t656 == 0 && (t657 == 0))) = true; rotate_left
    · rw [if_neg c11] at H; exact absurd H (by simp)
    rw [if_pos c11] at H
    have c11b0 : (t655 == (-1) && (t656 == 0 && (t657 == 0))) = true := c11
    (try (have c11b1 : decide (t655 = (-1) && (t656 == 0 && (t657 == 0))) = true := by simpa using c11))
    (try (have c11b2 : (t655 == (-1) && (t656 == 0 && (t657 == 0))) = true := by simpa using c11))
    clear c11
    replace H := Option.bind_eq_some_iff.mp H
    obtain ⟨t684, A120, H⟩ := H
    replace H : (some t684) = some r := H
    have A12 := am A120
    clear A120
    obtain rfl := Option.some.inj H
    go_enter Try.func7, Try.ntmps7
    go_wp2_with (first | (go_at_call 11; (with_reducible refine (dancestudioref44_Light.calls k _ _ l0 _ _ l2 true _ ?side1 ?side2 ?side3 ?side4 A4.out).mono ?_); (case side1 => repeat (first | exact HR0.out | (with_reducible first | apply cA | apply cN | apply cD))); (case side2 => exact HC0.out); (case side3 => repeat (first | exact HR2.out | (with_reducible first | apply cA | apply cN | apply cD))); (case side4 => exact HC2.out); rintro e w' ⟨rfl, ⟨nd, rfl⟩⟩; (try first | exact ⟨rfl, _, World.drewN_drewN _ _ _⟩ | exact ⟨rfl, _, Eq.trans (World.drewN_drewN _ _ _) (congrArg (World.drewN _) (Nat.add_assoc _ _ _))⟩)) | (go_at_call 15; (with_reducible refine (collide_First.calls k _ _ l0 _ _ l1 _ _ l2 t655 t656 t657 t658 _ ?side1 ?side2 ?side3 ?side4 ?side5 ?side6 A6.out).mono ?_); (case side1 => repeat (first | exact HR0.out | (with_reducible first | apply cA | apply cN | apply cD))); (case side2 => exact HC0.out); (case side3 => repeat (first | exact HR1.out | (with_reducible first | apply cA | apply cN | apply cD))); (case side4 => exact HC1.out); (case side5 => repeat (first | exact HR2.out | (with_reducible first | apply cA | apply cN | apply cD))); (case side6 => exact HC2.out); rintro e w13 ⟨rfl, hb⟩; replace HB := am (below_step bz hb); (try clear hb); (try clear hb2); (try clear hk); (try clear hi)) | ((with_reducible refine gate_dst (N := 7) rfl ?_); refine box_event yz (N := 7) yz (cs := #[.int .i64 0, .int .i64 0, .int .i64 0]) (t := 30) gz ?_; intro gb659 hg w14 hbox hb; have BK659 := am (hbox); have GW659 := gwz (g := gb659) HB hg; have GE659 := GW659; replace HB := am (below_step bz hb); clear hb hbox hg; obtain ⟨hcz15_0, hcz15_1, hcz15_2, hfz15_0, hfz15_1, hfz15_2⟩ := kc3 BK659.out) | (go_at_call 16; (with_reducible refine (collide_All.calls k _ _ l0 _ _ l1 _ _ l2 t660 t661 _ ?side1 ?side2 ?side3 ?side4 ?side5 ?side6 A7.out).mono ?_); (case side1 => exact Kd.C_below HR0.out bz); (case side2 => exact HC0.out); (case side3 => exact Kd.C_below HR1.out bz); (case side4 => exact HC1.out); (case side5 => exact Kd.C_below HR2.out bz); (case side6 => exact HC2.out); rintro e w16 ⟨v662, rfl, ho0, hb⟩; have HO663 := am (Kd.R_lower (Kd.R_newB ho0 (g := gb659) (o := .cells #[.int .i64 t655, .int .i64 t656, .int .i64 t657] 30 (0, 0)) (by (with_reducible repeat first | apply kN | apply kD | apply kA); refine blk_put (cs := #[.int .i64 t655, .int .i64 t656, .int .i64 0]) ?_ 2 _ rfl; (with_reducible repeat first | apply kN | apply kD | apply kA); refine blk_put (cs := #[.int .i64 t655, .int .i64 0, .int .i64 0]) ?_ 1 _ rfl; (with_reducible repeat first | apply kN | apply kD | apply kA); refine blk_put (cs := #[.int .i64 0, .int .i64 0, .int .i64 0]) ?_ 0 _ rfl; (with_reducible repeat first | apply kN | apply kD | apply kA); exact BK659.out)) (below_size bz)); replace BK659 := am (blk_below (o := .cells #[.int .i64 t655, .int .i64 t656, .int .i64 t657] 30 (0, 0)) (by (with_reducible repeat first | apply kN | apply kD | apply kA); refine blk_put (cs := #[.int .i64 t655, .int .i64 t656, .int .i64 0]) ?_ 2 _ rfl; (with_reducible repeat first | apply kN | apply kD | apply kA); refine blk_put (cs := #[.int .i64 t655, .int .i64 0, .int .i64 0]) ?_ 1 _ rfl; (with_reducible repeat first | apply kN | apply kD | apply kA); refine blk_put (cs := #[.int .i64 0, .int .i64 0, .int .i64 0]) ?_ 0 _ rfl; (with_reducible repeat first | apply kN | apply kD | apply kA); exact BK659.out) hb); replace HB := am (below_step bz hb); (try clear hb); (try clear hb2); (try clear hk); (try clear hi); (try clear ho0); obtain ⟨Ao17, co17, eo17⟩ := Kd.R_slice HO663.out; subst eo17; obtain ⟨hcz18_0, hcz18_1, hcz18_2, hfz18_0, hfz18_1, hfz18_2⟩ := kc3 BK659.out) | (go_at_call 12; (with_reducible refine (dancestudiolaw44_awake.calls k  t684 _ A12.out).mono ?_); rintro e w19 ⟨rfl, hb⟩; replace HO663 := am (Kd.R_below (rz HO663) hb); replace BK659 := am (blk_below (o := .cells #[.int .i64 t655, .int .i64 t656, .int .i64 t657] 30 (0, 0)) (kz BK659) hb); replace HB := am (below_step bz hb); (try clear hb); (try clear hb2); (try clear hk); (try clear hi)))
    repeat (go_quiet (first | (go_at_call 11; (with_reducible refine (dancestudioref44_Light.calls k _ _ l0 _ _ l2 true _ ?side1 ?side2 ?side3 ?side4 A4.out).mono ?_); (case side1 => repeat (first | exact HR0.out | (with_reducible first | apply cA | apply cN | apply cD))); (case side2 => exact HC0.out); (case side3 => repeat (first | exact HR2.out | (with_reducible first | apply cA | apply cN | apply cD))); (case side4 => exact HC2.out); rintro e w' ⟨rfl, ⟨nd, rfl⟩⟩; (try first | exact ⟨rfl, _, World.drewN_drewN _ _ _⟩ | exact ⟨rfl, _, Eq.trans (World.drewN_drewN _ _ _) (congrArg (World.drewN _) (Nat.add_assoc _ _ _))⟩)) | (go_at_call 15; (with_reducible refine (collide_First.calls k _ _ l0 _ _ l1 _ _ l2 t655 t656 t657 t658 _ ?side1 ?side2 ?side3 ?side4 ?side5 ?side6 A6.out).mono ?_); (case side1 => repeat (first | exact HR0.out | (with_reducible first | apply cA | apply cN | apply cD))); (case side2 => exact HC0.out); (case side3 => repeat (first | exact HR1.out | (with_reducible first | apply cA | apply cN | apply cD))); (case side4 => exact HC1.out); (case side5 => repeat (first | exact HR2.out | (with_reducible first | apply cA | apply cN | apply cD))); (case side6 => exact HC2.out); rintro e w13 ⟨rfl, hb⟩; replace HB := am (below_step bz hb); (try clear hb); (try clear hb2); (try clear hk); (try clear hi)) | ((with_reducible refine gate_dst (N := 7) rfl ?_); refine box_event yz (N := 7) yz (cs := #[.int .i64 0, .int .i64 0, .int .i64 0]) (t := 30) gz ?_; intro gb659 hg w14 hbox hb; have BK659 := am (hbox); have GW659 := gwz (g := gb659) HB hg; have GE659 := GW659; replace HB := am (below_step bz hb); clear hb hbox hg; obtain ⟨hcz15_0, hcz15_1, hcz15_2, hfz15_0, hfz15_1, hfz15_2⟩ := kc3 BK659.out) | (go_at_call 16; (with_reducible refine (collide_All.calls k _ _ l0 _ _ l1 _ _ l2 t660 t661 _ ?side1 ?side2 ?side3 ?side4 ?side5 ?side6 A7.out).mono ?_); (case side1 => exact Kd.C_below HR0.out bz); (case side2 => exact HC0.out); (case side3 => exact Kd.C_below HR1.out bz); (case side4 => exact HC1.out); (case side5 => exact Kd.C_below HR2.out bz); (case side6 => exact HC2.out); rintro e w16 ⟨v662, rfl, ho0, hb⟩; have HO663 := am (Kd.R_lower (Kd.R_newB ho0 (g := gb659) (o := .cells #[.int .i64 t655, .int .i64 t656, .int .i64 t657] 30 (0, 0)) (by (with_reducible repeat first | apply kN | apply kD | apply kA); refine blk_put (cs := #[.int .i64 t655, .int .i64 t656, .int .i64 0]) ?_ 2 _ rfl; (with_reducible repeat first | apply kN | apply kD | apply kA); refine blk_put (cs := #[.int .i64 t655, .int .i64 0, .int .i64 0]) ?_ 1 _ rfl; (with_reducible repeat first | apply kN | apply kD | apply kA); refine blk_put (cs := #[.int .i64 0, .int .i64 0, .int .i64 0]) ?_ 0 _ rfl; (with_reducible repeat first | apply kN | apply kD | apply kA); exact BK659.out)) (below_size bz)); replace BK659 := am (blk_below (o := .cells #[.int .i64 t655, .int .i64 t656, .int .i64 t657] 30 (0, 0)) (by (with_reducible repeat first | apply kN | apply kD | apply kA); refine blk_put (cs := #[.int .i64 t655, .int .i64 t656, .int .i64 0]) ?_ 2 _ rfl; (with_reducible repeat first | apply kN | apply kD | apply kA); refine blk_put (cs := #[.int .i64 t655, .int .i64 0, .int .i64 0]) ?_ 1 _ rfl; (with_reducible repeat first | apply kN | apply kD | apply kA); refine blk_put (cs := #[.int .i64 0, .int .i64 0, .int .i64 0]) ?_ 0 _ rfl; (with_reducible repeat first | apply kN | apply kD | apply kA); exact BK659.out) hb); replace HB := am (below_step bz hb); (try clear hb); (try clear hb2); (try clear hk); (try clear hi); (try clear ho0); obtain ⟨Ao17, co17, eo17⟩ := Kd.R_slice HO663.out; subst eo17; obtain ⟨hcz18_0, hcz18_1, hcz18_2, hfz18_0, hfz18_1, hfz18_2⟩ := kc3 BK659.out) | (go_at_call 12; (with_reducible refine (dancestudiolaw44_awake.calls k  t684 _ A12.out).mono ?_); rintro e w19 ⟨rfl, hb⟩; replace HO663 := am (Kd.R_below (rz HO663) hb); replace BK659 := am (blk_below (o := .cells #[.int .i64 t655, .int .i64 t656, .int .i64 t657] 30 (0, 0)) (kz BK659) hb); replace HB := am (below_step bz hb); (try clear hb); (try clear hb2); (try clear hk); (try clear hi))); try go_wp2_with (first | (go_at_call 11; (with_reducible refine (dancestudioref44_Light.calls k _ _ l0 _ _ l2 true _ ?side1 ?side2 ?side3 ?side4 A4.out).mono ?_); (case side1 => repeat (first | exact HR0.out | (with_reducible first | apply cA | apply cN | apply cD))); (case side2 => exact HC0.out); (case side3 => repeat (first | exact HR2.out | (with_reducible first | apply cA | apply cN | apply cD))); (case side4 => exact HC2.out); rintro e w' ⟨rfl, ⟨nd, rfl⟩⟩; (try first | exact ⟨rfl, _, World.drewN_drewN _ _ _⟩ | exact ⟨rfl, _, Eq.trans (World.drewN_drewN _ _ _) (congrArg (World.drewN _) (Nat.add_assoc _ _ _))⟩)) | (go_at_call 15; (with_reducible refine (collide_First.calls k _ _ l0 _ _ l1 _ _ l2 t655 t656 t657 t658 _ ?side1 ?side2 ?side3 ?side4 ?side5 ?side6 A6.out).mono ?_); (case side1 => repeat (first | exact HR0.out | (with_reducible first | apply cA | apply cN | apply cD))); (case side2 => exact HC0.out); (case side3 => repeat (first | exact HR1.out | (with_reducible first | apply cA | apply cN | apply cD))); (case side4 => exact HC1.out); (case side5 => repeat (first | exact HR2.out | (with_reducible first | apply cA | apply cN | apply cD))); (case side6 => exact HC2.out); rintro e w13 ⟨rfl, hb⟩; replace HB := am (below_step bz hb); (try clear hb); (try clear hb2); (try clear hk); (try clear hi)) | ((with_reducible refine gate_dst (N := 7) rfl ?_); refine box_event yz (N := 7) yz (cs := #[.int .i64 0, .int .i64 0, .int .i64 0]) (t := 30) gz ?_; intro gb659 hg w14 hbox hb; have BK659 := am (hbox); have GW659 := gwz (g := gb659) HB hg; have GE659 := GW659; replace HB := am (below_step bz hb); clear hb hbox hg; obtain ⟨hcz15_0, hcz15_1, hcz15_2, hfz15_0, hfz15_1, hfz15_2⟩ := kc3 BK659.out) | (go_at_call 16; (with_reducible refine (collide_All.calls k _ _ l0 _ _ l1 _ _ l2 t660 t661 _ ?side1 ?side2 ?side3 ?side4 ?side5 ?side6 A7.out).mono ?_); (case side1 => exact Kd.C_below HR0.out bz); (case side2 => exact HC0.out); (case side3 => exact Kd.C_below HR1.out bz); (case side4 => exact HC1.out); (case side5 => exact Kd.C_below HR2.out bz); (case side6 => exact HC2.out); rintro e w16 ⟨v662, rfl, ho0, hb⟩; have HO663 := am (Kd.R_lower (Kd.R_newB ho0 (g := gb659) (o := .cells #[.int .i64 t655, .int .i64 t656, .int .i64 t657] 30 (0, 0)) (by (with_reducible repeat first | apply kN | apply kD | apply kA); refine blk_put (cs := #[.int .i64 t655, .int .i64 t656, .int .i64 0]) ?_ 2 _ rfl; (with_reducible repeat first | apply kN | apply kD | apply kA); refine blk_put (cs := #[.int .i64 t655, .int .i64 0, .int .i64 0]) ?_ 1 _ rfl; (with_reducible repeat first | apply kN | apply kD | apply kA); refine blk_put (cs := #[.int .i64 0, .int .i64 0, .int .i64 0]) ?_ 0 _ rfl; (with_reducible repeat first | apply kN | apply kD | apply kA); exact BK659.out)) (below_size bz)); replace BK659 := am (blk_below (o := .cells #[.int .i64 t655, .int .i64 t656, .int .i64 t657] 30 (0, 0)) (by (with_reducible repeat first | apply kN | apply kD | apply kA); refine blk_put (cs := #[.int .i64 t655, .int .i64 t656, .int .i64 0]) ?_ 2 _ rfl; (with_reducible repeat first | apply kN | apply kD | apply kA); refine blk_put (cs := #[.int .i64 t655, .int .i64 0, .int .i64 0]) ?_ 1 _ rfl; (with_reducible repeat first | apply kN | apply kD | apply kA); refine blk_put (cs := #[.int .i64 0, .int .i64 0, .int .i64 0]) ?_ 0 _ rfl; (with_reducible repeat first | apply kN | apply kD | apply kA); exact BK659.out) hb); replace HB := am (below_step bz hb); (try clear hb); (try clear hb2); (try clear hk); (try clear hi); (try clear ho0); obtain ⟨Ao17, co17, eo17⟩ := Kd.R_slice HO663.out; subst eo17; obtain ⟨hcz18_0, hcz18_1, hcz18_2, hfz18_0, hfz18_1, hfz18_2⟩ := kc3 BK659.out) | (go_at_call 12; (with_reducible refine (dancestudiolaw44_awake.calls k  t684 _ A12.out).mono ?_); rintro e w19 ⟨rfl, hb⟩; replace HO663 := am (Kd.R_below (rz HO663) hb); replace BK659 := am (blk_below (o := .cells #[.int .i64 t655, .int .i64 t656, .int .i64 t657] 30 (0, 0)) (kz BK659) hb); replace HB := am (below_step bz hb); (try clear hb); (try clear hb2); (try clear hk); (try clear hi))))
    go_ret
    exact ⟨ez, bz⟩
   ·
    rw [if_neg c10] at H
    have c10b0 : ((t660.length : Int) == 0) = false := beq_eq_false_iff_ne.mpr c10
    have c10b1 : ((t660.length : Int) != 0) = true := bne_iff_ne.mpr c10
    have c10b2 : ¬ (t660 = []) := fun h_ => c10 (by rw [h_]; rfl)
    by_cases c20 : 0 < (t660.length : Int); rotate_left
    · rw [if_neg c20] at H; exact absurd H (by simp)
    rw [if_pos c20] at H
    have c20b0 := decide_eq_true c20
    have c20b1 : decide (0 < t660.length) = true := decide_eq_true (by omega)
    clear c20
    have H' := am H
    clear H
    go_enter Try.func7, Try.ntmps7
    go_wp2_with (first | (go_at_call 11; (with_reducible refine (dancestudioref44_Light.calls k _ _ l0 _ _ l2 true _ ?side1 ?side2 ?side3 ?side4 A4.out).mono ?_); (case side1 => repeat (first | exact HR0.out | (with_reducible first | apply cA | apply cN | apply cD))); (case side2 => exact HC0.out); (case side3 => repeat (first | exact HR2.out | (with_reducible first | apply cA | apply cN | apply cD))); (case side4 => exact HC2.out); rintro e w' ⟨rfl, ⟨nd, rfl⟩⟩; (try first | exact ⟨rfl, _, World.drewN_drewN _ _ _⟩ | exact ⟨rfl, _, Eq.trans (World.drewN_drewN _ _ _) (congrArg (World.drewN _) (Nat.add_assoc _ _ _))⟩)) | (go_at_call 15; (with_reducible refine (collide_First.calls k _ _ l0 _ _ l1 _ _ l2 t655 t656 t657 t658 _ ?side1 ?side2 ?side3 ?side4 ?side5 ?side6 A6.out).mono ?_); (case side1 => repeat (first | exact HR0.out | (with_reducible first | apply cA | apply cN | apply cD))); (case side2 => exact HC0.out); (case side3 => repeat (first | exact HR1.out | (with_reducible first | apply cA | apply cN | apply cD))); (case side4 => exact HC1.out); (case side5 => repeat (first | exact HR2.out | (with_reducible first | apply cA | apply cN | apply cD))); (case side6 => exact HC2.out); rintro e w21 ⟨rfl, hb⟩; replace HB := am (below_step bz hb); (try clear hb); (try clear hb2); (try clear hk); (try clear hi)) | ((with_reducible refine gate_dst (N := 7) rfl ?_); refine box_event yz (N := 7) yz (cs := #[.int .i64 0, .int .i64 0, .int .i64 0]) (t := 30) gz ?_; intro gb659 hg w22 hbox hb; have BK659 := am (hbox); have GW659 := gwz (g := gb659) HB hg; have GE659 := GW659; replace HB := am (below_step bz hb); clear hb hbox hg; obtain ⟨hcz23_0, hcz23_1, hcz23_2, hfz23_0, hfz23_1, hfz23_2⟩ := kc3 BK659.out) | (go_at_call 16; (with_reducible refine (collide_All.calls k _ _ l0 _ _ l1 _ _ l2 t660 t661 _ ?side1 ?side2 ?side3 ?side4 ?side5 ?side6 A7.out).mono ?_); (case side1 => exact Kd.C_below HR0.out bz); (case side2 => exact HC0.out); (case side3 => exact Kd.C_below HR1.out bz); (case side4 => exact HC1.out); (case side5 => exact Kd.C_below HR2.out bz); (case side6 => exact HC2.out); rintro e w24 ⟨v662, rfl, ho0, hb⟩; have HO663 := am (Kd.R_lower (Kd.R_newB ho0 (g := gb659) (o := .cells #[.int .i64 t655, .int .i64 t656, .int .i64 t657] 30 (0, 0)) (by (with_reducible repeat first | apply kN | apply kD | apply kA); refine blk_put (cs := #[.int .i64 t655, .int .i64 t656, .int .i64 0]) ?_ 2 _ rfl; (with_reducible repeat first | apply kN | apply kD | apply kA); refine blk_put (cs := #[.int .i64 t655, .int .i64 0, .int .i64 0]) ?_ 1 _ rfl; (with_reducible repeat first | apply kN | apply kD | apply kA); refine blk_put (cs := #[.int .i64 0, .int .i64 0, .int .i64 0]) ?_ 0 _ rfl; (with_reducible repeat first | apply kN | apply kD | apply kA); exact BK659.out)) (below_size bz)); replace BK659 := am (blk_below (o := .cells #[.int .i64 t655, .int .i64 t656, .int .i64 t657] 30 (0, 0)) (by (with_reducible repeat first | apply kN | apply kD | apply kA); refine blk_put (cs := #[.int .i64 t655, .int .i64 t656, .int .i64 0]) ?_ 2 _ rfl; (with_reducible repeat first | apply kN | apply kD | apply kA); refine blk_put (cs := #[.int .i64 t655, .int .i64 0, .int .i64 0]) ?_ 1 _ rfl; (with_reducible repeat first | apply kN | apply kD | apply kA); refine blk_put (cs := #[.int .i64 0, .int .i64 0, .int .i64 0]) ?_ 0 _ rfl; (with_reducible repeat first | apply kN | apply kD | apply kA); exact BK659.out) hb); replace HB := am (below_step bz hb); (try clear hb); (try clear hb2); (try clear hk); (try clear hi); (try clear ho0); obtain ⟨Ao25, co25, eo25⟩ := Kd.R_slice HO663.out; subst eo25; have p693 : 0 ≤ (0 : Int) := (by omega); have q693 : 0 < (t660.length : Int) := az; obtain ⟨ad693, e693, hx693_0, hx693_1, hx693_2⟩ := at_T30 (Kd.R_reads' HO663.out).2.2 0 p693 q693; cases e693; have qi693 : (0 < t660.length) = True := eq_true (by omega); (try rw [show ((0 : Int)).toNat = 0 from rfl] at hx693_0); (try rw [show 0 * 3 = 0 from rfl] at hx693_0); (try rw [Addr.add_zero'] at hx693_0); (try rw [show ((0 : Int)).toNat = 0 from rfl] at hx693_1); (try rw [show 0 * 3 = 0 from rfl] at hx693_1); (try rw [Addr.add_zero'] at hx693_1); (try rw [show ((0 : Int)).toNat = 0 from rfl] at hx693_2); (try rw [show 0 * 3 = 0 from rfl] at hx693_2); (try rw [Addr.add_zero'] at hx693_2); replace p693 := eq_true p693; replace q693 := eq_true q693) | ((with_reducible refine gate_dst (N := 11) rfl ?_); refine box_event yz (N := 11) yz (cs := #[.int .i64 0, .int .i64 0, .int .i64 0]) (t := 30) gz ?_; intro gb694 hg w26 hbox hb; replace HO663 := am (Kd.R_below (Kd.R_elderB (rz HO663) gb694 (Nat.le_of_eq hg.symm)) hb); have BK694 := am (hbox); have GW694 := gwz (g := gb694) HB hg; have GE694 := GW694; replace HB := am (below_step bz hb); have NB659_694 := nlt (g' := gb694) BK659 hg; have NB694_659 := ngt (g' := gb694) BK659 hg; replace BK659 := am (blk_below (o := .cells #[.int .i64 t655, .int .i64 t656, .int .i64 t657] 30 (0, 0)) (kz BK659) hb); clear hb hbox hg; have hnb27 := NB694_659.out; have hnc27 := NB659_694.out; obtain ⟨hcz28_0, hcz28_1, hcz28_2, hfz28_0, hfz28_1, hfz28_2⟩ := kc3 BK694.out))
    repeat (go_quiet (first | (go_at_call 11; (with_reducible refine (dancestudioref44_Light.calls k _ _ l0 _ _ l2 true _ ?side1 ?side2 ?side3 ?side4 A4.out).mono ?_); (case side1 => repeat (first | exact HR0.out | (with_reducible first | apply cA | apply cN | apply cD))); (case side2 => exact HC0.out); (case side3 => repeat (first | exact HR2.out | (with_reducible first | apply cA | apply cN | apply cD))); (case side4 => exact HC2.out); rintro e w' ⟨rfl, ⟨nd, rfl⟩⟩; (try first | exact ⟨rfl, _, World.drewN_drewN _ _ _⟩ | exact ⟨rfl, _, Eq.trans (World.drewN_drewN _ _ _) (congrArg (World.drewN _) (Nat.add_assoc _ _ _))⟩)) | (go_at_call 15; (with_reducible refine (collide_First.calls k _ _ l0 _ _ l1 _ _ l2 t655 t656 t657 t658 _ ?side1 ?side2 ?side3 ?side4 ?side5 ?side6 A6.out).mono ?_); (case side1 => repeat (first | exact HR0.out | (with_reducible first | apply cA | apply cN | apply cD))); (case side2 => exact HC0.out); (case side3 => repeat (first | exact HR1.out | (with_reducible first | apply cA | apply cN | apply cD))); (case side4 => exact HC1.out); (case side5 => repeat (first | exact HR2.out | (with_reducible first | apply cA | apply cN | apply cD))); (case side6 => exact HC2.out); rintro e w21 ⟨rfl, hb⟩; replace HB := am (below_step bz hb); (try clear hb); (try clear hb2); (try clear hk); (try clear hi)) | ((with_reducible refine gate_dst (N := 7) rfl ?_); refine box_event yz (N := 7) yz (cs := #[.int .i64 0, .int .i64 0, .int .i64 0]) (t := 30) gz ?_; intro gb659 hg w22 hbox hb; have BK659 := am (hbox); have GW659 := gwz (g := gb659) HB hg; have GE659 := GW659; replace HB := am (below_step bz hb); clear hb hbox hg; obtain ⟨hcz23_0, hcz23_1, hcz23_2, hfz23_0, hfz23_1, hfz23_2⟩ := kc3 BK659.out) | (go_at_call 16; (with_reducible refine (collide_All.calls k _ _ l0 _ _ l1 _ _ l2 t660 t661 _ ?side1 ?side2 ?side3 ?side4 ?side5 ?side6 A7.out).mono ?_); (case side1 => exact Kd.C_below HR0.out bz); (case side2 => exact HC0.out); (case side3 => exact Kd.C_below HR1.out bz); (case side4 => exact HC1.out); (case side5 => exact Kd.C_below HR2.out bz); (case side6 => exact HC2.out); rintro e w24 ⟨v662, rfl, ho0, hb⟩; have HO663 := am (Kd.R_lower (Kd.R_newB ho0 (g := gb659) (o := .cells #[.int .i64 t655, .int .i64 t656, .int .i64 t657] 30 (0, 0)) (by (with_reducible repeat first | apply kN | apply kD | apply kA); refine blk_put (cs := #[.int .i64 t655, .int .i64 t656, .int .i64 0]) ?_ 2 _ rfl; (with_reducible repeat first | apply kN | apply kD | apply kA); refine blk_put (cs := #[.int .i64 t655, .int .i64 0, .int .i64 0]) ?_ 1 _ rfl; (with_reducible repeat first | apply kN | apply kD | apply kA); refine blk_put (cs := #[.int .i64 0, .int .i64 0, .int .i64 0]) ?_ 0 _ rfl; (with_reducible repeat first | apply kN | apply kD | apply kA); exact BK659.out)) (below_size bz)); replace BK659 := am (blk_below (o := .cells #[.int .i64 t655, .int .i64 t656, .int .i64 t657] 30 (0, 0)) (by (with_reducible repeat first | apply kN | apply kD | apply kA); refine blk_put (cs := #[.int .i64 t655, .int .i64 t656, .int .i64 0]) ?_ 2 _ rfl; (with_reducible repeat first | apply kN | apply kD | apply kA); refine blk_put (cs := #[.int .i64 t655, .int .i64 0, .int .i64 0]) ?_ 1 _ rfl; (with_reducible repeat first | apply kN | apply kD | apply kA); refine blk_put (cs := #[.int .i64 0, .int .i64 0, .int .i64 0]) ?_ 0 _ rfl; (with_reducible repeat first | apply kN | apply kD | apply kA); exact BK659.out) hb); replace HB := am (below_step bz hb); (try clear hb); (try clear hb2); (try clear hk); (try clear hi); (try clear ho0); obtain ⟨Ao25, co25, eo25⟩ := Kd.R_slice HO663.out; subst eo25; have p693 : 0 ≤ (0 : Int) := (by omega); have q693 : 0 < (t660.length : Int) := az; obtain ⟨ad693, e693, hx693_0, hx693_1, hx693_2⟩ := at_T30 (Kd.R_reads' HO663.out).2.2 0 p693 q693; cases e693; have qi693 : (0 < t660.length) = True := eq_true (by omega); (try rw [show ((0 : Int)).toNat = 0 from rfl] at hx693_0); (try rw [show 0 * 3 = 0 from rfl] at hx693_0); (try rw [Addr.add_zero'] at hx693_0); (try rw [show ((0 : Int)).toNat = 0 from rfl] at hx693_1); (try rw [show 0 * 3 = 0 from rfl] at hx693_1); (try rw [Addr.add_zero'] at hx693_1); (try rw [show ((0 : Int)).toNat = 0 from rfl] at hx693_2); (try rw [show 0 * 3 = 0 from rfl] at hx693_2); (try rw [Addr.add_zero'] at hx693_2); replace p693 := eq_true p693; replace q693 := eq_true q693) | ((with_reducible refine gate_dst (N := 11) rfl ?_); refine box_event yz (N := 11) yz (cs := #[.int .i64 0, .int .i64 0, .int .i64 0]) (t := 30) gz ?_; intro gb694 hg w26 hbox hb; replace HO663 := am (Kd.R_below (Kd.R_elderB (rz HO663) gb694 (Nat.le_of_eq hg.symm)) hb); have BK694 := am (hbox); have GW694 := gwz (g := gb694) HB hg; have GE694 := GW694; replace HB := am (below_step bz hb); have NB659_694 := nlt (g' := gb694) BK659 hg; have NB694_659 := ngt (g' := gb694) BK659 hg; replace BK659 := am (blk_below (o := .cells #[.int .i64 t655, .int .i64 t656, .int .i64 t657] 30 (0, 0)) (kz BK659) hb); clear hb hbox hg; have hnb27 := NB694_659.out; have hnc27 := NB659_694.out; obtain ⟨hcz28_0, hcz28_1, hcz28_2, hfz28_0, hfz28_1, hfz28_2⟩ := kc3 BK694.out)); try go_wp2_with (first | (go_at_call 11; (with_reducible refine (dancestudioref44_Light.calls k _ _ l0 _ _ l2 true _ ?side1 ?side2 ?side3 ?side4 A4.out).mono ?_); (case side1 => repeat (first | exact HR0.out | (with_reducible first | apply cA | apply cN | apply cD))); (case side2 => exact HC0.out); (case side3 => repeat (first | exact HR2.out | (with_reducible first | apply cA | apply cN | apply cD))); (case side4 => exact HC2.out); rintro e w' ⟨rfl, ⟨nd, rfl⟩⟩; (try first | exact ⟨rfl, _, World.drewN_drewN _ _ _⟩ | exact ⟨rfl, _, Eq.trans (World.drewN_drewN _ _ _) (congrArg (World.drewN _) (Nat.add_assoc _ _ _))⟩)) | (go_at_call 15; (with_reducible refine (collide_First.calls k _ _ l0 _ _ l1 _ _ l2 t655 t656 t657 t658 _ ?side1 ?side2 ?side3 ?side4 ?side5 ?side6 A6.out).mono ?_); (case side1 => repeat (first | exact HR0.out | (with_reducible first | apply cA | apply cN | apply cD))); (case side2 => exact HC0.out); (case side3 => repeat (first | exact HR1.out | (with_reducible first | apply cA | apply cN | apply cD))); (case side4 => exact HC1.out); (case side5 => repeat (first | exact HR2.out | (with_reducible first | apply cA | apply cN | apply cD))); (case side6 => exact HC2.out); rintro e w21 ⟨rfl, hb⟩; replace HB := am (below_step bz hb); (try clear hb); (try clear hb2); (try clear hk); (try clear hi)) | ((with_reducible refine gate_dst (N := 7) rfl ?_); refine box_event yz (N := 7) yz (cs := #[.int .i64 0, .int .i64 0, .int .i64 0]) (t := 30) gz ?_; intro gb659 hg w22 hbox hb; have BK659 := am (hbox); have GW659 := gwz (g := gb659) HB hg; have GE659 := GW659; replace HB := am (below_step bz hb); clear hb hbox hg; obtain ⟨hcz23_0, hcz23_1, hcz23_2, hfz23_0, hfz23_1, hfz23_2⟩ := kc3 BK659.out) | (go_at_call 16; (with_reducible refine (collide_All.calls k _ _ l0 _ _ l1 _ _ l2 t660 t661 _ ?side1 ?side2 ?side3 ?side4 ?side5 ?side6 A7.out).mono ?_); (case side1 => exact Kd.C_below HR0.out bz); (case side2 => exact HC0.out); (case side3 => exact Kd.C_below HR1.out bz); (case side4 => exact HC1.out); (case side5 => exact Kd.C_below HR2.out bz); (case side6 => exact HC2.out); rintro e w24 ⟨v662, rfl, ho0, hb⟩; have HO663 := am (Kd.R_lower (Kd.R_newB ho0 (g := gb659) (o := .cells #[.int .i64 t655, .int .i64 t656, .int .i64 t657] 30 (0, 0)) (by (with_reducible repeat first | apply kN | apply kD | apply kA); refine blk_put (cs := #[.int .i64 t655, .int .i64 t656, .int .i64 0]) ?_ 2 _ rfl; (with_reducible repeat first | apply kN | apply kD | apply kA); refine blk_put (cs := #[.int .i64 t655, .int .i64 0, .int .i64 0]) ?_ 1 _ rfl; (with_reducible repeat first | apply kN | apply kD | apply kA); refine blk_put (cs := #[.int .i64 0, .int .i64 0, .int .i64 0]) ?_ 0 _ rfl; (with_reducible repeat first | apply kN | apply kD | apply kA); exact BK659.out)) (below_size bz)); replace BK659 := am (blk_below (o := .cells #[.int .i64 t655, .int .i64 t656, .int .i64 t657] 30 (0, 0)) (by (with_reducible repeat first | apply kN | apply kD | apply kA); refine blk_put (cs := #[.int .i64 t655, .int .i64 t656, .int .i64 0]) ?_ 2 _ rfl; (with_reducible repeat first | apply kN | apply kD | apply kA); refine blk_put (cs := #[.int .i64 t655, .int .i64 0, .int .i64 0]) ?_ 1 _ rfl; (with_reducible repeat first | apply kN | apply kD | apply kA); refine blk_put (cs := #[.int .i64 0, .int .i64 0, .int .i64 0]) ?_ 0 _ rfl; (with_reducible repeat first | apply kN | apply kD | apply kA); exact BK659.out) hb); replace HB := am (below_step bz hb); (try clear hb); (try clear hb2); (try clear hk); (try clear hi); (try clear ho0); obtain ⟨Ao25, co25, eo25⟩ := Kd.R_slice HO663.out; subst eo25; have p693 : 0 ≤ (0 : Int) := (by omega); have q693 : 0 < (t660.length : Int) := az; obtain ⟨ad693, e693, hx693_0, hx693_1, hx693_2⟩ := at_T30 (Kd.R_reads' HO663.out).2.2 0 p693 q693; cases e693; have qi693 : (0 < t660.length) = True := eq_true (by omega); (try rw [show ((0 : Int)).toNat = 0 from rfl] at hx693_0); (try rw [show 0 * 3 = 0 from rfl] at hx693_0); (try rw [Addr.add_zero'] at hx693_0); (try rw [show ((0 : Int)).toNat = 0 from rfl] at hx693_1); (try rw [show 0 * 3 = 0 from rfl] at hx693_1); (try rw [Addr.add_zero'] at hx693_1); (try rw [show ((0 : Int)).toNat = 0 from rfl] at hx693_2); (try rw [show 0 * 3 = 0 from rfl] at hx693_2); (try rw [Addr.add_zero'] at hx693_2); replace p693 := eq_true p693; replace q693 := eq_true q693) | ((with_reducible refine gate_dst (N := 11) rfl ?_); refine box_event yz (N := 11) yz (cs := #[.int .i64 0, .int .i64 0, .int .i64 0]) (t := 30) gz ?_; intro gb694 hg w26 hbox hb; replace HO663 := am (Kd.R_below (Kd.R_elderB (rz HO663) gb694 (Nat.le_of_eq hg.symm)) hb); have BK694 := am (hbox); have GW694 := gwz (g := gb694) HB hg; have GE694 := GW694; replace HB := am (below_step bz hb); have NB659_694 := nlt (g' := gb694) BK659 hg; have NB694_659 := ngt (g' := gb694) BK659 hg; replace BK659 := am (blk_below (o := .cells #[.int .i64 t655, .int .i64 t656, .int .i64 t657] 30 (0, 0)) (kz BK659) hb); clear hb hbox hg; have hnb27 := NB694_659.out; have hnc27 := NB659_694.out; obtain ⟨hcz28_0, hcz28_1, hcz28_2, hfz28_0, hfz28_1, hfz28_2⟩ := kc3 BK694.out)))
    go_loopg [12] k (fun kq v12 w' => ∃ (x12_1 x695000_1 x695001_1 x695002_1 : Int), v12 = .int .i64 x12_1 ∧ Aside0 (dancestudiolaw44_CollideLeast.l0 kq t660 x12_1 t655 t656 t657 x695000_1 x695001_1 x695002_1 = some r) ∧ Aside0 (kq ≤ k) ∧ Aside0 (Kd.R k30 30 w' w.heap.size (fun k_ => k_ ≠ gb659 ∧ k_ ≠ gb694) (.slice (some ad693) t660.length co25) t660) ∧ Aside0 (w'.heap[gb659]? = some (.cells #[.int .i64 t655, .int .i64 t656, .int .i64 t657] 30 (0, 0))) ∧ Aside0 (w'.heap[gb694]? = some (.cells #[.int .i64 x695000_1, .int .i64 x695001_1, .int .i64 x695002_1] 30 (0, 0))) ∧ Aside0 (Below w.heap.size w w'))
    case atStart => exact ⟨(0), ((rd_T30 t660 0).f0), ((rd_T30 t660 0).f1), ((rd_T30 t660 0).f2), sz, H', ⟨Nat.le_refl _⟩, ⟨by (with_reducible repeat first | apply rA | apply rN | apply rD); exact Kd.R_mono (Kd.R_far (p := ⟨gb694, 2, none⟩) (Kd.R_far (p := ⟨gb694, 1, none⟩) (Kd.R_far (p := ⟨gb694, 0, none⟩) (Kd.R_mono HO663.out (fun k_ hk => (⟨hk, hk.2⟩ : _ ∧ k_ ≠ gb694))) (fun _ hk => hk.2) (.int .i64 ((rd_T30 t660 0).f0))) (fun _ hk => hk.2) (.int .i64 ((rd_T30 t660 0).f1))) (fun _ hk => hk.2) (.int .i64 ((rd_T30 t660 0).f2))) (fun _ hk => ⟨hk.1.1.2, hk.1.2⟩)⟩, ⟨by (with_reducible repeat first | apply kN | apply kD | apply kA); refine blk_far ?_ NB659_694.out _; (with_reducible repeat first | apply kN | apply kD | apply kA); refine blk_far ?_ NB659_694.out _; (with_reducible repeat first | apply kN | apply kD | apply kA); refine blk_far ?_ NB659_694.out _; (with_reducible repeat first | apply kN | apply kD | apply kA); exact BK659.out⟩, ⟨by (with_reducible repeat first | apply kN | apply kD | apply kA); refine blk_put (cs := #[.int .i64 ((rd_T30 t660 0).f0), .int .i64 ((rd_T30 t660 0).f1), .int .i64 0]) ?_ 2 _ rfl; (with_reducible repeat first | apply kN | apply kD | apply kA); refine blk_put (cs := #[.int .i64 ((rd_T30 t660 0).f0), .int .i64 0, .int .i64 0]) ?_ 1 _ rfl; (with_reducible repeat first | apply kN | apply kD | apply kA); refine blk_put (cs := #[.int .i64 0, .int .i64 0, .int .i64 0]) ?_ 0 _ rfl; (with_reducible repeat first | apply kN | apply kD | apply kA); exact BK694.out⟩, ⟨bz⟩⟩
    case round =>
     clear H'
     try clear c1
     try clear c2
     try clear p2
     try clear c5
     try clear p6
     try clear q6
     try clear hx6
     try clear qi6
     try clear c7
     try clear c8
     try clear c8b0
     try clear c8b1
     try clear c9
     try clear c9b0
     try clear c9b1
     try clear c10
     try clear c10b0
     try clear c10b1
     try clear c10b2
     try clear c11
     try clear c11b0
     try clear c11b1
     try clear c11b2
     try clear c20
     try clear c20b0
     try clear c20b1
     try clear c27
     try clear hcz15_0
     try clear hcz15_1
     try clear hcz15_2
     try clear hcz18_0
     try clear hcz18_1
     try clear hcz18_2
     try clear hcz23_0
     try clear hcz23_1
     try clear hcz23_2
     try clear hcz28_0
     try clear hcz28_1
     try clear hcz28_2
     try clear hfz15_0
     try clear hfz15_1
     try clear hfz15_2
     try clear hfz18_0
     try clear hfz18_1
     try clear hfz18_2
     try clear hfz23_0
     try clear hfz23_1
     try clear hfz23_2
     try clear hfz28_0
     try clear hfz28_1
     try clear hfz28_2
     try clear hx693_0
     try clear hx693_1
     try clear hx693_2
     try clear p693
     try clear q693
     obtain ⟨x12_1, x695000_1, x695001_1, x695002_1, rfl, HA, HK1, HO_9, BK659, BK694, HB⟩ := hrel
     cases gk with
     | zero => exact absurd HA.out (by simp [dancestudiolaw44_CollideLeast.l0])
     | succ k1 =>
      have H := HA.out
      clear HA
      simp only [dancestudiolaw44_CollideLeast.l0] at H
      by_cases c29 : x12_1 < (t660.length : Int)
      ·
       rw [if_pos c29] at H
       have c29b0 := decide_eq_true c29
       clear c29
       by_cases c30 : 0 ≤ x12_1; rotate_left
       · rw [if_neg c30] at H; exact absurd H (by simp)
       rw [if_pos c30] at H
       have c30b0 := decide_eq_true c30
       clear c30
       have HC31 := am H
       clear H
       have p696 : 0 ≤ (x12_1 : Int) := az
       have q696 : x12_1 < (t660.length : Int) := az
       obtain ⟨ad696, e696, hx696_0, hx696_1, hx696_2⟩ := at_T30 (Kd.R_reads' HO_9.out).2.2 x12_1 p696 q696
       obtain rfl : ad693 = ad696 := (by injection e696)
       replace p696 := eq_true p696
       replace q696 := eq_true q696
       go_upto_region 16 with (first | ((with_reducible refine gate_dst (N := 13) rfl ?_); refine box_event yz (N := 13) yz (cs := #[.int .i64 0, .int .i64 0, .int .i64 0]) (t := 30) gz ?_; intro gb697 hg w32 hbox hb; replace HO_9 := am (Kd.R_below (Kd.R_elderB (rz HO_9) gb697 (Nat.le_of_eq hg.symm)) hb); have BK697 := am (hbox); have GW697 := gwz (g := gb697) HB hg; have GE697 := GW697; replace HB := am (below_step bz hb); have NB659_697 := nlt (g' := gb697) BK659 hg; have NB697_659 := ngt (g' := gb697) BK659 hg; replace BK659 := am (blk_below (o := .cells #[.int .i64 t655, .int .i64 t656, .int .i64 t657] 30 (0, 0)) (kz BK659) hb); have NB694_697 := nlt (g' := gb697) BK694 hg; have NB697_694 := ngt (g' := gb697) BK694 hg; replace BK694 := am (blk_below (o := .cells #[.int .i64 x695000_1, .int .i64 x695001_1, .int .i64 x695002_1] 30 (0, 0)) (kz BK694) hb); clear hb hbox hg; have hnb33 := NB697_659.out; have hnc33 := NB659_697.out; have hnb34 := NB697_694.out; have hnc34 := NB694_697.out; obtain ⟨hcz35_0, hcz35_1, hcz35_2, hfz35_0, hfz35_1, hfz35_2⟩ := kc3 BK697.out))
       repeat (go_quiet (first | ((with_reducible refine gate_dst (N := 13) rfl ?_); refine box_event yz (N := 13) yz (cs := #[.int .i64 0, .int .i64 0, .int .i64 0]) (t := 30) gz ?_; intro gb697 hg w32 hbox hb; replace HO_9 := am (Kd.R_below (Kd.R_elderB (rz HO_9) gb697 (Nat.le_of_eq hg.symm)) hb); have BK697 := am (hbox); have GW697 := gwz (g := gb697) HB hg; have GE697 := GW697; replace HB := am (below_step bz hb); have NB659_697 := nlt (g' := gb697) BK659 hg; have NB697_659 := ngt (g' := gb697) BK659 hg; replace BK659 := am (blk_below (o := .cells #[.int .i64 t655, .int .i64 t656, .int .i64 t657] 30 (0, 0)) (kz BK659) hb); have NB694_697 := nlt (g' := gb697) BK694 hg; have NB697_694 := ngt (g' := gb697) BK694 hg; replace BK694 := am (blk_below (o := .cells #[.int .i64 x695000_1, .int .i64 x695001_1, .int .i64 x695002_1] 30 (0, 0)) (kz BK694) hb); clear hb hbox hg; have hnb33 := NB697_659.out; have hnc33 := NB659_697.out; have hnb34 := NB697_694.out; have hnc34 := NB694_697.out; obtain ⟨hcz35_0, hcz35_1, hcz35_2, hfz35_0, hfz35_1, hfz35_2⟩ := kc3 BK697.out)); go_upto_region 16 with (first | ((with_reducible refine gate_dst (N := 13) rfl ?_); refine box_event yz (N := 13) yz (cs := #[.int .i64 0, .int .i64 0, .int .i64 0]) (t := 30) gz ?_; intro gb697 hg w32 hbox hb; replace HO_9 := am (Kd.R_below (Kd.R_elderB (rz HO_9) gb697 (Nat.le_of_eq hg.symm)) hb); have BK697 := am (hbox); have GW697 := gwz (g := gb697) HB hg; have GE697 := GW697; replace HB := am (below_step bz hb); have NB659_697 := nlt (g' := gb697) BK659 hg; have NB697_659 := ngt (g' := gb697) BK659 hg; replace BK659 := am (blk_below (o := .cells #[.int .i64 t655, .int .i64 t656, .int .i64 t657] 30 (0, 0)) (kz BK659) hb); have NB694_697 := nlt (g' := gb697) BK694 hg; have NB697_694 := ngt (g' := gb697) BK694 hg; replace BK694 := am (blk_below (o := .cells #[.int .i64 x695000_1, .int .i64 x695001_1, .int .i64 x695002_1] 30 (0, 0)) (kz BK694) hb); clear hb hbox hg; have hnb33 := NB697_659.out; have hnc33 := NB659_697.out; have hnb34 := NB697_694.out; have hnc34 := NB694_697.out; obtain ⟨hcz35_0, hcz35_1, hcz35_2, hfz35_0, hfz35_1, hfz35_2⟩ := kc3 BK697.out)))
       (try simp only [Act.put, List.setIfInBounds_toArray, List.set_cons_zero, List.set_cons_succ])
       go_cut [112] (fun v112 wc => ∃ (kq : Nat) (x112_30 : Bool), v112 = .bool x112_30 ∧ Aside0 (dancestudiolaw44_CollideLeast.j1 kq t660 x12_1 x112_30 t655 t656 t657 x695000_1 x695001_1 x695002_1 ((rd_T30 t660 x12_1).f0) ((rd_T30 t660 x12_1).f1) ((rd_T30 t660 x12_1).f2) = some r) ∧ Aside0 (kq ≤ k1) ∧ Aside0 (Kd.R k30 30 wc w.heap.size (fun k_ => k_ ≠ gb659 ∧ k_ ≠ gb694 ∧ k_ ≠ gb697) (.slice (some ad693) t660.length co25) t660) ∧ Aside0 (wc.heap[gb659]? = some (.cells #[.int .i64 t655, .int .i64 t656, .int .i64 t657] 30 (0, 0))) ∧ Aside0 (wc.heap[gb694]? = some (.cells #[.int .i64 x695000_1, .int .i64 x695001_1, .int .i64 x695002_1] 30 (0, 0))) ∧ Aside0 (wc.heap[gb697]? = some (.cells #[.int .i64 ((rd_T30 t660 x12_1).f0), .int .i64 ((rd_T30 t660 x12_1).f1), .int .i64 ((rd_T30 t660 x12_1).f2)] 30 (0, 0))) ∧ Aside0 (Below w.heap.size w wc))
       case first =>
        have H := HC31.out
        clear HC31
        by_cases c36 : ((rd_T30 t660 x12_1).f1) ≥ ((rd_T30 t660 x12_1).f2)
        · rw [if_pos c36] at H; exact absurd H (by simp)
        rw [if_neg c36] at H
        have c36b0 := decide_eq_false c36
        clear c36
        (first | rw [c36b0] | (simp only [i64_w, i32_w]; rw [c36b0]) | skip)
        by_cases c37 : ((rd_T30 t660 x12_1).f0) < 0
        · rw [if_pos c37] at H; exact absurd H (by simp)
        rw [if_neg c37] at H
        have c37b0 := decide_eq_false c37
        clear c37
        by_cases c38 : x12_1 > 0
        ·
         rw [if_pos c38] at H
         have c38b0 := decide_eq_true c38
         clear c38
         obtain ⟨ji39, hji39⟩ : ∃ j_ : Int, (wrap64 (x12_1 - 1)) = j_ := ⟨_, rfl⟩
         replace H : (if 0 ≤ (ji39) then (if (ji39) < (t660.length : Int) then (if ((rd_T30 t660 x12_1).f1) < ((rd_T30 t660 (ji39)).f1) then (none) else (if ((rd_T30 t660 x12_1).f1) = ((rd_T30 t660 (ji39)).f1) then (dancestudiolaw44_CollideLeast.j1 k1 t660 x12_1 (decide (((rd_T30 t660 x12_1).f2) ≤ ((rd_T30 t660 (ji39)).f2))) t655 t656 t657 x695000_1 x695001_1 x695002_1 ((rd_T30 t660 x12_1).f0) ((rd_T30 t660 x12_1).f1) ((rd_T30 t660 x12_1).f2)) else (dancestudiolaw44_CollideLeast.j1 k1 t660 x12_1 false t655 t656 t657 x695000_1 x695001_1 x695002_1 ((rd_T30 t660 x12_1).f0) ((rd_T30 t660 x12_1).f1) ((rd_T30 t660 x12_1).f2)))) else (none)) else (none)) = some r := by first | (rw [hji39] at H; exact H) | (simp only [hji39] at H ⊢; exact H)
         have hji39w : (IntKind.i64.wrap (x12_1 - 1)) = ji39 := (i64_w _).trans hji39
         by_cases c40 : 0 ≤ (ji39); rotate_left
         · rw [if_neg c40] at H; exact absurd H (by simp)
         rw [if_pos c40] at H
         have c40b0 := decide_eq_true c40
         clear c40
         by_cases c41 : (ji39) < (t660.length : Int); rotate_left
         · rw [if_neg c41] at H; exact absurd H (by simp)
         rw [if_pos c41] at H
         have c41b0 := decide_eq_true c41
         clear c41
         by_cases c42 : ((rd_T30 t660 x12_1).f1) < ((rd_T30 t660 (ji39)).f1)
         · rw [if_pos c42] at H; exact absurd H (by simp)
         rw [if_neg c42] at H
         have c42b0 := decide_eq_false c42
         clear c42
         by_cases c43 : ((rd_T30 t660 x12_1).f1) = ((rd_T30 t660 (ji39)).f1)
         case' pos =>
          rw [if_pos c43] at H
          have c43b0 : (((rd_T30 t660 x12_1).f1) == ((rd_T30 t660 (ji39)).f1)) = true := beq_iff_eq.mpr c43
          have c43b1 : (((rd_T30 t660 x12_1).f1) != ((rd_T30 t660 (ji39)).f1)) = false := bne_eq_false_iff_eq.mpr c43
          clear c43
          have tw1a : True := trivial
         case' neg =>
          rw [if_neg c43] at H
          have c43b0 : (((rd_T30 t660 x12_1).f1) == ((rd_T30 t660 (ji39)).f1)) = false := beq_eq_false_iff_ne.mpr c43
          have c43b1 : (((rd_T30 t660 x12_1).f1) != ((rd_T30 t660 (ji39)).f1)) = true := bne_iff_ne.mpr c43
          have tw1b : True := trivial
         all_goals
          have H' := am H
          clear H
          have hnb44 := NB697_659.out
          have hnc44 := NB659_697.out
          have hnb45 := NB697_694.out
          have hnc45 := NB694_697.out
          obtain ⟨hcz46_0, hcz46_1, hcz46_2, hfz46_0, hfz46_1, hfz46_2⟩ := kc3 BK697.out
          have p698 : 0 ≤ ((ji39) : Int) := az
          have q698 : (ji39) < (t660.length : Int) := az
          obtain ⟨ad698, e698, hx698_0, hx698_1, hx698_2⟩ := at_T30 (Kd.R_reads' HO_9.out).2.2 (ji39) p698 q698
          obtain rfl : ad693 = ad698 := (by injection e698)
          have hn698_0 : ad693.block ≠ gb697 := Kd.own_blk (by first | exact Kd.R_ne HO_9.out BK697.out (by decide) | exact fun e_ => by have h_ := HO_9.out.1 _ e_.symm; simp at h_)
          have hn698_1 : ad693.block ≠ gb697 := Kd.own_blk (by first | exact Kd.R_ne HO_9.out BK697.out (by decide) | exact fun e_ => by have h_ := HO_9.out.1 _ e_.symm; simp at h_)
          have hn698_2 : ad693.block ≠ gb697 := Kd.own_blk (by first | exact Kd.R_ne HO_9.out BK697.out (by decide) | exact fun e_ => by have h_ := HO_9.out.1 _ e_.symm; simp at h_)
          replace hx698_0 := (cell_far (p := ⟨gb697, 0, none⟩) (by first | (rw [add_block]; exact hn698_0) | (show (Addr.add _ _).block ≠ _; rw [add_block]; exact hn698_0) | exact hn698_0) (.int .i64 ((rd_T30 t660 x12_1).f0))).trans hx698_0
          replace hx698_1 := (cell_far (p := ⟨gb697, 0, none⟩) (by first | (rw [add_block]; exact hn698_0) | (show (Addr.add _ _).block ≠ _; rw [add_block]; exact hn698_0) | exact hn698_0) (.int .i64 ((rd_T30 t660 x12_1).f0))).trans hx698_1
          replace hx698_2 := (cell_far (p := ⟨gb697, 0, none⟩) (by first | (rw [add_block]; exact hn698_0) | (show (Addr.add _ _).block ≠ _; rw [add_block]; exact hn698_0) | exact hn698_0) (.int .i64 ((rd_T30 t660 x12_1).f0))).trans hx698_2
          replace hx698_0 := (cell_far (p := ⟨gb697, 1, none⟩) (by first | (rw [add_block]; exact hn698_1) | (show (Addr.add _ _).block ≠ _; rw [add_block]; exact hn698_1) | exact hn698_1) (.int .i64 ((rd_T30 t660 x12_1).f1))).trans hx698_0
          replace hx698_1 := (cell_far (p := ⟨gb697, 1, none⟩) (by first | (rw [add_block]; exact hn698_1) | (show (Addr.add _ _).block ≠ _; rw [add_block]; exact hn698_1) | exact hn698_1) (.int .i64 ((rd_T30 t660 x12_1).f1))).trans hx698_1
          replace hx698_2 := (cell_far (p := ⟨gb697, 1, none⟩) (by first | (rw [add_block]; exact hn698_1) | (show (Addr.add _ _).block ≠ _; rw [add_block]; exact hn698_1) | exact hn698_1) (.int .i64 ((rd_T30 t660 x12_1).f1))).trans hx698_2
          replace hx698_0 := (cell_far (p := ⟨gb697, 2, none⟩) (by first | (rw [add_block]; exact hn698_2) | (show (Addr.add _ _).block ≠ _; rw [add_block]; exact hn698_2) | exact hn698_2) (.int .i64 ((rd_T30 t660 x12_1).f2))).trans hx698_0
          replace hx698_1 := (cell_far (p := ⟨gb697, 2, none⟩) (by first | (rw [add_block]; exact hn698_2) | (show (Addr.add _ _).block ≠ _; rw [add_block]; exact hn698_2) | exact hn698_2) (.int .i64 ((rd_T30 t660 x12_1).f2))).trans hx698_1
          replace hx698_2 := (cell_far (p := ⟨gb697, 2, none⟩) (by first | (rw [add_block]; exact hn698_2) | (show (Addr.add _ _).block ≠ _; rw [add_block]; exact hn698_2) | exact hn698_2) (.int .i64 ((rd_T30 t660 x12_1).f2))).trans hx698_2
          (try have hy698_0 := fun (n_ : Nat) => (show (((((w32.drewN n_).setCell ⟨gb697, 0, none⟩ (.int .i64 ((rd_T30 t660 x12_1).f0))).setCell ⟨gb697, 1, none⟩ (.int .i64 ((rd_T30 t660 x12_1).f1))).setCell ⟨gb697, 2, none⟩ (.int .i64 ((rd_T30 t660 x12_1).f2)))).cell? _ = some _ from hx698_0))
          (try have hy698_1 := fun (n_ : Nat) => (show (((((w32.drewN n_).setCell ⟨gb697, 0, none⟩ (.int .i64 ((rd_T30 t660 x12_1).f0))).setCell ⟨gb697, 1, none⟩ (.int .i64 ((rd_T30 t660 x12_1).f1))).setCell ⟨gb697, 2, none⟩ (.int .i64 ((rd_T30 t660 x12_1).f2)))).cell? _ = some _ from hx698_1))
          (try have hy698_2 := fun (n_ : Nat) => (show (((((w32.drewN n_).setCell ⟨gb697, 0, none⟩ (.int .i64 ((rd_T30 t660 x12_1).f0))).setCell ⟨gb697, 1, none⟩ (.int .i64 ((rd_T30 t660 x12_1).f1))).setCell ⟨gb697, 2, none⟩ (.int .i64 ((rd_T30 t660 x12_1).f2)))).cell? _ = some _ from hx698_2))
          clear hn698_0
          clear hn698_1
          clear hn698_2
          replace p698 := eq_true p698
          replace q698 := eq_true q698
          have p699 : 0 ≤ ((ji39) : Int) := az
          have q699 : (ji39) < (t660.length : Int) := az
          obtain ⟨ad699, e699, hx699_0, hx699_1, hx699_2⟩ := at_T30 (Kd.R_reads' HO_9.out).2.2 (ji39) p699 q699
          obtain rfl : ad693 = ad699 := (by injection e699)
          have hn699_0 : ad693.block ≠ gb697 := Kd.own_blk (by first | exact Kd.R_ne HO_9.out BK697.out (by decide) | exact fun e_ => by have h_ := HO_9.out.1 _ e_.symm; simp at h_)
          have hn699_1 : ad693.block ≠ gb697 := Kd.own_blk (by first | exact Kd.R_ne HO_9.out BK697.out (by decide) | exact fun e_ => by have h_ := HO_9.out.1 _ e_.symm; simp at h_)
          have hn699_2 : ad693.block ≠ gb697 := Kd.own_blk (by first | exact Kd.R_ne HO_9.out BK697.out (by decide) | exact fun e_ => by have h_ := HO_9.out.1 _ e_.symm; simp at h_)
          replace hx699_0 := (cell_far (p := ⟨gb697, 0, none⟩) (by first | (rw [add_block]; exact hn699_0) | (show (Addr.add _ _).block ≠ _; rw [add_block]; exact hn699_0) | exact hn699_0) (.int .i64 ((rd_T30 t660 x12_1).f0))).trans hx699_0
          replace hx699_1 := (cell_far (p := ⟨gb697, 0, none⟩) (by first | (rw [add_block]; exact hn699_0) | (show (Addr.add _ _).block ≠ _; rw [add_block]; exact hn699_0) | exact hn699_0) (.int .i64 ((rd_T30 t660 x12_1).f0))).trans hx699_1
          replace hx699_2 := (cell_far (p := ⟨gb697, 0, none⟩) (by first | (rw [add_block]; exact hn699_0) | (show (Addr.add _ _).block ≠ _; rw [add_block]; exact hn699_0) | exact hn699_0) (.int .i64 ((rd_T30 t660 x12_1).f0))).trans hx699_2
          replace hx699_0 := (cell_far (p := ⟨gb697, 1, none⟩) (by first | (rw [add_block]; exact hn699_1) | (show (Addr.add _ _).block ≠ _; rw [add_block]; exact hn699_1) | exact hn699_1) (.int .i64 ((rd_T30 t660 x12_1).f1))).trans hx699_0
          replace hx699_1 := (cell_far (p := ⟨gb697, 1, none⟩) (by first | (rw [add_block]; exact hn699_1) | (show (Addr.add _ _).block ≠ _; rw [add_block]; exact hn699_1) | exact hn699_1) (.int .i64 ((rd_T30 t660 x12_1).f1))).trans hx699_1
          replace hx699_2 := (cell_far (p := ⟨gb697, 1, none⟩) (by first | (rw [add_block]; exact hn699_1) | (show (Addr.add _ _).block ≠ _; rw [add_block]; exact hn699_1) | exact hn699_1) (.int .i64 ((rd_T30 t660 x12_1).f1))).trans hx699_2
          replace hx699_0 := (cell_far (p := ⟨gb697, 2, none⟩) (by first | (rw [add_block]; exact hn699_2) | (show (Addr.add _ _).block ≠ _; rw [add_block]; exact hn699_2) | exact hn699_2) (.int .i64 ((rd_T30 t660 x12_1).f2))).trans hx699_0
          replace hx699_1 := (cell_far (p := ⟨gb697, 2, none⟩) (by first | (rw [add_block]; exact hn699_2) | (show (Addr.add _ _).block ≠ _; rw [add_block]; exact hn699_2) | exact hn699_2) (.int .i64 ((rd_T30 t660 x12_1).f2))).trans hx699_1
          replace hx699_2 := (cell_far (p := ⟨gb697, 2, none⟩) (by first | (rw [add_block]; exact hn699_2) | (show (Addr.add _ _).block ≠ _; rw [add_block]; exact hn699_2) | exact hn699_2) (.int .i64 ((rd_T30 t660 x12_1).f2))).trans hx699_2
          (try have hy699_0 := fun (n_ : Nat) => (show (((((w32.drewN n_).setCell ⟨gb697, 0, none⟩ (.int .i64 ((rd_T30 t660 x12_1).f0))).setCell ⟨gb697, 1, none⟩ (.int .i64 ((rd_T30 t660 x12_1).f1))).setCell ⟨gb697, 2, none⟩ (.int .i64 ((rd_T30 t660 x12_1).f2)))).cell? _ = some _ from hx699_0))
          (try have hy699_1 := fun (n_ : Nat) => (show (((((w32.drewN n_).setCell ⟨gb697, 0, none⟩ (.int .i64 ((rd_T30 t660 x12_1).f0))).setCell ⟨gb697, 1, none⟩ (.int .i64 ((rd_T30 t660 x12_1).f1))).setCell ⟨gb697, 2, none⟩ (.int .i64 ((rd_T30 t660 x12_1).f2)))).cell? _ = some _ from hx699_1))
          (try have hy699_2 := fun (n_ : Nat) => (show (((((w32.drewN n_).setCell ⟨gb697, 0, none⟩ (.int .i64 ((rd_T30 t660 x12_1).f0))).setCell ⟨gb697, 1, none⟩ (.int .i64 ((rd_T30 t660 x12_1).f1))).setCell ⟨gb697, 2, none⟩ (.int .i64 ((rd_T30 t660 x12_1).f2)))).cell? _ = some _ from hx699_2))
          clear hn699_0
          clear hn699_1
          clear hn699_2
          replace p699 := eq_true p699
          replace q699 := eq_true q699
          first
          | (have _ := tw1a
             have p700 : 0 ≤ ((ji39) : Int) := az
             have q700 : (ji39) < (t660.length : Int) := az
             obtain ⟨ad700, e700, hx700_0, hx700_1, hx700_2⟩ := at_T30 (Kd.R_reads' HO_9.out).2.2 (ji39) p700 q700
             obtain rfl : ad693 = ad700 := (by injection e700)
             have hn700_0 : ad693.block ≠ gb697 := Kd.own_blk (by first | exact Kd.R_ne HO_9.out BK697.out (by decide) | exact fun e_ => by have h_ := HO_9.out.1 _ e_.symm; simp at h_)
             have hn700_1 : ad693.block ≠ gb697 := Kd.own_blk (by first | exact Kd.R_ne HO_9.out BK697.out (by decide) | exact fun e_ => by have h_ := HO_9.out.1 _ e_.symm; simp at h_)
             have hn700_2 : ad693.block ≠ gb697 := Kd.own_blk (by first | exact Kd.R_ne HO_9.out BK697.out (by decide) | exact fun e_ => by have h_ := HO_9.out.1 _ e_.symm; simp at h_)
             replace hx700_0 := (cell_far (p := ⟨gb697, 0, none⟩) (by first | (rw [add_block]; exact hn700_0) | (show (Addr.add _ _).block ≠ _; rw [add_block]; exact hn700_0) | exact hn700_0) (.int .i64 ((rd_T30 t660 x12_1).f0))).trans hx700_0
             replace hx700_1 := (cell_far (p := ⟨gb697, 0, none⟩) (by first | (rw [add_block]; exact hn700_0) | (show (Addr.add _ _).block ≠ _; rw [add_block]; exact hn700_0) | exact hn700_0) (.int .i64 ((rd_T30 t660 x12_1).f0))).trans hx700_1
             replace hx700_2 := (cell_far (p := ⟨gb697, 0, none⟩) (by first | (rw [add_block]; exact hn700_0) | (show (Addr.add _ _).block ≠ _; rw [add_block]; exact hn700_0) | exact hn700_0) (.int .i64 ((rd_T30 t660 x12_1).f0))).trans hx700_2
             replace hx700_0 := (cell_far (p := ⟨gb697, 1, none⟩) (by first | (rw [add_block]; exact hn700_1) | (show (Addr.add _ _).block ≠ _; rw [add_block]; exact hn700_1) | exact hn700_1) (.int .i64 ((rd_T30 t660 x12_1).f1))).trans hx700_0
             replace hx700_1 := (cell_far (p := ⟨gb697, 1, none⟩) (by first | (rw [add_block]; exact hn700_1) | (show (Addr.add _ _).block ≠ _; rw [add_block]; exact hn700_1) | exact hn700_1) (.int .i64 ((rd_T30 t660 x12_1).f1))).trans hx700_1
             replace hx700_2 := (cell_far (p := ⟨gb697, 1, none⟩) (by first | (rw [add_block]; exact hn700_1) | (show (Addr.add _ _).block ≠ _; rw [add_block]; exact hn700_1) | exact hn700_1) (.int .i64 ((rd_T30 t660 x12_1).f1))).trans hx700_2
             replace hx700_0 := (cell_far (p := ⟨gb697, 2, none⟩) (by first | (rw [add_block]; exact hn700_2) | (show (Addr.add _ _).block ≠ _; rw [add_block]; exact hn700_2) | exact hn700_2) (.int .i64 ((rd_T30 t660 x12_1).f2))).trans hx700_0
             replace hx700_1 := (cell_far (p := ⟨gb697, 2, none⟩) (by first | (rw [add_block]; exact hn700_2) | (show (Addr.add _ _).block ≠ _; rw [add_block]; exact hn700_2) | exact hn700_2) (.int .i64 ((rd_T30 t660 x12_1).f2))).trans hx700_1
             replace hx700_2 := (cell_far (p := ⟨gb697, 2, none⟩) (by first | (rw [add_block]; exact hn700_2) | (show (Addr.add _ _).block ≠ _; rw [add_block]; exact hn700_2) | exact hn700_2) (.int .i64 ((rd_T30 t660 x12_1).f2))).trans hx700_2
             (try have hy700_0 := fun (n_ : Nat) => (show (((((w32.drewN n_).setCell ⟨gb697, 0, none⟩ (.int .i64 ((rd_T30 t660 x12_1).f0))).setCell ⟨gb697, 1, none⟩ (.int .i64 ((rd_T30 t660 x12_1).f1))).setCell ⟨gb697, 2, none⟩ (.int .i64 ((rd_T30 t660 x12_1).f2)))).cell? _ = some _ from hx700_0))
             (try have hy700_1 := fun (n_ : Nat) => (show (((((w32.drewN n_).setCell ⟨gb697, 0, none⟩ (.int .i64 ((rd_T30 t660 x12_1).f0))).setCell ⟨gb697, 1, none⟩ (.int .i64 ((rd_T30 t660 x12_1).f1))).setCell ⟨gb697, 2, none⟩ (.int .i64 ((rd_T30 t660 x12_1).f2)))).cell? _ = some _ from hx700_1))
             (try have hy700_2 := fun (n_ : Nat) => (show (((((w32.drewN n_).setCell ⟨gb697, 0, none⟩ (.int .i64 ((rd_T30 t660 x12_1).f0))).setCell ⟨gb697, 1, none⟩ (.int .i64 ((rd_T30 t660 x12_1).f1))).setCell ⟨gb697, 2, none⟩ (.int .i64 ((rd_T30 t660 x12_1).f2)))).cell? _ = some _ from hx700_2))
             clear hn700_0
             clear hn700_1
             clear hn700_2
             replace p700 := eq_true p700
             replace q700 := eq_true q700
             go_wp2
             repeat (go_quiet (fail); try go_wp2)
             go_meet
             case rel => exact ⟨_, (decide (((rd_T30 t660 x12_1).f2) ≤ ((rd_T30 t660 (ji39)).f2))), (by first | rfl | (simp; done) | (simp only [← hji39] <;> (first | rfl | simp)) | (simp [*]; done)), H', ⟨by have := HK1.out; first | omega | exact Nat.le_refl _⟩, ⟨by (with_reducible repeat first | apply rA | apply rN | apply rD); exact Kd.R_mono (Kd.R_far (p := ⟨gb697, 2, none⟩) (Kd.R_far (p := ⟨gb697, 1, none⟩) (Kd.R_far (p := ⟨gb697, 0, none⟩) (Kd.R_mono HO_9.out (fun k_ hk => (⟨hk, hk.2⟩ : _ ∧ k_ ≠ gb697))) (fun _ hk => hk.2) (.int .i64 ((rd_T30 t660 x12_1).f0))) (fun _ hk => hk.2) (.int .i64 ((rd_T30 t660 x12_1).f1))) (fun _ hk => hk.2) (.int .i64 ((rd_T30 t660 x12_1).f2))) (fun _ hk => ⟨hk.1.1.1, ⟨hk.1.1.2, hk.1.2⟩⟩)⟩, ⟨by (with_reducible repeat first | apply kN | apply kD | apply kA); refine blk_far ?_ NB659_697.out _; (with_reducible repeat first | apply kN | apply kD | apply kA); refine blk_far ?_ NB659_697.out _; (with_reducible repeat first | apply kN | apply kD | apply kA); refine blk_far ?_ NB659_697.out _; (with_reducible repeat first | apply kN | apply kD | apply kA); exact BK659.out⟩, ⟨by (with_reducible repeat first | apply kN | apply kD | apply kA); refine blk_far ?_ NB694_697.out _; (with_reducible repeat first | apply kN | apply kD | apply kA); refine blk_far ?_ NB694_697.out _; (with_reducible repeat first | apply kN | apply kD | apply kA); refine blk_far ?_ NB694_697.out _; (with_reducible repeat first | apply kN | apply kD | apply kA); exact BK694.out⟩, ⟨by (with_reducible repeat first | apply kN | apply kD | apply kA); refine blk_put (cs := #[.int .i64 ((rd_T30 t660 x12_1).f0), .int .i64 ((rd_T30 t660 x12_1).f1), .int .i64 0]) ?_ 2 _ rfl; (with_reducible repeat first | apply kN | apply kD | apply kA); refine blk_put (cs := #[.int .i64 ((rd_T30 t660 x12_1).f0), .int .i64 0, .int .i64 0]) ?_ 1 _ rfl; (with_reducible repeat first | apply kN | apply kD | apply kA); refine blk_put (cs := #[.int .i64 0, .int .i64 0, .int .i64 0]) ?_ 0 _ rfl; (with_reducible repeat first | apply kN | apply kD | apply kA); exact BK697.out⟩, ⟨bz⟩⟩)
          | (have _ := tw1b
             go_wp2
             repeat (go_quiet (fail); try go_wp2)
             go_meet
             case rel => exact ⟨_, (false), sz, H', ⟨by have := HK1.out; first | omega | exact Nat.le_refl _⟩, ⟨by (with_reducible repeat first | apply rA | apply rN | apply rD); exact Kd.R_mono (Kd.R_far (p := ⟨gb697, 2, none⟩) (Kd.R_far (p := ⟨gb697, 1, none⟩) (Kd.R_far (p := ⟨gb697, 0, none⟩) (Kd.R_mono HO_9.out (fun k_ hk => (⟨hk, hk.2⟩ : _ ∧ k_ ≠ gb697))) (fun _ hk => hk.2) (.int .i64 ((rd_T30 t660 x12_1).f0))) (fun _ hk => hk.2) (.int .i64 ((rd_T30 t660 x12_1).f1))) (fun _ hk => hk.2) (.int .i64 ((rd_T30 t660 x12_1).f2))) (fun _ hk => ⟨hk.1.1.1, ⟨hk.1.1.2, hk.1.2⟩⟩)⟩, ⟨by (with_reducible repeat first | apply kN | apply kD | apply kA); refine blk_far ?_ NB659_697.out _; (with_reducible repeat first | apply kN | apply kD | apply kA); refine blk_far ?_ NB659_697.out _; (with_reducible repeat first | apply kN | apply kD | apply kA); refine blk_far ?_ NB659_697.out _; (with_reducible repeat first | apply kN | apply kD | apply kA); exact BK659.out⟩, ⟨by (with_reducible repeat first | apply kN | apply kD | apply kA); refine blk_far ?_ NB694_697.out _; (with_reducible repeat first | apply kN | apply kD | apply kA); refine blk_far ?_ NB694_697.out _; (with_reducible repeat first | apply kN | apply kD | apply kA); refine blk_far ?_ NB694_697.out _; (with_reducible repeat first | apply kN | apply kD | apply kA); exact BK694.out⟩, ⟨by (with_reducible repeat first | apply kN | apply kD | apply kA); refine blk_put (cs := #[.int .i64 ((rd_T30 t660 x12_1).f0), .int .i64 ((rd_T30 t660 x12_1).f1), .int .i64 0]) ?_ 2 _ rfl; (with_reducible repeat first | apply kN | apply kD | apply kA); refine blk_put (cs := #[.int .i64 ((rd_T30 t660 x12_1).f0), .int .i64 0, .int .i64 0]) ?_ 1 _ rfl; (with_reducible repeat first | apply kN | apply kD | apply kA); refine blk_put (cs := #[.int .i64 0, .int .i64 0, .int .i64 0]) ?_ 0 _ rfl; (with_reducible repeat first | apply kN | apply kD | apply kA); exact BK697.out⟩, ⟨bz⟩⟩)
        ·
         rw [if_neg c38] at H
         have c38b0 := decide_eq_false c38
         clear c38
         have H' := am H
         clear H
         have hnb50 := NB697_659.out
         have hnc50 := NB659_697.out
         have hnb51 := NB697_694.out
         have hnc51 := NB694_697.out
         obtain ⟨hcz52_0, hcz52_1, hcz52_2, hfz52_0, hfz52_1, hfz52_2⟩ := kc3 BK697.out
         go_wp2
         repeat (go_quiet (fail); try go_wp2)
         go_meet
         case rel => exact ⟨_, (false), sz, H', ⟨by have := HK1.out; first | omega | exact Nat.le_refl _⟩, ⟨by (with_reducible repeat first | apply rA | apply rN | apply rD); exact Kd.R_mono (Kd.R_far (p := ⟨gb697, 2, none⟩) (Kd.R_far (p := ⟨gb697, 1, none⟩) (Kd.R_far (p := ⟨gb697, 0, none⟩) (Kd.R_mono HO_9.out (fun k_ hk => (⟨hk, hk.2⟩ : _ ∧ k_ ≠ gb697))) (fun _ hk => hk.2) (.int .i64 ((rd_T30 t660 x12_1).f0))) (fun _ hk => hk.2) (.int .i64 ((rd_T30 t660 x12_1).f1))) (fun _ hk => hk.2) (.int .i64 ((rd_T30 t660 x12_1).f2))) (fun _ hk => ⟨hk.1.1.1, ⟨hk.1.1.2, hk.1.2⟩⟩)⟩, ⟨by (with_reducible repeat first | apply kN | apply kD | apply kA); refine blk_far ?_ NB659_697.out _; (with_reducible repeat first | apply kN | apply kD | apply kA); refine blk_far ?_ NB659_697.out _; (with_reducible repeat first | apply kN | apply kD | apply kA); refine blk_far ?_ NB659_697.out _; (with_reducible repeat first | apply kN | apply kD | apply kA); exact BK659.out⟩, ⟨by (with_reducible repeat first | apply kN | apply kD | apply kA); refine blk_far ?_ NB694_697.out _; (with_reducible repeat first | apply kN | apply kD | apply kA); refine blk_far ?_ NB694_697.out _; (with_reducible repeat first | apply kN | apply kD | apply kA); refine blk_far ?_ NB694_697.out _; (with_reducible repeat first | apply kN | apply kD | apply kA); exact BK694.out⟩, ⟨by (with_reducible repeat first | apply kN | apply kD | apply kA); refine blk_put (cs := #[.int .i64 ((rd_T30 t660 x12_1).f0), .int .i64 ((rd_T30 t660 x12_1).f1), .int .i64 0]) ?_ 2 _ rfl; (with_reducible repeat first | apply kN | apply kD | apply kA); refine blk_put (cs := #[.int .i64 ((rd_T30 t660 x12_1).f0), .int .i64 0, .int .i64 0]) ?_ 1 _ rfl; (with_reducible repeat first | apply kN | apply kD | apply kA); refine blk_put (cs := #[.int .i64 0, .int .i64 0, .int .i64 0]) ?_ 0 _ rfl; (with_reducible repeat first | apply kN | apply kD | apply kA); exact BK697.out⟩, ⟨bz⟩⟩
       case rest =>
        clear HC31
        try clear c1
        try clear c2
        try clear p2
        try clear c3
        try clear c4
        try clear c5
        try clear p6
        try clear q6
        try clear hx6
        try clear qi6
        try clear c7
        try clear p7
        try clear q7
        try clear hx7
        try clear c8
        try clear c8b0
        try clear c8b1
        try clear c9
        try clear c9b0
        try clear c9b1
        try clear c10
        try clear c10b0
        try clear c10b1
        try clear c10b2
        try clear c11
        try clear c11b0
        try clear c11b1
        try clear c11b2
        try clear c20
        try clear c20b0
        try clear c20b1
        try clear c27
        try clear c29
        try clear c29b0
        try clear c30
        try clear c30b0
        try clear c33
        try clear c34
        try clear c36
        try clear c36b0
        try clear c37
        try clear c37b0
        try clear c38
        try clear c38b0
        try clear c40
        try clear c40b0
        try clear c41
        try clear c41b0
        try clear c42
        try clear c42b0
        try clear c43
        try clear c43b0
        try clear c43b1
        try clear c44
        try clear c45
        try clear c47
        try clear c48
        try clear c50
        try clear c51
        try clear hcz15_0
        try clear hcz15_1
        try clear hcz15_2
        try clear hcz18_0
        try clear hcz18_1
        try clear hcz18_2
        try clear hcz23_0
        try clear hcz23_1
        try clear hcz23_2
        try clear hcz28_0
        try clear hcz28_1
        try clear hcz28_2
        try clear hcz35_0
        try clear hcz35_1
        try clear hcz35_2
        try clear hcz46_0
        try clear hcz46_1
        try clear hcz46_2
        try clear hcz49_0
        try clear hcz49_1
        try clear hcz49_2
        try clear hcz52_0
        try clear hcz52_1
        try clear hcz52_2
        try clear hfz15_0
        try clear hfz15_1
        try clear hfz15_2
        try clear hfz18_0
        try clear hfz18_1
        try clear hfz18_2
        try clear hfz23_0
        try clear hfz23_1
        try clear hfz23_2
        try clear hfz28_0
        try clear hfz28_1
        try clear hfz28_2
        try clear hfz35_0
        try clear hfz35_1
        try clear hfz35_2
        try clear hfz46_0
        try clear hfz46_1
        try clear hfz46_2
        try clear hfz49_0
        try clear hfz49_1
        try clear hfz49_2
        try clear hfz52_0
        try clear hfz52_1
        try clear hfz52_2
        try clear hx693_0
        try clear hx693_1
        try clear hx693_2
        try clear hx696_0
        try clear hx696_1
        try clear hx696_2
        try clear hx698_0
        try clear hx698_1
        try clear hx698_2
        try clear hx699_0
        try clear hx699_1
        try clear hx699_2
        try clear hx700_0
        try clear hx700_1
        try clear hx700_2
        try clear p2
        try clear p6
        try clear p693
        try clear p696
        try clear p698
        try clear p699
        try clear p700
        try clear q6
        try clear q693
        try clear q696
        try clear q698
        try clear q699
        try clear q700
        obtain ⟨kq, x112_30, rfl, HA, HJ30, HO_9, BK659, BK694, BK697, HB⟩ := hcut
        cases kq with
        | zero => exact absurd HA.out (by simp [dancestudiolaw44_CollideLeast.j1])
        | succ kj30 =>
         have H := HA.out
         clear HA
         simp only [dancestudiolaw44_CollideLeast.j1] at H
         by_cases c53 : x112_30 = true
         ·
          subst c53
          have H1 : (none) = some r := by rw [if_pos rfl] at H; exact H
          clear H
          have H := H1
          clear H1
          exact absurd H (by simp)
         ·
          replace c53 := Bool.eq_false_iff.mpr c53
          subst c53
          have H1 : (if ((rd_T30 t660 x12_1).f0) < x695000_1 then (dancestudiolaw44_CollideLeast.l0 kj30 t660 (wrap64 (x12_1 + 1)) t655 t656 t657 ((rd_T30 t660 x12_1).f0) ((rd_T30 t660 x12_1).f1) ((rd_T30 t660 x12_1).f2)) else (dancestudiolaw44_CollideLeast.l0 kj30 t660 (wrap64 (x12_1 + 1)) t655 t656 t657 x695000_1 x695001_1 x695002_1)) = some r := by rw [if_neg (show ¬ (false = true) by decide)] at H; exact H
          clear H
          have H := H1
          clear H1
          by_cases c54 : ((rd_T30 t660 x12_1).f0) < x695000_1
          ·
           rw [if_pos c54] at H
           have c54b0 := decide_eq_true c54
           clear c54
           have H' := am H
           clear H
           have hnb55 := NB697_659.out
           have hnc55 := NB659_697.out
           have hnb56 := NB697_694.out
           have hnc56 := NB694_697.out
           obtain ⟨hcz57_0, hcz57_1, hcz57_2, hfz57_0, hfz57_1, hfz57_2⟩ := kc3 BK697.out
           have hnb58 := NB694_659.out
           have hnc58 := NB659_694.out
           obtain ⟨hcz59_0, hcz59_1, hcz59_2, hfz59_0, hfz59_1, hfz59_2⟩ := kc3 BK694.out
           go_wp2
           repeat (go_quiet (fail); try go_wp2)
           go_roundg kj30
           case measure => have := HK1.out; have := HJ30.out; omega
           case rel => exact ⟨(wrap64 (x12_1 + 1)), (((rd_T30 t660 x12_1).f0)), (((rd_T30 t660 x12_1).f1)), (((rd_T30 t660 x12_1).f2)), sz, H', ⟨by have := HK1.out; have := HJ30.out; omega⟩, ⟨by (with_reducible repeat first | apply rA | apply rN | apply rD); exact Kd.R_mono (Kd.R_far (p := ⟨gb694, 2, none⟩) (Kd.R_far (p := ⟨gb694, 1, none⟩) (Kd.R_far (p := ⟨gb694, 0, none⟩) (Kd.R_mono HO_9.out (fun k_ hk => (⟨hk, hk.2.1⟩ : _ ∧ k_ ≠ gb694))) (fun _ hk => hk.2) (.int .i64 ((rd_T30 t660 x12_1).f0))) (fun _ hk => hk.2) (.int .i64 ((rd_T30 t660 x12_1).f1))) (fun _ hk => hk.2) (.int .i64 ((rd_T30 t660 x12_1).f2))) (fun _ hk => ⟨hk.1.1, hk.1.2.1⟩)⟩, ⟨by (with_reducible repeat first | apply kN | apply kD | apply kA); refine blk_far ?_ NB659_694.out _; (with_reducible repeat first | apply kN | apply kD | apply kA); refine blk_far ?_ NB659_694.out _; (with_reducible repeat first | apply kN | apply kD | apply kA); refine blk_far ?_ NB659_694.out _; (with_reducible repeat first | apply kN | apply kD | apply kA); exact BK659.out⟩, ⟨by (with_reducible repeat first | apply kN | apply kD | apply kA); refine blk_put (cs := #[.int .i64 ((rd_T30 t660 x12_1).f0), .int .i64 ((rd_T30 t660 x12_1).f1), .int .i64 x695002_1]) ?_ 2 _ rfl; (with_reducible repeat first | apply kN | apply kD | apply kA); refine blk_put (cs := #[.int .i64 ((rd_T30 t660 x12_1).f0), .int .i64 x695001_1, .int .i64 x695002_1]) ?_ 1 _ rfl; (with_reducible repeat first | apply kN | apply kD | apply kA); refine blk_put (cs := #[.int .i64 x695000_1, .int .i64 x695001_1, .int .i64 x695002_1]) ?_ 0 _ rfl; (with_reducible repeat first | apply kN | apply kD | apply kA); exact BK694.out⟩, ⟨bz⟩⟩
          ·
           rw [if_neg c54] at H
           have c54b0 := decide_eq_false c54
           clear c54
           have H' := am H
           clear H
           have hnb60 := NB697_659.out
           have hnc60 := NB659_697.out
           have hnb61 := NB697_694.out
           have hnc61 := NB694_697.out
           obtain ⟨hcz62_0, hcz62_1, hcz62_2, hfz62_0, hfz62_1, hfz62_2⟩ := kc3 BK697.out
           have hnb63 := NB694_659.out
           have hnc63 := NB659_694.out
           obtain ⟨hcz64_0, hcz64_1, hcz64_2, hfz64_0, hfz64_1, hfz64_2⟩ := kc3 BK694.out
           go_wp2
           repeat (go_quiet (fail); try go_wp2)
           go_roundg kj30
           case measure => have := HK1.out; have := HJ30.out; omega
           case rel => exact ⟨(wrap64 (x12_1 + 1)), (x695000_1), (x695001_1), (x695002_1), sz, H', ⟨by have := HK1.out; have := HJ30.out; omega⟩, ⟨by (with_reducible repeat first | apply rA | apply rN | apply rD); exact Kd.R_mono HO_9.out (fun _ hk => ⟨hk.1, hk.2.1⟩)⟩, ⟨kz BK659⟩, ⟨kz BK694⟩, ⟨bz⟩⟩
      ·
       rw [if_neg c29] at H
       have c29b0 := decide_eq_false c29
       clear c29
       by_cases c65 : (t655 == x695000_1 && (t656 == x695001_1 && (t657 == x695002_1))) = true; rotate_left
       · rw [if_neg c65] at H; exact absurd H (by simp)
       rw [if_pos c65] at H
       have c65b0 : (t655 == x695000_1 && (t656 == x695001_1 && (t657 == x695002_1))) = true := c65
       (try (have c65b1 : decide (t655 = x695000_1 && (t656 == x695001_1 && (t657 == x695002_1))) = true := by simpa using c65))
       (try (have c65b2 : (t655 == x695000_1 && (t656 == x695001_1 && (t657 == x695002_1))) = true := by simpa using c65))
       clear c65
       replace H := Option.bind_eq_some_iff.mp H
       obtain ⟨t695, A660, H⟩ := H
       replace H : (some t695) = some r := H
       have A66 := am A660
       clear A660
       obtain rfl := Option.some.inj H
       have hnb67 := NB659_694.out
       have hnc67 := NB694_659.out
       obtain ⟨hcz68_0, hcz68_1, hcz68_2, hfz68_0, hfz68_1, hfz68_2⟩ := kc3 BK659.out
       obtain ⟨hcz69_0, hcz69_1, hcz69_2, hfz69_0, hfz69_1, hfz69_2⟩ := kc3 BK694.out
       go_wp2_with (first | (go_at_call 12; (with_reducible refine (dancestudiolaw44_awake.calls k1  t695 _ A66.out).mono ?_); rintro e w70 ⟨rfl, hb⟩; replace HO_9 := am (Kd.R_below (rz HO_9) hb); replace BK659 := am (blk_below (o := .cells #[.int .i64 t655, .int .i64 t656, .int .i64 t657] 30 (0, 0)) (kz BK659) hb); replace BK694 := am (blk_below (o := .cells #[.int .i64 x695000_1, .int .i64 x695001_1, .int .i64 x695002_1] 30 (0, 0)) (kz BK694) hb); replace HB := am (below_step bz hb); (try clear hb); (try clear hb2); (try clear hk); (try clear hi)))
       repeat (go_quiet (first | (go_at_call 12; (with_reducible refine (dancestudiolaw44_awake.calls k1  t695 _ A66.out).mono ?_); rintro e w70 ⟨rfl, hb⟩; replace HO_9 := am (Kd.R_below (rz HO_9) hb); replace BK659 := am (blk_below (o := .cells #[.int .i64 t655, .int .i64 t656, .int .i64 t657] 30 (0, 0)) (kz BK659) hb); replace BK694 := am (blk_below (o := .cells #[.int .i64 x695000_1, .int .i64 x695001_1, .int .i64 x695002_1] 30 (0, 0)) (kz BK694) hb); replace HB := am (below_step bz hb); (try clear hb); (try clear hb2); (try clear hk); (try clear hi))); try go_wp2_with (first | (go_at_call 12; (with_reducible refine (dancestudiolaw44_awake.calls k1  t695 _ A66.out).mono ?_); rintro e w70 ⟨rfl, hb⟩; replace HO_9 := am (Kd.R_below (rz HO_9) hb); replace BK659 := am (blk_below (o := .cells #[.int .i64 t655, .int .i64 t656, .int .i64 t657] 30 (0, 0)) (kz BK659) hb); replace BK694 := am (blk_below (o := .cells #[.int .i64 x695000_1, .int .i64 x695001_1, .int .i64 x695002_1] 30 (0, 0)) (kz BK694) hb); replace HB := am (below_step bz hb); (try clear hb); (try clear hb2); (try clear hk); (try clear hi))))
       go_ret
       exact ⟨ez, bz⟩
  ·
   rw [if_neg c9] at H
   have c9b0 : (t658 == 0) = false := beq_eq_false_iff_ne.mpr c9
   have c9b1 : (t658 != 0) = true := bne_iff_ne.mpr c9
   by_cases c71 : (t660.length : Int) = 0; rotate_left
   · rw [if_neg c71] at H; exact absurd H (by simp)
   rw [if_pos c71] at H
   have c71b0 : ((t660.length : Int) == 0) = true := beq_iff_eq.mpr c71
   have c71b1 : ((t660.length : Int) != 0) = false := bne_eq_false_iff_eq.mpr c71
   clear c71
   replace H := Option.bind_eq_some_iff.mp H
   obtain ⟨t674, A720, H⟩ := H
   replace H : (some t674) = some r := H
   have A72 := am A720
   clear A720
   obtain rfl := Option.some.inj H
   go_enter Try.func7, Try.ntmps7
   go_wp2_with (first | (go_at_call 11; (with_reducible refine (dancestudioref44_Light.calls k _ _ l0 _ _ l2 true _ ?side1 ?side2 ?side3 ?side4 A4.out).mono ?_); (case side1 => repeat (first | exact HR0.out | (with_reducible first | apply cA | apply cN | apply cD))); (case side2 => exact HC0.out); (case side3 => repeat (first | exact HR2.out | (with_reducible first | apply cA | apply cN | apply cD))); (case side4 => exact HC2.out); rintro e w' ⟨rfl, ⟨nd, rfl⟩⟩; (try first | exact ⟨rfl, _, World.drewN_drewN _ _ _⟩ | exact ⟨rfl, _, Eq.trans (World.drewN_drewN _ _ _) (congrArg (World.drewN _) (Nat.add_assoc _ _ _))⟩)) | (go_at_call 15; (with_reducible refine (collide_First.calls k _ _ l0 _ _ l1 _ _ l2 t655 t656 t657 t658 _ ?side1 ?side2 ?side3 ?side4 ?side5 ?side6 A6.out).mono ?_); (case side1 => repeat (first | exact HR0.out | (with_reducible first | apply cA | apply cN | apply cD))); (case side2 => exact HC0.out); (case side3 => repeat (first | exact HR1.out | (with_reducible first | apply cA | apply cN | apply cD))); (case side4 => exact HC1.out); (case side5 => repeat (first | exact HR2.out | (with_reducible first | apply cA | apply cN | apply cD))); (case side6 => exact HC2.out); rintro e w73 ⟨rfl, hb⟩; replace HB := am (below_step bz hb); (try clear hb); (try clear hb2); (try clear hk); (try clear hi)) | ((with_reducible refine gate_dst (N := 7) rfl ?_); refine box_event yz (N := 7) yz (cs := #[.int .i64 0, .int .i64 0, .int .i64 0]) (t := 30) gz ?_; intro gb659 hg w74 hbox hb; have BK659 := am (hbox); have GW659 := gwz (g := gb659) HB hg; have GE659 := GW659; replace HB := am (below_step bz hb); clear hb hbox hg; obtain ⟨hcz75_0, hcz75_1, hcz75_2, hfz75_0, hfz75_1, hfz75_2⟩ := kc3 BK659.out) | (go_at_call 16; (with_reducible refine (collide_All.calls k _ _ l0 _ _ l1 _ _ l2 t660 t661 _ ?side1 ?side2 ?side3 ?side4 ?side5 ?side6 A7.out).mono ?_); (case side1 => exact Kd.C_below HR0.out bz); (case side2 => exact HC0.out); (case side3 => exact Kd.C_below HR1.out bz); (case side4 => exact HC1.out); (case side5 => exact Kd.C_below HR2.out bz); (case side6 => exact HC2.out); rintro e w76 ⟨v662, rfl, ho0, hb⟩; have HO663 := am (Kd.R_lower (Kd.R_newB ho0 (g := gb659) (o := .cells #[.int .i64 t655, .int .i64 t656, .int .i64 t657] 30 (0, 0)) (by (with_reducible repeat first | apply kN | apply kD | apply kA); refine blk_put (cs := #[.int .i64 t655, .int .i64 t656, .int .i64 0]) ?_ 2 _ rfl; (with_reducible repeat first | apply kN | apply kD | apply kA); refine blk_put (cs := #[.int .i64 t655, .int .i64 0, .int .i64 0]) ?_ 1 _ rfl; (with_reducible repeat first | apply kN | apply kD | apply kA); refine blk_put (cs := #[.int .i64 0, .int .i64 0, .int .i64 0]) ?_ 0 _ rfl; (with_reducible repeat first | apply kN | apply kD | apply kA); exact BK659.out)) (below_size bz)); replace BK659 := am (blk_below (o := .cells #[.int .i64 t655, .int .i64 t656, .int .i64 t657] 30 (0, 0)) (by (with_reducible repeat first | apply kN | apply kD | apply kA); refine blk_put (cs := #[.int .i64 t655, .int .i64 t656, .int .i64 0]) ?_ 2 _ rfl; (with_reducible repeat first | apply kN | apply kD | apply kA); refine blk_put (cs := #[.int .i64 t655, .int .i64 0, .int .i64 0]) ?_ 1 _ rfl; (with_reducible repeat first | apply kN | apply kD | apply kA); refine blk_put (cs := #[.int .i64 0, .int .i64 0, .int .i64 0]) ?_ 0 _ rfl; (with_reducible repeat first | apply kN | apply kD | apply kA); exact BK659.out) hb); replace HB := am (below_step bz hb); (try clear hb); (try clear hb2); (try clear hk); (try clear hi); (try clear ho0); obtain ⟨Ao77, co77, eo77⟩ := Kd.R_slice HO663.out; subst eo77) | (go_at_call 12; (with_reducible refine (dancestudiolaw44_awake.calls k  t674 _ A72.out).mono ?_); rintro e w78 ⟨rfl, hb⟩; replace HO663 := am (Kd.R_below (rz HO663) hb); replace BK659 := am (blk_below (o := .cells #[.int .i64 t655, .int .i64 t656, .int .i64 t657] 30 (0, 0)) (kz BK659) hb); replace HB := am (below_step bz hb); (try clear hb); (try clear hb2); (try clear hk); (try clear hi)))
   repeat (go_quiet (first | (go_at_call 11; (with_reducible refine (dancestudioref44_Light.calls k _ _ l0 _ _ l2 true _ ?side1 ?side2 ?side3 ?side4 A4.out).mono ?_); (case side1 => repeat (first | exact HR0.out | (with_reducible first | apply cA | apply cN | apply cD))); (case side2 => exact HC0.out); (case side3 => repeat (first | exact HR2.out | (with_reducible first | apply cA | apply cN | apply cD))); (case side4 => exact HC2.out); rintro e w' ⟨rfl, ⟨nd, rfl⟩⟩; (try first | exact ⟨rfl, _, World.drewN_drewN _ _ _⟩ | exact ⟨rfl, _, Eq.trans (World.drewN_drewN _ _ _) (congrArg (World.drewN _) (Nat.add_assoc _ _ _))⟩)) | (go_at_call 15; (with_reducible refine (collide_First.calls k _ _ l0 _ _ l1 _ _ l2 t655 t656 t657 t658 _ ?side1 ?side2 ?side3 ?side4 ?side5 ?side6 A6.out).mono ?_); (case side1 => repeat (first | exact HR0.out | (with_reducible first | apply cA | apply cN | apply cD))); (case side2 => exact HC0.out); (case side3 => repeat (first | exact HR1.out | (with_reducible first | apply cA | apply cN | apply cD))); (case side4 => exact HC1.out); (case side5 => repeat (first | exact HR2.out | (with_reducible first | apply cA | apply cN | apply cD))); (case side6 => exact HC2.out); rintro e w73 ⟨rfl, hb⟩; replace HB := am (below_step bz hb); (try clear hb); (try clear hb2); (try clear hk); (try clear hi)) | ((with_reducible refine gate_dst (N := 7) rfl ?_); refine box_event yz (N := 7) yz (cs := #[.int .i64 0, .int .i64 0, .int .i64 0]) (t := 30) gz ?_; intro gb659 hg w74 hbox hb; have BK659 := am (hbox); have GW659 := gwz (g := gb659) HB hg; have GE659 := GW659; replace HB := am (below_step bz hb); clear hb hbox hg; obtain ⟨hcz75_0, hcz75_1, hcz75_2, hfz75_0, hfz75_1, hfz75_2⟩ := kc3 BK659.out) | (go_at_call 16; (with_reducible refine (collide_All.calls k _ _ l0 _ _ l1 _ _ l2 t660 t661 _ ?side1 ?side2 ?side3 ?side4 ?side5 ?side6 A7.out).mono ?_); (case side1 => exact Kd.C_below HR0.out bz); (case side2 => exact HC0.out); (case side3 => exact Kd.C_below HR1.out bz); (case side4 => exact HC1.out); (case side5 => exact Kd.C_below HR2.out bz); (case side6 => exact HC2.out); rintro e w76 ⟨v662, rfl, ho0, hb⟩; have HO663 := am (Kd.R_lower (Kd.R_newB ho0 (g := gb659) (o := .cells #[.int .i64 t655, .int .i64 t656, .int .i64 t657] 30 (0, 0)) (by (with_reducible repeat first | apply kN | apply kD | apply kA); refine blk_put (cs := #[.int .i64 t655, .int .i64 t656, .int .i64 0]) ?_ 2 _ rfl; (with_reducible repeat first | apply kN | apply kD | apply kA); refine blk_put (cs := #[.int .i64 t655, .int .i64 0, .int .i64 0]) ?_ 1 _ rfl; (with_reducible repeat first | apply kN | apply kD | apply kA); refine blk_put (cs := #[.int .i64 0, .int .i64 0, .int .i64 0]) ?_ 0 _ rfl; (with_reducible repeat first | apply kN | apply kD | apply kA); exact BK659.out)) (below_size bz)); replace BK659 := am (blk_below (o := .cells #[.int .i64 t655, .int .i64 t656, .int .i64 t657] 30 (0, 0)) (by (with_reducible repeat first | apply kN | apply kD | apply kA); refine blk_put (cs := #[.int .i64 t655, .int .i64 t656, .int .i64 0]) ?_ 2 _ rfl; (with_reducible repeat first | apply kN | apply kD | apply kA); refine blk_put (cs := #[.int .i64 t655, .int .i64 0, .int .i64 0]) ?_ 1 _ rfl; (with_reducible repeat first | apply kN | apply kD | apply kA); refine blk_put (cs := #[.int .i64 0, .int .i64 0, .int .i64 0]) ?_ 0 _ rfl; (with_reducible repeat first | apply kN | apply kD | apply kA); exact BK659.out) hb); replace HB := am (below_step bz hb); (try clear hb); (try clear hb2); (try clear hk); (try clear hi); (try clear ho0); obtain ⟨Ao77, co77, eo77⟩ := Kd.R_slice HO663.out; subst eo77) | (go_at_call 12; (with_reducible refine (dancestudiolaw44_awake.calls k  t674 _ A72.out).mono ?_); rintro e w78 ⟨rfl, hb⟩; replace HO663 := am (Kd.R_below (rz HO663) hb); replace BK659 := am (blk_below (o := .cells #[.int .i64 t655, .int .i64 t656, .int .i64 t657] 30 (0, 0)) (kz BK659) hb); replace HB := am (below_step bz hb); (try clear hb); (try clear hb2); (try clear hk); (try clear hi))); try go_wp2_with (first | (go_at_call 11; (with_reducible refine (dancestudioref44_Light.calls k _ _ l0 _ _ l2 true _ ?side1 ?side2 ?side3 ?side4 A4.out).mono ?_); (case side1 => repeat (first | exact HR0.out | (with_reducible first | apply cA | apply cN | apply cD))); (case side2 => exact HC0.out); (case side3 => repeat (first | exact HR2.out | (with_reducible first | apply cA | apply cN | apply cD))); (case side4 => exact HC2.out); rintro e w' ⟨rfl, ⟨nd, rfl⟩⟩; (try first | exact ⟨rfl, _, World.drewN_drewN _ _ _⟩ | exact ⟨rfl, _, Eq.trans (World.drewN_drewN _ _ _) (congrArg (World.drewN _) (Nat.add_assoc _ _ _))⟩)) | (go_at_call 15; (with_reducible refine (collide_First.calls k _ _ l0 _ _ l1 _ _ l2 t655 t656 t657 t658 _ ?side1 ?side2 ?side3 ?side4 ?side5 ?side6 A6.out).mono ?_); (case side1 => repeat (first | exact HR0.out | (with_reducible first | apply cA | apply cN | apply cD))); (case side2 => exact HC0.out); (case side3 => repeat (first | exact HR1.out | (with_reducible first | apply cA | apply cN | apply cD))); (case side4 => exact HC1.out); (case side5 => repeat (first | exact HR2.out | (with_reducible first | apply cA | apply cN | apply cD))); (case side6 => exact HC2.out); rintro e w73 ⟨rfl, hb⟩; replace HB := am (below_step bz hb); (try clear hb); (try clear hb2); (try clear hk); (try clear hi)) | ((with_reducible refine gate_dst (N := 7) rfl ?_); refine box_event yz (N := 7) yz (cs := #[.int .i64 0, .int .i64 0, .int .i64 0]) (t := 30) gz ?_; intro gb659 hg w74 hbox hb; have BK659 := am (hbox); have GW659 := gwz (g := gb659) HB hg; have GE659 := GW659; replace HB := am (below_step bz hb); clear hb hbox hg; obtain ⟨hcz75_0, hcz75_1, hcz75_2, hfz75_0, hfz75_1, hfz75_2⟩ := kc3 BK659.out) | (go_at_call 16; (with_reducible refine (collide_All.calls k _ _ l0 _ _ l1 _ _ l2 t660 t661 _ ?side1 ?side2 ?side3 ?side4 ?side5 ?side6 A7.out).mono ?_); (case side1 => exact Kd.C_below HR0.out bz); (case side2 => exact HC0.out); (case side3 => exact Kd.C_below HR1.out bz); (case side4 => exact HC1.out); (case side5 => exact Kd.C_below HR2.out bz); (case side6 => exact HC2.out); rintro e w76 ⟨v662, rfl, ho0, hb⟩; have HO663 := am (Kd.R_lower (Kd.R_newB ho0 (g := gb659) (o := .cells #[.int .i64 t655, .int .i64 t656, .int .i64 t657] 30 (0, 0)) (by (with_reducible repeat first | apply kN | apply kD | apply kA); refine blk_put (cs := #[.int .i64 t655, .int .i64 t656, .int .i64 0]) ?_ 2 _ rfl; (with_reducible repeat first | apply kN | apply kD | apply kA); refine blk_put (cs := #[.int .i64 t655, .int .i64 0, .int .i64 0]) ?_ 1 _ rfl; (with_reducible repeat first | apply kN | apply kD | apply kA); refine blk_put (cs := #[.int .i64 0, .int .i64 0, .int .i64 0]) ?_ 0 _ rfl; (with_reducible repeat first | apply kN | apply kD | apply kA); exact BK659.out)) (below_size bz)); replace BK659 := am (blk_below (o := .cells #[.int .i64 t655, .int .i64 t656, .int .i64 t657] 30 (0, 0)) (by (with_reducible repeat first | apply kN | apply kD | apply kA); refine blk_put (cs := #[.int .i64 t655, .int .i64 t656, .int .i64 0]) ?_ 2 _ rfl; (with_reducible repeat first | apply kN | apply kD | apply kA); refine blk_put (cs := #[.int .i64 t655, .int .i64 0, .int .i64 0]) ?_ 1 _ rfl; (with_reducible repeat first | apply kN | apply kD | apply kA); refine blk_put (cs := #[.int .i64 0, .int .i64 0, .int .i64 0]) ?_ 0 _ rfl; (with_reducible repeat first | apply kN | apply kD | apply kA); exact BK659.out) hb); replace HB := am (below_step bz hb); (try clear hb); (try clear hb2); (try clear hk); (try clear hi); (try clear ho0); obtain ⟨Ao77, co77, eo77⟩ := Kd.R_slice HO663.out; subst eo77) | (go_at_call 12; (with_reducible refine (dancestudiolaw44_awake.calls k  t674 _ A72.out).mono ?_); rintro e w78 ⟨rfl, hb⟩; replace HO663 := am (Kd.R_below (rz HO663) hb); replace BK659 := am (blk_below (o := .cells #[.int .i64 t655, .int .i64 t656, .int .i64 t657] 30 (0, 0)) (kz BK659) hb); replace HB := am (below_step bz hb); (try clear hb); (try clear hb2); (try clear hk); (try clear hi))))
   go_ret
   exact ⟨ez, bz⟩
 ·
  replace c5 := Bool.eq_false_iff.mpr c5
  subst c5
  have H1 : ((dancestudiolaw44_awake.f k).bind fun t635 => (some t635)) = some r := by rw [if_neg (show ¬ (false = true) by decide)] at H; exact H
  clear H
  have H := H1
  clear H1
  replace H := Option.bind_eq_some_iff.mp H
  obtain ⟨t635, A790, H⟩ := H
  replace H : (some t635) = some r := H
  have A79 := am A790
  clear A790
  obtain rfl := Option.some.inj H
  go_enter Try.func7, Try.ntmps7
  go_wp2_with (first | (go_at_call 11; (with_reducible refine (dancestudioref44_Light.calls k _ _ l0 _ _ l2 false _ ?side1 ?side2 ?side3 ?side4 A4.out).mono ?_); (case side1 => repeat (first | exact HR0.out | (with_reducible first | apply cA | apply cN | apply cD))); (case side2 => exact HC0.out); (case side3 => repeat (first | exact HR2.out | (with_reducible first | apply cA | apply cN | apply cD))); (case side4 => exact HC2.out); rintro e w' ⟨rfl, ⟨nd, rfl⟩⟩; (try first | exact ⟨rfl, _, World.drewN_drewN _ _ _⟩ | exact ⟨rfl, _, Eq.trans (World.drewN_drewN _ _ _) (congrArg (World.drewN _) (Nat.add_assoc _ _ _))⟩)) | (go_at_call 12; (with_reducible refine (dancestudiolaw44_awake.calls k  t635 _ A79.out).mono ?_); rintro e w80 ⟨rfl, hb⟩; replace HB := am (below_step bz hb); (try clear hb); (try clear hb2); (try clear hk); (try clear hi)))
  repeat (go_quiet (first | (go_at_call 11; (with_reducible refine (dancestudioref44_Light.calls k _ _ l0 _ _ l2 false _ ?side1 ?side2 ?side3 ?side4 A4.out).mono ?_); (case side1 => repeat (first | exact HR0.out | (with_reducible first | apply cA | apply cN | apply cD))); (case side2 => exact HC0.out); (case side3 => repeat (first | exact HR2.out | (with_reducible first | apply cA | apply cN | apply cD))); (case side4 => exact HC2.out); rintro e w' ⟨rfl, ⟨nd, rfl⟩⟩; (try first | exact ⟨rfl, _, World.drewN_drewN _ _ _⟩ | exact ⟨rfl, _, Eq.trans (World.drewN_drewN _ _ _) (congrArg (World.drewN _) (Nat.add_assoc _ _ _))⟩)) | (go_at_call 12; (with_reducible refine (dancestudiolaw44_awake.calls k  t635 _ A79.out).mono ?_); rintro e w80 ⟨rfl, hb⟩; replace HB := am (below_step bz hb); (try clear hb); (try clear hb2); (try clear hk); (try clear hi))); try go_wp2_with (first | (go_at_call 11; (with_reducible refine (dancestudioref44_Light.calls k _ _ l0 _ _ l2 false _ ?side1 ?side2 ?side3 ?side4 A4.out).mono ?_); (case side1 => repeat (first | exact HR0.out | (with_reducible first | apply cA | apply cN | apply cD))); (case side2 => exact HC0.out); (case side3 => repeat (first | exact HR2.out | (with_reducible first | apply cA | apply cN | apply cD))); (case side4 => exact HC2.out); rintro e w' ⟨rfl, ⟨nd, rfl⟩⟩; (try first | exact ⟨rfl, _, World.drewN_drewN _ _ _⟩ | exact ⟨rfl, _, Eq.trans (World.drewN_drewN _ _ _) (congrArg (World.drewN _) (Nat.add_assoc _ _ _))⟩)) | (go_at_call 12; (with_reducible refine (dancestudiolaw44_awake.calls k  t635 _ A79.out).mono ?_); rintro e w80 ⟨rfl, hb⟩; replace HB := am (below_step bz hb); (try clear hb); (try clear hb2); (try clear hk); (try clear hi))))
  go_ret
  exact ⟨ez, bz⟩

end Go.Proofs.Yteflngoiebgdaaa.X
