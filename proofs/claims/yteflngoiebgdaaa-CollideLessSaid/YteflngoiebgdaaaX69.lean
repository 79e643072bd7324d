import Derived.Test.YteflngoiebgdaaaX0
import Derived.Test.YteflngoiebgdaaaX1
import Derived.Test.YteflngoiebgdaaaX2
import Derived.Test.YteflngoiebgdaaaX9
import Derived.Test.YteflngoiebgdaaaX26
import Derived.Test.YteflngoiebgdaaaX32
import Derived.Test.YteflngoiebgdaaaX34
namespace Go.Proofs.Yteflngoiebgdaaa.X
open Go.RowKit YteflngoiebgdaaaW.PrintWords YteflngoiebgdaaaW.PrintLast YteflngoiebgdaaaW.PrintMore
attribute [local go_sem] max2_int min2_int max_two min_two max_three min_three max_four min_four
set_option linter.unusedVariables false
set_option linter.unusedSimpArgs false

attribute [local go_sem high] eqA30
/-! ### dancestudiolaw44_CollideLess: function 8 -/
mutual
def dancestudiolaw44_CollideLess.j0 : Nat → List (S43) → List Int → List (S62) → Int → Bool → Option (Bool)
 | 0, _, _, _, _, _ => none
 | k + 1, x0, x1, x2, x3, x31 => if x31 = true then ((dancestudiolaw44_awake.f k).bind fun t704 => (some t704)) else (dancestudiolaw44_CollideLess.l0 k x0 x1 x2 x3 ([] : List Int) ([] : List Int) 0)
def dancestudiolaw44_CollideLess.l0 : Nat → List (S43) → List Int → List (S62) → Int → List Int → List Int → Int → Option (Bool)
 | 0, _, _, _, _, _, _, _ => none
 | k + 1, x0, x1, x2, x3, x9, x10, x11 => if x11 < (x1.length : Int) then (if 0 ≤ x11 then (if x9.length < 17592186044416 then (if x10.length < 17592186044416 then (dancestudiolaw44_CollideLess.l0 k x0 x1 x2 x3 (x9 ++ [mx 0 (wrap64 ((rd x1 x11) - (wrap64 (x3))))]) (x10 ++ [0]) (wrap64 (x11 + 1))) else (none)) else (none)) else (none)) else ((collide_All.f k x0 x1 x2).bind fun bt712 => ((collide_All.f k x0 x9 x2).bind fun bt716 => ((collide_First.f k x0 x10 x2).bind fun bt720 => (if bt712.2 = 0 then (if bt716.2 = 0 then (if bt720.2.2.2 = 0 then (if (!(bt720.1 == (-1)) || (!(bt720.2.1 == 0) || (!(bt720.2.2.1 == 0)))) = true then (none) else (dancestudiolaw44_CollideLess.l1 k bt712.1 bt716.1 0)) else (none)) else (none)) else (none)))))
def dancestudiolaw44_CollideLess.l1 : Nat → List (S30) → List (S30) → Int → Option (Bool)
 | 0, _, _, _ => none
 | k + 1, x12, x14, x18 => if x18 < (x14.length : Int) then (dancestudiolaw44_CollideLess.l2 k x12 x14 x18 false 0) else ((dancestudiolaw44_awake.f k).bind fun t725 => (some t725))
def dancestudiolaw44_CollideLess.l2 : Nat → List (S30) → List (S30) → Int → Bool → Int → Option (Bool)
 | 0, _, _, _, _, _ => none
 | k + 1, x12, x14, x18, x19, x20 => if x20 < (x12.length : Int) then (if x19 = true then (dancestudiolaw44_CollideLess.l2 k x12 x14 x18 true (wrap64 (x20 + 1))) else (if 0 ≤ x20 then (if 0 ≤ x18 then (if x18 < (x14.length : Int) then (if ((rd_T30 x12 x20).f1) = ((rd_T30 x14 x18).f1) then (if ((rd_T30 x12 x20).f2) = ((rd_T30 x14 x18).f2) then (dancestudiolaw44_CollideLess.l2 k x12 x14 x18 (decide (((rd_T30 x12 x20).f0) ≤ ((rd_T30 x14 x18).f0))) (wrap64 (x20 + 1))) else (dancestudiolaw44_CollideLess.l2 k x12 x14 x18 false (wrap64 (x20 + 1)))) else (dancestudiolaw44_CollideLess.l2 k x12 x14 x18 false (wrap64 (x20 + 1)))) else (none)) else (none)) else (none))) else (if x19 = true then (dancestudiolaw44_CollideLess.l1 k x12 x14 (wrap64 (x18 + 1))) else (none))
end
def dancestudiolaw44_CollideLess.f (k : Nat) (l0 : List (S43)) (l1 : List Int) (l2 : List (S62)) (a3 : Int) : Option (Bool) := (dancestudioref44_Light.f k l0 l2).bind fun t701 => (if t701 = true then ((collide_Check.f k l0 l1 l2).bind fun t702 => (dancestudiolaw44_CollideLess.j0 k l0 l1 l2 a3 (t702 != 0))) else (dancestudiolaw44_CollideLess.j0 k l0 l1 l2 a3 true))
theorem dancestudiolaw44_CollideLess.mono_l : ∀ k, (∀ y0 y1 y2 y3 y4, LeO (dancestudiolaw44_CollideLess.j0 k y0 y1 y2 y3 y4) (dancestudiolaw44_CollideLess.j0 (k + 1) y0 y1 y2 y3 y4)) ∧ (∀ y0 y1 y2 y3 y4 y5 y6, LeO (dancestudiolaw44_CollideLess.l0 k y0 y1 y2 y3 y4 y5 y6) (dancestudiolaw44_CollideLess.l0 (k + 1) y0 y1 y2 y3 y4 y5 y6)) ∧ (∀ y0 y1 y2, LeO (dancestudiolaw44_CollideLess.l1 k y0 y1 y2) (dancestudiolaw44_CollideLess.l1 (k + 1) y0 y1 y2)) ∧ (∀ y0 y1 y2 y3 y4, LeO (dancestudiolaw44_CollideLess.l2 k y0 y1 y2 y3 y4) (dancestudiolaw44_CollideLess.l2 (k + 1) y0 y1 y2 y3 y4))
 | 0 => ⟨fun _ _ _ _ _ r h => by simp [dancestudiolaw44_CollideLess.j0] at h, fun _ _ _ _ _ _ _ r h => by simp [dancestudiolaw44_CollideLess.l0] at h, fun _ _ _ r h => by simp [dancestudiolaw44_CollideLess.l1] at h, fun _ _ _ _ _ r h => by simp [dancestudiolaw44_CollideLess.l2] at h⟩
 | k + 1 => by
  obtain ⟨ih0, ih1, ih2, ih3⟩ := dancestudiolaw44_CollideLess.mono_l k
  refine ⟨?_, ?_, ?_, ?_⟩
  ·
   intro y0 y1 y2 y3 y4
   unfold dancestudiolaw44_CollideLess.j0
   repeat' first
   | (with_reducible exact ih0 _ _ _ _ _)
   | (with_reducible exact ih1 _ _ _ _ _ _ _)
   | (with_reducible exact ih2 _ _ _)
   | (with_reducible exact ih3 _ _ _ _ _)
   | (with_reducible exact collide_All.mono _ _ _ _)
   | (with_reducible exact collide_Check.mono _ _ _ _)
   | (with_reducible exact collide_First.mono _ _ _ _)
   | (with_reducible exact dancestudiolaw44_awake.mono _)
   | (with_reducible exact dancestudioref44_Light.mono _ _ _)
   | (with_reducible exact LeO.refl _)
   | (with_reducible exact LeO.none _)
   | (with_reducible refine LeO.ite ?_ ?_)
   | (with_reducible refine LeO.bind ?_ (fun _ => ?_))
   | exact ih0 _ _ _ _ _
   | exact ih1 _ _ _ _ _ _ _
   | exact ih2 _ _ _
   | exact ih3 _ _ _ _ _
   | exact collide_All.mono _ _ _ _
   | exact collide_Check.mono _ _ _ _
   | exact collide_First.mono _ _ _ _
   | exact dancestudiolaw44_awake.mono _
   | exact dancestudioref44_Light.mono _ _ _
   | exact LeO.none _
   | refine LeO.ite ?_ ?_
   | refine LeO.bind ?_ (fun _ => ?_)
  ·
   intro y0 y1 y2 y3 y4 y5 y6
   unfold dancestudiolaw44_CollideLess.l0
   repeat' first
   | (with_reducible exact ih0 _ _ _ _ _)
   | (with_reducible exact ih1 _ _ _ _ _ _ _)
   | (with_reducible exact ih2 _ _ _)
   | (with_reducible exact ih3 _ _ _ _ _)
   | (with_reducible exact collide_All.mono _ _ _ _)
   | (with_reducible exact collide_Check.mono _ _ _ _)
   | (with_reducible exact collide_First.mono _ _ _ _)
   | (with_reducible exact dancestudiolaw44_awake.mono _)
   | (with_reducible exact dancestudioref44_Light.mono _ _ _)
   | (with_reducible exact LeO.refl _)
   | (with_reducible exact LeO.none _)
   | (with_reducible refine LeO.ite ?_ ?_)
   | (with_reducible refine LeO.bind ?_ (fun _ => ?_))
   | exact ih0 _ _ _ _ _
   | exact ih1 _ _ _ _ _ _ _
   | exact ih2 _ _ _
   | exact ih3 _ _ _ _ _
   | exact collide_All.mono _ _ _ _
   | exact collide_Check.mono _ _ _ _
   | exact collide_First.mono _ _ _ _
   | exact dancestudiolaw44_awake.mono _
   | exact dancestudioref44_Light.mono _ _ _
   | exact LeO.none _
   | refine LeO.ite ?_ ?_
   | refine LeO.bind ?_ (fun _ => ?_)
  ·
   intro y0 y1 y2
   unfold dancestudiolaw44_CollideLess.l1
   repeat' first
   | (with_reducible exact ih0 _ _ _ _ _)
   | (with_reducible exact ih1 _ _ _ _ _ _ _)
   | (with_reducible exact ih2 _ _ _)
   | (with_reducible exact ih3 _ _ _ _ _)
   | (with_reducible exact collide_All.mono _ _ _ _)
   | (with_reducible exact collide_Check.mono _ _ _ _)
   | (with_reducible exact collide_First.mono _ _ _ _)
   | (with_reducible exact dancestudiolaw44_awake.mono _)
   | (with_reducible exact dancestudioref44_Light.mono _ _ _)
   | (with_reducible exact LeO.refl _)
   | (with_reducible exact LeO.none _)
   | (with_reducible refine LeO.ite ?_ ?_)
   | (with_reducible refine LeO.bind ?_ (fun _ => ?_))
   | exact ih0 _ _ _ _ _
   | exact ih1 _ _ _ _ _ _ _
   | exact ih2 _ _ _
   | exact ih3 _ _ _ _ _
   | exact collide_All.mono _ _ _ _
   | exact collide_Check.mono _ _ _ _
   | exact collide_First.mono _ _ _ _
   | exact dancestudiolaw44_awake.mono _
   | exact dancestudioref44_Light.mono _ _ _
   | exact LeO.none _
   | refine LeO.ite ?_ ?_
   | refine LeO.bind ?_ (fun _ => ?_)
  ·
   intro y0 y1 y2 y3 y4
   unfold dancestudiolaw44_CollideLess.l2
   repeat' first
   | (with_reducible exact ih0 _ _ _ _ _)
   | (with_reducible exact ih1 _ _ _ _ _ _ _)
   | (with_reducible exact ih2 _ _ _)
   | (with_reducible exact ih3 _ _ _ _ _)
   | (with_reducible exact collide_All.mono _ _ _ _)
   | (with_reducible exact collide_Check.mono _ _ _ _)
   | (with_reducible exact collide_First.mono _ _ _ _)
   | (with_reducible exact dancestudiolaw44_awake.mono _)
   | (with_reducible exact dancestudioref44_Light.mono _ _ _)
   | (with_reducible exact LeO.refl _)
   | (with_reducible exact LeO.none _)
   | (with_reducible refine LeO.ite ?_ ?_)
   | (with_reducible refine LeO.bind ?_ (fun _ => ?_))
   | exact ih0 _ _ _ _ _
   | exact ih1 _ _ _ _ _ _ _
   | exact ih2 _ _ _
   | exact ih3 _ _ _ _ _
   | exact collide_All.mono _ _ _ _
   | exact collide_Check.mono _ _ _ _
   | exact collide_First.mono _ _ _ _
   | exact dancestudiolaw44_awake.mono _
   | exact dancestudioref44_Light.mono _ _ _
   | exact LeO.none _
   | refine LeO.ite ?_ ?_
   | refine LeO.bind ?_ (fun _ => ?_)
theorem dancestudiolaw44_CollideLess.mono : ∀ a0 a1 a2 a3 k, LeO (dancestudiolaw44_CollideLess.f k a0 a1 a2 a3) (dancestudiolaw44_CollideLess.f (k + 1) a0 a1 a2 a3) := by
 intro a0 a1 a2 a3 k
 obtain ⟨ih0, ih1, ih2, ih3⟩ := dancestudiolaw44_CollideLess.mono_l k
 unfold dancestudiolaw44_CollideLess.f
 repeat' first
   | (with_reducible exact ih0 _ _ _ _ _)
   | (with_reducible exact ih1 _ _ _ _ _ _ _)
   | (with_reducible exact ih2 _ _ _)
   | (with_reducible exact ih3 _ _ _ _ _)
   | (with_reducible exact collide_All.mono _ _ _ _)
   | (with_reducible exact collide_Check.mono _ _ _ _)
   | (with_reducible exact collide_First.mono _ _ _ _)
   | (with_reducible exact dancestudiolaw44_awake.mono _)
   | (with_reducible exact dancestudioref44_Light.mono _ _ _)
   | (with_reducible exact LeO.refl _)
   | (with_reducible exact LeO.none _)
   | (with_reducible refine LeO.ite ?_ ?_)
   | (with_reducible refine LeO.bind ?_ (fun _ => ?_))
   | exact ih0 _ _ _ _ _
   | exact ih1 _ _ _ _ _ _ _
   | exact ih2 _ _ _
   | exact ih3 _ _ _ _ _
   | exact collide_All.mono _ _ _ _
   | exact collide_Check.mono _ _ _ _
   | exact collide_First.mono _ _ _ _
   | exact dancestudiolaw44_awake.mono _
   | exact dancestudioref44_Light.mono _ _ _
   | exact LeO.none _
   | refine LeO.ite ?_ ?_
   | refine LeO.bind ?_ (fun _ => ?_)
set_option maxHeartbeats 8000000 in
set_option maxRecDepth 100000 in
theorem dancestudiolaw44_CollideLess.calls (k : Nat) (A0 : Option Addr) (c0 : Nat) (l0 : List (S43)) (A1 : Option Addr) (c1 : Nat) (l1 : List Int) (A2 : Option Addr) (c2 : Nat) (l2 : List (S62)) (a3 : Int) (r : Bool) (w : World) (hr0 : Kd.C k43 w A0 l0.length l0) (hc0 : l0.length ≤ c0) (hr1 : Kd.C (Kd.int .i64) w A1 l1.length l1) (hc1 : l1.length ≤ c1) (hr2 : Kd.C k62 w A2 l2.length l2) (hc2 : l2.length ≤ c2) (h : dancestudiolaw44_CollideLess.f k l0 l1 l2 a3 = some r) :
  Calls Try.prog 8 #[.slice A0 l0.length c0, .slice A1 l1.length c1, .slice A2 l2.length c2, .int .u16 a3] w fun e w' => e = .returned (.bool r) ∧ Below w.heap.size w w' := by
 have hu30 := Try.underlying30
 have HR0 := am hr0
 have HC0 := am hc0
 clear hr0 hc0
 have HR1 := am hr1
 have HC1 := am hc1
 clear hr1 hc1
 have HR2 := am hr2
 have HC2 := am hc2
 clear hr2 hc2
 have HB := am (Below.refl w.heap.size w)
 have H : ((dancestudioref44_Light.f k l0 l2).bind fun t701 => (if t701 = true then ((collide_Check.f k l0 l1 l2).bind fun t702 => (dancestudiolaw44_CollideLess.j0 k l0 l1 l2 a3 (t702 != 0))) else (dancestudiolaw44_CollideLess.j0 k l0 l1 l2 a3 true))) = some r := h
 clear h
 have HC5 := am H
 clear H
 go_enter Try.func8, Try.ntmps8
 go_upto_region 1 with (fail)
 repeat (go_quiet (fail); go_upto_region 1 with (fail))
 go_cut [31] (fun v31 wc => ∃ (kq : Nat) (x31_4 : Bool), v31 = .bool x31_4 ∧ Aside0 (dancestudiolaw44_CollideLess.j0 kq l0 l1 l2 a3 x31_4 = some r) ∧ Aside0 (kq ≤ k) ∧ Aside0 (Below w.heap.size w wc))
 case first =>
  have H := HC5.out
  clear HC5
  replace H := Option.bind_eq_some_iff.mp H
  obtain ⟨t701, A60, H⟩ := H
  replace H : (if t701 = true then ((collide_Check.f k l0 l1 l2).bind fun t702 => (dancestudiolaw44_CollideLess.j0 k l0 l1 l2 a3 (t702 != 0))) else (dancestudiolaw44_CollideLess.j0 k l0 l1 l2 a3 true)) = some r := H
  have A6 := am A60
  clear A60
  by_cases c7 : t701 = true
  ·
   subst c7
   have H1 : ((collide_Check.f k l0 l1 l2).bind fun t702 => (dancestudiolaw44_CollideLess.j0 k l0 l1 l2 a3 (t702 != 0))) = some r := by rw [if_pos rfl] at H; exact H
   clear H
   have H := H1
   clear H1
   replace H := Option.bind_eq_some_iff.mp H
   obtain ⟨t702, A80, H⟩ := H
   replace H : (dancestudiolaw44_CollideLess.j0 k l0 l1 l2 a3 (t702 != 0)) = some r := H
   have A8 := am A80
   clear A80
   have H' := am H
   clear H
   go_wp2_with (first | (go_at_call 11; (with_reducible refine (dancestudioref44_Light.calls k _ _ l0 _ _ l2 true _ ?side1 ?side2 ?side3 ?side4 A6.out).mono ?_); (case side1 => exact cz HR0); (case side2 => exact HC0.out); (case side3 => exact cz HR2); (case side4 => exact HC2.out); rintro e w' ⟨rfl, ⟨nd, rfl⟩⟩; (try first | exact ⟨rfl, _, World.drewN_drewN _ _ _⟩ | exact ⟨rfl, _, Eq.trans (World.drewN_drewN _ _ _) (congrArg (World.drewN _) (Nat.add_assoc _ _ _))⟩)) | (go_at_call 14; (with_reducible refine (collide_Check.calls k _ _ l0 _ _ l1 _ _ l2 t702 _ ?side1 ?side2 ?side3 ?side4 ?side5 ?side6 A8.out).mono ?_); (case side1 => repeat (first | exact (Kd.C_below HR0.out bz) | (with_reducible first | apply cA | apply cN | apply cD))); (case side2 => exact HC0.out); (case side3 => repeat (first | exact (Kd.C_below HR1.out bz) | (with_reducible first | apply cA | apply cN | apply cD))); (case side4 => exact HC1.out); (case side5 => repeat (first | exact (Kd.C_below HR2.out bz) | (with_reducible first | apply cA | apply cN | apply cD))); (case side6 => exact HC2.out); rintro e w9 ⟨rfl, hb⟩; replace HB := am (below_step bz hb); (try clear hb); (try clear hb2); (try clear hk); (try clear hi)))
   repeat (go_quiet (first | (go_at_call 11; (with_reducible refine (dancestudioref44_Light.calls k _ _ l0 _ _ l2 true _ ?side1 ?side2 ?side3 ?side4 A6.out).mono ?_); (case side1 => exact cz HR0); (case side2 => exact HC0.out); (case side3 => exact cz HR2); (case side4 => exact HC2.out); rintro e w' ⟨rfl, ⟨nd, rfl⟩⟩; (try first | exact ⟨rfl, _, World.drewN_drewN _ _ _⟩ | exact ⟨rfl, _, Eq.trans (World.drewN_drewN _ _ _) (congrArg (World.drewN _) (Nat.add_assoc _ _ _))⟩)) | (go_at_call 14; (with_reducible refine (collide_Check.calls k _ _ l0 _ _ l1 _ _ l2 t702 _ ?side1 ?side2 ?side3 ?side4 ?side5 ?side6 A8.out).mono ?_); (case side1 => repeat (first | exact (Kd.C_below HR0.out bz) | (with_reducible first | apply cA | apply cN | apply cD))); (case side2 => exact HC0.out); (case side3 => repeat (first | exact (Kd.C_below HR1.out bz) | (with_reducible first | apply cA | apply cN | apply cD))); (case side4 => exact HC1.out); (case side5 => repeat (first | exact (Kd.C_below HR2.out bz) | (with_reducible first | apply cA | apply cN | apply cD))); (case side6 => exact HC2.out); rintro e w9 ⟨rfl, hb⟩; replace HB := am (below_step bz hb); (try clear hb); (try clear hb2); (try clear hk); (try clear hi))); try go_wp2_with (first | (go_at_call 11; (with_reducible refine (dancestudioref44_Light.calls k _ _ l0 _ _ l2 true _ ?side1 ?side2 ?side3 ?side4 A6.out).mono ?_); (case side1 => exact cz HR0); (case side2 => exact HC0.out); (case side3 => exact cz HR2); (case side4 => exact HC2.out); rintro e w' ⟨rfl, ⟨nd, rfl⟩⟩; (try first | exact ⟨rfl, _, World.drewN_drewN _ _ _⟩ | exact ⟨rfl, _, Eq.trans (World.drewN_drewN _ _ _) (congrArg (World.drewN _) (Nat.add_assoc _ _ _))⟩)) | (go_at_call 14; (with_reducible refine (collide_Check.calls k _ _ l0 _ _ l1 _ _ l2 t702 _ ?side1 ?side2 ?side3 ?side4 ?side5 ?side6 A8.out).mono ?_); (case side1 => repeat (first | exact (Kd.C_below HR0.out bz) | (with_reducible first | apply cA | apply cN | apply cD))); (case side2 => exact HC0.out); (case side3 => repeat (first | exact (Kd.C_below HR1.out bz) | (with_reducible first | apply cA | apply cN | apply cD))); (case side4 => exact HC1.out); (case side5 => repeat (first | exact (Kd.C_below HR2.out bz) | (with_reducible first | apply cA | apply cN | apply cD))); (case side6 => exact HC2.out); rintro e w9 ⟨rfl, hb⟩; replace HB := am (below_step bz hb); (try clear hb); (try clear hb2); (try clear hk); (try clear hi))))
   go_meet
   case rel => exact ⟨_, ((t702 != 0)), sz, H', ⟨by first | omega | exact Nat.le_refl _⟩, ⟨bz⟩⟩
  ·
   replace c7 := Bool.eq_false_iff.mpr c7
   subst c7
   have H1 : (dancestudiolaw44_CollideLess.j0 k l0 l1 l2 a3 true) = some r := by rw [if_neg (show ¬ (false = true) by decide)] at H; exact H
   clear H
   have H := H1
   clear H1
   have H' := am H
   clear H
   go_wp2_with (first | (go_at_call 11; (with_reducible refine (dancestudioref44_Light.calls k _ _ l0 _ _ l2 false _ ?side1 ?side2 ?side3 ?side4 A6.out).mono ?_); (case side1 => exact cz HR0); (case side2 => exact HC0.out); (case side3 => exact cz HR2); (case side4 => exact HC2.out); rintro e w' ⟨rfl, ⟨nd, rfl⟩⟩; (try first | exact ⟨rfl, _, World.drewN_drewN _ _ _⟩ | exact ⟨rfl, _, Eq.trans (World.drewN_drewN _ _ _) (congrArg (World.drewN _) (Nat.add_assoc _ _ _))⟩)))
   repeat (go_quiet (first | (go_at_call 11; (with_reducible refine (dancestudioref44_Light.calls k _ _ l0 _ _ l2 false _ ?side1 ?side2 ?side3 ?side4 A6.out).mono ?_); (case side1 => exact cz HR0); (case side2 => exact HC0.out); (case side3 => exact cz HR2); (case side4 => exact HC2.out); rintro e w' ⟨rfl, ⟨nd, rfl⟩⟩; (try first | exact ⟨rfl, _, World.drewN_drewN _ _ _⟩ | exact ⟨rfl, _, Eq.trans (World.drewN_drewN _ _ _) (congrArg (World.drewN _) (Nat.add_assoc _ _ _))⟩))); try go_wp2_with (first | (go_at_call 11; (with_reducible refine (dancestudioref44_Light.calls k _ _ l0 _ _ l2 false _ ?side1 ?side2 ?side3 ?side4 A6.out).mono ?_); (case side1 => exact cz HR0); (case side2 => exact HC0.out); (case side3 => exact cz HR2); (case side4 => exact HC2.out); rintro e w' ⟨rfl, ⟨nd, rfl⟩⟩; (try first | exact ⟨rfl, _, World.drewN_drewN _ _ _⟩ | exact ⟨rfl, _, Eq.trans (World.drewN_drewN _ _ _) (congrArg (World.drewN _) (Nat.add_assoc _ _ _))⟩))))
   go_meet
   case rel => exact ⟨_, (true), sz, H', ⟨by first | omega | exact Nat.le_refl _⟩, ⟨bz⟩⟩
 case rest =>
  clear HC5
  try clear c1
  try clear c2
  try clear p2
  try clear c7
  try clear c8
  obtain ⟨kq, x31_4, rfl, HA, HJ4, HB⟩ := hcut
  cases kq with
  | zero => exact absurd HA.out (by simp [dancestudiolaw44_CollideLess.j0])
  | succ kj4 =>
   have H := HA.out
   clear HA
   simp only [dancestudiolaw44_CollideLess.j0] at H
   by_cases c10 : x31_4 = true
   ·
    subst c10
    have H1 : ((dancestudiolaw44_awake.f kj4).bind fun t704 => (some t704)) = some r := by rw [if_pos rfl] at H; exact H
    clear H
    have H := H1
    clear H1
    replace H := Option.bind_eq_some_iff.mp H
    obtain ⟨t704, A110, H⟩ := H
    replace H : (some t704) = some r := H
    have A11 := am A110
    clear A110
    obtain rfl := Option.some.inj H
    go_wp2_with (first | (go_at_call 12; (with_reducible refine (dancestudiolaw44_awake.calls kj4  t704 _ A11.out).mono ?_); rintro e w12 ⟨rfl, hb⟩; replace HB := am (below_step bz hb); (try clear hb); (try clear hb2); (try clear hk); (try clear hi)))
    repeat (go_quiet (first | (go_at_call 12; (with_reducible refine (dancestudiolaw44_awake.calls kj4  t704 _ A11.out).mono ?_); rintro e w12 ⟨rfl, hb⟩; replace HB := am (below_step bz hb); (try clear hb); (try clear hb2); (try clear hk); (try clear hi))); try go_wp2_with (first | (go_at_call 12; (with_reducible refine (dancestudiolaw44_awake.calls kj4  t704 _ A11.out).mono ?_); rintro e w12 ⟨rfl, hb⟩; replace HB := am (below_step bz hb); (try clear hb); (try clear hb2); (try clear hk); (try clear hi))))
    go_ret
    exact ⟨ez, bz⟩
   ·
    replace c10 := Bool.eq_false_iff.mpr c10
    subst c10
    have H1 : (dancestudiolaw44_CollideLess.l0 kj4 l0 l1 l2 a3 ([] : List Int) ([] : List Int) 0) = some r := by rw [if_neg (show ¬ (false = true) by decide)] at H; exact H
    clear H
    have H := H1
    clear H1
    have H' := am H
    clear H
    go_wp2
    repeat (go_quiet (fail); try go_wp2)
    go_loopg [9, 10, 11] kj4 (fun kq v9 v10 v11 w' => ∃ (x9_2 : List Int) (x10_2 : List Int) (x11_2 : Int), v11 = .int .i64 x11_2 ∧ Aside0 (dancestudiolaw44_CollideLess.l0 kq l0 l1 l2 a3 x9_2 x10_2 x11_2 = some r) ∧ Aside0 (kq ≤ kj4) ∧ Aside0 (Kd.R (Kd.int .i64) 3 w' w.heap.size (fun k_ => some k_ ≠ (v10 : Value).ownBlock) v9 x9_2) ∧ Aside0 (Kd.R (Kd.int .i64) 3 w' w.heap.size (fun k_ => some k_ ≠ (v9 : Value).ownBlock) v10 x10_2) ∧ Aside0 (Below w.heap.size w w'))
    case atStart => exact ⟨(([] : List Int)), (([] : List Int)), (0), sz, H', ⟨Nat.le_refl _⟩, ⟨by first | exact Kd.R_nil _ _ _ _ _ | exact Kd.N_nil _ _ _ _ _ | exact Kd.V_nil _ _ _ _ _ | exact Kd.Q_nil _ _ _ _ _ | exact Kd.S_nil _ _ _ _ _⟩, ⟨by first | exact Kd.R_nil _ _ _ _ _ | exact Kd.N_nil _ _ _ _ _ | exact Kd.V_nil _ _ _ _ _ | exact Kd.Q_nil _ _ _ _ _ | exact Kd.S_nil _ _ _ _ _⟩, ⟨bz⟩⟩
    case round =>
     clear H'
     try clear c1
     try clear c2
     try clear p2
     try clear c7
     try clear c8
     try clear c10
     try clear p2
     obtain ⟨x9_2, x10_2, x11_2, rfl, HA, HK2, HO_9, HO_10, HB⟩ := hrel
     cases gk with
     | zero => exact absurd HA.out (by simp [dancestudiolaw44_CollideLess.l0])
     | succ k2 =>
      have H := HA.out
      clear HA
      simp only [dancestudiolaw44_CollideLess.l0] at H
      by_cases c13 : x11_2 < (l1.length : Int)
      ·
       rw [if_pos c13] at H
       have c13b0 := decide_eq_true c13
       clear c13
       by_cases c14 : 0 ≤ x11_2; rotate_left
       · rw [if_neg c14] at H; exact absurd H (by simp)
       rw [if_pos c14] at H
       have c14b0 := decide_eq_true c14
       clear c14
       obtain ⟨ji15, hji15⟩ : ∃ j_ : Int, (mx 0 (wrap64 ((rd l1 x11_2) - (wrap64 (a3))))) = j_ := ⟨_, rfl⟩
       replace H : (if x9_2.length < 17592186044416 then (if x10_2.length < 17592186044416 then (dancestudiolaw44_CollideLess.l0 k2 l0 l1 l2 a3 (x9_2 ++ [ji15]) (x10_2 ++ [0]) (wrap64 (x11_2 + 1))) else (none)) else (none)) = some r := by first | (rw [hji15] at H; exact H) | (simp only [hji15] at H ⊢; exact H)
       have hji15_ : (if 0 < (wrap64 ((rd l1 x11_2) - (wrap64 (a3)))) then (wrap64 ((rd l1 x11_2) - (wrap64 (a3)))) else 0) = ji15 := hji15
       by_cases c16 : x9_2.length < 17592186044416; rotate_left
       · rw [if_neg c16] at H; exact absurd H (by simp)
       rw [if_pos c16] at H
       have LMc16 := am c16
       clear c16
       obtain ⟨y706, hy706⟩ : ∃ y_ : List Int, y_ = (x9_2 ++ [ji15]) := ⟨_, rfl⟩
       replace H : (if x10_2.length < 17592186044416 then (dancestudiolaw44_CollideLess.l0 k2 l0 l1 l2 a3 y706 (x10_2 ++ [0]) (wrap64 (x11_2 + 1))) else (none)) = some r := by first | (rw [hy706]; with_reducible exact H) | (have H2_ := (Option.bind_some _ _).symm.trans H; rw [hy706]; with_reducible exact H2_) | (have H2_ := (Option.bind_some _ _).symm.trans H; with_reducible exact H2_) | with_reducible exact H | (rw [hy706]; exact H) | exact H
       have Ny706 := am hy706
       clear hy706
       by_cases c17 : x10_2.length < 17592186044416; rotate_left
       · rw [if_neg c17] at H; exact absurd H (by simp)
       rw [if_pos c17] at H
       have LMc17 := am c17
       clear c17
       obtain ⟨y709, hy709⟩ : ∃ y_ : List Int, y_ = (x10_2 ++ [0]) := ⟨_, rfl⟩
       replace H : (dancestudiolaw44_CollideLess.l0 k2 l0 l1 l2 a3 y706 y709 (wrap64 (x11_2 + 1))) = some r := by first | (rw [hy709]; with_reducible exact H) | (have H2_ := (Option.bind_some _ _).symm.trans H; rw [hy709]; with_reducible exact H2_) | (have H2_ := (Option.bind_some _ _).symm.trans H; with_reducible exact H2_) | with_reducible exact H | (rw [hy709]; exact H) | exact H
       have Ny709 := am hy709
       clear hy709
       have H' := am H
       clear H
       have p705 : 0 ≤ (x11_2 : Int) := az
       have q705 : x11_2 < (l1.length : Int) := az
       obtain ⟨ad705, e705, hx705_0⟩ := Kd.at_int HR1.out x11_2 p705 q705
       cases e705
       replace hx705_0 := cb HB.out hx705_0
       replace p705 := eq_true p705
       replace q705 := eq_true q705
       go_wp2_with (first | ((with_reducible refine gate_builtin (b := .append) (xs := #[.tmp 39, .tmp 48]) rfl ?_); at_builtin; refine Kd.R_append (Kd.int .i64) (w0 := w) w.heap.size rfl (.tmp 39) (.tmp 48) 23 3 (.int .i64 0) 8 rfl Try.underlying23 info3 rfl (by decide) (by omega) u9 x9_2 ji15 [.int .i64 ji15] (fun k_ => some k_ ≠ (u10 : Value).ownBlock) (fun _ => False) rfl rfl ?aP (fun _ hk => hk.elim) ?aF ?aO ?aB ?aS ?aL ?_; (case aP => exact rfl); (case aB => exact bz); (case aF => exact (fun k_ hk => Kd.fresh' (Kd.R_lt (rz HO_10)) k_ hk)); (case aO => exact (rz HO_9)); (case aS => exact (below_size bz)); (case aL => have := LMc16.out; omega); intro v707 w18 ho hb hg hat; rw [← Ny706.out] at ho; replace HO_10 := am (Kd.R_after (ok := (fun _ => True)) (by (with_reducible repeat first | apply rA | apply rN | apply rD); exact Kd.R_mono HO_10.out (fun _ hk => ⟨trivial, hk⟩)) hg hat); replace HB := am (hb); have HO708 := am (ho); clear HO_9; clear ho hb hg hat) | ((with_reducible refine gate_builtin (b := .append) (xs := #[.tmp 50, .tmp 51]) rfl ?_); at_builtin; refine Kd.R_append (Kd.int .i64) (w0 := w) w.heap.size rfl (.tmp 50) (.tmp 51) 23 3 (.int .i64 0) 8 rfl Try.underlying23 info3 rfl (by decide) (by omega) u10 x10_2 0 [.int .i64 0] (fun k_ => some k_ ≠ (v707 : Value).ownBlock) (fun _ => False) rfl rfl ?aP (fun _ hk => hk.elim) ?aF ?aO ?aB ?aS ?aL ?_; (case aP => exact rfl); (case aB => exact bz); (case aF => exact (fun k_ hk => Kd.fresh' (Kd.R_lt (rz HO708)) k_ hk)); (case aO => exact (by (with_reducible repeat first | apply rA | apply rN | apply rD); exact Kd.R_mono HO_10.out (fun _ hk => hk.2))); (case aS => exact (below_size bz)); (case aL => have := LMc17.out; omega); intro v710 w19 ho hb hg hat; rw [← Ny709.out] at ho; replace HO708 := am (Kd.R_after (ok := (fun _ => True)) (by (with_reducible repeat first | apply rA | apply rN | apply rD); exact Kd.R_mono HO708.out (fun _ hk => ⟨trivial, hk⟩)) hg hat); replace HB := am (hb); have HO711 := am (ho); clear HO_10; clear ho hb hg hat))
       repeat (go_quiet (first | ((with_reducible refine gate_builtin (b := .append) (xs := #[.tmp 39, .tmp 48]) rfl ?_); at_builtin; refine Kd.R_append (Kd.int .i64) (w0 := w) w.heap.size rfl (.tmp 39) (.tmp 48) 23 3 (.int .i64 0) 8 rfl Try.underlying23 info3 rfl (by decide) (by omega) u9 x9_2 ji15 [.int .i64 ji15] (fun k_ => some k_ ≠ (u10 : Value).ownBlock) (fun _ => False) rfl rfl ?aP (fun _ hk => hk.elim) ?aF ?aO ?aB ?aS ?aL ?_; (case aP => exact rfl); (case aB => exact bz); (case aF => exact (fun k_ hk => Kd.fresh' (Kd.R_lt (rz HO_10)) k_ hk)); (case aO => exact (rz HO_9)); (case aS => exact (below_size bz)); (case aL => have := LMc16.out; omega); intro v707 w18 ho hb hg hat; rw [← Ny706.out] at ho; replace HO_10 := am (Kd.R_after (ok := (fun _ => True)) (by (with_reducible repeat first | apply rA | apply rN | apply rD); exact Kd.R_mono HO_10.out (fun _ hk => ⟨trivial, hk⟩)) hg hat); replace HB := am (hb); have HO708 := am (ho); clear HO_9; clear ho hb hg hat) | ((with_reducible refine gate_builtin (b := .append) (xs := #[.tmp 50, .tmp 51]) rfl ?_); at_builtin; refine Kd.R_append (Kd.int .i64) (w0 := w) w.heap.size rfl (.tmp 50) (.tmp 51) 23 3 (.int .i64 0) 8 rfl Try.underlying23 info3 rfl (by decide) (by omega) u10 x10_2 0 [.int .i64 0] (fun k_ => some k_ ≠ (v707 : Value).ownBlock) (fun _ => False) rfl rfl ?aP (fun _ hk => hk.elim) ?aF ?aO ?aB ?aS ?aL ?_; (case aP => exact rfl); (case aB => exact bz); (case aF => exact (fun k_ hk => Kd.fresh' (Kd.R_lt (rz HO708)) k_ hk)); (case aO => exact (by (with_reducible repeat first | apply rA | apply rN | apply rD); exact Kd.R_mono HO_10.out (fun _ hk => hk.2))); (case aS => exact (below_size bz)); (case aL => have := LMc17.out; omega); intro v710 w19 ho hb hg hat; rw [← Ny709.out] at ho; replace HO708 := am (Kd.R_after (ok := (fun _ => True)) (by (with_reducible repeat first | apply rA | apply rN | apply rD); exact Kd.R_mono HO708.out (fun _ hk => ⟨trivial, hk⟩)) hg hat); replace HB := am (hb); have HO711 := am (ho); clear HO_10; clear ho hb hg hat)); try go_wp2_with (first | ((with_reducible refine gate_builtin (b := .append) (xs := #[.tmp 39, .tmp 48]) rfl ?_); at_builtin; refine Kd.R_append (Kd.int .i64) (w0 := w) w.heap.size rfl (.tmp 39) (.tmp 48) 23 3 (.int .i64 0) 8 rfl Try.underlying23 info3 rfl (by decide) (by omega) u9 x9_2 ji15 [.int .i64 ji15] (fun k_ => some k_ ≠ (u10 : Value).ownBlock) (fun _ => False) rfl rfl ?aP (fun _ hk => hk.elim) ?aF ?aO ?aB ?aS ?aL ?_; (case aP => exact rfl); (case aB => exact bz); (case aF => exact (fun k_ hk => Kd.fresh' (Kd.R_lt (rz HO_10)) k_ hk)); (case aO => exact (rz HO_9)); (case aS => exact (below_size bz)); (case aL => have := LMc16.out; omega); intro v707 w18 ho hb hg hat; rw [← Ny706.out] at ho; replace HO_10 := am (Kd.R_after (ok := (fun _ => True)) (by (with_reducible repeat first | apply rA | apply rN | apply rD); exact Kd.R_mono HO_10.out (fun _ hk => ⟨trivial, hk⟩)) hg hat); replace HB := am (hb); have HO708 := am (ho); clear HO_9; clear ho hb hg hat) | ((with_reducible refine gate_builtin (b := .append) (xs := #[.tmp 50, .tmp 51]) rfl ?_); at_builtin; refine Kd.R_append (Kd.int .i64) (w0 := w) w.heap.size rfl (.tmp 50) (.tmp 51) 23 3 (.int .i64 0) 8 rfl Try.underlying23 info3 rfl (by decide) (by omega) u10 x10_2 0 [.int .i64 0] (fun k_ => some k_ ≠ (v707 : Value).ownBlock) (fun _ => False) rfl rfl ?aP (fun _ hk => hk.elim) ?aF ?aO ?aB ?aS ?aL ?_; (case aP => exact rfl); (case aB => exact bz); (case aF => exact (fun k_ hk => Kd.fresh' (Kd.R_lt (rz HO708)) k_ hk)); (case aO => exact (by (with_reducible repeat first | apply rA | apply rN | apply rD); exact Kd.R_mono HO_10.out (fun _ hk => hk.2))); (case aS => exact (below_size bz)); (case aL => have := LMc17.out; omega); intro v710 w19 ho hb hg hat; rw [← Ny709.out] at ho; replace HO708 := am (Kd.R_after (ok := (fun _ => True)) (by (with_reducible repeat first | apply rA | apply rN | apply rD); exact Kd.R_mono HO708.out (fun _ hk => ⟨trivial, hk⟩)) hg hat); replace HB := am (hb); have HO711 := am (ho); clear HO_10; clear ho hb hg hat)))
       go_roundg k2
       case measure => have := HJ4.out; have := HK2.out; omega
       case rel => exact ⟨(y706), (y709), (wrap64 (x11_2 + 1)), sz, H', ⟨by have := HJ4.out; have := HK2.out; omega⟩, ⟨by (with_reducible repeat first | apply rA | apply rN | apply rD); exact Kd.R_mono HO708.out (fun _ hk => hk.2)⟩, ⟨rz HO711⟩, ⟨bz⟩⟩
      ·
       rw [if_neg c13] at H
       have c13b0 := decide_eq_false c13
       clear c13
       replace H := Option.bind_eq_some_iff.mp H
       obtain ⟨⟨t712, t713⟩, A200, H⟩ := H
       replace H : ((collide_All.f k2 l0 x9_2 l2).bind fun bt716 => ((collide_First.f k2 l0 x10_2 l2).bind fun bt720 => (if t713 = 0 then (if bt716.2 = 0 then (if bt720.2.2.2 = 0 then (if (!(bt720.1 == (-1)) || (!(bt720.2.1 == 0) || (!(bt720.2.2.1 == 0)))) = true then (none) else (dancestudiolaw44_CollideLess.l1 k2 t712 bt716.1 0)) else (none)) else (none)) else (none)))) = some r := H
       have A20 := am A200
       clear A200
       replace H := Option.bind_eq_some_iff.mp H
       obtain ⟨⟨t716, t717⟩, A210, H⟩ := H
       replace H : ((collide_First.f k2 l0 x10_2 l2).bind fun bt720 => (if t713 = 0 then (if t717 = 0 then (if bt720.2.2.2 = 0 then (if (!(bt720.1 == (-1)) || (!(bt720.2.1 == 0) || (!(bt720.2.2.1 == 0)))) = true then (none) else (dancestudiolaw44_CollideLess.l1 k2 t712 t716 0)) else (none)) else (none)) else (none))) = some r := H
       have A21 := am A210
       clear A210
       replace H := Option.bind_eq_some_iff.mp H
       obtain ⟨⟨t720, t721, t722, t723⟩, A220, H⟩ := H
       replace H : (if t713 = 0 then (if t717 = 0 then (if t723 = 0 then (if (!(t720 == (-1)) || (!(t721 == 0) || (!(t722 == 0)))) = true then (none) else (dancestudiolaw44_CollideLess.l1 k2 t712 t716 0)) else (none)) else (none)) else (none)) = some r := H
       have A22 := am A220
       clear A220
       by_cases c23 : t713 = 0
       ·
        rw [if_pos c23] at H
        have c23b0 : (t713 == 0) = true := beq_iff_eq.mpr c23
        have c23b1 : (t713 != 0) = false := bne_eq_false_iff_eq.mpr c23
        clear c23
        by_cases c24 : t717 = 0; rotate_left
        · rw [if_neg c24] at H; exact absurd H (by simp)
        rw [if_pos c24] at H
        have c24b0 : (t717 == 0) = true := beq_iff_eq.mpr c24
        have c24b1 : (t717 != 0) = false := bne_eq_false_iff_eq.mpr c24
        clear c24
        by_cases c25 : t723 = 0; rotate_left
        · rw [if_neg c25] at H; exact absurd H (by simp)
        rw [if_pos c25] at H
        have c25b0 : (t723 == 0) = true := beq_iff_eq.mpr c25
        have c25b1 : (t723 != 0) = false := bne_eq_false_iff_eq.mpr c25
        clear c25
        by_cases c26 : (!(t720 == (-1)) || (!(t721 == 0) || (!(t722 == 0)))) = true
        · rw [if_pos c26] at H; exact absurd H (by simp)
        rw [if_neg c26] at H
        have c26b0 : (!(t720 == (-1)) || (!(t721 == 0) || (!(t722 == 0)))) = false := by simpa using c26
        clear c26
        have H' := am H
        clear H
        go_wp2_with (first | (go_at_call 16; (with_reducible refine (collide_All.calls k2 _ _ l0 _ _ l1 _ _ l2 t712 t713 _ ?side1 ?side2 ?side3 ?side4 ?side5 ?side6 A20.out).mono ?_); (case side1 => exact cz HR0); (case side2 => exact HC0.out); (case side3 => exact cz HR1); (case side4 => exact HC1.out); (case side5 => exact cz HR2); (case side6 => exact HC2.out); rintro e w27 ⟨v714, rfl, ho0, hb⟩; replace HO_9 := am (Kd.R_below (rz HO_9) hb); replace HO_10 := am (Kd.R_below (rz HO_10) hb); have HO715 := am (Kd.R_lower ho0 (below_size bz)); replace HB := am (below_step bz hb); (try clear hb); (try clear hb2); (try clear hk); (try clear hi); (try clear ho0); obtain ⟨Ao28, co28, eo28⟩ := Kd.R_slice HO_9.out; subst eo28) | (go_at_call 16; (with_reducible refine (collide_All.calls k2 _ _ l0 _ _ x9_2 _ _ l2 t716 t717 _ ?side1 ?side2 ?side3 ?side4 ?side5 ?side6 A21.out).mono ?_); (case side1 => exact cz HR0); (case side2 => exact HC0.out); (case side3 => repeat (first | exact (Kd.R_reads' HO_9.out).2.2 | (with_reducible first | apply cA | apply cN | apply cD))); (case side4 => exact (Kd.R_reads' HO_9.out).2.1); (case side5 => exact cz HR2); (case side6 => exact HC2.out); rintro e w29 ⟨v718, rfl, ho0, hb⟩; replace HO_9 := am (Kd.R_below (rz HO_9) hb); replace HO_10 := am (Kd.R_below (rz HO_10) hb); have HO719 := am (Kd.R_lower (Kd.R_new' ho0 (Kd.R_lt (rz HO715))) (below_size bz)); replace HO715 := am (Kd.R_elder' (rz HO715) (Kd.R_base ho0) hb); replace HB := am (below_step bz hb); (try clear hb); (try clear hb2); (try clear hk); (try clear hi); (try clear ho0); obtain ⟨Ao30, co30, eo30⟩ := Kd.R_slice HO_10.out; subst eo30) | (go_at_call 15; (with_reducible refine (collide_First.calls k2 _ _ l0 _ _ x10_2 _ _ l2 t720 t721 t722 t723 _ ?side1 ?side2 ?side3 ?side4 ?side5 ?side6 A22.out).mono ?_); (case side1 => exact cz HR0); (case side2 => exact HC0.out); (case side3 => repeat (first | exact (Kd.R_reads' HO_10.out).2.2 | (with_reducible first | apply cA | apply cN | apply cD))); (case side4 => exact (Kd.R_reads' HO_10.out).2.1); (case side5 => exact cz HR2); (case side6 => exact HC2.out); rintro e w31 ⟨rfl, hb⟩; replace HO_9 := am (Kd.R_below (rz HO_9) hb); replace HO_10 := am (Kd.R_below (rz HO_10) hb); replace HO715 := am (Kd.R_below (rz HO715) hb); replace HO719 := am (Kd.R_below (rz HO719) hb); replace HB := am (below_step bz hb); (try clear hb); (try clear hb2); (try clear hk); (try clear hi)) | ((with_reducible refine gate_dst (N := 16) rfl ?_); refine box_event yz (N := 16) yz (cs := #[.int .i64 0, .int .i64 0, .int .i64 0]) (t := 30) gz ?_; intro gb724 hg w32 hbox hb; replace HO_9 := am (Kd.R_below (rz HO_9) hb); replace HO_10 := am (Kd.R_below (rz HO_10) hb); replace HO715 := am (Kd.R_below (Kd.R_elderB (rz HO715) gb724 (Nat.le_of_eq hg.symm)) hb); replace HO719 := am (Kd.R_below (Kd.R_elderB (rz HO719) gb724 (Nat.le_of_eq hg.symm)) hb); have BK724 := am (hbox); have GW724 := gwz (g := gb724) HB hg; have GE724 := GW724; replace HB := am (below_step bz hb); clear hb hbox hg; obtain ⟨hcz33_0, hcz33_1, hcz33_2, hfz33_0, hfz33_1, hfz33_2⟩ := kc3 BK724.out))
        repeat (go_quiet (first | (go_at_call 16; (with_reducible refine (collide_All.calls k2 _ _ l0 _ _ l1 _ _ l2 t712 t713 _ ?side1 ?side2 ?side3 ?side4 ?side5 ?side6 A20.out).mono ?_); (case side1 => exact cz HR0); (case side2 => exact HC0.out); (case side3 => exact cz HR1); (case side4 => exact HC1.out); (case side5 => exact cz HR2); (case side6 => exact HC2.out); rintro e w27 ⟨v714, rfl, ho0, hb⟩; replace HO_9 := am (Kd.R_below (rz HO_9) hb); replace HO_10 := am (Kd.R_below (rz HO_10) hb); have HO715 := am (Kd.R_lower ho0 (below_size bz)); replace HB := am (below_step bz hb); (try clear hb); (try clear hb2); (try clear hk); (try clear hi); (try clear ho0); obtain ⟨Ao28, co28, eo28⟩ := Kd.R_slice HO_9.out; subst eo28) | (go_at_call 16; (with_reducible refine (collide_All.calls k2 _ _ l0 _ _ x9_2 _ _ l2 t716 t717 _ ?side1 ?side2 ?side3 ?side4 ?side5 ?side6 A21.out).mono ?_); (case side1 => exact cz HR0); (case side2 => exact HC0.out); (case side3 => repeat (first | exact (Kd.R_reads' HO_9.out).2.2 | (with_reducible first | apply cA | apply cN | apply cD))); (case side4 => exact (Kd.R_reads' HO_9.out).2.1); (case side5 => exact cz HR2); (case side6 => exact HC2.out); rintro e w29 ⟨v718, rfl, ho0, hb⟩; replace HO_9 := am (Kd.R_below (rz HO_9) hb); replace HO_10 := am (Kd.R_below (rz HO_10) hb); have HO719 := am (Kd.R_lower (Kd.R_new' ho0 (Kd.R_lt (rz HO715))) (below_size bz)); replace HO715 := am (Kd.R_elder' (rz HO715) (Kd.R_base ho0) hb); replace HB := am (below_step bz hb); (try clear hb); (try clear hb2); (try clear hk); (try clear hi); (try clear ho0); obtain ⟨Ao30, co30, eo30⟩ := Kd.R_slice HO_10.out; subst eo30) | (go_at_call 15; (with_reducible refine (collide_First.calls k2 _ _ l0 _ _ x10_2 _ _ l2 t720 t721 t722 t723 _ ?side1 ?side2 ?side3 ?side4 ?side5 ?side6 A22.out).mono ?_); (case side1 => exact cz HR0); (case side2 => exact HC0.out); (case side3 => repeat (first | exact (Kd.R_reads' HO_10.out).2.2 | (with_reducible first | apply cA | apply cN | apply cD))); (case side4 => exact (Kd.R_reads' HO_10.out).2.1); (case side5 => exact cz HR2); (case side6 => exact HC2.out); rintro e w31 ⟨rfl, hb⟩; replace HO_9 := am (Kd.R_below (rz HO_9) hb); replace HO_10 := am (Kd.R_below (rz HO_10) hb); replace HO715 := am (Kd.R_below (rz HO715) hb); replace HO719 := am (Kd.R_below (rz HO719) hb); replace HB := am (below_step bz hb); (try clear hb); (try clear hb2); (try clear hk); (try clear hi)) | ((with_reducible refine gate_dst (N := 16) rfl ?_); refine box_event yz (N := 16) yz (cs := #[.int .i64 0, .int .i64 0, .int .i64 0]) (t := 30) gz ?_; intro gb724 hg w32 hbox hb; replace HO_9 := am (Kd.R_below (rz HO_9) hb); replace HO_10 := am (Kd.R_below (rz HO_10) hb); replace HO715 := am (Kd.R_below (Kd.R_elderB (rz HO715) gb724 (Nat.le_of_eq hg.symm)) hb); replace HO719 := am (Kd.R_below (Kd.R_elderB (rz HO719) gb724 (Nat.le_of_eq hg.symm)) hb); have BK724 := am (hbox); have GW724 := gwz (g := gb724) HB hg; have GE724 := GW724; replace HB := am (below_step bz hb); clear hb hbox hg; obtain ⟨hcz33_0, hcz33_1, hcz33_2, hfz33_0, hfz33_1, hfz33_2⟩ := kc3 BK724.out)); try go_wp2_with (first | (go_at_call 16; (with_reducible refine (collide_All.calls k2 _ _ l0 _ _ l1 _ _ l2 t712 t713 _ ?side1 ?side2 ?side3 ?side4 ?side5 ?side6 A20.out).mono ?_); (case side1 => exact cz HR0); (case side2 => exact HC0.out); (case side3 => exact cz HR1); (case side4 => exact HC1.out); (case side5 => exact cz HR2); (case side6 => exact HC2.out); rintro e w27 ⟨v714, rfl, ho0, hb⟩; replace HO_9 := am (Kd.R_below (rz HO_9) hb); replace HO_10 := am (Kd.R_below (rz HO_10) hb); have HO715 := am (Kd.R_lower ho0 (below_size bz)); replace HB := am (below_step bz hb); (try clear hb); (try clear hb2); (try clear hk); (try clear hi); (try clear ho0); obtain ⟨Ao28, co28, eo28⟩ := Kd.R_slice HO_9.out; subst eo28) | (go_at_call 16; (with_reducible refine (collide_All.calls k2 _ _ l0 _ _ x9_2 _ _ l2 t716 t717 _ ?side1 ?side2 ?side3 ?side4 ?side5 ?side6 A21.out).mono ?_); (case side1 => exact cz HR0); (case side2 => exact HC0.out); (case side3 => repeat (first | exact (Kd.R_reads' HO_9.out).2.2 | (with_reducible first | apply cA | apply cN | apply cD))); (case side4 => exact (Kd.R_reads' HO_9.out).2.1); (case side5 => exact cz HR2); (case side6 => exact HC2.out); rintro e w29 ⟨v718, rfl, ho0, hb⟩; replace HO_9 := am (Kd.R_below (rz HO_9) hb); replace HO_10 := am (Kd.R_below (rz HO_10) hb); have HO719 := am (Kd.R_lower (Kd.R_new' ho0 (Kd.R_lt (rz HO715))) (below_size bz)); replace HO715 := am (Kd.R_elder' (rz HO715) (Kd.R_base ho0) hb); replace HB := am (below_step bz hb); (try clear hb); (try clear hb2); (try clear hk); (try clear hi); (try clear ho0); obtain ⟨Ao30, co30, eo30⟩ := Kd.R_slice HO_10.out; subst eo30) | (go_at_call 15; (with_reducible refine (collide_First.calls k2 _ _ l0 _ _ x10_2 _ _ l2 t720 t721 t722 t723 _ ?side1 ?side2 ?side3 ?side4 ?side5 ?side6 A22.out).mono ?_); (case side1 => exact cz HR0); (case side2 => exact HC0.out); (case side3 => repeat (first | exact (Kd.R_reads' HO_10.out).2.2 | (with_reducible first | apply cA | apply cN | apply cD))); (case side4 => exact (Kd.R_reads' HO_10.out).2.1); (case side5 => exact cz HR2); (case side6 => exact HC2.out); rintro e w31 ⟨rfl, hb⟩; replace HO_9 := am (Kd.R_below (rz HO_9) hb); replace HO_10 := am (Kd.R_below (rz HO_10) hb); replace HO715 := am (Kd.R_below (rz HO715) hb); replace HO719 := am (Kd.R_below (rz HO719) hb); replace HB := am (below_step bz hb); (try clear hb); (try clear hb2); (try clear hk); (try clear hi)) | ((with_reducible refine gate_dst (N := 16) rfl ?_); refine box_event yz (N := 16) yz (cs := #[.int .i64 0, .int .i64 0, .int .i64 0]) (t := 30) gz ?_; intro gb724 hg w32 hbox hb; replace HO_9 := am (Kd.R_below (rz HO_9) hb); replace HO_10 := am (Kd.R_below (rz HO_10) hb); replace HO715 := am (Kd.R_below (Kd.R_elderB (rz HO715) gb724 (Nat.le_of_eq hg.symm)) hb); replace HO719 := am (Kd.R_below (Kd.R_elderB (rz HO719) gb724 (Nat.le_of_eq hg.symm)) hb); have BK724 := am (hbox); have GW724 := gwz (g := gb724) HB hg; have GE724 := GW724; replace HB := am (below_step bz hb); clear hb hbox hg; obtain ⟨hcz33_0, hcz33_1, hcz33_2, hfz33_0, hfz33_1, hfz33_2⟩ := kc3 BK724.out)))
        go_loopg [18] k2 (fun kq v18 w' => ∃ (x18_3 : Int), v18 = .int .i64 x18_3 ∧ Aside0 (dancestudiolaw44_CollideLess.l1 kq t712 t716 x18_3 = some r) ∧ Aside0 (kq ≤ k2) ∧ Aside0 (Kd.R k30 30 w' w.heap.size (fun k_ => some k_ ≠ (v718 : Value).ownBlock ∧ k_ ≠ gb724) v714 t712) ∧ Aside0 (Kd.R k30 30 w' w.heap.size (fun k_ => some k_ ≠ (v714 : Value).ownBlock ∧ k_ ≠ gb724) v718 t716) ∧ Aside0 (w'.heap[gb724]? = some (.cells #[.int .i64 t720, .int .i64 t721, .int .i64 t722] 30 (0, 0))) ∧ Aside0 (Below w.heap.size w w'))
        case atStart => exact ⟨(0), sz, H', ⟨Nat.le_refl _⟩, ⟨by (with_reducible repeat first | apply rA | apply rN | apply rD); exact Kd.R_mono (Kd.R_far (p := ⟨gb724, 2, none⟩) (Kd.R_far (p := ⟨gb724, 1, none⟩) (Kd.R_far (p := ⟨gb724, 0, none⟩) (Kd.R_mono HO715.out (fun k_ hk => (⟨hk, hk.2⟩ : _ ∧ k_ ≠ gb724))) (fun _ hk => hk.2) (.int .i64 t720)) (fun _ hk => hk.2) (.int .i64 t721)) (fun _ hk => hk.2) (.int .i64 t722)) (fun _ hk => ⟨hk.1.1.2, hk.1.2⟩)⟩, ⟨by (with_reducible repeat first | apply rA | apply rN | apply rD); exact Kd.R_mono (Kd.R_far (p := ⟨gb724, 2, none⟩) (Kd.R_far (p := ⟨gb724, 1, none⟩) (Kd.R_far (p := ⟨gb724, 0, none⟩) (Kd.R_mono HO719.out (fun k_ hk => (⟨hk, hk.2⟩ : _ ∧ k_ ≠ gb724))) (fun _ hk => hk.2) (.int .i64 t720)) (fun _ hk => hk.2) (.int .i64 t721)) (fun _ hk => hk.2) (.int .i64 t722)) (fun _ hk => ⟨hk.1.1.2, hk.1.2⟩)⟩, ⟨by (with_reducible repeat first | apply kN | apply kD | apply kA); refine blk_put (cs := #[.int .i64 t720, .int .i64 t721, .int .i64 0]) ?_ 2 _ rfl; (with_reducible repeat first | apply kN | apply kD | apply kA); refine blk_put (cs := #[.int .i64 t720, .int .i64 0, .int .i64 0]) ?_ 1 _ rfl; (with_reducible repeat first | apply kN | apply kD | apply kA); refine blk_put (cs := #[.int .i64 0, .int .i64 0, .int .i64 0]) ?_ 0 _ rfl; (with_reducible repeat first | apply kN | apply kD | apply kA); exact BK724.out⟩, ⟨bz⟩⟩
        case round =>
         clear H'
         try clear c1
         try clear c2
         try clear p2
         try clear p6
         try clear c7
         try clear p7
         try clear q7
         try clear hx7
         try clear c8
         try clear c10
         try clear c13
         try clear c13b0
         try clear c14
         try clear c14b0
         try clear c16
         try clear c17
         try clear c23
         try clear c23b0
         try clear c23b1
         try clear c24
         try clear c24b0
         try clear c24b1
         try clear c25
         try clear c25b0
         try clear c25b1
         try clear c26
         try clear c26b0
         try clear hcz33_0
         try clear hcz33_1
         try clear hcz33_2
         try clear hfz33_0
         try clear hfz33_1
         try clear hfz33_2
         try clear hx705_0
         try clear p2
         try clear p705
         try clear q705
         obtain ⟨x18_3, rfl, HA, HK3, HO_12, HO_14, BK724, HB⟩ := hrel
         cases gk with
         | zero => exact absurd HA.out (by simp [dancestudiolaw44_CollideLess.l1])
         | succ k3 =>
          have H := HA.out
          clear HA
          simp only [dancestudiolaw44_CollideLess.l1] at H
          by_cases c34 : x18_3 < (t716.length : Int)
          ·
           rw [if_pos c34] at H
           have c34b0 := decide_eq_true c34
           clear c34
           have H' := am H
           clear H
           obtain ⟨Ao35, co35, eo35⟩ := Kd.R_slice HO_14.out
           subst eo35
           go_wp2
           repeat (go_quiet (fail); try go_wp2)
           go_loopg [19, 20] k3 (fun kq v19 v20 w' => ∃ (x19_4 : Bool) (x20_4 : Int), v19 = .bool x19_4 ∧ v20 = .int .i64 x20_4 ∧ Aside0 (dancestudiolaw44_CollideLess.l2 kq t712 t716 x18_3 x19_4 x20_4 = some r) ∧ Aside0 (kq ≤ k3) ∧ Aside0 (Kd.R k30 30 w' w.heap.size (fun k_ => some k_ ≠ ((.slice Ao35 t716.length co35) : Value).ownBlock ∧ k_ ≠ gb724) v714 t712) ∧ Aside0 (Kd.R k30 30 w' w.heap.size (fun k_ => some k_ ≠ (v714 : Value).ownBlock ∧ k_ ≠ gb724) (.slice Ao35 t716.length co35) t716) ∧ Aside0 (w'.heap[gb724]? = some (.cells #[.int .i64 t720, .int .i64 t721, .int .i64 t722] 30 (0, 0))) ∧ Aside0 (Below w.heap.size w w'))
           case atStart => exact ⟨(false), (0), sz, sz, H', ⟨Nat.le_refl _⟩, ⟨rz HO_12⟩, ⟨rz HO_14⟩, ⟨kz BK724⟩, ⟨bz⟩⟩
           case round =>
            clear H'
            try clear c1
            try clear c2
            try clear p2
            try clear c3
            try clear p6
            try clear c7
            try clear p7
            try clear q7
            try clear hx7
            try clear c8
            try clear c10
            try clear c13
            try clear c13b0
            try clear c14
            try clear c14b0
            try clear c16
            try clear c17
            try clear c23
            try clear c23b0
            try clear c23b1
            try clear c24
            try clear c24b0
            try clear c24b1
            try clear c25
            try clear c25b0
            try clear c25b1
            try clear c26
            try clear c26b0
            try clear c34
            try clear c34b0
            try clear hcz33_0
            try clear hcz33_1
            try clear hcz33_2
            try clear hfz33_0
            try clear hfz33_1
            try clear hfz33_2
            try clear hx705_0
            try clear p2
            try clear p6
            try clear p7
            try clear p705
            try clear q7
            try clear q705
            obtain ⟨x19_4, x20_4, rfl, rfl, HA, HK4, HO_12, HO_14, BK724, HB⟩ := hrel
            cases gk with
            | zero => exact absurd HA.out (by simp [dancestudiolaw44_CollideLess.l2])
            | succ k4 =>
             have H := HA.out
             clear HA
             simp only [dancestudiolaw44_CollideLess.l2] at H
             by_cases c36 : x20_4 < (t712.length : Int)
             ·
              rw [if_pos c36] at H
              have c36b0 := decide_eq_true c36
              clear c36
              by_cases c37 : x19_4 = true
              ·
               subst c37
               have H1 : (dancestudiolaw44_CollideLess.l2 k4 t712 t716 x18_3 true (wrap64 (x20_4 + 1))) = some r := by rw [if_pos rfl] at H; exact H
               clear H
               have H := H1
               clear H1
               have H' := am H
               clear H
               obtain ⟨Ao38, co38, eo38⟩ := Kd.R_slice HO_12.out
               subst eo38
               go_wp2
               repeat (go_quiet (fail); try go_wp2)
               go_roundg k4
               case measure => have := HJ4.out; have := HK2.out; have := HK3.out; have := HK4.out; omega
               case rel => exact ⟨(true), (wrap64 (x20_4 + 1)), sz, sz, H', ⟨by have := HJ4.out; have := HK2.out; have := HK3.out; have := HK4.out; omega⟩, ⟨rz HO_12⟩, ⟨rz HO_14⟩, ⟨kz BK724⟩, ⟨bz⟩⟩
              ·
               replace c37 := Bool.eq_false_iff.mpr c37
               subst c37
               have H1 : (if 0 ≤ x20_4 then (if 0 ≤ x18_3 then (if x18_3 < (t716.length : Int) then (if ((rd_T30 t712 x20_4).f1) = ((rd_T30 t716 x18_3).f1) then (if ((rd_T30 t712 x20_4).f2) = ((rd_T30 t716 x18_3).f2) then (dancestudiolaw44_CollideLess.l2 k4 t712 t716 x18_3 (decide (((rd_T30 t712 x20_4).f0) ≤ ((rd_T30 t716 x18_3).f0))) (wrap64 (x20_4 + 1))) else (dancestudiolaw44_CollideLess.l2 k4 t712 t716 x18_3 false (wrap64 (x20_4 + 1)))) else (dancestudiolaw44_CollideLess.l2 k4 t712 t716 x18_3 false (wrap64 (x20_4 + 1)))) else (none)) else (none)) else (none)) = some r := by rw [if_neg (show ¬ (false = true) by decide)] at H; exact H
               clear H
               have H := H1
               clear H1
               by_cases c39 : 0 ≤ x20_4; rotate_left
               · rw [if_neg c39] at H; exact absurd H (by simp)
               rw [if_pos c39] at H
               have c39b0 := decide_eq_true c39
               clear c39
               by_cases c40 : 0 ≤ x18_3; rotate_left
               · rw [if_neg c40] at H; exact absurd H (by simp)
               rw [if_pos c40] at H
               have c40b0 := decide_eq_true c40
               clear c40
               by_cases c41 : x18_3 < (t716.length : Int); rotate_left
               · rw [if_neg c41] at H; exact absurd H (by simp)
               rw [if_pos c41] at H
               have c41b0 := decide_eq_true c41
               clear c41
               by_cases c42 : ((rd_T30 t712 x20_4).f1) = ((rd_T30 t716 x18_3).f1)
               ·
                rw [if_pos c42] at H
                have c42b0 : (((rd_T30 t712 x20_4).f1) == ((rd_T30 t716 x18_3).f1)) = true := beq_iff_eq.mpr c42
                have c42b1 : (((rd_T30 t712 x20_4).f1) != ((rd_T30 t716 x18_3).f1)) = false := bne_eq_false_iff_eq.mpr c42
                clear c42
                by_cases c43 : ((rd_T30 t712 x20_4).f2) = ((rd_T30 t716 x18_3).f2)
                case' pos =>
                 rw [if_pos c43] at H
                 have c43b0 : (((rd_T30 t712 x20_4).f2) == ((rd_T30 t716 x18_3).f2)) = true := beq_iff_eq.mpr c43
                 have c43b1 : (((rd_T30 t712 x20_4).f2) != ((rd_T30 t716 x18_3).f2)) = false := bne_eq_false_iff_eq.mpr c43
                 clear c43
                 have tw1a : True := trivial
                case' neg =>
                 rw [if_neg c43] at H
                 have c43b0 : (((rd_T30 t712 x20_4).f2) == ((rd_T30 t716 x18_3).f2)) = false := beq_eq_false_iff_ne.mpr c43
                 have c43b1 : (((rd_T30 t712 x20_4).f2) != ((rd_T30 t716 x18_3).f2)) = true := bne_iff_ne.mpr c43
                 have tw1b : True := trivial
                all_goals
                 have H' := am H
                 clear H
                 obtain ⟨Ao44, co44, eo44⟩ := Kd.R_slice HO_12.out
                 subst eo44
                 have p726 : 0 ≤ (x20_4 : Int) := az
                 have q726 : x20_4 < (t712.length : Int) := az
                 obtain ⟨ad726, e726, hx726_0, hx726_1, hx726_2⟩ := at_T30 (Kd.R_reads' HO_12.out).2.2 x20_4 p726 q726
                 cases e726
                 replace p726 := eq_true p726
                 replace q726 := eq_true q726
                 have p727 : 0 ≤ (x18_3 : Int) := az
                 have q727 : x18_3 < (t716.length : Int) := az
                 obtain ⟨ad727, e727, hx727_0, hx727_1, hx727_2⟩ := at_T30 (Kd.R_reads' HO_14.out).2.2 x18_3 p727 q727
                 cases e727
                 replace p727 := eq_true p727
                 replace q727 := eq_true q727
                 have p728 : 0 ≤ (x20_4 : Int) := az
                 have q728 : x20_4 < (t712.length : Int) := az
                 obtain ⟨ad728, e728, hx728_0, hx728_1, hx728_2⟩ := at_T30 (Kd.R_reads' HO_12.out).2.2 x20_4 p728 q728
                 obtain rfl : ad726 = ad728 := (by injection e728)
                 replace p728 := eq_true p728
                 replace q728 := eq_true q728
                 have p729 : 0 ≤ (x18_3 : Int) := az
                 have q729 : x18_3 < (t716.length : Int) := az
                 obtain ⟨ad729, e729, hx729_0, hx729_1, hx729_2⟩ := at_T30 (Kd.R_reads' HO_14.out).2.2 x18_3 p729 q729
                 obtain rfl : ad727 = ad729 := (by injection e729)
                 replace p729 := eq_true p729
                 replace q729 := eq_true q729
                 first
                 | (have _ := tw1a
                    have p730 : 0 ≤ (x20_4 : Int) := az
                    have q730 : x20_4 < (t712.length : Int) := az
                    obtain ⟨ad730, e730, hx730_0, hx730_1, hx730_2⟩ := at_T30 (Kd.R_reads' HO_12.out).2.2 x20_4 p730 q730
                    obtain rfl : ad726 = ad730 := (by injection e730)
                    replace p730 := eq_true p730
                    replace q730 := eq_true q730
                    have p731 : 0 ≤ (x18_3 : Int) := az
                    have q731 : x18_3 < (t716.length : Int) := az
                    obtain ⟨ad731, e731, hx731_0, hx731_1, hx731_2⟩ := at_T30 (Kd.R_reads' HO_14.out).2.2 x18_3 p731 q731
                    obtain rfl : ad727 = ad731 := (by injection e731)
                    replace p731 := eq_true p731
                    replace q731 := eq_true q731
                    go_wp2
                    repeat (go_quiet (fail); try go_wp2)
                    go_roundg k4
                    case measure => have := HJ4.out; have := HK2.out; have := HK3.out; have := HK4.out; omega
                    case rel => exact ⟨(decide (((rd_T30 t712 x20_4).f0) ≤ ((rd_T30 t716 x18_3).f0))), (wrap64 (x20_4 + 1)), sz, sz, H', ⟨by have := HJ4.out; have := HK2.out; have := HK3.out; have := HK4.out; omega⟩, ⟨rz HO_12⟩, ⟨rz HO_14⟩, ⟨kz BK724⟩, ⟨bz⟩⟩)
                 | (have _ := tw1b
                    go_wp2
                    repeat (go_quiet (fail); try go_wp2)
                    go_roundg k4
                    case measure => have := HJ4.out; have := HK2.out; have := HK3.out; have := HK4.out; omega
                    case rel => exact ⟨(false), (wrap64 (x20_4 + 1)), sz, sz, H', ⟨by have := HJ4.out; have := HK2.out; have := HK3.out; have := HK4.out; omega⟩, ⟨rz HO_12⟩, ⟨rz HO_14⟩, ⟨kz BK724⟩, ⟨bz⟩⟩)
               ·
                rw [if_neg c42] at H
                have c42b0 : (((rd_T30 t712 x20_4).f1) == ((rd_T30 t716 x18_3).f1)) = false := beq_eq_false_iff_ne.mpr c42
                have c42b1 : (((rd_T30 t712 x20_4).f1) != ((rd_T30 t716 x18_3).f1)) = true := bne_iff_ne.mpr c42
                have H' := am H
                clear H
                obtain ⟨Ao46, co46, eo46⟩ := Kd.R_slice HO_12.out
                subst eo46
                have p726 : 0 ≤ (x20_4 : Int) := az
                have q726 : x20_4 < (t712.length : Int) := az
                obtain ⟨ad726, e726, hx726_0, hx726_1, hx726_2⟩ := at_T30 (Kd.R_reads' HO_12.out).2.2 x20_4 p726 q726
                cases e726
                replace p726 := eq_true p726
                replace q726 := eq_true q726
                have p727 : 0 ≤ (x18_3 : Int) := az
                have q727 : x18_3 < (t716.length : Int) := az
                obtain ⟨ad727, e727, hx727_0, hx727_1, hx727_2⟩ := at_T30 (Kd.R_reads' HO_14.out).2.2 x18_3 p727 q727
                cases e727
                replace p727 := eq_true p727
                replace q727 := eq_true q727
                go_wp2
                repeat (go_quiet (fail); try go_wp2)
                go_roundg k4
                case measure => have := HJ4.out; have := HK2.out; have := HK3.out; have := HK4.out; omega
                case rel => exact ⟨(false), (wrap64 (x20_4 + 1)), sz, sz, H', ⟨by have := HJ4.out; have := HK2.out; have := HK3.out; have := HK4.out; omega⟩, ⟨rz HO_12⟩, ⟨rz HO_14⟩, ⟨kz BK724⟩, ⟨bz⟩⟩
             ·
              rw [if_neg c36] at H
              have c36b0 := decide_eq_false c36
              clear c36
              by_cases c47 : x19_4 = true
              ·
               subst c47
               have H1 : (dancestudiolaw44_CollideLess.l1 k4 t712 t716 (wrap64 (x18_3 + 1))) = some r := by rw [if_pos rfl] at H; exact H
               clear H
               have H := H1
               clear H1
               have H' := am H
               clear H
               obtain ⟨Ao48, co48, eo48⟩ := Kd.R_slice HO_12.out
               subst eo48
               go_wp2
               repeat (go_quiet (fail); try go_wp2)
               go_roundg k4
               case measure => have := HJ4.out; have := HK2.out; have := HK3.out; have := HK4.out; omega
               case rel => exact ⟨(wrap64 (x18_3 + 1)), sz, H', ⟨by have := HJ4.out; have := HK2.out; have := HK3.out; have := HK4.out; omega⟩, ⟨rz HO_12⟩, ⟨rz HO_14⟩, ⟨kz BK724⟩, ⟨bz⟩⟩
              ·
               replace c47 := Bool.eq_false_iff.mpr c47
               subst c47
               have H1 : (none) = some r := by rw [if_neg (show ¬ (false = true) by decide)] at H; exact H
               clear H
               have H := H1
               clear H1
               exact absurd H (by simp)
          ·
           rw [if_neg c34] at H
           have c34b0 := decide_eq_false c34
           clear c34
           replace H := Option.bind_eq_some_iff.mp H
           obtain ⟨t725, A490, H⟩ := H
           replace H : (some t725) = some r := H
           have A49 := am A490
           clear A490
           obtain rfl := Option.some.inj H
           obtain ⟨Ao50, co50, eo50⟩ := Kd.R_slice HO_14.out
           subst eo50
           go_wp2_with (first | (go_at_call 12; (with_reducible refine (dancestudiolaw44_awake.calls k3  t725 _ A49.out).mono ?_); rintro e w51 ⟨rfl, hb⟩; replace HO_12 := am (Kd.R_below (rz HO_12) hb); replace HO_14 := am (Kd.R_below (rz HO_14) hb); replace BK724 := am (blk_below (o := .cells #[.int .i64 t720, .int .i64 t721, .int .i64 t722] 30 (0, 0)) (kz BK724) hb); replace HB := am (below_step bz hb); (try clear hb); (try clear hb2); (try clear hk); (try clear hi)))
           repeat (go_quiet (first | (go_at_call 12; (with_reducible refine (dancestudiolaw44_awake.calls k3  t725 _ A49.out).mono ?_); rintro e w51 ⟨rfl, hb⟩; replace HO_12 := am (Kd.R_below (rz HO_12) hb); replace HO_14 := am (Kd.R_below (rz HO_14) hb); replace BK724 := am (blk_below (o := .cells #[.int .i64 t720, .int .i64 t721, .int .i64 t722] 30 (0, 0)) (kz BK724) hb); replace HB := am (below_step bz hb); (try clear hb); (try clear hb2); (try clear hk); (try clear hi))); try go_wp2_with (first | (go_at_call 12; (with_reducible refine (dancestudiolaw44_awake.calls k3  t725 _ A49.out).mono ?_); rintro e w51 ⟨rfl, hb⟩; replace HO_12 := am (Kd.R_below (rz HO_12) hb); replace HO_14 := am (Kd.R_below (rz HO_14) hb); replace BK724 := am (blk_below (o := .cells #[.int .i64 t720, .int .i64 t721, .int .i64 t722] 30 (0, 0)) (kz BK724) hb); replace HB := am (below_step bz hb); (try clear hb); (try clear hb2); (try clear hk); (try clear hi))))
           go_ret
           exact ⟨ez, bz⟩
       ·
        rw [if_neg c23] at H
        exact absurd H (by simp)

end Go.Proofs.Yteflngoiebgdaaa.X
