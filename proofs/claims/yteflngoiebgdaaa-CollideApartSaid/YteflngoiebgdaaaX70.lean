import Derived.Test.YteflngoiebgdaaaX0
import Derived.Test.YteflngoiebgdaaaX2
import Derived.Test.YteflngoiebgdaaaX9
import Derived.Test.YteflngoiebgdaaaX28
import Derived.Test.YteflngoiebgdaaaX32
import Derived.Test.YteflngoiebgdaaaX34
namespace Go.Proofs.Yteflngoiebgdaaa.X
open Go.RowKit YteflngoiebgdaaaW.PrintWords YteflngoiebgdaaaW.PrintLast YteflngoiebgdaaaW.PrintMore
attribute [local go_sem] max2_int min2_int max_two min_two max_three min_three max_four min_four
set_option linter.unusedVariables false
set_option linter.unusedSimpArgs false

/-! ### dancestudiolaw44_CollideApart: function 9 -/
mutual
def dancestudiolaw44_CollideApart.j0 : Nat → List (S43) → List Int → Int → Bool → Option (Bool)
 | 0, _, _, _, _ => none
 | k + 1, x0, x1, x2, x32 => if x32 = true then ((dancestudiolaw44_awake.f k).bind fun t736 => (some t736)) else ((collide_First.f k x0 x1 ([] : List (S62))).bind fun bt737 => (if bt737.2.2.2 = 0 then (if 0 < (x0.length : Int) then (if bt737.1 = (-1) then (if x2 < 0 then (dancestudiolaw44_CollideApart.j1 k x0 x1 x2 (((rd_T43 x0 0).f1).length : Int) true) else (dancestudiolaw44_CollideApart.j1 k x0 x1 x2 (((rd_T43 x0 0).f1).length : Int) (decide (x2 > (((rd_T43 x0 0).f1).length : Int))))) else (dancestudiolaw44_CollideApart.j1 k x0 x1 x2 (((rd_T43 x0 0).f1).length : Int) true)) else (none)) else (none)))
def dancestudiolaw44_CollideApart.j1 : Nat → List (S43) → List Int → Int → Int → Bool → Option (Bool)
 | 0, _, _, _, _, _ => none
 | k + 1, x0, x1, x2, x9, x58 => if x58 = true then ((dancestudiolaw44_awake.f k).bind fun t745 => (some t745)) else ((collide_Room.f k x0 x1 ([] : List (S62)) x2).bind fun bt746 => (if bt746.2 = 0 then (dancestudiolaw44_CollideApart.l0 k x0 x1 x2 x9 bt746.1 false 0) else (none)))
def dancestudiolaw44_CollideApart.l0 : Nat → List (S43) → List Int → Int → Int → Int → Bool → Int → Option (Bool)
 | 0, _, _, _, _, _, _, _ => none
 | k + 1, x0, x1, x2, x9, x10, x12, x13 => if x13 < (x0.length : Int) then (dancestudiolaw44_CollideApart.l1 k x0 x1 x2 x9 x10 x12 x13 (wrap64 (x13 + 1))) else (if x12 = true then ((dancestudiolaw44_awake.f k).bind fun t748 => (some t748)) else (none))
def dancestudiolaw44_CollideApart.l1 : Nat → List (S43) → List Int → Int → Int → Int → Bool → Int → Int → Option (Bool)
 | 0, _, _, _, _, _, _, _, _ => none
 | k + 1, x0, x1, x2, x9, x10, x12, x13, x14 => if x14 < (x0.length : Int) then (if (x1.length : Int) = (x0.length : Int) then (if 0 ≤ x13 then (if x13 < (x0.length : Int) then (if (((rd_T43 x0 x13).f0).length : Int) = (wrap64 (x9 + 1)) then (if 0 ≤ x14 then (if (((rd_T43 x0 x14).f0).length : Int) = (wrap64 (x9 + 1)) then (if 0 ≤ x2 then (if x2 < (((rd_T43 x0 x13).f0).length : Int) then (if x2 < (((rd_T43 x0 x14).f0).length : Int) then (if x13 < (x1.length : Int) then (if x14 < (x1.length : Int) then (if (wrap64 ((wrap64 ((wrap64 (((rd_T54 ((rd_T43 x0 x13).f0) x2).f0.f0) - ((rd_T54 ((rd_T43 x0 x14).f0) x2).f0.f0))) * (wrap64 (((rd_T54 ((rd_T43 x0 x13).f0) x2).f0.f0) - ((rd_T54 ((rd_T43 x0 x14).f0) x2).f0.f0))))) + (wrap64 ((wrap64 (((rd_T54 ((rd_T43 x0 x13).f0) x2).f0.f1) - ((rd_T54 ((rd_T43 x0 x14).f0) x2).f0.f1))) * (wrap64 (((rd_T54 ((rd_T43 x0 x13).f0) x2).f0.f1) - ((rd_T54 ((rd_T43 x0 x14).f0) x2).f0.f1))))))) < (wrap64 ((wrap64 ((rd x1 x13) + (rd x1 x14))) * (wrap64 ((rd x1 x13) + (rd x1 x14))))) then (none) else (if (wrap64 ((wrap64 ((wrap64 (((rd_T54 ((rd_T43 x0 x13).f0) x2).f0.f0) - ((rd_T54 ((rd_T43 x0 x14).f0) x2).f0.f0))) * (wrap64 (((rd_T54 ((rd_T43 x0 x13).f0) x2).f0.f0) - ((rd_T54 ((rd_T43 x0 x14).f0) x2).f0.f0))))) + (wrap64 ((wrap64 (((rd_T54 ((rd_T43 x0 x13).f0) x2).f0.f1) - ((rd_T54 ((rd_T43 x0 x14).f0) x2).f0.f1))) * (wrap64 (((rd_T54 ((rd_T43 x0 x13).f0) x2).f0.f1) - ((rd_T54 ((rd_T43 x0 x14).f0) x2).f0.f1))))))) < x10 then (none) else (if x12 = true then (dancestudiolaw44_CollideApart.l1 k x0 x1 x2 x9 x10 true x13 (wrap64 (x14 + 1))) else (dancestudiolaw44_CollideApart.l1 k x0 x1 x2 x9 x10 ((wrap64 ((wrap64 ((wrap64 (((rd_T54 ((rd_T43 x0 x13).f0) x2).f0.f0) - ((rd_T54 ((rd_T43 x0 x14).f0) x2).f0.f0))) * (wrap64 (((rd_T54 ((rd_T43 x0 x13).f0) x2).f0.f0) - ((rd_T54 ((rd_T43 x0 x14).f0) x2).f0.f0))))) + (wrap64 ((wrap64 (((rd_T54 ((rd_T43 x0 x13).f0) x2).f0.f1) - ((rd_T54 ((rd_T43 x0 x14).f0) x2).f0.f1))) * (wrap64 (((rd_T54 ((rd_T43 x0 x13).f0) x2).f0.f1) - ((rd_T54 ((rd_T43 x0 x14).f0) x2).f0.f1))))))) == x10) x13 (wrap64 (x14 + 1)))))) else (none)) else (none)) else (none)) else (none)) else (none)) else (none)) else (none)) else (none)) else (none)) else (none)) else (none)) else (dancestudiolaw44_CollideApart.l0 k x0 x1 x2 x9 x10 x12 (wrap64 (x13 + 1)))
end
def dancestudiolaw44_CollideApart.f (k : Nat) (l0 : List (S43)) (l1 : List Int) (a2 : Int) : Option (Bool) := (dancestudioref44_Light.f k l0 ([] : List (S62))).bind fun t732 => (if t732 = true then ((collide_Check.f k l0 l1 ([] : List (S62))).bind fun t733 => (if t733 = 0 then (dancestudiolaw44_CollideApart.j0 k l0 l1 a2 (decide ((l0.length : Int) < 2))) else (dancestudiolaw44_CollideApart.j0 k l0 l1 a2 true))) else (dancestudiolaw44_CollideApart.j0 k l0 l1 a2 true))
theorem dancestudiolaw44_CollideApart.mono_l : ∀ k, (∀ y0 y1 y2 y3, LeO (dancestudiolaw44_CollideApart.j0 k y0 y1 y2 y3) (dancestudiolaw44_CollideApart.j0 (k + 1) y0 y1 y2 y3)) ∧ (∀ y0 y1 y2 y3 y4, LeO (dancestudiolaw44_CollideApart.j1 k y0 y1 y2 y3 y4) (dancestudiolaw44_CollideApart.j1 (k + 1) y0 y1 y2 y3 y4)) ∧ (∀ y0 y1 y2 y3 y4 y5 y6, LeO (dancestudiolaw44_CollideApart.l0 k y0 y1 y2 y3 y4 y5 y6) (dancestudiolaw44_CollideApart.l0 (k + 1) y0 y1 y2 y3 y4 y5 y6)) ∧ (∀ y0 y1 y2 y3 y4 y5 y6 y7, LeO (dancestudiolaw44_CollideApart.l1 k y0 y1 y2 y3 y4 y5 y6 y7) (dancestudiolaw44_CollideApart.l1 (k + 1) y0 y1 y2 y3 y4 y5 y6 y7))
 | 0 => ⟨fun _ _ _ _ r h => by simp [dancestudiolaw44_CollideApart.j0] at h, fun _ _ _ _ _ r h => by simp [dancestudiolaw44_CollideApart.j1] at h, fun _ _ _ _ _ _ _ r h => by simp [dancestudiolaw44_CollideApart.l0] at h, fun _ _ _ _ _ _ _ _ r h => by simp [dancestudiolaw44_CollideApart.l1] at h⟩
 | k + 1 => by
  obtain ⟨ih0, ih1, ih2, ih3⟩ := dancestudiolaw44_CollideApart.mono_l k
  refine ⟨?_, ?_, ?_, ?_⟩
  ·
   intro y0 y1 y2 y3
   unfold dancestudiolaw44_CollideApart.j0
   repeat' first
   | (with_reducible exact ih0 _ _ _ _)
   | (with_reducible exact ih1 _ _ _ _ _)
   | (with_reducible exact ih2 _ _ _ _ _ _ _)
   | (with_reducible exact ih3 _ _ _ _ _ _ _ _)
   | (with_reducible exact collide_Check.mono _ _ _ _)
   | (with_reducible exact collide_First.mono _ _ _ _)
   | (with_reducible exact collide_Room.mono _ _ _ _ _)
   | (with_reducible exact dancestudiolaw44_awake.mono _)
   | (with_reducible exact dancestudioref44_Light.mono _ _ _)
   | (with_reducible exact LeO.refl _)
   | (with_reducible exact LeO.none _)
   | (with_reducible refine LeO.ite ?_ ?_)
   | (with_reducible refine LeO.bind ?_ (fun _ => ?_))
   | exact ih0 _ _ _ _
   | exact ih1 _ _ _ _ _
   | exact ih2 _ _ _ _ _ _ _
   | exact ih3 _ _ _ _ _ _ _ _
   | exact collide_Check.mono _ _ _ _
   | exact collide_First.mono _ _ _ _
   | exact collide_Room.mono _ _ _ _ _
   | exact dancestudiolaw44_awake.mono _
   | exact dancestudioref44_Light.mono _ _ _
   | exact LeO.none _
   | refine LeO.ite ?_ ?_
   | refine LeO.bind ?_ (fun _ => ?_)
  ·
   intro y0 y1 y2 y3 y4
   unfold dancestudiolaw44_CollideApart.j1
   repeat' first
   | (with_reducible exact ih0 _ _ _ _)
   | (with_reducible exact ih1 _ _ _ _ _)
   | (with_reducible exact ih2 _ _ _ _ _ _ _)
   | (with_reducible exact ih3 _ _ _ _ _ _ _ _)
   | (with_reducible exact collide_Check.mono _ _ _ _)
   | (with_reducible exact collide_First.mono _ _ _ _)
   | (with_reducible exact collide_Room.mono _ _ _ _ _)
   | (with_reducible exact dancestudiolaw44_awake.mono _)
   | (with_reducible exact dancestudioref44_Light.mono _ _ _)
   | (with_reducible exact LeO.refl _)
   | (with_reducible exact LeO.none _)
   | (with_reducible refine LeO.ite ?_ ?_)
   | (with_reducible refine LeO.bind ?_ (fun _ => ?_))
   | exact ih0 _ _ _ _
   | exact ih1 _ _ _ _ _
   | exact ih2 _ _ _ _ _ _ _
   | exact ih3 _ _ _ _ _ _ _ _
   | exact collide_Check.mono _ _ _ _
   | exact collide_First.mono _ _ _ _
   | exact collide_Room.mono _ _ _ _ _
   | exact dancestudiolaw44_awake.mono _
   | exact dancestudioref44_Light.mono _ _ _
   | exact LeO.none _
   | refine LeO.ite ?_ ?_
   | refine LeO.bind ?_ (fun _ => ?_)
  ·
   intro y0 y1 y2 y3 y4 y5 y6
   unfold dancestudiolaw44_CollideApart.l0
   repeat' first
   | (with_reducible exact ih0 _ _ _ _)
   | (with_reducible exact ih1 _ _ _ _ _)
   | (with_reducible exact ih2 _ _ _ _ _ _ _)
   | (with_reducible exact ih3 _ _ _ _ _ _ _ _)
   | (with_reducible exact collide_Check.mono _ _ _ _)
   | (with_reducible exact collide_First.mono _ _ _ _)
   | (with_reducible exact collide_Room.mono _ _ _ _ _)
   | (with_reducible exact dancestudiolaw44_awake.mono _)
   | (with_reducible exact dancestudioref44_Light.mono _ _ _)
   | (with_reducible exact LeO.refl _)
   | (with_reducible exact LeO.none _)
   | (with_reducible refine LeO.ite ?_ ?_)
   | (with_reducible refine LeO.bind ?_ (fun _ => ?_))
   | exact ih0 _ _ _ _
   | exact ih1 _ _ _ _ _
   | exact ih2 _ _ _ _ _ _ _
   | exact ih3 _ _ _ _ _ _ _ _
   | exact collide_Check.mono _ _ _ _
   | exact collide_First.mono _ _ _ _
   | exact collide_Room.mono _ _ _ _ _
   | exact dancestudiolaw44_awake.mono _
   | exact dancestudioref44_Light.mono _ _ _
   | exact LeO.none _
   | refine LeO.ite ?_ ?_
   | refine LeO.bind ?_ (fun _ => ?_)
  ·
   intro y0 y1 y2 y3 y4 y5 y6 y7
   unfold dancestudiolaw44_CollideApart.l1
   repeat' first
   | (with_reducible exact ih0 _ _ _ _)
   | (with_reducible exact ih1 _ _ _ _ _)
   | (with_reducible exact ih2 _ _ _ _ _ _ _)
   | (with_reducible exact ih3 _ _ _ _ _ _ _ _)
   | (with_reducible exact collide_Check.mono _ _ _ _)
   | (with_reducible exact collide_First.mono _ _ _ _)
   | (with_reducible exact collide_Room.mono _ _ _ _ _)
   | (with_reducible exact dancestudiolaw44_awake.mono _)
   | (with_reducible exact dancestudioref44_Light.mono _ _ _)
   | (with_reducible exact LeO.refl _)
   | (with_reducible exact LeO.none _)
   | (with_reducible refine LeO.ite ?_ ?_)
   | (with_reducible refine LeO.bind ?_ (fun _ => ?_))
   | exact ih0 _ _ _ _
   | exact ih1 _ _ _ _ _
   | exact ih2 _ _ _ _ _ _ _
   | exact ih3 _ _ _ _ _ _ _ _
   | exact collide_Check.mono _ _ _ _
   | exact collide_First.mono _ _ _ _
   | exact collide_Room.mono _ _ _ _ _
   | exact dancestudiolaw44_awake.mono _
   | exact dancestudioref44_Light.mono _ _ _
   | exact LeO.none _
   | refine LeO.ite ?_ ?_
   | refine LeO.bind ?_ (fun _ => ?_)
theorem dancestudiolaw44_CollideApart.mono : ∀ a0 a1 a2 k, LeO (dancestudiolaw44_CollideApart.f k a0 a1 a2) (dancestudiolaw44_CollideApart.f (k + 1) a0 a1 a2) := by
 intro a0 a1 a2 k
 obtain ⟨ih0, ih1, ih2, ih3⟩ := dancestudiolaw44_CollideApart.mono_l k
 unfold dancestudiolaw44_CollideApart.f
 repeat' first
   | (with_reducible exact ih0 _ _ _ _)
   | (with_reducible exact ih1 _ _ _ _ _)
   | (with_reducible exact ih2 _ _ _ _ _ _ _)
   | (with_reducible exact ih3 _ _ _ _ _ _ _ _)
   | (with_reducible exact collide_Check.mono _ _ _ _)
   | (with_reducible exact collide_First.mono _ _ _ _)
   | (with_reducible exact collide_Room.mono _ _ _ _ _)
   | (with_reducible exact dancestudiolaw44_awake.mono _)
   | (with_reducible exact dancestudioref44_Light.mono _ _ _)
   | (with_reducible exact LeO.refl _)
   | (with_reducible exact LeO.none _)
   | (with_reducible refine LeO.ite ?_ ?_)
   | (with_reducible refine LeO.bind ?_ (fun _ => ?_))
   | exact ih0 _ _ _ _
   | exact ih1 _ _ _ _ _
   | exact ih2 _ _ _ _ _ _ _
   | exact ih3 _ _ _ _ _ _ _ _
   | exact collide_Check.mono _ _ _ _
   | exact collide_First.mono _ _ _ _
   | exact collide_Room.mono _ _ _ _ _
   | exact dancestudiolaw44_awake.mono _
   | exact dancestudioref44_Light.mono _ _ _
   | exact LeO.none _
   | refine LeO.ite ?_ ?_
   | refine LeO.bind ?_ (fun _ => ?_)
def dancestudiolaw44_CollideApart.T21 : Bool × List (List Nat × List Nat) := (true, [([], []), ([], []), ([0, 1], [0, 1]), ([2], [2]), ([3], [3]), ([], []), ([4, 5], [4, 5]), ([6], [6]), ([7], [7]), ([], []), ([], []), ([9, 10], [9, 10]), ([11], [11]), ([12], [12]), ([], []), ([13, 14], [13, 14]), ([15], [15]), ([16], [16]), ([], []), ([], []), ([18, 8, 0, 1, 2, 3, 4, 5, 6, 7, 8, 18, 19], [8, 18]), ([19, 17, 20, 0, 1, 2, 3, 4, 5, 6, 7, 8, 9, 10, 11, 12, 13, 14, 15, 16, 17, 18, 19, 20], [17, 19])])
def dancestudiolaw44_CollideApart.B21 : List Nat := [0, 0, 3, 7, 15, 0, 63, 127, 255, 0, 0, 1536, 3584, 7680, 0, 32256, 65024, 130560, 0, 0, 786943, 2097151]
theorem dancestudiolaw44_CollideApart.tab21 : rtab .any (opsOf Try.f9 21) = dancestudiolaw44_CollideApart.T21 := by kernel_rfl
theorem dancestudiolaw44_CollideApart.bits21 : waitsOk dancestudiolaw44_CollideApart.T21.2 dancestudiolaw44_CollideApart.B21 = true := by kernel_rfl
def dancestudiolaw44_CollideApart.T23 : Bool × List (List Nat × List Nat) := (true, [([], []), ([], []), ([0, 1], [0, 1]), ([2], [2]), ([], []), ([], []), ([4, 5], [4, 5]), ([6], [6]), ([3, 7], [3, 7]), ([8, 0, 1, 2, 3, 4, 5, 6, 7, 8], [8])])
def dancestudiolaw44_CollideApart.B23 : List Nat := [0, 0, 3, 7, 0, 0, 48, 112, 255, 511]
theorem dancestudiolaw44_CollideApart.tab23 : rtab .any (opsOf Try.f9 23) = dancestudiolaw44_CollideApart.T23 := by kernel_rfl
theorem dancestudiolaw44_CollideApart.bits23 : waitsOk dancestudiolaw44_CollideApart.T23.2 dancestudiolaw44_CollideApart.B23 = true := by kernel_rfl
set_option maxHeartbeats 8000000 in
set_option maxRecDepth 100000 in
theorem dancestudiolaw44_CollideApart.calls (k : Nat) (A0 : Option Addr) (c0 : Nat) (l0 : List (S43)) (A1 : Option Addr) (c1 : Nat) (l1 : List Int) (a2 : Int) (r : Bool) (w : World) (hr0 : Kd.C k43 w A0 l0.length l0) (hc0 : l0.length ≤ c0) (hr1 : Kd.C (Kd.int .i64) w A1 l1.length l1) (hc1 : l1.length ≤ c1) (h : dancestudiolaw44_CollideApart.f k l0 l1 a2 = some r) :
  Calls Try.prog 9 #[.slice A0 l0.length c0, .slice A1 l1.length c1, .int .i64 a2] w fun e w' => e = .returned (.bool r) ∧ Below w.heap.size w w' := by
 have hu30 := Try.underlying30
 have hu49 := Try.underlying49
 have HR0 := am hr0
 have HC0 := am hc0
 clear hr0 hc0
 have HR1 := am hr1
 have HC1 := am hc1
 clear hr1 hc1
 have HB := am (Below.refl w.heap.size w)
 have H : ((dancestudioref44_Light.f k l0 ([] : List (S62))).bind fun t732 => (if t732 = true then ((collide_Check.f k l0 l1 ([] : List (S62))).bind fun t733 => (if t733 = 0 then (dancestudiolaw44_CollideApart.j0 k l0 l1 a2 (decide ((l0.length : Int) < 2))) else (dancestudiolaw44_CollideApart.j0 k l0 l1 a2 true))) else (dancestudiolaw44_CollideApart.j0 k l0 l1 a2 true))) = some r := h
 clear h
 have HC4 := am H
 clear H
 go_enter Try.func9, Try.ntmps9
 go_upto_region 1 with (fail)
 go_cut [32] (fun v32 wc => ∃ (kq : Nat) (x32_3 : Bool), v32 = .bool x32_3 ∧ Aside0 (dancestudiolaw44_CollideApart.j0 kq l0 l1 a2 x32_3 = some r) ∧ Aside0 (kq ≤ k) ∧ Aside0 (Below w.heap.size w wc))
 case first =>
  have H := HC4.out
  clear HC4
  replace H := Option.bind_eq_some_iff.mp H
  obtain ⟨t732, A50, H⟩ := H
  replace H : (if t732 = true then ((collide_Check.f k l0 l1 ([] : List (S62))).bind fun t733 => (if t733 = 0 then (dancestudiolaw44_CollideApart.j0 k l0 l1 a2 (decide ((l0.length : Int) < 2))) else (dancestudiolaw44_CollideApart.j0 k l0 l1 a2 true))) else (dancestudiolaw44_CollideApart.j0 k l0 l1 a2 true)) = some r := H
  have A5 := am A50
  clear A50
  by_cases c6 : t732 = true
  ·
   subst c6
   have H1 : ((collide_Check.f k l0 l1 ([] : List (S62))).bind fun t733 => (if t733 = 0 then (dancestudiolaw44_CollideApart.j0 k l0 l1 a2 (decide ((l0.length : Int) < 2))) else (dancestudiolaw44_CollideApart.j0 k l0 l1 a2 true))) = some r := by rw [if_pos rfl] at H; exact H
   clear H
   have H := H1
   clear H1
   replace H := Option.bind_eq_some_iff.mp H
   obtain ⟨t733, A70, H⟩ := H
   replace H : (if t733 = 0 then (dancestudiolaw44_CollideApart.j0 k l0 l1 a2 (decide ((l0.length : Int) < 2))) else (dancestudiolaw44_CollideApart.j0 k l0 l1 a2 true)) = some r := H
   have A7 := am A70
   clear A70
   by_cases c8 : t733 = 0
   ·
    rw [if_pos c8] at H
    have c8b0 : (t733 == 0) = true := beq_iff_eq.mpr c8
    have c8b1 : (t733 != 0) = false := bne_eq_false_iff_eq.mpr c8
    clear c8
    (first | rw [c8b0] | (simp only [i64_w, i32_w]; rw [c8b0]) | skip)
    have H' := am H
    clear H
    go_wp2_with (first | ((with_reducible refine gate_callee (f := 11) rfl ?_); refine goesL_ (some 20) rfl rfl Try.func11 qz rfl #[.slice A0 l0.length c0, .slice none 0 0] rfl mz ?_; (refine (dancestudioref44_Light.calls k _ _ l0 _ _ ([] : List (S62)) true _ ?side1 ?side2 ?side3 ?side4 A5.out).mono ?_); (case side1 => exact cz HR0); (case side2 => exact HC0.out); (case side3 => exact Kd.C_nil _ _); (case side4 => exact Nat.le_refl _); rintro e w' ⟨rfl, ⟨nd, rfl⟩⟩; refine ⟨_, rfl, ?_⟩) | (go_at_call 14; refine calls_of_args (args' := #[.slice A0 l0.length c0, .slice A1 l1.length c1, .slice none 0 0]) (by first | with_reducible rfl | rfl) ?_; (refine (collide_Check.calls k _ _ l0 _ _ l1 _ _ ([] : List (S62)) t733 _ ?side1 ?side2 ?side3 ?side4 ?side5 ?side6 A7.out).mono ?_); (case side1 => repeat (first | exact (Kd.C_below HR0.out bz) | (with_reducible first | apply cA | apply cN | apply cD))); (case side2 => exact HC0.out); (case side3 => repeat (first | exact (Kd.C_below HR1.out bz) | (with_reducible first | apply cA | apply cN | apply cD))); (case side4 => exact HC1.out); (case side5 => exact Kd.C_nil _ _); (case side6 => exact Nat.le_refl _); rintro e w9 ⟨rfl, hb⟩; replace HB := am (below_step bz hb); (try clear hb); (try clear hb2); (try clear hk); (try clear hi)))
    go_meet
    case rel => exact ⟨_, (decide ((l0.length : Int) < 2)), sz, H', ⟨by first | omega | exact Nat.le_refl _⟩, ⟨bz⟩⟩
   ·
    rw [if_neg c8] at H
    have c8b0 : (t733 == 0) = false := beq_eq_false_iff_ne.mpr c8
    have c8b1 : (t733 != 0) = true := bne_iff_ne.mpr c8
    (first | rw [c8b0] | (simp only [i64_w, i32_w]; rw [c8b0]) | skip)
    have H' := am H
    clear H
    go_wp2_with (first | ((with_reducible refine gate_callee (f := 11) rfl ?_); refine goesL_ (some 20) rfl rfl Try.func11 qz rfl #[.slice A0 l0.length c0, .slice none 0 0] rfl mz ?_; (refine (dancestudioref44_Light.calls k _ _ l0 _ _ ([] : List (S62)) true _ ?side1 ?side2 ?side3 ?side4 A5.out).mono ?_); (case side1 => exact cz HR0); (case side2 => exact HC0.out); (case side3 => exact Kd.C_nil _ _); (case side4 => exact Nat.le_refl _); rintro e w' ⟨rfl, ⟨nd, rfl⟩⟩; refine ⟨_, rfl, ?_⟩) | (go_at_call 14; refine calls_of_args (args' := #[.slice A0 l0.length c0, .slice A1 l1.length c1, .slice none 0 0]) (by first | with_reducible rfl | rfl) ?_; (refine (collide_Check.calls k _ _ l0 _ _ l1 _ _ ([] : List (S62)) t733 _ ?side1 ?side2 ?side3 ?side4 ?side5 ?side6 A7.out).mono ?_); (case side1 => repeat (first | exact (Kd.C_below HR0.out bz) | (with_reducible first | apply cA | apply cN | apply cD))); (case side2 => exact HC0.out); (case side3 => repeat (first | exact (Kd.C_below HR1.out bz) | (with_reducible first | apply cA | apply cN | apply cD))); (case side4 => exact HC1.out); (case side5 => exact Kd.C_nil _ _); (case side6 => exact Nat.le_refl _); rintro e w10 ⟨rfl, hb⟩; replace HB := am (below_step bz hb); (try clear hb); (try clear hb2); (try clear hk); (try clear hi)))
    go_meet
    case rel => exact ⟨_, (true), sz, H', ⟨by first | omega | exact Nat.le_refl _⟩, ⟨bz⟩⟩
  ·
   replace c6 := Bool.eq_false_iff.mpr c6
   subst c6
   have H1 : (dancestudiolaw44_CollideApart.j0 k l0 l1 a2 true) = some r := by rw [if_neg (show ¬ (false = true) by decide)] at H; exact H
   clear H
   have H := H1
   clear H1
   have H' := am H
   clear H
   go_wp2_with (first | ((with_reducible refine gate_callee (f := 11) rfl ?_); refine goesL_ (some 20) rfl rfl Try.func11 qz rfl #[.slice A0 l0.length c0, .slice none 0 0] rfl mz ?_; (refine (dancestudioref44_Light.calls k _ _ l0 _ _ ([] : List (S62)) false _ ?side1 ?side2 ?side3 ?side4 A5.out).mono ?_); (case side1 => exact cz HR0); (case side2 => exact HC0.out); (case side3 => exact Kd.C_nil _ _); (case side4 => exact Nat.le_refl _); rintro e w' ⟨rfl, ⟨nd, rfl⟩⟩; refine ⟨_, rfl, ?_⟩))
   go_meet
   case rel => exact ⟨_, (true), sz, H', ⟨by first | omega | exact Nat.le_refl _⟩, ⟨bz⟩⟩
 case rest =>
  clear HC4
  try clear c1
  try clear p2
  try clear c6
  try clear c8
  try clear c8b0
  try clear c8b1
  try clear c9
  obtain ⟨kq, x32_3, rfl, HA, HJ3, HB⟩ := hcut
  cases kq with
  | zero => exact absurd HA.out (by simp [dancestudiolaw44_CollideApart.j0])
  | succ kj3 =>
   have H := HA.out
   clear HA
   simp only [dancestudiolaw44_CollideApart.j0] at H
   by_cases c11 : x32_3 = true
   ·
    subst c11
    have H1 : ((dancestudiolaw44_awake.f kj3).bind fun t736 => (some t736)) = some r := by rw [if_pos rfl] at H; exact H
    clear H
    have H := H1
    clear H1
    replace H := Option.bind_eq_some_iff.mp H
    obtain ⟨t736, A120, H⟩ := H
    replace H : (some t736) = some r := H
    have A12 := am A120
    clear A120
    obtain rfl := Option.some.inj H
    go_wp2_with (first | ((with_reducible refine gate_callee (f := 12) rfl ?_); refine goesL_ (some 33) rfl rfl Try.func12 qz rfl #[] rfl mz ?_; (with_reducible refine (dancestudiolaw44_awake.calls kj3  t736 _ A12.out).mono ?_); rintro e w13 ⟨rfl, hb⟩; refine ⟨_, rfl, ?_⟩; replace HB := am (below_step bz hb); (try clear hb); (try clear hb2); (try clear hk); (try clear hi)))
    go_ret
    exact ⟨ez, bz⟩
   ·
    replace c11 := Bool.eq_false_iff.mpr c11
    subst c11
    have H1 : ((collide_First.f kj3 l0 l1 ([] : List (S62))).bind fun bt737 => (if bt737.2.2.2 = 0 then (if 0 < (l0.length : Int) then (if bt737.1 = (-1) then (if a2 < 0 then (dancestudiolaw44_CollideApart.j1 kj3 l0 l1 a2 (((rd_T43 l0 0).f1).length : Int) true) else (dancestudiolaw44_CollideApart.j1 kj3 l0 l1 a2 (((rd_T43 l0 0).f1).length : Int) (decide (a2 > (((rd_T43 l0 0).f1).length : Int))))) else (dancestudiolaw44_CollideApart.j1 kj3 l0 l1 a2 (((rd_T43 l0 0).f1).length : Int) true)) else (none)) else (none))) = some r := by rw [if_neg (show ¬ (false = true) by decide)] at H; exact H
    clear H
    have H := H1
    clear H1
    replace H := Option.bind_eq_some_iff.mp H
    obtain ⟨⟨t737, t738, t739, t740⟩, A140, H⟩ := H
    replace H : (if t740 = 0 then (if 0 < (l0.length : Int) then (if t737 = (-1) then (if a2 < 0 then (dancestudiolaw44_CollideApart.j1 kj3 l0 l1 a2 (((rd_T43 l0 0).f1).length : Int) true) else (dancestudiolaw44_CollideApart.j1 kj3 l0 l1 a2 (((rd_T43 l0 0).f1).length : Int) (decide (a2 > (((rd_T43 l0 0).f1).length : Int))))) else (dancestudiolaw44_CollideApart.j1 kj3 l0 l1 a2 (((rd_T43 l0 0).f1).length : Int) true)) else (none)) else (none)) = some r := H
    have A14 := am A140
    clear A140
    by_cases c15 : t740 = 0
    ·
     rw [if_pos c15] at H
     have c15b0 : (t740 == 0) = true := beq_iff_eq.mpr c15
     have c15b1 : (t740 != 0) = false := bne_eq_false_iff_eq.mpr c15
     clear c15
     by_cases c16 : 0 < (l0.length : Int); rotate_left
     · rw [if_neg c16] at H; exact absurd H (by simp)
     rw [if_pos c16] at H
     have c16b0 := decide_eq_true c16
     have c16b1 : decide (0 < l0.length) = true := decide_eq_true (by omega)
     clear c16
     have HC17 := am H
     clear H
     go_upto_region 7 with (first | ((with_reducible refine gate_callee (f := 15) rfl ?_); refine goesL_ (some 37) rfl rfl Try.func15 qz rfl #[.slice A0 l0.length c0, .slice A1 l1.length c1, .slice none 0 0] rfl mz ?_; (refine (collide_First.calls kj3 _ _ l0 _ _ l1 _ _ ([] : List (S62)) t737 t738 t739 t740 _ ?side1 ?side2 ?side3 ?side4 ?side5 ?side6 A14.out).mono ?_); (case side1 => exact cz HR0); (case side2 => exact HC0.out); (case side3 => exact cz HR1); (case side4 => exact HC1.out); (case side5 => exact Kd.C_nil _ _); (case side6 => exact Nat.le_refl _); rintro e w18 ⟨rfl, hb⟩; refine ⟨_, rfl, ?_⟩; replace HB := am (below_step bz hb); (try clear hb); (try clear hb2); (try clear hk); (try clear hi)) | ((with_reducible refine gate_dst (N := 7) rfl ?_); refine box_event yz (N := 7) yz (cs := #[.int .i64 0, .int .i64 0, .int .i64 0]) (t := 30) gz ?_; intro gb741 hg w19 hbox hb; have BK741 := am (hbox); have GW741 := gwz (g := gb741) HB hg; have GE741 := GW741; replace HB := am (below_step bz hb); clear hb hbox hg; obtain ⟨hcz20_0, hcz20_1, hcz20_2, hfz20_0, hfz20_1, hfz20_2⟩ := kc3 BK741.out; have p742 : 0 ≤ (0 : Int) := (by omega); have q742 : 0 < (l0.length : Int) := az; obtain ⟨ad742, A742_0, c742_0, A742_1, c742_1, e742, hx742_0, hx742_1, hl742_0, hi742_0, hl742_1, hi742_1⟩ := at_T43 HR0.out 0 p742 q742; cases e742; have qi742 : (0 < l0.length) = True := eq_true (by omega); (try rw [show ((0 : Int)).toNat = 0 from rfl] at hx742_0); (try rw [show 0 * 2 = 0 from rfl] at hx742_0); (try rw [Addr.add_zero'] at hx742_0); (try rw [show ((0 : Int)).toNat = 0 from rfl] at hx742_1); (try rw [show 0 * 2 = 0 from rfl] at hx742_1); (try rw [Addr.add_zero'] at hx742_1); have hn742_0 : ad742.block ≠ gb741 := Nat.ne_of_lt (Nat.lt_of_lt_of_le (by have := World.block_lt_of_cell? _ _ hx742_0; first | rwa [add_block] at this | exact this) GW741.out); have hn742_1 : ad742.block ≠ gb741 := Nat.ne_of_lt (Nat.lt_of_lt_of_le (by have := World.block_lt_of_cell? _ _ hx742_0; first | rwa [add_block] at this | exact this) GW741.out); have hn742_2 : ad742.block ≠ gb741 := Nat.ne_of_lt (Nat.lt_of_lt_of_le (by have := World.block_lt_of_cell? _ _ hx742_0; first | rwa [add_block] at this | exact this) GW741.out); replace hx742_0 := cb HB.out hx742_0; replace hx742_1 := cb HB.out hx742_1; have HR742_0 := am hi742_0; have HC742_0 := am hl742_0; clear hi742_0 hl742_0; have HR742_1 := am hi742_1; have HC742_1 := am hl742_1; clear hi742_1 hl742_1; replace hx742_0 := (cell_far (p := ⟨gb741, 0, none⟩) (by first | (rw [add_block]; exact hn742_0) | (show (Addr.add _ _).block ≠ _; rw [add_block]; exact hn742_0) | exact hn742_0) (.int .i64 t737)).trans hx742_0; replace hx742_1 := (cell_far (p := ⟨gb741, 0, none⟩) (by first | (rw [add_block]; exact hn742_0) | (show (Addr.add _ _).block ≠ _; rw [add_block]; exact hn742_0) | exact hn742_0) (.int .i64 t737)).trans hx742_1; replace hx742_0 := (cell_far (p := ⟨gb741, 1, none⟩) (by first | (rw [add_block]; exact hn742_1) | (show (Addr.add _ _).block ≠ _; rw [add_block]; exact hn742_1) | exact hn742_1) (.int .i64 t738)).trans hx742_0; replace hx742_1 := (cell_far (p := ⟨gb741, 1, none⟩) (by first | (rw [add_block]; exact hn742_1) | (show (Addr.add _ _).block ≠ _; rw [add_block]; exact hn742_1) | exact hn742_1) (.int .i64 t738)).trans hx742_1; replace hx742_0 := (cell_far (p := ⟨gb741, 2, none⟩) (by first | (rw [add_block]; exact hn742_2) | (show (Addr.add _ _).block ≠ _; rw [add_block]; exact hn742_2) | exact hn742_2) (.int .i64 t739)).trans hx742_0; replace hx742_1 := (cell_far (p := ⟨gb741, 2, none⟩) (by first | (rw [add_block]; exact hn742_2) | (show (Addr.add _ _).block ≠ _; rw [add_block]; exact hn742_2) | exact hn742_2) (.int .i64 t739)).trans hx742_1; clear hn742_0; clear hn742_1; clear hn742_2; replace p742 := eq_true p742; replace q742 := eq_true q742))
     (try simp only [Act.put, List.setIfInBounds_toArray, List.set_cons_zero, List.set_cons_succ])
     go_cut [58] (fun v58 wc => ∃ (kq : Nat) (x58_16 : Bool), v58 = .bool x58_16 ∧ Aside0 (dancestudiolaw44_CollideApart.j1 kq l0 l1 a2 (((rd_T43 l0 0).f1).length : Int) x58_16 = some r) ∧ Aside0 (kq ≤ kj3) ∧ Aside0 (wc.heap[gb741]? = some (.cells #[.int .i64 t737, .int .i64 t738, .int .i64 t739] 30 (0, 0))) ∧ Aside0 (Below w.heap.size w wc))
     case first =>
      have H := HC17.out
      clear HC17
      by_cases c21 : t737 = (-1)
      ·
       rw [if_pos c21] at H
       have c21b0 : (t737 == (-1)) = true := beq_iff_eq.mpr c21
       have c21b1 : (t737 != (-1)) = false := bne_eq_false_iff_eq.mpr c21
       clear c21
       (first | rw [c21b0] | (simp only [i64_w, i32_w]; rw [c21b0]) | skip)
       by_cases c22 : a2 < 0
       ·
        rw [if_pos c22] at H
        have c22b0 := decide_eq_true c22
        clear c22
        have H' := am H
        clear H
        obtain ⟨hcz23_0, hcz23_1, hcz23_2, hfz23_0, hfz23_1, hfz23_2⟩ := kc3 BK741.out
        go_wp2
        go_meet
        case rel => exact ⟨_, (true), sz, H', ⟨by have := HJ3.out; first | omega | exact Nat.le_refl _⟩, ⟨by (with_reducible repeat first | apply kN | apply kD | apply kA); refine blk_put (cs := #[.int .i64 t737, .int .i64 t738, .int .i64 0]) ?_ 2 _ rfl; (with_reducible repeat first | apply kN | apply kD | apply kA); refine blk_put (cs := #[.int .i64 t737, .int .i64 0, .int .i64 0]) ?_ 1 _ rfl; (with_reducible repeat first | apply kN | apply kD | apply kA); refine blk_put (cs := #[.int .i64 0, .int .i64 0, .int .i64 0]) ?_ 0 _ rfl; (with_reducible repeat first | apply kN | apply kD | apply kA); exact BK741.out⟩, ⟨bz⟩⟩
       ·
        rw [if_neg c22] at H
        have c22b0 := decide_eq_false c22
        clear c22
        have H' := am H
        clear H
        obtain ⟨hcz24_0, hcz24_1, hcz24_2, hfz24_0, hfz24_1, hfz24_2⟩ := kc3 BK741.out
        go_wp2
        go_meet
        case rel => exact ⟨_, (decide (a2 > (((rd_T43 l0 0).f1).length : Int))), sz, H', ⟨by have := HJ3.out; first | omega | exact Nat.le_refl _⟩, ⟨by (with_reducible repeat first | apply kN | apply kD | apply kA); refine blk_put (cs := #[.int .i64 t737, .int .i64 t738, .int .i64 0]) ?_ 2 _ rfl; (with_reducible repeat first | apply kN | apply kD | apply kA); refine blk_put (cs := #[.int .i64 t737, .int .i64 0, .int .i64 0]) ?_ 1 _ rfl; (with_reducible repeat first | apply kN | apply kD | apply kA); refine blk_put (cs := #[.int .i64 0, .int .i64 0, .int .i64 0]) ?_ 0 _ rfl; (with_reducible repeat first | apply kN | apply kD | apply kA); exact BK741.out⟩, ⟨bz⟩⟩
      ·
       rw [if_neg c21] at H
       have c21b0 : (t737 == (-1)) = false := beq_eq_false_iff_ne.mpr c21
       have c21b1 : (t737 != (-1)) = true := bne_iff_ne.mpr c21
       (first | rw [c21b0] | (simp only [i64_w, i32_w]; rw [c21b0]) | skip)
       have H' := am H
       clear H
       obtain ⟨hcz25_0, hcz25_1, hcz25_2, hfz25_0, hfz25_1, hfz25_2⟩ := kc3 BK741.out
       go_wp2
       go_meet
       case rel => exact ⟨_, (true), sz, H', ⟨by have := HJ3.out; first | omega | exact Nat.le_refl _⟩, ⟨by (with_reducible repeat first | apply kN | apply kD | apply kA); refine blk_put (cs := #[.int .i64 t737, .int .i64 t738, .int .i64 0]) ?_ 2 _ rfl; (with_reducible repeat first | apply kN | apply kD | apply kA); refine blk_put (cs := #[.int .i64 t737, .int .i64 0, .int .i64 0]) ?_ 1 _ rfl; (with_reducible repeat first | apply kN | apply kD | apply kA); refine blk_put (cs := #[.int .i64 0, .int .i64 0, .int .i64 0]) ?_ 0 _ rfl; (with_reducible repeat first | apply kN | apply kD | apply kA); exact BK741.out⟩, ⟨bz⟩⟩
     case rest =>
      clear HC17
      try clear c1
      try clear c2
      try clear p2
      try clear c6
      try clear c7
      try clear p7
      try clear q7
      try clear hx7
      try clear qi7
      try clear c8
      try clear c8b0
      try clear c8b1
      try clear c9
      try clear c11
      try clear c12
      try clear c15
      try clear c15b0
      try clear c15b1
      try clear c16
      try clear c16b0
      try clear c16b1
      try clear c21
      try clear c21b0
      try clear c21b1
      try clear c22
      try clear c22b0
      try clear hcz20_0
      try clear hcz20_1
      try clear hcz20_2
      try clear hcz23_0
      try clear hcz23_1
      try clear hcz23_2
      try clear hcz24_0
      try clear hcz24_1
      try clear hcz24_2
      try clear hcz25_0
      try clear hcz25_1
      try clear hcz25_2
      try clear hfz20_0
      try clear hfz20_1
      try clear hfz20_2
      try clear hfz23_0
      try clear hfz23_1
      try clear hfz23_2
      try clear hfz24_0
      try clear hfz24_1
      try clear hfz24_2
      try clear hfz25_0
      try clear hfz25_1
      try clear hfz25_2
      try clear hx742_0
      try clear hx742_1
      try clear p2
      try clear p742
      try clear q742
      obtain ⟨kq, x58_16, rfl, HA, HJ16, BK741, HB⟩ := hcut
      cases kq with
      | zero => exact absurd HA.out (by simp [dancestudiolaw44_CollideApart.j1])
      | succ kj16 =>
       have H := HA.out
       clear HA
       simp only [dancestudiolaw44_CollideApart.j1] at H
       by_cases c26 : x58_16 = true
       ·
        subst c26
        have H1 : ((dancestudiolaw44_awake.f kj16).bind fun t745 => (some t745)) = some r := by rw [if_pos rfl] at H; exact H
        clear H
        have H := H1
        clear H1
        replace H := Option.bind_eq_some_iff.mp H
        obtain ⟨t745, A270, H⟩ := H
        replace H : (some t745) = some r := H
        have A27 := am A270
        clear A270
        obtain rfl := Option.some.inj H
        go_wp2_with (first | ((with_reducible refine gate_callee (f := 12) rfl ?_); refine goesL_ (some 59) rfl rfl Try.func12 qz rfl #[] rfl mz ?_; (with_reducible refine (dancestudiolaw44_awake.calls kj16  t745 _ A27.out).mono ?_); rintro e w28 ⟨rfl, hb⟩; refine ⟨_, rfl, ?_⟩; replace BK741 := am (blk_below (o := .cells #[.int .i64 t737, .int .i64 t738, .int .i64 t739] 30 (0, 0)) (kz BK741) hb); replace HB := am (below_step bz hb); (try clear hb); (try clear hb2); (try clear hk); (try clear hi)))
        go_ret
        exact ⟨ez, bz⟩
       ·
        replace c26 := Bool.eq_false_iff.mpr c26
        subst c26
        have H1 : ((collide_Room.f kj16 l0 l1 ([] : List (S62)) a2).bind fun bt746 => (if bt746.2 = 0 then (dancestudiolaw44_CollideApart.l0 kj16 l0 l1 a2 (((rd_T43 l0 0).f1).length : Int) bt746.1 false 0) else (none))) = some r := by rw [if_neg (show ¬ (false = true) by decide)] at H; exact H
        clear H
        have H := H1
        clear H1
        replace H := Option.bind_eq_some_iff.mp H
        obtain ⟨⟨t746, t747⟩, A290, H⟩ := H
        replace H : (if t747 = 0 then (dancestudiolaw44_CollideApart.l0 kj16 l0 l1 a2 (((rd_T43 l0 0).f1).length : Int) t746 false 0) else (none)) = some r := H
        have A29 := am A290
        clear A290
        by_cases c30 : t747 = 0; rotate_left
        · rw [if_neg c30] at H; exact absurd H (by simp)
        rw [if_pos c30] at H
        have c30b0 : (t747 == 0) = true := beq_iff_eq.mpr c30
        have c30b1 : (t747 != 0) = false := bne_eq_false_iff_eq.mpr c30
        clear c30
        have H' := am H
        clear H
        go_wp2_with (first | ((with_reducible refine gate_callee (f := 17) rfl ?_); refine goesL_ (some 64) rfl rfl Try.func17 qz rfl #[.slice (some ad742) l0.length c0, .slice A1 l1.length c1, .slice none 0 0, .int .i64 a2] rfl mz ?_; (refine (collide_Room.calls kj16 _ _ l0 _ _ l1 _ _ ([] : List (S62)) a2 t746 t747 _ ?side1 ?side2 ?side3 ?side4 ?side5 ?side6 A29.out).mono ?_); (case side1 => exact cz HR0); (case side2 => exact HC0.out); (case side3 => exact cz HR1); (case side4 => exact HC1.out); (case side5 => exact Kd.C_nil _ _); (case side6 => exact Nat.le_refl _); rintro e w31 ⟨rfl, hb⟩; refine ⟨_, rfl, ?_⟩; replace BK741 := am (blk_below (o := .cells #[.int .i64 t737, .int .i64 t738, .int .i64 t739] 30 (0, 0)) (kz BK741) hb); replace HB := am (below_step bz hb); (try clear hb); (try clear hb2); (try clear hk); (try clear hi)))
        go_loopg [12, 13] kj16 (fun kq v12 v13 w' => ∃ (x12_3 : Bool) (x13_3 : Int), v12 = .bool x12_3 ∧ v13 = .int .i64 x13_3 ∧ Aside0 (dancestudiolaw44_CollideApart.l0 kq l0 l1 a2 (((rd_T43 l0 0).f1).length : Int) t746 x12_3 x13_3 = some r) ∧ Aside0 (kq ≤ kj16) ∧ Aside0 (w'.heap[gb741]? = some (.cells #[.int .i64 t737, .int .i64 t738, .int .i64 t739] 30 (0, 0))) ∧ Aside0 (Below w.heap.size w w'))
        case atStart => exact ⟨(false), (0), sz, sz, H', ⟨Nat.le_refl _⟩, ⟨kz BK741⟩, ⟨bz⟩⟩
        case round =>
         clear H'
         try clear c1
         try clear c2
         try clear p2
         try clear c3
         try clear c6
         try clear c7
         try clear p7
         try clear q7
         try clear hx7
         try clear qi7
         try clear c8
         try clear c8b0
         try clear c8b1
         try clear c9
         try clear c11
         try clear c12
         try clear c15
         try clear c15b0
         try clear c15b1
         try clear c16
         try clear c16b0
         try clear c16b1
         try clear c17
         try clear c21
         try clear c21b0
         try clear c21b1
         try clear c22
         try clear c22b0
         try clear c26
         try clear c30
         try clear c30b0
         try clear c30b1
         try clear hcz20_0
         try clear hcz20_1
         try clear hcz20_2
         try clear hcz23_0
         try clear hcz23_1
         try clear hcz23_2
         try clear hcz24_0
         try clear hcz24_1
         try clear hcz24_2
         try clear hcz25_0
         try clear hcz25_1
         try clear hcz25_2
         try clear hfz20_0
         try clear hfz20_1
         try clear hfz20_2
         try clear hfz23_0
         try clear hfz23_1
         try clear hfz23_2
         try clear hfz24_0
         try clear hfz24_1
         try clear hfz24_2
         try clear hfz25_0
         try clear hfz25_1
         try clear hfz25_2
         try clear hx742_0
         try clear hx742_1
         try clear p2
         try clear p7
         try clear p742
         try clear q7
         try clear q742
         obtain ⟨x12_3, x13_3, rfl, rfl, HA, HK3, BK741, HB⟩ := hrel
         cases gk with
         | zero => exact absurd HA.out (by simp [dancestudiolaw44_CollideApart.l0])
         | succ k3 =>
          have H := HA.out
          clear HA
          simp only [dancestudiolaw44_CollideApart.l0] at H
          by_cases c32 : x13_3 < (l0.length : Int)
          ·
           rw [if_pos c32] at H
           have c32b0 := decide_eq_true c32
           clear c32
           have H' := am H
           clear H
           go_wp2
           go_loopg [12, 14] k3 (fun kq v12 v14 w' => ∃ (x12_4 : Bool) (x14_4 : Int), v12 = .bool x12_4 ∧ v14 = .int .i64 x14_4 ∧ Aside0 (dancestudiolaw44_CollideApart.l1 kq l0 l1 a2 (((rd_T43 l0 0).f1).length : Int) t746 x12_4 x13_3 x14_4 = some r) ∧ Aside0 (kq ≤ k3) ∧ Aside0 (w'.heap[gb741]? = some (.cells #[.int .i64 t737, .int .i64 t738, .int .i64 t739] 30 (0, 0))) ∧ Aside0 (Below w.heap.size w w'))
           case atStart => exact ⟨(x12_3), (wrap64 (x13_3 + 1)), sz, sz, H', ⟨Nat.le_refl _⟩, ⟨kz BK741⟩, ⟨bz⟩⟩
           case round =>
            clear H'
            try clear c1
            try clear c2
            try clear p2
            try clear c3
            try clear c6
            try clear p6
            try clear c7
            try clear p7
            try clear q7
            try clear hx7
            try clear qi7
            try clear c8
            try clear c8b0
            try clear c8b1
            try clear c9
            try clear c11
            try clear c12
            try clear c15
            try clear c15b0
            try clear c15b1
            try clear c16
            try clear c16b0
            try clear c16b1
            try clear c17
            try clear c21
            try clear c21b0
            try clear c21b1
            try clear c22
            try clear c22b0
            try clear c26
            try clear c30
            try clear c30b0
            try clear c30b1
            try clear c32
            try clear c32b0
            try clear hcz20_0
            try clear hcz20_1
            try clear hcz20_2
            try clear hcz23_0
            try clear hcz23_1
            try clear hcz23_2
            try clear hcz24_0
            try clear hcz24_1
            try clear hcz24_2
            try clear hcz25_0
            try clear hcz25_1
            try clear hcz25_2
            try clear hfz20_0
            try clear hfz20_1
            try clear hfz20_2
            try clear hfz23_0
            try clear hfz23_1
            try clear hfz23_2
            try clear hfz24_0
            try clear hfz24_1
            try clear hfz24_2
            try clear hfz25_0
            try clear hfz25_1
            try clear hfz25_2
            try clear hx742_0
            try clear hx742_1
            try clear p2
            try clear p7
            try clear p742
            try clear q7
            try clear q742
            obtain ⟨x12_4, x14_4, rfl, rfl, HA, HK4, BK741, HB⟩ := hrel
            cases gk with
            | zero => exact absurd HA.out (by simp [dancestudiolaw44_CollideApart.l1])
            | succ k4 =>
             have H := HA.out
             clear HA
             simp only [dancestudiolaw44_CollideApart.l1] at H
             by_cases c33 : x14_4 < (l0.length : Int)
             ·
              rw [if_pos c33] at H
              have c33b0 := decide_eq_true c33
              clear c33
              by_cases c34 : (l1.length : Int) = (l0.length : Int); rotate_left
              · rw [if_neg c34] at H; exact absurd H (by simp)
              rw [if_pos c34] at H
              have c34b0 : ((l1.length : Int) == (l0.length : Int)) = true := beq_iff_eq.mpr c34
              have c34b1 : ((l1.length : Int) != (l0.length : Int)) = false := bne_eq_false_iff_eq.mpr c34
              have c34b2 : (l1.length == l0.length) = true := by first | simpa using c34 | (simp at c34 ⊢; omega)
              clear c34
              by_cases c35 : 0 ≤ x13_3; rotate_left
              · rw [if_neg c35] at H; exact absurd H (by simp)
              rw [if_pos c35] at H
              have c35b0 := decide_eq_true c35
              clear c35
              by_cases c36 : x13_3 < (l0.length : Int); rotate_left
              · rw [if_neg c36] at H; exact absurd H (by simp)
              rw [if_pos c36] at H
              have c36b0 := decide_eq_true c36
              clear c36
              by_cases c37 : (((rd_T43 l0 x13_3).f0).length : Int) = (wrap64 ((((rd_T43 l0 0).f1).length : Int) + 1)); rotate_left
              · rw [if_neg c37] at H; exact absurd H (by simp)
              rw [if_pos c37] at H
              have c37b0 : ((((rd_T43 l0 x13_3).f0).length : Int) == (wrap64 ((((rd_T43 l0 0).f1).length : Int) + 1))) = true := beq_iff_eq.mpr c37
              have c37b1 : ((((rd_T43 l0 x13_3).f0).length : Int) != (wrap64 ((((rd_T43 l0 0).f1).length : Int) + 1))) = false := bne_eq_false_iff_eq.mpr c37
              clear c37
              by_cases c38 : 0 ≤ x14_4; rotate_left
              · rw [if_neg c38] at H; exact absurd H (by simp)
              rw [if_pos c38] at H
              have c38b0 := decide_eq_true c38
              clear c38
              by_cases c39 : (((rd_T43 l0 x14_4).f0).length : Int) = (wrap64 ((((rd_T43 l0 0).f1).length : Int) + 1)); rotate_left
              · rw [if_neg c39] at H; exact absurd H (by simp)
              rw [if_pos c39] at H
              have c39b0 : ((((rd_T43 l0 x14_4).f0).length : Int) == (wrap64 ((((rd_T43 l0 0).f1).length : Int) + 1))) = true := beq_iff_eq.mpr c39
              have c39b1 : ((((rd_T43 l0 x14_4).f0).length : Int) != (wrap64 ((((rd_T43 l0 0).f1).length : Int) + 1))) = false := bne_eq_false_iff_eq.mpr c39
              clear c39
              by_cases c40 : 0 ≤ a2; rotate_left
              · rw [if_neg c40] at H; exact absurd H (by simp)
              rw [if_pos c40] at H
              have c40b0 := decide_eq_true c40
              clear c40
              by_cases c41 : a2 < (((rd_T43 l0 x13_3).f0).length : Int); rotate_left
              · rw [if_neg c41] at H; exact absurd H (by simp)
              rw [if_pos c41] at H
              have c41b0 := decide_eq_true c41
              clear c41
              by_cases c42 : a2 < (((rd_T43 l0 x14_4).f0).length : Int); rotate_left
              · rw [if_neg c42] at H; exact absurd H (by simp)
              rw [if_pos c42] at H
              have c42b0 := decide_eq_true c42
              clear c42
              by_cases c43 : x13_3 < (l1.length : Int); rotate_left
              · rw [if_neg c43] at H; exact absurd H (by simp)
              rw [if_pos c43] at H
              have c43b0 := decide_eq_true c43
              clear c43
              by_cases c44 : x14_4 < (l1.length : Int); rotate_left
              · rw [if_neg c44] at H; exact absurd H (by simp)
              rw [if_pos c44] at H
              have c44b0 := decide_eq_true c44
              clear c44
              by_cases c45 : (wrap64 ((wrap64 ((wrap64 (((rd_T54 ((rd_T43 l0 x13_3).f0) a2).f0.f0) - ((rd_T54 ((rd_T43 l0 x14_4).f0) a2).f0.f0))) * (wrap64 (((rd_T54 ((rd_T43 l0 x13_3).f0) a2).f0.f0) - ((rd_T54 ((rd_T43 l0 x14_4).f0) a2).f0.f0))))) + (wrap64 ((wrap64 (((rd_T54 ((rd_T43 l0 x13_3).f0) a2).f0.f1) - ((rd_T54 ((rd_T43 l0 x14_4).f0) a2).f0.f1))) * (wrap64 (((rd_T54 ((rd_T43 l0 x13_3).f0) a2).f0.f1) - ((rd_T54 ((rd_T43 l0 x14_4).f0) a2).f0.f1))))))) < (wrap64 ((wrap64 ((rd l1 x13_3) + (rd l1 x14_4))) * (wrap64 ((rd l1 x13_3) + (rd l1 x14_4)))))
              · rw [if_pos c45] at H; exact absurd H (by simp)
              rw [if_neg c45] at H
              have c45b0 := decide_eq_false c45
              clear c45
              by_cases c46 : (wrap64 ((wrap64 ((wrap64 (((rd_T54 ((rd_T43 l0 x13_3).f0) a2).f0.f0) - ((rd_T54 ((rd_T43 l0 x14_4).f0) a2).f0.f0))) * (wrap64 (((rd_T54 ((rd_T43 l0 x13_3).f0) a2).f0.f0) - ((rd_T54 ((rd_T43 l0 x14_4).f0) a2).f0.f0))))) + (wrap64 ((wrap64 (((rd_T54 ((rd_T43 l0 x13_3).f0) a2).f0.f1) - ((rd_T54 ((rd_T43 l0 x14_4).f0) a2).f0.f1))) * (wrap64 (((rd_T54 ((rd_T43 l0 x13_3).f0) a2).f0.f1) - ((rd_T54 ((rd_T43 l0 x14_4).f0) a2).f0.f1))))))) < t746
              · rw [if_pos c46] at H; exact absurd H (by simp)
              rw [if_neg c46] at H
              have c46b0 := decide_eq_false c46
              clear c46
              by_cases c47 : x12_4 = true
              case' pos =>
               subst c47
               have H1 : (dancestudiolaw44_CollideApart.l1 k4 l0 l1 a2 (((rd_T43 l0 0).f1).length : Int) t746 true x13_3 (wrap64 (x14_4 + 1))) = some r := by rw [if_pos rfl] at H; exact H
               have tw1a : True := trivial
              case' neg =>
               replace c47 := Bool.eq_false_iff.mpr c47
               subst c47
               have H1 : (dancestudiolaw44_CollideApart.l1 k4 l0 l1 a2 (((rd_T43 l0 0).f1).length : Int) t746 ((wrap64 ((wrap64 ((wrap64 (((rd_T54 ((rd_T43 l0 x13_3).f0) a2).f0.f0) - ((rd_T54 ((rd_T43 l0 x14_4).f0) a2).f0.f0))) * (wrap64 (((rd_T54 ((rd_T43 l0 x13_3).f0) a2).f0.f0) - ((rd_T54 ((rd_T43 l0 x14_4).f0) a2).f0.f0))))) + (wrap64 ((wrap64 (((rd_T54 ((rd_T43 l0 x13_3).f0) a2).f0.f1) - ((rd_T54 ((rd_T43 l0 x14_4).f0) a2).f0.f1))) * (wrap64 (((rd_T54 ((rd_T43 l0 x13_3).f0) a2).f0.f1) - ((rd_T54 ((rd_T43 l0 x14_4).f0) a2).f0.f1))))))) == t746) x13_3 (wrap64 (x14_4 + 1))) = some r := by rw [if_neg (show ¬ (false = true) by decide)] at H; exact H
               have tw1b : True := trivial
              all_goals
               clear H
               have H := H1
               clear H1
               have H' := am H
               clear H
               have p749 : 0 ≤ (x13_3 : Int) := az
               have q749 : x13_3 < (l0.length : Int) := az
               obtain ⟨ad749, A749_0, c749_0, A749_1, c749_1, e749, hx749_0, hx749_1, hl749_0, hi749_0, hl749_1, hi749_1⟩ := at_T43 HR0.out x13_3 p749 q749
               obtain rfl : ad742 = ad749 := (by injection e749)
               replace hx749_0 := cb HB.out hx749_0
               replace hx749_1 := cb HB.out hx749_1
               have HR749_0 := am hi749_0
               have HC749_0 := am hl749_0
               clear hi749_0 hl749_0
               have HR749_1 := am hi749_1
               have HC749_1 := am hl749_1
               clear hi749_1 hl749_1
               replace p749 := eq_true p749
               replace q749 := eq_true q749
               have p750 : 0 ≤ (x14_4 : Int) := az
               have q750 : x14_4 < (l0.length : Int) := az
               obtain ⟨ad750, A750_0, c750_0, A750_1, c750_1, e750, hx750_0, hx750_1, hl750_0, hi750_0, hl750_1, hi750_1⟩ := at_T43 HR0.out x14_4 p750 q750
               obtain rfl : ad742 = ad750 := (by injection e750)
               replace hx750_0 := cb HB.out hx750_0
               replace hx750_1 := cb HB.out hx750_1
               have HR750_0 := am hi750_0
               have HC750_0 := am hl750_0
               clear hi750_0 hl750_0
               have HR750_1 := am hi750_1
               have HC750_1 := am hl750_1
               clear hi750_1 hl750_1
               replace p750 := eq_true p750
               replace q750 := eq_true q750
               try go_wp2
               have n0_ := am (blk_drew BK741.out)
               have n1_ := am (below_drew1 HB.out)
               clear BK741
               clear HB
               have BK741 := n0_
               have HB := n1_
               clear n0_ n1_
               have p751 : 0 ≤ (x13_3 : Int) := az
               have q751 : x13_3 < (l0.length : Int) := az
               obtain ⟨ad751, A751_0, c751_0, A751_1, c751_1, e751, hx751_0, hx751_1, hl751_0, hi751_0, hl751_1, hi751_1⟩ := at_T43 HR0.out x13_3 p751 q751
               have hw751_1 := hx751_1
               have hw751_0 := hx751_0
               obtain rfl : ad742 = ad751 := (by injection e751)
               replace hx751_0 := cb HB.out hx751_0
               replace hx751_1 := cb HB.out hx751_1
               have HR751_0 := am hi751_0
               have HC751_0 := am hl751_0
               clear hi751_0 hl751_0
               have HR751_1 := am hi751_1
               have HC751_1 := am hl751_1
               clear hi751_1 hl751_1
               replace p751 := eq_true p751
               replace q751 := eq_true q751
               have p752 : 0 ≤ (a2 : Int) := az
               have q752 : a2 < (((rd_T43 l0 x13_3).f0).length : Int) := az
               obtain ⟨ad752, e752, hx752_0, hx752_1, _, _, _, _, _, _, _, _, _, _, _, _, _, _, _, _, _, _, _, _⟩ := at_T54 HR751_0.out a2 p752 q752
               have hw752_1 := hx752_1
               have hw752_0 := hx752_0
               cases e752
               replace hx752_0 := cb HB.out hx752_0
               replace hx752_1 := cb HB.out hx752_1
               replace p752 := eq_true p752
               replace q752 := eq_true q752
               have p753 : 0 ≤ (x14_4 : Int) := az
               have q753 : x14_4 < (l0.length : Int) := az
               obtain ⟨ad753, A753_0, c753_0, A753_1, c753_1, e753, hx753_0, hx753_1, hl753_0, hi753_0, hl753_1, hi753_1⟩ := at_T43 HR0.out x14_4 p753 q753
               have hw753_1 := hx753_1
               have hw753_0 := hx753_0
               obtain rfl : ad742 = ad753 := (by injection e753)
               replace hx753_0 := cb HB.out hx753_0
               replace hx753_1 := cb HB.out hx753_1
               have HR753_0 := am hi753_0
               have HC753_0 := am hl753_0
               clear hi753_0 hl753_0
               have HR753_1 := am hi753_1
               have HC753_1 := am hl753_1
               clear hi753_1 hl753_1
               replace p753 := eq_true p753
               replace q753 := eq_true q753
               have p754 : 0 ≤ (a2 : Int) := az
               have q754 : a2 < (((rd_T43 l0 x14_4).f0).length : Int) := az
               obtain ⟨ad754, e754, hx754_0, hx754_1, _, _, _, _, _, _, _, _, _, _, _, _, _, _, _, _, _, _, _, _⟩ := at_T54 HR753_0.out a2 p754 q754
               have hw754_1 := hx754_1
               have hw754_0 := hx754_0
               cases e754
               replace hx754_0 := cb HB.out hx754_0
               replace hx754_1 := cb HB.out hx754_1
               replace p754 := eq_true p754
               replace q754 := eq_true q754
               refine start_ (n := 22) (S := fun w' => w'.cell? (ad742.add ((x13_3).toNat * 2)) = some (.slice (some ad752) ((rd_T43 l0 x13_3).f0).length c751_0) ∧ w'.cell? ⟨(ad742.add ((x13_3).toNat * 2)).block, (ad742.add ((x13_3).toNat * 2)).off + 1, none⟩ = some (.slice A751_1 ((rd_T43 l0 x13_3).f1).length c751_1) ∧ w'.cell? (ad752.add ((a2).toNat * 22)) = some (.int .i64 ((rd_T54 ((rd_T43 l0 x13_3).f0) a2).f0.f0)) ∧ w'.cell? ⟨(ad752.add ((a2).toNat * 22)).block, (ad752.add ((a2).toNat * 22)).off + 1, none⟩ = some (.int .i64 ((rd_T54 ((rd_T43 l0 x13_3).f0) a2).f0.f1)) ∧ w'.cell? (ad742.add ((x14_4).toNat * 2)) = some (.slice (some ad754) ((rd_T43 l0 x14_4).f0).length c753_0) ∧ w'.cell? ⟨(ad742.add ((x14_4).toNat * 2)).block, (ad742.add ((x14_4).toNat * 2)).off + 1, none⟩ = some (.slice A753_1 ((rd_T43 l0 x14_4).f1).length c753_1) ∧ w'.cell? (ad754.add ((a2).toNat * 22)) = some (.int .i64 ((rd_T54 ((rd_T43 l0 x14_4).f0) a2).f0.f0)) ∧ w'.cell? ⟨(ad754.add ((a2).toNat * 22)).block, (ad754.add ((a2).toNat * 22)).off + 1, none⟩ = some (.int .i64 ((rd_T54 ((rd_T43 l0 x14_4).f0) a2).f0.f1))) (ds := []) (bm 22 0) qz rfl rfl ⟨(cb HB.out hw751_0), (cb HB.out hw751_1), (cb HB.out hw752_0), (cb HB.out hw752_1), (cb HB.out hw753_0), (cb HB.out hw753_1), (cb HB.out hw754_0), (cb HB.out hw754_1)⟩ (fun hHeld => ?_); refine with_tabW dancestudiolaw44_CollideApart.tab21 dancestudiolaw44_CollideApart.bits21 (fun HT_ HW_ => ?_)
               generalize wr.drew = w48 at BK741 HB HR751_0 HR751_1 HR753_0 HR753_1 hx751_0 hx751_1 hx752_0 hx752_1 hx753_0 hx753_1 hx754_0 hx754_1 hHeld ⊢
               refine pa (i := 0) (N := some 110) (bm 22 1) HT_ ?_
               refine pa (i := 1) (N := some 111) (bm 22 3) HT_ ?_
               refine pa (i := 2) (N := some 112) (bm 22 7) HT_ ?_
               refine pa (i := 3) (N := some 113) (bm 22 15) HT_ ?_
               refine pa (i := 5) (N := some 115) (bm 22 47) HT_ ?_
               refine pa (i := 9) (N := some 119) (bm 22 559) HT_ ?_
               refine pa (i := 10) (N := some 120) (bm 22 1583) HT_ ?_
               refine pa (i := 11) (N := some 121) (bm 22 3631) HT_ ?_
               refine pa (i := 12) (N := some 122) (bm 22 7727) HT_ ?_
               refine pa (i := 14) (N := some 124) (bm 22 24111) HT_ ?_
               refine take_ (i := 4) (N := some 114) (v := ?_) (a' := ?_) (bm 22 24127) rfl rfl (take_ofW HT_.out HW_.out qz) iz (Or.inl ⟨by rfl, ?_⟩) hHeld ?_ ?_
               rotate_left
               ·
                rintro w' ⟨s0, s1, s2, s3, s4, s5, s6, s7⟩
                go_simp
                with_reducible rfl
               rotate_left
               ·
                simp only [Act.put, aS, lZ, lS, i64_w, i32_w]
                rfl
               refine pa (i := 6) (N := some 116) (bm 22 24191) HT_ ?_
               refine pa (i := 7) (N := some 117) (bm 22 24319) HT_ ?_
               refine take_ (i := 8) (N := some 118) (v := ?_) (a' := ?_) (bm 22 24575) rfl rfl (take_ofW HT_.out HW_.out qz) iz (Or.inl ⟨by rfl, ?_⟩) hHeld ?_ ?_
               rotate_left
               ·
                rintro w' ⟨s0, s1, s2, s3, s4, s5, s6, s7⟩
                go_simp
                with_reducible rfl
               rotate_left
               ·
                simp only [Act.put, aS, lZ, lS, i64_w, i32_w]
                rfl
               refine take_ (i := 13) (N := some 123) (v := ?_) (a' := ?_) (bm 22 32767) rfl rfl (take_ofW HT_.out HW_.out qz) iz (Or.inl ⟨by rfl, ?_⟩) hHeld ?_ ?_
               rotate_left
               ·
                rintro w' ⟨s0, s1, s2, s3, s4, s5, s6, s7⟩
                go_simp
                with_reducible rfl
               rotate_left
               ·
                simp only [Act.put, aS, lZ, lS, i64_w, i32_w]
                rfl
               refine pa (i := 15) (N := some 125) (bm 22 65535) HT_ ?_
               refine pa (i := 16) (N := some 126) (bm 22 131071) HT_ ?_
               refine take_ (i := 17) (N := some 127) (v := ?_) (a' := ?_) (bm 22 262143) rfl rfl (take_ofW HT_.out HW_.out qz) iz (Or.inl ⟨by rfl, ?_⟩) hHeld ?_ ?_
               rotate_left
               ·
                rintro w' ⟨s0, s1, s2, s3, s4, s5, s6, s7⟩
                go_simp
                with_reducible rfl
               rotate_left
               ·
                simp only [Act.put, aS, lZ, lS, i64_w, i32_w]
                rfl
               refine join_ (σ := Nat × Nat) 2 (bm 22 1048575) (fun s_ => [(15, .pointer (some ⟨s_.1, 0, none⟩)), (16, .pointer (some ⟨s_.2, 0, none⟩))]) (fun s_ w' => (w'.cell? (ad742.add ((x13_3).toNat * 2)) = some (.slice (some ad752) ((rd_T43 l0 x13_3).f0).length c751_0) ∧ w'.cell? ⟨(ad742.add ((x13_3).toNat * 2)).block, (ad742.add ((x13_3).toNat * 2)).off + 1, none⟩ = some (.slice A751_1 ((rd_T43 l0 x13_3).f1).length c751_1) ∧ w'.cell? (ad752.add ((a2).toNat * 22)) = some (.int .i64 ((rd_T54 ((rd_T43 l0 x13_3).f0) a2).f0.f0)) ∧ w'.cell? ⟨(ad752.add ((a2).toNat * 22)).block, (ad752.add ((a2).toNat * 22)).off + 1, none⟩ = some (.int .i64 ((rd_T54 ((rd_T43 l0 x13_3).f0) a2).f0.f1)) ∧ w'.cell? (ad742.add ((x14_4).toNat * 2)) = some (.slice (some ad754) ((rd_T43 l0 x14_4).f0).length c753_0) ∧ w'.cell? ⟨(ad742.add ((x14_4).toNat * 2)).block, (ad742.add ((x14_4).toNat * 2)).off + 1, none⟩ = some (.slice A753_1 ((rd_T43 l0 x14_4).f1).length c753_1) ∧ w'.cell? (ad754.add ((a2).toNat * 22)) = some (.int .i64 ((rd_T54 ((rd_T43 l0 x14_4).f0) a2).f0.f0)) ∧ w'.cell? ⟨(ad754.add ((a2).toNat * 22)).block, (ad754.add ((a2).toNat * 22)).off + 1, none⟩ = some (.int .i64 ((rd_T54 ((rd_T43 l0 x14_4).f0) a2).f0.f1))) ∧ (w'.heap[gb741]? = some (.cells #[.int .i64 t737, .int .i64 t738, .int .i64 t739] 30 (0, 0))) ∧ (w'.heap[s_.1]? = some (.cells #[.int .i64 0, .int .i64 0] 49 (0, 0))) ∧ (w'.heap[s_.2]? = some (.cells #[.int .i64 0, .int .i64 0] 49 (0, 0))) ∧ (w.heap.size ≤ s_.1) ∧ (w.heap.size ≤ s_.1) ∧ (gb741 ≠ s_.1) ∧ (s_.1 ≠ gb741) ∧ (s_.2 ≠ s_.1) ∧ (s_.1 ≠ s_.2) ∧ (w.heap.size ≤ s_.2) ∧ (w.heap.size ≤ s_.2) ∧ (gb741 ≠ s_.2) ∧ (s_.2 ≠ gb741) ∧ (Below w.heap.size w w')) ?_ ?_
               rotate_left
               ·
                intro hCont
                refine two_ (i := 18) (j := 19) (Ni := some 15) (Nj := some 16) (bm 22 524287) (bm 22 786431) rfl rfl rfl rfl (two_of HT_.out qz) (by decide) (by decide) (fun K hK => ?_) (fun K hK => ?_)
                ·
                 skip
                 refine box_step ?hg (N := 15) ?hd (cs := #[.int .i64 0, .int .i64 0]) (t := 49) ?hr ?_; (case hd => rfl); (case hg => rfl); (case hr => first | (go_simp; done) | (go_simp; rfl))
                 intro gb755 hg w49 hbox hb
                 have n0_ := am (blk_below (o := .cells #[.int .i64 t737, .int .i64 t738, .int .i64 t739] 30 (0, 0)) (kz BK741) hb)
                 have n1_ := am (below_step bz hb)
                 have n2_ := am (hbox)
                 have n3_ := gwz (g := gb755) HB hg
                 have n4_ := gwz (g := gb755) HB hg
                 have n5_ := nlt (g' := gb755) BK741 hg
                 have n6_ := ngt (g' := gb755) BK741 hg
                 clear BK741
                 clear HB
                 have BK741 := n0_
                 have HB := n1_
                 have BK755 := n2_
                 have GW755 := n3_
                 have GE755 := n4_
                 have NB741_755 := n5_
                 have NB755_741 := n6_
                 clear n0_ n1_ n2_ n3_ n4_ n5_ n6_
                 clear hb hbox hg
                 refine hK.out _ _ ⟨(cb HB.out hw751_0), (cb HB.out hw751_1), (cb HB.out hw752_0), (cb HB.out hw752_1), (cb HB.out hw753_0), (cb HB.out hw753_1), (cb HB.out hw754_0), (cb HB.out hw754_1)⟩ (fun hHeld => ?_)
                 clear hK K
                 refine norm_ (a' := ?_) ?_ ?_
                 rotate_left
                 ·
                  show Act.put _ (some 15) _ = _
                  simp only [Act.put, aS, lZ, lS, i64_w, i32_w]
                  rfl
                 refine one_ (i := 19) (N := some 16) (bm 22 1048575) rfl rfl (one_of HT_.out qz) (by decide) (fun K hK => ?_)
                 refine box_step ?hg (N := 16) ?hd (cs := #[.int .i64 0, .int .i64 0]) (t := 49) ?hr ?_; (case hd => rfl); (case hg => rfl); (case hr => first | (go_simp; done) | (go_simp; rfl))
                 intro gb756 hg w50 hbox hb
                 have n0_ := am (blk_below (o := .cells #[.int .i64 t737, .int .i64 t738, .int .i64 t739] 30 (0, 0)) (kz BK741) hb)
                 have n1_ := am (blk_below (o := .cells #[.int .i64 0, .int .i64 0] 49 (0, 0)) (kz BK755) hb)
                 have n2_ := am (below_step bz hb)
                 have n3_ := am (hbox)
                 have n4_ := gwz (g := gb756) HB hg
                 have n5_ := gwz (g := gb756) HB hg
                 have n6_ := nlt (g' := gb756) BK741 hg
                 have n7_ := ngt (g' := gb756) BK741 hg
                 have n8_ := nlt (g' := gb756) BK755 hg
                 have n9_ := ngt (g' := gb756) BK755 hg
                 clear BK741
                 clear BK755
                 clear HB
                 have BK741 := n0_
                 have BK755 := n1_
                 have HB := n2_
                 have BK756 := n3_
                 have GW756 := n4_
                 have GE756 := n5_
                 have NB741_756 := n6_
                 have NB756_741 := n7_
                 have NB755_756 := n8_
                 have NB756_755 := n9_
                 clear n0_ n1_ n2_ n3_ n4_ n5_ n6_ n7_ n8_ n9_
                 clear hb hbox hg
                 refine hK.out _ _ ⟨(cb HB.out hw751_0), (cb HB.out hw751_1), (cb HB.out hw752_0), (cb HB.out hw752_1), (cb HB.out hw753_0), (cb HB.out hw753_1), (cb HB.out hw754_0), (cb HB.out hw754_1)⟩ (fun hHeld => ?_)
                 clear hK K
                 refine norm_ (a' := ?_) ?_ ?_
                 rotate_left
                 ·
                  show Act.put _ (some 16) _ = _
                  simp only [Act.put, aS, lZ, lS, i64_w, i32_w]
                  rfl
                 exact norm_ (by simp only [putAll, Act.put, List.setIfInBounds_toArray, List.set_cons_zero, List.set_cons_succ]) (hCont (gb755, gb756) _ ⟨hHeld, (kz BK741), (kz BK755), (kz BK756), GW755.out, GE755.out, NB741_755.out, NB755_741.out, NB756_755.out, NB755_756.out, GW756.out, GE756.out, NB741_756.out, NB756_741.out, bz⟩)
                ·
                 skip
                 refine box_step ?hg (N := 16) ?hd (cs := #[.int .i64 0, .int .i64 0]) (t := 49) ?hr ?_; (case hd => rfl); (case hg => rfl); (case hr => first | (go_simp; done) | (go_simp; rfl))
                 intro gb756 hg w49 hbox hb
                 have n0_ := am (blk_below (o := .cells #[.int .i64 t737, .int .i64 t738, .int .i64 t739] 30 (0, 0)) (kz BK741) hb)
                 have n1_ := am (below_step bz hb)
                 have n2_ := am (hbox)
                 have n3_ := gwz (g := gb756) HB hg
                 have n4_ := gwz (g := gb756) HB hg
                 have n5_ := nlt (g' := gb756) BK741 hg
                 have n6_ := ngt (g' := gb756) BK741 hg
                 clear BK741
                 clear HB
                 have BK741 := n0_
                 have HB := n1_
                 have BK756 := n2_
                 have GW756 := n3_
                 have GE756 := n4_
                 have NB741_756 := n5_
                 have NB756_741 := n6_
                 clear n0_ n1_ n2_ n3_ n4_ n5_ n6_
                 clear hb hbox hg
                 refine hK.out _ _ ⟨(cb HB.out hw751_0), (cb HB.out hw751_1), (cb HB.out hw752_0), (cb HB.out hw752_1), (cb HB.out hw753_0), (cb HB.out hw753_1), (cb HB.out hw754_0), (cb HB.out hw754_1)⟩ (fun hHeld => ?_)
                 clear hK K
                 refine norm_ (a' := ?_) ?_ ?_
                 rotate_left
                 ·
                  show Act.put _ (some 16) _ = _
                  simp only [Act.put, aS, lZ, lS, i64_w, i32_w]
                  rfl
                 refine one_ (i := 18) (N := some 15) (bm 22 1048575) rfl rfl (one_of HT_.out qz) (by decide) (fun K hK => ?_)
                 refine box_step ?hg (N := 15) ?hd (cs := #[.int .i64 0, .int .i64 0]) (t := 49) ?hr ?_; (case hd => rfl); (case hg => rfl); (case hr => first | (go_simp; done) | (go_simp; rfl))
                 intro gb755 hg w50 hbox hb
                 have n0_ := am (blk_below (o := .cells #[.int .i64 t737, .int .i64 t738, .int .i64 t739] 30 (0, 0)) (kz BK741) hb)
                 have n1_ := am (blk_below (o := .cells #[.int .i64 0, .int .i64 0] 49 (0, 0)) (kz BK756) hb)
                 have n2_ := am (below_step bz hb)
                 have n3_ := am (hbox)
                 have n4_ := gwz (g := gb755) HB hg
                 have n5_ := gwz (g := gb755) HB hg
                 have n6_ := nlt (g' := gb755) BK741 hg
                 have n7_ := ngt (g' := gb755) BK741 hg
                 have n8_ := nlt (g' := gb755) BK756 hg
                 have n9_ := ngt (g' := gb755) BK756 hg
                 clear BK741
                 clear BK756
                 clear HB
                 have BK741 := n0_
                 have BK756 := n1_
                 have HB := n2_
                 have BK755 := n3_
                 have GW755 := n4_
                 have GE755 := n5_
                 have NB741_755 := n6_
                 have NB755_741 := n7_
                 have NB756_755 := n8_
                 have NB755_756 := n9_
                 clear n0_ n1_ n2_ n3_ n4_ n5_ n6_ n7_ n8_ n9_
                 clear hb hbox hg
                 refine hK.out _ _ ⟨(cb HB.out hw751_0), (cb HB.out hw751_1), (cb HB.out hw752_0), (cb HB.out hw752_1), (cb HB.out hw753_0), (cb HB.out hw753_1), (cb HB.out hw754_0), (cb HB.out hw754_1)⟩ (fun hHeld => ?_)
                 clear hK K
                 refine norm_ (a' := ?_) ?_ ?_
                 rotate_left
                 ·
                  show Act.put _ (some 15) _ = _
                  simp only [Act.put, aS, lZ, lS, i64_w, i32_w]
                  rfl
                 exact norm_ (by simp only [putAll, Act.put, List.setIfInBounds_toArray, List.set_cons_zero, List.set_cons_succ]) (hCont (gb755, gb756) _ ⟨hHeld, (kz BK741), (kz BK755), (kz BK756), GW755.out, GE755.out, NB741_755.out, NB755_741.out, NB756_755.out, NB755_756.out, GW756.out, GE756.out, NB741_756.out, NB756_741.out, bz⟩)
               rintro ⟨gb755, gb756⟩ w51 ⟨hS_, h0_, h1_, h2_, h3_, h4_, h5_, h6_, h7_, h8_, h9_, h10_, h11_, h12_, h13_⟩
               have n0_ : Aside0 (w51.heap[gb741]? = some (.cells #[.int .i64 t737, .int .i64 t738, .int .i64 t739] 30 (0, 0))) := ⟨h0_⟩
               have n1_ : Aside0 (w51.heap[gb755]? = some (.cells #[.int .i64 0, .int .i64 0] 49 (0, 0))) := ⟨h1_⟩
               have n2_ : Aside0 (w51.heap[gb756]? = some (.cells #[.int .i64 0, .int .i64 0] 49 (0, 0))) := ⟨h2_⟩
               have n3_ : Aside0 (w.heap.size ≤ gb755) := ⟨h3_⟩
               have n4_ : Aside0 (w.heap.size ≤ gb755) := ⟨h4_⟩
               have n5_ : Aside0 (gb741 ≠ gb755) := ⟨h5_⟩
               have n6_ : Aside0 (gb755 ≠ gb741) := ⟨h6_⟩
               have n7_ : Aside0 (gb756 ≠ gb755) := ⟨h7_⟩
               have n8_ : Aside0 (gb755 ≠ gb756) := ⟨h8_⟩
               have n9_ : Aside0 (w.heap.size ≤ gb756) := ⟨h9_⟩
               have n10_ : Aside0 (w.heap.size ≤ gb756) := ⟨h10_⟩
               have n11_ : Aside0 (gb741 ≠ gb756) := ⟨h11_⟩
               have n12_ : Aside0 (gb756 ≠ gb741) := ⟨h12_⟩
               have n13_ : Aside0 (Below w.heap.size w w51) := ⟨h13_⟩
               clear BK741
               clear HB
               clear h0_ h1_ h2_ h3_ h4_ h5_ h6_ h7_ h8_ h9_ h10_ h11_ h12_ h13_
               have BK741 := n0_
               have BK755 := n1_
               have BK756 := n2_
               have GW755 := n3_
               have GE755 := n4_
               have NB741_755 := n5_
               have NB755_741 := n6_
               have NB756_755 := n7_
               have NB755_756 := n8_
               have GW756 := n9_
               have GE756 := n10_
               have NB741_756 := n11_
               have NB756_741 := n12_
               have HB := n13_
               clear n0_ n1_ n2_ n3_ n4_ n5_ n6_ n7_ n8_ n9_ n10_ n11_ n12_ n13_
               have hHeld : w51.cell? (ad742.add ((x13_3).toNat * 2)) = some (.slice (some ad752) ((rd_T43 l0 x13_3).f0).length c751_0) ∧ w51.cell? ⟨(ad742.add ((x13_3).toNat * 2)).block, (ad742.add ((x13_3).toNat * 2)).off + 1, none⟩ = some (.slice A751_1 ((rd_T43 l0 x13_3).f1).length c751_1) ∧ w51.cell? (ad752.add ((a2).toNat * 22)) = some (.int .i64 ((rd_T54 ((rd_T43 l0 x13_3).f0) a2).f0.f0)) ∧ w51.cell? ⟨(ad752.add ((a2).toNat * 22)).block, (ad752.add ((a2).toNat * 22)).off + 1, none⟩ = some (.int .i64 ((rd_T54 ((rd_T43 l0 x13_3).f0) a2).f0.f1)) ∧ w51.cell? (ad742.add ((x14_4).toNat * 2)) = some (.slice (some ad754) ((rd_T43 l0 x14_4).f0).length c753_0) ∧ w51.cell? ⟨(ad742.add ((x14_4).toNat * 2)).block, (ad742.add ((x14_4).toNat * 2)).off + 1, none⟩ = some (.slice A753_1 ((rd_T43 l0 x14_4).f1).length c753_1) ∧ w51.cell? (ad754.add ((a2).toNat * 22)) = some (.int .i64 ((rd_T54 ((rd_T43 l0 x14_4).f0) a2).f0.f0)) ∧ w51.cell? ⟨(ad754.add ((a2).toNat * 22)).block, (ad754.add ((a2).toNat * 22)).off + 1, none⟩ = some (.int .i64 ((rd_T54 ((rd_T43 l0 x14_4).f0) a2).f0.f1)) := hS_
               refine norm_ (a' := ?_) ?_ ?_
               rotate_left
               ·
                simp only [putAll, Act.put, List.setIfInBounds_toArray, List.set_cons_zero, List.set_cons_succ]
                rfl
               refine one_ (i := 20) (N := none) (bm 22 2097151) rfl rfl (one_of HT_.out qz) (by decide) (fun K hK => ?_)
               have hs52 : w51.cell? ⟨gb755, 0, none⟩ = some (.int .i64 0) := (blk_cell BK755.out 0).trans rfl
               have hfs52 := blk_frozen BK755.out 0
               have hns52_0 := NB741_755.out
               have hns52_2 := NB756_755.out
               have hms52_0 := NB755_741.out
               have hms52_2 := NB755_756.out
               have hs53 : w51.cell? ⟨gb755, 1, none⟩ = some (.int .i64 0) := (blk_cell BK755.out 1).trans rfl
               have hfs53 := blk_frozen BK755.out 1
               have hns53_0 := NB741_755.out
               have hns53_2 := NB756_755.out
               have hms53_0 := NB755_741.out
               have hms53_2 := NB755_756.out
               refine skip_ (w1 := ?_) (by rfl) rfl ?_ ?_
               rotate_left
               ·
                go_simp
                rfl
               refine hK.out _ _ ⟨((cell_far (p := ⟨gb755, _, none⟩) (by first | exact nb hw751_0 GW755.out | exact nc hw751_0 GW755.out | exact nd hw751_0 GW755.out) _).trans (((cell_far (p := ⟨gb755, _, none⟩) (by first | exact nb hw751_0 GW755.out | exact nc hw751_0 GW755.out | exact nd hw751_0 GW755.out) _).trans (hHeld.1)))), ((cell_far (p := ⟨gb755, _, none⟩) (by first | exact nb hw751_1 GW755.out | exact nc hw751_1 GW755.out | exact nd hw751_1 GW755.out) _).trans (((cell_far (p := ⟨gb755, _, none⟩) (by first | exact nb hw751_1 GW755.out | exact nc hw751_1 GW755.out | exact nd hw751_1 GW755.out) _).trans (hHeld.2.1)))), ((cell_far (p := ⟨gb755, _, none⟩) (by first | exact nb hw752_0 GW755.out | exact nc hw752_0 GW755.out | exact nd hw752_0 GW755.out) _).trans (((cell_far (p := ⟨gb755, _, none⟩) (by first | exact nb hw752_0 GW755.out | exact nc hw752_0 GW755.out | exact nd hw752_0 GW755.out) _).trans (hHeld.2.2.1)))), ((cell_far (p := ⟨gb755, _, none⟩) (by first | exact nb hw752_1 GW755.out | exact nc hw752_1 GW755.out | exact nd hw752_1 GW755.out) _).trans (((cell_far (p := ⟨gb755, _, none⟩) (by first | exact nb hw752_1 GW755.out | exact nc hw752_1 GW755.out | exact nd hw752_1 GW755.out) _).trans (hHeld.2.2.2.1)))), ((cell_far (p := ⟨gb755, _, none⟩) (by first | exact nb hw753_0 GW755.out | exact nc hw753_0 GW755.out | exact nd hw753_0 GW755.out) _).trans (((cell_far (p := ⟨gb755, _, none⟩) (by first | exact nb hw753_0 GW755.out | exact nc hw753_0 GW755.out | exact nd hw753_0 GW755.out) _).trans (hHeld.2.2.2.2.1)))), ((cell_far (p := ⟨gb755, _, none⟩) (by first | exact nb hw753_1 GW755.out | exact nc hw753_1 GW755.out | exact nd hw753_1 GW755.out) _).trans (((cell_far (p := ⟨gb755, _, none⟩) (by first | exact nb hw753_1 GW755.out | exact nc hw753_1 GW755.out | exact nd hw753_1 GW755.out) _).trans (hHeld.2.2.2.2.2.1)))), ((cell_far (p := ⟨gb755, _, none⟩) (by first | exact nb hw754_0 GW755.out | exact nc hw754_0 GW755.out | exact nd hw754_0 GW755.out) _).trans (((cell_far (p := ⟨gb755, _, none⟩) (by first | exact nb hw754_0 GW755.out | exact nc hw754_0 GW755.out | exact nd hw754_0 GW755.out) _).trans (hHeld.2.2.2.2.2.2.1)))), ((cell_far (p := ⟨gb755, _, none⟩) (by first | exact nb hw754_1 GW755.out | exact nc hw754_1 GW755.out | exact nd hw754_1 GW755.out) _).trans (((cell_far (p := ⟨gb755, _, none⟩) (by first | exact nb hw754_1 GW755.out | exact nc hw754_1 GW755.out | exact nd hw754_1 GW755.out) _).trans (hHeld.2.2.2.2.2.2.2))))⟩ (fun hHeld => ?_)
               clear hK K
               refine one_ (i := 21) (N := none) (bm 22 4194303) rfl rfl (one_of HT_.out qz) (by decide) (fun K hK => ?_)
               have hs54 : w51.cell? ⟨gb756, 0, none⟩ = some (.int .i64 0) := (blk_cell BK756.out 0).trans rfl
               have hfs54 := blk_frozen BK756.out 0
               have hns54_0 := NB741_756.out
               have hns54_1 := NB755_756.out
               have hms54_0 := NB756_741.out
               have hms54_1 := NB756_755.out
               have hs55 : w51.cell? ⟨gb756, 1, none⟩ = some (.int .i64 0) := (blk_cell BK756.out 1).trans rfl
               have hfs55 := blk_frozen BK756.out 1
               have hns55_0 := NB741_756.out
               have hns55_1 := NB755_756.out
               have hms55_0 := NB756_741.out
               have hms55_1 := NB756_755.out
               refine skip_ (w1 := ?_) (by rfl) rfl ?_ ?_
               rotate_left
               ·
                go_simp
                rfl
               refine hK.out _ _ ⟨((cell_far (p := ⟨gb756, _, none⟩) (by first | exact nb hw751_0 GW756.out | exact nc hw751_0 GW756.out | exact nd hw751_0 GW756.out) _).trans (((cell_far (p := ⟨gb756, _, none⟩) (by first | exact nb hw751_0 GW756.out | exact nc hw751_0 GW756.out | exact nd hw751_0 GW756.out) _).trans (hHeld.1)))), ((cell_far (p := ⟨gb756, _, none⟩) (by first | exact nb hw751_1 GW756.out | exact nc hw751_1 GW756.out | exact nd hw751_1 GW756.out) _).trans (((cell_far (p := ⟨gb756, _, none⟩) (by first | exact nb hw751_1 GW756.out | exact nc hw751_1 GW756.out | exact nd hw751_1 GW756.out) _).trans (hHeld.2.1)))), ((cell_far (p := ⟨gb756, _, none⟩) (by first | exact nb hw752_0 GW756.out | exact nc hw752_0 GW756.out | exact nd hw752_0 GW756.out) _).trans (((cell_far (p := ⟨gb756, _, none⟩) (by first | exact nb hw752_0 GW756.out | exact nc hw752_0 GW756.out | exact nd hw752_0 GW756.out) _).trans (hHeld.2.2.1)))), ((cell_far (p := ⟨gb756, _, none⟩) (by first | exact nb hw752_1 GW756.out | exact nc hw752_1 GW756.out | exact nd hw752_1 GW756.out) _).trans (((cell_far (p := ⟨gb756, _, none⟩) (by first | exact nb hw752_1 GW756.out | exact nc hw752_1 GW756.out | exact nd hw752_1 GW756.out) _).trans (hHeld.2.2.2.1)))), ((cell_far (p := ⟨gb756, _, none⟩) (by first | exact nb hw753_0 GW756.out | exact nc hw753_0 GW756.out | exact nd hw753_0 GW756.out) _).trans (((cell_far (p := ⟨gb756, _, none⟩) (by first | exact nb hw753_0 GW756.out | exact nc hw753_0 GW756.out | exact nd hw753_0 GW756.out) _).trans (hHeld.2.2.2.2.1)))), ((cell_far (p := ⟨gb756, _, none⟩) (by first | exact nb hw753_1 GW756.out | exact nc hw753_1 GW756.out | exact nd hw753_1 GW756.out) _).trans (((cell_far (p := ⟨gb756, _, none⟩) (by first | exact nb hw753_1 GW756.out | exact nc hw753_1 GW756.out | exact nd hw753_1 GW756.out) _).trans (hHeld.2.2.2.2.2.1)))), ((cell_far (p := ⟨gb756, _, none⟩) (by first | exact nb hw754_0 GW756.out | exact nc hw754_0 GW756.out | exact nd hw754_0 GW756.out) _).trans (((cell_far (p := ⟨gb756, _, none⟩) (by first | exact nb hw754_0 GW756.out | exact nc hw754_0 GW756.out | exact nd hw754_0 GW756.out) _).trans (hHeld.2.2.2.2.2.2.1)))), ((cell_far (p := ⟨gb756, _, none⟩) (by first | exact nb hw754_1 GW756.out | exact nc hw754_1 GW756.out | exact nd hw754_1 GW756.out) _).trans (((cell_far (p := ⟨gb756, _, none⟩) (by first | exact nb hw754_1 GW756.out | exact nc hw754_1 GW756.out | exact nd hw754_1 GW756.out) _).trans (hHeld.2.2.2.2.2.2.2))))⟩ (fun hHeld => ?_)
               clear hK K
               refine done_ (done_of HT_.out qz) ?_
               have hnb56 := NB755_741.out
               have hnc56 := NB741_755.out
               have hnb57 := NB755_756.out
               have hnc57 := NB756_755.out
               obtain ⟨hcz58_0, hcz58_1, hfz58_0, hfz58_1⟩ := kc2 BK755.out
               have hnb59 := NB756_741.out
               have hnc59 := NB741_756.out
               obtain ⟨hcz60_0, hcz60_1, hfz60_0, hfz60_1⟩ := kc2 BK756.out
               try go_wp2
               have n0_ : Aside0 (((((w51.setCell ⟨gb755, 0, none⟩ (.int .i64 ((rd_T54 ((rd_T43 l0 x13_3).f0) a2).f0.f0))).setCell ⟨gb755, 1, none⟩ (.int .i64 ((rd_T54 ((rd_T43 l0 x13_3).f0) a2).f0.f1))).setCell ⟨gb756, 0, none⟩ (.int .i64 ((rd_T54 ((rd_T43 l0 x14_4).f0) a2).f0.f0))).setCell ⟨gb756, 1, none⟩ (.int .i64 ((rd_T54 ((rd_T43 l0 x14_4).f0) a2).f0.f1))).heap[gb741]? = some (.cells #[.int .i64 t737, .int .i64 t738, .int .i64 t739] 30 (0, 0))) := ⟨by (with_reducible repeat first | apply kN | apply kD | apply kA); refine blk_far ?_ NB741_756.out _; (with_reducible repeat first | apply kN | apply kD | apply kA); refine blk_far ?_ NB741_756.out _; (with_reducible repeat first | apply kN | apply kD | apply kA); refine blk_far ?_ NB741_755.out _; (with_reducible repeat first | apply kN | apply kD | apply kA); refine blk_far ?_ NB741_755.out _; (with_reducible repeat first | apply kN | apply kD | apply kA); exact BK741.out⟩
               have n1_ : Aside0 (((((w51.setCell ⟨gb755, 0, none⟩ (.int .i64 ((rd_T54 ((rd_T43 l0 x13_3).f0) a2).f0.f0))).setCell ⟨gb755, 1, none⟩ (.int .i64 ((rd_T54 ((rd_T43 l0 x13_3).f0) a2).f0.f1))).setCell ⟨gb756, 0, none⟩ (.int .i64 ((rd_T54 ((rd_T43 l0 x14_4).f0) a2).f0.f0))).setCell ⟨gb756, 1, none⟩ (.int .i64 ((rd_T54 ((rd_T43 l0 x14_4).f0) a2).f0.f1))).heap[gb755]? = some (.cells #[.int .i64 ((rd_T54 ((rd_T43 l0 x13_3).f0) a2).f0.f0), .int .i64 ((rd_T54 ((rd_T43 l0 x13_3).f0) a2).f0.f1)] 49 (0, 0))) := ⟨by (with_reducible repeat first | apply kN | apply kD | apply kA); refine blk_far ?_ NB755_756.out _; (with_reducible repeat first | apply kN | apply kD | apply kA); refine blk_far ?_ NB755_756.out _; (with_reducible repeat first | apply kN | apply kD | apply kA); refine blk_put (cs := #[.int .i64 ((rd_T54 ((rd_T43 l0 x13_3).f0) a2).f0.f0), .int .i64 0]) ?_ 1 _ rfl; (with_reducible repeat first | apply kN | apply kD | apply kA); refine blk_put (cs := #[.int .i64 0, .int .i64 0]) ?_ 0 _ rfl; (with_reducible repeat first | apply kN | apply kD | apply kA); exact BK755.out⟩
               have n2_ : Aside0 (((((w51.setCell ⟨gb755, 0, none⟩ (.int .i64 ((rd_T54 ((rd_T43 l0 x13_3).f0) a2).f0.f0))).setCell ⟨gb755, 1, none⟩ (.int .i64 ((rd_T54 ((rd_T43 l0 x13_3).f0) a2).f0.f1))).setCell ⟨gb756, 0, none⟩ (.int .i64 ((rd_T54 ((rd_T43 l0 x14_4).f0) a2).f0.f0))).setCell ⟨gb756, 1, none⟩ (.int .i64 ((rd_T54 ((rd_T43 l0 x14_4).f0) a2).f0.f1))).heap[gb756]? = some (.cells #[.int .i64 ((rd_T54 ((rd_T43 l0 x14_4).f0) a2).f0.f0), .int .i64 ((rd_T54 ((rd_T43 l0 x14_4).f0) a2).f0.f1)] 49 (0, 0))) := ⟨by (with_reducible repeat first | apply kN | apply kD | apply kA); refine blk_put (cs := #[.int .i64 ((rd_T54 ((rd_T43 l0 x14_4).f0) a2).f0.f0), .int .i64 0]) ?_ 1 _ rfl; (with_reducible repeat first | apply kN | apply kD | apply kA); refine blk_put (cs := #[.int .i64 0, .int .i64 0]) ?_ 0 _ rfl; (with_reducible repeat first | apply kN | apply kD | apply kA); refine blk_far ?_ NB756_755.out _; (with_reducible repeat first | apply kN | apply kD | apply kA); refine blk_far ?_ NB756_755.out _; (with_reducible repeat first | apply kN | apply kD | apply kA); exact BK756.out⟩
               have n3_ : Aside0 (Below w.heap.size w ((((w51.setCell ⟨gb755, 0, none⟩ (.int .i64 ((rd_T54 ((rd_T43 l0 x13_3).f0) a2).f0.f0))).setCell ⟨gb755, 1, none⟩ (.int .i64 ((rd_T54 ((rd_T43 l0 x13_3).f0) a2).f0.f1))).setCell ⟨gb756, 0, none⟩ (.int .i64 ((rd_T54 ((rd_T43 l0 x14_4).f0) a2).f0.f0))).setCell ⟨gb756, 1, none⟩ (.int .i64 ((rd_T54 ((rd_T43 l0 x14_4).f0) a2).f0.f1)))) := ⟨bz⟩
               (try clear BK741)
               (try clear BK755)
               (try clear BK756)
               (try clear HB)
               generalize ((((w51.setCell ⟨gb755, 0, none⟩ (.int .i64 ((rd_T54 ((rd_T43 l0 x13_3).f0) a2).f0.f0))).setCell ⟨gb755, 1, none⟩ (.int .i64 ((rd_T54 ((rd_T43 l0 x13_3).f0) a2).f0.f1))).setCell ⟨gb756, 0, none⟩ (.int .i64 ((rd_T54 ((rd_T43 l0 x14_4).f0) a2).f0.f0))).setCell ⟨gb756, 1, none⟩ (.int .i64 ((rd_T54 ((rd_T43 l0 x14_4).f0) a2).f0.f1))) = w61 at n0_ n1_ n2_ n3_ ⊢
               have BK741 := n0_
               have BK755 := n1_
               have BK756 := n2_
               have HB := n3_
               clear n0_ n1_ n2_ n3_
               have n0_ := am (blk_drew BK741.out)
               have n1_ := am (blk_drew BK755.out)
               have n2_ := am (blk_drew BK756.out)
               have n3_ := am (below_drew1 HB.out)
               clear BK741
               clear BK755
               clear BK756
               clear HB
               have BK741 := n0_
               have BK755 := n1_
               have BK756 := n2_
               have HB := n3_
               clear n0_ n1_ n2_ n3_
               have p757 : 0 ≤ (x13_3 : Int) := az
               have q757 : x13_3 < (l1.length : Int) := az
               obtain ⟨ad757, e757, hx757_0⟩ := Kd.at_int HR1.out x13_3 p757 q757
               have hw757_0 := hx757_0
               cases e757
               replace hx757_0 := cb HB.out hx757_0
               replace p757 := eq_true p757
               replace q757 := eq_true q757
               have p758 : 0 ≤ (x14_4 : Int) := az
               have q758 : x14_4 < (l1.length : Int) := az
               obtain ⟨ad758, e758, hx758_0⟩ := Kd.at_int HR1.out x14_4 p758 q758
               have hw758_0 := hx758_0
               obtain rfl : ad757 = ad758 := (by injection e758)
               replace hx758_0 := cb HB.out hx758_0
               replace p758 := eq_true p758
               replace q758 := eq_true q758
               refine start_ (n := 10) (S := fun w' => w'.cell? (ad757.add (x13_3).toNat) = some (.int .i64 (rd l1 x13_3)) ∧ w'.cell? (ad757.add (x14_4).toNat) = some (.int .i64 (rd l1 x14_4))) (ds := []) (bm 10 0) qz rfl rfl ⟨(cb HB.out hw757_0), (cb HB.out hw758_0)⟩ (fun hHeld => ?_); refine with_tabW dancestudiolaw44_CollideApart.tab23 dancestudiolaw44_CollideApart.bits23 (fun HT_ HW_ => ?_)
               generalize w61.drew = w62 at BK741 BK755 BK756 HB hx757_0 hx758_0 hHeld ⊢
               refine pa (i := 0) (N := some 151) (bm 10 1) HT_ ?_
               refine pa (i := 1) (N := some 152) (bm 10 3) HT_ ?_
               refine pa (i := 2) (N := some 153) (bm 10 7) HT_ ?_
               refine pa (i := 4) (N := some 155) (bm 10 23) HT_ ?_
               refine pa (i := 5) (N := some 156) (bm 10 55) HT_ ?_
               refine pa (i := 6) (N := some 157) (bm 10 119) HT_ ?_
               refine take_ (i := 3) (N := some 154) (v := ?_) (a' := ?_) (bm 10 127) rfl rfl (take_ofW HT_.out HW_.out qz) iz (Or.inl ⟨by rfl, ?_⟩) hHeld ?_ ?_
               rotate_left
               ·
                rintro w' ⟨s0, s1⟩
                go_simp
                with_reducible rfl
               rotate_left
               ·
                simp only [Act.put, aS, lZ, lS, i64_w, i32_w]
                rfl
               refine take_ (i := 7) (N := some 158) (v := ?_) (a' := ?_) (bm 10 255) rfl rfl (take_ofW HT_.out HW_.out qz) iz (Or.inl ⟨by rfl, ?_⟩) hHeld ?_ ?_
               rotate_left
               ·
                rintro w' ⟨s0, s1⟩
                go_simp
                with_reducible rfl
               rotate_left
               ·
                simp only [Act.put, aS, lZ, lS, i64_w, i32_w]
                rfl
               refine pa (i := 8) (N := some 159) (bm 10 511) HT_ ?_
               refine pa (i := 9) (N := some 18) (bm 10 1023) HT_ ?_
               refine done_ (done_of HT_.out qz) ?_
               try go_wp2
               go_roundg k4
               case measure => have := HJ3.out; have := HJ16.out; have := HK3.out; have := HK4.out; omega
               first
               | (have _ := tw1a
                  case rel => exact ⟨(true), (wrap64 (x14_4 + 1)), sz, sz, H', ⟨by have := HJ3.out; have := HJ16.out; have := HK3.out; have := HK4.out; omega⟩, ⟨kz BK741⟩, ⟨bz⟩⟩)
               | (have _ := tw1b
                  case rel => exact ⟨(((wrap64 ((wrap64 ((wrap64 (((rd_T54 ((rd_T43 l0 x13_3).f0) a2).f0.f0) - ((rd_T54 ((rd_T43 l0 x14_4).f0) a2).f0.f0))) * (wrap64 (((rd_T54 ((rd_T43 l0 x13_3).f0) a2).f0.f0) - ((rd_T54 ((rd_T43 l0 x14_4).f0) a2).f0.f0))))) + (wrap64 ((wrap64 (((rd_T54 ((rd_T43 l0 x13_3).f0) a2).f0.f1) - ((rd_T54 ((rd_T43 l0 x14_4).f0) a2).f0.f1))) * (wrap64 (((rd_T54 ((rd_T43 l0 x13_3).f0) a2).f0.f1) - ((rd_T54 ((rd_T43 l0 x14_4).f0) a2).f0.f1))))))) == t746)), (wrap64 (x14_4 + 1)), sz, sz, H', ⟨by have := HJ3.out; have := HJ16.out; have := HK3.out; have := HK4.out; omega⟩, ⟨kz BK741⟩, ⟨bz⟩⟩)
             ·
              rw [if_neg c33] at H
              have c33b0 := decide_eq_false c33
              clear c33
              have H' := am H
              clear H
              go_wp2
              go_roundg k4
              case measure => have := HJ3.out; have := HJ16.out; have := HK3.out; have := HK4.out; omega
              case rel => exact ⟨(x12_4), (wrap64 (x13_3 + 1)), sz, sz, H', ⟨by have := HJ3.out; have := HJ16.out; have := HK3.out; have := HK4.out; omega⟩, ⟨kz BK741⟩, ⟨bz⟩⟩
          ·
           rw [if_neg c32] at H
           have c32b0 := decide_eq_false c32
           clear c32
           by_cases c78 : x12_3 = true
           ·
            subst c78
            have H1 : ((dancestudiolaw44_awake.f k3).bind fun t748 => (some t748)) = some r := by rw [if_pos rfl] at H; exact H
            clear H
            have H := H1
            clear H1
            replace H := Option.bind_eq_some_iff.mp H
            obtain ⟨t748, A790, H⟩ := H
            replace H : (some t748) = some r := H
            have A79 := am A790
            clear A790
            obtain rfl := Option.some.inj H
            go_wp2_with (first | (go_at_call 12; (with_reducible refine (dancestudiolaw44_awake.calls k3  t748 _ A79.out).mono ?_); rintro e w80 ⟨rfl, hb⟩; replace BK741 := am (blk_below (o := .cells #[.int .i64 t737, .int .i64 t738, .int .i64 t739] 30 (0, 0)) (kz BK741) hb); replace HB := am (below_step bz hb); (try clear hb); (try clear hb2); (try clear hk); (try clear hi)))
            go_ret
            exact ⟨ez, bz⟩
           ·
            replace c78 := Bool.eq_false_iff.mpr c78
            subst c78
            have H1 : (none) = some r := by rw [if_neg (show ¬ (false = true) by decide)] at H; exact H
            clear H
            have H := H1
            clear H1
            exact absurd H (by simp)
    ·
     rw [if_neg c15] at H
     exact absurd H (by simp)

end Go.Proofs.Yteflngoiebgdaaa.X
