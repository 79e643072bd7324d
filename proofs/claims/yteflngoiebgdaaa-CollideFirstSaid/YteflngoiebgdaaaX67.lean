import Derived.Test.YteflngoiebgdaaaX0
import Derived.Test.YteflngoiebgdaaaX1
import Derived.Test.YteflngoiebgdaaaX2
import Derived.Test.YteflngoiebgdaaaX9
import Derived.Test.YteflngoiebgdaaaX32
import Derived.Test.YteflngoiebgdaaaX34
import Derived.Test.YteflngoiebgdaaaX65
import Derived.Test.YteflngoiebgdaaaX66
namespace Go.Proofs.Yteflngoiebgdaaa.X
open Go.RowKit YteflngoiebgdaaaW.PrintWords YteflngoiebgdaaaW.PrintLast YteflngoiebgdaaaW.PrintMore
attribute [local go_sem] max2_int min2_int max_two min_two max_three min_three max_four min_four
set_option linter.unusedVariables false
set_option linter.unusedSimpArgs false

attribute [local go_sem high] eqA30
/-! ### dancestudiolaw44_CollideFirst: function 6 -/
mutual
def dancestudiolaw44_CollideFirst.j0 : Nat → List (S43) → List Int → List (S62) → Bool → Option (Bool)
 | 0, _, _, _, _ => none
 | k + 1, x0, x1, x2, x28 => if x28 = true then ((dancestudiolaw44_awake.f k).bind fun t621 => (some t621)) else ((collide_First.f k x0 x1 x2).bind fun bt622 => (if bt622.2.2.2 = 0 then (if (x1.length : Int) = (x0.length : Int) then (if 0 < (x0.length : Int) then (dancestudiolaw44_CollideFirst.l0 k x0 x1 x2 (((rd_T43 x0 0).f1).length : Int) 0 bt622.1 bt622.2.1 bt622.2.2.1) else (none)) else (none)) else (none)))
def dancestudiolaw44_CollideFirst.l0 : Nat → List (S43) → List Int → List (S62) → Int → Int → Int → Int → Int → Option (Bool)
 | 0, _, _, _, _, _, _, _, _ => none
 | k + 1, x0, x1, x2, x9, x10, x627000, x627001, x627002 => if x10 < x9 then (dancestudiolaw44_CollideFirst.l1 k x0 x1 x2 x9 x10 0 x627000 x627001 x627002) else (if (x627000 == (-1) && (x627001 == 0 && (x627002 == 0))) = true then ((dancestudiolaw44_awake.f k).bind fun t628 => (some t628)) else (none))
def dancestudiolaw44_CollideFirst.l1 : Nat → List (S43) → List Int → List (S62) → Int → Int → Int → Int → Int → Int → Option (Bool)
 | 0, _, _, _, _, _, _, _, _, _ => none
 | k + 1, x0, x1, x2, x9, x10, x11, x627000, x627001, x627002 => if x11 < (x0.length : Int) then (dancestudiolaw44_CollideFirst.l2 k x0 x1 x2 x9 x10 x11 (wrap64 (x11 + 1)) x627000 x627001 x627002) else (dancestudiolaw44_CollideFirst.l0 k x0 x1 x2 x9 (wrap64 (x10 + 1)) x627000 x627001 x627002)
def dancestudiolaw44_CollideFirst.l2 : Nat → List (S43) → List Int → List (S62) → Int → Int → Int → Int → Int → Int → Int → Option (Bool)
 | 0, _, _, _, _, _, _, _, _, _, _ => none
 | k + 1, x0, x1, x2, x9, x10, x11, x12, x627000, x627001, x627002 => if x12 < (x0.length : Int) then (if 0 ≤ x11 then (if x11 < (x0.length : Int) then (if (((rd_T43 x0 x11).f0).length : Int) = (wrap64 (x9 + 1)) then (if 0 ≤ x12 then (if (((rd_T43 x0 x12).f0).length : Int) = (wrap64 (x9 + 1)) then ((dancestudiolaw44_partners.f k x2 x11 x12 x10).bind fun t631 => ((dancestudiolaw44_near.f k x0 x1 x11 x12 x10 t631).bind fun t632 => (if t632 = true then (if (x627000 == x10 && (x627001 == x11 && (x627002 == x12))) = true then ((dancestudiolaw44_awake.f k).bind fun t633 => (some t633)) else (none)) else (dancestudiolaw44_CollideFirst.l2 k x0 x1 x2 x9 x10 x11 (wrap64 (x12 + 1)) x627000 x627001 x627002)))) else (none)) else (none)) else (none)) else (none)) else (none)) else (dancestudiolaw44_CollideFirst.l1 k x0 x1 x2 x9 x10 (wrap64 (x11 + 1)) x627000 x627001 x627002)
end
def dancestudiolaw44_CollideFirst.f (k : Nat) (l0 : List (S43)) (l1 : List Int) (l2 : List (S62)) : Option (Bool) := (dancestudioref44_Light.f k l0 l2).bind fun t617 => (if t617 = true then ((collide_Check.f k l0 l1 l2).bind fun t618 => (if t618 = 0 then (dancestudiolaw44_CollideFirst.j0 k l0 l1 l2 ((l0.length : Int) == 0)) else (dancestudiolaw44_CollideFirst.j0 k l0 l1 l2 true))) else (dancestudiolaw44_CollideFirst.j0 k l0 l1 l2 true))
theorem dancestudiolaw44_CollideFirst.mono_l : ∀ k, (∀ y0 y1 y2 y3, LeO (dancestudiolaw44_CollideFirst.j0 k y0 y1 y2 y3) (dancestudiolaw44_CollideFirst.j0 (k + 1) y0 y1 y2 y3)) ∧ (∀ y0 y1 y2 y3 y4 y5 y6 y7, LeO (dancestudiolaw44_CollideFirst.l0 k y0 y1 y2 y3 y4 y5 y6 y7) (dancestudiolaw44_CollideFirst.l0 (k + 1) y0 y1 y2 y3 y4 y5 y6 y7)) ∧ (∀ y0 y1 y2 y3 y4 y5 y6 y7 y8, LeO (dancestudiolaw44_CollideFirst.l1 k y0 y1 y2 y3 y4 y5 y6 y7 y8) (dancestudiolaw44_CollideFirst.l1 (k + 1) y0 y1 y2 y3 y4 y5 y6 y7 y8)) ∧ (∀ y0 y1 y2 y3 y4 y5 y6 y7 y8 y9, LeO (dancestudiolaw44_CollideFirst.l2 k y0 y1 y2 y3 y4 y5 y6 y7 y8 y9) (dancestudiolaw44_CollideFirst.l2 (k + 1) y0 y1 y2 y3 y4 y5 y6 y7 y8 y9))
 | 0 => ⟨fun _ _ _ _ r h => by simp [dancestudiolaw44_CollideFirst.j0] at h, fun _ _ _ _ _ _ _ _ r h => by simp [dancestudiolaw44_CollideFirst.l0] at h, fun _ _ _ _ _ _ _ _ _ r h => by simp [dancestudiolaw44_CollideFirst.l1] at h, fun _ _ _ _ _ _ _ _ _ _ r h => by simp [dancestudiolaw44_CollideFirst.l2] at h⟩
 | k + 1 => by
  obtain ⟨ih0, ih1, ih2, ih3⟩ := dancestudiolaw44_CollideFirst.mono_l k
  refine ⟨?_, ?_, ?_, ?_⟩
  ·
   intro y0 y1 y2 y3
   unfold dancestudiolaw44_CollideFirst.j0
   repeat' first
   | (with_reducible exact ih0 _ _ _ _)
   | (with_reducible exact ih1 _ _ _ _ _ _ _ _)
   | (with_reducible exact ih2 _ _ _ _ _ _ _ _ _)
   | (with_reducible exact ih3 _ _ _ _ _ _ _ _ _ _)
   | (with_reducible exact collide_Check.mono _ _ _ _)
   | (with_reducible exact collide_First.mono _ _ _ _)
   | (with_reducible exact dancestudiolaw44_awake.mono _)
   | (with_reducible exact dancestudiolaw44_near.mono _ _ _ _ _ _ _)
   | (with_reducible exact dancestudiolaw44_partners.mono _ _ _ _ _)
   | (with_reducible exact dancestudioref44_Light.mono _ _ _)
   | (with_reducible exact LeO.refl _)
   | (with_reducible exact LeO.none _)
   | (with_reducible refine LeO.ite ?_ ?_)
   | (with_reducible refine LeO.bind ?_ (fun _ => ?_))
   | exact ih0 _ _ _ _
   | exact ih1 _ _ _ _ _ _ _ _
   | exact ih2 _ _ _ _ _ _ _ _ _
   | exact ih3 _ _ _ _ _ _ _ _ _ _
   | exact collide_Check.mono _ _ _ _
   | exact collide_First.mono _ _ _ _
   | exact dancestudiolaw44_awake.mono _
   | exact dancestudiolaw44_near.mono _ _ _ _ _ _ _
   | exact dancestudiolaw44_partners.mono _ _ _ _ _
   | exact dancestudioref44_Light.mono _ _ _
   | exact LeO.none _
   | refine LeO.ite ?_ ?_
   | refine LeO.bind ?_ (fun _ => ?_)
  ·
   intro y0 y1 y2 y3 y4 y5 y6 y7
   unfold dancestudiolaw44_CollideFirst.l0
   repeat' first
   | (with_reducible exact ih0 _ _ _ _)
   | (with_reducible exact ih1 _ _ _ _ _ _ _ _)
   | (with_reducible exact ih2 _ _ _ _ _ _ _ _ _)
   | (with_reducible exact ih3 _ _ _ _ _ _ _ _ _ _)
   | (with_reducible exact collide_Check.mono _ _ _ _)
   | (with_reducible exact collide_First.mono _ _ _ _)
   | (with_reducible exact dancestudiolaw44_awake.mono _)
   | (with_reducible exact dancestudiolaw44_near.mono _ _ _ _ _ _ _)
   | (with_reducible exact dancestudiolaw44_partners.mono _ _ _ _ _)
   | (with_reducible exact dancestudioref44_Light.mono _ _ _)
   | (with_reducible exact LeO.refl _)
   | (with_reducible exact LeO.none _)
   | (with_reducible refine LeO.ite ?_ ?_)
   | (with_reducible refine LeO.bind ?_ (fun _ => ?_))
   | exact ih0 _ _ _ _
   | exact ih1 _ _ _ _ _ _ _ _
   | exact ih2 _ _ _ _ _ _ _ _ _
   | exact ih3 _ _ _ _ _ _ _ _ _ _
   | exact collide_Check.mono _ _ _ _
   | exact collide_First.mono _ _ _ _
   | exact dancestudiolaw44_awake.mono _
   | exact dancestudiolaw44_near.mono _ _ _ _ _ _ _
   | exact dancestudiolaw44_partners.mono _ _ _ _ _
   | exact dancestudioref44_Light.mono _ _ _
   | exact LeO.none _
   | refine LeO.ite ?_ ?_
   | refine LeO.bind ?_ (fun _ => ?_)
  ·
   intro y0 y1 y2 y3 y4 y5 y6 y7 y8
   unfold dancestudiolaw44_CollideFirst.l1
   repeat' first
   | (with_reducible exact ih0 _ _ _ _)
   | (with_reducible exact ih1 _ _ _ _ _ _ _ _)
   | (with_reducible exact ih2 _ _ _ _ _ _ _ _ _)
   | (with_reducible exact ih3 _ _ _ _ _ _ _ _ _ _)
   | (with_reducible exact collide_Check.mono _ _ _ _)
   | (with_reducible exact collide_First.mono _ _ _ _)
   | (with_reducible exact dancestudiolaw44_awake.mono _)
   | (with_reducible exact dancestudiolaw44_near.mono _ _ _ _ _ _ _)
   | (with_reducible exact dancestudiolaw44_partners.mono _ _ _ _ _)
   | (with_reducible exact dancestudioref44_Light.mono _ _ _)
   | (with_reducible exact LeO.refl _)
   | (with_reducible exact LeO.none _)
   | (with_reducible refine LeO.ite ?_ ?_)
   | (with_reducible refine LeO.bind ?_ (fun _ => ?_))
   | exact ih0 _ _ _ _
   | exact ih1 _ _ _ _ _ _ _ _
   | exact ih2 _ _ _ _ _ _ _ _ _
   | exact ih3 _ _ _ _ _ _ _ _ _ _
   | exact collide_Check.mono _ _ _ _
   | exact collide_First.mono _ _ _ _
   | exact dancestudiolaw44_awake.mono _
   | exact dancestudiolaw44_near.mono _ _ _ _ _ _ _
   | exact dancestudiolaw44_partners.mono _ _ _ _ _
   | exact dancestudioref44_Light.mono _ _ _
   | exact LeO.none _
   | refine LeO.ite ?_ ?_
   | refine LeO.bind ?_ (fun _ => ?_)
  ·
   intro y0 y1 y2 y3 y4 y5 y6 y7 y8 y9
   unfold dancestudiolaw44_CollideFirst.l2
   repeat' first
   | (with_reducible exact ih0 _ _ _ _)
   | (with_reducible exact ih1 _ _ _ _ _ _ _ _)
   | (with_reducible exact ih2 _ _ _ _ _ _ _ _ _)
   | (with_reducible exact ih3 _ _ _ _ _ _ _ _ _ _)
   | (with_reducible exact collide_Check.mono _ _ _ _)
   | (with_reducible exact collide_First.mono _ _ _ _)
   | (with_reducible exact dancestudiolaw44_awake.mono _)
   | (with_reducible exact dancestudiolaw44_near.mono _ _ _ _ _ _ _)
   | (with_reducible exact dancestudiolaw44_partners.mono _ _ _ _ _)
   | (with_reducible exact dancestudioref44_Light.mono _ _ _)
   | (with_reducible exact LeO.refl _)
   | (with_reducible exact LeO.none _)
   | (with_reducible refine LeO.ite ?_ ?_)
   | (with_reducible refine LeO.bind ?_ (fun _ => ?_))
   | exact ih0 _ _ _ _
   | exact ih1 _ _ _ _ _ _ _ _
   | exact ih2 _ _ _ _ _ _ _ _ _
   | exact ih3 _ _ _ _ _ _ _ _ _ _
   | exact collide_Check.mono _ _ _ _
   | exact collide_First.mono _ _ _ _
   | exact dancestudiolaw44_awake.mono _
   | exact dancestudiolaw44_near.mono _ _ _ _ _ _ _
   | exact dancestudiolaw44_partners.mono _ _ _ _ _
   | exact dancestudioref44_Light.mono _ _ _
   | exact LeO.none _
   | refine LeO.ite ?_ ?_
   | refine LeO.bind ?_ (fun _ => ?_)
theorem dancestudiolaw44_CollideFirst.mono : ∀ a0 a1 a2 k, LeO (dancestudiolaw44_CollideFirst.f k a0 a1 a2) (dancestudiolaw44_CollideFirst.f (k + 1) a0 a1 a2) := by
 intro a0 a1 a2 k
 obtain ⟨ih0, ih1, ih2, ih3⟩ := dancestudiolaw44_CollideFirst.mono_l k
 unfold dancestudiolaw44_CollideFirst.f
 repeat' first
   | (with_reducible exact ih0 _ _ _ _)
   | (with_reducible exact ih1 _ _ _ _ _ _ _ _)
   | (with_reducible exact ih2 _ _ _ _ _ _ _ _ _)
   | (with_reducible exact ih3 _ _ _ _ _ _ _ _ _ _)
   | (with_reducible exact collide_Check.mono _ _ _ _)
   | (with_reducible exact collide_First.mono _ _ _ _)
   | (with_reducible exact dancestudiolaw44_awake.mono _)
   | (with_reducible exact dancestudiolaw44_near.mono _ _ _ _ _ _ _)
   | (with_reducible exact dancestudiolaw44_partners.mono _ _ _ _ _)
   | (with_reducible exact dancestudioref44_Light.mono _ _ _)
   | (with_reducible exact LeO.refl _)
   | (with_reducible exact LeO.none _)
   | (with_reducible refine LeO.ite ?_ ?_)
   | (with_reducible refine LeO.bind ?_ (fun _ => ?_))
   | exact ih0 _ _ _ _
   | exact ih1 _ _ _ _ _ _ _ _
   | exact ih2 _ _ _ _ _ _ _ _ _
   | exact ih3 _ _ _ _ _ _ _ _ _ _
   | exact collide_Check.mono _ _ _ _
   | exact collide_First.mono _ _ _ _
   | exact dancestudiolaw44_awake.mono _
   | exact dancestudiolaw44_near.mono _ _ _ _ _ _ _
   | exact dancestudiolaw44_partners.mono _ _ _ _ _
   | exact dancestudioref44_Light.mono _ _ _
   | exact LeO.none _
   | refine LeO.ite ?_ ?_
   | refine LeO.bind ?_ (fun _ => ?_)
set_option maxHeartbeats 8000000 in
set_option maxRecDepth 100000 in
theorem dancestudiolaw44_CollideFirst.calls (k : Nat) (A0 : Option Addr) (c0 : Nat) (l0 : List (S43)) (A1 : Option Addr) (c1 : Nat) (l1 : List Int) (A2 : Option Addr) (c2 : Nat) (l2 : List (S62)) (r : Bool) (w : World) (hr0 : Kd.C k43 w A0 l0.length l0) (hc0 : l0.length ≤ c0) (hr1 : Kd.C (Kd.int .i64) w A1 l1.length l1) (hc1 : l1.length ≤ c1) (hr2 : Kd.C k62 w A2 l2.length l2) (hc2 : l2.length ≤ c2) (h : dancestudiolaw44_CollideFirst.f k l0 l1 l2 = some r) :
  Calls Try.prog 6 #[.slice A0 l0.length c0, .slice A1 l1.length c1, .slice A2 l2.length c2] w fun e w' => e = .returned (.bool r) ∧ Below w.heap.size w w' := by
 have hu30 := Try.underlying30
 have HR0 := am hr0
 have HC0 := am hc0
 clear hr0 hc0
 have HR1 := am hr1
 have HC1 := am hc1
 clear hr1 hc1
 have HR2 := am hr2
 have HC2 := am hc2
 clear hr2 hc2
 have HB := am (Below.refl w.heap.size w)
 have H : ((dancestudioref44_Light.f k l0 l2).bind fun t617 => (if t617 = true then ((collide_Check.f k l0 l1 l2).bind fun t618 => (if t618 = 0 then (dancestudiolaw44_CollideFirst.j0 k l0 l1 l2 ((l0.length : Int) == 0)) else (dancestudiolaw44_CollideFirst.j0 k l0 l1 l2 true))) else (dancestudiolaw44_CollideFirst.j0 k l0 l1 l2 true))) = some r := h
 clear h
 have HC4 := am H
 clear H
 go_enter Try.func6, Try.ntmps6
 go_upto_region 1 with (fail)
 go_cut [28] (fun v28 wc => ∃ (kq : Nat) (x28_3 : Bool), v28 = .bool x28_3 ∧ Aside0 (dancestudiolaw44_CollideFirst.j0 kq l0 l1 l2 x28_3 = some r) ∧ Aside0 (kq ≤ k) ∧ Aside0 (Below w.heap.size w wc))
 case first =>
  have H := HC4.out
  clear HC4
  replace H := Option.bind_eq_some_iff.mp H
  obtain ⟨t617, A50, H⟩ := H
  replace H : (if t617 = true then ((collide_Check.f k l0 l1 l2).bind fun t618 => (if t618 = 0 then (dancestudiolaw44_CollideFirst.j0 k l0 l1 l2 ((l0.length : Int) == 0)) else (dancestudiolaw44_CollideFirst.j0 k l0 l1 l2 true))) else (dancestudiolaw44_CollideFirst.j0 k l0 l1 l2 true)) = some r := H
  have A5 := am A50
  clear A50
  by_cases c6 : t617 = true
  ·
   subst c6
   have H1 : ((collide_Check.f k l0 l1 l2).bind fun t618 => (if t618 = 0 then (dancestudiolaw44_CollideFirst.j0 k l0 l1 l2 ((l0.length : Int) == 0)) else (dancestudiolaw44_CollideFirst.j0 k l0 l1 l2 true))) = some r := by rw [if_pos rfl] at H; exact H
   clear H
   have H := H1
   clear H1
   replace H := Option.bind_eq_some_iff.mp H
   obtain ⟨t618, A70, H⟩ := H
   replace H : (if t618 = 0 then (dancestudiolaw44_CollideFirst.j0 k l0 l1 l2 ((l0.length : Int) == 0)) else (dancestudiolaw44_CollideFirst.j0 k l0 l1 l2 true)) = some r := H
   have A7 := am A70
   clear A70
   by_cases c8 : t618 = 0
   ·
    rw [if_pos c8] at H
    have c8b0 : (t618 == 0) = true := beq_iff_eq.mpr c8
    have c8b1 : (t618 != 0) = false := bne_eq_false_iff_eq.mpr c8
    clear c8
    (first | rw [c8b0] | (simp only [i64_w, i32_w]; rw [c8b0]) | skip)
    have H' := am H
    clear H
    go_wp2_with (first | ((with_reducible refine gate_callee (f := 11) rfl ?_); refine goesL_ (some 15) rfl rfl Try.func11 qz rfl #[.slice A0 l0.length c0, .slice A2 l2.length c2] rfl mz ?_; (with_reducible refine (dancestudioref44_Light.calls k _ _ l0 _ _ l2 true _ ?side1 ?side2 ?side3 ?side4 A5.out).mono ?_); (case side1 => exact cz HR0); (case side2 => exact HC0.out); (case side3 => exact cz HR2); (case side4 => exact HC2.out); rintro e w' ⟨rfl, ⟨nd, rfl⟩⟩; refine ⟨_, rfl, ?_⟩) | (go_at_call 14; (with_reducible refine (collide_Check.calls k _ _ l0 _ _ l1 _ _ l2 t618 _ ?side1 ?side2 ?side3 ?side4 ?side5 ?side6 A7.out).mono ?_); (case side1 => repeat (first | exact (Kd.C_below HR0.out bz) | (with_reducible first | apply cA | apply cN | apply cD))); (case side2 => exact HC0.out); (case side3 => repeat (first | exact (Kd.C_below HR1.out bz) | (with_reducible first | apply cA | apply cN | apply cD))); (case side4 => exact HC1.out); (case side5 => repeat (first | exact (Kd.C_below HR2.out bz) | (with_reducible first | apply cA | apply cN | apply cD))); (case side6 => exact HC2.out); rintro e w9 ⟨rfl, hb⟩; replace HB := am (below_step bz hb); (try clear hb); (try clear hb2); (try clear hk); (try clear hi)))
    go_meet
    case rel => exact ⟨_, (((l0.length : Int) == 0)), sz, H', ⟨by first | omega | exact Nat.le_refl _⟩, ⟨bz⟩⟩
   ·
    rw [if_neg c8] at H
    have c8b0 : (t618 == 0) = false := beq_eq_false_iff_ne.mpr c8
    have c8b1 : (t618 != 0) = true := bne_iff_ne.mpr c8
    (first | rw [c8b0] | (simp only [i64_w, i32_w]; rw [c8b0]) | skip)
    have H' := am H
    clear H
    go_wp2_with (first | ((with_reducible refine gate_callee (f := 11) rfl ?_); refine goesL_ (some 15) rfl rfl Try.func11 qz rfl #[.slice A0 l0.length c0, .slice A2 l2.length c2] rfl mz ?_; (with_reducible refine (dancestudioref44_Light.calls k _ _ l0 _ _ l2 true _ ?side1 ?side2 ?side3 ?side4 A5.out).mono ?_); (case side1 => exact cz HR0); (case side2 => exact HC0.out); (case side3 => exact cz HR2); (case side4 => exact HC2.out); rintro e w' ⟨rfl, ⟨nd, rfl⟩⟩; refine ⟨_, rfl, ?_⟩) | (go_at_call 14; (with_reducible refine (collide_Check.calls k _ _ l0 _ _ l1 _ _ l2 t618 _ ?side1 ?side2 ?side3 ?side4 ?side5 ?side6 A7.out).mono ?_); (case side1 => repeat (first | exact (Kd.C_below HR0.out bz) | (with_reducible first | apply cA | apply cN | apply cD))); (case side2 => exact HC0.out); (case side3 => repeat (first | exact (Kd.C_below HR1.out bz) | (with_reducible first | apply cA | apply cN | apply cD))); (case side4 => exact HC1.out); (case side5 => repeat (first | exact (Kd.C_below HR2.out bz) | (with_reducible first | apply cA | apply cN | apply cD))); (case side6 => exact HC2.out); rintro e w10 ⟨rfl, hb⟩; replace HB := am (below_step bz hb); (try clear hb); (try clear hb2); (try clear hk); (try clear hi)))
    go_meet
    case rel => exact ⟨_, (true), sz, H', ⟨by first | omega | exact Nat.le_refl _⟩, ⟨bz⟩⟩
  ·
   replace c6 := Bool.eq_false_iff.mpr c6
   subst c6
   have H1 : (dancestudiolaw44_CollideFirst.j0 k l0 l1 l2 true) = some r := by rw [if_neg (show ¬ (false = true) by decide)] at H; exact H
   clear H
   have H := H1
   clear H1
   have H' := am H
   clear H
   go_wp2_with (first | ((with_reducible refine gate_callee (f := 11) rfl ?_); refine goesL_ (some 15) rfl rfl Try.func11 qz rfl #[.slice A0 l0.length c0, .slice A2 l2.length c2] rfl mz ?_; (with_reducible refine (dancestudioref44_Light.calls k _ _ l0 _ _ l2 false _ ?side1 ?side2 ?side3 ?side4 A5.out).mono ?_); (case side1 => exact cz HR0); (case side2 => exact HC0.out); (case side3 => exact cz HR2); (case side4 => exact HC2.out); rintro e w' ⟨rfl, ⟨nd, rfl⟩⟩; refine ⟨_, rfl, ?_⟩))
   go_meet
   case rel => exact ⟨_, (true), sz, H', ⟨by first | omega | exact Nat.le_refl _⟩, ⟨bz⟩⟩
 case rest =>
  clear HC4
  try clear c1
  try clear c2
  try clear p2
  try clear c6
  try clear c8
  try clear c8b0
  try clear c8b1
  obtain ⟨kq, x28_3, rfl, HA, HJ3, HB⟩ := hcut
  cases kq with
  | zero => exact absurd HA.out (by simp [dancestudiolaw44_CollideFirst.j0])
  | succ kj3 =>
   have H := HA.out
   clear HA
   simp only [dancestudiolaw44_CollideFirst.j0] at H
   by_cases c11 : x28_3 = true
   ·
    subst c11
    have H1 : ((dancestudiolaw44_awake.f kj3).bind fun t621 => (some t621)) = some r := by rw [if_pos rfl] at H; exact H
    clear H
    have H := H1
    clear H1
    replace H := Option.bind_eq_some_iff.mp H
    obtain ⟨t621, A120, H⟩ := H
    replace H : (some t621) = some r := H
    have A12 := am A120
    clear A120
    obtain rfl := Option.some.inj H
    go_wp2_with (first | ((with_reducible refine gate_callee (f := 12) rfl ?_); refine goesL_ (some 29) rfl rfl Try.func12 qz rfl #[] rfl mz ?_; (with_reducible refine (dancestudiolaw44_awake.calls kj3  t621 _ A12.out).mono ?_); rintro e w13 ⟨rfl, hb⟩; refine ⟨_, rfl, ?_⟩; replace HB := am (below_step bz hb); (try clear hb); (try clear hb2); (try clear hk); (try clear hi)))
    go_ret
    exact ⟨ez, bz⟩
   ·
    replace c11 := Bool.eq_false_iff.mpr c11
    subst c11
    have H1 : ((collide_First.f kj3 l0 l1 l2).bind fun bt622 => (if bt622.2.2.2 = 0 then (if (l1.length : Int) = (l0.length : Int) then (if 0 < (l0.length : Int) then (dancestudiolaw44_CollideFirst.l0 kj3 l0 l1 l2 (((rd_T43 l0 0).f1).length : Int) 0 bt622.1 bt622.2.1 bt622.2.2.1) else (none)) else (none)) else (none))) = some r := by rw [if_neg (show ¬ (false = true) by decide)] at H; exact H
    clear H
    have H := H1
    clear H1
    replace H := Option.bind_eq_some_iff.mp H
    obtain ⟨⟨t622, t623, t624, t625⟩, A140, H⟩ := H
    replace H : (if t625 = 0 then (if (l1.length : Int) = (l0.length : Int) then (if 0 < (l0.length : Int) then (dancestudiolaw44_CollideFirst.l0 kj3 l0 l1 l2 (((rd_T43 l0 0).f1).length : Int) 0 t622 t623 t624) else (none)) else (none)) else (none)) = some r := H
    have A14 := am A140
    clear A140
    by_cases c15 : t625 = 0
    ·
     rw [if_pos c15] at H
     have c15b0 : (t625 == 0) = true := beq_iff_eq.mpr c15
     have c15b1 : (t625 != 0) = false := bne_eq_false_iff_eq.mpr c15
     clear c15
     by_cases c16 : (l1.length : Int) = (l0.length : Int); rotate_left
     · rw [if_neg c16] at H; exact absurd H (by simp)
     rw [if_pos c16] at H
     have c16b0 : ((l1.length : Int) == (l0.length : Int)) = true := beq_iff_eq.mpr c16
     have c16b1 : ((l1.length : Int) != (l0.length : Int)) = false := bne_eq_false_iff_eq.mpr c16
     have c16b2 : (l1.length == l0.length) = true := by first | simpa using c16 | (simp at c16 ⊢; omega)
     clear c16
     by_cases c17 : 0 < (l0.length : Int); rotate_left
     · rw [if_neg c17] at H; exact absurd H (by simp)
     rw [if_pos c17] at H
     have c17b0 := decide_eq_true c17
     have c17b1 : decide (0 < l0.length) = true := decide_eq_true (by omega)
     clear c17
     have H' := am H
     clear H
     go_wp2_with (first | ((with_reducible refine gate_callee (f := 15) rfl ?_); refine goesL_ (some 34) rfl rfl Try.func15 qz rfl #[.slice A0 l0.length c0, .slice A1 l1.length c1, .slice A2 l2.length c2] rfl mz ?_; (with_reducible refine (collide_First.calls kj3 _ _ l0 _ _ l1 _ _ l2 t622 t623 t624 t625 _ ?side1 ?side2 ?side3 ?side4 ?side5 ?side6 A14.out).mono ?_); (case side1 => exact cz HR0); (case side2 => exact HC0.out); (case side3 => exact cz HR1); (case side4 => exact HC1.out); (case side5 => exact cz HR2); (case side6 => exact HC2.out); rintro e w18 ⟨rfl, hb⟩; refine ⟨_, rfl, ?_⟩; replace HB := am (below_step bz hb); (try clear hb); (try clear hb2); (try clear hk); (try clear hi)) | ((with_reducible refine gate_dst (N := 7) rfl ?_); refine box_event yz (N := 7) yz (cs := #[.int .i64 0, .int .i64 0, .int .i64 0]) (t := 30) gz ?_; intro gb626 hg w19 hbox hb; have BK626 := am (hbox); have GW626 := gwz (g := gb626) HB hg; have GE626 := GW626; replace HB := am (below_step bz hb); clear hb hbox hg; obtain ⟨hcz20_0, hcz20_1, hcz20_2, hfz20_0, hfz20_1, hfz20_2⟩ := kc3 BK626.out; have p627 : 0 ≤ (0 : Int) := (by omega); have q627 : 0 < (l0.length : Int) := az; obtain ⟨ad627, A627_0, c627_0, A627_1, c627_1, e627, hx627_0, hx627_1, hl627_0, hi627_0, hl627_1, hi627_1⟩ := at_T43 HR0.out 0 p627 q627; cases e627; have qi627 : (0 < l0.length) = True := eq_true (by omega); (try rw [show ((0 : Int)).toNat = 0 from rfl] at hx627_0); (try rw [show 0 * 2 = 0 from rfl] at hx627_0); (try rw [Addr.add_zero'] at hx627_0); (try rw [show ((0 : Int)).toNat = 0 from rfl] at hx627_1); (try rw [show 0 * 2 = 0 from rfl] at hx627_1); (try rw [Addr.add_zero'] at hx627_1); have hn627_0 : ad627.block ≠ gb626 := Nat.ne_of_lt (Nat.lt_of_lt_of_le (by have := World.block_lt_of_cell? _ _ hx627_0; first | rwa [add_block] at this | exact this) GW626.out); have hn627_1 : ad627.block ≠ gb626 := Nat.ne_of_lt (Nat.lt_of_lt_of_le (by have := World.block_lt_of_cell? _ _ hx627_0; first | rwa [add_block] at this | exact this) GW626.out); have hn627_2 : ad627.block ≠ gb626 := Nat.ne_of_lt (Nat.lt_of_lt_of_le (by have := World.block_lt_of_cell? _ _ hx627_0; first | rwa [add_block] at this | exact this) GW626.out); replace hx627_0 := cb HB.out hx627_0; replace hx627_1 := cb HB.out hx627_1; have HR627_0 := am hi627_0; have HC627_0 := am hl627_0; clear hi627_0 hl627_0; have HR627_1 := am hi627_1; have HC627_1 := am hl627_1; clear hi627_1 hl627_1; replace hx627_0 := (cell_far (p := ⟨gb626, 0, none⟩) (by first | (rw [add_block]; exact hn627_0) | (show (Addr.add _ _).block ≠ _; rw [add_block]; exact hn627_0) | exact hn627_0) (.int .i64 t622)).trans hx627_0; replace hx627_1 := (cell_far (p := ⟨gb626, 0, none⟩) (by first | (rw [add_block]; exact hn627_0) | (show (Addr.add _ _).block ≠ _; rw [add_block]; exact hn627_0) | exact hn627_0) (.int .i64 t622)).trans hx627_1; replace hx627_0 := (cell_far (p := ⟨gb626, 1, none⟩) (by first | (rw [add_block]; exact hn627_1) | (show (Addr.add _ _).block ≠ _; rw [add_block]; exact hn627_1) | exact hn627_1) (.int .i64 t623)).trans hx627_0; replace hx627_1 := (cell_far (p := ⟨gb626, 1, none⟩) (by first | (rw [add_block]; exact hn627_1) | (show (Addr.add _ _).block ≠ _; rw [add_block]; exact hn627_1) | exact hn627_1) (.int .i64 t623)).trans hx627_1; replace hx627_0 := (cell_far (p := ⟨gb626, 2, none⟩) (by first | (rw [add_block]; exact hn627_2) | (show (Addr.add _ _).block ≠ _; rw [add_block]; exact hn627_2) | exact hn627_2) (.int .i64 t624)).trans hx627_0; replace hx627_1 := (cell_far (p := ⟨gb626, 2, none⟩) (by first | (rw [add_block]; exact hn627_2) | (show (Addr.add _ _).block ≠ _; rw [add_block]; exact hn627_2) | exact hn627_2) (.int .i64 t624)).trans hx627_1; clear hn627_0; clear hn627_1; clear hn627_2; replace p627 := eq_true p627; replace q627 := eq_true q627))
     go_loopg [10] kj3 (fun kq v10 w' => ∃ (x10_2 : Int), v10 = .int .i64 x10_2 ∧ Aside0 (dancestudiolaw44_CollideFirst.l0 kq l0 l1 l2 (((rd_T43 l0 0).f1).length : Int) x10_2 t622 t623 t624 = some r) ∧ Aside0 (kq ≤ kj3) ∧ Aside0 (w'.heap[gb626]? = some (.cells #[.int .i64 t622, .int .i64 t623, .int .i64 t624] 30 (0, 0))) ∧ Aside0 (Below w.heap.size w w'))
     case atStart => exact ⟨(0), sz, H', ⟨Nat.le_refl _⟩, ⟨by (with_reducible repeat first | apply kN | apply kD | apply kA); refine blk_put (cs := #[.int .i64 t622, .int .i64 t623, .int .i64 0]) ?_ 2 _ rfl; (with_reducible repeat first | apply kN | apply kD | apply kA); refine blk_put (cs := #[.int .i64 t622, .int .i64 0, .int .i64 0]) ?_ 1 _ rfl; (with_reducible repeat first | apply kN | apply kD | apply kA); refine blk_put (cs := #[.int .i64 0, .int .i64 0, .int .i64 0]) ?_ 0 _ rfl; (with_reducible repeat first | apply kN | apply kD | apply kA); exact BK626.out⟩, ⟨bz⟩⟩
     case round =>
      clear H'
      try clear c1
      try clear c2
      try clear p2
      try clear c6
      try clear p6
      try clear q6
      try clear hx6
      try clear qi6
      try clear c8
      try clear c8b0
      try clear c8b1
      try clear c11
      try clear c12
      try clear c15
      try clear c15b0
      try clear c15b1
      try clear c16
      try clear c16b0
      try clear c16b1
      try clear c16b2
      try clear c17
      try clear c17b0
      try clear c17b1
      try clear hcz20_0
      try clear hcz20_1
      try clear hcz20_2
      try clear hfz20_0
      try clear hfz20_1
      try clear hfz20_2
      try clear hx627_0
      try clear hx627_1
      try clear p2
      try clear p627
      try clear q627
      obtain ⟨x10_2, rfl, HA, HK2, BK626, HB⟩ := hrel
      cases gk with
      | zero => exact absurd HA.out (by simp [dancestudiolaw44_CollideFirst.l0])
      | succ k2 =>
       have H := HA.out
       clear HA
       simp only [dancestudiolaw44_CollideFirst.l0] at H
       by_cases c21 : x10_2 < (((rd_T43 l0 0).f1).length : Int)
       ·
        rw [if_pos c21] at H
        have c21b0 := decide_eq_true c21
        clear c21
        have H' := am H
        clear H
        go_wp2
        go_loopg [11] k2 (fun kq v11 w' => ∃ (x11_3 : Int), v11 = .int .i64 x11_3 ∧ Aside0 (dancestudiolaw44_CollideFirst.l1 kq l0 l1 l2 (((rd_T43 l0 0).f1).length : Int) x10_2 x11_3 t622 t623 t624 = some r) ∧ Aside0 (kq ≤ k2) ∧ Aside0 (w'.heap[gb626]? = some (.cells #[.int .i64 t622, .int .i64 t623, .int .i64 t624] 30 (0, 0))) ∧ Aside0 (Below w.heap.size w w'))
        case atStart => exact ⟨(0), sz, H', ⟨Nat.le_refl _⟩, ⟨kz BK626⟩, ⟨bz⟩⟩
        case round =>
         clear H'
         try clear c1
         try clear c2
         try clear p2
         try clear c6
         try clear p6
         try clear q6
         try clear hx6
         try clear qi6
         try clear c8
         try clear c8b0
         try clear c8b1
         try clear c11
         try clear c12
         try clear c15
         try clear c15b0
         try clear c15b1
         try clear c16
         try clear c16b0
         try clear c16b1
         try clear c16b2
         try clear c17
         try clear c17b0
         try clear c17b1
         try clear c21
         try clear c21b0
         try clear hcz20_0
         try clear hcz20_1
         try clear hcz20_2
         try clear hfz20_0
         try clear hfz20_1
         try clear hfz20_2
         try clear hx627_0
         try clear hx627_1
         try clear p2
         try clear p6
         try clear p627
         try clear q6
         try clear q627
         obtain ⟨x11_3, rfl, HA, HK3, BK626, HB⟩ := hrel
         cases gk with
         | zero => exact absurd HA.out (by simp [dancestudiolaw44_CollideFirst.l1])
         | succ k3 =>
          have H := HA.out
          clear HA
          simp only [dancestudiolaw44_CollideFirst.l1] at H
          by_cases c22 : x11_3 < (l0.length : Int)
          ·
           rw [if_pos c22] at H
           have c22b0 := decide_eq_true c22
           clear c22
           have H' := am H
           clear H
           go_wp2
           go_loopg [12] k3 (fun kq v12 w' => ∃ (x12_4 : Int), v12 = .int .i64 x12_4 ∧ Aside0 (dancestudiolaw44_CollideFirst.l2 kq l0 l1 l2 (((rd_T43 l0 0).f1).length : Int) x10_2 x11_3 x12_4 t622 t623 t624 = some r) ∧ Aside0 (kq ≤ k3) ∧ Aside0 (w'.heap[gb626]? = some (.cells #[.int .i64 t622, .int .i64 t623, .int .i64 t624] 30 (0, 0))) ∧ Aside0 (Below w.heap.size w w'))
           case atStart => exact ⟨(wrap64 (x11_3 + 1)), sz, H', ⟨Nat.le_refl _⟩, ⟨kz BK626⟩, ⟨bz⟩⟩
           case round =>
            clear H'
            try clear c1
            try clear c2
            try clear p2
            try clear c6
            try clear p6
            try clear q6
            try clear hx6
            try clear qi6
            try clear c8
            try clear c8b0
            try clear c8b1
            try clear c11
            try clear c12
            try clear c15
            try clear c15b0
            try clear c15b1
            try clear c16
            try clear c16b0
            try clear c16b1
            try clear c16b2
            try clear c17
            try clear c17b0
            try clear c17b1
            try clear c21
            try clear c21b0
            try clear c22
            try clear c22b0
            try clear hcz20_0
            try clear hcz20_1
            try clear hcz20_2
            try clear hfz20_0
            try clear hfz20_1
            try clear hfz20_2
            try clear hx627_0
            try clear hx627_1
            try clear p2
            try clear p6
            try clear p627
            try clear q6
            try clear q627
            obtain ⟨x12_4, rfl, HA, HK4, BK626, HB⟩ := hrel
            cases gk with
            | zero => exact absurd HA.out (by simp [dancestudiolaw44_CollideFirst.l2])
            | succ k4 =>
             have H := HA.out
             clear HA
             simp only [dancestudiolaw44_CollideFirst.l2] at H
             by_cases c23 : x12_4 < (l0.length : Int)
             ·
              rw [if_pos c23] at H
              have c23b0 := decide_eq_true c23
              clear c23
              by_cases c24 : 0 ≤ x11_3; rotate_left
              · rw [if_neg c24] at H; exact absurd H (by simp)
              rw [if_pos c24] at H
              have c24b0 := decide_eq_true c24
              clear c24
              by_cases c25 : x11_3 < (l0.length : Int); rotate_left
              · rw [if_neg c25] at H; exact absurd H (by simp)
              rw [if_pos c25] at H
              have c25b0 := decide_eq_true c25
              clear c25
              by_cases c26 : (((rd_T43 l0 x11_3).f0).length : Int) = (wrap64 ((((rd_T43 l0 0).f1).length : Int) + 1)); rotate_left
              · rw [if_neg c26] at H; exact absurd H (by simp)
              rw [if_pos c26] at H
              have c26b0 : ((((rd_T43 l0 x11_3).f0).length : Int) == (wrap64 ((((rd_T43 l0 0).f1).length : Int) + 1))) = true := beq_iff_eq.mpr c26
              have c26b1 : ((((rd_T43 l0 x11_3).f0).length : Int) != (wrap64 ((((rd_T43 l0 0).f1).length : Int) + 1))) = false := bne_eq_false_iff_eq.mpr c26
              clear c26
              by_cases c27 : 0 ≤ x12_4; rotate_left
              · rw [if_neg c27] at H; exact absurd H (by simp)
              rw [if_pos c27] at H
              have c27b0 := decide_eq_true c27
              clear c27
              by_cases c28 : (((rd_T43 l0 x12_4).f0).length : Int) = (wrap64 ((((rd_T43 l0 0).f1).length : Int) + 1)); rotate_left
              · rw [if_neg c28] at H; exact absurd H (by simp)
              rw [if_pos c28] at H
              have c28b0 : ((((rd_T43 l0 x12_4).f0).length : Int) == (wrap64 ((((rd_T43 l0 0).f1).length : Int) + 1))) = true := beq_iff_eq.mpr c28
              have c28b1 : ((((rd_T43 l0 x12_4).f0).length : Int) != (wrap64 ((((rd_T43 l0 0).f1).length : Int) + 1))) = false := bne_eq_false_iff_eq.mpr c28
              clear c28
              replace H := Option.bind_eq_some_iff.mp H
              obtain ⟨t631, A290, H⟩ := H
              replace H : ((dancestudiolaw44_near.f k4 l0 l1 x11_3 x12_4 x10_2 t631).bind fun t632 => (if t632 = true then (if (t622 == x10_2 && (t623 == x11_3 && (t624 == x12_4))) = true then ((dancestudiolaw44_awake.f k4).bind fun t633 => (some t633)) else (none)) else (dancestudiolaw44_CollideFirst.l2 k4 l0 l1 l2 (((rd_T43 l0 0).f1).length : Int) x10_2 x11_3 (wrap64 (x12_4 + 1)) t622 t623 t624))) = some r := H
              have A29 := am A290
              clear A290
              replace H := Option.bind_eq_some_iff.mp H
              obtain ⟨t632, A300, H⟩ := H
              replace H : (if t632 = true then (if (t622 == x10_2 && (t623 == x11_3 && (t624 == x12_4))) = true then ((dancestudiolaw44_awake.f k4).bind fun t633 => (some t633)) else (none)) else (dancestudiolaw44_CollideFirst.l2 k4 l0 l1 l2 (((rd_T43 l0 0).f1).length : Int) x10_2 x11_3 (wrap64 (x12_4 + 1)) t622 t623 t624)) = some r := H
              have A30 := am A300
              clear A300
              by_cases c31 : t632 = true
              ·
               subst c31
               have H1 : (if (t622 == x10_2 && (t623 == x11_3 && (t624 == x12_4))) = true then ((dancestudiolaw44_awake.f k4).bind fun t633 => (some t633)) else (none)) = some r := by rw [if_pos rfl] at H; exact H
               clear H
               have H := H1
               clear H1
               by_cases c32 : (t622 == x10_2 && (t623 == x11_3 && (t624 == x12_4))) = true; rotate_left
               · rw [if_neg c32] at H; exact absurd H (by simp)
               rw [if_pos c32] at H
               have c32b0 : (t622 == x10_2 && (t623 == x11_3 && (t624 == x12_4))) = true := c32
               (try (have c32b1 : decide (t622 = x10_2 && (t623 == x11_3 && (t624 == x12_4))) = true := by simpa using c32))
               (try (have c32b2 : (t622 == x10_2 && (t623 == x11_3 && (t624 == x12_4))) = true := by simpa using c32))
               clear c32
               replace H := Option.bind_eq_some_iff.mp H
               obtain ⟨t633, A330, H⟩ := H
               replace H : (some t633) = some r := H
               have A33 := am A330
               clear A330
               obtain rfl := Option.some.inj H
               have p629 : 0 ≤ (x11_3 : Int) := az
               have q629 : x11_3 < (l0.length : Int) := az
               obtain ⟨ad629, A629_0, c629_0, A629_1, c629_1, e629, hx629_0, hx629_1, hl629_0, hi629_0, hl629_1, hi629_1⟩ := at_T43 HR0.out x11_3 p629 q629
               obtain rfl : ad627 = ad629 := (by injection e629)
               replace hx629_0 := cb HB.out hx629_0
               replace hx629_1 := cb HB.out hx629_1
               have HR629_0 := am hi629_0
               have HC629_0 := am hl629_0
               clear hi629_0 hl629_0
               have HR629_1 := am hi629_1
               have HC629_1 := am hl629_1
               clear hi629_1 hl629_1
               replace p629 := eq_true p629
               replace q629 := eq_true q629
               have p630 : 0 ≤ (x12_4 : Int) := az
               have q630 : x12_4 < (l0.length : Int) := az
               obtain ⟨ad630, A630_0, c630_0, A630_1, c630_1, e630, hx630_0, hx630_1, hl630_0, hi630_0, hl630_1, hi630_1⟩ := at_T43 HR0.out x12_4 p630 q630
               obtain rfl : ad627 = ad630 := (by injection e630)
               replace hx630_0 := cb HB.out hx630_0
               replace hx630_1 := cb HB.out hx630_1
               have HR630_0 := am hi630_0
               have HC630_0 := am hl630_0
               clear hi630_0 hl630_0
               have HR630_1 := am hi630_1
               have HC630_1 := am hl630_1
               clear hi630_1 hl630_1
               replace p630 := eq_true p630
               replace q630 := eq_true q630
               go_wp2_with (first | ((with_reducible refine gate_callee (f := 23) rfl ?_); refine goesL_ (some 99) rfl rfl Try.func23 qz rfl #[.slice A2 l2.length c2, .int .i64 x11_3, .int .i64 x12_4, .int .i64 x10_2] rfl mz ?_; (with_reducible refine (dancestudiolaw44_partners.calls k4 _ _ l2 x11_3 x12_4 x10_2 t631 _ ?side1 ?side2 A29.out).mono ?_); (case side1 => exact cz HR2); (case side2 => exact HC2.out); rintro e w34 ⟨rfl, hb⟩; refine ⟨_, rfl, ?_⟩; replace BK626 := am (blk_below (o := .cells #[.int .i64 t622, .int .i64 t623, .int .i64 t624] 30 (0, 0)) (kz BK626) hb); replace HB := am (below_step bz hb); (try clear hb); (try clear hb2); (try clear hk); (try clear hi)) | ((with_reducible refine gate_callee (f := 22) rfl ?_); refine goesL_ (some 100) rfl rfl Try.func22 qz rfl #[.slice (some ad627) l0.length c0, .slice A1 l1.length c1, .int .i64 x11_3, .int .i64 x12_4, .int .i64 x10_2, .bool t631] rfl mz ?_; (with_reducible refine (dancestudiolaw44_near.calls k4 _ _ l0 _ _ l1 x11_3 x12_4 x10_2 t631 true _ ?side1 ?side2 ?side3 ?side4 A30.out).mono ?_); (case side1 => exact cz HR0); (case side2 => exact HC0.out); (case side3 => exact cz HR1); (case side4 => exact HC1.out); rintro e w35 ⟨rfl, hb⟩; refine ⟨_, rfl, ?_⟩; replace BK626 := am (blk_below (o := .cells #[.int .i64 t622, .int .i64 t623, .int .i64 t624] 30 (0, 0)) (kz BK626) hb); replace HB := am (below_step bz hb); (try clear hb); (try clear hb2); (try clear hk); (try clear hi); obtain ⟨hcz36_0, hcz36_1, hcz36_2, hfz36_0, hfz36_1, hfz36_2⟩ := kc3 BK626.out) | (go_at_call 12; (with_reducible refine (dancestudiolaw44_awake.calls k4  t633 _ A33.out).mono ?_); rintro e w37 ⟨rfl, hb⟩; replace BK626 := am (blk_below (o := .cells #[.int .i64 t622, .int .i64 t623, .int .i64 t624] 30 (0, 0)) (kz BK626) hb); replace HB := am (below_step bz hb); (try clear hb); (try clear hb2); (try clear hk); (try clear hi)))
               go_ret
               exact ⟨ez, bz⟩
              ·
               replace c31 := Bool.eq_false_iff.mpr c31
               subst c31
               have H1 : (dancestudiolaw44_CollideFirst.l2 k4 l0 l1 l2 (((rd_T43 l0 0).f1).length : Int) x10_2 x11_3 (wrap64 (x12_4 + 1)) t622 t623 t624) = some r := by rw [if_neg (show ¬ (false = true) by decide)] at H; exact H
               clear H
               have H := H1
               clear H1
               have H' := am H
               clear H
               have p629 : 0 ≤ (x11_3 : Int) := az
               have q629 : x11_3 < (l0.length : Int) := az
               obtain ⟨ad629, A629_0, c629_0, A629_1, c629_1, e629, hx629_0, hx629_1, hl629_0, hi629_0, hl629_1, hi629_1⟩ := at_T43 HR0.out x11_3 p629 q629
               obtain rfl : ad627 = ad629 := (by injection e629)
               replace hx629_0 := cb HB.out hx629_0
               replace hx629_1 := cb HB.out hx629_1
               have HR629_0 := am hi629_0
               have HC629_0 := am hl629_0
               clear hi629_0 hl629_0
               have HR629_1 := am hi629_1
               have HC629_1 := am hl629_1
               clear hi629_1 hl629_1
               replace p629 := eq_true p629
               replace q629 := eq_true q629
               have p630 : 0 ≤ (x12_4 : Int) := az
               have q630 : x12_4 < (l0.length : Int) := az
               obtain ⟨ad630, A630_0, c630_0, A630_1, c630_1, e630, hx630_0, hx630_1, hl630_0, hi630_0, hl630_1, hi630_1⟩ := at_T43 HR0.out x12_4 p630 q630
               obtain rfl : ad627 = ad630 := (by injection e630)
               replace hx630_0 := cb HB.out hx630_0
               replace hx630_1 := cb HB.out hx630_1
               have HR630_0 := am hi630_0
               have HC630_0 := am hl630_0
               clear hi630_0 hl630_0
               have HR630_1 := am hi630_1
               have HC630_1 := am hl630_1
               clear hi630_1 hl630_1
               replace p630 := eq_true p630
               replace q630 := eq_true q630
               go_wp2_with (first | ((with_reducible refine gate_callee (f := 23) rfl ?_); refine goesL_ (some 99) rfl rfl Try.func23 qz rfl #[.slice A2 l2.length c2, .int .i64 x11_3, .int .i64 x12_4, .int .i64 x10_2] rfl mz ?_; (with_reducible refine (dancestudiolaw44_partners.calls k4 _ _ l2 x11_3 x12_4 x10_2 t631 _ ?side1 ?side2 A29.out).mono ?_); (case side1 => exact cz HR2); (case side2 => exact HC2.out); rintro e w38 ⟨rfl, hb⟩; refine ⟨_, rfl, ?_⟩; replace BK626 := am (blk_below (o := .cells #[.int .i64 t622, .int .i64 t623, .int .i64 t624] 30 (0, 0)) (kz BK626) hb); replace HB := am (below_step bz hb); (try clear hb); (try clear hb2); (try clear hk); (try clear hi)) | ((with_reducible refine gate_callee (f := 22) rfl ?_); refine goesL_ (some 100) rfl rfl Try.func22 qz rfl #[.slice (some ad627) l0.length c0, .slice A1 l1.length c1, .int .i64 x11_3, .int .i64 x12_4, .int .i64 x10_2, .bool t631] rfl mz ?_; (with_reducible refine (dancestudiolaw44_near.calls k4 _ _ l0 _ _ l1 x11_3 x12_4 x10_2 t631 false _ ?side1 ?side2 ?side3 ?side4 A30.out).mono ?_); (case side1 => exact cz HR0); (case side2 => exact HC0.out); (case side3 => exact cz HR1); (case side4 => exact HC1.out); rintro e w39 ⟨rfl, hb⟩; refine ⟨_, rfl, ?_⟩; replace BK626 := am (blk_below (o := .cells #[.int .i64 t622, .int .i64 t623, .int .i64 t624] 30 (0, 0)) (kz BK626) hb); replace HB := am (below_step bz hb); (try clear hb); (try clear hb2); (try clear hk); (try clear hi)))
               go_roundg k4
               case measure => have := HJ3.out; have := HK2.out; have := HK3.out; have := HK4.out; omega
               case rel => exact ⟨(wrap64 (x12_4 + 1)), sz, H', ⟨by have := HJ3.out; have := HK2.out; have := HK3.out; have := HK4.out; omega⟩, ⟨kz BK626⟩, ⟨bz⟩⟩
             ·
              rw [if_neg c23] at H
              have c23b0 := decide_eq_false c23
              clear c23
              have H' := am H
              clear H
              go_wp2
              go_roundg k4
              case measure => have := HJ3.out; have := HK2.out; have := HK3.out; have := HK4.out; omega
              case rel => exact ⟨(wrap64 (x11_3 + 1)), sz, H', ⟨by have := HJ3.out; have := HK2.out; have := HK3.out; have := HK4.out; omega⟩, ⟨kz BK626⟩, ⟨bz⟩⟩
          ·
           rw [if_neg c22] at H
           have c22b0 := decide_eq_false c22
           clear c22
           have H' := am H
           clear H
           go_wp2
           go_roundg k3
           case measure => have := HJ3.out; have := HK2.out; have := HK3.out; omega
           case rel => exact ⟨(wrap64 (x10_2 + 1)), sz, H', ⟨by have := HJ3.out; have := HK2.out; have := HK3.out; omega⟩, ⟨kz BK626⟩, ⟨bz⟩⟩
       ·
        rw [if_neg c21] at H
        have c21b0 := decide_eq_false c21
        clear c21
        by_cases c40 : (t622 == (-1) && (t623 == 0 && (t624 == 0))) = true; rotate_left
        · rw [if_neg c40] at H; exact absurd H (by simp)
        rw [if_pos c40] at H
        have c40b0 : (t622 == (-1) && (t623 == 0 && (t624 == 0))) = true := c40
        (try (have c40b1 : decide (t622 = (-1) && (t623 == 0 && (t624 == 0))) = true := by simpa using c40))
        (try (have c40b2 : (t622 == (-1) && (t623 == 0 && (t624 == 0))) = true := by simpa using c40))
        clear c40
        replace H := Option.bind_eq_some_iff.mp H
        obtain ⟨t628, A410, H⟩ := H
        replace H : (some t628) = some r := H
        have A41 := am A410
        clear A410
        obtain rfl := Option.some.inj H
        obtain ⟨hcz42_0, hcz42_1, hcz42_2, hfz42_0, hfz42_1, hfz42_2⟩ := kc3 BK626.out
        go_wp2_with (first | (go_at_call 12; (with_reducible refine (dancestudiolaw44_awake.calls k2  t628 _ A41.out).mono ?_); rintro e w43 ⟨rfl, hb⟩; replace BK626 := am (blk_below (o := .cells #[.int .i64 t622, .int .i64 t623, .int .i64 t624] 30 (0, 0)) (kz BK626) hb); replace HB := am (below_step bz hb); (try clear hb); (try clear hb2); (try clear hk); (try clear hi)))
        go_ret
        exact ⟨ez, bz⟩
    ·
     rw [if_neg c15] at H
     exact absurd H (by simp)

end Go.Proofs.Yteflngoiebgdaaa.X
