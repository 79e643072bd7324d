-- squeezed
-- written by xprint.py, an own overlay over the kit's print; not trusted: Lean checks it
import Derived.Test.YtmdmajfgpmopbaaX0
import Derived.Test.YtmdmajfgpmopbaaX1
import Derived.Test.YtmdmajfgpmopbaaX4
import Derived.Test.YtmdmajfgpmopbaaX10
import Derived.Test.YtmdmajfgpmopbaaX12
import Derived.Test.YtmdmajfgpmopbaaX36
namespace Go.Proofs.Ytmdmajfgpmopbaa.X
open Go.RowKit Go.Proofs.YtmdmajfgpmopbaaW.PrintWords Go.Proofs.YtmdmajfgpmopbaaW.PrintLast Go.Proofs.YtmdmajfgpmopbaaW.PrintMore
attribute [local go_sem] max2_int min2_int max_two min_two max_three min_three max_four min_four   -- for this text's walks alone
set_option linter.unusedVariables false
set_option linter.unusedSimpArgs false

attribute [local go_sem high] eqA35
/-! ### dancestudiolaw43_FloorPath: function 5 -/
mutual
def dancestudiolaw43_FloorPath.l0 : Nat → List (S35) → List Int → Int → Int → List (S53) → List Int → Option (Bool)
 | 0, _, _, _, _, _, _ => none
 | k + 1, x3, x4, x6, x7, x504000, x504001 => if x7 < (x4.length : Int) then (if 0 ≤ x7 then (if (rd x4 x7) < 0 then (none) else (if (rd x4 x7) > x6 then (none) else (if x7 < (x3.length : Int) then (if 0 ≤ (rd x4 x7) then (if (rd x4 x7) < (x504000.length : Int) then (if (!(((rd_T35 x3 x7).f0) == ((rd_T53 x504000 (rd x4 x7)).f0.f0)) || (!(((rd_T35 x3 x7).f1) == ((rd_T53 x504000 (rd x4 x7)).f0.f1)))) = true then (none) else (if x7 = 0 then (dancestudiolaw43_FloorPath.l0 k x3 x4 x6 (wrap64 (x7 + 1)) x504000 x504001) else (if 0 ≤ (wrap64 (x7 - 1)) then (if (wrap64 (x7 - 1)) < (x4.length : Int) then (if (rd x4 (wrap64 (x7 - 1))) ≥ (rd x4 x7) then (none) else (if 0 ≤ (wrap64 ((rd x4 (wrap64 (x7 - 1))) + 1)) then (if (wrap64 ((rd x4 (wrap64 (x7 - 1))) + 1)) < (x504000.length : Int) then (if (wrap64 (x7 - 1)) < (x3.length : Int) then (dancestudiolaw43_FloorPath.l1 k x3 x4 x6 x7 (rd x4 (wrap64 (x7 - 1))) (rd x4 x7) (wrap64 (((rd_T53 x504000 (wrap64 ((rd x4 (wrap64 (x7 - 1))) + 1))).f0.f0) - ((rd_T35 x3 (wrap64 (x7 - 1))).f0))) (wrap64 (((rd_T53 x504000 (wrap64 ((rd x4 (wrap64 (x7 - 1))) + 1))).f0.f1) - ((rd_T35 x3 (wrap64 (x7 - 1))).f1))) (rd x4 (wrap64 (x7 - 1))) x504000 x504001) else (none)) else (none)) else (none))) else (none)) else (none)))) else (none)) else (none)) else (none)))) else (none)) else ((dancestudiolaw43_awake.f).bind fun t590 => (some t590))
def dancestudiolaw43_FloorPath.l1 : Nat → List (S35) → List Int → Int → Int → Int → Int → Int → Int → Int → List (S53) → List Int → Option (Bool)
 | 0, _, _, _, _, _, _, _, _, _, _, _ => none
 | k + 1, x3, x4, x6, x7, x8, x9, x10, x11, x12, x504000, x504001 => if x12 ≤ x9 then (if 0 ≤ x12 then (if x12 < (x504000.length : Int) then (if 0 ≤ (wrap64 (x7 - 1)) then (if (wrap64 (x7 - 1)) < (x3.length : Int) then (if ((rd_T53 x504000 x12).f0.f0) = (wrap64 (((rd_T35 x3 (wrap64 (x7 - 1))).f0) + (wrap64 ((wrap64 (x12 - x8)) * x10)))) then (if ((rd_T53 x504000 x12).f0.f1) = (wrap64 (((rd_T35 x3 (wrap64 (x7 - 1))).f1) + (wrap64 ((wrap64 (x12 - x8)) * x11)))) then (dancestudiolaw43_FloorPath.l1 k x3 x4 x6 x7 x8 x9 x10 x11 (wrap64 (x12 + 1)) x504000 x504001) else (none)) else (none)) else (none)) else (none)) else (none)) else (none)) else (if x7 > 1 then (if 0 ≤ x8 then (if x8 < (x504000.length : Int) then (if 0 ≤ (wrap64 (x8 - 1)) then (if (wrap64 (x8 - 1)) < (x504000.length : Int) then (if (wrap64 (((rd_T53 x504000 x8).f0.f0) - ((rd_T53 x504000 (wrap64 (x8 - 1))).f0.f0))) = x10 then (if (wrap64 (((rd_T53 x504000 x8).f0.f1) - ((rd_T53 x504000 (wrap64 (x8 - 1))).f0.f1))) = x11 then (none) else (dancestudiolaw43_FloorPath.l0 k x3 x4 x6 (wrap64 (x7 + 1)) x504000 x504001)) else (dancestudiolaw43_FloorPath.l0 k x3 x4 x6 (wrap64 (x7 + 1)) x504000 x504001)) else (none)) else (none)) else (none)) else (none)) else (dancestudiolaw43_FloorPath.l0 k x3 x4 x6 (wrap64 (x7 + 1)) x504000 x504001))
end
def dancestudiolaw43_FloorPath.f (k : Nat) (l0_0 : List (S53)) (l0_1 : List Int) : Option (Bool) := (dancestudiolaw43_great.f l0_0 l0_1).bind fun t504 => (if t504 = true then ((dancestudiolaw43_awake.f).bind fun t505 => (some t505)) else ((floor_Path.f k l0_0 l0_1).bind fun bt537 => (if bt537.2.2 = 0 then (if (bt537.1.length : Int) = (bt537.2.1.length : Int) then (if (bt537.2.1.length : Int) < 2 then (none) else (if 0 < (bt537.2.1.length : Int) then (if (rd bt537.2.1 0) = 0 then (if 0 ≤ (wrap64 ((bt537.2.1.length : Int) - 1)) then (if (wrap64 ((bt537.2.1.length : Int) - 1)) < (bt537.2.1.length : Int) then (if (rd bt537.2.1 (wrap64 ((bt537.2.1.length : Int) - 1))) = (l0_1.length : Int) then (if (l0_0.length : Int) = (wrap64 ((l0_1.length : Int) + 1)) then (dancestudiolaw43_FloorPath.l0 k bt537.1 bt537.2.1 (l0_1.length : Int) 0 l0_0 l0_1) else (none)) else (none)) else (none)) else (none)) else (none)) else (none))) else (none)) else (if (bt537.1.length : Int) = 0 then (if (bt537.2.1.length : Int) = 0 then ((movement_Check.f k l0_0 l0_1).bind fun t544 => (if bt537.2.2 = t544 then ((dancestudiolaw43_awake.f).bind fun t545 => (some t545)) else (none))) else (none)) else (none)))))
theorem dancestudiolaw43_FloorPath.mono_l : ∀ k, (∀ y0 y1 y2 y3 y4 y5, LeO (dancestudiolaw43_FloorPath.l0 k y0 y1 y2 y3 y4 y5) (dancestudiolaw43_FloorPath.l0 (k + 1) y0 y1 y2 y3 y4 y5)) ∧ (∀ y0 y1 y2 y3 y4 y5 y6 y7 y8 y9 y10, LeO (dancestudiolaw43_FloorPath.l1 k y0 y1 y2 y3 y4 y5 y6 y7 y8 y9 y10) (dancestudiolaw43_FloorPath.l1 (k + 1) y0 y1 y2 y3 y4 y5 y6 y7 y8 y9 y10))
 | 0 => ⟨fun _ _ _ _ _ _ r h => by simp [dancestudiolaw43_FloorPath.l0] at h, fun _ _ _ _ _ _ _ _ _ _ _ r h => by simp [dancestudiolaw43_FloorPath.l1] at h⟩
 | k + 1 => by
  obtain ⟨ih0, ih1⟩ := dancestudiolaw43_FloorPath.mono_l k
  refine ⟨?_, ?_⟩
  ·
   intro y0 y1 y2 y3 y4 y5
   unfold dancestudiolaw43_FloorPath.l0
   repeat' first
   | (with_reducible exact ih0 _ _ _ _ _ _)
   | (with_reducible exact ih1 _ _ _ _ _ _ _ _ _ _ _)
   | (with_reducible exact floor_Path.mono _ _ _)
   | (with_reducible exact movement_Check.mono _ _ _)
   | (with_reducible exact LeO.refl _)
   | (with_reducible exact LeO.none _)
   | (with_reducible refine LeO.ite ?_ ?_)
   | (with_reducible refine LeO.bind ?_ (fun _ => ?_))
   | exact ih0 _ _ _ _ _ _
   | exact ih1 _ _ _ _ _ _ _ _ _ _ _
   | exact floor_Path.mono _ _ _
   | exact movement_Check.mono _ _ _
   | exact LeO.none _
   | refine LeO.ite ?_ ?_
   | refine LeO.bind ?_ (fun _ => ?_)
  ·
   intro y0 y1 y2 y3 y4 y5 y6 y7 y8 y9 y10
   unfold dancestudiolaw43_FloorPath.l1
   repeat' first
   | (with_reducible exact ih0 _ _ _ _ _ _)
   | (with_reducible exact ih1 _ _ _ _ _ _ _ _ _ _ _)
   | (with_reducible exact floor_Path.mono _ _ _)
   | (with_reducible exact movement_Check.mono _ _ _)
   | (with_reducible exact LeO.refl _)
   | (with_reducible exact LeO.none _)
   | (with_reducible refine LeO.ite ?_ ?_)
   | (with_reducible refine LeO.bind ?_ (fun _ => ?_))
   | exact ih0 _ _ _ _ _ _
   | exact ih1 _ _ _ _ _ _ _ _ _ _ _
   | exact floor_Path.mono _ _ _
   | exact movement_Check.mono _ _ _
   | exact LeO.none _
   | refine LeO.ite ?_ ?_
   | refine LeO.bind ?_ (fun _ => ?_)
theorem dancestudiolaw43_FloorPath.mono : ∀ a0 a1 k, LeO (dancestudiolaw43_FloorPath.f k a0 a1) (dancestudiolaw43_FloorPath.f (k + 1) a0 a1) := by
 intro a0 a1 k
 obtain ⟨ih0, ih1⟩ := dancestudiolaw43_FloorPath.mono_l k
 unfold dancestudiolaw43_FloorPath.f
 repeat' first
   | (with_reducible exact ih0 _ _ _ _ _ _)
   | (with_reducible exact ih1 _ _ _ _ _ _ _ _ _ _ _)
   | (with_reducible exact floor_Path.mono _ _ _)
   | (with_reducible exact movement_Check.mono _ _ _)
   | (with_reducible exact LeO.refl _)
   | (with_reducible exact LeO.none _)
   | (with_reducible refine LeO.ite ?_ ?_)
   | (with_reducible refine LeO.bind ?_ (fun _ => ?_))
   | exact ih0 _ _ _ _ _ _
   | exact ih1 _ _ _ _ _ _ _ _ _ _ _
   | exact floor_Path.mono _ _ _
   | exact movement_Check.mono _ _ _
   | exact LeO.none _
   | refine LeO.ite ?_ ?_
   | refine LeO.bind ?_ (fun _ => ?_)
set_option maxHeartbeats 8000000 in
set_option maxRecDepth 100000 in
theorem dancestudiolaw43_FloorPath.calls (k : Nat) (A0_0 : Option Addr) (c0_0 : Nat) (l0_0 : List (S53)) (A0_1 : Option Addr) (c0_1 : Nat) (l0_1 : List Int) (r : Bool) (w : World) (hr0_0 : Kd.C k53 w A0_0 l0_0.length l0_0) (hc0_0 : l0_0.length ≤ c0_0) (hr0_1 : Kd.C (Kd.int .i64) w A0_1 l0_1.length l0_1) (hc0_1 : l0_1.length ≤ c0_1) (h : dancestudiolaw43_FloorPath.f k l0_0 l0_1 = some r) :
  Calls Try.prog 5 #[.agg #[.slice A0_0 l0_0.length c0_0, .slice A0_1 l0_1.length c0_1]] w fun e w' => e = .returned (.bool r) ∧ Below w.heap.size w w' := by
 have hu25 := Try.underlying25
 have hu35 := Try.underlying35
 have HR0_0 := Aside0.mk hr0_0
 have HC0_0 := Aside0.mk hc0_0
 clear hr0_0 hc0_0
 have HR0_1 := Aside0.mk hr0_1
 have HC0_1 := Aside0.mk hc0_1
 clear hr0_1 hc0_1
 have HB := Aside0.mk (Below.refl w.heap.size w)
 have H : ((dancestudiolaw43_great.f l0_0 l0_1).bind fun t504 => (if t504 = true then ((dancestudiolaw43_awake.f).bind fun t505 => (some t505)) else ((floor_Path.f k l0_0 l0_1).bind fun bt537 => (if bt537.2.2 = 0 then (if (bt537.1.length : Int) = (bt537.2.1.length : Int) then (if (bt537.2.1.length : Int) < 2 then (none) else (if 0 < (bt537.2.1.length : Int) then (if (rd bt537.2.1 0) = 0 then (if 0 ≤ (wrap64 ((bt537.2.1.length : Int) - 1)) then (if (wrap64 ((bt537.2.1.length : Int) - 1)) < (bt537.2.1.length : Int) then (if (rd bt537.2.1 (wrap64 ((bt537.2.1.length : Int) - 1))) = (l0_1.length : Int) then (if (l0_0.length : Int) = (wrap64 ((l0_1.length : Int) + 1)) then (dancestudiolaw43_FloorPath.l0 k bt537.1 bt537.2.1 (l0_1.length : Int) 0 l0_0 l0_1) else (none)) else (none)) else (none)) else (none)) else (none)) else (none))) else (none)) else (if (bt537.1.length : Int) = 0 then (if (bt537.2.1.length : Int) = 0 then ((movement_Check.f k l0_0 l0_1).bind fun t544 => (if bt537.2.2 = t544 then ((dancestudiolaw43_awake.f).bind fun t545 => (some t545)) else (none))) else (none)) else (none)))))) = some r := h
 clear h
 replace H := Option.bind_eq_some_iff.mp H
 obtain ⟨t504, A20, H⟩ := H
 replace H : (if t504 = true then ((dancestudiolaw43_awake.f).bind fun t505 => (some t505)) else ((floor_Path.f k l0_0 l0_1).bind fun bt537 => (if bt537.2.2 = 0 then (if (bt537.1.length : Int) = (bt537.2.1.length : Int) then (if (bt537.2.1.length : Int) < 2 then (none) else (if 0 < (bt537.2.1.length : Int) then (if (rd bt537.2.1 0) = 0 then (if 0 ≤ (wrap64 ((bt537.2.1.length : Int) - 1)) then (if (wrap64 ((bt537.2.1.length : Int) - 1)) < (bt537.2.1.length : Int) then (if (rd bt537.2.1 (wrap64 ((bt537.2.1.length : Int) - 1))) = (l0_1.length : Int) then (if (l0_0.length : Int) = (wrap64 ((l0_1.length : Int) + 1)) then (dancestudiolaw43_FloorPath.l0 k bt537.1 bt537.2.1 (l0_1.length : Int) 0 l0_0 l0_1) else (none)) else (none)) else (none)) else (none)) else (none)) else (none))) else (none)) else (if (bt537.1.length : Int) = 0 then (if (bt537.2.1.length : Int) = 0 then ((movement_Check.f k l0_0 l0_1).bind fun t544 => (if bt537.2.2 = t544 then ((dancestudiolaw43_awake.f).bind fun t545 => (some t545)) else (none))) else (none)) else (none))))) = some r := H
 have A2 := Aside0.mk A20
 clear A20
 by_cases c3 : t504 = true
 ·
  subst c3
  have H1 : ((dancestudiolaw43_awake.f).bind fun t505 => (some t505)) = some r := by rw [if_pos rfl] at H; exact H
  clear H
  have H := H1
  clear H1
  replace H := Option.bind_eq_some_iff.mp H
  obtain ⟨t505, A40, H⟩ := H
  replace H : (some t505) = some r := H
  have A4 := Aside0.mk A40
  clear A40
  obtain rfl := Option.some.inj H
  go_enter Try.func5, Try.ntmps5
  go_wp2_with (first | ((with_reducible refine gate_dst (N := 1) rfl ?_); refine box_event ?hg (N := 1) ?hd (cs := #[.slice A0_0 l0_0.length c0_0, .slice A0_1 l0_1.length c0_1]) (t := 25) ?hr ?_; (case hd => rfl); (case hg => rfl); (case hr => first | (go_simp; done) | (go_simp; rfl)); intro gb503 hg w5 hbox hb; have BK503 := Aside0.mk (hbox); have GW503 := Aside0.mk ((by rw [hg]; exact (below_size (by repeat with_reducible first | exact HB.out | apply bA | apply bN | apply bD)) : w.heap.size ≤ gb503)); have GE503 := GW503; replace HB := Aside0.mk (below_step (by repeat with_reducible first | exact HB.out | apply bA | apply bN | apply bD) hb); clear hb hbox hg; obtain ⟨hcz6_0, hcz6_1, hfz6_0, hfz6_1⟩ := kc2 BK503.out) | (go_at_call 9; (with_reducible refine (dancestudiolaw43_great.calls _ _ l0_0 _ _ l0_1 true _ ?side1 ?side2 ?side3 ?side4 A2.out).mono ?_); (case side1 => repeat (first | exact (Kd.C_below HR0_0.out HB.out) | (with_reducible first | apply cA | apply cN | apply cD))); (case side2 => exact HC0_0.out); (case side3 => repeat (first | exact (Kd.C_below HR0_1.out HB.out) | (with_reducible first | apply cA | apply cN | apply cD))); (case side4 => exact HC0_1.out); rintro e w7 ⟨rfl, hb⟩; replace BK503 := Aside0.mk (blk_below (o := .cells #[.slice A0_0 l0_0.length c0_0, .slice A0_1 l0_1.length c0_1] 25 (0, 0)) (by with_reducible repeat first | exact BK503.out | apply kN | apply kD | apply kA) hb); replace HB := Aside0.mk (below_step (by repeat with_reducible first | exact HB.out | apply bA | apply bN | apply bD | refine bS ?_ GE503.out) hb); (try clear hb); (try clear hb2); (try clear hk); (try clear hi)) | (go_at_call 10; (with_reducible refine (dancestudiolaw43_awake.calls  t505 _ A4.out).mono ?_); rintro e w8 ⟨rfl, hb⟩; replace BK503 := Aside0.mk (blk_below (o := .cells #[.slice A0_0 l0_0.length c0_0, .slice A0_1 l0_1.length c0_1] 25 (0, 0)) (by with_reducible repeat first | exact BK503.out | apply kN | apply kD | apply kA) hb); replace HB := Aside0.mk (below_step (by repeat with_reducible first | exact HB.out | apply bA | apply bN | apply bD | refine bS ?_ GE503.out) hb); (try clear hb); (try clear hb2); (try clear hk); (try clear hi)))
  repeat (go_quiet (first | ((with_reducible refine gate_dst (N := 1) rfl ?_); refine box_event ?hg (N := 1) ?hd (cs := #[.slice A0_0 l0_0.length c0_0, .slice A0_1 l0_1.length c0_1]) (t := 25) ?hr ?_; (case hd => rfl); (case hg => rfl); (case hr => first | (go_simp; done) | (go_simp; rfl)); intro gb503 hg w5 hbox hb; have BK503 := Aside0.mk (hbox); have GW503 := Aside0.mk ((by rw [hg]; exact (below_size (by repeat with_reducible first | exact HB.out | apply bA | apply bN | apply bD)) : w.heap.size ≤ gb503)); have GE503 := GW503; replace HB := Aside0.mk (below_step (by repeat with_reducible first | exact HB.out | apply bA | apply bN | apply bD) hb); clear hb hbox hg; obtain ⟨hcz6_0, hcz6_1, hfz6_0, hfz6_1⟩ := kc2 BK503.out) | (go_at_call 9; (with_reducible refine (dancestudiolaw43_great.calls _ _ l0_0 _ _ l0_1 true _ ?side1 ?side2 ?side3 ?side4 A2.out).mono ?_); (case side1 => repeat (first | exact (Kd.C_below HR0_0.out HB.out) | (with_reducible first | apply cA | apply cN | apply cD))); (case side2 => exact HC0_0.out); (case side3 => repeat (first | exact (Kd.C_below HR0_1.out HB.out) | (with_reducible first | apply cA | apply cN | apply cD))); (case side4 => exact HC0_1.out); rintro e w7 ⟨rfl, hb⟩; replace BK503 := Aside0.mk (blk_below (o := .cells #[.slice A0_0 l0_0.length c0_0, .slice A0_1 l0_1.length c0_1] 25 (0, 0)) (by with_reducible repeat first | exact BK503.out | apply kN | apply kD | apply kA) hb); replace HB := Aside0.mk (below_step (by repeat with_reducible first | exact HB.out | apply bA | apply bN | apply bD | refine bS ?_ GE503.out) hb); (try clear hb); (try clear hb2); (try clear hk); (try clear hi)) | (go_at_call 10; (with_reducible refine (dancestudiolaw43_awake.calls  t505 _ A4.out).mono ?_); rintro e w8 ⟨rfl, hb⟩; replace BK503 := Aside0.mk (blk_below (o := .cells #[.slice A0_0 l0_0.length c0_0, .slice A0_1 l0_1.length c0_1] 25 (0, 0)) (by with_reducible repeat first | exact BK503.out | apply kN | apply kD | apply kA) hb); replace HB := Aside0.mk (below_step (by repeat with_reducible first | exact HB.out | apply bA | apply bN | apply bD | refine bS ?_ GE503.out) hb); (try clear hb); (try clear hb2); (try clear hk); (try clear hi))); try go_wp2_with (first | ((with_reducible refine gate_dst (N := 1) rfl ?_); refine box_event ?hg (N := 1) ?hd (cs := #[.slice A0_0 l0_0.length c0_0, .slice A0_1 l0_1.length c0_1]) (t := 25) ?hr ?_; (case hd => rfl); (case hg => rfl); (case hr => first | (go_simp; done) | (go_simp; rfl)); intro gb503 hg w5 hbox hb; have BK503 := Aside0.mk (hbox); have GW503 := Aside0.mk ((by rw [hg]; exact (below_size (by repeat with_reducible first | exact HB.out | apply bA | apply bN | apply bD)) : w.heap.size ≤ gb503)); have GE503 := GW503; replace HB := Aside0.mk (below_step (by repeat with_reducible first | exact HB.out | apply bA | apply bN | apply bD) hb); clear hb hbox hg; obtain ⟨hcz6_0, hcz6_1, hfz6_0, hfz6_1⟩ := kc2 BK503.out) | (go_at_call 9; (with_reducible refine (dancestudiolaw43_great.calls _ _ l0_0 _ _ l0_1 true _ ?side1 ?side2 ?side3 ?side4 A2.out).mono ?_); (case side1 => repeat (first | exact (Kd.C_below HR0_0.out HB.out) | (with_reducible first | apply cA | apply cN | apply cD))); (case side2 => exact HC0_0.out); (case side3 => repeat (first | exact (Kd.C_below HR0_1.out HB.out) | (with_reducible first | apply cA | apply cN | apply cD))); (case side4 => exact HC0_1.out); rintro e w7 ⟨rfl, hb⟩; replace BK503 := Aside0.mk (blk_below (o := .cells #[.slice A0_0 l0_0.length c0_0, .slice A0_1 l0_1.length c0_1] 25 (0, 0)) (by with_reducible repeat first | exact BK503.out | apply kN | apply kD | apply kA) hb); replace HB := Aside0.mk (below_step (by repeat with_reducible first | exact HB.out | apply bA | apply bN | apply bD | refine bS ?_ GE503.out) hb); (try clear hb); (try clear hb2); (try clear hk); (try clear hi)) | (go_at_call 10; (with_reducible refine (dancestudiolaw43_awake.calls  t505 _ A4.out).mono ?_); rintro e w8 ⟨rfl, hb⟩; replace BK503 := Aside0.mk (blk_below (o := .cells #[.slice A0_0 l0_0.length c0_0, .slice A0_1 l0_1.length c0_1] 25 (0, 0)) (by with_reducible repeat first | exact BK503.out | apply kN | apply kD | apply kA) hb); replace HB := Aside0.mk (below_step (by repeat with_reducible first | exact HB.out | apply bA | apply bN | apply bD | refine bS ?_ GE503.out) hb); (try clear hb); (try clear hb2); (try clear hk); (try clear hi))))
  go_ret
  exact ⟨by first | rfl | (simp [errW_none, errW_some] <;> rfl) | (simp [*, errW_none, errW_some] <;> rfl), by repeat with_reducible first | exact HB.out | apply bA | apply bN | apply bD | refine bS ?_ GE503.out⟩
 ·
  replace c3 := Bool.eq_false_iff.mpr c3
  subst c3
  have H1 : ((floor_Path.f k l0_0 l0_1).bind fun bt537 => (if bt537.2.2 = 0 then (if (bt537.1.length : Int) = (bt537.2.1.length : Int) then (if (bt537.2.1.length : Int) < 2 then (none) else (if 0 < (bt537.2.1.length : Int) then (if (rd bt537.2.1 0) = 0 then (if 0 ≤ (wrap64 ((bt537.2.1.length : Int) - 1)) then (if (wrap64 ((bt537.2.1.length : Int) - 1)) < (bt537.2.1.length : Int) then (if (rd bt537.2.1 (wrap64 ((bt537.2.1.length : Int) - 1))) = (l0_1.length : Int) then (if (l0_0.length : Int) = (wrap64 ((l0_1.length : Int) + 1)) then (dancestudiolaw43_FloorPath.l0 k bt537.1 bt537.2.1 (l0_1.length : Int) 0 l0_0 l0_1) else (none)) else (none)) else (none)) else (none)) else (none)) else (none))) else (none)) else (if (bt537.1.length : Int) = 0 then (if (bt537.2.1.length : Int) = 0 then ((movement_Check.f k l0_0 l0_1).bind fun t544 => (if bt537.2.2 = t544 then ((dancestudiolaw43_awake.f).bind fun t545 => (some t545)) else (none))) else (none)) else (none)))) = some r := by rw [if_neg (show ¬ (false = true) by decide)] at H; exact H
  clear H
  have H := H1
  clear H1
  replace H := Option.bind_eq_some_iff.mp H
  obtain ⟨⟨t537, t540, t543⟩, A90, H⟩ := H
  replace H : (if t543 = 0 then (if (t537.length : Int) = (t540.length : Int) then (if (t540.length : Int) < 2 then (none) else (if 0 < (t540.length : Int) then (if (rd t540 0) = 0 then (if 0 ≤ (wrap64 ((t540.length : Int) - 1)) then (if (wrap64 ((t540.length : Int) - 1)) < (t540.length : Int) then (if (rd t540 (wrap64 ((t540.length : Int) - 1))) = (l0_1.length : Int) then (if (l0_0.length : Int) = (wrap64 ((l0_1.length : Int) + 1)) then (dancestudiolaw43_FloorPath.l0 k t537 t540 (l0_1.length : Int) 0 l0_0 l0_1) else (none)) else (none)) else (none)) else (none)) else (none)) else (none))) else (none)) else (if (t537.length : Int) = 0 then (if (t540.length : Int) = 0 then ((movement_Check.f k l0_0 l0_1).bind fun t544 => (if t543 = t544 then ((dancestudiolaw43_awake.f).bind fun t545 => (some t545)) else (none))) else (none)) else (none))) = some r := H
  have A9 := Aside0.mk A90
  clear A90
  by_cases c10 : t543 = 0
  ·
   rw [if_pos c10] at H
   have c10b0 : (t543 == 0) = true := beq_iff_eq.mpr c10
   have c10b1 : (t543 != 0) = false := bne_eq_false_iff_eq.mpr c10
   clear c10
   by_cases c11 : (t537.length : Int) = (t540.length : Int)
   ·
    rw [if_pos c11] at H
    have c11b0 : ((t537.length : Int) == (t540.length : Int)) = true := beq_iff_eq.mpr c11
    have c11b1 : ((t537.length : Int) != (t540.length : Int)) = false := bne_eq_false_iff_eq.mpr c11
    have c11b2 : (t537.length == t540.length) = true := by first | simpa using c11 | (simp at c11 ⊢; omega)
    clear c11
    by_cases c12 : (t540.length : Int) < 2
    ·
     rw [if_pos c12] at H
     exact absurd H (by simp)
    ·
     rw [if_neg c12] at H
     have c12b0 : decide ((t540.length : Int) < 2) = false := decide_eq_false c12
     have c12b1 : decide (t540.length < 2) = false := decide_eq_false (by omega)
     clear c12
     by_cases c13 : 0 < (t540.length : Int)
     ·
      rw [if_pos c13] at H
      have c13b0 : decide (0 < (t540.length : Int)) = true := decide_eq_true c13
      have c13b1 : decide (0 < t540.length) = true := decide_eq_true (by omega)
      clear c13
      by_cases c14 : (rd t540 0) = 0
      ·
       rw [if_pos c14] at H
       have c14b0 : ((rd t540 0) == 0) = true := beq_iff_eq.mpr c14
       have c14b1 : ((rd t540 0) != 0) = false := bne_eq_false_iff_eq.mpr c14
       clear c14
       obtain ⟨ji15, hji15⟩ : ∃ j_ : Int, (wrap64 ((t540.length : Int) - 1)) = j_ := ⟨_, rfl⟩
       replace H : (if 0 ≤ (ji15) then (if (ji15) < (t540.length : Int) then (if (rd t540 (ji15)) = (l0_1.length : Int) then (if (l0_0.length : Int) = (wrap64 ((l0_1.length : Int) + 1)) then (dancestudiolaw43_FloorPath.l0 k t537 t540 (l0_1.length : Int) 0 l0_0 l0_1) else (none)) else (none)) else (none)) else (none)) = some r := by first | (rw [hji15] at H; exact H) | (simp only [hji15] at H ⊢; exact H)
       (try rw [hji15] at A2)
       (try rw [hji15] at A9)
       have hji15w : (IntKind.i64.wrap ((t540.length : Int) - 1)) = ji15 := (i64_w _).trans hji15
       by_cases c16 : 0 ≤ (ji15)
       ·
        rw [if_pos c16] at H
        have c16b0 : decide (0 ≤ (ji15)) = true := decide_eq_true c16
        clear c16
        by_cases c17 : (ji15) < (t540.length : Int)
        ·
         rw [if_pos c17] at H
         have c17b0 : decide ((ji15) < (t540.length : Int)) = true := decide_eq_true c17
         clear c17
         by_cases c18 : (rd t540 (ji15)) = (l0_1.length : Int)
         ·
          rw [if_pos c18] at H
          have c18b0 : ((rd t540 (ji15)) == (l0_1.length : Int)) = true := beq_iff_eq.mpr c18
          have c18b1 : ((rd t540 (ji15)) != (l0_1.length : Int)) = false := bne_eq_false_iff_eq.mpr c18
          clear c18
          by_cases c19 : (l0_0.length : Int) = (wrap64 ((l0_1.length : Int) + 1))
          ·
           rw [if_pos c19] at H
           have c19b0 : ((l0_0.length : Int) == (wrap64 ((l0_1.length : Int) + 1))) = true := beq_iff_eq.mpr c19
           have c19b1 : ((l0_0.length : Int) != (wrap64 ((l0_1.length : Int) + 1))) = false := bne_eq_false_iff_eq.mpr c19
           clear c19
           have H' := Aside0.mk H
           clear H
           go_enter Try.func5, Try.ntmps5
           go_wp2_with (first | ((with_reducible refine gate_dst (N := 1) rfl ?_); refine box_event ?hg (N := 1) ?hd (cs := #[.slice A0_0 l0_0.length c0_0, .slice A0_1 l0_1.length c0_1]) (t := 25) ?hr ?_; (case hd => rfl); (case hg => rfl); (case hr => first | (go_simp; done) | (go_simp; rfl)); intro gb503 hg w20 hbox hb; have BK503 := Aside0.mk (hbox); have GW503 := Aside0.mk ((by rw [hg]; exact (below_size (by repeat with_reducible first | exact HB.out | apply bA | apply bN | apply bD)) : w.heap.size ≤ gb503)); have GE503 := GW503; replace HB := Aside0.mk (below_step (by repeat with_reducible first | exact HB.out | apply bA | apply bN | apply bD) hb); clear hb hbox hg; obtain ⟨hcz21_0, hcz21_1, hfz21_0, hfz21_1⟩ := kc2 BK503.out) | (go_at_call 9; (with_reducible refine (dancestudiolaw43_great.calls _ _ l0_0 _ _ l0_1 false _ ?side1 ?side2 ?side3 ?side4 A2.out).mono ?_); (case side1 => repeat (first | exact (Kd.C_below HR0_0.out HB.out) | (with_reducible first | apply cA | apply cN | apply cD))); (case side2 => exact HC0_0.out); (case side3 => repeat (first | exact (Kd.C_below HR0_1.out HB.out) | (with_reducible first | apply cA | apply cN | apply cD))); (case side4 => exact HC0_1.out); rintro e w22 ⟨rfl, hb⟩; replace BK503 := Aside0.mk (blk_below (o := .cells #[.slice A0_0 l0_0.length c0_0, .slice A0_1 l0_1.length c0_1] 25 (0, 0)) (by with_reducible repeat first | exact BK503.out | apply kN | apply kD | apply kA) hb); replace HB := Aside0.mk (below_step (by repeat with_reducible first | exact HB.out | apply bA | apply bN | apply bD | refine bS ?_ GE503.out) hb); (try clear hb); (try clear hb2); (try clear hk); (try clear hi); obtain ⟨hcz23_0, hcz23_1, hfz23_0, hfz23_1⟩ := kc2 BK503.out) | (go_at_call 11; (with_reducible refine (floor_Path.calls k _ _ l0_0 _ _ l0_1 t537 t540 t543 _ ?side1 ?side2 ?side3 ?side4 A9.out).mono ?_); (case side1 => repeat (first | exact (Kd.C_below HR0_0.out HB.out) | (with_reducible first | apply cA | apply cN | apply cD))); (case side2 => exact HC0_0.out); (case side3 => repeat (first | exact (Kd.C_below HR0_1.out HB.out) | (with_reducible first | apply cA | apply cN | apply cD))); (case side4 => exact HC0_1.out); rintro e w24 ⟨v538, v541, rfl, ho0, ho1, hb⟩; have HO539 := Aside0.mk (Kd.R_lower ho0 (below_size (by repeat with_reducible first | exact HB.out | apply bA | apply bN | apply bD | refine bS ?_ GE503.out))); have HO542 := Aside0.mk (Kd.R_lower ho1 (below_size (by repeat with_reducible first | exact HB.out | apply bA | apply bN | apply bD | refine bS ?_ GE503.out))); replace BK503 := Aside0.mk (blk_below (o := .cells #[.slice A0_0 l0_0.length c0_0, .slice A0_1 l0_1.length c0_1] 25 (0, 0)) (by with_reducible repeat first | exact BK503.out | apply kN | apply kD | apply kA) hb); replace HB := Aside0.mk (below_step (by repeat with_reducible first | exact HB.out | apply bA | apply bN | apply bD | refine bS ?_ GE503.out) hb); (try clear hb); (try clear hb2); (try clear hk); (try clear hi); (try clear ho0); (try clear ho1); obtain ⟨hcz25_0, hcz25_1, hfz25_0, hfz25_1⟩ := kc2 BK503.out; obtain ⟨Ao26, co26, eo26⟩ := Kd.R_slice HO539.out; subst eo26; obtain ⟨Ao27, co27, eo27⟩ := Kd.R_slice HO542.out; subst eo27; have p568 : 0 ≤ (0 : Int) := (by omega); have q568 : 0 < (t540.length : Int) := of_decide_eq_true (by first | (with_reducible assumption) | assumption); obtain ⟨ad568, e568, hx568_0⟩ := Kd.at_int (Kd.R_reads' HO542.out).2.2 0 p568 q568; cases e568; have qi568 : (0 < t540.length) = True := eq_true (by omega); (try rw [show ((0 : Int)).toNat = 0 from rfl] at hx568_0); (try rw [Addr.add_zero'] at hx568_0); replace p568 := eq_true p568; replace q568 := eq_true q568; have p569 : 0 ≤ ((ji15) : Int) := of_decide_eq_true (by first | (with_reducible assumption) | assumption); have q569 : (ji15) < (t540.length : Int) := of_decide_eq_true (by first | (with_reducible assumption) | assumption); obtain ⟨ad569, e569, hx569_0⟩ := Kd.at_int (Kd.R_reads' HO542.out).2.2 (ji15) p569 q569; obtain rfl : ad568 = ad569 := (by injection e569); replace p569 := eq_true p569; replace q569 := eq_true q569))
           repeat (go_quiet (first | ((with_reducible refine gate_dst (N := 1) rfl ?_); refine box_event ?hg (N := 1) ?hd (cs := #[.slice A0_0 l0_0.length c0_0, .slice A0_1 l0_1.length c0_1]) (t := 25) ?hr ?_; (case hd => rfl); (case hg => rfl); (case hr => first | (go_simp; done) | (go_simp; rfl)); intro gb503 hg w20 hbox hb; have BK503 := Aside0.mk (hbox); have GW503 := Aside0.mk ((by rw [hg]; exact (below_size (by repeat with_reducible first | exact HB.out | apply bA | apply bN | apply bD)) : w.heap.size ≤ gb503)); have GE503 := GW503; replace HB := Aside0.mk (below_step (by repeat with_reducible first | exact HB.out | apply bA | apply bN | apply bD) hb); clear hb hbox hg; obtain ⟨hcz21_0, hcz21_1, hfz21_0, hfz21_1⟩ := kc2 BK503.out) | (go_at_call 9; (with_reducible refine (dancestudiolaw43_great.calls _ _ l0_0 _ _ l0_1 false _ ?side1 ?side2 ?side3 ?side4 A2.out).mono ?_); (case side1 => repeat (first | exact (Kd.C_below HR0_0.out HB.out) | (with_reducible first | apply cA | apply cN | apply cD))); (case side2 => exact HC0_0.out); (case side3 => repeat (first | exact (Kd.C_below HR0_1.out HB.out) | (with_reducible first | apply cA | apply cN | apply cD))); (case side4 => exact HC0_1.out); rintro e w22 ⟨rfl, hb⟩; replace BK503 := Aside0.mk (blk_below (o := .cells #[.slice A0_0 l0_0.length c0_0, .slice A0_1 l0_1.length c0_1] 25 (0, 0)) (by with_reducible repeat first | exact BK503.out | apply kN | apply kD | apply kA) hb); replace HB := Aside0.mk (below_step (by repeat with_reducible first | exact HB.out | apply bA | apply bN | apply bD | refine bS ?_ GE503.out) hb); (try clear hb); (try clear hb2); (try clear hk); (try clear hi); obtain ⟨hcz23_0, hcz23_1, hfz23_0, hfz23_1⟩ := kc2 BK503.out) | (go_at_call 11; (with_reducible refine (floor_Path.calls k _ _ l0_0 _ _ l0_1 t537 t540 t543 _ ?side1 ?side2 ?side3 ?side4 A9.out).mono ?_); (case side1 => repeat (first | exact (Kd.C_below HR0_0.out HB.out) | (with_reducible first | apply cA | apply cN | apply cD))); (case side2 => exact HC0_0.out); (case side3 => repeat (first | exact (Kd.C_below HR0_1.out HB.out) | (with_reducible first | apply cA | apply cN | apply cD))); (case side4 => exact HC0_1.out); rintro e w24 ⟨v538, v541, rfl, ho0, ho1, hb⟩; have HO539 := Aside0.mk (Kd.R_lower ho0 (below_size (by repeat with_reducible first | exact HB.out | apply bA | apply bN | apply bD | refine bS ?_ GE503.out))); have HO542 := Aside0.mk (Kd.R_lower ho1 (below_size (by repeat with_reducible first | exact HB.out | apply bA | apply bN | apply bD | refine bS ?_ GE503.out))); replace BK503 := Aside0.mk (blk_below (o := .cells #[.slice A0_0 l0_0.length c0_0, .slice A0_1 l0_1.length c0_1] 25 (0, 0)) (by with_reducible repeat first | exact BK503.out | apply kN | apply kD | apply kA) hb); replace HB := Aside0.mk (below_step (by repeat with_reducible first | exact HB.out | apply bA | apply bN | apply bD | refine bS ?_ GE503.out) hb); (try clear hb); (try clear hb2); (try clear hk); (try clear hi); (try clear ho0); (try clear ho1); obtain ⟨hcz25_0, hcz25_1, hfz25_0, hfz25_1⟩ := kc2 BK503.out; obtain ⟨Ao26, co26, eo26⟩ := Kd.R_slice HO539.out; subst eo26; obtain ⟨Ao27, co27, eo27⟩ := Kd.R_slice HO542.out; subst eo27; have p568 : 0 ≤ (0 : Int) := (by omega); have q568 : 0 < (t540.length : Int) := of_decide_eq_true (by first | (with_reducible assumption) | assumption); obtain ⟨ad568, e568, hx568_0⟩ := Kd.at_int (Kd.R_reads' HO542.out).2.2 0 p568 q568; cases e568; have qi568 : (0 < t540.length) = True := eq_true (by omega); (try rw [show ((0 : Int)).toNat = 0 from rfl] at hx568_0); (try rw [Addr.add_zero'] at hx568_0); replace p568 := eq_true p568; replace q568 := eq_true q568; have p569 : 0 ≤ ((ji15) : Int) := of_decide_eq_true (by first | (with_reducible assumption) | assumption); have q569 : (ji15) < (t540.length : Int) := of_decide_eq_true (by first | (with_reducible assumption) | assumption); obtain ⟨ad569, e569, hx569_0⟩ := Kd.at_int (Kd.R_reads' HO542.out).2.2 (ji15) p569 q569; obtain rfl : ad568 = ad569 := (by injection e569); replace p569 := eq_true p569; replace q569 := eq_true q569)); try go_wp2_with (first | ((with_reducible refine gate_dst (N := 1) rfl ?_); refine box_event ?hg (N := 1) ?hd (cs := #[.slice A0_0 l0_0.length c0_0, .slice A0_1 l0_1.length c0_1]) (t := 25) ?hr ?_; (case hd => rfl); (case hg => rfl); (case hr => first | (go_simp; done) | (go_simp; rfl)); intro gb503 hg w20 hbox hb; have BK503 := Aside0.mk (hbox); have GW503 := Aside0.mk ((by rw [hg]; exact (below_size (by repeat with_reducible first | exact HB.out | apply bA | apply bN | apply bD)) : w.heap.size ≤ gb503)); have GE503 := GW503; replace HB := Aside0.mk (below_step (by repeat with_reducible first | exact HB.out | apply bA | apply bN | apply bD) hb); clear hb hbox hg; obtain ⟨hcz21_0, hcz21_1, hfz21_0, hfz21_1⟩ := kc2 BK503.out) | (go_at_call 9; (with_reducible refine (dancestudiolaw43_great.calls _ _ l0_0 _ _ l0_1 false _ ?side1 ?side2 ?side3 ?side4 A2.out).mono ?_); (case side1 => repeat (first | exact (Kd.C_below HR0_0.out HB.out) | (with_reducible first | apply cA | apply cN | apply cD))); (case side2 => exact HC0_0.out); (case side3 => repeat (first | exact (Kd.C_below HR0_1.out HB.out) | (with_reducible first | apply cA | apply cN | apply cD))); (case side4 => exact HC0_1.out); rintro e w22 ⟨rfl, hb⟩; replace BK503 := Aside0.mk (blk_below (o := .cells #[.slice A0_0 l0_0.length c0_0, .slice A0_1 l0_1.length c0_1] 25 (0, 0)) (by with_reducible repeat first | exact BK503.out | apply kN | apply kD | apply kA) hb); replace HB := Aside0.mk (below_step (by repeat with_reducible first | exact HB.out | apply bA | apply bN | apply bD | refine bS ?_ GE503.out) hb); (try clear hb); (try clear hb2); (try clear hk); (try clear hi); obtain ⟨hcz23_0, hcz23_1, hfz23_0, hfz23_1⟩ := kc2 BK503.out) | (go_at_call 11; (with_reducible refine (floor_Path.calls k _ _ l0_0 _ _ l0_1 t537 t540 t543 _ ?side1 ?side2 ?side3 ?side4 A9.out).mono ?_); (case side1 => repeat (first | exact (Kd.C_below HR0_0.out HB.out) | (with_reducible first | apply cA | apply cN | apply cD))); (case side2 => exact HC0_0.out); (case side3 => repeat (first | exact (Kd.C_below HR0_1.out HB.out) | (with_reducible first | apply cA | apply cN | apply cD))); (case side4 => exact HC0_1.out); rintro e w24 ⟨v538, v541, rfl, ho0, ho1, hb⟩; have HO539 := Aside0.mk (Kd.R_lower ho0 (below_size (by repeat with_reducible first | exact HB.out | apply bA | apply bN | apply bD | refine bS ?_ GE503.out))); have HO542 := Aside0.mk (Kd.R_lower ho1 (below_size (by repeat with_reducible first | exact HB.out | apply bA | apply bN | apply bD | refine bS ?_ GE503.out))); replace BK503 := Aside0.mk (blk_below (o := .cells #[.slice A0_0 l0_0.length c0_0, .slice A0_1 l0_1.length c0_1] 25 (0, 0)) (by with_reducible repeat first | exact BK503.out | apply kN | apply kD | apply kA) hb); replace HB := Aside0.mk (below_step (by repeat with_reducible first | exact HB.out | apply bA | apply bN | apply bD | refine bS ?_ GE503.out) hb); (try clear hb); (try clear hb2); (try clear hk); (try clear hi); (try clear ho0); (try clear ho1); obtain ⟨hcz25_0, hcz25_1, hfz25_0, hfz25_1⟩ := kc2 BK503.out; obtain ⟨Ao26, co26, eo26⟩ := Kd.R_slice HO539.out; subst eo26; obtain ⟨Ao27, co27, eo27⟩ := Kd.R_slice HO542.out; subst eo27; have p568 : 0 ≤ (0 : Int) := (by omega); have q568 : 0 < (t540.length : Int) := of_decide_eq_true (by first | (with_reducible assumption) | assumption); obtain ⟨ad568, e568, hx568_0⟩ := Kd.at_int (Kd.R_reads' HO542.out).2.2 0 p568 q568; cases e568; have qi568 : (0 < t540.length) = True := eq_true (by omega); (try rw [show ((0 : Int)).toNat = 0 from rfl] at hx568_0); (try rw [Addr.add_zero'] at hx568_0); replace p568 := eq_true p568; replace q568 := eq_true q568; have p569 : 0 ≤ ((ji15) : Int) := of_decide_eq_true (by first | (with_reducible assumption) | assumption); have q569 : (ji15) < (t540.length : Int) := of_decide_eq_true (by first | (with_reducible assumption) | assumption); obtain ⟨ad569, e569, hx569_0⟩ := Kd.at_int (Kd.R_reads' HO542.out).2.2 (ji15) p569 q569; obtain rfl : ad568 = ad569 := (by injection e569); replace p569 := eq_true p569; replace q569 := eq_true q569)))
           go_loopg [7] k (fun kq v7 w' => ∃ (x7_1 : Int), v7 = .int .i64 x7_1 ∧ Aside0 (dancestudiolaw43_FloorPath.l0 kq t537 t540 (l0_1.length : Int) x7_1 l0_0 l0_1 = some r) ∧ Aside0 (kq ≤ k) ∧ Aside0 (Kd.R k35 35 w' w.heap.size (fun _ => True) (.slice Ao26 t537.length co26) t537) ∧ Aside0 (Kd.R (Kd.int .i64) 3 w' w.heap.size (fun _ => True) (.slice (some ad568) t540.length co27) t540) ∧ Aside0 (w'.heap[gb503]? = some (.cells #[(.slice A0_0 l0_0.length c0_0), (.slice A0_1 l0_1.length c0_1)] 25 (0, 0))) ∧ Aside0 (Below w.heap.size w w'))
           case atStart => exact ⟨(0), (by first | rfl | (simp; done) | (simp [*]; done)), H', ⟨Nat.le_refl _⟩, ⟨by (with_reducible repeat first | apply rA | apply rN | apply rD); exact HO539.out⟩, ⟨by (with_reducible repeat first | apply rA | apply rN | apply rD); exact HO542.out⟩, ⟨by (with_reducible repeat first | apply kN | apply kD | apply kA); exact BK503.out⟩, ⟨by repeat with_reducible first | exact HB.out | apply bA | apply bN | apply bD | refine bS ?_ GE503.out⟩⟩
           case round =>
            clear H'
            try clear c1
            try clear p2
            try clear c3
            try clear c5
            try clear p5
            try clear q5
            try clear hx5
            try clear qi5
            try clear p6
            try clear c10
            try clear c10b0
            try clear c10b1
            try clear c11
            try clear c11b0
            try clear c11b1
            try clear c11b2
            try clear c12
            try clear c12b0
            try clear c12b1
            try clear c13
            try clear c13b0
            try clear c13b1
            try clear c14
            try clear c14b0
            try clear c14b1
            try clear c16
            try clear c16b0
            try clear c17
            try clear c17b0
            try clear c18
            try clear c18b0
            try clear c18b1
            try clear c19
            try clear c19b0
            try clear c19b1
            try clear hcz21_0
            try clear hcz21_1
            try clear hcz23_0
            try clear hcz23_1
            try clear hcz25_0
            try clear hcz25_1
            try clear hcz6_0
            try clear hcz6_1
            try clear hfz21_0
            try clear hfz21_1
            try clear hfz23_0
            try clear hfz23_1
            try clear hfz25_0
            try clear hfz25_1
            try clear hfz6_0
            try clear hfz6_1
            try clear hx568_0
            try clear hx569_0
            try clear p568
            try clear p569
            try clear q568
            try clear q569
            obtain ⟨x7_1, rfl, HA, HK1, HO_3, HO_4, BK503, HB⟩ := hrel
            cases gk with
            | zero => exact absurd HA.out (by simp [dancestudiolaw43_FloorPath.l0])
            | succ k1 =>
             have H := HA.out
             clear HA
             simp only [dancestudiolaw43_FloorPath.l0] at H
             by_cases c28 : x7_1 < (t540.length : Int)
             ·
              rw [if_pos c28] at H
              have c28b0 : decide (x7_1 < (t540.length : Int)) = true := decide_eq_true c28
              clear c28
              by_cases c29 : 0 ≤ x7_1
              ·
               rw [if_pos c29] at H
               have c29b0 : decide (0 ≤ x7_1) = true := decide_eq_true c29
               clear c29
               by_cases c30 : (rd t540 x7_1) < 0
               ·
                rw [if_pos c30] at H
                exact absurd H (by simp)
               ·
                rw [if_neg c30] at H
                have c30b0 : decide ((rd t540 x7_1) < 0) = false := decide_eq_false c30
                clear c30
                by_cases c31 : (rd t540 x7_1) > (l0_1.length : Int)
                ·
                 rw [if_pos c31] at H
                 exact absurd H (by simp)
                ·
                 rw [if_neg c31] at H
                 have c31b0 : decide ((l0_1.length : Int) < (rd t540 x7_1)) = false := decide_eq_false c31
                 clear c31
                 by_cases c32 : x7_1 < (t537.length : Int)
                 ·
                  rw [if_pos c32] at H
                  have c32b0 : decide (x7_1 < (t537.length : Int)) = true := decide_eq_true c32
                  clear c32
                  by_cases c33 : 0 ≤ (rd t540 x7_1)
                  ·
                   rw [if_pos c33] at H
                   have c33b0 : decide (0 ≤ (rd t540 x7_1)) = true := decide_eq_true c33
                   clear c33
                   by_cases c34 : (rd t540 x7_1) < (l0_0.length : Int)
                   ·
                    rw [if_pos c34] at H
                    have c34b0 : decide ((rd t540 x7_1) < (l0_0.length : Int)) = true := decide_eq_true c34
                    clear c34
                    by_cases c35 : (!(((rd_T35 t537 x7_1).f0) == ((rd_T53 l0_0 (rd t540 x7_1)).f0.f0)) || (!(((rd_T35 t537 x7_1).f1) == ((rd_T53 l0_0 (rd t540 x7_1)).f0.f1)))) = true
                    ·
                     rw [if_pos c35] at H
                     exact absurd H (by simp)
                    ·
                     rw [if_neg c35] at H
                     have c35b0 : (!(((rd_T35 t537 x7_1).f0) == ((rd_T53 l0_0 (rd t540 x7_1)).f0.f0)) || (!(((rd_T35 t537 x7_1).f1) == ((rd_T53 l0_0 (rd t540 x7_1)).f0.f1)))) = false := by simpa using c35
                     clear c35
                     by_cases c36 : x7_1 = 0
                     ·
                      rw [if_pos c36] at H
                      have c36b0 : (x7_1 == 0) = true := beq_iff_eq.mpr c36
                      have c36b1 : (x7_1 != 0) = false := bne_eq_false_iff_eq.mpr c36
                      clear c36
                      have H' := Aside0.mk H
                      clear H
                      have p591 : 0 ≤ (x7_1 : Int) := of_decide_eq_true (by first | (with_reducible assumption) | assumption)
                      have q591 : x7_1 < (t540.length : Int) := of_decide_eq_true (by first | (with_reducible assumption) | assumption)
                      obtain ⟨ad591, e591, hx591_0⟩ := Kd.at_int (Kd.R_reads' HO_4.out).2.2 x7_1 p591 q591
                      obtain rfl : ad568 = ad591 := (by injection e591)
                      replace p591 := eq_true p591
                      replace q591 := eq_true q591
                      have p592 : 0 ≤ (x7_1 : Int) := of_decide_eq_true (by first | (with_reducible assumption) | assumption)
                      have q592 : x7_1 < (t540.length : Int) := of_decide_eq_true (by first | (with_reducible assumption) | assumption)
                      obtain ⟨ad592, e592, hx592_0⟩ := Kd.at_int (Kd.R_reads' HO_4.out).2.2 x7_1 p592 q592
                      obtain rfl : ad568 = ad592 := (by injection e592)
                      replace p592 := eq_true p592
                      replace q592 := eq_true q592
                      have p593 : 0 ≤ (x7_1 : Int) := of_decide_eq_true (by first | (with_reducible assumption) | assumption)
                      have q593 : x7_1 < (t537.length : Int) := of_decide_eq_true (by first | (with_reducible assumption) | assumption)
                      obtain ⟨ad593, e593, hx593_0, hx593_1⟩ := at_T35 (Kd.R_reads' HO_3.out).2.2 x7_1 p593 q593
                      cases e593
                      replace p593 := eq_true p593
                      replace q593 := eq_true q593
                      have hcz37_0 : wr.cell? ⟨gb503, 0, none⟩ = some (.slice A0_0 l0_0.length c0_0) := (blk_cell BK503.out 0).trans rfl
                      have hcz37_1 : wr.cell? ⟨gb503, 1, none⟩ = some (.slice A0_1 l0_1.length c0_1) := (blk_cell BK503.out 1).trans rfl
                      have hfz37_0 := blk_frozen BK503.out 0
                      have hfz37_1 := blk_frozen BK503.out 1
                      have p594 : 0 ≤ (x7_1 : Int) := of_decide_eq_true (by first | (with_reducible assumption) | assumption)
                      have q594 : x7_1 < (t540.length : Int) := of_decide_eq_true (by first | (with_reducible assumption) | assumption)
                      obtain ⟨ad594, e594, hx594_0⟩ := Kd.at_int (Kd.R_reads' HO_4.out).2.2 x7_1 p594 q594
                      obtain rfl : ad568 = ad594 := (by injection e594)
                      replace p594 := eq_true p594
                      replace q594 := eq_true q594
                      have p595 : 0 ≤ ((rd t540 x7_1) : Int) := of_decide_eq_true (by first | (with_reducible assumption) | assumption)
                      have q595 : (rd t540 x7_1) < (l0_0.length : Int) := of_decide_eq_true (by first | (with_reducible assumption) | assumption)
                      obtain ⟨ad595, e595, hx595_0, hx595_1, _, _, _, _, _, _, _, _, _, _, _, _, _, _, _, _, _, _, _, _⟩ := at_T53 HR0_0.out (rd t540 x7_1) p595 q595
                      cases e595
                      replace hx595_0 := cb HB.out hx595_0
                      replace hx595_1 := cb HB.out hx595_1
                      replace p595 := eq_true p595
                      replace q595 := eq_true q595
                      go_wp2
                      repeat (go_quiet (fail); try go_wp2)
                      go_roundg k1
                      case measure => have := HK1.out; omega
                      case rel => exact ⟨(wrap64 (x7_1 + 1)), (by first | rfl | (simp; done) | (simp [*]; done)), H', ⟨by have := HK1.out; omega⟩, ⟨by (with_reducible repeat first | apply rA | apply rN | apply rD); exact HO_3.out⟩, ⟨by (with_reducible repeat first | apply rA | apply rN | apply rD); exact HO_4.out⟩, ⟨by (with_reducible repeat first | apply kN | apply kD | apply kA); exact BK503.out⟩, ⟨by repeat with_reducible first | exact HB.out | apply bA | apply bN | apply bD | refine bS ?_ GE503.out⟩⟩
                     ·
                      rw [if_neg c36] at H
                      have c36b0 : (x7_1 == 0) = false := beq_eq_false_iff_ne.mpr c36
                      have c36b1 : (x7_1 != 0) = true := bne_iff_ne.mpr c36
                      obtain ⟨ji38, hji38⟩ : ∃ j_ : Int, (wrap64 (x7_1 - 1)) = j_ := ⟨_, rfl⟩
                      replace H : (if 0 ≤ (ji38) then (if (ji38) < (t540.length : Int) then (if (rd t540 (ji38)) ≥ (rd t540 x7_1) then (none) else (if 0 ≤ (wrap64 ((rd t540 (ji38)) + 1)) then (if (wrap64 ((rd t540 (ji38)) + 1)) < (l0_0.length : Int) then (if (ji38) < (t537.length : Int) then (dancestudiolaw43_FloorPath.l1 k1 t537 t540 (l0_1.length : Int) x7_1 (rd t540 (ji38)) (rd t540 x7_1) (wrap64 (((rd_T53 l0_0 (wrap64 ((rd t540 (ji38)) + 1))).f0.f0) - ((rd_T35 t537 (ji38)).f0))) (wrap64 (((rd_T53 l0_0 (wrap64 ((rd t540 (ji38)) + 1))).f0.f1) - ((rd_T35 t537 (ji38)).f1))) (rd t540 (ji38)) l0_0 l0_1) else (none)) else (none)) else (none))) else (none)) else (none)) = some r := by first | (rw [hji38] at H; exact H) | (simp only [hji38] at H ⊢; exact H)
                      have hji38w : (IntKind.i64.wrap (x7_1 - 1)) = ji38 := (i64_w _).trans hji38
                      by_cases c39 : 0 ≤ (ji38)
                      ·
                       rw [if_pos c39] at H
                       have c39b0 : decide (0 ≤ (ji38)) = true := decide_eq_true c39
                       clear c39
                       by_cases c40 : (ji38) < (t540.length : Int)
                       ·
                        rw [if_pos c40] at H
                        have c40b0 : decide ((ji38) < (t540.length : Int)) = true := decide_eq_true c40
                        clear c40
                        by_cases c41 : (rd t540 (ji38)) ≥ (rd t540 x7_1)
                        ·
                         rw [if_pos c41] at H
                         exact absurd H (by simp)
                        ·
                         rw [if_neg c41] at H
                         have c41b0 : decide ((rd t540 x7_1) ≤ (rd t540 (ji38))) = false := decide_eq_false c41
                         clear c41
                         obtain ⟨ji42, hji42⟩ : ∃ j_ : Int, (wrap64 ((rd t540 (ji38)) + 1)) = j_ := ⟨_, rfl⟩
                         replace H : (if 0 ≤ (ji42) then (if (ji42) < (l0_0.length : Int) then (if (ji38) < (t537.length : Int) then (dancestudiolaw43_FloorPath.l1 k1 t537 t540 (l0_1.length : Int) x7_1 (rd t540 (ji38)) (rd t540 x7_1) (wrap64 (((rd_T53 l0_0 (ji42)).f0.f0) - ((rd_T35 t537 (ji38)).f0))) (wrap64 (((rd_T53 l0_0 (ji42)).f0.f1) - ((rd_T35 t537 (ji38)).f1))) (rd t540 (ji38)) l0_0 l0_1) else (none)) else (none)) else (none)) = some r := by first | (rw [hji42] at H; exact H) | (simp only [hji42] at H ⊢; exact H)
                         have hji42w : (IntKind.i64.wrap ((rd t540 (ji38)) + 1)) = ji42 := (i64_w _).trans hji42
                         by_cases c43 : 0 ≤ (ji42)
                         ·
                          rw [if_pos c43] at H
                          have c43b0 : decide (0 ≤ (ji42)) = true := decide_eq_true c43
                          clear c43
                          by_cases c44 : (ji42) < (l0_0.length : Int)
                          ·
                           rw [if_pos c44] at H
                           have c44b0 : decide ((ji42) < (l0_0.length : Int)) = true := decide_eq_true c44
                           clear c44
                           by_cases c45 : (ji38) < (t537.length : Int)
                           ·
                            rw [if_pos c45] at H
                            have c45b0 : decide ((ji38) < (t537.length : Int)) = true := decide_eq_true c45
                            clear c45
                            have H' := Aside0.mk H
                            clear H
                            have p591 : 0 ≤ (x7_1 : Int) := of_decide_eq_true (by first | (with_reducible assumption) | assumption)
                            have q591 : x7_1 < (t540.length : Int) := of_decide_eq_true (by first | (with_reducible assumption) | assumption)
                            obtain ⟨ad591, e591, hx591_0⟩ := Kd.at_int (Kd.R_reads' HO_4.out).2.2 x7_1 p591 q591
                            obtain rfl : ad568 = ad591 := (by injection e591)
                            replace p591 := eq_true p591
                            replace q591 := eq_true q591
                            have p592 : 0 ≤ (x7_1 : Int) := of_decide_eq_true (by first | (with_reducible assumption) | assumption)
                            have q592 : x7_1 < (t540.length : Int) := of_decide_eq_true (by first | (with_reducible assumption) | assumption)
                            obtain ⟨ad592, e592, hx592_0⟩ := Kd.at_int (Kd.R_reads' HO_4.out).2.2 x7_1 p592 q592
                            obtain rfl : ad568 = ad592 := (by injection e592)
                            replace p592 := eq_true p592
                            replace q592 := eq_true q592
                            have p593 : 0 ≤ (x7_1 : Int) := of_decide_eq_true (by first | (with_reducible assumption) | assumption)
                            have q593 : x7_1 < (t537.length : Int) := of_decide_eq_true (by first | (with_reducible assumption) | assumption)
                            obtain ⟨ad593, e593, hx593_0, hx593_1⟩ := at_T35 (Kd.R_reads' HO_3.out).2.2 x7_1 p593 q593
                            cases e593
                            replace p593 := eq_true p593
                            replace q593 := eq_true q593
                            have hcz46_0 : wr.cell? ⟨gb503, 0, none⟩ = some (.slice A0_0 l0_0.length c0_0) := (blk_cell BK503.out 0).trans rfl
                            have hcz46_1 : wr.cell? ⟨gb503, 1, none⟩ = some (.slice A0_1 l0_1.length c0_1) := (blk_cell BK503.out 1).trans rfl
                            have hfz46_0 := blk_frozen BK503.out 0
                            have hfz46_1 := blk_frozen BK503.out 1
                            have p594 : 0 ≤ (x7_1 : Int) := of_decide_eq_true (by first | (with_reducible assumption) | assumption)
                            have q594 : x7_1 < (t540.length : Int) := of_decide_eq_true (by first | (with_reducible assumption) | assumption)
                            obtain ⟨ad594, e594, hx594_0⟩ := Kd.at_int (Kd.R_reads' HO_4.out).2.2 x7_1 p594 q594
                            obtain rfl : ad568 = ad594 := (by injection e594)
                            replace p594 := eq_true p594
                            replace q594 := eq_true q594
                            have p595 : 0 ≤ ((rd t540 x7_1) : Int) := of_decide_eq_true (by first | (with_reducible assumption) | assumption)
                            have q595 : (rd t540 x7_1) < (l0_0.length : Int) := of_decide_eq_true (by first | (with_reducible assumption) | assumption)
                            obtain ⟨ad595, e595, hx595_0, hx595_1, _, _, _, _, _, _, _, _, _, _, _, _, _, _, _, _, _, _, _, _⟩ := at_T53 HR0_0.out (rd t540 x7_1) p595 q595
                            cases e595
                            replace hx595_0 := cb HB.out hx595_0
                            replace hx595_1 := cb HB.out hx595_1
                            replace p595 := eq_true p595
                            replace q595 := eq_true q595
                            have p596 : 0 ≤ ((ji38) : Int) := of_decide_eq_true (by first | (with_reducible assumption) | assumption)
                            have q596 : (ji38) < (t540.length : Int) := of_decide_eq_true (by first | (with_reducible assumption) | assumption)
                            obtain ⟨ad596, e596, hx596_0⟩ := Kd.at_int (Kd.R_reads' HO_4.out).2.2 (ji38) p596 q596
                            obtain rfl : ad568 = ad596 := (by injection e596)
                            replace p596 := eq_true p596
                            replace q596 := eq_true q596
                            have p597 : 0 ≤ (x7_1 : Int) := of_decide_eq_true (by first | (with_reducible assumption) | assumption)
                            have q597 : x7_1 < (t540.length : Int) := of_decide_eq_true (by first | (with_reducible assumption) | assumption)
                            obtain ⟨ad597, e597, hx597_0⟩ := Kd.at_int (Kd.R_reads' HO_4.out).2.2 x7_1 p597 q597
                            obtain rfl : ad568 = ad597 := (by injection e597)
                            replace p597 := eq_true p597
                            replace q597 := eq_true q597
                            have p598 : 0 ≤ ((ji42) : Int) := of_decide_eq_true (by first | (with_reducible assumption) | assumption)
                            have q598 : (ji42) < (l0_0.length : Int) := of_decide_eq_true (by first | (with_reducible assumption) | assumption)
                            obtain ⟨ad598, e598, hx598_0, _, _, _, _, _, _, _, _, _, _, _, _, _, _, _, _, _, _, _, _, _⟩ := at_T53 HR0_0.out (ji42) p598 q598
                            obtain rfl : ad595 = ad598 := (by injection e598)
                            replace hx598_0 := cb HB.out hx598_0
                            replace p598 := eq_true p598
                            replace q598 := eq_true q598
                            have p599 : 0 ≤ ((ji38) : Int) := of_decide_eq_true (by first | (with_reducible assumption) | assumption)
                            have q599 : (ji38) < (t537.length : Int) := of_decide_eq_true (by first | (with_reducible assumption) | assumption)
                            obtain ⟨ad599, e599, hx599_0, hx599_1⟩ := at_T35 (Kd.R_reads' HO_3.out).2.2 (ji38) p599 q599
                            obtain rfl : ad593 = ad599 := (by injection e599)
                            replace p599 := eq_true p599
                            replace q599 := eq_true q599
                            have p600 : 0 ≤ ((ji42) : Int) := of_decide_eq_true (by first | (with_reducible assumption) | assumption)
                            have q600 : (ji42) < (l0_0.length : Int) := of_decide_eq_true (by first | (with_reducible assumption) | assumption)
                            obtain ⟨ad600, e600, _, hx600_1, _, _, _, _, _, _, _, _, _, _, _, _, _, _, _, _, _, _, _, _⟩ := at_T53 HR0_0.out (ji42) p600 q600
                            obtain rfl : ad595 = ad600 := (by injection e600)
                            replace hx600_1 := cb HB.out hx600_1
                            replace p600 := eq_true p600
                            replace q600 := eq_true q600
                            have p601 : 0 ≤ ((ji38) : Int) := of_decide_eq_true (by first | (with_reducible assumption) | assumption)
                            have q601 : (ji38) < (t537.length : Int) := of_decide_eq_true (by first | (with_reducible assumption) | assumption)
                            obtain ⟨ad601, e601, hx601_0, hx601_1⟩ := at_T35 (Kd.R_reads' HO_3.out).2.2 (ji38) p601 q601
                            obtain rfl : ad593 = ad601 := (by injection e601)
                            replace p601 := eq_true p601
                            replace q601 := eq_true q601
                            go_wp2
                            repeat (go_quiet (fail); try go_wp2)
                            go_loopg [12] k1 (fun kq v12 w' => ∃ (x12_2 : Int), v12 = .int .i64 x12_2 ∧ Aside0 (dancestudiolaw43_FloorPath.l1 kq t537 t540 (l0_1.length : Int) x7_1 (rd t540 (ji38)) (rd t540 x7_1) (wrap64 (((rd_T53 l0_0 (ji42)).f0.f0) - ((rd_T35 t537 (ji38)).f0))) (wrap64 (((rd_T53 l0_0 (ji42)).f0.f1) - ((rd_T35 t537 (ji38)).f1))) x12_2 l0_0 l0_1 = some r) ∧ Aside0 (kq ≤ k1) ∧ Aside0 (Kd.R k35 35 w' w.heap.size (fun _ => True) (.slice (some ad593) t537.length co26) t537) ∧ Aside0 (Kd.R (Kd.int .i64) 3 w' w.heap.size (fun _ => True) (.slice (some ad568) t540.length co27) t540) ∧ Aside0 (w'.heap[gb503]? = some (.cells #[(.slice (some ad595) l0_0.length c0_0), (.slice A0_1 l0_1.length c0_1)] 25 (0, 0))) ∧ Aside0 (Below w.heap.size w w'))
                            case atStart => exact ⟨(rd t540 (ji38)), (by first | rfl | (simp; done) | (simp only [← hji38] <;> (first | rfl | simp)) | (simp [*]; done)), H', ⟨Nat.le_refl _⟩, ⟨by (with_reducible repeat first | apply rA | apply rN | apply rD); exact HO_3.out⟩, ⟨by (with_reducible repeat first | apply rA | apply rN | apply rD); exact HO_4.out⟩, ⟨by (with_reducible repeat first | apply kN | apply kD | apply kA); exact BK503.out⟩, ⟨by repeat with_reducible first | exact HB.out | apply bA | apply bN | apply bD | refine bS ?_ GE503.out⟩⟩
                            case round =>
                             clear H'
                             try clear c1
                             try clear c2
                             try clear p2
                             try clear c3
                             try clear c4
                             try clear c5
                             try clear p5
                             try clear q5
                             try clear hx5
                             try clear qi5
                             try clear p6
                             try clear q6
                             try clear hx6
                             try clear c10
                             try clear c10b0
                             try clear c10b1
                             try clear c11
                             try clear c11b0
                             try clear c11b1
                             try clear c11b2
                             try clear c12
                             try clear c12b0
                             try clear c12b1
                             try clear c13
                             try clear c13b0
                             try clear c13b1
                             try clear c14
                             try clear c14b0
                             try clear c14b1
                             try clear c16
                             try clear c16b0
                             try clear c17
                             try clear c17b0
                             try clear c18
                             try clear c18b0
                             try clear c18b1
                             try clear c19
                             try clear c19b0
                             try clear c19b1
                             try clear c28
                             try clear c28b0
                             try clear c29
                             try clear c29b0
                             try clear c30
                             try clear c30b0
                             try clear c31
                             try clear c31b0
                             try clear c32
                             try clear c32b0
                             try clear c33
                             try clear c33b0
                             try clear c34
                             try clear c34b0
                             try clear c35
                             try clear c35b0
                             try clear c36
                             try clear c36b0
                             try clear c36b1
                             try clear c39
                             try clear c39b0
                             try clear c40
                             try clear c40b0
                             try clear c41
                             try clear c41b0
                             try clear c43
                             try clear c43b0
                             try clear c44
                             try clear c44b0
                             try clear c45
                             try clear c45b0
                             try clear hcz21_0
                             try clear hcz21_1
                             try clear hcz23_0
                             try clear hcz23_1
                             try clear hcz25_0
                             try clear hcz25_1
                             try clear hcz37_0
                             try clear hcz37_1
                             try clear hcz46_0
                             try clear hcz46_1
                             try clear hcz6_0
                             try clear hcz6_1
                             try clear hfz21_0
                             try clear hfz21_1
                             try clear hfz23_0
                             try clear hfz23_1
                             try clear hfz25_0
                             try clear hfz25_1
                             try clear hfz37_0
                             try clear hfz37_1
                             try clear hfz46_0
                             try clear hfz46_1
                             try clear hfz6_0
                             try clear hfz6_1
                             try clear hx568_0
                             try clear hx569_0
                             try clear hx591_0
                             try clear hx592_0
                             try clear hx593_0
                             try clear hx593_1
                             try clear hx594_0
                             try clear hx595_0
                             try clear hx595_1
                             try clear hx596_0
                             try clear hx597_0
                             try clear hx598_0
                             try clear hx599_0
                             try clear hx599_1
                             try clear hx600_1
                             try clear hx601_0
                             try clear hx601_1
                             try clear p2
                             try clear p5
                             try clear p568
                             try clear p569
                             try clear p591
                             try clear p592
                             try clear p593
                             try clear p594
                             try clear p595
                             try clear p596
                             try clear p597
                             try clear p598
                             try clear p599
                             try clear p6
                             try clear p600
                             try clear p601
                             try clear q5
                             try clear q568
                             try clear q569
                             try clear q591
                             try clear q592
                             try clear q593
                             try clear q594
                             try clear q595
                             try clear q596
                             try clear q597
                             try clear q598
                             try clear q599
                             try clear q600
                             try clear q601
                             obtain ⟨x12_2, rfl, HA, HK2, HO_3, HO_4, BK503, HB⟩ := hrel
                             cases gk with
                             | zero => exact absurd HA.out (by simp [dancestudiolaw43_FloorPath.l1])
                             | succ k2 =>
                              have H := HA.out
                              clear HA
                              simp only [dancestudiolaw43_FloorPath.l1] at H
                              by_cases c47 : x12_2 ≤ (rd t540 x7_1)
                              ·
                               rw [if_pos c47] at H
                               have c47b0 : decide (x12_2 ≤ (rd t540 x7_1)) = true := decide_eq_true c47
                               clear c47
                               by_cases c48 : 0 ≤ x12_2
                               ·
                                rw [if_pos c48] at H
                                have c48b0 : decide (0 ≤ x12_2) = true := decide_eq_true c48
                                clear c48
                                by_cases c49 : x12_2 < (l0_0.length : Int)
                                ·
                                 rw [if_pos c49] at H
                                 have c49b0 : decide (x12_2 < (l0_0.length : Int)) = true := decide_eq_true c49
                                 clear c49
                                 obtain ⟨ji50, hji50⟩ : ∃ j_ : Int, (wrap64 (x7_1 - 1)) = j_ := ⟨_, rfl⟩
                                 replace H : (if 0 ≤ (ji50) then (if (ji50) < (t537.length : Int) then (if ((rd_T53 l0_0 x12_2).f0.f0) = (wrap64 (((rd_T35 t537 (ji50)).f0) + (wrap64 ((wrap64 (x12_2 - (rd t540 (ji38)))) * (wrap64 (((rd_T53 l0_0 (ji42)).f0.f0) - ((rd_T35 t537 (ji38)).f0))))))) then (if ((rd_T53 l0_0 x12_2).f0.f1) = (wrap64 (((rd_T35 t537 (ji50)).f1) + (wrap64 ((wrap64 (x12_2 - (rd t540 (ji38)))) * (wrap64 (((rd_T53 l0_0 (ji42)).f0.f1) - ((rd_T35 t537 (ji38)).f1))))))) then (dancestudiolaw43_FloorPath.l1 k2 t537 t540 (l0_1.length : Int) x7_1 (rd t540 (ji38)) (rd t540 x7_1) (wrap64 (((rd_T53 l0_0 (ji42)).f0.f0) - ((rd_T35 t537 (ji38)).f0))) (wrap64 (((rd_T53 l0_0 (ji42)).f0.f1) - ((rd_T35 t537 (ji38)).f1))) (wrap64 (x12_2 + 1)) l0_0 l0_1) else (none)) else (none)) else (none)) else (none)) = some r := by first | (rw [hji50] at H; exact H) | (simp only [hji50] at H ⊢; exact H)
                                 have hji50w : (IntKind.i64.wrap (x7_1 - 1)) = ji50 := (i64_w _).trans hji50
                                 try clear hji38w
                                 by_cases c51 : 0 ≤ (ji50)
                                 ·
                                  rw [if_pos c51] at H
                                  have c51b0 : decide (0 ≤ (ji50)) = true := decide_eq_true c51
                                  clear c51
                                  by_cases c52 : (ji50) < (t537.length : Int)
                                  ·
                                   rw [if_pos c52] at H
                                   have c52b0 : decide ((ji50) < (t537.length : Int)) = true := decide_eq_true c52
                                   clear c52
                                   by_cases c53 : ((rd_T53 l0_0 x12_2).f0.f0) = (wrap64 (((rd_T35 t537 (ji50)).f0) + (wrap64 ((wrap64 (x12_2 - (rd t540 (ji38)))) * (wrap64 (((rd_T53 l0_0 (ji42)).f0.f0) - ((rd_T35 t537 (ji38)).f0)))))))
                                   ·
                                    rw [if_pos c53] at H
                                    have c53b0 : (((rd_T53 l0_0 x12_2).f0.f0) == (wrap64 (((rd_T35 t537 (ji50)).f0) + (wrap64 ((wrap64 (x12_2 - (rd t540 (ji38)))) * (wrap64 (((rd_T53 l0_0 (ji42)).f0.f0) - ((rd_T35 t537 (ji38)).f0)))))))) = true := beq_iff_eq.mpr c53
                                    have c53b1 : (((rd_T53 l0_0 x12_2).f0.f0) != (wrap64 (((rd_T35 t537 (ji50)).f0) + (wrap64 ((wrap64 (x12_2 - (rd t540 (ji38)))) * (wrap64 (((rd_T53 l0_0 (ji42)).f0.f0) - ((rd_T35 t537 (ji38)).f0)))))))) = false := bne_eq_false_iff_eq.mpr c53
                                    clear c53
                                    by_cases c54 : ((rd_T53 l0_0 x12_2).f0.f1) = (wrap64 (((rd_T35 t537 (ji50)).f1) + (wrap64 ((wrap64 (x12_2 - (rd t540 (ji38)))) * (wrap64 (((rd_T53 l0_0 (ji42)).f0.f1) - ((rd_T35 t537 (ji38)).f1)))))))
                                    ·
                                     rw [if_pos c54] at H
                                     have c54b0 : (((rd_T53 l0_0 x12_2).f0.f1) == (wrap64 (((rd_T35 t537 (ji50)).f1) + (wrap64 ((wrap64 (x12_2 - (rd t540 (ji38)))) * (wrap64 (((rd_T53 l0_0 (ji42)).f0.f1) - ((rd_T35 t537 (ji38)).f1)))))))) = true := beq_iff_eq.mpr c54
                                     have c54b1 : (((rd_T53 l0_0 x12_2).f0.f1) != (wrap64 (((rd_T35 t537 (ji50)).f1) + (wrap64 ((wrap64 (x12_2 - (rd t540 (ji38)))) * (wrap64 (((rd_T53 l0_0 (ji42)).f0.f1) - ((rd_T35 t537 (ji38)).f1)))))))) = false := bne_eq_false_iff_eq.mpr c54
                                     clear c54
                                     have H' := Aside0.mk H
                                     clear H
                                     have hcz55_0 : wr.cell? ⟨gb503, 0, none⟩ = some (.slice (some ad595) l0_0.length c0_0) := (blk_cell BK503.out 0).trans rfl
                                     have hcz55_1 : wr.cell? ⟨gb503, 1, none⟩ = some (.slice A0_1 l0_1.length c0_1) := (blk_cell BK503.out 1).trans rfl
                                     have hfz55_0 := blk_frozen BK503.out 0
                                     have hfz55_1 := blk_frozen BK503.out 1
                                     have p602 : 0 ≤ (x12_2 : Int) := of_decide_eq_true (by first | (with_reducible assumption) | assumption)
                                     have q602 : x12_2 < (l0_0.length : Int) := of_decide_eq_true (by first | (with_reducible assumption) | assumption)
                                     obtain ⟨ad602, e602, hx602_0, _, _, _, _, _, _, _, _, _, _, _, _, _, _, _, _, _, _, _, _, _⟩ := at_T53 HR0_0.out x12_2 p602 q602
                                     obtain rfl : ad595 = ad602 := (by injection e602)
                                     replace hx602_0 := cb HB.out hx602_0
                                     replace p602 := eq_true p602
                                     replace q602 := eq_true q602
                                     have p603 : 0 ≤ ((ji50) : Int) := of_decide_eq_true (by first | (with_reducible assumption) | assumption)
                                     have q603 : (ji50) < (t537.length : Int) := of_decide_eq_true (by first | (with_reducible assumption) | assumption)
                                     obtain ⟨ad603, e603, hx603_0, hx603_1⟩ := at_T35 (Kd.R_reads' HO_3.out).2.2 (ji50) p603 q603
                                     obtain rfl : ad593 = ad603 := (by injection e603)
                                     replace p603 := eq_true p603
                                     replace q603 := eq_true q603
                                     have p604 : 0 ≤ (x12_2 : Int) := of_decide_eq_true (by first | (with_reducible assumption) | assumption)
                                     have q604 : x12_2 < (l0_0.length : Int) := of_decide_eq_true (by first | (with_reducible assumption) | assumption)
                                     obtain ⟨ad604, e604, _, hx604_1, _, _, _, _, _, _, _, _, _, _, _, _, _, _, _, _, _, _, _, _⟩ := at_T53 HR0_0.out x12_2 p604 q604
                                     obtain rfl : ad595 = ad604 := (by injection e604)
                                     replace hx604_1 := cb HB.out hx604_1
                                     replace p604 := eq_true p604
                                     replace q604 := eq_true q604
                                     have p605 : 0 ≤ ((ji50) : Int) := of_decide_eq_true (by first | (with_reducible assumption) | assumption)
                                     have q605 : (ji50) < (t537.length : Int) := of_decide_eq_true (by first | (with_reducible assumption) | assumption)
                                     obtain ⟨ad605, e605, hx605_0, hx605_1⟩ := at_T35 (Kd.R_reads' HO_3.out).2.2 (ji50) p605 q605
                                     obtain rfl : ad593 = ad605 := (by injection e605)
                                     replace p605 := eq_true p605
                                     replace q605 := eq_true q605
                                     go_wp2
                                     repeat (go_quiet (fail); try go_wp2)
                                     go_roundg k2
                                     case measure => have := HK1.out; have := HK2.out; omega
                                     case rel => exact ⟨(wrap64 (x12_2 + 1)), (by first | rfl | (simp; done) | (simp [*]; done)), H', ⟨by have := HK1.out; have := HK2.out; omega⟩, ⟨by (with_reducible repeat first | apply rA | apply rN | apply rD); exact HO_3.out⟩, ⟨by (with_reducible repeat first | apply rA | apply rN | apply rD); exact HO_4.out⟩, ⟨by (with_reducible repeat first | apply kN | apply kD | apply kA); exact BK503.out⟩, ⟨by repeat with_reducible first | exact HB.out | apply bA | apply bN | apply bD | refine bS ?_ GE503.out⟩⟩
                                    ·
                                     rw [if_neg c54] at H
                                     exact absurd H (by simp)
                                   ·
                                    rw [if_neg c53] at H
                                    exact absurd H (by simp)
                                  ·
                                   rw [if_neg c52] at H
                                   exact absurd H (by simp)
                                 ·
                                  rw [if_neg c51] at H
                                  exact absurd H (by simp)
                                ·
                                 rw [if_neg c49] at H
                                 exact absurd H (by simp)
                               ·
                                rw [if_neg c48] at H
                                exact absurd H (by simp)
                              ·
                               rw [if_neg c47] at H
                               have c47b0 : decide (x12_2 ≤ (rd t540 x7_1)) = false := decide_eq_false c47
                               clear c47
                               by_cases c56 : x7_1 > 1
                               ·
                                rw [if_pos c56] at H
                                have c56b0 : decide (1 < x7_1) = true := decide_eq_true c56
                                clear c56
                                by_cases c57 : 0 ≤ (rd t540 (ji38))
                                ·
                                 rw [if_pos c57] at H
                                 have c57b0 : decide (0 ≤ (rd t540 (ji38))) = true := decide_eq_true c57
                                 clear c57
                                 by_cases c58 : (rd t540 (ji38)) < (l0_0.length : Int)
                                 ·
                                  rw [if_pos c58] at H
                                  have c58b0 : decide ((rd t540 (ji38)) < (l0_0.length : Int)) = true := decide_eq_true c58
                                  clear c58
                                  obtain ⟨ji59, hji59⟩ : ∃ j_ : Int, (wrap64 ((rd t540 (ji38)) - 1)) = j_ := ⟨_, rfl⟩
                                  replace H : (if 0 ≤ (ji59) then (if (ji59) < (l0_0.length : Int) then (if (wrap64 (((rd_T53 l0_0 (rd t540 (ji38))).f0.f0) - ((rd_T53 l0_0 (ji59)).f0.f0))) = (wrap64 (((rd_T53 l0_0 (ji42)).f0.f0) - ((rd_T35 t537 (ji38)).f0))) then (if (wrap64 (((rd_T53 l0_0 (rd t540 (ji38))).f0.f1) - ((rd_T53 l0_0 (ji59)).f0.f1))) = (wrap64 (((rd_T53 l0_0 (ji42)).f0.f1) - ((rd_T35 t537 (ji38)).f1))) then (none) else (dancestudiolaw43_FloorPath.l0 k2 t537 t540 (l0_1.length : Int) (wrap64 (x7_1 + 1)) l0_0 l0_1)) else (dancestudiolaw43_FloorPath.l0 k2 t537 t540 (l0_1.length : Int) (wrap64 (x7_1 + 1)) l0_0 l0_1)) else (none)) else (none)) = some r := by first | (rw [hji59] at H; exact H) | (simp only [hji59] at H ⊢; exact H)
                                  have hji59w : (IntKind.i64.wrap ((rd t540 (ji38)) - 1)) = ji59 := (i64_w _).trans hji59
                                  by_cases c60 : 0 ≤ (ji59)
                                  ·
                                   rw [if_pos c60] at H
                                   have c60b0 : decide (0 ≤ (ji59)) = true := decide_eq_true c60
                                   clear c60
                                   by_cases c61 : (ji59) < (l0_0.length : Int)
                                   ·
                                    rw [if_pos c61] at H
                                    have c61b0 : decide ((ji59) < (l0_0.length : Int)) = true := decide_eq_true c61
                                    clear c61
                                    by_cases c62 : (wrap64 (((rd_T53 l0_0 (rd t540 (ji38))).f0.f0) - ((rd_T53 l0_0 (ji59)).f0.f0))) = (wrap64 (((rd_T53 l0_0 (ji42)).f0.f0) - ((rd_T35 t537 (ji38)).f0)))
                                    ·
                                     rw [if_pos c62] at H
                                     have c62b0 : ((wrap64 (((rd_T53 l0_0 (rd t540 (ji38))).f0.f0) - ((rd_T53 l0_0 (ji59)).f0.f0))) == (wrap64 (((rd_T53 l0_0 (ji42)).f0.f0) - ((rd_T35 t537 (ji38)).f0)))) = true := beq_iff_eq.mpr c62
                                     have c62b1 : ((wrap64 (((rd_T53 l0_0 (rd t540 (ji38))).f0.f0) - ((rd_T53 l0_0 (ji59)).f0.f0))) != (wrap64 (((rd_T53 l0_0 (ji42)).f0.f0) - ((rd_T35 t537 (ji38)).f0)))) = false := bne_eq_false_iff_eq.mpr c62
                                     clear c62
                                     by_cases c63 : (wrap64 (((rd_T53 l0_0 (rd t540 (ji38))).f0.f1) - ((rd_T53 l0_0 (ji59)).f0.f1))) = (wrap64 (((rd_T53 l0_0 (ji42)).f0.f1) - ((rd_T35 t537 (ji38)).f1)))
                                     ·
                                      rw [if_pos c63] at H
                                      exact absurd H (by simp)
                                     ·
                                      rw [if_neg c63] at H
                                      have c63b0 : ((wrap64 (((rd_T53 l0_0 (rd t540 (ji38))).f0.f1) - ((rd_T53 l0_0 (ji59)).f0.f1))) == (wrap64 (((rd_T53 l0_0 (ji42)).f0.f1) - ((rd_T35 t537 (ji38)).f1)))) = false := beq_eq_false_iff_ne.mpr c63
                                      have c63b1 : ((wrap64 (((rd_T53 l0_0 (rd t540 (ji38))).f0.f1) - ((rd_T53 l0_0 (ji59)).f0.f1))) != (wrap64 (((rd_T53 l0_0 (ji42)).f0.f1) - ((rd_T35 t537 (ji38)).f1)))) = true := bne_iff_ne.mpr c63
                                      have H' := Aside0.mk H
                                      clear H
                                      have hcz64_0 : wr.cell? ⟨gb503, 0, none⟩ = some (.slice (some ad595) l0_0.length c0_0) := (blk_cell BK503.out 0).trans rfl
                                      have hcz64_1 : wr.cell? ⟨gb503, 1, none⟩ = some (.slice A0_1 l0_1.length c0_1) := (blk_cell BK503.out 1).trans rfl
                                      have hfz64_0 := blk_frozen BK503.out 0
                                      have hfz64_1 := blk_frozen BK503.out 1
                                      have p606 : 0 ≤ ((rd t540 (ji38)) : Int) := of_decide_eq_true (by first | (with_reducible assumption) | assumption)
                                      have q606 : (rd t540 (ji38)) < (l0_0.length : Int) := of_decide_eq_true (by first | (with_reducible assumption) | assumption)
                                      obtain ⟨ad606, e606, hx606_0, _, _, _, _, _, _, _, _, _, _, _, _, _, _, _, _, _, _, _, _, _⟩ := at_T53 HR0_0.out (rd t540 (ji38)) p606 q606
                                      obtain rfl : ad595 = ad606 := (by injection e606)
                                      replace hx606_0 := cb HB.out hx606_0
                                      replace p606 := eq_true p606
                                      replace q606 := eq_true q606
                                      have p607 : 0 ≤ ((ji59) : Int) := of_decide_eq_true (by first | (with_reducible assumption) | assumption)
                                      have q607 : (ji59) < (l0_0.length : Int) := of_decide_eq_true (by first | (with_reducible assumption) | assumption)
                                      obtain ⟨ad607, e607, hx607_0, _, _, _, _, _, _, _, _, _, _, _, _, _, _, _, _, _, _, _, _, _⟩ := at_T53 HR0_0.out (ji59) p607 q607
                                      obtain rfl : ad595 = ad607 := (by injection e607)
                                      replace hx607_0 := cb HB.out hx607_0
                                      replace p607 := eq_true p607
                                      replace q607 := eq_true q607
                                      have p608 : 0 ≤ ((rd t540 (ji38)) : Int) := of_decide_eq_true (by first | (with_reducible assumption) | assumption)
                                      have q608 : (rd t540 (ji38)) < (l0_0.length : Int) := of_decide_eq_true (by first | (with_reducible assumption) | assumption)
                                      obtain ⟨ad608, e608, _, hx608_1, _, _, _, _, _, _, _, _, _, _, _, _, _, _, _, _, _, _, _, _⟩ := at_T53 HR0_0.out (rd t540 (ji38)) p608 q608
                                      obtain rfl : ad595 = ad608 := (by injection e608)
                                      replace hx608_1 := cb HB.out hx608_1
                                      replace p608 := eq_true p608
                                      replace q608 := eq_true q608
                                      have p609 : 0 ≤ ((ji59) : Int) := of_decide_eq_true (by first | (with_reducible assumption) | assumption)
                                      have q609 : (ji59) < (l0_0.length : Int) := of_decide_eq_true (by first | (with_reducible assumption) | assumption)
                                      obtain ⟨ad609, e609, _, hx609_1, _, _, _, _, _, _, _, _, _, _, _, _, _, _, _, _, _, _, _, _⟩ := at_T53 HR0_0.out (ji59) p609 q609
                                      obtain rfl : ad595 = ad609 := (by injection e609)
                                      replace hx609_1 := cb HB.out hx609_1
                                      replace p609 := eq_true p609
                                      replace q609 := eq_true q609
                                      go_wp2
                                      repeat (go_quiet (fail); try go_wp2)
                                      go_roundg k2
                                      case measure => have := HK1.out; have := HK2.out; omega
                                      case rel => exact ⟨(wrap64 (x7_1 + 1)), (by first | rfl | (simp; done) | (simp [*]; done)), H', ⟨by have := HK1.out; have := HK2.out; omega⟩, ⟨by (with_reducible repeat first | apply rA | apply rN | apply rD); exact HO_3.out⟩, ⟨by (with_reducible repeat first | apply rA | apply rN | apply rD); exact HO_4.out⟩, ⟨by (with_reducible repeat first | apply kN | apply kD | apply kA); exact BK503.out⟩, ⟨by repeat with_reducible first | exact HB.out | apply bA | apply bN | apply bD | refine bS ?_ GE503.out⟩⟩
                                    ·
                                     rw [if_neg c62] at H
                                     have c62b0 : ((wrap64 (((rd_T53 l0_0 (rd t540 (ji38))).f0.f0) - ((rd_T53 l0_0 (ji59)).f0.f0))) == (wrap64 (((rd_T53 l0_0 (ji42)).f0.f0) - ((rd_T35 t537 (ji38)).f0)))) = false := beq_eq_false_iff_ne.mpr c62
                                     have c62b1 : ((wrap64 (((rd_T53 l0_0 (rd t540 (ji38))).f0.f0) - ((rd_T53 l0_0 (ji59)).f0.f0))) != (wrap64 (((rd_T53 l0_0 (ji42)).f0.f0) - ((rd_T35 t537 (ji38)).f0)))) = true := bne_iff_ne.mpr c62
                                     have H' := Aside0.mk H
                                     clear H
                                     have hcz65_0 : wr.cell? ⟨gb503, 0, none⟩ = some (.slice (some ad595) l0_0.length c0_0) := (blk_cell BK503.out 0).trans rfl
                                     have hcz65_1 : wr.cell? ⟨gb503, 1, none⟩ = some (.slice A0_1 l0_1.length c0_1) := (blk_cell BK503.out 1).trans rfl
                                     have hfz65_0 := blk_frozen BK503.out 0
                                     have hfz65_1 := blk_frozen BK503.out 1
                                     have p606 : 0 ≤ ((rd t540 (ji38)) : Int) := of_decide_eq_true (by first | (with_reducible assumption) | assumption)
                                     have q606 : (rd t540 (ji38)) < (l0_0.length : Int) := of_decide_eq_true (by first | (with_reducible assumption) | assumption)
                                     obtain ⟨ad606, e606, hx606_0, _, _, _, _, _, _, _, _, _, _, _, _, _, _, _, _, _, _, _, _, _⟩ := at_T53 HR0_0.out (rd t540 (ji38)) p606 q606
                                     obtain rfl : ad595 = ad606 := (by injection e606)
                                     replace hx606_0 := cb HB.out hx606_0
                                     replace p606 := eq_true p606
                                     replace q606 := eq_true q606
                                     have p607 : 0 ≤ ((ji59) : Int) := of_decide_eq_true (by first | (with_reducible assumption) | assumption)
                                     have q607 : (ji59) < (l0_0.length : Int) := of_decide_eq_true (by first | (with_reducible assumption) | assumption)
                                     obtain ⟨ad607, e607, hx607_0, _, _, _, _, _, _, _, _, _, _, _, _, _, _, _, _, _, _, _, _, _⟩ := at_T53 HR0_0.out (ji59) p607 q607
                                     obtain rfl : ad595 = ad607 := (by injection e607)
                                     replace hx607_0 := cb HB.out hx607_0
                                     replace p607 := eq_true p607
                                     replace q607 := eq_true q607
                                     go_wp2
                                     repeat (go_quiet (fail); try go_wp2)
                                     go_roundg k2
                                     case measure => have := HK1.out; have := HK2.out; omega
                                     case rel => exact ⟨(wrap64 (x7_1 + 1)), (by first | rfl | (simp; done) | (simp [*]; done)), H', ⟨by have := HK1.out; have := HK2.out; omega⟩, ⟨by (with_reducible repeat first | apply rA | apply rN | apply rD); exact HO_3.out⟩, ⟨by (with_reducible repeat first | apply rA | apply rN | apply rD); exact HO_4.out⟩, ⟨by (with_reducible repeat first | apply kN | apply kD | apply kA); exact BK503.out⟩, ⟨by repeat with_reducible first | exact HB.out | apply bA | apply bN | apply bD | refine bS ?_ GE503.out⟩⟩
                                   ·
                                    rw [if_neg c61] at H
                                    exact absurd H (by simp)
                                  ·
                                   rw [if_neg c60] at H
                                   exact absurd H (by simp)
                                 ·
                                  rw [if_neg c58] at H
                                  exact absurd H (by simp)
                                ·
                                 rw [if_neg c57] at H
                                 exact absurd H (by simp)
                               ·
                                rw [if_neg c56] at H
                                have c56b0 : decide (1 < x7_1) = false := decide_eq_false c56
                                clear c56
                                have H' := Aside0.mk H
                                clear H
                                go_wp2
                                repeat (go_quiet (fail); try go_wp2)
                                go_roundg k2
                                case measure => have := HK1.out; have := HK2.out; omega
                                case rel => exact ⟨(wrap64 (x7_1 + 1)), (by first | rfl | (simp; done) | (simp [*]; done)), H', ⟨by have := HK1.out; have := HK2.out; omega⟩, ⟨by (with_reducible repeat first | apply rA | apply rN | apply rD); exact HO_3.out⟩, ⟨by (with_reducible repeat first | apply rA | apply rN | apply rD); exact HO_4.out⟩, ⟨by (with_reducible repeat first | apply kN | apply kD | apply kA); exact BK503.out⟩, ⟨by repeat with_reducible first | exact HB.out | apply bA | apply bN | apply bD | refine bS ?_ GE503.out⟩⟩
                           ·
                            rw [if_neg c45] at H
                            exact absurd H (by simp)
                          ·
                           rw [if_neg c44] at H
                           exact absurd H (by simp)
                         ·
                          rw [if_neg c43] at H
                          exact absurd H (by simp)
                       ·
                        rw [if_neg c40] at H
                        exact absurd H (by simp)
                      ·
                       rw [if_neg c39] at H
                       exact absurd H (by simp)
                   ·
                    rw [if_neg c34] at H
                    exact absurd H (by simp)
                  ·
                   rw [if_neg c33] at H
                   exact absurd H (by simp)
                 ·
                  rw [if_neg c32] at H
                  exact absurd H (by simp)
              ·
               rw [if_neg c29] at H
               exact absurd H (by simp)
             ·
              rw [if_neg c28] at H
              have c28b0 : decide (x7_1 < (t540.length : Int)) = false := decide_eq_false c28
              clear c28
              replace H := Option.bind_eq_some_iff.mp H
              obtain ⟨t590, A660, H⟩ := H
              replace H : (some t590) = some r := H
              have A66 := Aside0.mk A660
              clear A660
              obtain rfl := Option.some.inj H
              go_wp2_with (first | (go_at_call 10; (with_reducible refine (dancestudiolaw43_awake.calls  t590 _ A66.out).mono ?_); rintro e w67 ⟨rfl, hb⟩; replace HO_3 := Aside0.mk (Kd.R_below (by (with_reducible repeat first | apply rA | apply rN | apply rD); exact HO_3.out) hb); replace HO_4 := Aside0.mk (Kd.R_below (by (with_reducible repeat first | apply rA | apply rN | apply rD); exact HO_4.out) hb); replace BK503 := Aside0.mk (blk_below (o := .cells #[.slice A0_0 l0_0.length c0_0, .slice A0_1 l0_1.length c0_1] 25 (0, 0)) (by with_reducible repeat first | exact BK503.out | apply kN | apply kD | apply kA) hb); replace HB := Aside0.mk (below_step (by repeat with_reducible first | exact HB.out | apply bA | apply bN | apply bD | refine bS ?_ GE503.out) hb); (try clear hb); (try clear hb2); (try clear hk); (try clear hi)))
              repeat (go_quiet (first | (go_at_call 10; (with_reducible refine (dancestudiolaw43_awake.calls  t590 _ A66.out).mono ?_); rintro e w67 ⟨rfl, hb⟩; replace HO_3 := Aside0.mk (Kd.R_below (by (with_reducible repeat first | apply rA | apply rN | apply rD); exact HO_3.out) hb); replace HO_4 := Aside0.mk (Kd.R_below (by (with_reducible repeat first | apply rA | apply rN | apply rD); exact HO_4.out) hb); replace BK503 := Aside0.mk (blk_below (o := .cells #[.slice A0_0 l0_0.length c0_0, .slice A0_1 l0_1.length c0_1] 25 (0, 0)) (by with_reducible repeat first | exact BK503.out | apply kN | apply kD | apply kA) hb); replace HB := Aside0.mk (below_step (by repeat with_reducible first | exact HB.out | apply bA | apply bN | apply bD | refine bS ?_ GE503.out) hb); (try clear hb); (try clear hb2); (try clear hk); (try clear hi))); try go_wp2_with (first | (go_at_call 10; (with_reducible refine (dancestudiolaw43_awake.calls  t590 _ A66.out).mono ?_); rintro e w67 ⟨rfl, hb⟩; replace HO_3 := Aside0.mk (Kd.R_below (by (with_reducible repeat first | apply rA | apply rN | apply rD); exact HO_3.out) hb); replace HO_4 := Aside0.mk (Kd.R_below (by (with_reducible repeat first | apply rA | apply rN | apply rD); exact HO_4.out) hb); replace BK503 := Aside0.mk (blk_below (o := .cells #[.slice A0_0 l0_0.length c0_0, .slice A0_1 l0_1.length c0_1] 25 (0, 0)) (by with_reducible repeat first | exact BK503.out | apply kN | apply kD | apply kA) hb); replace HB := Aside0.mk (below_step (by repeat with_reducible first | exact HB.out | apply bA | apply bN | apply bD | refine bS ?_ GE503.out) hb); (try clear hb); (try clear hb2); (try clear hk); (try clear hi))))
              go_ret
              exact ⟨by first | rfl | (simp [errW_none, errW_some] <;> rfl) | (simp only [← hji15]; first | rfl | (simp [errW_none, errW_some] <;> rfl)) | (simp [*, errW_none, errW_some] <;> rfl), by repeat with_reducible first | exact HB.out | apply bA | apply bN | apply bD | refine bS ?_ GE503.out⟩
          ·
           rw [if_neg c19] at H
           exact absurd H (by simp)
         ·
          rw [if_neg c18] at H
          exact absurd H (by simp)
        ·
         rw [if_neg c17] at H
         exact absurd H (by simp)
       ·
        rw [if_neg c16] at H
        exact absurd H (by simp)
      ·
       rw [if_neg c14] at H
       exact absurd H (by simp)
     ·
      rw [if_neg c13] at H
      exact absurd H (by simp)
   ·
    rw [if_neg c11] at H
    exact absurd H (by simp)
  ·
   rw [if_neg c10] at H
   have c10b0 : (t543 == 0) = false := beq_eq_false_iff_ne.mpr c10
   have c10b1 : (t543 != 0) = true := bne_iff_ne.mpr c10
   by_cases c68 : (t537.length : Int) = 0
   ·
    rw [if_pos c68] at H
    have c68b0 : ((t537.length : Int) == 0) = true := beq_iff_eq.mpr c68
    have c68b1 : ((t537.length : Int) != 0) = false := bne_eq_false_iff_eq.mpr c68
    clear c68
    by_cases c69 : (t540.length : Int) = 0
    ·
     rw [if_pos c69] at H
     have c69b0 : ((t540.length : Int) == 0) = true := beq_iff_eq.mpr c69
     have c69b1 : ((t540.length : Int) != 0) = false := bne_eq_false_iff_eq.mpr c69
     clear c69
     replace H := Option.bind_eq_some_iff.mp H
     obtain ⟨t544, A700, H⟩ := H
     replace H : (if t543 = t544 then ((dancestudiolaw43_awake.f).bind fun t545 => (some t545)) else (none)) = some r := H
     have A70 := Aside0.mk A700
     clear A700
     by_cases c71 : t543 = t544
     ·
      rw [if_pos c71] at H
      have c71b0 : (t543 == t544) = true := beq_iff_eq.mpr c71
      have c71b1 : (t543 != t544) = false := bne_eq_false_iff_eq.mpr c71
      clear c71
      replace H := Option.bind_eq_some_iff.mp H
      obtain ⟨t545, A720, H⟩ := H
      replace H : (some t545) = some r := H
      have A72 := Aside0.mk A720
      clear A720
      obtain rfl := Option.some.inj H
      go_enter Try.func5, Try.ntmps5
      go_wp2_with (first | ((with_reducible refine gate_dst (N := 1) rfl ?_); refine box_event ?hg (N := 1) ?hd (cs := #[.slice A0_0 l0_0.length c0_0, .slice A0_1 l0_1.length c0_1]) (t := 25) ?hr ?_; (case hd => rfl); (case hg => rfl); (case hr => first | (go_simp; done) | (go_simp; rfl)); intro gb503 hg w73 hbox hb; have BK503 := Aside0.mk (hbox); have GW503 := Aside0.mk ((by rw [hg]; exact (below_size (by repeat with_reducible first | exact HB.out | apply bA | apply bN | apply bD)) : w.heap.size ≤ gb503)); have GE503 := GW503; replace HB := Aside0.mk (below_step (by repeat with_reducible first | exact HB.out | apply bA | apply bN | apply bD) hb); clear hb hbox hg; obtain ⟨hcz74_0, hcz74_1, hfz74_0, hfz74_1⟩ := kc2 BK503.out) | (go_at_call 9; (with_reducible refine (dancestudiolaw43_great.calls _ _ l0_0 _ _ l0_1 false _ ?side1 ?side2 ?side3 ?side4 A2.out).mono ?_); (case side1 => repeat (first | exact (Kd.C_below HR0_0.out HB.out) | (with_reducible first | apply cA | apply cN | apply cD))); (case side2 => exact HC0_0.out); (case side3 => repeat (first | exact (Kd.C_below HR0_1.out HB.out) | (with_reducible first | apply cA | apply cN | apply cD))); (case side4 => exact HC0_1.out); rintro e w75 ⟨rfl, hb⟩; replace BK503 := Aside0.mk (blk_below (o := .cells #[.slice A0_0 l0_0.length c0_0, .slice A0_1 l0_1.length c0_1] 25 (0, 0)) (by with_reducible repeat first | exact BK503.out | apply kN | apply kD | apply kA) hb); replace HB := Aside0.mk (below_step (by repeat with_reducible first | exact HB.out | apply bA | apply bN | apply bD | refine bS ?_ GE503.out) hb); (try clear hb); (try clear hb2); (try clear hk); (try clear hi); obtain ⟨hcz76_0, hcz76_1, hfz76_0, hfz76_1⟩ := kc2 BK503.out) | (go_at_call 11; (with_reducible refine (floor_Path.calls k _ _ l0_0 _ _ l0_1 t537 t540 t543 _ ?side1 ?side2 ?side3 ?side4 A9.out).mono ?_); (case side1 => repeat (first | exact (Kd.C_below HR0_0.out HB.out) | (with_reducible first | apply cA | apply cN | apply cD))); (case side2 => exact HC0_0.out); (case side3 => repeat (first | exact (Kd.C_below HR0_1.out HB.out) | (with_reducible first | apply cA | apply cN | apply cD))); (case side4 => exact HC0_1.out); rintro e w77 ⟨v538, v541, rfl, ho0, ho1, hb⟩; have HO539 := Aside0.mk (Kd.R_lower ho0 (below_size (by repeat with_reducible first | exact HB.out | apply bA | apply bN | apply bD | refine bS ?_ GE503.out))); have HO542 := Aside0.mk (Kd.R_lower ho1 (below_size (by repeat with_reducible first | exact HB.out | apply bA | apply bN | apply bD | refine bS ?_ GE503.out))); replace BK503 := Aside0.mk (blk_below (o := .cells #[.slice A0_0 l0_0.length c0_0, .slice A0_1 l0_1.length c0_1] 25 (0, 0)) (by with_reducible repeat first | exact BK503.out | apply kN | apply kD | apply kA) hb); replace HB := Aside0.mk (below_step (by repeat with_reducible first | exact HB.out | apply bA | apply bN | apply bD | refine bS ?_ GE503.out) hb); (try clear hb); (try clear hb2); (try clear hk); (try clear hi); (try clear ho0); (try clear ho1); obtain ⟨Ao78, co78, eo78⟩ := Kd.R_slice HO539.out; subst eo78; obtain ⟨Ao79, co79, eo79⟩ := Kd.R_slice HO542.out; subst eo79; obtain ⟨hcz80_0, hcz80_1, hfz80_0, hfz80_1⟩ := kc2 BK503.out) | (go_at_call 21; (with_reducible refine (movement_Check.calls k _ _ l0_0 _ _ l0_1 t544 _ ?side1 ?side2 ?side3 ?side4 A70.out).mono ?_); (case side1 => repeat (first | exact (Kd.C_below HR0_0.out HB.out) | (with_reducible first | apply cA | apply cN | apply cD))); (case side2 => exact HC0_0.out); (case side3 => repeat (first | exact (Kd.C_below HR0_1.out HB.out) | (with_reducible first | apply cA | apply cN | apply cD))); (case side4 => exact HC0_1.out); rintro e w81 ⟨rfl, hb⟩; replace HO539 := Aside0.mk (Kd.R_below (by (with_reducible repeat first | apply rA | apply rN | apply rD); exact HO539.out) hb); replace HO542 := Aside0.mk (Kd.R_below (by (with_reducible repeat first | apply rA | apply rN | apply rD); exact HO542.out) hb); replace BK503 := Aside0.mk (blk_below (o := .cells #[.slice A0_0 l0_0.length c0_0, .slice A0_1 l0_1.length c0_1] 25 (0, 0)) (by with_reducible repeat first | exact BK503.out | apply kN | apply kD | apply kA) hb); replace HB := Aside0.mk (below_step (by repeat with_reducible first | exact HB.out | apply bA | apply bN | apply bD | refine bS ?_ GE503.out) hb); (try clear hb); (try clear hb2); (try clear hk); (try clear hi)) | (go_at_call 10; (with_reducible refine (dancestudiolaw43_awake.calls  t545 _ A72.out).mono ?_); rintro e w82 ⟨rfl, hb⟩; replace HO539 := Aside0.mk (Kd.R_below (by (with_reducible repeat first | apply rA | apply rN | apply rD); exact HO539.out) hb); replace HO542 := Aside0.mk (Kd.R_below (by (with_reducible repeat first | apply rA | apply rN | apply rD); exact HO542.out) hb); replace BK503 := Aside0.mk (blk_below (o := .cells #[.slice A0_0 l0_0.length c0_0, .slice A0_1 l0_1.length c0_1] 25 (0, 0)) (by with_reducible repeat first | exact BK503.out | apply kN | apply kD | apply kA) hb); replace HB := Aside0.mk (below_step (by repeat with_reducible first | exact HB.out | apply bA | apply bN | apply bD | refine bS ?_ GE503.out) hb); (try clear hb); (try clear hb2); (try clear hk); (try clear hi)))
      repeat (go_quiet (first | ((with_reducible refine gate_dst (N := 1) rfl ?_); refine box_event ?hg (N := 1) ?hd (cs := #[.slice A0_0 l0_0.length c0_0, .slice A0_1 l0_1.length c0_1]) (t := 25) ?hr ?_; (case hd => rfl); (case hg => rfl); (case hr => first | (go_simp; done) | (go_simp; rfl)); intro gb503 hg w73 hbox hb; have BK503 := Aside0.mk (hbox); have GW503 := Aside0.mk ((by rw [hg]; exact (below_size (by repeat with_reducible first | exact HB.out | apply bA | apply bN | apply bD)) : w.heap.size ≤ gb503)); have GE503 := GW503; replace HB := Aside0.mk (below_step (by repeat with_reducible first | exact HB.out | apply bA | apply bN | apply bD) hb); clear hb hbox hg; obtain ⟨hcz74_0, hcz74_1, hfz74_0, hfz74_1⟩ := kc2 BK503.out) | (go_at_call 9; (with_reducible refine (dancestudiolaw43_great.calls _ _ l0_0 _ _ l0_1 false _ ?side1 ?side2 ?side3 ?side4 A2.out).mono ?_); (case side1 => repeat (first | exact (Kd.C_below HR0_0.out HB.out) | (with_reducible first | apply cA | apply cN | apply cD))); (case side2 => exact HC0_0.out); (case side3 => repeat (first | exact (Kd.C_below HR0_1.out HB.out) | (with_reducible first | apply cA | apply cN | apply cD))); (case side4 => exact HC0_1.out); rintro e w75 ⟨rfl, hb⟩; replace BK503 := Aside0.mk (blk_below (o := .cells #[.slice A0_0 l0_0.length c0_0, .slice A0_1 l0_1.length c0_1] 25 (0, 0)) (by with_reducible repeat first | exact BK503.out | apply kN | apply kD | apply kA) hb); replace HB := Aside0.mk (below_step (by repeat with_reducible first | exact HB.out | apply bA | apply bN | apply bD | refine bS ?_ GE503.out) hb); (try clear hb); (try clear hb2); (try clear hk); (try clear hi); obtain ⟨hcz76_0, hcz76_1, hfz76_0, hfz76_1⟩ := kc2 BK503.out) | (go_at_call 11; (with_reducible refine (floor_Path.calls k _ _ l0_0 _ _ l0_1 t537 t540 t543 _ ?side1 ?side2 ?side3 ?side4 A9.out).mono ?_); (case side1 => repeat (first | exact (Kd.C_below HR0_0.out HB.out) | (with_reducible first | apply cA | apply cN | apply cD))); (case side2 => exact HC0_0.out); (case side3 => repeat (first | exact (Kd.C_below HR0_1.out HB.out) | (with_reducible first | apply cA | apply cN | apply cD))); (case side4 => exact HC0_1.out); rintro e w77 ⟨v538, v541, rfl, ho0, ho1, hb⟩; have HO539 := Aside0.mk (Kd.R_lower ho0 (below_size (by repeat with_reducible first | exact HB.out | apply bA | apply bN | apply bD | refine bS ?_ GE503.out))); have HO542 := Aside0.mk (Kd.R_lower ho1 (below_size (by repeat with_reducible first | exact HB.out | apply bA | apply bN | apply bD | refine bS ?_ GE503.out))); replace BK503 := Aside0.mk (blk_below (o := .cells #[.slice A0_0 l0_0.length c0_0, .slice A0_1 l0_1.length c0_1] 25 (0, 0)) (by with_reducible repeat first | exact BK503.out | apply kN | apply kD | apply kA) hb); replace HB := Aside0.mk (below_step (by repeat with_reducible first | exact HB.out | apply bA | apply bN | apply bD | refine bS ?_ GE503.out) hb); (try clear hb); (try clear hb2); (try clear hk); (try clear hi); (try clear ho0); (try clear ho1); obtain ⟨Ao78, co78, eo78⟩ := Kd.R_slice HO539.out; subst eo78; obtain ⟨Ao79, co79, eo79⟩ := Kd.R_slice HO542.out; subst eo79; obtain ⟨hcz80_0, hcz80_1, hfz80_0, hfz80_1⟩ := kc2 BK503.out) | (go_at_call 21; (with_reducible refine (movement_Check.calls k _ _ l0_0 _ _ l0_1 t544 _ ?side1 ?side2 ?side3 ?side4 A70.out).mono ?_); (case side1 => repeat (first | exact (Kd.C_below HR0_0.out HB.out) | (with_reducible first | apply cA | apply cN | apply cD))); (case side2 => exact HC0_0.out); (case side3 => repeat (first | exact (Kd.C_below HR0_1.out HB.out) | (with_reducible first | apply cA | apply cN | apply cD))); (case side4 => exact HC0_1.out); rintro e w81 ⟨rfl, hb⟩; replace HO539 := Aside0.mk (Kd.R_below (by (with_reducible repeat first | apply rA | apply rN | apply rD); exact HO539.out) hb); replace HO542 := Aside0.mk (Kd.R_below (by (with_reducible repeat first | apply rA | apply rN | apply rD); exact HO542.out) hb); replace BK503 := Aside0.mk (blk_below (o := .cells #[.slice A0_0 l0_0.length c0_0, .slice A0_1 l0_1.length c0_1] 25 (0, 0)) (by with_reducible repeat first | exact BK503.out | apply kN | apply kD | apply kA) hb); replace HB := Aside0.mk (below_step (by repeat with_reducible first | exact HB.out | apply bA | apply bN | apply bD | refine bS ?_ GE503.out) hb); (try clear hb); (try clear hb2); (try clear hk); (try clear hi)) | (go_at_call 10; (with_reducible refine (dancestudiolaw43_awake.calls  t545 _ A72.out).mono ?_); rintro e w82 ⟨rfl, hb⟩; replace HO539 := Aside0.mk (Kd.R_below (by (with_reducible repeat first | apply rA | apply rN | apply rD); exact HO539.out) hb); replace HO542 := Aside0.mk (Kd.R_below (by (with_reducible repeat first | apply rA | apply rN | apply rD); exact HO542.out) hb); replace BK503 := Aside0.mk (blk_below (o := .cells #[.slice A0_0 l0_0.length c0_0, .slice A0_1 l0_1.length c0_1] 25 (0, 0)) (by with_reducible repeat first | exact BK503.out | apply kN | apply kD | apply kA) hb); replace HB := Aside0.mk (below_step (by repeat with_reducible first | exact HB.out | apply bA | apply bN | apply bD | refine bS ?_ GE503.out) hb); (try clear hb); (try clear hb2); (try clear hk); (try clear hi))); try go_wp2_with (first | ((with_reducible refine gate_dst (N := 1) rfl ?_); refine box_event ?hg (N := 1) ?hd (cs := #[.slice A0_0 l0_0.length c0_0, .slice A0_1 l0_1.length c0_1]) (t := 25) ?hr ?_; (case hd => rfl); (case hg => rfl); (case hr => first | (go_simp; done) | (go_simp; rfl)); intro gb503 hg w73 hbox hb; have BK503 := Aside0.mk (hbox); have GW503 := Aside0.mk ((by rw [hg]; exact (below_size (by repeat with_reducible first | exact HB.out | apply bA | apply bN | apply bD)) : w.heap.size ≤ gb503)); have GE503 := GW503; replace HB := Aside0.mk (below_step (by repeat with_reducible first | exact HB.out | apply bA | apply bN | apply bD) hb); clear hb hbox hg; obtain ⟨hcz74_0, hcz74_1, hfz74_0, hfz74_1⟩ := kc2 BK503.out) | (go_at_call 9; (with_reducible refine (dancestudiolaw43_great.calls _ _ l0_0 _ _ l0_1 false _ ?side1 ?side2 ?side3 ?side4 A2.out).mono ?_); (case side1 => repeat (first | exact (Kd.C_below HR0_0.out HB.out) | (with_reducible first | apply cA | apply cN | apply cD))); (case side2 => exact HC0_0.out); (case side3 => repeat (first | exact (Kd.C_below HR0_1.out HB.out) | (with_reducible first | apply cA | apply cN | apply cD))); (case side4 => exact HC0_1.out); rintro e w75 ⟨rfl, hb⟩; replace BK503 := Aside0.mk (blk_below (o := .cells #[.slice A0_0 l0_0.length c0_0, .slice A0_1 l0_1.length c0_1] 25 (0, 0)) (by with_reducible repeat first | exact BK503.out | apply kN | apply kD | apply kA) hb); replace HB := Aside0.mk (below_step (by repeat with_reducible first | exact HB.out | apply bA | apply bN | apply bD | refine bS ?_ GE503.out) hb); (try clear hb); (try clear hb2); (try clear hk); (try clear hi); obtain ⟨hcz76_0, hcz76_1, hfz76_0, hfz76_1⟩ := kc2 BK503.out) | (go_at_call 11; (with_reducible refine (floor_Path.calls k _ _ l0_0 _ _ l0_1 t537 t540 t543 _ ?side1 ?side2 ?side3 ?side4 A9.out).mono ?_); (case side1 => repeat (first | exact (Kd.C_below HR0_0.out HB.out) | (with_reducible first | apply cA | apply cN | apply cD))); (case side2 => exact HC0_0.out); (case side3 => repeat (first | exact (Kd.C_below HR0_1.out HB.out) | (with_reducible first | apply cA | apply cN | apply cD))); (case side4 => exact HC0_1.out); rintro e w77 ⟨v538, v541, rfl, ho0, ho1, hb⟩; have HO539 := Aside0.mk (Kd.R_lower ho0 (below_size (by repeat with_reducible first | exact HB.out | apply bA | apply bN | apply bD | refine bS ?_ GE503.out))); have HO542 := Aside0.mk (Kd.R_lower ho1 (below_size (by repeat with_reducible first | exact HB.out | apply bA | apply bN | apply bD | refine bS ?_ GE503.out))); replace BK503 := Aside0.mk (blk_below (o := .cells #[.slice A0_0 l0_0.length c0_0, .slice A0_1 l0_1.length c0_1] 25 (0, 0)) (by with_reducible repeat first | exact BK503.out | apply kN | apply kD | apply kA) hb); replace HB := Aside0.mk (below_step (by repeat with_reducible first | exact HB.out | apply bA | apply bN | apply bD | refine bS ?_ GE503.out) hb); (try clear hb); (try clear hb2); (try clear hk); (try clear hi); (try clear ho0); (try clear ho1); obtain ⟨Ao78, co78, eo78⟩ := Kd.R_slice HO539.out; subst eo78; obtain ⟨Ao79, co79, eo79⟩ := Kd.R_slice HO542.out; subst eo79; obtain ⟨hcz80_0, hcz80_1, hfz80_0, hfz80_1⟩ := kc2 BK503.out) | (go_at_call 21; (with_reducible refine (movement_Check.calls k _ _ l0_0 _ _ l0_1 t544 _ ?side1 ?side2 ?side3 ?side4 A70.out).mono ?_); (case side1 => repeat (first | exact (Kd.C_below HR0_0.out HB.out) | (with_reducible first | apply cA | apply cN | apply cD))); (case side2 => exact HC0_0.out); (case side3 => repeat (first | exact (Kd.C_below HR0_1.out HB.out) | (with_reducible first | apply cA | apply cN | apply cD))); (case side4 => exact HC0_1.out); rintro e w81 ⟨rfl, hb⟩; replace HO539 := Aside0.mk (Kd.R_below (by (with_reducible repeat first | apply rA | apply rN | apply rD); exact HO539.out) hb); replace HO542 := Aside0.mk (Kd.R_below (by (with_reducible repeat first | apply rA | apply rN | apply rD); exact HO542.out) hb); replace BK503 := Aside0.mk (blk_below (o := .cells #[.slice A0_0 l0_0.length c0_0, .slice A0_1 l0_1.length c0_1] 25 (0, 0)) (by with_reducible repeat first | exact BK503.out | apply kN | apply kD | apply kA) hb); replace HB := Aside0.mk (below_step (by repeat with_reducible first | exact HB.out | apply bA | apply bN | apply bD | refine bS ?_ GE503.out) hb); (try clear hb); (try clear hb2); (try clear hk); (try clear hi)) | (go_at_call 10; (with_reducible refine (dancestudiolaw43_awake.calls  t545 _ A72.out).mono ?_); rintro e w82 ⟨rfl, hb⟩; replace HO539 := Aside0.mk (Kd.R_below (by (with_reducible repeat first | apply rA | apply rN | apply rD); exact HO539.out) hb); replace HO542 := Aside0.mk (Kd.R_below (by (with_reducible repeat first | apply rA | apply rN | apply rD); exact HO542.out) hb); replace BK503 := Aside0.mk (blk_below (o := .cells #[.slice A0_0 l0_0.length c0_0, .slice A0_1 l0_1.length c0_1] 25 (0, 0)) (by with_reducible repeat first | exact BK503.out | apply kN | apply kD | apply kA) hb); replace HB := Aside0.mk (below_step (by repeat with_reducible first | exact HB.out | apply bA | apply bN | apply bD | refine bS ?_ GE503.out) hb); (try clear hb); (try clear hb2); (try clear hk); (try clear hi))))
      go_ret
      exact ⟨by first | rfl | (simp [errW_none, errW_some] <;> rfl) | (simp [*, errW_none, errW_some] <;> rfl), by repeat with_reducible first | exact HB.out | apply bA | apply bN | apply bD | refine bS ?_ GE503.out⟩
     ·
      rw [if_neg c71] at H
      exact absurd H (by simp)
    ·
     rw [if_neg c69] at H
     exact absurd H (by simp)
   ·
    rw [if_neg c68] at H
    exact absurd H (by simp)

end Go.Proofs.Ytmdmajfgpmopbaa.X
