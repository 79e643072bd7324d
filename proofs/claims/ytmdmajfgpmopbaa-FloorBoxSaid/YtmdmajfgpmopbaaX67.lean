-- squeezed
-- written by xprint.py, an own overlay over the kit's print; not trusted: Lean checks it
import Derived.Test.YtmdmajfgpmopbaaX0
import Derived.Test.YtmdmajfgpmopbaaX1
import Derived.Test.YtmdmajfgpmopbaaX4
import Derived.Test.YtmdmajfgpmopbaaX10
import Derived.Test.YtmdmajfgpmopbaaX15
import Derived.Test.YtmdmajfgpmopbaaX36
namespace Go.Proofs.Ytmdmajfgpmopbaa.X
open Go.RowKit Go.Proofs.YtmdmajfgpmopbaaW.PrintWords Go.Proofs.YtmdmajfgpmopbaaW.PrintLast Go.Proofs.YtmdmajfgpmopbaaW.PrintMore
attribute [local go_sem] max2_int min2_int max_two min_two max_three min_three max_four min_four   -- for this text's walks alone
set_option linter.unusedVariables false
set_option linter.unusedSimpArgs false

attribute [local go_sem high] eqA35
/-! ### dancestudiolaw43_FloorBox: function 6 -/
def dancestudiolaw43_FloorBox.l0 : Nat → Bool → Bool → Bool → Bool → Int → List (S53) → List Int → Int → Int → Int → Int → Option (Bool)
 | 0, _, _, _, _, _, _, _, _, _, _, _ => none
 | k + 1, x6, x7, x8, x9, x10, x611000, x611001, x631000, x631001, x632000, x632001 => if x10 < (x611000.length : Int) then (if 0 ≤ x10 then (if ((rd_T53 x611000 x10).f0.f0) < x631000 then (none) else (if ((rd_T53 x611000 x10).f0.f0) > x632000 then (none) else (if ((rd_T53 x611000 x10).f0.f1) < x631001 then (none) else (if ((rd_T53 x611000 x10).f0.f1) > x632001 then (none) else (if x6 = true then (if x7 = true then (if x8 = true then (if x9 = true then (dancestudiolaw43_FloorBox.l0 k true true true true (wrap64 (x10 + 1)) x611000 x611001 x631000 x631001 x632000 x632001) else (dancestudiolaw43_FloorBox.l0 k true true true (((rd_T53 x611000 x10).f0.f1) == x632001) (wrap64 (x10 + 1)) x611000 x611001 x631000 x631001 x632000 x632001)) else (if x9 = true then (dancestudiolaw43_FloorBox.l0 k true true (((rd_T53 x611000 x10).f0.f1) == x631001) true (wrap64 (x10 + 1)) x611000 x611001 x631000 x631001 x632000 x632001) else (dancestudiolaw43_FloorBox.l0 k true true (((rd_T53 x611000 x10).f0.f1) == x631001) (((rd_T53 x611000 x10).f0.f1) == x632001) (wrap64 (x10 + 1)) x611000 x611001 x631000 x631001 x632000 x632001))) else (if x8 = true then (if x9 = true then (dancestudiolaw43_FloorBox.l0 k true (((rd_T53 x611000 x10).f0.f0) == x632000) true true (wrap64 (x10 + 1)) x611000 x611001 x631000 x631001 x632000 x632001) else (dancestudiolaw43_FloorBox.l0 k true (((rd_T53 x611000 x10).f0.f0) == x632000) true (((rd_T53 x611000 x10).f0.f1) == x632001) (wrap64 (x10 + 1)) x611000 x611001 x631000 x631001 x632000 x632001)) else (if x9 = true then (dancestudiolaw43_FloorBox.l0 k true (((rd_T53 x611000 x10).f0.f0) == x632000) (((rd_T53 x611000 x10).f0.f1) == x631001) true (wrap64 (x10 + 1)) x611000 x611001 x631000 x631001 x632000 x632001) else (dancestudiolaw43_FloorBox.l0 k true (((rd_T53 x611000 x10).f0.f0) == x632000) (((rd_T53 x611000 x10).f0.f1) == x631001) (((rd_T53 x611000 x10).f0.f1) == x632001) (wrap64 (x10 + 1)) x611000 x611001 x631000 x631001 x632000 x632001)))) else (if x7 = true then (if x8 = true then (if x9 = true then (dancestudiolaw43_FloorBox.l0 k (((rd_T53 x611000 x10).f0.f0) == x631000) true true true (wrap64 (x10 + 1)) x611000 x611001 x631000 x631001 x632000 x632001) else (dancestudiolaw43_FloorBox.l0 k (((rd_T53 x611000 x10).f0.f0) == x631000) true true (((rd_T53 x611000 x10).f0.f1) == x632001) (wrap64 (x10 + 1)) x611000 x611001 x631000 x631001 x632000 x632001)) else (if x9 = true then (dancestudiolaw43_FloorBox.l0 k (((rd_T53 x611000 x10).f0.f0) == x631000) true (((rd_T53 x611000 x10).f0.f1) == x631001) true (wrap64 (x10 + 1)) x611000 x611001 x631000 x631001 x632000 x632001) else (dancestudiolaw43_FloorBox.l0 k (((rd_T53 x611000 x10).f0.f0) == x631000) true (((rd_T53 x611000 x10).f0.f1) == x631001) (((rd_T53 x611000 x10).f0.f1) == x632001) (wrap64 (x10 + 1)) x611000 x611001 x631000 x631001 x632000 x632001))) else (if x8 = true then (if x9 = true then (dancestudiolaw43_FloorBox.l0 k (((rd_T53 x611000 x10).f0.f0) == x631000) (((rd_T53 x611000 x10).f0.f0) == x632000) true true (wrap64 (x10 + 1)) x611000 x611001 x631000 x631001 x632000 x632001) else (dancestudiolaw43_FloorBox.l0 k (((rd_T53 x611000 x10).f0.f0) == x631000) (((rd_T53 x611000 x10).f0.f0) == x632000) true (((rd_T53 x611000 x10).f0.f1) == x632001) (wrap64 (x10 + 1)) x611000 x611001 x631000 x631001 x632000 x632001)) else (if x9 = true then (dancestudiolaw43_FloorBox.l0 k (((rd_T53 x611000 x10).f0.f0) == x631000) (((rd_T53 x611000 x10).f0.f0) == x632000) (((rd_T53 x611000 x10).f0.f1) == x631001) true (wrap64 (x10 + 1)) x611000 x611001 x631000 x631001 x632000 x632001) else (dancestudiolaw43_FloorBox.l0 k (((rd_T53 x611000 x10).f0.f0) == x631000) (((rd_T53 x611000 x10).f0.f0) == x632000) (((rd_T53 x611000 x10).f0.f1) == x631001) (((rd_T53 x611000 x10).f0.f1) == x632001) (wrap64 (x10 + 1)) x611000 x611001 x631000 x631001 x632000 x632001))))))))) else (none)) else (if x6 = true then (if x7 = true then (if x8 = true then (if x9 = true then ((dancestudiolaw43_awake.f).bind fun t639 => (some t639)) else (none)) else (none)) else (none)) else (none))
def dancestudiolaw43_FloorBox.f (k : Nat) (l0_0 : List (S53)) (l0_1 : List Int) : Option (Bool) := (dancestudiolaw43_great.f l0_0 l0_1).bind fun t611 => (if t611 = true then ((dancestudiolaw43_awake.f).bind fun t612 => (some t612)) else ((floor_Box.f k l0_0 l0_1).bind fun bt625 => (if bt625.2.2.2.2 = 0 then (dancestudiolaw43_FloorBox.l0 k false false false false 0 l0_0 l0_1 bt625.1 bt625.2.1 bt625.2.2.1 bt625.2.2.2.1) else (if (bt625.1 == 0 && (bt625.2.1 == 0)) = true then (if (bt625.2.2.1 == 0 && (bt625.2.2.2.1 == 0)) = true then ((movement_Check.f k l0_0 l0_1).bind fun t632 => (if bt625.2.2.2.2 = t632 then ((dancestudiolaw43_awake.f).bind fun t633 => (some t633)) else (none))) else (none)) else (none)))))
theorem dancestudiolaw43_FloorBox.mono_l : ∀ k, (∀ y0 y1 y2 y3 y4 y5 y6 y7 y8 y9 y10, LeO (dancestudiolaw43_FloorBox.l0 k y0 y1 y2 y3 y4 y5 y6 y7 y8 y9 y10) (dancestudiolaw43_FloorBox.l0 (k + 1) y0 y1 y2 y3 y4 y5 y6 y7 y8 y9 y10))
 | 0 => fun _ _ _ _ _ _ _ _ _ _ _ r h => by simp [dancestudiolaw43_FloorBox.l0] at h
 | k + 1 => by
  have ih0 := dancestudiolaw43_FloorBox.mono_l k
  ·
   intro y0 y1 y2 y3 y4 y5 y6 y7 y8 y9 y10
   unfold dancestudiolaw43_FloorBox.l0
   repeat' first
   | (with_reducible exact ih0 _ _ _ _ _ _ _ _ _ _ _)
   | (with_reducible exact floor_Box.mono _ _ _)
   | (with_reducible exact movement_Check.mono _ _ _)
   | (with_reducible exact LeO.refl _)
   | (with_reducible exact LeO.none _)
   | (with_reducible refine LeO.ite ?_ ?_)
   | (with_reducible refine LeO.bind ?_ (fun _ => ?_))
   | exact ih0 _ _ _ _ _ _ _ _ _ _ _
   | exact floor_Box.mono _ _ _
   | exact movement_Check.mono _ _ _
   | exact LeO.none _
   | refine LeO.ite ?_ ?_
   | refine LeO.bind ?_ (fun _ => ?_)
theorem dancestudiolaw43_FloorBox.mono : ∀ a0 a1 k, LeO (dancestudiolaw43_FloorBox.f k a0 a1) (dancestudiolaw43_FloorBox.f (k + 1) a0 a1) := by
 intro a0 a1 k
 have ih0 := dancestudiolaw43_FloorBox.mono_l k
 unfold dancestudiolaw43_FloorBox.f
 repeat' first
   | (with_reducible exact ih0 _ _ _ _ _ _ _ _ _ _ _)
   | (with_reducible exact floor_Box.mono _ _ _)
   | (with_reducible exact movement_Check.mono _ _ _)
   | (with_reducible exact LeO.refl _)
   | (with_reducible exact LeO.none _)
   | (with_reducible refine LeO.ite ?_ ?_)
   | (with_reducible refine LeO.bind ?_ (fun _ => ?_))
   | exact ih0 _ _ _ _ _ _ _ _ _ _ _
   | exact floor_Box.mono _ _ _
   | exact movement_Check.mono _ _ _
   | exact LeO.none _
   | refine LeO.ite ?_ ?_
   | refine LeO.bind ?_ (fun _ => ?_)
set_option maxHeartbeats 8000000 in
set_option maxRecDepth 100000 in
theorem dancestudiolaw43_FloorBox.calls (k : Nat) (A0_0 : Option Addr) (c0_0 : Nat) (l0_0 : List (S53)) (A0_1 : Option Addr) (c0_1 : Nat) (l0_1 : List Int) (r : Bool) (w : World) (hr0_0 : Kd.C k53 w A0_0 l0_0.length l0_0) (hc0_0 : l0_0.length ≤ c0_0) (hr0_1 : Kd.C (Kd.int .i64) w A0_1 l0_1.length l0_1) (hc0_1 : l0_1.length ≤ c0_1) (h : dancestudiolaw43_FloorBox.f k l0_0 l0_1 = some r) :
  Calls Try.prog 6 #[.agg #[.slice A0_0 l0_0.length c0_0, .slice A0_1 l0_1.length c0_1]] w fun e w' => e = .returned (.bool r) ∧ Below w.heap.size w w' := by
 have hu25 := Try.underlying25
 have hu35 := Try.underlying35
 have HR0_0 := Aside0.mk hr0_0
 have HC0_0 := Aside0.mk hc0_0
 clear hr0_0 hc0_0
 have HR0_1 := Aside0.mk hr0_1
 have HC0_1 := Aside0.mk hc0_1
 clear hr0_1 hc0_1
 have HB := Aside0.mk (Below.refl w.heap.size w)
 have H : ((dancestudiolaw43_great.f l0_0 l0_1).bind fun t611 => (if t611 = true then ((dancestudiolaw43_awake.f).bind fun t612 => (some t612)) else ((floor_Box.f k l0_0 l0_1).bind fun bt625 => (if bt625.2.2.2.2 = 0 then (dancestudiolaw43_FloorBox.l0 k false false false false 0 l0_0 l0_1 bt625.1 bt625.2.1 bt625.2.2.1 bt625.2.2.2.1) else (if (bt625.1 == 0 && (bt625.2.1 == 0)) = true then (if (bt625.2.2.1 == 0 && (bt625.2.2.2.1 == 0)) = true then ((movement_Check.f k l0_0 l0_1).bind fun t632 => (if bt625.2.2.2.2 = t632 then ((dancestudiolaw43_awake.f).bind fun t633 => (some t633)) else (none))) else (none)) else (none)))))) = some r := h
 clear h
 replace H := Option.bind_eq_some_iff.mp H
 obtain ⟨t611, A20, H⟩ := H
 replace H : (if t611 = true then ((dancestudiolaw43_awake.f).bind fun t612 => (some t612)) else ((floor_Box.f k l0_0 l0_1).bind fun bt625 => (if bt625.2.2.2.2 = 0 then (dancestudiolaw43_FloorBox.l0 k false false false false 0 l0_0 l0_1 bt625.1 bt625.2.1 bt625.2.2.1 bt625.2.2.2.1) else (if (bt625.1 == 0 && (bt625.2.1 == 0)) = true then (if (bt625.2.2.1 == 0 && (bt625.2.2.2.1 == 0)) = true then ((movement_Check.f k l0_0 l0_1).bind fun t632 => (if bt625.2.2.2.2 = t632 then ((dancestudiolaw43_awake.f).bind fun t633 => (some t633)) else (none))) else (none)) else (none))))) = some r := H
 have A2 := Aside0.mk A20
 clear A20
 by_cases c3 : t611 = true
 ·
  subst c3
  have H1 : ((dancestudiolaw43_awake.f).bind fun t612 => (some t612)) = some r := by rw [if_pos rfl] at H; exact H
  clear H
  have H := H1
  clear H1
  replace H := Option.bind_eq_some_iff.mp H
  obtain ⟨t612, A40, H⟩ := H
  replace H : (some t612) = some r := H
  have A4 := Aside0.mk A40
  clear A40
  obtain rfl := Option.some.inj H
  go_enter Try.func6, Try.ntmps6
  go_wp2_with (first | ((with_reducible refine gate_dst (N := 1) rfl ?_); refine box_event ?hg (N := 1) ?hd (cs := #[.slice A0_0 l0_0.length c0_0, .slice A0_1 l0_1.length c0_1]) (t := 25) ?hr ?_; (case hd => rfl); (case hg => rfl); (case hr => first | (go_simp; done) | (go_simp; rfl)); intro gb610 hg w5 hbox hb; have BK610 := Aside0.mk (hbox); have GW610 := Aside0.mk ((by rw [hg]; exact (below_size (by repeat with_reducible first | exact HB.out | apply bA | apply bN | apply bD)) : w.heap.size ≤ gb610)); have GE610 := GW610; replace HB := Aside0.mk (below_step (by repeat with_reducible first | exact HB.out | apply bA | apply bN | apply bD) hb); clear hb hbox hg; obtain ⟨hcz6_0, hcz6_1, hfz6_0, hfz6_1⟩ := kc2 BK610.out) | (go_at_call 9; (with_reducible refine (dancestudiolaw43_great.calls _ _ l0_0 _ _ l0_1 true _ ?side1 ?side2 ?side3 ?side4 A2.out).mono ?_); (case side1 => repeat (first | exact (Kd.C_below HR0_0.out HB.out) | (with_reducible first | apply cA | apply cN | apply cD))); (case side2 => exact HC0_0.out); (case side3 => repeat (first | exact (Kd.C_below HR0_1.out HB.out) | (with_reducible first | apply cA | apply cN | apply cD))); (case side4 => exact HC0_1.out); rintro e w7 ⟨rfl, hb⟩; replace BK610 := Aside0.mk (blk_below (o := .cells #[.slice A0_0 l0_0.length c0_0, .slice A0_1 l0_1.length c0_1] 25 (0, 0)) (by with_reducible repeat first | exact BK610.out | apply kN | apply kD | apply kA) hb); replace HB := Aside0.mk (below_step (by repeat with_reducible first | exact HB.out | apply bA | apply bN | apply bD | refine bS ?_ GE610.out) hb); (try clear hb); (try clear hb2); (try clear hk); (try clear hi)) | (go_at_call 10; (with_reducible refine (dancestudiolaw43_awake.calls  t612 _ A4.out).mono ?_); rintro e w8 ⟨rfl, hb⟩; replace BK610 := Aside0.mk (blk_below (o := .cells #[.slice A0_0 l0_0.length c0_0, .slice A0_1 l0_1.length c0_1] 25 (0, 0)) (by with_reducible repeat first | exact BK610.out | apply kN | apply kD | apply kA) hb); replace HB := Aside0.mk (below_step (by repeat with_reducible first | exact HB.out | apply bA | apply bN | apply bD | refine bS ?_ GE610.out) hb); (try clear hb); (try clear hb2); (try clear hk); (try clear hi)))
  repeat (go_quiet (fail); try go_wp2_with (fail))
  go_ret
  exact ⟨by first | rfl | (simp [errW_none, errW_some] <;> rfl) | (simp [*, errW_none, errW_some] <;> rfl), by repeat with_reducible first | exact HB.out | apply bA | apply bN | apply bD | refine bS ?_ GE610.out⟩
 ·
  replace c3 := Bool.eq_false_iff.mpr c3
  subst c3
  have H1 : ((floor_Box.f k l0_0 l0_1).bind fun bt625 => (if bt625.2.2.2.2 = 0 then (dancestudiolaw43_FloorBox.l0 k false false false false 0 l0_0 l0_1 bt625.1 bt625.2.1 bt625.2.2.1 bt625.2.2.2.1) else (if (bt625.1 == 0 && (bt625.2.1 == 0)) = true then (if (bt625.2.2.1 == 0 && (bt625.2.2.2.1 == 0)) = true then ((movement_Check.f k l0_0 l0_1).bind fun t632 => (if bt625.2.2.2.2 = t632 then ((dancestudiolaw43_awake.f).bind fun t633 => (some t633)) else (none))) else (none)) else (none)))) = some r := by rw [if_neg (show ¬ (false = true) by decide)] at H; exact H
  clear H
  have H := H1
  clear H1
  replace H := Option.bind_eq_some_iff.mp H
  obtain ⟨⟨t625, t626, t627, t628, t629⟩, A90, H⟩ := H
  replace H : (if t629 = 0 then (dancestudiolaw43_FloorBox.l0 k false false false false 0 l0_0 l0_1 t625 t626 t627 t628) else (if (t625 == 0 && (t626 == 0)) = true then (if (t627 == 0 && (t628 == 0)) = true then ((movement_Check.f k l0_0 l0_1).bind fun t632 => (if t629 = t632 then ((dancestudiolaw43_awake.f).bind fun t633 => (some t633)) else (none))) else (none)) else (none))) = some r := H
  have A9 := Aside0.mk A90
  clear A90
  by_cases c10 : t629 = 0
  ·
   rw [if_pos c10] at H
   have c10b0 : (t629 == 0) = true := beq_iff_eq.mpr c10
   have c10b1 : (t629 != 0) = false := bne_eq_false_iff_eq.mpr c10
   clear c10
   have H' := Aside0.mk H
   clear H
   go_enter Try.func6, Try.ntmps6
   go_wp2_with (first | ((with_reducible refine gate_dst (N := 1) rfl ?_); refine box_event ?hg (N := 1) ?hd (cs := #[.slice A0_0 l0_0.length c0_0, .slice A0_1 l0_1.length c0_1]) (t := 25) ?hr ?_; (case hd => rfl); (case hg => rfl); (case hr => first | (go_simp; done) | (go_simp; rfl)); intro gb610 hg w11 hbox hb; have BK610 := Aside0.mk (hbox); have GW610 := Aside0.mk ((by rw [hg]; exact (below_size (by repeat with_reducible first | exact HB.out | apply bA | apply bN | apply bD)) : w.heap.size ≤ gb610)); have GE610 := GW610; replace HB := Aside0.mk (below_step (by repeat with_reducible first | exact HB.out | apply bA | apply bN | apply bD) hb); clear hb hbox hg; obtain ⟨hcz12_0, hcz12_1, hfz12_0, hfz12_1⟩ := kc2 BK610.out) | (go_at_call 9; (with_reducible refine (dancestudiolaw43_great.calls _ _ l0_0 _ _ l0_1 false _ ?side1 ?side2 ?side3 ?side4 A2.out).mono ?_); (case side1 => repeat (first | exact (Kd.C_below HR0_0.out HB.out) | (with_reducible first | apply cA | apply cN | apply cD))); (case side2 => exact HC0_0.out); (case side3 => repeat (first | exact (Kd.C_below HR0_1.out HB.out) | (with_reducible first | apply cA | apply cN | apply cD))); (case side4 => exact HC0_1.out); rintro e w13 ⟨rfl, hb⟩; replace BK610 := Aside0.mk (blk_below (o := .cells #[.slice A0_0 l0_0.length c0_0, .slice A0_1 l0_1.length c0_1] 25 (0, 0)) (by with_reducible repeat first | exact BK610.out | apply kN | apply kD | apply kA) hb); replace HB := Aside0.mk (below_step (by repeat with_reducible first | exact HB.out | apply bA | apply bN | apply bD | refine bS ?_ GE610.out) hb); (try clear hb); (try clear hb2); (try clear hk); (try clear hi); obtain ⟨hcz14_0, hcz14_1, hfz14_0, hfz14_1⟩ := kc2 BK610.out) | (go_at_call 15; (with_reducible refine (floor_Box.calls k _ _ l0_0 _ _ l0_1 t625 t626 t627 t628 t629 _ ?side1 ?side2 ?side3 ?side4 A9.out).mono ?_); (case side1 => repeat (first | exact (Kd.C_below HR0_0.out HB.out) | (with_reducible first | apply cA | apply cN | apply cD))); (case side2 => exact HC0_0.out); (case side3 => repeat (first | exact (Kd.C_below HR0_1.out HB.out) | (with_reducible first | apply cA | apply cN | apply cD))); (case side4 => exact HC0_1.out); rintro e w15 ⟨rfl, hb⟩; replace BK610 := Aside0.mk (blk_below (o := .cells #[.slice A0_0 l0_0.length c0_0, .slice A0_1 l0_1.length c0_1] 25 (0, 0)) (by with_reducible repeat first | exact BK610.out | apply kN | apply kD | apply kA) hb); replace HB := Aside0.mk (below_step (by repeat with_reducible first | exact HB.out | apply bA | apply bN | apply bD | refine bS ?_ GE610.out) hb); (try clear hb); (try clear hb2); (try clear hk); (try clear hi)) | ((with_reducible refine gate_dst (N := 3) rfl ?_); refine box_event ?hg (N := 3) ?hd (cs := #[.int .i64 0, .int .i64 0]) (t := 35) ?hr ?_; (case hd => rfl); (case hg => rfl); (case hr => first | (go_simp; done) | (go_simp; rfl)); intro gb630 hg w16 hbox hb; have BK630 := Aside0.mk (hbox); have GW630 := Aside0.mk ((by rw [hg]; exact (below_size (by repeat with_reducible first | exact HB.out | apply bA | apply bN | apply bD | refine bS ?_ GE610.out)) : w.heap.size ≤ gb630)); have GE630 := GW630; replace HB := Aside0.mk (below_step (by repeat with_reducible first | exact HB.out | apply bA | apply bN | apply bD | refine bS ?_ GE610.out) hb); have NB610_630 := Aside0.mk ((by rw [hg]; exact Nat.ne_of_lt (blk_lt (by with_reducible repeat first | exact BK610.out | apply kN | apply kD | apply kA)) : gb610 ≠ gb630)); have NB630_610 := Aside0.mk ((by rw [hg]; exact Nat.ne_of_gt (blk_lt (by with_reducible repeat first | exact BK610.out | apply kN | apply kD | apply kA)) : gb630 ≠ gb610)); replace BK610 := Aside0.mk (blk_below (o := .cells #[.slice A0_0 l0_0.length c0_0, .slice A0_1 l0_1.length c0_1] 25 (0, 0)) (by with_reducible repeat first | exact BK610.out | apply kN | apply kD | apply kA) hb); clear hb hbox hg) | ((with_reducible refine gate_dst (N := 4) rfl ?_); refine box_event ?hg (N := 4) ?hd (cs := #[.int .i64 0, .int .i64 0]) (t := 35) ?hr ?_; (case hd => rfl); (case hg => rfl); (case hr => first | (go_simp; done) | (go_simp; rfl)); intro gb631 hg w17 hbox hb; have BK631 := Aside0.mk (hbox); have GW631 := Aside0.mk ((by rw [hg]; exact (below_size (by repeat with_reducible first | exact HB.out | apply bA | apply bN | apply bD | refine bS ?_ GE610.out | refine bS ?_ GE630.out)) : w.heap.size ≤ gb631)); have GE631 := GW631; replace HB := Aside0.mk (below_step (by repeat with_reducible first | exact HB.out | apply bA | apply bN | apply bD | refine bS ?_ GE610.out | refine bS ?_ GE630.out) hb); have NB610_631 := Aside0.mk ((by rw [hg]; exact Nat.ne_of_lt (blk_lt (by with_reducible repeat first | exact BK610.out | apply kN | apply kD | apply kA)) : gb610 ≠ gb631)); have NB631_610 := Aside0.mk ((by rw [hg]; exact Nat.ne_of_gt (blk_lt (by with_reducible repeat first | exact BK610.out | apply kN | apply kD | apply kA)) : gb631 ≠ gb610)); replace BK610 := Aside0.mk (blk_below (o := .cells #[.slice A0_0 l0_0.length c0_0, .slice A0_1 l0_1.length c0_1] 25 (0, 0)) (by with_reducible repeat first | exact BK610.out | apply kN | apply kD | apply kA) hb); have NB630_631 := Aside0.mk ((by rw [hg]; exact Nat.ne_of_lt (blk_lt (by with_reducible repeat first | exact BK630.out | apply kN | apply kD | apply kA)) : gb630 ≠ gb631)); have NB631_630 := Aside0.mk ((by rw [hg]; exact Nat.ne_of_gt (blk_lt (by with_reducible repeat first | exact BK630.out | apply kN | apply kD | apply kA)) : gb631 ≠ gb630)); replace BK630 := Aside0.mk (blk_below (o := .cells #[.int .i64 0, .int .i64 0] 35 (0, 0)) (by with_reducible repeat first | exact BK630.out | apply kN | apply kD | apply kA) hb); clear hb hbox hg; have hnb18 := NB630_610.out; have hnc18 := NB610_630.out; have hnb19 := NB630_631.out; have hnc19 := NB631_630.out; obtain ⟨hcz20_0, hcz20_1, hfz20_0, hfz20_1⟩ := kc2 BK630.out; have hnb21 := NB631_610.out; have hnc21 := NB610_631.out; obtain ⟨hcz22_0, hcz22_1, hfz22_0, hfz22_1⟩ := kc2 BK631.out))
   repeat (go_quiet (fail); try go_wp2_with (fail))
   go_loopg [6, 7, 8, 9, 10] k (fun kq v6 v7 v8 v9 v10 w' => ∃ (x6_1 : Bool) (x7_1 : Bool) (x8_1 : Bool) (x9_1 : Bool) (x10_1 : Int), v6 = .bool x6_1 ∧ v7 = .bool x7_1 ∧ v8 = .bool x8_1 ∧ v9 = .bool x9_1 ∧ v10 = .int .i64 x10_1 ∧ Aside0 (dancestudiolaw43_FloorBox.l0 kq x6_1 x7_1 x8_1 x9_1 x10_1 l0_0 l0_1 t625 t626 t627 t628 = some r) ∧ Aside0 (kq ≤ k) ∧ Aside0 (w'.heap[gb610]? = some (.cells #[(.slice A0_0 l0_0.length c0_0), (.slice A0_1 l0_1.length c0_1)] 25 (0, 0))) ∧ Aside0 (w'.heap[gb630]? = some (.cells #[.int .i64 t625, .int .i64 t626] 35 (0, 0))) ∧ Aside0 (w'.heap[gb631]? = some (.cells #[.int .i64 t627, .int .i64 t628] 35 (0, 0))) ∧ Aside0 (Below w.heap.size w w'))
   case atStart => exact ⟨(false), (false), (false), (false), (0), (by first | rfl | (simp; done) | (simp [*]; done)), (by first | rfl | (simp; done) | (simp [*]; done)), (by first | rfl | (simp; done) | (simp [*]; done)), (by first | rfl | (simp; done) | (simp [*]; done)), (by first | rfl | (simp; done) | (simp [*]; done)), H', ⟨Nat.le_refl _⟩, ⟨by (with_reducible repeat first | apply kN | apply kD | apply kA); refine blk_far ?_ NB610_631.out _; (with_reducible repeat first | apply kN | apply kD | apply kA); refine blk_far ?_ NB610_631.out _; (with_reducible repeat first | apply kN | apply kD | apply kA); refine blk_far ?_ NB610_630.out _; (with_reducible repeat first | apply kN | apply kD | apply kA); refine blk_far ?_ NB610_630.out _; (with_reducible repeat first | apply kN | apply kD | apply kA); exact BK610.out⟩, ⟨by (with_reducible repeat first | apply kN | apply kD | apply kA); refine blk_far ?_ NB630_631.out _; (with_reducible repeat first | apply kN | apply kD | apply kA); refine blk_far ?_ NB630_631.out _; (with_reducible repeat first | apply kN | apply kD | apply kA); refine blk_put (cs := #[.int .i64 t625, .int .i64 0]) ?_ 1 _ rfl; (with_reducible repeat first | apply kN | apply kD | apply kA); refine blk_put (cs := #[.int .i64 0, .int .i64 0]) ?_ 0 _ rfl; (with_reducible repeat first | apply kN | apply kD | apply kA); exact BK630.out⟩, ⟨by (with_reducible repeat first | apply kN | apply kD | apply kA); refine blk_put (cs := #[.int .i64 t627, .int .i64 0]) ?_ 1 _ rfl; (with_reducible repeat first | apply kN | apply kD | apply kA); refine blk_put (cs := #[.int .i64 0, .int .i64 0]) ?_ 0 _ rfl; (with_reducible repeat first | apply kN | apply kD | apply kA); refine blk_far ?_ NB631_630.out _; (with_reducible repeat first | apply kN | apply kD | apply kA); refine blk_far ?_ NB631_630.out _; (with_reducible repeat first | apply kN | apply kD | apply kA); exact BK631.out⟩, ⟨by repeat with_reducible first | exact HB.out | apply bA | apply bN | apply bD | refine bS ?_ GE610.out | refine bS ?_ GE630.out | refine bS ?_ GE631.out⟩⟩
   case round =>
    clear H'
    try clear c1
    try clear c2
    try clear p2
    try clear c3
    try clear c6
    try clear c10
    try clear c10b0
    try clear c10b1
    try clear c18
    try clear c19
    try clear c21
    try clear hcz12_0
    try clear hcz12_1
    try clear hcz14_0
    try clear hcz14_1
    try clear hcz20_0
    try clear hcz20_1
    try clear hcz22_0
    try clear hcz22_1
    try clear hcz6_0
    try clear hcz6_1
    try clear hfz12_0
    try clear hfz12_1
    try clear hfz14_0
    try clear hfz14_1
    try clear hfz20_0
    try clear hfz20_1
    try clear hfz22_0
    try clear hfz22_1
    try clear hfz6_0
    try clear hfz6_1
    obtain ⟨x6_1, x7_1, x8_1, x9_1, x10_1, rfl, rfl, rfl, rfl, rfl, HA, HK1, BK610, BK630, BK631, HB⟩ := hrel
    cases gk with
    | zero => exact absurd HA.out (by simp [dancestudiolaw43_FloorBox.l0])
    | succ k1 =>
     have H := HA.out
     clear HA
     simp only [dancestudiolaw43_FloorBox.l0] at H
     by_cases c23 : x10_1 < (l0_0.length : Int)
     ·
      rw [if_pos c23] at H
      have c23b0 : decide (x10_1 < (l0_0.length : Int)) = true := decide_eq_true c23
      clear c23
      by_cases c24 : 0 ≤ x10_1
      ·
       rw [if_pos c24] at H
       have c24b0 : decide (0 ≤ x10_1) = true := decide_eq_true c24
       clear c24
       by_cases c25 : ((rd_T53 l0_0 x10_1).f0.f0) < t625
       ·
        rw [if_pos c25] at H
        exact absurd H (by simp)
       ·
        rw [if_neg c25] at H
        have c25b0 : decide (((rd_T53 l0_0 x10_1).f0.f0) < t625) = false := decide_eq_false c25
        clear c25
        by_cases c26 : ((rd_T53 l0_0 x10_1).f0.f0) > t627
        ·
         rw [if_pos c26] at H
         exact absurd H (by simp)
        ·
         rw [if_neg c26] at H
         have c26b0 : decide (t627 < ((rd_T53 l0_0 x10_1).f0.f0)) = false := decide_eq_false c26
         clear c26
         by_cases c27 : ((rd_T53 l0_0 x10_1).f0.f1) < t626
         ·
          rw [if_pos c27] at H
          exact absurd H (by simp)
         ·
          rw [if_neg c27] at H
          have c27b0 : decide (((rd_T53 l0_0 x10_1).f0.f1) < t626) = false := decide_eq_false c27
          clear c27
          by_cases c28 : ((rd_T53 l0_0 x10_1).f0.f1) > t628
          ·
           rw [if_pos c28] at H
           exact absurd H (by simp)
          ·
           rw [if_neg c28] at H
           have c28b0 : decide (t628 < ((rd_T53 l0_0 x10_1).f0.f1)) = false := decide_eq_false c28
           clear c28
           by_cases c29 : x6_1 = true
           ·
            subst c29
            have H1 : (if x7_1 = true then (if x8_1 = true then (if x9_1 = true then (dancestudiolaw43_FloorBox.l0 k1 true true true true (wrap64 (x10_1 + 1)) l0_0 l0_1 t625 t626 t627 t628) else (dancestudiolaw43_FloorBox.l0 k1 true true true (((rd_T53 l0_0 x10_1).f0.f1) == t628) (wrap64 (x10_1 + 1)) l0_0 l0_1 t625 t626 t627 t628)) else (if x9_1 = true then (dancestudiolaw43_FloorBox.l0 k1 true true (((rd_T53 l0_0 x10_1).f0.f1) == t626) true (wrap64 (x10_1 + 1)) l0_0 l0_1 t625 t626 t627 t628) else (dancestudiolaw43_FloorBox.l0 k1 true true (((rd_T53 l0_0 x10_1).f0.f1) == t626) (((rd_T53 l0_0 x10_1).f0.f1) == t628) (wrap64 (x10_1 + 1)) l0_0 l0_1 t625 t626 t627 t628))) else (if x8_1 = true then (if x9_1 = true then (dancestudiolaw43_FloorBox.l0 k1 true (((rd_T53 l0_0 x10_1).f0.f0) == t627) true true (wrap64 (x10_1 + 1)) l0_0 l0_1 t625 t626 t627 t628) else (dancestudiolaw43_FloorBox.l0 k1 true (((rd_T53 l0_0 x10_1).f0.f0) == t627) true (((rd_T53 l0_0 x10_1).f0.f1) == t628) (wrap64 (x10_1 + 1)) l0_0 l0_1 t625 t626 t627 t628)) else (if x9_1 = true then (dancestudiolaw43_FloorBox.l0 k1 true (((rd_T53 l0_0 x10_1).f0.f0) == t627) (((rd_T53 l0_0 x10_1).f0.f1) == t626) true (wrap64 (x10_1 + 1)) l0_0 l0_1 t625 t626 t627 t628) else (dancestudiolaw43_FloorBox.l0 k1 true (((rd_T53 l0_0 x10_1).f0.f0) == t627) (((rd_T53 l0_0 x10_1).f0.f1) == t626) (((rd_T53 l0_0 x10_1).f0.f1) == t628) (wrap64 (x10_1 + 1)) l0_0 l0_1 t625 t626 t627 t628)))) = some r := by rw [if_pos rfl] at H; exact H
            clear H
            have H := H1
            clear H1
            by_cases c30 : x7_1 = true
            ·
             subst c30
             have H1 : (if x8_1 = true then (if x9_1 = true then (dancestudiolaw43_FloorBox.l0 k1 true true true true (wrap64 (x10_1 + 1)) l0_0 l0_1 t625 t626 t627 t628) else (dancestudiolaw43_FloorBox.l0 k1 true true true (((rd_T53 l0_0 x10_1).f0.f1) == t628) (wrap64 (x10_1 + 1)) l0_0 l0_1 t625 t626 t627 t628)) else (if x9_1 = true then (dancestudiolaw43_FloorBox.l0 k1 true true (((rd_T53 l0_0 x10_1).f0.f1) == t626) true (wrap64 (x10_1 + 1)) l0_0 l0_1 t625 t626 t627 t628) else (dancestudiolaw43_FloorBox.l0 k1 true true (((rd_T53 l0_0 x10_1).f0.f1) == t626) (((rd_T53 l0_0 x10_1).f0.f1) == t628) (wrap64 (x10_1 + 1)) l0_0 l0_1 t625 t626 t627 t628))) = some r := by rw [if_pos rfl] at H; exact H
             clear H
             have H := H1
             clear H1
             by_cases c31 : x8_1 = true
             ·
              subst c31
              have H1 : (if x9_1 = true then (dancestudiolaw43_FloorBox.l0 k1 true true true true (wrap64 (x10_1 + 1)) l0_0 l0_1 t625 t626 t627 t628) else (dancestudiolaw43_FloorBox.l0 k1 true true true (((rd_T53 l0_0 x10_1).f0.f1) == t628) (wrap64 (x10_1 + 1)) l0_0 l0_1 t625 t626 t627 t628)) = some r := by rw [if_pos rfl] at H; exact H
              clear H
              have H := H1
              clear H1
              by_cases c32 : x9_1 = true
              ·
               subst c32
               have H1 : (dancestudiolaw43_FloorBox.l0 k1 true true true true (wrap64 (x10_1 + 1)) l0_0 l0_1 t625 t626 t627 t628) = some r := by rw [if_pos rfl] at H; exact H
               clear H
               have H := H1
               clear H1
               have H' := Aside0.mk H
               clear H
               have hnb33 := NB610_630.out
               have hnc33 := NB630_610.out
               have hnb34 := NB610_631.out
               have hnc34 := NB631_610.out
               have hcz35_0 : wr.cell? ⟨gb610, 0, none⟩ = some (.slice A0_0 l0_0.length c0_0) := (blk_cell BK610.out 0).trans rfl
               have hcz35_1 : wr.cell? ⟨gb610, 1, none⟩ = some (.slice A0_1 l0_1.length c0_1) := (blk_cell BK610.out 1).trans rfl
               have hfz35_0 := blk_frozen BK610.out 0
               have hfz35_1 := blk_frozen BK610.out 1
               have p637 : 0 ≤ (x10_1 : Int) := of_decide_eq_true (by first | (with_reducible assumption) | assumption)
               have q637 : x10_1 < (l0_0.length : Int) := of_decide_eq_true (by first | (with_reducible assumption) | assumption)
               obtain ⟨ad637, e637, hx637_0, hx637_1, _, _, _, _, _, _, _, _, _, _, _, _, _, _, _, _, _, _, _, _⟩ := at_T53 HR0_0.out x10_1 p637 q637
               cases e637
               replace hx637_0 := cb HB.out hx637_0
               replace hx637_1 := cb HB.out hx637_1
               replace p637 := eq_true p637
               replace q637 := eq_true q637
               go_wp2_with (first | ((with_reducible refine gate_dst (N := 11) rfl ?_); refine box_event ?hg (N := 11) ?hd (cs := #[.int .i64 0, .int .i64 0]) (t := 35) ?hr ?_; (case hd => rfl); (case hg => rfl); (case hr => first | (go_simp; done) | (go_simp; rfl)); intro gb638 hg w36 hbox hb; have BK638 := Aside0.mk (hbox); have GW638 := Aside0.mk ((by rw [hg]; exact (below_size (by repeat with_reducible first | exact HB.out | apply bA | apply bN | apply bD | refine bS ?_ GE610.out | refine bS ?_ GE630.out | refine bS ?_ GE631.out)) : w.heap.size ≤ gb638)); have GE638 := GW638; replace HB := Aside0.mk (below_step (by repeat with_reducible first | exact HB.out | apply bA | apply bN | apply bD | refine bS ?_ GE610.out | refine bS ?_ GE630.out | refine bS ?_ GE631.out) hb); have NB610_638 := Aside0.mk ((by rw [hg]; exact Nat.ne_of_lt (blk_lt (by with_reducible repeat first | exact BK610.out | apply kN | apply kD | apply kA)) : gb610 ≠ gb638)); have NB638_610 := Aside0.mk ((by rw [hg]; exact Nat.ne_of_gt (blk_lt (by with_reducible repeat first | exact BK610.out | apply kN | apply kD | apply kA)) : gb638 ≠ gb610)); replace BK610 := Aside0.mk (blk_below (o := .cells #[.slice (some ad637) l0_0.length c0_0, .slice A0_1 l0_1.length c0_1] 25 (0, 0)) (by with_reducible repeat first | exact BK610.out | apply kN | apply kD | apply kA) hb); have NB630_638 := Aside0.mk ((by rw [hg]; exact Nat.ne_of_lt (blk_lt (by with_reducible repeat first | exact BK630.out | apply kN | apply kD | apply kA)) : gb630 ≠ gb638)); have NB638_630 := Aside0.mk ((by rw [hg]; exact Nat.ne_of_gt (blk_lt (by with_reducible repeat first | exact BK630.out | apply kN | apply kD | apply kA)) : gb638 ≠ gb630)); replace BK630 := Aside0.mk (blk_below (o := .cells #[.int .i64 t625, .int .i64 t626] 35 (0, 0)) (by with_reducible repeat first | exact BK630.out | apply kN | apply kD | apply kA) hb); have NB631_638 := Aside0.mk ((by rw [hg]; exact Nat.ne_of_lt (blk_lt (by with_reducible repeat first | exact BK631.out | apply kN | apply kD | apply kA)) : gb631 ≠ gb638)); have NB638_631 := Aside0.mk ((by rw [hg]; exact Nat.ne_of_gt (blk_lt (by with_reducible repeat first | exact BK631.out | apply kN | apply kD | apply kA)) : gb638 ≠ gb631)); replace BK631 := Aside0.mk (blk_below (o := .cells #[.int .i64 t627, .int .i64 t628] 35 (0, 0)) (by with_reducible repeat first | exact BK631.out | apply kN | apply kD | apply kA) hb); clear hb hbox hg; have hnb37 := NB638_610.out; have hnc37 := NB610_638.out; have hnb38 := NB638_630.out; have hnc38 := NB630_638.out; have hnb39 := NB638_631.out; have hnc39 := NB631_638.out; obtain ⟨hcz40_0, hcz40_1, hfz40_0, hfz40_1⟩ := kc2 BK638.out; have hnb41 := NB630_631.out; have hnc41 := NB631_630.out; obtain ⟨hcz42_0, hcz42_1, hfz42_0, hfz42_1⟩ := kc2 BK630.out; obtain ⟨hcz43_0, hcz43_1, hfz43_0, hfz43_1⟩ := kc2 BK631.out))
               repeat (go_quiet (fail); try go_wp2_with (fail))
               go_roundg k1
               case measure => have := HK1.out; omega
               case rel => exact ⟨(true), (true), (true), (true), (wrap64 (x10_1 + 1)), (by first | rfl | (simp; done) | (simp [*]; done)), (by first | rfl | (simp; done) | (simp [*]; done)), (by first | rfl | (simp; done) | (simp [*]; done)), (by first | rfl | (simp; done) | (simp [*]; done)), (by first | rfl | (simp; done) | (simp [*]; done)), H', ⟨by have := HK1.out; omega⟩, ⟨by (with_reducible repeat first | apply kN | apply kD | apply kA); refine blk_far ?_ NB610_638.out _; (with_reducible repeat first | apply kN | apply kD | apply kA); refine blk_far ?_ NB610_638.out _; (with_reducible repeat first | apply kN | apply kD | apply kA); exact BK610.out⟩, ⟨by (with_reducible repeat first | apply kN | apply kD | apply kA); refine blk_far ?_ NB630_638.out _; (with_reducible repeat first | apply kN | apply kD | apply kA); refine blk_far ?_ NB630_638.out _; (with_reducible repeat first | apply kN | apply kD | apply kA); exact BK630.out⟩, ⟨by (with_reducible repeat first | apply kN | apply kD | apply kA); refine blk_far ?_ NB631_638.out _; (with_reducible repeat first | apply kN | apply kD | apply kA); refine blk_far ?_ NB631_638.out _; (with_reducible repeat first | apply kN | apply kD | apply kA); exact BK631.out⟩, ⟨by repeat with_reducible first | exact HB.out | apply bA | apply bN | apply bD | refine bS ?_ GE610.out | refine bS ?_ GE630.out | refine bS ?_ GE631.out | refine bS ?_ GE638.out⟩⟩
              ·
               replace c32 := Bool.eq_false_iff.mpr c32
               subst c32
               have H1 : (dancestudiolaw43_FloorBox.l0 k1 true true true (((rd_T53 l0_0 x10_1).f0.f1) == t628) (wrap64 (x10_1 + 1)) l0_0 l0_1 t625 t626 t627 t628) = some r := by rw [if_neg (show ¬ (false = true) by decide)] at H; exact H
               clear H
               have H := H1
               clear H1
               have H' := Aside0.mk H
               clear H
               have hnb44 := NB610_630.out
               have hnc44 := NB630_610.out
               have hnb45 := NB610_631.out
               have hnc45 := NB631_610.out
               have hcz46_0 : wr.cell? ⟨gb610, 0, none⟩ = some (.slice A0_0 l0_0.length c0_0) := (blk_cell BK610.out 0).trans rfl
               have hcz46_1 : wr.cell? ⟨gb610, 1, none⟩ = some (.slice A0_1 l0_1.length c0_1) := (blk_cell BK610.out 1).trans rfl
               have hfz46_0 := blk_frozen BK610.out 0
               have hfz46_1 := blk_frozen BK610.out 1
               have p637 : 0 ≤ (x10_1 : Int) := of_decide_eq_true (by first | (with_reducible assumption) | assumption)
               have q637 : x10_1 < (l0_0.length : Int) := of_decide_eq_true (by first | (with_reducible assumption) | assumption)
               obtain ⟨ad637, e637, hx637_0, hx637_1, _, _, _, _, _, _, _, _, _, _, _, _, _, _, _, _, _, _, _, _⟩ := at_T53 HR0_0.out x10_1 p637 q637
               cases e637
               replace hx637_0 := cb HB.out hx637_0
               replace hx637_1 := cb HB.out hx637_1
               replace p637 := eq_true p637
               replace q637 := eq_true q637
               go_wp2_with (first | ((with_reducible refine gate_dst (N := 11) rfl ?_); refine box_event ?hg (N := 11) ?hd (cs := #[.int .i64 0, .int .i64 0]) (t := 35) ?hr ?_; (case hd => rfl); (case hg => rfl); (case hr => first | (go_simp; done) | (go_simp; rfl)); intro gb638 hg w47 hbox hb; have BK638 := Aside0.mk (hbox); have GW638 := Aside0.mk ((by rw [hg]; exact (below_size (by repeat with_reducible first | exact HB.out | apply bA | apply bN | apply bD | refine bS ?_ GE610.out | refine bS ?_ GE630.out | refine bS ?_ GE631.out)) : w.heap.size ≤ gb638)); have GE638 := GW638; replace HB := Aside0.mk (below_step (by repeat with_reducible first | exact HB.out | apply bA | apply bN | apply bD | refine bS ?_ GE610.out | refine bS ?_ GE630.out | refine bS ?_ GE631.out) hb); have NB610_638 := Aside0.mk ((by rw [hg]; exact Nat.ne_of_lt (blk_lt (by with_reducible repeat first | exact BK610.out | apply kN | apply kD | apply kA)) : gb610 ≠ gb638)); have NB638_610 := Aside0.mk ((by rw [hg]; exact Nat.ne_of_gt (blk_lt (by with_reducible repeat first | exact BK610.out | apply kN | apply kD | apply kA)) : gb638 ≠ gb610)); replace BK610 := Aside0.mk (blk_below (o := .cells #[.slice (some ad637) l0_0.length c0_0, .slice A0_1 l0_1.length c0_1] 25 (0, 0)) (by with_reducible repeat first | exact BK610.out | apply kN | apply kD | apply kA) hb); have NB630_638 := Aside0.mk ((by rw [hg]; exact Nat.ne_of_lt (blk_lt (by with_reducible repeat first | exact BK630.out | apply kN | apply kD | apply kA)) : gb630 ≠ gb638)); have NB638_630 := Aside0.mk ((by rw [hg]; exact Nat.ne_of_gt (blk_lt (by with_reducible repeat first | exact BK630.out | apply kN | apply kD | apply kA)) : gb638 ≠ gb630)); replace BK630 := Aside0.mk (blk_below (o := .cells #[.int .i64 t625, .int .i64 t626] 35 (0, 0)) (by with_reducible repeat first | exact BK630.out | apply kN | apply kD | apply kA) hb); have NB631_638 := Aside0.mk ((by rw [hg]; exact Nat.ne_of_lt (blk_lt (by with_reducible repeat first | exact BK631.out | apply kN | apply kD | apply kA)) : gb631 ≠ gb638)); have NB638_631 := Aside0.mk ((by rw [hg]; exact Nat.ne_of_gt (blk_lt (by with_reducible repeat first | exact BK631.out | apply kN | apply kD | apply kA)) : gb638 ≠ gb631)); replace BK631 := Aside0.mk (blk_below (o := .cells #[.int .i64 t627, .int .i64 t628] 35 (0, 0)) (by with_reducible repeat first | exact BK631.out | apply kN | apply kD | apply kA) hb); clear hb hbox hg; have hnb48 := NB638_610.out; have hnc48 := NB610_638.out; have hnb49 := NB638_630.out; have hnc49 := NB630_638.out; have hnb50 := NB638_631.out; have hnc50 := NB631_638.out; obtain ⟨hcz51_0, hcz51_1, hfz51_0, hfz51_1⟩ := kc2 BK638.out; have hnb52 := NB630_631.out; have hnc52 := NB631_630.out; obtain ⟨hcz53_0, hcz53_1, hfz53_0, hfz53_1⟩ := kc2 BK630.out; obtain ⟨hcz54_0, hcz54_1, hfz54_0, hfz54_1⟩ := kc2 BK631.out))
               repeat (go_quiet (fail); try go_wp2_with (fail))
               go_roundg k1
               case measure => have := HK1.out; omega
               case rel => exact ⟨(true), (true), (true), ((((rd_T53 l0_0 x10_1).f0.f1) == t628)), (wrap64 (x10_1 + 1)), (by first | rfl | (simp; done) | (simp [*]; done)), (by first | rfl | (simp; done) | (simp [*]; done)), (by first | rfl | (simp; done) | (simp [*]; done)), (by first | rfl | (simp; done) | (simp [*]; done)), (by first | rfl | (simp; done) | (simp [*]; done)), H', ⟨by have := HK1.out; omega⟩, ⟨by (with_reducible repeat first | apply kN | apply kD | apply kA); refine blk_far ?_ NB610_638.out _; (with_reducible repeat first | apply kN | apply kD | apply kA); refine blk_far ?_ NB610_638.out _; (with_reducible repeat first | apply kN | apply kD | apply kA); exact BK610.out⟩, ⟨by (with_reducible repeat first | apply kN | apply kD | apply kA); refine blk_far ?_ NB630_638.out _; (with_reducible repeat first | apply kN | apply kD | apply kA); refine blk_far ?_ NB630_638.out _; (with_reducible repeat first | apply kN | apply kD | apply kA); exact BK630.out⟩, ⟨by (with_reducible repeat first | apply kN | apply kD | apply kA); refine blk_far ?_ NB631_638.out _; (with_reducible repeat first | apply kN | apply kD | apply kA); refine blk_far ?_ NB631_638.out _; (with_reducible repeat first | apply kN | apply kD | apply kA); exact BK631.out⟩, ⟨by repeat with_reducible first | exact HB.out | apply bA | apply bN | apply bD | refine bS ?_ GE610.out | refine bS ?_ GE630.out | refine bS ?_ GE631.out | refine bS ?_ GE638.out⟩⟩
             ·
              replace c31 := Bool.eq_false_iff.mpr c31
              subst c31
              have H1 : (if x9_1 = true then (dancestudiolaw43_FloorBox.l0 k1 true true (((rd_T53 l0_0 x10_1).f0.f1) == t626) true (wrap64 (x10_1 + 1)) l0_0 l0_1 t625 t626 t627 t628) else (dancestudiolaw43_FloorBox.l0 k1 true true (((rd_T53 l0_0 x10_1).f0.f1) == t626) (((rd_T53 l0_0 x10_1).f0.f1) == t628) (wrap64 (x10_1 + 1)) l0_0 l0_1 t625 t626 t627 t628)) = some r := by rw [if_neg (show ¬ (false = true) by decide)] at H; exact H
              clear H
              have H := H1
              clear H1
              by_cases c55 : x9_1 = true
              ·
               subst c55
               have H1 : (dancestudiolaw43_FloorBox.l0 k1 true true (((rd_T53 l0_0 x10_1).f0.f1) == t626) true (wrap64 (x10_1 + 1)) l0_0 l0_1 t625 t626 t627 t628) = some r := by rw [if_pos rfl] at H; exact H
               clear H
               have H := H1
               clear H1
               have H' := Aside0.mk H
               clear H
               have hnb56 := NB610_630.out
               have hnc56 := NB630_610.out
               have hnb57 := NB610_631.out
               have hnc57 := NB631_610.out
               have hcz58_0 : wr.cell? ⟨gb610, 0, none⟩ = some (.slice A0_0 l0_0.length c0_0) := (blk_cell BK610.out 0).trans rfl
               have hcz58_1 : wr.cell? ⟨gb610, 1, none⟩ = some (.slice A0_1 l0_1.length c0_1) := (blk_cell BK610.out 1).trans rfl
               have hfz58_0 := blk_frozen BK610.out 0
               have hfz58_1 := blk_frozen BK610.out 1
               have p637 : 0 ≤ (x10_1 : Int) := of_decide_eq_true (by first | (with_reducible assumption) | assumption)
               have q637 : x10_1 < (l0_0.length : Int) := of_decide_eq_true (by first | (with_reducible assumption) | assumption)
               obtain ⟨ad637, e637, hx637_0, hx637_1, _, _, _, _, _, _, _, _, _, _, _, _, _, _, _, _, _, _, _, _⟩ := at_T53 HR0_0.out x10_1 p637 q637
               cases e637
               replace hx637_0 := cb HB.out hx637_0
               replace hx637_1 := cb HB.out hx637_1
               replace p637 := eq_true p637
               replace q637 := eq_true q637
               go_wp2_with (first | ((with_reducible refine gate_dst (N := 11) rfl ?_); refine box_event ?hg (N := 11) ?hd (cs := #[.int .i64 0, .int .i64 0]) (t := 35) ?hr ?_; (case hd => rfl); (case hg => rfl); (case hr => first | (go_simp; done) | (go_simp; rfl)); intro gb638 hg w59 hbox hb; have BK638 := Aside0.mk (hbox); have GW638 := Aside0.mk ((by rw [hg]; exact (below_size (by repeat with_reducible first | exact HB.out | apply bA | apply bN | apply bD | refine bS ?_ GE610.out | refine bS ?_ GE630.out | refine bS ?_ GE631.out)) : w.heap.size ≤ gb638)); have GE638 := GW638; replace HB := Aside0.mk (below_step (by repeat with_reducible first | exact HB.out | apply bA | apply bN | apply bD | refine bS ?_ GE610.out | refine bS ?_ GE630.out | refine bS ?_ GE631.out) hb); have NB610_638 := Aside0.mk ((by rw [hg]; exact Nat.ne_of_lt (blk_lt (by with_reducible repeat first | exact BK610.out | apply kN | apply kD | apply kA)) : gb610 ≠ gb638)); have NB638_610 := Aside0.mk ((by rw [hg]; exact Nat.ne_of_gt (blk_lt (by with_reducible repeat first | exact BK610.out | apply kN | apply kD | apply kA)) : gb638 ≠ gb610)); replace BK610 := Aside0.mk (blk_below (o := .cells #[.slice (some ad637) l0_0.length c0_0, .slice A0_1 l0_1.length c0_1] 25 (0, 0)) (by with_reducible repeat first | exact BK610.out | apply kN | apply kD | apply kA) hb); have NB630_638 := Aside0.mk ((by rw [hg]; exact Nat.ne_of_lt (blk_lt (by with_reducible repeat first | exact BK630.out | apply kN | apply kD | apply kA)) : gb630 ≠ gb638)); have NB638_630 := Aside0.mk ((by rw [hg]; exact Nat.ne_of_gt (blk_lt (by with_reducible repeat first | exact BK630.out | apply kN | apply kD | apply kA)) : gb638 ≠ gb630)); replace BK630 := Aside0.mk (blk_below (o := .cells #[.int .i64 t625, .int .i64 t626] 35 (0, 0)) (by with_reducible repeat first | exact BK630.out | apply kN | apply kD | apply kA) hb); have NB631_638 := Aside0.mk ((by rw [hg]; exact Nat.ne_of_lt (blk_lt (by with_reducible repeat first | exact BK631.out | apply kN | apply kD | apply kA)) : gb631 ≠ gb638)); have NB638_631 := Aside0.mk ((by rw [hg]; exact Nat.ne_of_gt (blk_lt (by with_reducible repeat first | exact BK631.out | apply kN | apply kD | apply kA)) : gb638 ≠ gb631)); replace BK631 := Aside0.mk (blk_below (o := .cells #[.int .i64 t627, .int .i64 t628] 35 (0, 0)) (by with_reducible repeat first | exact BK631.out | apply kN | apply kD | apply kA) hb); clear hb hbox hg; have hnb60 := NB638_610.out; have hnc60 := NB610_638.out; have hnb61 := NB638_630.out; have hnc61 := NB630_638.out; have hnb62 := NB638_631.out; have hnc62 := NB631_638.out; obtain ⟨hcz63_0, hcz63_1, hfz63_0, hfz63_1⟩ := kc2 BK638.out; have hnb64 := NB630_631.out; have hnc64 := NB631_630.out; obtain ⟨hcz65_0, hcz65_1, hfz65_0, hfz65_1⟩ := kc2 BK630.out; obtain ⟨hcz66_0, hcz66_1, hfz66_0, hfz66_1⟩ := kc2 BK631.out))
               repeat (go_quiet (fail); try go_wp2_with (fail))
               go_roundg k1
               case measure => have := HK1.out; omega
               case rel => exact ⟨(true), (true), ((((rd_T53 l0_0 x10_1).f0.f1) == t626)), (true), (wrap64 (x10_1 + 1)), (by first | rfl | (simp; done) | (simp [*]; done)), (by first | rfl | (simp; done) | (simp [*]; done)), (by first | rfl | (simp; done) | (simp [*]; done)), (by first | rfl | (simp; done) | (simp [*]; done)), (by first | rfl | (simp; done) | (simp [*]; done)), H', ⟨by have := HK1.out; omega⟩, ⟨by (with_reducible repeat first | apply kN | apply kD | apply kA); refine blk_far ?_ NB610_638.out _; (with_reducible repeat first | apply kN | apply kD | apply kA); refine blk_far ?_ NB610_638.out _; (with_reducible repeat first | apply kN | apply kD | apply kA); exact BK610.out⟩, ⟨by (with_reducible repeat first | apply kN | apply kD | apply kA); refine blk_far ?_ NB630_638.out _; (with_reducible repeat first | apply kN | apply kD | apply kA); refine blk_far ?_ NB630_638.out _; (with_reducible repeat first | apply kN | apply kD | apply kA); exact BK630.out⟩, ⟨by (with_reducible repeat first | apply kN | apply kD | apply kA); refine blk_far ?_ NB631_638.out _; (with_reducible repeat first | apply kN | apply kD | apply kA); refine blk_far ?_ NB631_638.out _; (with_reducible repeat first | apply kN | apply kD | apply kA); exact BK631.out⟩, ⟨by repeat with_reducible first | exact HB.out | apply bA | apply bN | apply bD | refine bS ?_ GE610.out | refine bS ?_ GE630.out | refine bS ?_ GE631.out | refine bS ?_ GE638.out⟩⟩
              ·
               replace c55 := Bool.eq_false_iff.mpr c55
               subst c55
               have H1 : (dancestudiolaw43_FloorBox.l0 k1 true true (((rd_T53 l0_0 x10_1).f0.f1) == t626) (((rd_T53 l0_0 x10_1).f0.f1) == t628) (wrap64 (x10_1 + 1)) l0_0 l0_1 t625 t626 t627 t628) = some r := by rw [if_neg (show ¬ (false = true) by decide)] at H; exact H
               clear H
               have H := H1
               clear H1
               have H' := Aside0.mk H
               clear H
               have hnb67 := NB610_630.out
               have hnc67 := NB630_610.out
               have hnb68 := NB610_631.out
               have hnc68 := NB631_610.out
               have hcz69_0 : wr.cell? ⟨gb610, 0, none⟩ = some (.slice A0_0 l0_0.length c0_0) := (blk_cell BK610.out 0).trans rfl
               have hcz69_1 : wr.cell? ⟨gb610, 1, none⟩ = some (.slice A0_1 l0_1.length c0_1) := (blk_cell BK610.out 1).trans rfl
               have hfz69_0 := blk_frozen BK610.out 0
               have hfz69_1 := blk_frozen BK610.out 1
               have p637 : 0 ≤ (x10_1 : Int) := of_decide_eq_true (by first | (with_reducible assumption) | assumption)
               have q637 : x10_1 < (l0_0.length : Int) := of_decide_eq_true (by first | (with_reducible assumption) | assumption)
               obtain ⟨ad637, e637, hx637_0, hx637_1, _, _, _, _, _, _, _, _, _, _, _, _, _, _, _, _, _, _, _, _⟩ := at_T53 HR0_0.out x10_1 p637 q637
               cases e637
               replace hx637_0 := cb HB.out hx637_0
               replace hx637_1 := cb HB.out hx637_1
               replace p637 := eq_true p637
               replace q637 := eq_true q637
               go_wp2_with (first | ((with_reducible refine gate_dst (N := 11) rfl ?_); refine box_event ?hg (N := 11) ?hd (cs := #[.int .i64 0, .int .i64 0]) (t := 35) ?hr ?_; (case hd => rfl); (case hg => rfl); (case hr => first | (go_simp; done) | (go_simp; rfl)); intro gb638 hg w70 hbox hb; have BK638 := Aside0.mk (hbox); have GW638 := Aside0.mk ((by rw [hg]; exact (below_size (by repeat with_reducible first | exact HB.out | apply bA | apply bN | apply bD | refine bS ?_ GE610.out | refine bS ?_ GE630.out | refine bS ?_ GE631.out)) : w.heap.size ≤ gb638)); have GE638 := GW638; replace HB := Aside0.mk (below_step (by repeat with_reducible first | exact HB.out | apply bA | apply bN | apply bD | refine bS ?_ GE610.out | refine bS ?_ GE630.out | refine bS ?_ GE631.out) hb); have NB610_638 := Aside0.mk ((by rw [hg]; exact Nat.ne_of_lt (blk_lt (by with_reducible repeat first | exact BK610.out | apply kN | apply kD | apply kA)) : gb610 ≠ gb638)); have NB638_610 := Aside0.mk ((by rw [hg]; exact Nat.ne_of_gt (blk_lt (by with_reducible repeat first | exact BK610.out | apply kN | apply kD | apply kA)) : gb638 ≠ gb610)); replace BK610 := Aside0.mk (blk_below (o := .cells #[.slice (some ad637) l0_0.length c0_0, .slice A0_1 l0_1.length c0_1] 25 (0, 0)) (by with_reducible repeat first | exact BK610.out | apply kN | apply kD | apply kA) hb); have NB630_638 := Aside0.mk ((by rw [hg]; exact Nat.ne_of_lt (blk_lt (by with_reducible repeat first | exact BK630.out | apply kN | apply kD | apply kA)) : gb630 ≠ gb638)); have NB638_630 := Aside0.mk ((by rw [hg]; exact Nat.ne_of_gt (blk_lt (by with_reducible repeat first | exact BK630.out | apply kN | apply kD | apply kA)) : gb638 ≠ gb630)); replace BK630 := Aside0.mk (blk_below (o := .cells #[.int .i64 t625, .int .i64 t626] 35 (0, 0)) (by with_reducible repeat first | exact BK630.out | apply kN | apply kD | apply kA) hb); have NB631_638 := Aside0.mk ((by rw [hg]; exact Nat.ne_of_lt (blk_lt (by with_reducible repeat first | exact BK631.out | apply kN | apply kD | apply kA)) : gb631 ≠ gb638)); have NB638_631 := Aside0.mk ((by rw [hg]; exact Nat.ne_of_gt (blk_lt (by with_reducible repeat first | exact BK631.out | apply kN | apply kD | apply kA)) : gb638 ≠ gb631)); replace BK631 := Aside0.mk (blk_below (o := .cells #[.int .i64 t627, .int .i64 t628] 35 (0, 0)) (by with_reducible repeat first | exact BK631.out | apply kN | apply kD | apply kA) hb); clear hb hbox hg; have hnb71 := NB638_610.out; have hnc71 := NB610_638.out; have hnb72 := NB638_630.out; have hnc72 := NB630_638.out; have hnb73 := NB638_631.out; have hnc73 := NB631_638.out; obtain ⟨hcz74_0, hcz74_1, hfz74_0, hfz74_1⟩ := kc2 BK638.out; have hnb75 := NB630_631.out; have hnc75 := NB631_630.out; obtain ⟨hcz76_0, hcz76_1, hfz76_0, hfz76_1⟩ := kc2 BK630.out; obtain ⟨hcz77_0, hcz77_1, hfz77_0, hfz77_1⟩ := kc2 BK631.out))
               repeat (go_quiet (fail); try go_wp2_with (fail))
               go_roundg k1
               case measure => have := HK1.out; omega
               case rel => exact ⟨(true), (true), ((((rd_T53 l0_0 x10_1).f0.f1) == t626)), ((((rd_T53 l0_0 x10_1).f0.f1) == t628)), (wrap64 (x10_1 + 1)), (by first | rfl | (simp; done) | (simp [*]; done)), (by first | rfl | (simp; done) | (simp [*]; done)), (by first | rfl | (simp; done) | (simp [*]; done)), (by first | rfl | (simp; done) | (simp [*]; done)), (by first | rfl | (simp; done) | (simp [*]; done)), H', ⟨by have := HK1.out; omega⟩, ⟨by (with_reducible repeat first | apply kN | apply kD | apply kA); refine blk_far ?_ NB610_638.out _; (with_reducible repeat first | apply kN | apply kD | apply kA); refine blk_far ?_ NB610_638.out _; (with_reducible repeat first | apply kN | apply kD | apply kA); exact BK610.out⟩, ⟨by (with_reducible repeat first | apply kN | apply kD | apply kA); refine blk_far ?_ NB630_638.out _; (with_reducible repeat first | apply kN | apply kD | apply kA); refine blk_far ?_ NB630_638.out _; (with_reducible repeat first | apply kN | apply kD | apply kA); exact BK630.out⟩, ⟨by (with_reducible repeat first | apply kN | apply kD | apply kA); refine blk_far ?_ NB631_638.out _; (with_reducible repeat first | apply kN | apply kD | apply kA); refine blk_far ?_ NB631_638.out _; (with_reducible repeat first | apply kN | apply kD | apply kA); exact BK631.out⟩, ⟨by repeat with_reducible first | exact HB.out | apply bA | apply bN | apply bD | refine bS ?_ GE610.out | refine bS ?_ GE630.out | refine bS ?_ GE631.out | refine bS ?_ GE638.out⟩⟩
            ·
             replace c30 := Bool.eq_false_iff.mpr c30
             subst c30
             have H1 : (if x8_1 = true then (if x9_1 = true then (dancestudiolaw43_FloorBox.l0 k1 true (((rd_T53 l0_0 x10_1).f0.f0) == t627) true true (wrap64 (x10_1 + 1)) l0_0 l0_1 t625 t626 t627 t628) else (dancestudiolaw43_FloorBox.l0 k1 true (((rd_T53 l0_0 x10_1).f0.f0) == t627) true (((rd_T53 l0_0 x10_1).f0.f1) == t628) (wrap64 (x10_1 + 1)) l0_0 l0_1 t625 t626 t627 t628)) else (if x9_1 = true then (dancestudiolaw43_FloorBox.l0 k1 true (((rd_T53 l0_0 x10_1).f0.f0) == t627) (((rd_T53 l0_0 x10_1).f0.f1) == t626) true (wrap64 (x10_1 + 1)) l0_0 l0_1 t625 t626 t627 t628) else (dancestudiolaw43_FloorBox.l0 k1 true (((rd_T53 l0_0 x10_1).f0.f0) == t627) (((rd_T53 l0_0 x10_1).f0.f1) == t626) (((rd_T53 l0_0 x10_1).f0.f1) == t628) (wrap64 (x10_1 + 1)) l0_0 l0_1 t625 t626 t627 t628))) = some r := by rw [if_neg (show ¬ (false = true) by decide)] at H; exact H
             clear H
             have H := H1
             clear H1
             by_cases c78 : x8_1 = true
             ·
              subst c78
              have H1 : (if x9_1 = true then (dancestudiolaw43_FloorBox.l0 k1 true (((rd_T53 l0_0 x10_1).f0.f0) == t627) true true (wrap64 (x10_1 + 1)) l0_0 l0_1 t625 t626 t627 t628) else (dancestudiolaw43_FloorBox.l0 k1 true (((rd_T53 l0_0 x10_1).f0.f0) == t627) true (((rd_T53 l0_0 x10_1).f0.f1) == t628) (wrap64 (x10_1 + 1)) l0_0 l0_1 t625 t626 t627 t628)) = some r := by rw [if_pos rfl] at H; exact H
              clear H
              have H := H1
              clear H1
              by_cases c79 : x9_1 = true
              ·
               subst c79
               have H1 : (dancestudiolaw43_FloorBox.l0 k1 true (((rd_T53 l0_0 x10_1).f0.f0) == t627) true true (wrap64 (x10_1 + 1)) l0_0 l0_1 t625 t626 t627 t628) = some r := by rw [if_pos rfl] at H; exact H
               clear H
               have H := H1
               clear H1
               have H' := Aside0.mk H
               clear H
               have hnb80 := NB610_630.out
               have hnc80 := NB630_610.out
               have hnb81 := NB610_631.out
               have hnc81 := NB631_610.out
               have hcz82_0 : wr.cell? ⟨gb610, 0, none⟩ = some (.slice A0_0 l0_0.length c0_0) := (blk_cell BK610.out 0).trans rfl
               have hcz82_1 : wr.cell? ⟨gb610, 1, none⟩ = some (.slice A0_1 l0_1.length c0_1) := (blk_cell BK610.out 1).trans rfl
               have hfz82_0 := blk_frozen BK610.out 0
               have hfz82_1 := blk_frozen BK610.out 1
               have p637 : 0 ≤ (x10_1 : Int) := of_decide_eq_true (by first | (with_reducible assumption) | assumption)
               have q637 : x10_1 < (l0_0.length : Int) := of_decide_eq_true (by first | (with_reducible assumption) | assumption)
               obtain ⟨ad637, e637, hx637_0, hx637_1, _, _, _, _, _, _, _, _, _, _, _, _, _, _, _, _, _, _, _, _⟩ := at_T53 HR0_0.out x10_1 p637 q637
               cases e637
               replace hx637_0 := cb HB.out hx637_0
               replace hx637_1 := cb HB.out hx637_1
               replace p637 := eq_true p637
               replace q637 := eq_true q637
               go_wp2_with (first | ((with_reducible refine gate_dst (N := 11) rfl ?_); refine box_event ?hg (N := 11) ?hd (cs := #[.int .i64 0, .int .i64 0]) (t := 35) ?hr ?_; (case hd => rfl); (case hg => rfl); (case hr => first | (go_simp; done) | (go_simp; rfl)); intro gb638 hg w83 hbox hb; have BK638 := Aside0.mk (hbox); have GW638 := Aside0.mk ((by rw [hg]; exact (below_size (by repeat with_reducible first | exact HB.out | apply bA | apply bN | apply bD | refine bS ?_ GE610.out | refine bS ?_ GE630.out | refine bS ?_ GE631.out)) : w.heap.size ≤ gb638)); have GE638 := GW638; replace HB := Aside0.mk (below_step (by repeat with_reducible first | exact HB.out | apply bA | apply bN | apply bD | refine bS ?_ GE610.out | refine bS ?_ GE630.out | refine bS ?_ GE631.out) hb); have NB610_638 := Aside0.mk ((by rw [hg]; exact Nat.ne_of_lt (blk_lt (by with_reducible repeat first | exact BK610.out | apply kN | apply kD | apply kA)) : gb610 ≠ gb638)); have NB638_610 := Aside0.mk ((by rw [hg]; exact Nat.ne_of_gt (blk_lt (by with_reducible repeat first | exact BK610.out | apply kN | apply kD | apply kA)) : gb638 ≠ gb610)); replace BK610 := Aside0.mk (blk_below (o := .cells #[.slice (some ad637) l0_0.length c0_0, .slice A0_1 l0_1.length c0_1] 25 (0, 0)) (by with_reducible repeat first | exact BK610.out | apply kN | apply kD | apply kA) hb); have NB630_638 := Aside0.mk ((by rw [hg]; exact Nat.ne_of_lt (blk_lt (by with_reducible repeat first | exact BK630.out | apply kN | apply kD | apply kA)) : gb630 ≠ gb638)); have NB638_630 := Aside0.mk ((by rw [hg]; exact Nat.ne_of_gt (blk_lt (by with_reducible repeat first | exact BK630.out | apply kN | apply kD | apply kA)) : gb638 ≠ gb630)); replace BK630 := Aside0.mk (blk_below (o := .cells #[.int .i64 t625, .int .i64 t626] 35 (0, 0)) (by with_reducible repeat first | exact BK630.out | apply kN | apply kD | apply kA) hb); have NB631_638 := Aside0.mk ((by rw [hg]; exact Nat.ne_of_lt (blk_lt (by with_reducible repeat first | exact BK631.out | apply kN | apply kD | apply kA)) : gb631 ≠ gb638)); have NB638_631 := Aside0.mk ((by rw [hg]; exact Nat.ne_of_gt (blk_lt (by with_reducible repeat first | exact BK631.out | apply kN | apply kD | apply kA)) : gb638 ≠ gb631)); replace BK631 := Aside0.mk (blk_below (o := .cells #[.int .i64 t627, .int .i64 t628] 35 (0, 0)) (by with_reducible repeat first | exact BK631.out | apply kN | apply kD | apply kA) hb); clear hb hbox hg; have hnb84 := NB638_610.out; have hnc84 := NB610_638.out; have hnb85 := NB638_630.out; have hnc85 := NB630_638.out; have hnb86 := NB638_631.out; have hnc86 := NB631_638.out; obtain ⟨hcz87_0, hcz87_1, hfz87_0, hfz87_1⟩ := kc2 BK638.out; have hnb88 := NB630_631.out; have hnc88 := NB631_630.out; obtain ⟨hcz89_0, hcz89_1, hfz89_0, hfz89_1⟩ := kc2 BK630.out; obtain ⟨hcz90_0, hcz90_1, hfz90_0, hfz90_1⟩ := kc2 BK631.out))
               repeat (go_quiet (fail); try go_wp2_with (fail))
               go_roundg k1
               case measure => have := HK1.out; omega
               case rel => exact ⟨(true), ((((rd_T53 l0_0 x10_1).f0.f0) == t627)), (true), (true), (wrap64 (x10_1 + 1)), (by first | rfl | (simp; done) | (simp [*]; done)), (by first | rfl | (simp; done) | (simp [*]; done)), (by first | rfl | (simp; done) | (simp [*]; done)), (by first | rfl | (simp; done) | (simp [*]; done)), (by first | rfl | (simp; done) | (simp [*]; done)), H', ⟨by have := HK1.out; omega⟩, ⟨by (with_reducible repeat first | apply kN | apply kD | apply kA); refine blk_far ?_ NB610_638.out _; (with_reducible repeat first | apply kN | apply kD | apply kA); refine blk_far ?_ NB610_638.out _; (with_reducible repeat first | apply kN | apply kD | apply kA); exact BK610.out⟩, ⟨by (with_reducible repeat first | apply kN | apply kD | apply kA); refine blk_far ?_ NB630_638.out _; (with_reducible repeat first | apply kN | apply kD | apply kA); refine blk_far ?_ NB630_638.out _; (with_reducible repeat first | apply kN | apply kD | apply kA); exact BK630.out⟩, ⟨by (with_reducible repeat first | apply kN | apply kD | apply kA); refine blk_far ?_ NB631_638.out _; (with_reducible repeat first | apply kN | apply kD | apply kA); refine blk_far ?_ NB631_638.out _; (with_reducible repeat first | apply kN | apply kD | apply kA); exact BK631.out⟩, ⟨by repeat with_reducible first | exact HB.out | apply bA | apply bN | apply bD | refine bS ?_ GE610.out | refine bS ?_ GE630.out | refine bS ?_ GE631.out | refine bS ?_ GE638.out⟩⟩
              ·
               replace c79 := Bool.eq_false_iff.mpr c79
               subst c79
               have H1 : (dancestudiolaw43_FloorBox.l0 k1 true (((rd_T53 l0_0 x10_1).f0.f0) == t627) true (((rd_T53 l0_0 x10_1).f0.f1) == t628) (wrap64 (x10_1 + 1)) l0_0 l0_1 t625 t626 t627 t628) = some r := by rw [if_neg (show ¬ (false = true) by decide)] at H; exact H
               clear H
               have H := H1
               clear H1
               have H' := Aside0.mk H
               clear H
               have hnb91 := NB610_630.out
               have hnc91 := NB630_610.out
               have hnb92 := NB610_631.out
               have hnc92 := NB631_610.out
               have hcz93_0 : wr.cell? ⟨gb610, 0, none⟩ = some (.slice A0_0 l0_0.length c0_0) := (blk_cell BK610.out 0).trans rfl
               have hcz93_1 : wr.cell? ⟨gb610, 1, none⟩ = some (.slice A0_1 l0_1.length c0_1) := (blk_cell BK610.out 1).trans rfl
               have hfz93_0 := blk_frozen BK610.out 0
               have hfz93_1 := blk_frozen BK610.out 1
               have p637 : 0 ≤ (x10_1 : Int) := of_decide_eq_true (by first | (with_reducible assumption) | assumption)
               have q637 : x10_1 < (l0_0.length : Int) := of_decide_eq_true (by first | (with_reducible assumption) | assumption)
               obtain ⟨ad637, e637, hx637_0, hx637_1, _, _, _, _, _, _, _, _, _, _, _, _, _, _, _, _, _, _, _, _⟩ := at_T53 HR0_0.out x10_1 p637 q637
               cases e637
               replace hx637_0 := cb HB.out hx637_0
               replace hx637_1 := cb HB.out hx637_1
               replace p637 := eq_true p637
               replace q637 := eq_true q637
               go_wp2_with (first | ((with_reducible refine gate_dst (N := 11) rfl ?_); refine box_event ?hg (N := 11) ?hd (cs := #[.int .i64 0, .int .i64 0]) (t := 35) ?hr ?_; (case hd => rfl); (case hg => rfl); (case hr => first | (go_simp; done) | (go_simp; rfl)); intro gb638 hg w94 hbox hb; have BK638 := Aside0.mk (hbox); have GW638 := Aside0.mk ((by rw [hg]; exact (below_size (by repeat with_reducible first | exact HB.out | apply bA | apply bN | apply bD | refine bS ?_ GE610.out | refine bS ?_ GE630.out | refine bS ?_ GE631.out)) : w.heap.size ≤ gb638)); have GE638 := GW638; replace HB := Aside0.mk (below_step (by repeat with_reducible first | exact HB.out | apply bA | apply bN | apply bD | refine bS ?_ GE610.out | refine bS ?_ GE630.out | refine bS ?_ GE631.out) hb); have NB610_638 := Aside0.mk ((by rw [hg]; exact Nat.ne_of_lt (blk_lt (by with_reducible repeat first | exact BK610.out | apply kN | apply kD | apply kA)) : gb610 ≠ gb638)); have NB638_610 := Aside0.mk ((by rw [hg]; exact Nat.ne_of_gt (blk_lt (by with_reducible repeat first | exact BK610.out | apply kN | apply kD | apply kA)) : gb638 ≠ gb610)); replace BK610 := Aside0.mk (blk_below (o := .cells #[.slice (some ad637) l0_0.length c0_0, .slice A0_1 l0_1.length c0_1] 25 (0, 0)) (by with_reducible repeat first | exact BK610.out | apply kN | apply kD | apply kA) hb); have NB630_638 := Aside0.mk ((by rw [hg]; exact Nat.ne_of_lt (blk_lt (by with_reducible repeat first | exact BK630.out | apply kN | apply kD | apply kA)) : gb630 ≠ gb638)); have NB638_630 := Aside0.mk ((by rw [hg]; exact Nat.ne_of_gt (blk_lt (by with_reducible repeat first | exact BK630.out | apply kN | apply kD | apply kA)) : gb638 ≠ gb630)); replace BK630 := Aside0.mk (blk_below (o := .cells #[.int .i64 t625, .int .i64 t626] 35 (0, 0)) (by with_reducible repeat first | exact BK630.out | apply kN | apply kD | apply kA) hb); have NB631_638 := Aside0.mk ((by rw [hg]; exact Nat.ne_of_lt (blk_lt (by with_reducible repeat first | exact BK631.out | apply kN | apply kD | apply kA)) : gb631 ≠ gb638)); have NB638_631 := Aside0.mk ((by rw [hg]; exact Nat.ne_of_gt (blk_lt (by with_reducible repeat first | exact BK631.out | apply kN | apply kD | apply kA)) : gb638 ≠ gb631)); replace BK631 := Aside0.mk (blk_below (o := .cells #[.int .i64 t627, .int .i64 t628] 35 (0, 0)) (by with_reducible repeat first | exact BK631.out | apply kN | apply kD | apply kA) hb); clear hb hbox hg; have hnb95 := NB638_610.out; have hnc95 := NB610_638.out; have hnb96 := NB638_630.out; have hnc96 := NB630_638.out; have hnb97 := NB638_631.out; have hnc97 := NB631_638.out; obtain ⟨hcz98_0, hcz98_1, hfz98_0, hfz98_1⟩ := kc2 BK638.out; have hnb99 := NB630_631.out; have hnc99 := NB631_630.out; obtain ⟨hcz100_0, hcz100_1, hfz100_0, hfz100_1⟩ := kc2 BK630.out; obtain ⟨hcz101_0, hcz101_1, hfz101_0, hfz101_1⟩ := kc2 BK631.out))
               repeat (go_quiet (fail); try go_wp2_with (fail))
               go_roundg k1
               case measure => have := HK1.out; omega
               case rel => exact ⟨(true), ((((rd_T53 l0_0 x10_1).f0.f0) == t627)), (true), ((((rd_T53 l0_0 x10_1).f0.f1) == t628)), (wrap64 (x10_1 + 1)), (by first | rfl | (simp; done) | (simp [*]; done)), (by first | rfl | (simp; done) | (simp [*]; done)), (by first | rfl | (simp; done) | (simp [*]; done)), (by first | rfl | (simp; done) | (simp [*]; done)), (by first | rfl | (simp; done) | (simp [*]; done)), H', ⟨by have := HK1.out; omega⟩, ⟨by (with_reducible repeat first | apply kN | apply kD | apply kA); refine blk_far ?_ NB610_638.out _; (with_reducible repeat first | apply kN | apply kD | apply kA); refine blk_far ?_ NB610_638.out _; (with_reducible repeat first | apply kN | apply kD | apply kA); exact BK610.out⟩, ⟨by (with_reducible repeat first | apply kN | apply kD | apply kA); refine blk_far ?_ NB630_638.out _; (with_reducible repeat first | apply kN | apply kD | apply kA); refine blk_far ?_ NB630_638.out _; (with_reducible repeat first | apply kN | apply kD | apply kA); exact BK630.out⟩, ⟨by (with_reducible repeat first | apply kN | apply kD | apply kA); refine blk_far ?_ NB631_638.out _; (with_reducible repeat first | apply kN | apply kD | apply kA); refine blk_far ?_ NB631_638.out _; (with_reducible repeat first | apply kN | apply kD | apply kA); exact BK631.out⟩, ⟨by repeat with_reducible first | exact HB.out | apply bA | apply bN | apply bD | refine bS ?_ GE610.out | refine bS ?_ GE630.out | refine bS ?_ GE631.out | refine bS ?_ GE638.out⟩⟩
             ·
              replace c78 := Bool.eq_false_iff.mpr c78
              subst c78
              have H1 : (if x9_1 = true then (dancestudiolaw43_FloorBox.l0 k1 true (((rd_T53 l0_0 x10_1).f0.f0) == t627) (((rd_T53 l0_0 x10_1).f0.f1) == t626) true (wrap64 (x10_1 + 1)) l0_0 l0_1 t625 t626 t627 t628) else (dancestudiolaw43_FloorBox.l0 k1 true (((rd_T53 l0_0 x10_1).f0.f0) == t627) (((rd_T53 l0_0 x10_1).f0.f1) == t626) (((rd_T53 l0_0 x10_1).f0.f1) == t628) (wrap64 (x10_1 + 1)) l0_0 l0_1 t625 t626 t627 t628)) = some r := by rw [if_neg (show ¬ (false = true) by decide)] at H; exact H
              clear H
              have H := H1
              clear H1
              by_cases c102 : x9_1 = true
              ·
               subst c102
               have H1 : (dancestudiolaw43_FloorBox.l0 k1 true (((rd_T53 l0_0 x10_1).f0.f0) == t627) (((rd_T53 l0_0 x10_1).f0.f1) == t626) true (wrap64 (x10_1 + 1)) l0_0 l0_1 t625 t626 t627 t628) = some r := by rw [if_pos rfl] at H; exact H
               clear H
               have H := H1
               clear H1
               have H' := Aside0.mk H
               clear H
               have hnb103 := NB610_630.out
               have hnc103 := NB630_610.out
               have hnb104 := NB610_631.out
               have hnc104 := NB631_610.out
               have hcz105_0 : wr.cell? ⟨gb610, 0, none⟩ = some (.slice A0_0 l0_0.length c0_0) := (blk_cell BK610.out 0).trans rfl
               have hcz105_1 : wr.cell? ⟨gb610, 1, none⟩ = some (.slice A0_1 l0_1.length c0_1) := (blk_cell BK610.out 1).trans rfl
               have hfz105_0 := blk_frozen BK610.out 0
               have hfz105_1 := blk_frozen BK610.out 1
               have p637 : 0 ≤ (x10_1 : Int) := of_decide_eq_true (by first | (with_reducible assumption) | assumption)
               have q637 : x10_1 < (l0_0.length : Int) := of_decide_eq_true (by first | (with_reducible assumption) | assumption)
               obtain ⟨ad637, e637, hx637_0, hx637_1, _, _, _, _, _, _, _, _, _, _, _, _, _, _, _, _, _, _, _, _⟩ := at_T53 HR0_0.out x10_1 p637 q637
               cases e637
               replace hx637_0 := cb HB.out hx637_0
               replace hx637_1 := cb HB.out hx637_1
               replace p637 := eq_true p637
               replace q637 := eq_true q637
               go_wp2_with (first | ((with_reducible refine gate_dst (N := 11) rfl ?_); refine box_event ?hg (N := 11) ?hd (cs := #[.int .i64 0, .int .i64 0]) (t := 35) ?hr ?_; (case hd => rfl); (case hg => rfl); (case hr => first | (go_simp; done) | (go_simp; rfl)); intro gb638 hg w106 hbox hb; have BK638 := Aside0.mk (hbox); have GW638 := Aside0.mk ((by rw [hg]; exact (below_size (by repeat with_reducible first | exact HB.out | apply bA | apply bN | apply bD | refine bS ?_ GE610.out | refine bS ?_ GE630.out | refine bS ?_ GE631.out)) : w.heap.size ≤ gb638)); have GE638 := GW638; replace HB := Aside0.mk (below_step (by repeat with_reducible first | exact HB.out | apply bA | apply bN | apply bD | refine bS ?_ GE610.out | refine bS ?_ GE630.out | refine bS ?_ GE631.out) hb); have NB610_638 := Aside0.mk ((by rw [hg]; exact Nat.ne_of_lt (blk_lt (by with_reducible repeat first | exact BK610.out | apply kN | apply kD | apply kA)) : gb610 ≠ gb638)); have NB638_610 := Aside0.mk ((by rw [hg]; exact Nat.ne_of_gt (blk_lt (by with_reducible repeat first | exact BK610.out | apply kN | apply kD | apply kA)) : gb638 ≠ gb610)); replace BK610 := Aside0.mk (blk_below (o := .cells #[.slice (some ad637) l0_0.length c0_0, .slice A0_1 l0_1.length c0_1] 25 (0, 0)) (by with_reducible repeat first | exact BK610.out | apply kN | apply kD | apply kA) hb); have NB630_638 := Aside0.mk ((by rw [hg]; exact Nat.ne_of_lt (blk_lt (by with_reducible repeat first | exact BK630.out | apply kN | apply kD | apply kA)) : gb630 ≠ gb638)); have NB638_630 := Aside0.mk ((by rw [hg]; exact Nat.ne_of_gt (blk_lt (by with_reducible repeat first | exact BK630.out | apply kN | apply kD | apply kA)) : gb638 ≠ gb630)); replace BK630 := Aside0.mk (blk_below (o := .cells #[.int .i64 t625, .int .i64 t626] 35 (0, 0)) (by with_reducible repeat first | exact BK630.out | apply kN | apply kD | apply kA) hb); have NB631_638 := Aside0.mk ((by rw [hg]; exact Nat.ne_of_lt (blk_lt (by with_reducible repeat first | exact BK631.out | apply kN | apply kD | apply kA)) : gb631 ≠ gb638)); have NB638_631 := Aside0.mk ((by rw [hg]; exact Nat.ne_of_gt (blk_lt (by with_reducible repeat first | exact BK631.out | apply kN | apply kD | apply kA)) : gb638 ≠ gb631)); replace BK631 := Aside0.mk (blk_below (o := .cells #[.int .i64 t627, .int .i64 t628] 35 (0, 0)) (by with_reducible repeat first | exact BK631.out | apply kN | apply kD | apply kA) hb); clear hb hbox hg; have hnb107 := NB638_610.out; have hnc107 := NB610_638.out; have hnb108 := NB638_630.out; have hnc108 := NB630_638.out; have hnb109 := NB638_631.out; have hnc109 := NB631_638.out; obtain ⟨hcz110_0, hcz110_1, hfz110_0, hfz110_1⟩ := kc2 BK638.out; have hnb111 := NB630_631.out; have hnc111 := NB631_630.out; obtain ⟨hcz112_0, hcz112_1, hfz112_0, hfz112_1⟩ := kc2 BK630.out; obtain ⟨hcz113_0, hcz113_1, hfz113_0, hfz113_1⟩ := kc2 BK631.out))
               repeat (go_quiet (fail); try go_wp2_with (fail))
               go_roundg k1
               case measure => have := HK1.out; omega
               case rel => exact ⟨(true), ((((rd_T53 l0_0 x10_1).f0.f0) == t627)), ((((rd_T53 l0_0 x10_1).f0.f1) == t626)), (true), (wrap64 (x10_1 + 1)), (by first | rfl | (simp; done) | (simp [*]; done)), (by first | rfl | (simp; done) | (simp [*]; done)), (by first | rfl | (simp; done) | (simp [*]; done)), (by first | rfl | (simp; done) | (simp [*]; done)), (by first | rfl | (simp; done) | (simp [*]; done)), H', ⟨by have := HK1.out; omega⟩, ⟨by (with_reducible repeat first | apply kN | apply kD | apply kA); refine blk_far ?_ NB610_638.out _; (with_reducible repeat first | apply kN | apply kD | apply kA); refine blk_far ?_ NB610_638.out _; (with_reducible repeat first | apply kN | apply kD | apply kA); exact BK610.out⟩, ⟨by (with_reducible repeat first | apply kN | apply kD | apply kA); refine blk_far ?_ NB630_638.out _; (with_reducible repeat first | apply kN | apply kD | apply kA); refine blk_far ?_ NB630_638.out _; (with_reducible repeat first | apply kN | apply kD | apply kA); exact BK630.out⟩, ⟨by (with_reducible repeat first | apply kN | apply kD | apply kA); refine blk_far ?_ NB631_638.out _; (with_reducible repeat first | apply kN | apply kD | apply kA); refine blk_far ?_ NB631_638.out _; (with_reducible repeat first | apply kN | apply kD | apply kA); exact BK631.out⟩, ⟨by repeat with_reducible first | exact HB.out | apply bA | apply bN | apply bD | refine bS ?_ GE610.out | refine bS ?_ GE630.out | refine bS ?_ GE631.out | refine bS ?_ GE638.out⟩⟩
              ·
               replace c102 := Bool.eq_false_iff.mpr c102
               subst c102
               have H1 : (dancestudiolaw43_FloorBox.l0 k1 true (((rd_T53 l0_0 x10_1).f0.f0) == t627) (((rd_T53 l0_0 x10_1).f0.f1) == t626) (((rd_T53 l0_0 x10_1).f0.f1) == t628) (wrap64 (x10_1 + 1)) l0_0 l0_1 t625 t626 t627 t628) = some r := by rw [if_neg (show ¬ (false = true) by decide)] at H; exact H
               clear H
               have H := H1
               clear H1
               have H' := Aside0.mk H
               clear H
               have hnb114 := NB610_630.out
               have hnc114 := NB630_610.out
               have hnb115 := NB610_631.out
               have hnc115 := NB631_610.out
               have hcz116_0 : wr.cell? ⟨gb610, 0, none⟩ = some (.slice A0_0 l0_0.length c0_0) := (blk_cell BK610.out 0).trans rfl
               have hcz116_1 : wr.cell? ⟨gb610, 1, none⟩ = some (.slice A0_1 l0_1.length c0_1) := (blk_cell BK610.out 1).trans rfl
               have hfz116_0 := blk_frozen BK610.out 0
               have hfz116_1 := blk_frozen BK610.out 1
               have p637 : 0 ≤ (x10_1 : Int) := of_decide_eq_true (by first | (with_reducible assumption) | assumption)
               have q637 : x10_1 < (l0_0.length : Int) := of_decide_eq_true (by first | (with_reducible assumption) | assumption)
               obtain ⟨ad637, e637, hx637_0, hx637_1, _, _, _, _, _, _, _, _, _, _, _, _, _, _, _, _, _, _, _, _⟩ := at_T53 HR0_0.out x10_1 p637 q637
               cases e637
               replace hx637_0 := cb HB.out hx637_0
               replace hx637_1 := cb HB.out hx637_1
               replace p637 := eq_true p637
               replace q637 := eq_true q637
               go_wp2_with (first | ((with_reducible refine gate_dst (N := 11) rfl ?_); refine box_event ?hg (N := 11) ?hd (cs := #[.int .i64 0, .int .i64 0]) (t := 35) ?hr ?_; (case hd => rfl); (case hg => rfl); (case hr => first | (go_simp; done) | (go_simp; rfl)); intro gb638 hg w117 hbox hb; have BK638 := Aside0.mk (hbox); have GW638 := Aside0.mk ((by rw [hg]; exact (below_size (by repeat with_reducible first | exact HB.out | apply bA | apply bN | apply bD | refine bS ?_ GE610.out | refine bS ?_ GE630.out | refine bS ?_ GE631.out)) : w.heap.size ≤ gb638)); have GE638 := GW638; replace HB := Aside0.mk (below_step (by repeat with_reducible first | exact HB.out | apply bA | apply bN | apply bD | refine bS ?_ GE610.out | refine bS ?_ GE630.out | refine bS ?_ GE631.out) hb); have NB610_638 := Aside0.mk ((by rw [hg]; exact Nat.ne_of_lt (blk_lt (by with_reducible repeat first | exact BK610.out | apply kN | apply kD | apply kA)) : gb610 ≠ gb638)); have NB638_610 := Aside0.mk ((by rw [hg]; exact Nat.ne_of_gt (blk_lt (by with_reducible repeat first | exact BK610.out | apply kN | apply kD | apply kA)) : gb638 ≠ gb610)); replace BK610 := Aside0.mk (blk_below (o := .cells #[.slice (some ad637) l0_0.length c0_0, .slice A0_1 l0_1.length c0_1] 25 (0, 0)) (by with_reducible repeat first | exact BK610.out | apply kN | apply kD | apply kA) hb); have NB630_638 := Aside0.mk ((by rw [hg]; exact Nat.ne_of_lt (blk_lt (by with_reducible repeat first | exact BK630.out | apply kN | apply kD | apply kA)) : gb630 ≠ gb638)); have NB638_630 := Aside0.mk ((by rw [hg]; exact Nat.ne_of_gt (blk_lt (by with_reducible repeat first | exact BK630.out | apply kN | apply kD | apply kA)) : gb638 ≠ gb630)); replace BK630 := Aside0.mk (blk_below (o := .cells #[.int .i64 t625, .int .i64 t626] 35 (0, 0)) (by with_reducible repeat first | exact BK630.out | apply kN | apply kD | apply kA) hb); have NB631_638 := Aside0.mk ((by rw [hg]; exact Nat.ne_of_lt (blk_lt (by with_reducible repeat first | exact BK631.out | apply kN | apply kD | apply kA)) : gb631 ≠ gb638)); have NB638_631 := Aside0.mk ((by rw [hg]; exact Nat.ne_of_gt (blk_lt (by with_reducible repeat first | exact BK631.out | apply kN | apply kD | apply kA)) : gb638 ≠ gb631)); replace BK631 := Aside0.mk (blk_below (o := .cells #[.int .i64 t627, .int .i64 t628] 35 (0, 0)) (by with_reducible repeat first | exact BK631.out | apply kN | apply kD | apply kA) hb); clear hb hbox hg; have hnb118 := NB638_610.out; have hnc118 := NB610_638.out; have hnb119 := NB638_630.out; have hnc119 := NB630_638.out; have hnb120 := NB638_631.out; have hnc120 := NB631_638.out; obtain ⟨hcz121_0, hcz121_1, hfz121_0, hfz121_1⟩ := kc2 BK638.out; have hnb122 := NB630_631.out; have hnc122 := NB631_630.out; obtain ⟨hcz123_0, hcz123_1, hfz123_0, hfz123_1⟩ := kc2 BK630.out; obtain ⟨hcz124_0, hcz124_1, hfz124_0, hfz124_1⟩ := kc2 BK631.out))
               repeat (go_quiet (fail); try go_wp2_with (fail))
               go_roundg k1
               case measure => have := HK1.out; omega
               case rel => exact ⟨(true), ((((rd_T53 l0_0 x10_1).f0.f0) == t627)), ((((rd_T53 l0_0 x10_1).f0.f1) == t626)), ((((rd_T53 l0_0 x10_1).f0.f1) == t628)), (wrap64 (x10_1 + 1)), (by first | rfl | (simp; done) | (simp [*]; done)), (by first | rfl | (simp; done) | (simp [*]; done)), (by first | rfl | (simp; done) | (simp [*]; done)), (by first | rfl | (simp; done) | (simp [*]; done)), (by first | rfl | (simp; done) | (simp [*]; done)), H', ⟨by have := HK1.out; omega⟩, ⟨by (with_reducible repeat first | apply kN | apply kD | apply kA); refine blk_far ?_ NB610_638.out _; (with_reducible repeat first | apply kN | apply kD | apply kA); refine blk_far ?_ NB610_638.out _; (with_reducible repeat first | apply kN | apply kD | apply kA); exact BK610.out⟩, ⟨by (with_reducible repeat first | apply kN | apply kD | apply kA); refine blk_far ?_ NB630_638.out _; (with_reducible repeat first | apply kN | apply kD | apply kA); refine blk_far ?_ NB630_638.out _; (with_reducible repeat first | apply kN | apply kD | apply kA); exact BK630.out⟩, ⟨by (with_reducible repeat first | apply kN | apply kD | apply kA); refine blk_far ?_ NB631_638.out _; (with_reducible repeat first | apply kN | apply kD | apply kA); refine blk_far ?_ NB631_638.out _; (with_reducible repeat first | apply kN | apply kD | apply kA); exact BK631.out⟩, ⟨by repeat with_reducible first | exact HB.out | apply bA | apply bN | apply bD | refine bS ?_ GE610.out | refine bS ?_ GE630.out | refine bS ?_ GE631.out | refine bS ?_ GE638.out⟩⟩
           ·
            replace c29 := Bool.eq_false_iff.mpr c29
            subst c29
            have H1 : (if x7_1 = true then (if x8_1 = true then (if x9_1 = true then (dancestudiolaw43_FloorBox.l0 k1 (((rd_T53 l0_0 x10_1).f0.f0) == t625) true true true (wrap64 (x10_1 + 1)) l0_0 l0_1 t625 t626 t627 t628) else (dancestudiolaw43_FloorBox.l0 k1 (((rd_T53 l0_0 x10_1).f0.f0) == t625) true true (((rd_T53 l0_0 x10_1).f0.f1) == t628) (wrap64 (x10_1 + 1)) l0_0 l0_1 t625 t626 t627 t628)) else (if x9_1 = true then (dancestudiolaw43_FloorBox.l0 k1 (((rd_T53 l0_0 x10_1).f0.f0) == t625) true (((rd_T53 l0_0 x10_1).f0.f1) == t626) true (wrap64 (x10_1 + 1)) l0_0 l0_1 t625 t626 t627 t628) else (dancestudiolaw43_FloorBox.l0 k1 (((rd_T53 l0_0 x10_1).f0.f0) == t625) true (((rd_T53 l0_0 x10_1).f0.f1) == t626) (((rd_T53 l0_0 x10_1).f0.f1) == t628) (wrap64 (x10_1 + 1)) l0_0 l0_1 t625 t626 t627 t628))) else (if x8_1 = true then (if x9_1 = true then (dancestudiolaw43_FloorBox.l0 k1 (((rd_T53 l0_0 x10_1).f0.f0) == t625) (((rd_T53 l0_0 x10_1).f0.f0) == t627) true true (wrap64 (x10_1 + 1)) l0_0 l0_1 t625 t626 t627 t628) else (dancestudiolaw43_FloorBox.l0 k1 (((rd_T53 l0_0 x10_1).f0.f0) == t625) (((rd_T53 l0_0 x10_1).f0.f0) == t627) true (((rd_T53 l0_0 x10_1).f0.f1) == t628) (wrap64 (x10_1 + 1)) l0_0 l0_1 t625 t626 t627 t628)) else (if x9_1 = true then (dancestudiolaw43_FloorBox.l0 k1 (((rd_T53 l0_0 x10_1).f0.f0) == t625) (((rd_T53 l0_0 x10_1).f0.f0) == t627) (((rd_T53 l0_0 x10_1).f0.f1) == t626) true (wrap64 (x10_1 + 1)) l0_0 l0_1 t625 t626 t627 t628) else (dancestudiolaw43_FloorBox.l0 k1 (((rd_T53 l0_0 x10_1).f0.f0) == t625) (((rd_T53 l0_0 x10_1).f0.f0) == t627) (((rd_T53 l0_0 x10_1).f0.f1) == t626) (((rd_T53 l0_0 x10_1).f0.f1) == t628) (wrap64 (x10_1 + 1)) l0_0 l0_1 t625 t626 t627 t628)))) = some r := by rw [if_neg (show ¬ (false = true) by decide)] at H; exact H
            clear H
            have H := H1
            clear H1
            by_cases c125 : x7_1 = true
            ·
             subst c125
             have H1 : (if x8_1 = true then (if x9_1 = true then (dancestudiolaw43_FloorBox.l0 k1 (((rd_T53 l0_0 x10_1).f0.f0) == t625) true true true (wrap64 (x10_1 + 1)) l0_0 l0_1 t625 t626 t627 t628) else (dancestudiolaw43_FloorBox.l0 k1 (((rd_T53 l0_0 x10_1).f0.f0) == t625) true true (((rd_T53 l0_0 x10_1).f0.f1) == t628) (wrap64 (x10_1 + 1)) l0_0 l0_1 t625 t626 t627 t628)) else (if x9_1 = true then (dancestudiolaw43_FloorBox.l0 k1 (((rd_T53 l0_0 x10_1).f0.f0) == t625) true (((rd_T53 l0_0 x10_1).f0.f1) == t626) true (wrap64 (x10_1 + 1)) l0_0 l0_1 t625 t626 t627 t628) else (dancestudiolaw43_FloorBox.l0 k1 (((rd_T53 l0_0 x10_1).f0.f0) == t625) true (((rd_T53 l0_0 x10_1).f0.f1) == t626) (((rd_T53 l0_0 x10_1).f0.f1) == t628) (wrap64 (x10_1 + 1)) l0_0 l0_1 t625 t626 t627 t628))) = some r := by rw [if_pos rfl] at H; exact H
             clear H
             have H := H1
             clear H1
             by_cases c126 : x8_1 = true
             ·
              subst c126
              have H1 : (if x9_1 = true then (dancestudiolaw43_FloorBox.l0 k1 (((rd_T53 l0_0 x10_1).f0.f0) == t625) true true true (wrap64 (x10_1 + 1)) l0_0 l0_1 t625 t626 t627 t628) else (dancestudiolaw43_FloorBox.l0 k1 (((rd_T53 l0_0 x10_1).f0.f0) == t625) true true (((rd_T53 l0_0 x10_1).f0.f1) == t628) (wrap64 (x10_1 + 1)) l0_0 l0_1 t625 t626 t627 t628)) = some r := by rw [if_pos rfl] at H; exact H
              clear H
              have H := H1
              clear H1
              by_cases c127 : x9_1 = true
              ·
               subst c127
               have H1 : (dancestudiolaw43_FloorBox.l0 k1 (((rd_T53 l0_0 x10_1).f0.f0) == t625) true true true (wrap64 (x10_1 + 1)) l0_0 l0_1 t625 t626 t627 t628) = some r := by rw [if_pos rfl] at H; exact H
               clear H
               have H := H1
               clear H1
               have H' := Aside0.mk H
               clear H
               have hnb128 := NB610_630.out
               have hnc128 := NB630_610.out
               have hnb129 := NB610_631.out
               have hnc129 := NB631_610.out
               have hcz130_0 : wr.cell? ⟨gb610, 0, none⟩ = some (.slice A0_0 l0_0.length c0_0) := (blk_cell BK610.out 0).trans rfl
               have hcz130_1 : wr.cell? ⟨gb610, 1, none⟩ = some (.slice A0_1 l0_1.length c0_1) := (blk_cell BK610.out 1).trans rfl
               have hfz130_0 := blk_frozen BK610.out 0
               have hfz130_1 := blk_frozen BK610.out 1
               have p637 : 0 ≤ (x10_1 : Int) := of_decide_eq_true (by first | (with_reducible assumption) | assumption)
               have q637 : x10_1 < (l0_0.length : Int) := of_decide_eq_true (by first | (with_reducible assumption) | assumption)
               obtain ⟨ad637, e637, hx637_0, hx637_1, _, _, _, _, _, _, _, _, _, _, _, _, _, _, _, _, _, _, _, _⟩ := at_T53 HR0_0.out x10_1 p637 q637
               cases e637
               replace hx637_0 := cb HB.out hx637_0
               replace hx637_1 := cb HB.out hx637_1
               replace p637 := eq_true p637
               replace q637 := eq_true q637
               go_wp2_with (first | ((with_reducible refine gate_dst (N := 11) rfl ?_); refine box_event ?hg (N := 11) ?hd (cs := #[.int .i64 0, .int .i64 0]) (t := 35) ?hr ?_; (case hd => rfl); (case hg => rfl); (case hr => first | (go_simp; done) | (go_simp; rfl)); intro gb638 hg w131 hbox hb; have BK638 := Aside0.mk (hbox); have GW638 := Aside0.mk ((by rw [hg]; exact (below_size (by repeat with_reducible first | exact HB.out | apply bA | apply bN | apply bD | refine bS ?_ GE610.out | refine bS ?_ GE630.out | refine bS ?_ GE631.out)) : w.heap.size ≤ gb638)); have GE638 := GW638; replace HB := Aside0.mk (below_step (by repeat with_reducible first | exact HB.out | apply bA | apply bN | apply bD | refine bS ?_ GE610.out | refine bS ?_ GE630.out | refine bS ?_ GE631.out) hb); have NB610_638 := Aside0.mk ((by rw [hg]; exact Nat.ne_of_lt (blk_lt (by with_reducible repeat first | exact BK610.out | apply kN | apply kD | apply kA)) : gb610 ≠ gb638)); have NB638_610 := Aside0.mk ((by rw [hg]; exact Nat.ne_of_gt (blk_lt (by with_reducible repeat first | exact BK610.out | apply kN | apply kD | apply kA)) : gb638 ≠ gb610)); replace BK610 := Aside0.mk (blk_below (o := .cells #[.slice (some ad637) l0_0.length c0_0, .slice A0_1 l0_1.length c0_1] 25 (0, 0)) (by with_reducible repeat first | exact BK610.out | apply kN | apply kD | apply kA) hb); have NB630_638 := Aside0.mk ((by rw [hg]; exact Nat.ne_of_lt (blk_lt (by with_reducible repeat first | exact BK630.out | apply kN | apply kD | apply kA)) : gb630 ≠ gb638)); have NB638_630 := Aside0.mk ((by rw [hg]; exact Nat.ne_of_gt (blk_lt (by with_reducible repeat first | exact BK630.out | apply kN | apply kD | apply kA)) : gb638 ≠ gb630)); replace BK630 := Aside0.mk (blk_below (o := .cells #[.int .i64 t625, .int .i64 t626] 35 (0, 0)) (by with_reducible repeat first | exact BK630.out | apply kN | apply kD | apply kA) hb); have NB631_638 := Aside0.mk ((by rw [hg]; exact Nat.ne_of_lt (blk_lt (by with_reducible repeat first | exact BK631.out | apply kN | apply kD | apply kA)) : gb631 ≠ gb638)); have NB638_631 := Aside0.mk ((by rw [hg]; exact Nat.ne_of_gt (blk_lt (by with_reducible repeat first | exact BK631.out | apply kN | apply kD | apply kA)) : gb638 ≠ gb631)); replace BK631 := Aside0.mk (blk_below (o := .cells #[.int .i64 t627, .int .i64 t628] 35 (0, 0)) (by with_reducible repeat first | exact BK631.out | apply kN | apply kD | apply kA) hb); clear hb hbox hg; have hnb132 := NB638_610.out; have hnc132 := NB610_638.out; have hnb133 := NB638_630.out; have hnc133 := NB630_638.out; have hnb134 := NB638_631.out; have hnc134 := NB631_638.out; obtain ⟨hcz135_0, hcz135_1, hfz135_0, hfz135_1⟩ := kc2 BK638.out; have hnb136 := NB630_631.out; have hnc136 := NB631_630.out; obtain ⟨hcz137_0, hcz137_1, hfz137_0, hfz137_1⟩ := kc2 BK630.out; obtain ⟨hcz138_0, hcz138_1, hfz138_0, hfz138_1⟩ := kc2 BK631.out))
               repeat (go_quiet (fail); try go_wp2_with (fail))
               go_roundg k1
               case measure => have := HK1.out; omega
               case rel => exact ⟨((((rd_T53 l0_0 x10_1).f0.f0) == t625)), (true), (true), (true), (wrap64 (x10_1 + 1)), (by first | rfl | (simp; done) | (simp [*]; done)), (by first | rfl | (simp; done) | (simp [*]; done)), (by first | rfl | (simp; done) | (simp [*]; done)), (by first | rfl | (simp; done) | (simp [*]; done)), (by first | rfl | (simp; done) | (simp [*]; done)), H', ⟨by have := HK1.out; omega⟩, ⟨by (with_reducible repeat first | apply kN | apply kD | apply kA); refine blk_far ?_ NB610_638.out _; (with_reducible repeat first | apply kN | apply kD | apply kA); refine blk_far ?_ NB610_638.out _; (with_reducible repeat first | apply kN | apply kD | apply kA); exact BK610.out⟩, ⟨by (with_reducible repeat first | apply kN | apply kD | apply kA); refine blk_far ?_ NB630_638.out _; (with_reducible repeat first | apply kN | apply kD | apply kA); refine blk_far ?_ NB630_638.out _; (with_reducible repeat first | apply kN | apply kD | apply kA); exact BK630.out⟩, ⟨by (with_reducible repeat first | apply kN | apply kD | apply kA); refine blk_far ?_ NB631_638.out _; (with_reducible repeat first | apply kN | apply kD | apply kA); refine blk_far ?_ NB631_638.out _; (with_reducible repeat first | apply kN | apply kD | apply kA); exact BK631.out⟩, ⟨by repeat with_reducible first | exact HB.out | apply bA | apply bN | apply bD | refine bS ?_ GE610.out | refine bS ?_ GE630.out | refine bS ?_ GE631.out | refine bS ?_ GE638.out⟩⟩
              ·
               replace c127 := Bool.eq_false_iff.mpr c127
               subst c127
               have H1 : (dancestudiolaw43_FloorBox.l0 k1 (((rd_T53 l0_0 x10_1).f0.f0) == t625) true true (((rd_T53 l0_0 x10_1).f0.f1) == t628) (wrap64 (x10_1 + 1)) l0_0 l0_1 t625 t626 t627 t628) = some r := by rw [if_neg (show ¬ (false = true) by decide)] at H; exact H
               clear H
               have H := H1
               clear H1
               have H' := Aside0.mk H
               clear H
               have hnb139 := NB610_630.out
               have hnc139 := NB630_610.out
               have hnb140 := NB610_631.out
               have hnc140 := NB631_610.out
               have hcz141_0 : wr.cell? ⟨gb610, 0, none⟩ = some (.slice A0_0 l0_0.length c0_0) := (blk_cell BK610.out 0).trans rfl
               have hcz141_1 : wr.cell? ⟨gb610, 1, none⟩ = some (.slice A0_1 l0_1.length c0_1) := (blk_cell BK610.out 1).trans rfl
               have hfz141_0 := blk_frozen BK610.out 0
               have hfz141_1 := blk_frozen BK610.out 1
               have p637 : 0 ≤ (x10_1 : Int) := of_decide_eq_true (by first | (with_reducible assumption) | assumption)
               have q637 : x10_1 < (l0_0.length : Int) := of_decide_eq_true (by first | (with_reducible assumption) | assumption)
               obtain ⟨ad637, e637, hx637_0, hx637_1, _, _, _, _, _, _, _, _, _, _, _, _, _, _, _, _, _, _, _, _⟩ := at_T53 HR0_0.out x10_1 p637 q637
               cases e637
               replace hx637_0 := cb HB.out hx637_0
               replace hx637_1 := cb HB.out hx637_1
               replace p637 := eq_true p637
               replace q637 := eq_true q637
               go_wp2_with (first | ((with_reducible refine gate_dst (N := 11) rfl ?_); refine box_event ?hg (N := 11) ?hd (cs := #[.int .i64 0, .int .i64 0]) (t := 35) ?hr ?_; (case hd => rfl); (case hg => rfl); (case hr => first | (go_simp; done) | (go_simp; rfl)); intro gb638 hg w142 hbox hb; have BK638 := Aside0.mk (hbox); have GW638 := Aside0.mk ((by rw [hg]; exact (below_size (by repeat with_reducible first | exact HB.out | apply bA | apply bN | apply bD | refine bS ?_ GE610.out | refine bS ?_ GE630.out | refine bS ?_ GE631.out)) : w.heap.size ≤ gb638)); have GE638 := GW638; replace HB := Aside0.mk (below_step (by repeat with_reducible first | exact HB.out | apply bA | apply bN | apply bD | refine bS ?_ GE610.out | refine bS ?_ GE630.out | refine bS ?_ GE631.out) hb); have NB610_638 := Aside0.mk ((by rw [hg]; exact Nat.ne_of_lt (blk_lt (by with_reducible repeat first | exact BK610.out | apply kN | apply kD | apply kA)) : gb610 ≠ gb638)); have NB638_610 := Aside0.mk ((by rw [hg]; exact Nat.ne_of_gt (blk_lt (by with_reducible repeat first | exact BK610.out | apply kN | apply kD | apply kA)) : gb638 ≠ gb610)); replace BK610 := Aside0.mk (blk_below (o := .cells #[.slice (some ad637) l0_0.length c0_0, .slice A0_1 l0_1.length c0_1] 25 (0, 0)) (by with_reducible repeat first | exact BK610.out | apply kN | apply kD | apply kA) hb); have NB630_638 := Aside0.mk ((by rw [hg]; exact Nat.ne_of_lt (blk_lt (by with_reducible repeat first | exact BK630.out | apply kN | apply kD | apply kA)) : gb630 ≠ gb638)); have NB638_630 := Aside0.mk ((by rw [hg]; exact Nat.ne_of_gt (blk_lt (by with_reducible repeat first | exact BK630.out | apply kN | apply kD | apply kA)) : gb638 ≠ gb630)); replace BK630 := Aside0.mk (blk_below (o := .cells #[.int .i64 t625, .int .i64 t626] 35 (0, 0)) (by with_reducible repeat first | exact BK630.out | apply kN | apply kD | apply kA) hb); have NB631_638 := Aside0.mk ((by rw [hg]; exact Nat.ne_of_lt (blk_lt (by with_reducible repeat first | exact BK631.out | apply kN | apply kD | apply kA)) : gb631 ≠ gb638)); have NB638_631 := Aside0.mk ((by rw [hg]; exact Nat.ne_of_gt (blk_lt (by with_reducible repeat first | exact BK631.out | apply kN | apply kD | apply kA)) : gb638 ≠ gb631)); replace BK631 := Aside0.mk (blk_below (o := .cells #[.int .i64 t627, .int .i64 t628] 35 (0, 0)) (by with_reducible repeat first | exact BK631.out | apply kN | apply kD | apply kA) hb); clear hb hbox hg; have hnb143 := NB638_610.out; have hnc143 := NB610_638.out; have hnb144 := NB638_630.out; have hnc144 := NB630_638.out; have hnb145 := NB638_631.out; have hnc145 := NB631_638.out; obtain ⟨hcz146_0, hcz146_1, hfz146_0, hfz146_1⟩ := kc2 BK638.out; have hnb147 := NB630_631.out; have hnc147 := NB631_630.out; obtain ⟨hcz148_0, hcz148_1, hfz148_0, hfz148_1⟩ := kc2 BK630.out; obtain ⟨hcz149_0, hcz149_1, hfz149_0, hfz149_1⟩ := kc2 BK631.out))
               repeat (go_quiet (fail); try go_wp2_with (fail))
               go_roundg k1
               case measure => have := HK1.out; omega
               case rel => exact ⟨((((rd_T53 l0_0 x10_1).f0.f0) == t625)), (true), (true), ((((rd_T53 l0_0 x10_1).f0.f1) == t628)), (wrap64 (x10_1 + 1)), (by first | rfl | (simp; done) | (simp [*]; done)), (by first | rfl | (simp; done) | (simp [*]; done)), (by first | rfl | (simp; done) | (simp [*]; done)), (by first | rfl | (simp; done) | (simp [*]; done)), (by first | rfl | (simp; done) | (simp [*]; done)), H', ⟨by have := HK1.out; omega⟩, ⟨by (with_reducible repeat first | apply kN | apply kD | apply kA); refine blk_far ?_ NB610_638.out _; (with_reducible repeat first | apply kN | apply kD | apply kA); refine blk_far ?_ NB610_638.out _; (with_reducible repeat first | apply kN | apply kD | apply kA); exact BK610.out⟩, ⟨by (with_reducible repeat first | apply kN | apply kD | apply kA); refine blk_far ?_ NB630_638.out _; (with_reducible repeat first | apply kN | apply kD | apply kA); refine blk_far ?_ NB630_638.out _; (with_reducible repeat first | apply kN | apply kD | apply kA); exact BK630.out⟩, ⟨by (with_reducible repeat first | apply kN | apply kD | apply kA); refine blk_far ?_ NB631_638.out _; (with_reducible repeat first | apply kN | apply kD | apply kA); refine blk_far ?_ NB631_638.out _; (with_reducible repeat first | apply kN | apply kD | apply kA); exact BK631.out⟩, ⟨by repeat with_reducible first | exact HB.out | apply bA | apply bN | apply bD | refine bS ?_ GE610.out | refine bS ?_ GE630.out | refine bS ?_ GE631.out | refine bS ?_ GE638.out⟩⟩
             ·
              replace c126 := Bool.eq_false_iff.mpr c126
              subst c126
              have H1 : (if x9_1 = true then (dancestudiolaw43_FloorBox.l0 k1 (((rd_T53 l0_0 x10_1).f0.f0) == t625) true (((rd_T53 l0_0 x10_1).f0.f1) == t626) true (wrap64 (x10_1 + 1)) l0_0 l0_1 t625 t626 t627 t628) else (dancestudiolaw43_FloorBox.l0 k1 (((rd_T53 l0_0 x10_1).f0.f0) == t625) true (((rd_T53 l0_0 x10_1).f0.f1) == t626) (((rd_T53 l0_0 x10_1).f0.f1) == t628) (wrap64 (x10_1 + 1)) l0_0 l0_1 t625 t626 t627 t628)) = some r := by rw [if_neg (show ¬ (false = true) by decide)] at H; exact H
              clear H
              have H := H1
              clear H1
              by_cases c150 : x9_1 = true
              ·
               subst c150
               have H1 : (dancestudiolaw43_FloorBox.l0 k1 (((rd_T53 l0_0 x10_1).f0.f0) == t625) true (((rd_T53 l0_0 x10_1).f0.f1) == t626) true (wrap64 (x10_1 + 1)) l0_0 l0_1 t625 t626 t627 t628) = some r := by rw [if_pos rfl] at H; exact H
               clear H
               have H := H1
               clear H1
               have H' := Aside0.mk H
               clear H
               have hnb151 := NB610_630.out
               have hnc151 := NB630_610.out
               have hnb152 := NB610_631.out
               have hnc152 := NB631_610.out
               have hcz153_0 : wr.cell? ⟨gb610, 0, none⟩ = some (.slice A0_0 l0_0.length c0_0) := (blk_cell BK610.out 0).trans rfl
               have hcz153_1 : wr.cell? ⟨gb610, 1, none⟩ = some (.slice A0_1 l0_1.length c0_1) := (blk_cell BK610.out 1).trans rfl
               have hfz153_0 := blk_frozen BK610.out 0
               have hfz153_1 := blk_frozen BK610.out 1
               have p637 : 0 ≤ (x10_1 : Int) := of_decide_eq_true (by first | (with_reducible assumption) | assumption)
               have q637 : x10_1 < (l0_0.length : Int) := of_decide_eq_true (by first | (with_reducible assumption) | assumption)
               obtain ⟨ad637, e637, hx637_0, hx637_1, _, _, _, _, _, _, _, _, _, _, _, _, _, _, _, _, _, _, _, _⟩ := at_T53 HR0_0.out x10_1 p637 q637
               cases e637
               replace hx637_0 := cb HB.out hx637_0
               replace hx637_1 := cb HB.out hx637_1
               replace p637 := eq_true p637
               replace q637 := eq_true q637
               go_wp2_with (first | ((with_reducible refine gate_dst (N := 11) rfl ?_); refine box_event ?hg (N := 11) ?hd (cs := #[.int .i64 0, .int .i64 0]) (t := 35) ?hr ?_; (case hd => rfl); (case hg => rfl); (case hr => first | (go_simp; done) | (go_simp; rfl)); intro gb638 hg w154 hbox hb; have BK638 := Aside0.mk (hbox); have GW638 := Aside0.mk ((by rw [hg]; exact (below_size (by repeat with_reducible first | exact HB.out | apply bA | apply bN | apply bD | refine bS ?_ GE610.out | refine bS ?_ GE630.out | refine bS ?_ GE631.out)) : w.heap.size ≤ gb638)); have GE638 := GW638; replace HB := Aside0.mk (below_step (by repeat with_reducible first | exact HB.out | apply bA | apply bN | apply bD | refine bS ?_ GE610.out | refine bS ?_ GE630.out | refine bS ?_ GE631.out) hb); have NB610_638 := Aside0.mk ((by rw [hg]; exact Nat.ne_of_lt (blk_lt (by with_reducible repeat first | exact BK610.out | apply kN | apply kD | apply kA)) : gb610 ≠ gb638)); have NB638_610 := Aside0.mk ((by rw [hg]; exact Nat.ne_of_gt (blk_lt (by with_reducible repeat first | exact BK610.out | apply kN | apply kD | apply kA)) : gb638 ≠ gb610)); replace BK610 := Aside0.mk (blk_below (o := .cells #[.slice (some ad637) l0_0.length c0_0, .slice A0_1 l0_1.length c0_1] 25 (0, 0)) (by with_reducible repeat first | exact BK610.out | apply kN | apply kD | apply kA) hb); have NB630_638 := Aside0.mk ((by rw [hg]; exact Nat.ne_of_lt (blk_lt (by with_reducible repeat first | exact BK630.out | apply kN | apply kD | apply kA)) : gb630 ≠ gb638)); have NB638_630 := Aside0.mk ((by rw [hg]; exact Nat.ne_of_gt (blk_lt (by with_reducible repeat first | exact BK630.out | apply kN | apply kD | apply kA)) : gb638 ≠ gb630)); replace BK630 := Aside0.mk (blk_below (o := .cells #[.int .i64 t625, .int .i64 t626] 35 (0, 0)) (by with_reducible repeat first | exact BK630.out | apply kN | apply kD | apply kA) hb); have NB631_638 := Aside0.mk ((by rw [hg]; exact Nat.ne_of_lt (blk_lt (by with_reducible repeat first | exact BK631.out | apply kN | apply kD | apply kA)) : gb631 ≠ gb638)); have NB638_631 := Aside0.mk ((by rw [hg]; exact Nat.ne_of_gt (blk_lt (by with_reducible repeat first | exact BK631.out | apply kN | apply kD | apply kA)) : gb638 ≠ gb631)); replace BK631 := Aside0.mk (blk_below (o := .cells #[.int .i64 t627, .int .i64 t628] 35 (0, 0)) (by with_reducible repeat first | exact BK631.out | apply kN | apply kD | apply kA) hb); clear hb hbox hg; have hnb155 := NB638_610.out; have hnc155 := NB610_638.out; have hnb156 := NB638_630.out; have hnc156 := NB630_638.out; have hnb157 := NB638_631.out; have hnc157 := NB631_638.out; obtain ⟨hcz158_0, hcz158_1, hfz158_0, hfz158_1⟩ := kc2 BK638.out; have hnb159 := NB630_631.out; have hnc159 := NB631_630.out; obtain ⟨hcz160_0, hcz160_1, hfz160_0, hfz160_1⟩ := kc2 BK630.out; obtain ⟨hcz161_0, hcz161_1, hfz161_0, hfz161_1⟩ := kc2 BK631.out))
               repeat (go_quiet (fail); try go_wp2_with (fail))
               go_roundg k1
               case measure => have := HK1.out; omega
               case rel => exact ⟨((((rd_T53 l0_0 x10_1).f0.f0) == t625)), (true), ((((rd_T53 l0_0 x10_1).f0.f1) == t626)), (true), (wrap64 (x10_1 + 1)), (by first | rfl | (simp; done) | (simp [*]; done)), (by first | rfl | (simp; done) | (simp [*]; done)), (by first | rfl | (simp; done) | (simp [*]; done)), (by first | rfl | (simp; done) | (simp [*]; done)), (by first | rfl | (simp; done) | (simp [*]; done)), H', ⟨by have := HK1.out; omega⟩, ⟨by (with_reducible repeat first | apply kN | apply kD | apply kA); refine blk_far ?_ NB610_638.out _; (with_reducible repeat first | apply kN | apply kD | apply kA); refine blk_far ?_ NB610_638.out _; (with_reducible repeat first | apply kN | apply kD | apply kA); exact BK610.out⟩, ⟨by (with_reducible repeat first | apply kN | apply kD | apply kA); refine blk_far ?_ NB630_638.out _; (with_reducible repeat first | apply kN | apply kD | apply kA); refine blk_far ?_ NB630_638.out _; (with_reducible repeat first | apply kN | apply kD | apply kA); exact BK630.out⟩, ⟨by (with_reducible repeat first | apply kN | apply kD | apply kA); refine blk_far ?_ NB631_638.out _; (with_reducible repeat first | apply kN | apply kD | apply kA); refine blk_far ?_ NB631_638.out _; (with_reducible repeat first | apply kN | apply kD | apply kA); exact BK631.out⟩, ⟨by repeat with_reducible first | exact HB.out | apply bA | apply bN | apply bD | refine bS ?_ GE610.out | refine bS ?_ GE630.out | refine bS ?_ GE631.out | refine bS ?_ GE638.out⟩⟩
              ·
               replace c150 := Bool.eq_false_iff.mpr c150
               subst c150
               have H1 : (dancestudiolaw43_FloorBox.l0 k1 (((rd_T53 l0_0 x10_1).f0.f0) == t625) true (((rd_T53 l0_0 x10_1).f0.f1) == t626) (((rd_T53 l0_0 x10_1).f0.f1) == t628) (wrap64 (x10_1 + 1)) l0_0 l0_1 t625 t626 t627 t628) = some r := by rw [if_neg (show ¬ (false = true) by decide)] at H; exact H
               clear H
               have H := H1
               clear H1
               have H' := Aside0.mk H
               clear H
               have hnb162 := NB610_630.out
               have hnc162 := NB630_610.out
               have hnb163 := NB610_631.out
               have hnc163 := NB631_610.out
               have hcz164_0 : wr.cell? ⟨gb610, 0, none⟩ = some (.slice A0_0 l0_0.length c0_0) := (blk_cell BK610.out 0).trans rfl
               have hcz164_1 : wr.cell? ⟨gb610, 1, none⟩ = some (.slice A0_1 l0_1.length c0_1) := (blk_cell BK610.out 1).trans rfl
               have hfz164_0 := blk_frozen BK610.out 0
               have hfz164_1 := blk_frozen BK610.out 1
               have p637 : 0 ≤ (x10_1 : Int) := of_decide_eq_true (by first | (with_reducible assumption) | assumption)
               have q637 : x10_1 < (l0_0.length : Int) := of_decide_eq_true (by first | (with_reducible assumption) | assumption)
               obtain ⟨ad637, e637, hx637_0, hx637_1, _, _, _, _, _, _, _, _, _, _, _, _, _, _, _, _, _, _, _, _⟩ := at_T53 HR0_0.out x10_1 p637 q637
               cases e637
               replace hx637_0 := cb HB.out hx637_0
               replace hx637_1 := cb HB.out hx637_1
               replace p637 := eq_true p637
               replace q637 := eq_true q637
               go_wp2_with (first | ((with_reducible refine gate_dst (N := 11) rfl ?_); refine box_event ?hg (N := 11) ?hd (cs := #[.int .i64 0, .int .i64 0]) (t := 35) ?hr ?_; (case hd => rfl); (case hg => rfl); (case hr => first | (go_simp; done) | (go_simp; rfl)); intro gb638 hg w165 hbox hb; have BK638 := Aside0.mk (hbox); have GW638 := Aside0.mk ((by rw [hg]; exact (below_size (by repeat with_reducible first | exact HB.out | apply bA | apply bN | apply bD | refine bS ?_ GE610.out | refine bS ?_ GE630.out | refine bS ?_ GE631.out)) : w.heap.size ≤ gb638)); have GE638 := GW638; replace HB := Aside0.mk (below_step (by repeat with_reducible first | exact HB.out | apply bA | apply bN | apply bD | refine bS ?_ GE610.out | refine bS ?_ GE630.out | refine bS ?_ GE631.out) hb); have NB610_638 := Aside0.mk ((by rw [hg]; exact Nat.ne_of_lt (blk_lt (by with_reducible repeat first | exact BK610.out | apply kN | apply kD | apply kA)) : gb610 ≠ gb638)); have NB638_610 := Aside0.mk ((by rw [hg]; exact Nat.ne_of_gt (blk_lt (by with_reducible repeat first | exact BK610.out | apply kN | apply kD | apply kA)) : gb638 ≠ gb610)); replace BK610 := Aside0.mk (blk_below (o := .cells #[.slice (some ad637) l0_0.length c0_0, .slice A0_1 l0_1.length c0_1] 25 (0, 0)) (by with_reducible repeat first | exact BK610.out | apply kN | apply kD | apply kA) hb); have NB630_638 := Aside0.mk ((by rw [hg]; exact Nat.ne_of_lt (blk_lt (by with_reducible repeat first | exact BK630.out | apply kN | apply kD | apply kA)) : gb630 ≠ gb638)); have NB638_630 := Aside0.mk ((by rw [hg]; exact Nat.ne_of_gt (blk_lt (by with_reducible repeat first | exact BK630.out | apply kN | apply kD | apply kA)) : gb638 ≠ gb630)); replace BK630 := Aside0.mk (blk_below (o := .cells #[.int .i64 t625, .int .i64 t626] 35 (0, 0)) (by with_reducible repeat first | exact BK630.out | apply kN | apply kD | apply kA) hb); have NB631_638 := Aside0.mk ((by rw [hg]; exact Nat.ne_of_lt (blk_lt (by with_reducible repeat first | exact BK631.out | apply kN | apply kD | apply kA)) : gb631 ≠ gb638)); have NB638_631 := Aside0.mk ((by rw [hg]; exact Nat.ne_of_gt (blk_lt (by with_reducible repeat first | exact BK631.out | apply kN | apply kD | apply kA)) : gb638 ≠ gb631)); replace BK631 := Aside0.mk (blk_below (o := .cells #[.int .i64 t627, .int .i64 t628] 35 (0, 0)) (by with_reducible repeat first | exact BK631.out | apply kN | apply kD | apply kA) hb); clear hb hbox hg; have hnb166 := NB638_610.out; have hnc166 := NB610_638.out; have hnb167 := NB638_630.out; have hnc167 := NB630_638.out; have hnb168 := NB638_631.out; have hnc168 := NB631_638.out; obtain ⟨hcz169_0, hcz169_1, hfz169_0, hfz169_1⟩ := kc2 BK638.out; have hnb170 := NB630_631.out; have hnc170 := NB631_630.out; obtain ⟨hcz171_0, hcz171_1, hfz171_0, hfz171_1⟩ := kc2 BK630.out; obtain ⟨hcz172_0, hcz172_1, hfz172_0, hfz172_1⟩ := kc2 BK631.out))
               repeat (go_quiet (fail); try go_wp2_with (fail))
               go_roundg k1
               case measure => have := HK1.out; omega
               case rel => exact ⟨((((rd_T53 l0_0 x10_1).f0.f0) == t625)), (true), ((((rd_T53 l0_0 x10_1).f0.f1) == t626)), ((((rd_T53 l0_0 x10_1).f0.f1) == t628)), (wrap64 (x10_1 + 1)), (by first | rfl | (simp; done) | (simp [*]; done)), (by first | rfl | (simp; done) | (simp [*]; done)), (by first | rfl | (simp; done) | (simp [*]; done)), (by first | rfl | (simp; done) | (simp [*]; done)), (by first | rfl | (simp; done) | (simp [*]; done)), H', ⟨by have := HK1.out; omega⟩, ⟨by (with_reducible repeat first | apply kN | apply kD | apply kA); refine blk_far ?_ NB610_638.out _; (with_reducible repeat first | apply kN | apply kD | apply kA); refine blk_far ?_ NB610_638.out _; (with_reducible repeat first | apply kN | apply kD | apply kA); exact BK610.out⟩, ⟨by (with_reducible repeat first | apply kN | apply kD | apply kA); refine blk_far ?_ NB630_638.out _; (with_reducible repeat first | apply kN | apply kD | apply kA); refine blk_far ?_ NB630_638.out _; (with_reducible repeat first | apply kN | apply kD | apply kA); exact BK630.out⟩, ⟨by (with_reducible repeat first | apply kN | apply kD | apply kA); refine blk_far ?_ NB631_638.out _; (with_reducible repeat first | apply kN | apply kD | apply kA); refine blk_far ?_ NB631_638.out _; (with_reducible repeat first | apply kN | apply kD | apply kA); exact BK631.out⟩, ⟨by repeat with_reducible first | exact HB.out | apply bA | apply bN | apply bD | refine bS ?_ GE610.out | refine bS ?_ GE630.out | refine bS ?_ GE631.out | refine bS ?_ GE638.out⟩⟩
            ·
             replace c125 := Bool.eq_false_iff.mpr c125
             subst c125
             have H1 : (if x8_1 = true then (if x9_1 = true then (dancestudiolaw43_FloorBox.l0 k1 (((rd_T53 l0_0 x10_1).f0.f0) == t625) (((rd_T53 l0_0 x10_1).f0.f0) == t627) true true (wrap64 (x10_1 + 1)) l0_0 l0_1 t625 t626 t627 t628) else (dancestudiolaw43_FloorBox.l0 k1 (((rd_T53 l0_0 x10_1).f0.f0) == t625) (((rd_T53 l0_0 x10_1).f0.f0) == t627) true (((rd_T53 l0_0 x10_1).f0.f1) == t628) (wrap64 (x10_1 + 1)) l0_0 l0_1 t625 t626 t627 t628)) else (if x9_1 = true then (dancestudiolaw43_FloorBox.l0 k1 (((rd_T53 l0_0 x10_1).f0.f0) == t625) (((rd_T53 l0_0 x10_1).f0.f0) == t627) (((rd_T53 l0_0 x10_1).f0.f1) == t626) true (wrap64 (x10_1 + 1)) l0_0 l0_1 t625 t626 t627 t628) else (dancestudiolaw43_FloorBox.l0 k1 (((rd_T53 l0_0 x10_1).f0.f0) == t625) (((rd_T53 l0_0 x10_1).f0.f0) == t627) (((rd_T53 l0_0 x10_1).f0.f1) == t626) (((rd_T53 l0_0 x10_1).f0.f1) == t628) (wrap64 (x10_1 + 1)) l0_0 l0_1 t625 t626 t627 t628))) = some r := by rw [if_neg (show ¬ (false = true) by decide)] at H; exact H
             clear H
             have H := H1
             clear H1
             by_cases c173 : x8_1 = true
             ·
              subst c173
              have H1 : (if x9_1 = true then (dancestudiolaw43_FloorBox.l0 k1 (((rd_T53 l0_0 x10_1).f0.f0) == t625) (((rd_T53 l0_0 x10_1).f0.f0) == t627) true true (wrap64 (x10_1 + 1)) l0_0 l0_1 t625 t626 t627 t628) else (dancestudiolaw43_FloorBox.l0 k1 (((rd_T53 l0_0 x10_1).f0.f0) == t625) (((rd_T53 l0_0 x10_1).f0.f0) == t627) true (((rd_T53 l0_0 x10_1).f0.f1) == t628) (wrap64 (x10_1 + 1)) l0_0 l0_1 t625 t626 t627 t628)) = some r := by rw [if_pos rfl] at H; exact H
              clear H
              have H := H1
              clear H1
              by_cases c174 : x9_1 = true
              ·
               subst c174
               have H1 : (dancestudiolaw43_FloorBox.l0 k1 (((rd_T53 l0_0 x10_1).f0.f0) == t625) (((rd_T53 l0_0 x10_1).f0.f0) == t627) true true (wrap64 (x10_1 + 1)) l0_0 l0_1 t625 t626 t627 t628) = some r := by rw [if_pos rfl] at H; exact H
               clear H
               have H := H1
               clear H1
               have H' := Aside0.mk H
               clear H
               have hnb175 := NB610_630.out
               have hnc175 := NB630_610.out
               have hnb176 := NB610_631.out
               have hnc176 := NB631_610.out
               have hcz177_0 : wr.cell? ⟨gb610, 0, none⟩ = some (.slice A0_0 l0_0.length c0_0) := (blk_cell BK610.out 0).trans rfl
               have hcz177_1 : wr.cell? ⟨gb610, 1, none⟩ = some (.slice A0_1 l0_1.length c0_1) := (blk_cell BK610.out 1).trans rfl
               have hfz177_0 := blk_frozen BK610.out 0
               have hfz177_1 := blk_frozen BK610.out 1
               have p637 : 0 ≤ (x10_1 : Int) := of_decide_eq_true (by first | (with_reducible assumption) | assumption)
               have q637 : x10_1 < (l0_0.length : Int) := of_decide_eq_true (by first | (with_reducible assumption) | assumption)
               obtain ⟨ad637, e637, hx637_0, hx637_1, _, _, _, _, _, _, _, _, _, _, _, _, _, _, _, _, _, _, _, _⟩ := at_T53 HR0_0.out x10_1 p637 q637
               cases e637
               replace hx637_0 := cb HB.out hx637_0
               replace hx637_1 := cb HB.out hx637_1
               replace p637 := eq_true p637
               replace q637 := eq_true q637
               go_wp2_with (first | ((with_reducible refine gate_dst (N := 11) rfl ?_); refine box_event ?hg (N := 11) ?hd (cs := #[.int .i64 0, .int .i64 0]) (t := 35) ?hr ?_; (case hd => rfl); (case hg => rfl); (case hr => first | (go_simp; done) | (go_simp; rfl)); intro gb638 hg w178 hbox hb; have BK638 := Aside0.mk (hbox); have GW638 := Aside0.mk ((by rw [hg]; exact (below_size (by repeat with_reducible first | exact HB.out | apply bA | apply bN | apply bD | refine bS ?_ GE610.out | refine bS ?_ GE630.out | refine bS ?_ GE631.out)) : w.heap.size ≤ gb638)); have GE638 := GW638; replace HB := Aside0.mk (below_step (by repeat with_reducible first | exact HB.out | apply bA | apply bN | apply bD | refine bS ?_ GE610.out | refine bS ?_ GE630.out | refine bS ?_ GE631.out) hb); have NB610_638 := Aside0.mk ((by rw [hg]; exact Nat.ne_of_lt (blk_lt (by with_reducible repeat first | exact BK610.out | apply kN | apply kD | apply kA)) : gb610 ≠ gb638)); have NB638_610 := Aside0.mk ((by rw [hg]; exact Nat.ne_of_gt (blk_lt (by with_reducible repeat first | exact BK610.out | apply kN | apply kD | apply kA)) : gb638 ≠ gb610)); replace BK610 := Aside0.mk (blk_below (o := .cells #[.slice (some ad637) l0_0.length c0_0, .slice A0_1 l0_1.length c0_1] 25 (0, 0)) (by with_reducible repeat first | exact BK610.out | apply kN | apply kD | apply kA) hb); have NB630_638 := Aside0.mk ((by rw [hg]; exact Nat.ne_of_lt (blk_lt (by with_reducible repeat first | exact BK630.out | apply kN | apply kD | apply kA)) : gb630 ≠ gb638)); have NB638_630 := Aside0.mk ((by rw [hg]; exact Nat.ne_of_gt (blk_lt (by with_reducible repeat first | exact BK630.out | apply kN | apply kD | apply kA)) : gb638 ≠ gb630)); replace BK630 := Aside0.mk (blk_below (o := .cells #[.int .i64 t625, .int .i64 t626] 35 (0, 0)) (by with_reducible repeat first | exact BK630.out | apply kN | apply kD | apply kA) hb); have NB631_638 := Aside0.mk ((by rw [hg]; exact Nat.ne_of_lt (blk_lt (by with_reducible repeat first | exact BK631.out | apply kN | apply kD | apply kA)) : gb631 ≠ gb638)); have NB638_631 := Aside0.mk ((by rw [hg]; exact Nat.ne_of_gt (blk_lt (by with_reducible repeat first | exact BK631.out | apply kN | apply kD | apply kA)) : gb638 ≠ gb631)); replace BK631 := Aside0.mk (blk_below (o := .cells #[.int .i64 t627, .int .i64 t628] 35 (0, 0)) (by with_reducible repeat first | exact BK631.out | apply kN | apply kD | apply kA) hb); clear hb hbox hg; have hnb179 := NB638_610.out; have hnc179 := NB610_638.out; have hnb180 := NB638_630.out; have hnc180 := NB630_638.out; have hnb181 := NB638_631.out; have hnc181 := NB631_638.out; obtain ⟨hcz182_0, hcz182_1, hfz182_0, hfz182_1⟩ := kc2 BK638.out; have hnb183 := NB630_631.out; have hnc183 := NB631_630.out; obtain ⟨hcz184_0, hcz184_1, hfz184_0, hfz184_1⟩ := kc2 BK630.out; obtain ⟨hcz185_0, hcz185_1, hfz185_0, hfz185_1⟩ := kc2 BK631.out))
               repeat (go_quiet (fail); try go_wp2_with (fail))
               go_roundg k1
               case measure => have := HK1.out; omega
               case rel => exact ⟨((((rd_T53 l0_0 x10_1).f0.f0) == t625)), ((((rd_T53 l0_0 x10_1).f0.f0) == t627)), (true), (true), (wrap64 (x10_1 + 1)), (by first | rfl | (simp; done) | (simp [*]; done)), (by first | rfl | (simp; done) | (simp [*]; done)), (by first | rfl | (simp; done) | (simp [*]; done)), (by first | rfl | (simp; done) | (simp [*]; done)), (by first | rfl | (simp; done) | (simp [*]; done)), H', ⟨by have := HK1.out; omega⟩, ⟨by (with_reducible repeat first | apply kN | apply kD | apply kA); refine blk_far ?_ NB610_638.out _; (with_reducible repeat first | apply kN | apply kD | apply kA); refine blk_far ?_ NB610_638.out _; (with_reducible repeat first | apply kN | apply kD | apply kA); exact BK610.out⟩, ⟨by (with_reducible repeat first | apply kN | apply kD | apply kA); refine blk_far ?_ NB630_638.out _; (with_reducible repeat first | apply kN | apply kD | apply kA); refine blk_far ?_ NB630_638.out _; (with_reducible repeat first | apply kN | apply kD | apply kA); exact BK630.out⟩, ⟨by (with_reducible repeat first | apply kN | apply kD | apply kA); refine blk_far ?_ NB631_638.out _; (with_reducible repeat first | apply kN | apply kD | apply kA); refine blk_far ?_ NB631_638.out _; (with_reducible repeat first | apply kN | apply kD | apply kA); exact BK631.out⟩, ⟨by repeat with_reducible first | exact HB.out | apply bA | apply bN | apply bD | refine bS ?_ GE610.out | refine bS ?_ GE630.out | refine bS ?_ GE631.out | refine bS ?_ GE638.out⟩⟩
              ·
               replace c174 := Bool.eq_false_iff.mpr c174
               subst c174
               have H1 : (dancestudiolaw43_FloorBox.l0 k1 (((rd_T53 l0_0 x10_1).f0.f0) == t625) (((rd_T53 l0_0 x10_1).f0.f0) == t627) true (((rd_T53 l0_0 x10_1).f0.f1) == t628) (wrap64 (x10_1 + 1)) l0_0 l0_1 t625 t626 t627 t628) = some r := by rw [if_neg (show ¬ (false = true) by decide)] at H; exact H
               clear H
               have H := H1
               clear H1
               have H' := Aside0.mk H
               clear H
               have hnb186 := NB610_630.out
               have hnc186 := NB630_610.out
               have hnb187 := NB610_631.out
               have hnc187 := NB631_610.out
               have hcz188_0 : wr.cell? ⟨gb610, 0, none⟩ = some (.slice A0_0 l0_0.length c0_0) := (blk_cell BK610.out 0).trans rfl
               have hcz188_1 : wr.cell? ⟨gb610, 1, none⟩ = some (.slice A0_1 l0_1.length c0_1) := (blk_cell BK610.out 1).trans rfl
               have hfz188_0 := blk_frozen BK610.out 0
               have hfz188_1 := blk_frozen BK610.out 1
               have p637 : 0 ≤ (x10_1 : Int) := of_decide_eq_true (by first | (with_reducible assumption) | assumption)
               have q637 : x10_1 < (l0_0.length : Int) := of_decide_eq_true (by first | (with_reducible assumption) | assumption)
               obtain ⟨ad637, e637, hx637_0, hx637_1, _, _, _, _, _, _, _, _, _, _, _, _, _, _, _, _, _, _, _, _⟩ := at_T53 HR0_0.out x10_1 p637 q637
               cases e637
               replace hx637_0 := cb HB.out hx637_0
               replace hx637_1 := cb HB.out hx637_1
               replace p637 := eq_true p637
               replace q637 := eq_true q637
               go_wp2_with (first | ((with_reducible refine gate_dst (N := 11) rfl ?_); refine box_event ?hg (N := 11) ?hd (cs := #[.int .i64 0, .int .i64 0]) (t := 35) ?hr ?_; (case hd => rfl); (case hg => rfl); (case hr => first | (go_simp; done) | (go_simp; rfl)); intro gb638 hg w189 hbox hb; have BK638 := Aside0.mk (hbox); have GW638 := Aside0.mk ((by rw [hg]; exact (below_size (by repeat with_reducible first | exact HB.out | apply bA | apply bN | apply bD | refine bS ?_ GE610.out | refine bS ?_ GE630.out | refine bS ?_ GE631.out)) : w.heap.size ≤ gb638)); have GE638 := GW638; replace HB := Aside0.mk (below_step (by repeat with_reducible first | exact HB.out | apply bA | apply bN | apply bD | refine bS ?_ GE610.out | refine bS ?_ GE630.out | refine bS ?_ GE631.out) hb); have NB610_638 := Aside0.mk ((by rw [hg]; exact Nat.ne_of_lt (blk_lt (by with_reducible repeat first | exact BK610.out | apply kN | apply kD | apply kA)) : gb610 ≠ gb638)); have NB638_610 := Aside0.mk ((by rw [hg]; exact Nat.ne_of_gt (blk_lt (by with_reducible repeat first | exact BK610.out | apply kN | apply kD | apply kA)) : gb638 ≠ gb610)); replace BK610 := Aside0.mk (blk_below (o := .cells #[.slice (some ad637) l0_0.length c0_0, .slice A0_1 l0_1.length c0_1] 25 (0, 0)) (by with_reducible repeat first | exact BK610.out | apply kN | apply kD | apply kA) hb); have NB630_638 := Aside0.mk ((by rw [hg]; exact Nat.ne_of_lt (blk_lt (by with_reducible repeat first | exact BK630.out | apply kN | apply kD | apply kA)) : gb630 ≠ gb638)); have NB638_630 := Aside0.mk ((by rw [hg]; exact Nat.ne_of_gt (blk_lt (by with_reducible repeat first | exact BK630.out | apply kN | apply kD | apply kA)) : gb638 ≠ gb630)); replace BK630 := Aside0.mk (blk_below (o := .cells #[.int .i64 t625, .int .i64 t626] 35 (0, 0)) (by with_reducible repeat first | exact BK630.out | apply kN | apply kD | apply kA) hb); have NB631_638 := Aside0.mk ((by rw [hg]; exact Nat.ne_of_lt (blk_lt (by with_reducible repeat first | exact BK631.out | apply kN | apply kD | apply kA)) : gb631 ≠ gb638)); have NB638_631 := Aside0.mk ((by rw [hg]; exact Nat.ne_of_gt (blk_lt (by with_reducible repeat first | exact BK631.out | apply kN | apply kD | apply kA)) : gb638 ≠ gb631)); replace BK631 := Aside0.mk (blk_below (o := .cells #[.int .i64 t627, .int .i64 t628] 35 (0, 0)) (by with_reducible repeat first | exact BK631.out | apply kN | apply kD | apply kA) hb); clear hb hbox hg; have hnb190 := NB638_610.out; have hnc190 := NB610_638.out; have hnb191 := NB638_630.out; have hnc191 := NB630_638.out; have hnb192 := NB638_631.out; have hnc192 := NB631_638.out; obtain ⟨hcz193_0, hcz193_1, hfz193_0, hfz193_1⟩ := kc2 BK638.out; have hnb194 := NB630_631.out; have hnc194 := NB631_630.out; obtain ⟨hcz195_0, hcz195_1, hfz195_0, hfz195_1⟩ := kc2 BK630.out; obtain ⟨hcz196_0, hcz196_1, hfz196_0, hfz196_1⟩ := kc2 BK631.out))
               repeat (go_quiet (fail); try go_wp2_with (fail))
               go_roundg k1
               case measure => have := HK1.out; omega
               case rel => exact ⟨((((rd_T53 l0_0 x10_1).f0.f0) == t625)), ((((rd_T53 l0_0 x10_1).f0.f0) == t627)), (true), ((((rd_T53 l0_0 x10_1).f0.f1) == t628)), (wrap64 (x10_1 + 1)), (by first | rfl | (simp; done) | (simp [*]; done)), (by first | rfl | (simp; done) | (simp [*]; done)), (by first | rfl | (simp; done) | (simp [*]; done)), (by first | rfl | (simp; done) | (simp [*]; done)), (by first | rfl | (simp; done) | (simp [*]; done)), H', ⟨by have := HK1.out; omega⟩, ⟨by (with_reducible repeat first | apply kN | apply kD | apply kA); refine blk_far ?_ NB610_638.out _; (with_reducible repeat first | apply kN | apply kD | apply kA); refine blk_far ?_ NB610_638.out _; (with_reducible repeat first | apply kN | apply kD | apply kA); exact BK610.out⟩, ⟨by (with_reducible repeat first | apply kN | apply kD | apply kA); refine blk_far ?_ NB630_638.out _; (with_reducible repeat first | apply kN | apply kD | apply kA); refine blk_far ?_ NB630_638.out _; (with_reducible repeat first | apply kN | apply kD | apply kA); exact BK630.out⟩, ⟨by (with_reducible repeat first | apply kN | apply kD | apply kA); refine blk_far ?_ NB631_638.out _; (with_reducible repeat first | apply kN | apply kD | apply kA); refine blk_far ?_ NB631_638.out _; (with_reducible repeat first | apply kN | apply kD | apply kA); exact BK631.out⟩, ⟨by repeat with_reducible first | exact HB.out | apply bA | apply bN | apply bD | refine bS ?_ GE610.out | refine bS ?_ GE630.out | refine bS ?_ GE631.out | refine bS ?_ GE638.out⟩⟩
             ·
              replace c173 := Bool.eq_false_iff.mpr c173
              subst c173
              have H1 : (if x9_1 = true then (dancestudiolaw43_FloorBox.l0 k1 (((rd_T53 l0_0 x10_1).f0.f0) == t625) (((rd_T53 l0_0 x10_1).f0.f0) == t627) (((rd_T53 l0_0 x10_1).f0.f1) == t626) true (wrap64 (x10_1 + 1)) l0_0 l0_1 t625 t626 t627 t628) else (dancestudiolaw43_FloorBox.l0 k1 (((rd_T53 l0_0 x10_1).f0.f0) == t625) (((rd_T53 l0_0 x10_1).f0.f0) == t627) (((rd_T53 l0_0 x10_1).f0.f1) == t626) (((rd_T53 l0_0 x10_1).f0.f1) == t628) (wrap64 (x10_1 + 1)) l0_0 l0_1 t625 t626 t627 t628)) = some r := by rw [if_neg (show ¬ (false = true) by decide)] at H; exact H
              clear H
              have H := H1
              clear H1
              by_cases c197 : x9_1 = true
              ·
               subst c197
               have H1 : (dancestudiolaw43_FloorBox.l0 k1 (((rd_T53 l0_0 x10_1).f0.f0) == t625) (((rd_T53 l0_0 x10_1).f0.f0) == t627) (((rd_T53 l0_0 x10_1).f0.f1) == t626) true (wrap64 (x10_1 + 1)) l0_0 l0_1 t625 t626 t627 t628) = some r := by rw [if_pos rfl] at H; exact H
               clear H
               have H := H1
               clear H1
               have H' := Aside0.mk H
               clear H
               have hnb198 := NB610_630.out
               have hnc198 := NB630_610.out
               have hnb199 := NB610_631.out
               have hnc199 := NB631_610.out
               have hcz200_0 : wr.cell? ⟨gb610, 0, none⟩ = some (.slice A0_0 l0_0.length c0_0) := (blk_cell BK610.out 0).trans rfl
               have hcz200_1 : wr.cell? ⟨gb610, 1, none⟩ = some (.slice A0_1 l0_1.length c0_1) := (blk_cell BK610.out 1).trans rfl
               have hfz200_0 := blk_frozen BK610.out 0
               have hfz200_1 := blk_frozen BK610.out 1
               have p637 : 0 ≤ (x10_1 : Int) := of_decide_eq_true (by first | (with_reducible assumption) | assumption)
               have q637 : x10_1 < (l0_0.length : Int) := of_decide_eq_true (by first | (with_reducible assumption) | assumption)
               obtain ⟨ad637, e637, hx637_0, hx637_1, _, _, _, _, _, _, _, _, _, _, _, _, _, _, _, _, _, _, _, _⟩ := at_T53 HR0_0.out x10_1 p637 q637
               cases e637
               replace hx637_0 := cb HB.out hx637_0
               replace hx637_1 := cb HB.out hx637_1
               replace p637 := eq_true p637
               replace q637 := eq_true q637
               go_wp2_with (first | ((with_reducible refine gate_dst (N := 11) rfl ?_); refine box_event ?hg (N := 11) ?hd (cs := #[.int .i64 0, .int .i64 0]) (t := 35) ?hr ?_; (case hd => rfl); (case hg => rfl); (case hr => first | (go_simp; done) | (go_simp; rfl)); intro gb638 hg w201 hbox hb; have BK638 := Aside0.mk (hbox); have GW638 := Aside0.mk ((by rw [hg]; exact (below_size (by repeat with_reducible first | exact HB.out | apply bA | apply bN | apply bD | refine bS ?_ GE610.out | refine bS ?_ GE630.out | refine bS ?_ GE631.out)) : w.heap.size ≤ gb638)); have GE638 := GW638; replace HB := Aside0.mk (below_step (by repeat with_reducible first | exact HB.out | apply bA | apply bN | apply bD | refine bS ?_ GE610.out | refine bS ?_ GE630.out | refine bS ?_ GE631.out) hb); have NB610_638 := Aside0.mk ((by rw [hg]; exact Nat.ne_of_lt (blk_lt (by with_reducible repeat first | exact BK610.out | apply kN | apply kD | apply kA)) : gb610 ≠ gb638)); have NB638_610 := Aside0.mk ((by rw [hg]; exact Nat.ne_of_gt (blk_lt (by with_reducible repeat first | exact BK610.out | apply kN | apply kD | apply kA)) : gb638 ≠ gb610)); replace BK610 := Aside0.mk (blk_below (o := .cells #[.slice (some ad637) l0_0.length c0_0, .slice A0_1 l0_1.length c0_1] 25 (0, 0)) (by with_reducible repeat first | exact BK610.out | apply kN | apply kD | apply kA) hb); have NB630_638 := Aside0.mk ((by rw [hg]; exact Nat.ne_of_lt (blk_lt (by with_reducible repeat first | exact BK630.out | apply kN | apply kD | apply kA)) : gb630 ≠ gb638)); have NB638_630 := Aside0.mk ((by rw [hg]; exact Nat.ne_of_gt (blk_lt (by with_reducible repeat first | exact BK630.out | apply kN | apply kD | apply kA)) : gb638 ≠ gb630)); replace BK630 := Aside0.mk (blk_below (o := .cells #[.int .i64 t625, .int .i64 t626] 35 (0, 0)) (by with_reducible repeat first | exact BK630.out | apply kN | apply kD | apply kA) hb); have NB631_638 := Aside0.mk ((by rw [hg]; exact Nat.ne_of_lt (blk_lt (by with_reducible repeat first | exact BK631.out | apply kN | apply kD | apply kA)) : gb631 ≠ gb638)); have NB638_631 := Aside0.mk ((by rw [hg]; exact Nat.ne_of_gt (blk_lt (by with_reducible repeat first | exact BK631.out | apply kN | apply kD | apply kA)) : gb638 ≠ gb631)); replace BK631 := Aside0.mk (blk_below (o := .cells #[.int .i64 t627, .int .i64 t628] 35 (0, 0)) (by with_reducible repeat first | exact BK631.out | apply kN | apply kD | apply kA) hb); clear hb hbox hg; have hnb202 := NB638_610.out; have hnc202 := NB610_638.out; have hnb203 := NB638_630.out; have hnc203 := NB630_638.out; have hnb204 := NB638_631.out; have hnc204 := NB631_638.out; obtain ⟨hcz205_0, hcz205_1, hfz205_0, hfz205_1⟩ := kc2 BK638.out; have hnb206 := NB630_631.out; have hnc206 := NB631_630.out; obtain ⟨hcz207_0, hcz207_1, hfz207_0, hfz207_1⟩ := kc2 BK630.out; obtain ⟨hcz208_0, hcz208_1, hfz208_0, hfz208_1⟩ := kc2 BK631.out))
               repeat (go_quiet (fail); try go_wp2_with (fail))
               go_roundg k1
               case measure => have := HK1.out; omega
               case rel => exact ⟨((((rd_T53 l0_0 x10_1).f0.f0) == t625)), ((((rd_T53 l0_0 x10_1).f0.f0) == t627)), ((((rd_T53 l0_0 x10_1).f0.f1) == t626)), (true), (wrap64 (x10_1 + 1)), (by first | rfl | (simp; done) | (simp [*]; done)), (by first | rfl | (simp; done) | (simp [*]; done)), (by first | rfl | (simp; done) | (simp [*]; done)), (by first | rfl | (simp; done) | (simp [*]; done)), (by first | rfl | (simp; done) | (simp [*]; done)), H', ⟨by have := HK1.out; omega⟩, ⟨by (with_reducible repeat first | apply kN | apply kD | apply kA); refine blk_far ?_ NB610_638.out _; (with_reducible repeat first | apply kN | apply kD | apply kA); refine blk_far ?_ NB610_638.out _; (with_reducible repeat first | apply kN | apply kD | apply kA); exact BK610.out⟩, ⟨by (with_reducible repeat first | apply kN | apply kD | apply kA); refine blk_far ?_ NB630_638.out _; (with_reducible repeat first | apply kN | apply kD | apply kA); refine blk_far ?_ NB630_638.out _; (with_reducible repeat first | apply kN | apply kD | apply kA); exact BK630.out⟩, ⟨by (with_reducible repeat first | apply kN | apply kD | apply kA); refine blk_far ?_ NB631_638.out _; (with_reducible repeat first | apply kN | apply kD | apply kA); refine blk_far ?_ NB631_638.out _; (with_reducible repeat first | apply kN | apply kD | apply kA); exact BK631.out⟩, ⟨by repeat with_reducible first | exact HB.out | apply bA | apply bN | apply bD | refine bS ?_ GE610.out | refine bS ?_ GE630.out | refine bS ?_ GE631.out | refine bS ?_ GE638.out⟩⟩
              ·
               replace c197 := Bool.eq_false_iff.mpr c197
               subst c197
               have H1 : (dancestudiolaw43_FloorBox.l0 k1 (((rd_T53 l0_0 x10_1).f0.f0) == t625) (((rd_T53 l0_0 x10_1).f0.f0) == t627) (((rd_T53 l0_0 x10_1).f0.f1) == t626) (((rd_T53 l0_0 x10_1).f0.f1) == t628) (wrap64 (x10_1 + 1)) l0_0 l0_1 t625 t626 t627 t628) = some r := by rw [if_neg (show ¬ (false = true) by decide)] at H; exact H
               clear H
               have H := H1
               clear H1
               have H' := Aside0.mk H
               clear H
               have hnb209 := NB610_630.out
               have hnc209 := NB630_610.out
               have hnb210 := NB610_631.out
               have hnc210 := NB631_610.out
               have hcz211_0 : wr.cell? ⟨gb610, 0, none⟩ = some (.slice A0_0 l0_0.length c0_0) := (blk_cell BK610.out 0).trans rfl
               have hcz211_1 : wr.cell? ⟨gb610, 1, none⟩ = some (.slice A0_1 l0_1.length c0_1) := (blk_cell BK610.out 1).trans rfl
               have hfz211_0 := blk_frozen BK610.out 0
               have hfz211_1 := blk_frozen BK610.out 1
               have p637 : 0 ≤ (x10_1 : Int) := of_decide_eq_true (by first | (with_reducible assumption) | assumption)
               have q637 : x10_1 < (l0_0.length : Int) := of_decide_eq_true (by first | (with_reducible assumption) | assumption)
               obtain ⟨ad637, e637, hx637_0, hx637_1, _, _, _, _, _, _, _, _, _, _, _, _, _, _, _, _, _, _, _, _⟩ := at_T53 HR0_0.out x10_1 p637 q637
               cases e637
               replace hx637_0 := cb HB.out hx637_0
               replace hx637_1 := cb HB.out hx637_1
               replace p637 := eq_true p637
               replace q637 := eq_true q637
               go_wp2_with (first | ((with_reducible refine gate_dst (N := 11) rfl ?_); refine box_event ?hg (N := 11) ?hd (cs := #[.int .i64 0, .int .i64 0]) (t := 35) ?hr ?_; (case hd => rfl); (case hg => rfl); (case hr => first | (go_simp; done) | (go_simp; rfl)); intro gb638 hg w212 hbox hb; have BK638 := Aside0.mk (hbox); have GW638 := Aside0.mk ((by rw [hg]; exact (below_size (by repeat with_reducible first | exact HB.out | apply bA | apply bN | apply bD | refine bS ?_ GE610.out | refine bS ?_ GE630.out | refine bS ?_ GE631.out)) : w.heap.size ≤ gb638)); have GE638 := GW638; replace HB := Aside0.mk (below_step (by repeat with_reducible first | exact HB.out | apply bA | apply bN | apply bD | refine bS ?_ GE610.out | refine bS ?_ GE630.out | refine bS ?_ GE631.out) hb); have NB610_638 := Aside0.mk ((by rw [hg]; exact Nat.ne_of_lt (blk_lt (by with_reducible repeat first | exact BK610.out | apply kN | apply kD | apply kA)) : gb610 ≠ gb638)); have NB638_610 := Aside0.mk ((by rw [hg]; exact Nat.ne_of_gt (blk_lt (by with_reducible repeat first | exact BK610.out | apply kN | apply kD | apply kA)) : gb638 ≠ gb610)); replace BK610 := Aside0.mk (blk_below (o := .cells #[.slice (some ad637) l0_0.length c0_0, .slice A0_1 l0_1.length c0_1] 25 (0, 0)) (by with_reducible repeat first | exact BK610.out | apply kN | apply kD | apply kA) hb); have NB630_638 := Aside0.mk ((by rw [hg]; exact Nat.ne_of_lt (blk_lt (by with_reducible repeat first | exact BK630.out | apply kN | apply kD | apply kA)) : gb630 ≠ gb638)); have NB638_630 := Aside0.mk ((by rw [hg]; exact Nat.ne_of_gt (blk_lt (by with_reducible repeat first | exact BK630.out | apply kN | apply kD | apply kA)) : gb638 ≠ gb630)); replace BK630 := Aside0.mk (blk_below (o := .cells #[.int .i64 t625, .int .i64 t626] 35 (0, 0)) (by with_reducible repeat first | exact BK630.out | apply kN | apply kD | apply kA) hb); have NB631_638 := Aside0.mk ((by rw [hg]; exact Nat.ne_of_lt (blk_lt (by with_reducible repeat first | exact BK631.out | apply kN | apply kD | apply kA)) : gb631 ≠ gb638)); have NB638_631 := Aside0.mk ((by rw [hg]; exact Nat.ne_of_gt (blk_lt (by with_reducible repeat first | exact BK631.out | apply kN | apply kD | apply kA)) : gb638 ≠ gb631)); replace BK631 := Aside0.mk (blk_below (o := .cells #[.int .i64 t627, .int .i64 t628] 35 (0, 0)) (by with_reducible repeat first | exact BK631.out | apply kN | apply kD | apply kA) hb); clear hb hbox hg; have hnb213 := NB638_610.out; have hnc213 := NB610_638.out; have hnb214 := NB638_630.out; have hnc214 := NB630_638.out; have hnb215 := NB638_631.out; have hnc215 := NB631_638.out; obtain ⟨hcz216_0, hcz216_1, hfz216_0, hfz216_1⟩ := kc2 BK638.out; have hnb217 := NB630_631.out; have hnc217 := NB631_630.out; obtain ⟨hcz218_0, hcz218_1, hfz218_0, hfz218_1⟩ := kc2 BK630.out; obtain ⟨hcz219_0, hcz219_1, hfz219_0, hfz219_1⟩ := kc2 BK631.out))
               repeat (go_quiet (fail); try go_wp2_with (fail))
               go_roundg k1
               case measure => have := HK1.out; omega
               case rel => exact ⟨((((rd_T53 l0_0 x10_1).f0.f0) == t625)), ((((rd_T53 l0_0 x10_1).f0.f0) == t627)), ((((rd_T53 l0_0 x10_1).f0.f1) == t626)), ((((rd_T53 l0_0 x10_1).f0.f1) == t628)), (wrap64 (x10_1 + 1)), (by first | rfl | (simp; done) | (simp [*]; done)), (by first | rfl | (simp; done) | (simp [*]; done)), (by first | rfl | (simp; done) | (simp [*]; done)), (by first | rfl | (simp; done) | (simp [*]; done)), (by first | rfl | (simp; done) | (simp [*]; done)), H', ⟨by have := HK1.out; omega⟩, ⟨by (with_reducible repeat first | apply kN | apply kD | apply kA); refine blk_far ?_ NB610_638.out _; (with_reducible repeat first | apply kN | apply kD | apply kA); refine blk_far ?_ NB610_638.out _; (with_reducible repeat first | apply kN | apply kD | apply kA); exact BK610.out⟩, ⟨by (with_reducible repeat first | apply kN | apply kD | apply kA); refine blk_far ?_ NB630_638.out _; (with_reducible repeat first | apply kN | apply kD | apply kA); refine blk_far ?_ NB630_638.out _; (with_reducible repeat first | apply kN | apply kD | apply kA); exact BK630.out⟩, ⟨by (with_reducible repeat first | apply kN | apply kD | apply kA); refine blk_far ?_ NB631_638.out _; (with_reducible repeat first | apply kN | apply kD | apply kA); refine blk_far ?_ NB631_638.out _; (with_reducible repeat first | apply kN | apply kD | apply kA); exact BK631.out⟩, ⟨by repeat with_reducible first | exact HB.out | apply bA | apply bN | apply bD | refine bS ?_ GE610.out | refine bS ?_ GE630.out | refine bS ?_ GE631.out | refine bS ?_ GE638.out⟩⟩
      ·
       rw [if_neg c24] at H
       exact absurd H (by simp)
     ·
      rw [if_neg c23] at H
      have c23b0 : decide (x10_1 < (l0_0.length : Int)) = false := decide_eq_false c23
      clear c23
      by_cases c220 : x6_1 = true
      ·
       subst c220
       have H1 : (if x7_1 = true then (if x8_1 = true then (if x9_1 = true then ((dancestudiolaw43_awake.f).bind fun t639 => (some t639)) else (none)) else (none)) else (none)) = some r := by rw [if_pos rfl] at H; exact H
       clear H
       have H := H1
       clear H1
       by_cases c221 : x7_1 = true
       ·
        subst c221
        have H1 : (if x8_1 = true then (if x9_1 = true then ((dancestudiolaw43_awake.f).bind fun t639 => (some t639)) else (none)) else (none)) = some r := by rw [if_pos rfl] at H; exact H
        clear H
        have H := H1
        clear H1
        by_cases c222 : x8_1 = true
        ·
         subst c222
         have H1 : (if x9_1 = true then ((dancestudiolaw43_awake.f).bind fun t639 => (some t639)) else (none)) = some r := by rw [if_pos rfl] at H; exact H
         clear H
         have H := H1
         clear H1
         by_cases c223 : x9_1 = true
         ·
          subst c223
          have H1 : ((dancestudiolaw43_awake.f).bind fun t639 => (some t639)) = some r := by rw [if_pos rfl] at H; exact H
          clear H
          have H := H1
          clear H1
          replace H := Option.bind_eq_some_iff.mp H
          obtain ⟨t639, A2240, H⟩ := H
          replace H : (some t639) = some r := H
          have A224 := Aside0.mk A2240
          clear A2240
          obtain rfl := Option.some.inj H
          have hnb225 := NB610_630.out
          have hnc225 := NB630_610.out
          have hnb226 := NB610_631.out
          have hnc226 := NB631_610.out
          have hcz227_0 : wr.cell? ⟨gb610, 0, none⟩ = some (.slice A0_0 l0_0.length c0_0) := (blk_cell BK610.out 0).trans rfl
          have hcz227_1 : wr.cell? ⟨gb610, 1, none⟩ = some (.slice A0_1 l0_1.length c0_1) := (blk_cell BK610.out 1).trans rfl
          have hfz227_0 := blk_frozen BK610.out 0
          have hfz227_1 := blk_frozen BK610.out 1
          go_wp2_with (first | (go_at_call 10; (with_reducible refine (dancestudiolaw43_awake.calls  t639 _ A224.out).mono ?_); rintro e w228 ⟨rfl, hb⟩; replace BK610 := Aside0.mk (blk_below (o := .cells #[.slice A0_0 l0_0.length c0_0, .slice A0_1 l0_1.length c0_1] 25 (0, 0)) (by with_reducible repeat first | exact BK610.out | apply kN | apply kD | apply kA) hb); replace BK630 := Aside0.mk (blk_below (o := .cells #[.int .i64 t625, .int .i64 t626] 35 (0, 0)) (by with_reducible repeat first | exact BK630.out | apply kN | apply kD | apply kA) hb); replace BK631 := Aside0.mk (blk_below (o := .cells #[.int .i64 t627, .int .i64 t628] 35 (0, 0)) (by with_reducible repeat first | exact BK631.out | apply kN | apply kD | apply kA) hb); replace HB := Aside0.mk (below_step (by repeat with_reducible first | exact HB.out | apply bA | apply bN | apply bD | refine bS ?_ GE610.out | refine bS ?_ GE630.out | refine bS ?_ GE631.out) hb); (try clear hb); (try clear hb2); (try clear hk); (try clear hi)))
          repeat (go_quiet (fail); try go_wp2_with (fail))
          go_ret
          exact ⟨by first | rfl | (simp [errW_none, errW_some] <;> rfl) | (simp [*, errW_none, errW_some] <;> rfl), by repeat with_reducible first | exact HB.out | apply bA | apply bN | apply bD | refine bS ?_ GE610.out | refine bS ?_ GE630.out | refine bS ?_ GE631.out⟩
         ·
          replace c223 := Bool.eq_false_iff.mpr c223
          subst c223
          have H1 : (none) = some r := by rw [if_neg (show ¬ (false = true) by decide)] at H; exact H
          clear H
          have H := H1
          clear H1
          exact absurd H (by simp)
        ·
         replace c222 := Bool.eq_false_iff.mpr c222
         subst c222
         have H1 : (none) = some r := by rw [if_neg (show ¬ (false = true) by decide)] at H; exact H
         clear H
         have H := H1
         clear H1
         exact absurd H (by simp)
       ·
        replace c221 := Bool.eq_false_iff.mpr c221
        subst c221
        have H1 : (none) = some r := by rw [if_neg (show ¬ (false = true) by decide)] at H; exact H
        clear H
        have H := H1
        clear H1
        exact absurd H (by simp)
      ·
       replace c220 := Bool.eq_false_iff.mpr c220
       subst c220
       have H1 : (none) = some r := by rw [if_neg (show ¬ (false = true) by decide)] at H; exact H
       clear H
       have H := H1
       clear H1
       exact absurd H (by simp)
  ·
   rw [if_neg c10] at H
   have c10b0 : (t629 == 0) = false := beq_eq_false_iff_ne.mpr c10
   have c10b1 : (t629 != 0) = true := bne_iff_ne.mpr c10
   by_cases c229 : (t625 == 0 && (t626 == 0)) = true
   ·
    rw [if_pos c229] at H
    have c229b0 : (t625 == 0 && (t626 == 0)) = true := c229
    (try (have c229b1 : decide (t625 = 0 && (t626 == 0)) = true := by simpa using c229))
    (try (have c229b2 : (t625 == 0 && (t626 == 0)) = true := by simpa using c229))
    clear c229
    by_cases c230 : (t627 == 0 && (t628 == 0)) = true
    ·
     rw [if_pos c230] at H
     have c230b0 : (t627 == 0 && (t628 == 0)) = true := c230
     (try (have c230b1 : decide (t627 = 0 && (t628 == 0)) = true := by simpa using c230))
     (try (have c230b2 : (t627 == 0 && (t628 == 0)) = true := by simpa using c230))
     clear c230
     replace H := Option.bind_eq_some_iff.mp H
     obtain ⟨t632, A2310, H⟩ := H
     replace H : (if t629 = t632 then ((dancestudiolaw43_awake.f).bind fun t633 => (some t633)) else (none)) = some r := H
     have A231 := Aside0.mk A2310
     clear A2310
     by_cases c232 : t629 = t632
     ·
      rw [if_pos c232] at H
      have c232b0 : (t629 == t632) = true := beq_iff_eq.mpr c232
      have c232b1 : (t629 != t632) = false := bne_eq_false_iff_eq.mpr c232
      clear c232
      replace H := Option.bind_eq_some_iff.mp H
      obtain ⟨t633, A2330, H⟩ := H
      replace H : (some t633) = some r := H
      have A233 := Aside0.mk A2330
      clear A2330
      obtain rfl := Option.some.inj H
      go_enter Try.func6, Try.ntmps6
      go_wp2_with (first | ((with_reducible refine gate_dst (N := 1) rfl ?_); refine box_event ?hg (N := 1) ?hd (cs := #[.slice A0_0 l0_0.length c0_0, .slice A0_1 l0_1.length c0_1]) (t := 25) ?hr ?_; (case hd => rfl); (case hg => rfl); (case hr => first | (go_simp; done) | (go_simp; rfl)); intro gb610 hg w234 hbox hb; have BK610 := Aside0.mk (hbox); have GW610 := Aside0.mk ((by rw [hg]; exact (below_size (by repeat with_reducible first | exact HB.out | apply bA | apply bN | apply bD)) : w.heap.size ≤ gb610)); have GE610 := GW610; replace HB := Aside0.mk (below_step (by repeat with_reducible first | exact HB.out | apply bA | apply bN | apply bD) hb); clear hb hbox hg; obtain ⟨hcz235_0, hcz235_1, hfz235_0, hfz235_1⟩ := kc2 BK610.out) | (go_at_call 9; (with_reducible refine (dancestudiolaw43_great.calls _ _ l0_0 _ _ l0_1 false _ ?side1 ?side2 ?side3 ?side4 A2.out).mono ?_); (case side1 => repeat (first | exact (Kd.C_below HR0_0.out HB.out) | (with_reducible first | apply cA | apply cN | apply cD))); (case side2 => exact HC0_0.out); (case side3 => repeat (first | exact (Kd.C_below HR0_1.out HB.out) | (with_reducible first | apply cA | apply cN | apply cD))); (case side4 => exact HC0_1.out); rintro e w236 ⟨rfl, hb⟩; replace BK610 := Aside0.mk (blk_below (o := .cells #[.slice A0_0 l0_0.length c0_0, .slice A0_1 l0_1.length c0_1] 25 (0, 0)) (by with_reducible repeat first | exact BK610.out | apply kN | apply kD | apply kA) hb); replace HB := Aside0.mk (below_step (by repeat with_reducible first | exact HB.out | apply bA | apply bN | apply bD | refine bS ?_ GE610.out) hb); (try clear hb); (try clear hb2); (try clear hk); (try clear hi); obtain ⟨hcz237_0, hcz237_1, hfz237_0, hfz237_1⟩ := kc2 BK610.out) | (go_at_call 15; (with_reducible refine (floor_Box.calls k _ _ l0_0 _ _ l0_1 t625 t626 t627 t628 t629 _ ?side1 ?side2 ?side3 ?side4 A9.out).mono ?_); (case side1 => repeat (first | exact (Kd.C_below HR0_0.out HB.out) | (with_reducible first | apply cA | apply cN | apply cD))); (case side2 => exact HC0_0.out); (case side3 => repeat (first | exact (Kd.C_below HR0_1.out HB.out) | (with_reducible first | apply cA | apply cN | apply cD))); (case side4 => exact HC0_1.out); rintro e w238 ⟨rfl, hb⟩; replace BK610 := Aside0.mk (blk_below (o := .cells #[.slice A0_0 l0_0.length c0_0, .slice A0_1 l0_1.length c0_1] 25 (0, 0)) (by with_reducible repeat first | exact BK610.out | apply kN | apply kD | apply kA) hb); replace HB := Aside0.mk (below_step (by repeat with_reducible first | exact HB.out | apply bA | apply bN | apply bD | refine bS ?_ GE610.out) hb); (try clear hb); (try clear hb2); (try clear hk); (try clear hi)) | ((with_reducible refine gate_dst (N := 3) rfl ?_); refine box_event ?hg (N := 3) ?hd (cs := #[.int .i64 0, .int .i64 0]) (t := 35) ?hr ?_; (case hd => rfl); (case hg => rfl); (case hr => first | (go_simp; done) | (go_simp; rfl)); intro gb630 hg w239 hbox hb; have BK630 := Aside0.mk (hbox); have GW630 := Aside0.mk ((by rw [hg]; exact (below_size (by repeat with_reducible first | exact HB.out | apply bA | apply bN | apply bD | refine bS ?_ GE610.out)) : w.heap.size ≤ gb630)); have GE630 := GW630; replace HB := Aside0.mk (below_step (by repeat with_reducible first | exact HB.out | apply bA | apply bN | apply bD | refine bS ?_ GE610.out) hb); have NB610_630 := Aside0.mk ((by rw [hg]; exact Nat.ne_of_lt (blk_lt (by with_reducible repeat first | exact BK610.out | apply kN | apply kD | apply kA)) : gb610 ≠ gb630)); have NB630_610 := Aside0.mk ((by rw [hg]; exact Nat.ne_of_gt (blk_lt (by with_reducible repeat first | exact BK610.out | apply kN | apply kD | apply kA)) : gb630 ≠ gb610)); replace BK610 := Aside0.mk (blk_below (o := .cells #[.slice A0_0 l0_0.length c0_0, .slice A0_1 l0_1.length c0_1] 25 (0, 0)) (by with_reducible repeat first | exact BK610.out | apply kN | apply kD | apply kA) hb); clear hb hbox hg) | ((with_reducible refine gate_dst (N := 4) rfl ?_); refine box_event ?hg (N := 4) ?hd (cs := #[.int .i64 0, .int .i64 0]) (t := 35) ?hr ?_; (case hd => rfl); (case hg => rfl); (case hr => first | (go_simp; done) | (go_simp; rfl)); intro gb631 hg w240 hbox hb; have BK631 := Aside0.mk (hbox); have GW631 := Aside0.mk ((by rw [hg]; exact (below_size (by repeat with_reducible first | exact HB.out | apply bA | apply bN | apply bD | refine bS ?_ GE610.out | refine bS ?_ GE630.out)) : w.heap.size ≤ gb631)); have GE631 := GW631; replace HB := Aside0.mk (below_step (by repeat with_reducible first | exact HB.out | apply bA | apply bN | apply bD | refine bS ?_ GE610.out | refine bS ?_ GE630.out) hb); have NB610_631 := Aside0.mk ((by rw [hg]; exact Nat.ne_of_lt (blk_lt (by with_reducible repeat first | exact BK610.out | apply kN | apply kD | apply kA)) : gb610 ≠ gb631)); have NB631_610 := Aside0.mk ((by rw [hg]; exact Nat.ne_of_gt (blk_lt (by with_reducible repeat first | exact BK610.out | apply kN | apply kD | apply kA)) : gb631 ≠ gb610)); replace BK610 := Aside0.mk (blk_below (o := .cells #[.slice A0_0 l0_0.length c0_0, .slice A0_1 l0_1.length c0_1] 25 (0, 0)) (by with_reducible repeat first | exact BK610.out | apply kN | apply kD | apply kA) hb); have NB630_631 := Aside0.mk ((by rw [hg]; exact Nat.ne_of_lt (blk_lt (by with_reducible repeat first | exact BK630.out | apply kN | apply kD | apply kA)) : gb630 ≠ gb631)); have NB631_630 := Aside0.mk ((by rw [hg]; exact Nat.ne_of_gt (blk_lt (by with_reducible repeat first | exact BK630.out | apply kN | apply kD | apply kA)) : gb631 ≠ gb630)); replace BK630 := Aside0.mk (blk_below (o := .cells #[.int .i64 0, .int .i64 0] 35 (0, 0)) (by with_reducible repeat first | exact BK630.out | apply kN | apply kD | apply kA) hb); clear hb hbox hg; have hnb241 := NB630_610.out; have hnc241 := NB610_630.out; have hnb242 := NB630_631.out; have hnc242 := NB631_630.out; obtain ⟨hcz243_0, hcz243_1, hfz243_0, hfz243_1⟩ := kc2 BK630.out; have hnb244 := NB631_610.out; have hnc244 := NB610_631.out; obtain ⟨hcz245_0, hcz245_1, hfz245_0, hfz245_1⟩ := kc2 BK631.out; obtain ⟨hcz246_0, hcz246_1, hfz246_0, hfz246_1⟩ := kc2 BK610.out) | (go_at_call 21; (with_reducible refine (movement_Check.calls k _ _ l0_0 _ _ l0_1 t632 _ ?side1 ?side2 ?side3 ?side4 A231.out).mono ?_); (case side1 => exact Kd.C_below HR0_0.out (by repeat with_reducible first | exact HB.out | apply bA | apply bN | apply bD | refine bS ?_ GE610.out | refine bS ?_ GE630.out | refine bS ?_ GE631.out)); (case side2 => exact HC0_0.out); (case side3 => exact Kd.C_below HR0_1.out (by repeat with_reducible first | exact HB.out | apply bA | apply bN | apply bD | refine bS ?_ GE610.out | refine bS ?_ GE630.out | refine bS ?_ GE631.out)); (case side4 => exact HC0_1.out); rintro e w247 ⟨rfl, hb⟩; replace BK610 := Aside0.mk (blk_below (o := .cells #[.slice A0_0 l0_0.length c0_0, .slice A0_1 l0_1.length c0_1] 25 (0, 0)) (by (with_reducible repeat first | apply kN | apply kD | apply kA); refine blk_far ?_ NB610_631.out _; (with_reducible repeat first | apply kN | apply kD | apply kA); refine blk_far ?_ NB610_631.out _; (with_reducible repeat first | apply kN | apply kD | apply kA); refine blk_far ?_ NB610_630.out _; (with_reducible repeat first | apply kN | apply kD | apply kA); refine blk_far ?_ NB610_630.out _; (with_reducible repeat first | apply kN | apply kD | apply kA); exact BK610.out) hb); replace BK630 := Aside0.mk (blk_below (o := .cells #[.int .i64 t625, .int .i64 t626] 35 (0, 0)) (by (with_reducible repeat first | apply kN | apply kD | apply kA); refine blk_far ?_ NB630_631.out _; (with_reducible repeat first | apply kN | apply kD | apply kA); refine blk_far ?_ NB630_631.out _; (with_reducible repeat first | apply kN | apply kD | apply kA); refine blk_put (cs := #[.int .i64 t625, .int .i64 0]) ?_ 1 _ rfl; (with_reducible repeat first | apply kN | apply kD | apply kA); refine blk_put (cs := #[.int .i64 0, .int .i64 0]) ?_ 0 _ rfl; (with_reducible repeat first | apply kN | apply kD | apply kA); exact BK630.out) hb); replace BK631 := Aside0.mk (blk_below (o := .cells #[.int .i64 t627, .int .i64 t628] 35 (0, 0)) (by (with_reducible repeat first | apply kN | apply kD | apply kA); refine blk_put (cs := #[.int .i64 t627, .int .i64 0]) ?_ 1 _ rfl; (with_reducible repeat first | apply kN | apply kD | apply kA); refine blk_put (cs := #[.int .i64 0, .int .i64 0]) ?_ 0 _ rfl; (with_reducible repeat first | apply kN | apply kD | apply kA); refine blk_far ?_ NB631_630.out _; (with_reducible repeat first | apply kN | apply kD | apply kA); refine blk_far ?_ NB631_630.out _; (with_reducible repeat first | apply kN | apply kD | apply kA); exact BK631.out) hb); replace HB := Aside0.mk (below_step (by repeat with_reducible first | exact HB.out | apply bA | apply bN | apply bD | refine bS ?_ GE610.out | refine bS ?_ GE630.out | refine bS ?_ GE631.out) hb); (try clear hb); (try clear hb2); (try clear hk); (try clear hi)) | (go_at_call 10; (with_reducible refine (dancestudiolaw43_awake.calls  t633 _ A233.out).mono ?_); rintro e w248 ⟨rfl, hb⟩; replace BK610 := Aside0.mk (blk_below (o := .cells #[.slice A0_0 l0_0.length c0_0, .slice A0_1 l0_1.length c0_1] 25 (0, 0)) (by with_reducible repeat first | exact BK610.out | apply kN | apply kD | apply kA) hb); replace BK630 := Aside0.mk (blk_below (o := .cells #[.int .i64 t625, .int .i64 t626] 35 (0, 0)) (by with_reducible repeat first | exact BK630.out | apply kN | apply kD | apply kA) hb); replace BK631 := Aside0.mk (blk_below (o := .cells #[.int .i64 t627, .int .i64 t628] 35 (0, 0)) (by with_reducible repeat first | exact BK631.out | apply kN | apply kD | apply kA) hb); replace HB := Aside0.mk (below_step (by repeat with_reducible first | exact HB.out | apply bA | apply bN | apply bD | refine bS ?_ GE610.out | refine bS ?_ GE630.out | refine bS ?_ GE631.out) hb); (try clear hb); (try clear hb2); (try clear hk); (try clear hi)))
      repeat (go_quiet (fail); try go_wp2_with (fail))
      go_ret
      exact ⟨by first | rfl | (simp [errW_none, errW_some] <;> rfl) | (simp [*, errW_none, errW_some] <;> rfl), by repeat with_reducible first | exact HB.out | apply bA | apply bN | apply bD | refine bS ?_ GE610.out | refine bS ?_ GE630.out | refine bS ?_ GE631.out⟩
     ·
      rw [if_neg c232] at H
      exact absurd H (by simp)
    ·
     rw [if_neg c230] at H
     exact absurd H (by simp)
   ·
    rw [if_neg c229] at H
    exact absurd H (by simp)

end Go.Proofs.Ytmdmajfgpmopbaa.X
