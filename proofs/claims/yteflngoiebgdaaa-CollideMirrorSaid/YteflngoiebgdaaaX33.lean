import Derived.Test.YteflngoiebgdaaaX0
import Derived.Test.YteflngoiebgdaaaX1
import Derived.Test.YteflngoiebgdaaaX31
import Derived.Test.YteflngoiebgdaaaX32
namespace Go.Proofs.Yteflngoiebgdaaa.X
open Go.RowKit YteflngoiebgdaaaW.PrintWords YteflngoiebgdaaaW.PrintLast YteflngoiebgdaaaW.PrintMore
attribute [local go_sem] max2_int min2_int max_two min_two max_three min_three max_four min_four
set_option linter.unusedVariables false
set_option linter.unusedSimpArgs false

attribute [local go_sem high] eqA30
/-! ### dancestudiolaw44_first: function 27 -/
def dancestudiolaw44_first.f (k : Nat) (a0 : Int) (l1 : List (S62)) (a2_0 a2_1 a2_2 : Int) : Option (Bool) := (dancestudiolaw44_two.f k).bind fun t254 => ((collide_First.f k t254 (([a0, a0] : List Int)) l1).bind fun bt260 => (if (bt260.1 == a2_0 && (bt260.2.1 == a2_1 && (bt260.2.2.1 == a2_2))) = true then (some (bt260.2.2.2 == 0)) else (some false)))
theorem dancestudiolaw44_first.mono : ∀ a0 a1 a2 a3 a4 k, LeO (dancestudiolaw44_first.f k a0 a1 a2 a3 a4) (dancestudiolaw44_first.f (k + 1) a0 a1 a2 a3 a4) := by
 intro a0 a1 a2 a3 a4 k
 unfold dancestudiolaw44_first.f
 repeat' first
   | (with_reducible exact collide_First.mono _ _ _ _)
   | (with_reducible exact dancestudiolaw44_two.mono _)
   | (with_reducible exact LeO.refl _)
   | (with_reducible exact LeO.none _)
   | (with_reducible refine LeO.ite ?_ ?_)
   | (with_reducible refine LeO.bind ?_ (fun _ => ?_))
   | exact collide_First.mono _ _ _ _
   | exact dancestudiolaw44_two.mono _
   | exact LeO.none _
   | refine LeO.ite ?_ ?_
   | refine LeO.bind ?_ (fun _ => ?_)
set_option maxHeartbeats 8000000 in
set_option maxRecDepth 100000 in
theorem dancestudiolaw44_first.calls (k : Nat) (a0 : Int) (A1 : Option Addr) (c1 : Nat) (l1 : List (S62)) (a2_0 a2_1 a2_2 : Int) (r : Bool) (w : World) (hr1 : Kd.C k62 w A1 l1.length l1) (hc1 : l1.length ≤ c1) (h : dancestudiolaw44_first.f k a0 l1 a2_0 a2_1 a2_2 = some r) :
  Calls Try.prog 27 #[.int .i64 a0, .slice A1 l1.length c1, .agg #[.int .i64 a2_0, .int .i64 a2_1, .int .i64 a2_2]] w fun e w' => e = .returned (.bool r) ∧ Below w.heap.size w w' := by
 have hu30 := Try.underlying30
 have HR1 := am hr1
 have HC1 := am hc1
 clear hr1 hc1
 have HB := am (Below.refl w.heap.size w)
 have H : ((dancestudiolaw44_two.f k).bind fun t254 => ((collide_First.f k t254 (([a0, a0] : List Int)) l1).bind fun bt260 => (if (bt260.1 == a2_0 && (bt260.2.1 == a2_1 && (bt260.2.2.1 == a2_2))) = true then (some (bt260.2.2.2 == 0)) else (some false)))) = some r := h
 clear h
 replace H := Option.bind_eq_some_iff.mp H
 obtain ⟨t254, A40, H⟩ := H
 replace H : ((collide_First.f k t254 (([a0, a0] : List Int)) l1).bind fun bt260 => (if (bt260.1 == a2_0 && (bt260.2.1 == a2_1 && (bt260.2.2.1 == a2_2))) = true then (some (bt260.2.2.2 == 0)) else (some false))) = some r := H
 have A4 := am A40
 clear A40
 obtain ⟨y257, hy257⟩ : ∃ y_ : List Int, y_ = (([a0, a0] : List Int)) := ⟨_, rfl⟩
 replace H : ((collide_First.f k t254 y257 l1).bind fun bt260 => (if (bt260.1 == a2_0 && (bt260.2.1 == a2_1 && (bt260.2.2.1 == a2_2))) = true then (some (bt260.2.2.2 == 0)) else (some false))) = some r := by first | (rw [hy257]; with_reducible exact H) | (have H2_ := (Option.bind_some _ _).symm.trans H; rw [hy257]; with_reducible exact H2_) | (have H2_ := (Option.bind_some _ _).symm.trans H; with_reducible exact H2_) | with_reducible exact H | (rw [hy257]; exact H) | exact H
 have Ny257 := am hy257
 clear hy257
 replace H := Option.bind_eq_some_iff.mp H
 obtain ⟨⟨t260, t261, t262, t263⟩, A50, H⟩ := H
 replace H : (if (t260 == a2_0 && (t261 == a2_1 && (t262 == a2_2))) = true then (some (t263 == 0)) else (some false)) = some r := H
 have A5 := am A50
 clear A50
 by_cases c6 : (t260 == a2_0 && (t261 == a2_1 && (t262 == a2_2))) = true
 ·
  rw [if_pos c6] at H
  have c6b0 : (t260 == a2_0 && (t261 == a2_1 && (t262 == a2_2))) = true := c6
  (try (have c6b1 : decide (t260 = a2_0 && (t261 == a2_1 && (t262 == a2_2))) = true := by simpa using c6))
  (try (have c6b2 : (t260 == a2_0 && (t261 == a2_1 && (t262 == a2_2))) = true := by simpa using c6))
  clear c6
  obtain rfl := Option.some.inj H
  go_enter Try.func27, Try.ntmps27
  go_wp2_with (first | ((with_reducible refine gate_dst (N := 5) rfl ?_); refine box_event yz (N := 5) yz (cs := #[.int .i64 a2_0, .int .i64 a2_1, .int .i64 a2_2]) (t := 30) gz ?_; intro gb253 hg w7 hbox hb; have BK253 := am (hbox); have GW253 := gwz (g := gb253) HB hg; have GE253 := GW253; replace HB := am (below_step bz hb); clear hb hbox hg) | ((with_reducible refine gate_callee (f := 26) rfl ?_); refine goesL_ (some 10) rfl rfl Try.func26 qz rfl #[] rfl mz ?_; (with_reducible refine (dancestudiolaw44_two.calls k  t254 _ A4.out).mono ?_); rintro e w8 ⟨v255, rfl, ho0, hb⟩; refine ⟨_, rfl, ?_⟩; have HO256 := am (Kd.N_lower (Kd.N_mono (ok' := fun k_ => k_ ≠ gb253) ho0 (fun k_ hk_ => (Kd.freshB (g := gb253) (o := .cells #[.int .i64 a2_0, .int .i64 a2_1, .int .i64 a2_2] 30 (0, 0)) (kz BK253) k_ hk_))) (below_size bz)); replace BK253 := am (blk_below (o := .cells #[.int .i64 a2_0, .int .i64 a2_1, .int .i64 a2_2] 30 (0, 0)) (kz BK253) hb); replace HB := am (below_step bz hb); (try clear hb); (try clear hb2); (try clear hk); (try clear hi); (try clear ho0)) | ((with_reducible refine gate_dst (N := 13) rfl ?_); refine Kd.R_lit (Kd.int .i64) _ 3 ?hg (N := 13) ?hd (xs := ([a0, a0] : List Int)) (inner := [.int .i64 a0, .int .i64 a0]) (ok := fun _ => True) (okp := fun _ => True) ?hr ?hp (fun _ hk => hk) trivial (Below.refl _ _) (Nat.le_refl _) (by simp) ?_; (case hd => rfl); (case hg => rfl); (case hr => first | (go_simp; done) | (go_simp; rfl)); (case hp => exact (Reps.one (show Kd.M (Kd.int .i64) _ _ _ a0 [.int .i64 a0] from rfl) (Reps.one (show Kd.M (Kd.int .i64) _ _ _ a0 [.int .i64 a0] from rfl) (Reps.none _ _)))); intro v258 w9 ho10 hb hg_ hnew_; clear hg_ hnew_; (first | rw [← Ny257.out] at ho10 | (simp only [Int.reduceToNat] at ho10; rw [← Ny257.out] at ho10)); replace HO256 := am (Kd.N_elder' (by (with_reducible repeat (first | apply Kd.N_alloc | apply Kd.N_drewN | apply Kd.N_drew)); exact HO256.out) (Kd.R_base ho10) hb); have HO259 := am (Kd.R_lower ho10 (below_size bz)); replace BK253 := am (blk_below (o := .cells #[.int .i64 a2_0, .int .i64 a2_1, .int .i64 a2_2] 30 (0, 0)) (kz BK253) hb); replace HB := am (below_step bz hb); clear hb ho10; obtain ⟨Ao11, co11, eo11⟩ := Kd.N_slice HO256.out; subst eo11; obtain ⟨Ao12, co12, eo12⟩ := Kd.R_slice HO259.out; subst eo12) | ((with_reducible refine gate_callee (f := 15) rfl ?_); refine goesL_ (some 15) rfl rfl Try.func15 qz rfl #[.slice Ao11 t254.length co11, .slice Ao12 y257.length co12, .slice A1 l1.length c1] rfl mz ?_; (with_reducible refine (collide_First.calls k _ _ t254 _ _ y257 _ _ l1 t260 t261 t262 t263 _ ?side1 ?side2 ?side3 ?side4 ?side5 ?side6 A5.out).mono ?_); (case side1 => repeat (first | exact (Kd.N_reads' HO256.out).2.2 | (with_reducible first | apply cA | apply cN | apply cD))); (case side2 => exact (Kd.N_reads' HO256.out).2.1); (case side3 => repeat (first | exact (Kd.R_reads' HO259.out).2.2 | (with_reducible first | apply cA | apply cN | apply cD))); (case side4 => exact (Kd.R_reads' HO259.out).2.1); (case side5 => exact cz HR1); (case side6 => exact HC1.out); rintro e w13 ⟨rfl, hb⟩; refine ⟨_, rfl, ?_⟩; replace HO256 := am (Kd.N_below (by (with_reducible repeat (first | apply Kd.N_alloc | apply Kd.N_drewN | apply Kd.N_drew)); exact HO256.out) hb); replace HO259 := am (Kd.R_below (rz HO259) hb); replace BK253 := am (blk_below (o := .cells #[.int .i64 a2_0, .int .i64 a2_1, .int .i64 a2_2] 30 (0, 0)) (kz BK253) hb); replace HB := am (below_step bz hb); (try clear hb); (try clear hb2); (try clear hk); (try clear hi)) | ((with_reducible refine gate_dst (N := 7) rfl ?_); refine box_event yz (N := 7) yz (cs := #[.int .i64 0, .int .i64 0, .int .i64 0]) (t := 30) gz ?_; intro gb264 hg w14 hbox hb; replace HO256 := am (Kd.N_below (Kd.N_elderB (by (with_reducible repeat (first | apply Kd.N_alloc | apply Kd.N_drewN | apply Kd.N_drew)); exact HO256.out) gb264 (Nat.le_of_eq hg.symm)) hb); replace HO259 := am (Kd.R_below (rz HO259) hb); have BK264 := am (hbox); have GW264 := gwz (g := gb264) HB hg; have GE264 := GW264; replace HB := am (below_step bz hb); have NB253_264 := nlt (g' := gb264) BK253 hg; have NB264_253 := ngt (g' := gb264) BK253 hg; replace BK253 := am (blk_below (o := .cells #[.int .i64 a2_0, .int .i64 a2_1, .int .i64 a2_2] 30 (0, 0)) (kz BK253) hb); clear hb hbox hg; have hnb15 := NB264_253.out; have hnc15 := NB253_264.out; obtain ⟨hcz16_0, hcz16_1, hcz16_2, hfz16_0, hfz16_1, hfz16_2⟩ := kc3 BK264.out; obtain ⟨hcz17_0, hcz17_1, hcz17_2, hfz17_0, hfz17_1, hfz17_2⟩ := kc3 BK253.out))
  go_ret
  exact ⟨ez, bz⟩
 ·
  rw [if_neg c6] at H
  have c6b0 : (t260 == a2_0 && (t261 == a2_1 && (t262 == a2_2))) = false := by simpa using c6
  (try (have c6b1 : decide (t260 = a2_0 && (t261 == a2_1 && (t262 == a2_2))) = false := by simpa using c6))
  (try (have c6b2 : (t260 == a2_0 && (t261 == a2_1 && (t262 == a2_2))) = false := by simpa using c6))
  (try (have c6b3 : ¬ (t260 = a2_0 && (t261 == a2_1 && (t262 == a2_2))) := by simpa using c6))
  clear c6
  obtain rfl := Option.some.inj H
  go_enter Try.func27, Try.ntmps27
  go_wp2_with (first | ((with_reducible refine gate_dst (N := 5) rfl ?_); refine box_event yz (N := 5) yz (cs := #[.int .i64 a2_0, .int .i64 a2_1, .int .i64 a2_2]) (t := 30) gz ?_; intro gb253 hg w18 hbox hb; have BK253 := am (hbox); have GW253 := gwz (g := gb253) HB hg; have GE253 := GW253; replace HB := am (below_step bz hb); clear hb hbox hg) | ((with_reducible refine gate_callee (f := 26) rfl ?_); refine goesL_ (some 10) rfl rfl Try.func26 qz rfl #[] rfl mz ?_; (with_reducible refine (dancestudiolaw44_two.calls k  t254 _ A4.out).mono ?_); rintro e w19 ⟨v255, rfl, ho0, hb⟩; refine ⟨_, rfl, ?_⟩; have HO256 := am (Kd.N_lower (Kd.N_mono (ok' := fun k_ => k_ ≠ gb253) ho0 (fun k_ hk_ => (Kd.freshB (g := gb253) (o := .cells #[.int .i64 a2_0, .int .i64 a2_1, .int .i64 a2_2] 30 (0, 0)) (kz BK253) k_ hk_))) (below_size bz)); replace BK253 := am (blk_below (o := .cells #[.int .i64 a2_0, .int .i64 a2_1, .int .i64 a2_2] 30 (0, 0)) (kz BK253) hb); replace HB := am (below_step bz hb); (try clear hb); (try clear hb2); (try clear hk); (try clear hi); (try clear ho0)) | ((with_reducible refine gate_dst (N := 13) rfl ?_); refine Kd.R_lit (Kd.int .i64) _ 3 ?hg (N := 13) ?hd (xs := ([a0, a0] : List Int)) (inner := [.int .i64 a0, .int .i64 a0]) (ok := fun _ => True) (okp := fun _ => True) ?hr ?hp (fun _ hk => hk) trivial (Below.refl _ _) (Nat.le_refl _) (by simp) ?_; (case hd => rfl); (case hg => rfl); (case hr => first | (go_simp; done) | (go_simp; rfl)); (case hp => exact (Reps.one (show Kd.M (Kd.int .i64) _ _ _ a0 [.int .i64 a0] from rfl) (Reps.one (show Kd.M (Kd.int .i64) _ _ _ a0 [.int .i64 a0] from rfl) (Reps.none _ _)))); intro v258 w20 ho21 hb hg_ hnew_; clear hg_ hnew_; (first | rw [← Ny257.out] at ho21 | (simp only [Int.reduceToNat] at ho21; rw [← Ny257.out] at ho21)); replace HO256 := am (Kd.N_elder' (by (with_reducible repeat (first | apply Kd.N_alloc | apply Kd.N_drewN | apply Kd.N_drew)); exact HO256.out) (Kd.R_base ho21) hb); have HO259 := am (Kd.R_lower ho21 (below_size bz)); replace BK253 := am (blk_below (o := .cells #[.int .i64 a2_0, .int .i64 a2_1, .int .i64 a2_2] 30 (0, 0)) (kz BK253) hb); replace HB := am (below_step bz hb); clear hb ho21; obtain ⟨Ao22, co22, eo22⟩ := Kd.N_slice HO256.out; subst eo22; obtain ⟨Ao23, co23, eo23⟩ := Kd.R_slice HO259.out; subst eo23) | ((with_reducible refine gate_callee (f := 15) rfl ?_); refine goesL_ (some 15) rfl rfl Try.func15 qz rfl #[.slice Ao22 t254.length co22, .slice Ao23 y257.length co23, .slice A1 l1.length c1] rfl mz ?_; (with_reducible refine (collide_First.calls k _ _ t254 _ _ y257 _ _ l1 t260 t261 t262 t263 _ ?side1 ?side2 ?side3 ?side4 ?side5 ?side6 A5.out).mono ?_); (case side1 => repeat (first | exact (Kd.N_reads' HO256.out).2.2 | (with_reducible first | apply cA | apply cN | apply cD))); (case side2 => exact (Kd.N_reads' HO256.out).2.1); (case side3 => repeat (first | exact (Kd.R_reads' HO259.out).2.2 | (with_reducible first | apply cA | apply cN | apply cD))); (case side4 => exact (Kd.R_reads' HO259.out).2.1); (case side5 => exact cz HR1); (case side6 => exact HC1.out); rintro e w24 ⟨rfl, hb⟩; refine ⟨_, rfl, ?_⟩; replace HO256 := am (Kd.N_below (by (with_reducible repeat (first | apply Kd.N_alloc | apply Kd.N_drewN | apply Kd.N_drew)); exact HO256.out) hb); replace HO259 := am (Kd.R_below (rz HO259) hb); replace BK253 := am (blk_below (o := .cells #[.int .i64 a2_0, .int .i64 a2_1, .int .i64 a2_2] 30 (0, 0)) (kz BK253) hb); replace HB := am (below_step bz hb); (try clear hb); (try clear hb2); (try clear hk); (try clear hi)) | ((with_reducible refine gate_dst (N := 7) rfl ?_); refine box_event yz (N := 7) yz (cs := #[.int .i64 0, .int .i64 0, .int .i64 0]) (t := 30) gz ?_; intro gb264 hg w25 hbox hb; replace HO256 := am (Kd.N_below (Kd.N_elderB (by (with_reducible repeat (first | apply Kd.N_alloc | apply Kd.N_drewN | apply Kd.N_drew)); exact HO256.out) gb264 (Nat.le_of_eq hg.symm)) hb); replace HO259 := am (Kd.R_below (rz HO259) hb); have BK264 := am (hbox); have GW264 := gwz (g := gb264) HB hg; have GE264 := GW264; replace HB := am (below_step bz hb); have NB253_264 := nlt (g' := gb264) BK253 hg; have NB264_253 := ngt (g' := gb264) BK253 hg; replace BK253 := am (blk_below (o := .cells #[.int .i64 a2_0, .int .i64 a2_1, .int .i64 a2_2] 30 (0, 0)) (kz BK253) hb); clear hb hbox hg; have hnb26 := NB264_253.out; have hnc26 := NB253_264.out; obtain ⟨hcz27_0, hcz27_1, hcz27_2, hfz27_0, hfz27_1, hfz27_2⟩ := kc3 BK264.out; obtain ⟨hcz28_0, hcz28_1, hcz28_2, hfz28_0, hfz28_1, hfz28_2⟩ := kc3 BK253.out))
  go_ret
  exact ⟨ez, bz⟩

end Go.Proofs.Yteflngoiebgdaaa.X
