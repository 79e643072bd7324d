import Derived.Test.YtmdmajfgpmopbaaX0
import Derived.Test.YtmdmajfgpmopbaaX21
import Derived.Test.YtmdmajfgpmopbaaX29
import Derived.Test.YtmdmajfgpmopbaaX30
namespace Go.Proofs.Ytmdmajfgpmopbaa.X
open Go.RowKit YtmdmajfgpmopbaaW.PrintWords YtmdmajfgpmopbaaW.PrintLast YtmdmajfgpmopbaaW.PrintMore
attribute [local go_sem] max2_int min2_int max_two min_two max_three min_three max_four min_four
set_option linter.unusedVariables false
set_option linter.unusedSimpArgs false

/-! ### geom_Touch: function 35 -/
def geom_Touch.f (k : Nat) (a0_0 a0_1 a0_2 a0_3 a0_4 a1_0 a1_1 a1_2 a1_3 a1_4 : Int) : Option (Bool × Int) := (geom_valid.f k (([(⟨a0_0, a0_1⟩ : S35), (⟨a0_2, a0_3⟩ : S35), (⟨a1_0, a1_1⟩ : S35), (⟨a1_2, a1_3⟩ : S35)] : List (S35))) (([a0_4, a1_4] : List Int))).bind fun t222 => (if t222 = true then ((geom_minus.f a0_0 a0_1 a1_0 a1_1).bind fun bt223 => ((geom_minus.f a0_2 a0_3 a0_0 a0_1).bind fun bt225 => ((geom_minus.f a1_2 a1_3 a1_0 a1_1).bind fun bt227 => ((geom_minus.f bt225.1 bt225.2 bt227.1 bt227.2).bind fun bt229 => ((geom_nearest.f k bt223.1 bt223.2 bt229.1 bt229.2 (wrap64 ((wrap64 (a0_4 + a1_4)) * (wrap64 (a0_4 + a1_4))))).bind fun t231 => (some (decide (t231 < 0), 0))))))) else (some (false, 1)))
theorem geom_Touch.mono : ∀ a0 a1 a2 a3 a4 a5 a6 a7 a8 a9 k, LeO (geom_Touch.f k a0 a1 a2 a3 a4 a5 a6 a7 a8 a9) (geom_Touch.f (k + 1) a0 a1 a2 a3 a4 a5 a6 a7 a8 a9) := by
 intro a0 a1 a2 a3 a4 a5 a6 a7 a8 a9 k
 unfold geom_Touch.f
 repeat' first
   | (with_reducible exact geom_nearest.mono _ _ _ _ _ _)
   | (with_reducible exact geom_valid.mono _ _ _)
   | (with_reducible exact LeO.refl _)
   | (with_reducible exact LeO.none _)
   | (with_reducible refine LeO.ite ?_ ?_)
   | (with_reducible refine LeO.bind ?_ (fun _ => ?_))
   | exact geom_nearest.mono _ _ _ _ _ _
   | exact geom_valid.mono _ _ _
   | exact LeO.none _
   | refine LeO.ite ?_ ?_
   | refine LeO.bind ?_ (fun _ => ?_)
def geom_Touch.T4 : Bool × List (List Nat × List Nat) := (true, [([], []), ([0], [0]), ([], []), ([2], [2]), ([1, 3], [1, 3]), ([], []), ([5], [5]), ([], []), ([7], [7]), ([6, 8, 4], [6, 8]), ([], []), ([10], [10]), ([], []), ([12], [12]), ([11, 13, 9], [11, 13]), ([9, 14, 14], [9, 14]), ([], []), ([], []), ([16, 17], [16, 17]), ([4, 15, 18, 15], [4, 15, 18]), ([19], [19]), ([20, 19, 0, 1, 2, 3, 4, 5, 6, 7, 8, 9, 10, 11, 12, 13, 14, 15, 16, 17, 18, 19, 20], [20]), ([21, 0, 1, 2, 3, 4, 5, 6, 7, 8, 9, 10, 11, 12, 13, 14, 15, 16, 17, 18, 19, 20, 21], [])])
def geom_Touch.B4 : List Nat := [0, 1, 0, 4, 15, 0, 32, 0, 128, 511, 0, 1024, 0, 4096, 16383, 32767, 0, 0, 196608, 524287, 1048575, 2097151, 4194303]
theorem geom_Touch.tab4 : rtab .any (opsOf Try.f35 4) = geom_Touch.T4 := by kernel_rfl
theorem geom_Touch.bits4 : waitsOk geom_Touch.T4.2 geom_Touch.B4 = true := by kernel_rfl
set_option maxHeartbeats 8000000 in
set_option maxRecDepth 100000 in
theorem geom_Touch.calls (k : Nat) (a0_0 a0_1 a0_2 a0_3 a0_4 a1_0 a1_1 a1_2 a1_3 a1_4 : Int) (r1 : Bool) (r2 : Int) (w : World) (h : geom_Touch.f k a0_0 a0_1 a0_2 a0_3 a0_4 a1_0 a1_1 a1_2 a1_3 a1_4 = some (r1, r2)) :
  Calls Try.prog 35 #[.agg #[.int .i64 a0_0, .int .i64 a0_1, .int .i64 a0_2, .int .i64 a0_3, .int .i64 a0_4], .agg #[.int .i64 a1_0, .int .i64 a1_1, .int .i64 a1_2, .int .i64 a1_3, .int .i64 a1_4]] w fun e w' => e = .returned (.tuple #[.bool r1, .int .i64 r2]) ∧ Below w.heap.size w w' := by
 have hu57 := Try.underlying57
 have hu35 := Try.underlying35
 have HB := am (Below.refl w.heap.size w)
 have H : ((geom_valid.f k (([(⟨a0_0, a0_1⟩ : S35), (⟨a0_2, a0_3⟩ : S35), (⟨a1_0, a1_1⟩ : S35), (⟨a1_2, a1_3⟩ : S35)] : List (S35))) (([a0_4, a1_4] : List Int))).bind fun t222 => (if t222 = true then ((geom_minus.f a0_0 a0_1 a1_0 a1_1).bind fun bt223 => ((geom_minus.f a0_2 a0_3 a0_0 a0_1).bind fun bt225 => ((geom_minus.f a1_2 a1_3 a1_0 a1_1).bind fun bt227 => ((geom_minus.f bt225.1 bt225.2 bt227.1 bt227.2).bind fun bt229 => ((geom_nearest.f k bt223.1 bt223.2 bt229.1 bt229.2 (wrap64 ((wrap64 (a0_4 + a1_4)) * (wrap64 (a0_4 + a1_4))))).bind fun t231 => (some (decide (t231 < 0), 0))))))) else (some (false, 1)))) = some (r1, r2) := h
 clear h
 obtain ⟨y216, hy216⟩ : ∃ y_ : List (S35), y_ = (([(⟨a0_0, a0_1⟩ : S35), (⟨a0_2, a0_3⟩ : S35), (⟨a1_0, a1_1⟩ : S35), (⟨a1_2, a1_3⟩ : S35)] : List (S35))) := ⟨_, rfl⟩
 replace H : ((geom_valid.f k y216 (([a0_4, a1_4] : List Int))).bind fun t222 => (if t222 = true then ((geom_minus.f a0_0 a0_1 a1_0 a1_1).bind fun bt223 => ((geom_minus.f a0_2 a0_3 a0_0 a0_1).bind fun bt225 => ((geom_minus.f a1_2 a1_3 a1_0 a1_1).bind fun bt227 => ((geom_minus.f bt225.1 bt225.2 bt227.1 bt227.2).bind fun bt229 => ((geom_nearest.f k bt223.1 bt223.2 bt229.1 bt229.2 (wrap64 ((wrap64 (a0_4 + a1_4)) * (wrap64 (a0_4 + a1_4))))).bind fun t231 => (some (decide (t231 < 0), 0))))))) else (some (false, 1)))) = some (r1, r2) := by first | (rw [hy216]; with_reducible exact H) | (have H2_ := (Option.bind_some _ _).symm.trans H; rw [hy216]; with_reducible exact H2_) | (have H2_ := (Option.bind_some _ _).symm.trans H; with_reducible exact H2_) | with_reducible exact H | (rw [hy216]; exact H) | exact H
 have Ny216 := am hy216
 clear hy216
 obtain ⟨y219, hy219⟩ : ∃ y_ : List Int, y_ = (([a0_4, a1_4] : List Int)) := ⟨_, rfl⟩
 replace H : ((geom_valid.f k y216 y219).bind fun t222 => (if t222 = true then ((geom_minus.f a0_0 a0_1 a1_0 a1_1).bind fun bt223 => ((geom_minus.f a0_2 a0_3 a0_0 a0_1).bind fun bt225 => ((geom_minus.f a1_2 a1_3 a1_0 a1_1).bind fun bt227 => ((geom_minus.f bt225.1 bt225.2 bt227.1 bt227.2).bind fun bt229 => ((geom_nearest.f k bt223.1 bt223.2 bt229.1 bt229.2 (wrap64 ((wrap64 (a0_4 + a1_4)) * (wrap64 (a0_4 + a1_4))))).bind fun t231 => (some (decide (t231 < 0), 0))))))) else (some (false, 1)))) = some (r1, r2) := by first | (rw [hy219]; with_reducible exact H) | (have H2_ := (Option.bind_some _ _).symm.trans H; rw [hy219]; with_reducible exact H2_) | (have H2_ := (Option.bind_some _ _).symm.trans H; with_reducible exact H2_) | with_reducible exact H | (rw [hy219]; exact H) | exact H
 have Ny219 := am hy219
 clear hy219
 replace H := Option.bind_eq_some_iff.mp H
 obtain ⟨t222, A30, H⟩ := H
 replace H : (if t222 = true then ((geom_minus.f a0_0 a0_1 a1_0 a1_1).bind fun bt223 => ((geom_minus.f a0_2 a0_3 a0_0 a0_1).bind fun bt225 => ((geom_minus.f a1_2 a1_3 a1_0 a1_1).bind fun bt227 => ((geom_minus.f bt225.1 bt225.2 bt227.1 bt227.2).bind fun bt229 => ((geom_nearest.f k bt223.1 bt223.2 bt229.1 bt229.2 (wrap64 ((wrap64 (a0_4 + a1_4)) * (wrap64 (a0_4 + a1_4))))).bind fun t231 => (some (decide (t231 < 0), 0))))))) else (some (false, 1))) = some (r1, r2) := H
 have A3 := am A30
 clear A30
 by_cases c4 : t222 = true
 ·
  subst c4
  have H1 : ((geom_minus.f a0_0 a0_1 a1_0 a1_1).bind fun bt223 => ((geom_minus.f a0_2 a0_3 a0_0 a0_1).bind fun bt225 => ((geom_minus.f a1_2 a1_3 a1_0 a1_1).bind fun bt227 => ((geom_minus.f bt225.1 bt225.2 bt227.1 bt227.2).bind fun bt229 => ((geom_nearest.f k bt223.1 bt223.2 bt229.1 bt229.2 (wrap64 ((wrap64 (a0_4 + a1_4)) * (wrap64 (a0_4 + a1_4))))).bind fun t231 => (some (decide (t231 < 0), 0))))))) = some (r1, r2) := by rw [if_pos rfl] at H; exact H
  clear H
  have H := H1
  clear H1
  replace H := Option.bind_eq_some_iff.mp H
  obtain ⟨⟨t223, t224⟩, A50, H⟩ := H
  replace H : ((geom_minus.f a0_2 a0_3 a0_0 a0_1).bind fun bt225 => ((geom_minus.f a1_2 a1_3 a1_0 a1_1).bind fun bt227 => ((geom_minus.f bt225.1 bt225.2 bt227.1 bt227.2).bind fun bt229 => ((geom_nearest.f k t223 t224 bt229.1 bt229.2 (wrap64 ((wrap64 (a0_4 + a1_4)) * (wrap64 (a0_4 + a1_4))))).bind fun t231 => (some (decide (t231 < 0), 0)))))) = some (r1, r2) := H
  have A5 := am A50
  clear A50
  replace H := Option.bind_eq_some_iff.mp H
  obtain ⟨⟨t225, t226⟩, A60, H⟩ := H
  replace H : ((geom_minus.f a1_2 a1_3 a1_0 a1_1).bind fun bt227 => ((geom_minus.f t225 t226 bt227.1 bt227.2).bind fun bt229 => ((geom_nearest.f k t223 t224 bt229.1 bt229.2 (wrap64 ((wrap64 (a0_4 + a1_4)) * (wrap64 (a0_4 + a1_4))))).bind fun t231 => (some (decide (t231 < 0), 0))))) = some (r1, r2) := H
  have A6 := am A60
  clear A60
  replace H := Option.bind_eq_some_iff.mp H
  obtain ⟨⟨t227, t228⟩, A70, H⟩ := H
  replace H : ((geom_minus.f t225 t226 t227 t228).bind fun bt229 => ((geom_nearest.f k t223 t224 bt229.1 bt229.2 (wrap64 ((wrap64 (a0_4 + a1_4)) * (wrap64 (a0_4 + a1_4))))).bind fun t231 => (some (decide (t231 < 0), 0)))) = some (r1, r2) := H
  have A7 := am A70
  clear A70
  replace H := Option.bind_eq_some_iff.mp H
  obtain ⟨⟨t229, t230⟩, A80, H⟩ := H
  replace H : ((geom_nearest.f k t223 t224 t229 t230 (wrap64 ((wrap64 (a0_4 + a1_4)) * (wrap64 (a0_4 + a1_4))))).bind fun t231 => (some (decide (t231 < 0), 0))) = some (r1, r2) := H
  have A8 := am A80
  clear A80
  replace H := Option.bind_eq_some_iff.mp H
  obtain ⟨t231, A90, H⟩ := H
  replace H : (some (decide (t231 < 0), 0)) = some (r1, r2) := H
  have A9 := am A90
  clear A90
  simp only [Option.some.injEq, Prod.mk.injEq] at H
  obtain ⟨rfl, rfl⟩ := H
  go_enter Try.func35, Try.ntmps35
  try go_wp2_with (first | ((with_reducible refine gate_dst (N := 2) rfl ?_); refine box_event yz (N := 2) yz (cs := #[.int .i64 a0_0, .int .i64 a0_1, .int .i64 a0_2, .int .i64 a0_3, .int .i64 a0_4]) (t := 57) gz ?_; intro gb214 hg w10 hbox hb; have BK214 := am (hbox); have GW214 := gwz (g := gb214) HB hg; have GE214 := GW214; replace HB := am (below_step bz hb); clear hb hbox hg) | ((with_reducible refine gate_dst (N := 3) rfl ?_); refine box_event yz (N := 3) yz (cs := #[.int .i64 a1_0, .int .i64 a1_1, .int .i64 a1_2, .int .i64 a1_3, .int .i64 a1_4]) (t := 57) gz ?_; intro gb215 hg w11 hbox hb; have BK215 := am (hbox); have GW215 := gwz (g := gb215) HB hg; have GE215 := GW215; replace HB := am (below_step bz hb); have NB214_215 := nlt (g' := gb215) BK214 hg; have NB215_214 := ngt (g' := gb215) BK214 hg; replace BK214 := am (blk_below (o := .cells #[.int .i64 a0_0, .int .i64 a0_1, .int .i64 a0_2, .int .i64 a0_3, .int .i64 a0_4] 57 (0, 0)) (kz BK214) hb); clear hb hbox hg; have hnb12 := NB214_215.out; have hnc12 := NB215_214.out; obtain ⟨hcz13_0, hcz13_1, hcz13_2, hcz13_3, hcz13_4, hfz13_0, hfz13_1, hfz13_2, hfz13_3, hfz13_4⟩ := kc5 BK214.out; obtain ⟨hcz14_0, hcz14_1, hcz14_2, hcz14_3, hcz14_4, hfz14_0, hfz14_1, hfz14_2, hfz14_3, hfz14_4⟩ := kc5 BK215.out) | ((with_reducible refine gate_dst (N := 15) rfl ?_); refine Kd.R_lit k35 _ 35 ?hg (N := 15) ?hd (xs := ([(⟨a0_0, a0_1⟩ : S35), (⟨a0_2, a0_3⟩ : S35), (⟨a1_0, a1_1⟩ : S35), (⟨a1_2, a1_3⟩ : S35)] : List (S35))) (inner := [.int .i64 a0_0, .int .i64 a0_1, .int .i64 a0_2, .int .i64 a0_3, .int .i64 a1_0, .int .i64 a1_1, .int .i64 a1_2, .int .i64 a1_3]) (ok := fun _ => True) (okp := fun _ => True) ?hr ?hp (fun _ hk => hk) trivial (Below.refl _ _) (Nat.le_refl _) (by simp) ?_; (case hd => rfl); (case hg => rfl); (case hr => first | (go_simp; done) | (go_simp; rfl)); (case hp => exact (Reps.c2 (show Kd.M k35 _ _ _ (⟨a0_0, a0_1⟩ : S35) [.int .i64 a0_0, .int .i64 a0_1] from (k35_mkM _ _ _ (⟨a0_0, a0_1⟩ : S35) )) (Reps.c2 (show Kd.M k35 _ _ _ (⟨a0_2, a0_3⟩ : S35) [.int .i64 a0_2, .int .i64 a0_3] from (k35_mkM _ _ _ (⟨a0_2, a0_3⟩ : S35) )) (Reps.c2 (show Kd.M k35 _ _ _ (⟨a1_0, a1_1⟩ : S35) [.int .i64 a1_0, .int .i64 a1_1] from (k35_mkM _ _ _ (⟨a1_0, a1_1⟩ : S35) )) (Reps.c2 (show Kd.M k35 _ _ _ (⟨a1_2, a1_3⟩ : S35) [.int .i64 a1_2, .int .i64 a1_3] from (k35_mkM _ _ _ (⟨a1_2, a1_3⟩ : S35) )) (Reps.none _ _)))))); intro v217 w15 ho16 hb hg_ hnew_; clear hg_ hnew_; (first | rw [← Ny216.out] at ho16 | (simp only [Int.reduceToNat] at ho16; rw [← Ny216.out] at ho16)); have HO218 := am (Kd.R_lower ho16 (below_size bz)); replace BK214 := am (blk_below (o := .cells #[.int .i64 a0_0, .int .i64 a0_1, .int .i64 a0_2, .int .i64 a0_3, .int .i64 a0_4] 57 (0, 0)) (kz BK214) hb); replace BK215 := am (blk_below (o := .cells #[.int .i64 a1_0, .int .i64 a1_1, .int .i64 a1_2, .int .i64 a1_3, .int .i64 a1_4] 57 (0, 0)) (kz BK215) hb); replace HB := am (below_step bz hb); clear hb ho16; obtain ⟨hcz17_0, hcz17_1, hcz17_2, hcz17_3, hcz17_4, hfz17_0, hfz17_1, hfz17_2, hfz17_3, hfz17_4⟩ := kc5 BK214.out; obtain ⟨hcz18_0, hcz18_1, hcz18_2, hcz18_3, hcz18_4, hfz18_0, hfz18_1, hfz18_2, hfz18_3, hfz18_4⟩ := kc5 BK215.out) | ((with_reducible refine gate_dst (N := 20) rfl ?_); refine Kd.R_lit (Kd.int .i64) _ 3 ?hg (N := 20) ?hd (xs := ([a0_4, a1_4] : List Int)) (inner := [.int .i64 a0_4, .int .i64 a1_4]) (ok := fun _ => True) (okp := fun _ => True) ?hr ?hp (fun _ hk => hk) trivial (Below.refl _ _) (Nat.le_refl _) (by simp) ?_; (case hd => rfl); (case hg => rfl); (case hr => first | (go_simp; done) | (go_simp; rfl)); (case hp => exact (Reps.one (show Kd.M (Kd.int .i64) _ _ _ a0_4 [.int .i64 a0_4] from rfl) (Reps.one (show Kd.M (Kd.int .i64) _ _ _ a1_4 [.int .i64 a1_4] from rfl) (Reps.none _ _)))); intro v220 w19 ho20 hb hg_ hnew_; clear hg_ hnew_; (first | rw [← Ny219.out] at ho20 | (simp only [Int.reduceToNat] at ho20; rw [← Ny219.out] at ho20)); replace HO218 := am (Kd.R_below (rz HO218) hb); have HO221 := am (Kd.R_lower ho20 (below_size bz)); replace BK214 := am (blk_below (o := .cells #[.int .i64 a0_0, .int .i64 a0_1, .int .i64 a0_2, .int .i64 a0_3, .int .i64 a0_4] 57 (0, 0)) (kz BK214) hb); replace BK215 := am (blk_below (o := .cells #[.int .i64 a1_0, .int .i64 a1_1, .int .i64 a1_2, .int .i64 a1_3, .int .i64 a1_4] 57 (0, 0)) (kz BK215) hb); replace HB := am (below_step bz hb); clear hb ho20; obtain ⟨Ao21, co21, eo21⟩ := Kd.R_slice HO218.out; subst eo21; obtain ⟨Ao22, co22, eo22⟩ := Kd.R_slice HO221.out; subst eo22) | ((with_reducible refine gate_callee (f := 48) rfl ?_); refine goesL_ (some 21) rfl rfl Try.func48 qz rfl #[.slice Ao21 y216.length co21, .slice Ao22 y219.length co22] rfl mz ?_; (with_reducible refine (geom_valid.calls k _ _ y216 _ _ y219 true _ ?side1 ?side2 ?side3 ?side4 A3.out).mono ?_); (case side1 => repeat (first | exact (Kd.R_reads' HO218.out).2.2 | (with_reducible first | apply cA | apply cN | apply cD))); (case side2 => exact (Kd.R_reads' HO218.out).2.1); (case side3 => repeat (first | exact (Kd.R_reads' HO221.out).2.2 | (with_reducible first | apply cA | apply cN | apply cD))); (case side4 => exact (Kd.R_reads' HO221.out).2.1); rintro e w23 ⟨rfl, hb⟩; refine ⟨_, rfl, ?_⟩; replace HO218 := am (Kd.R_below (rz HO218) hb); replace HO221 := am (Kd.R_below (rz HO221) hb); replace BK214 := am (blk_below (o := .cells #[.int .i64 a0_0, .int .i64 a0_1, .int .i64 a0_2, .int .i64 a0_3, .int .i64 a0_4] 57 (0, 0)) (kz BK214) hb); replace BK215 := am (blk_below (o := .cells #[.int .i64 a1_0, .int .i64 a1_1, .int .i64 a1_2, .int .i64 a1_3, .int .i64 a1_4] 57 (0, 0)) (kz BK215) hb); replace HB := am (below_step bz hb); (try clear hb); (try clear hb2); (try clear hk); (try clear hi); obtain ⟨hcz24_0, hcz24_1, hcz24_2, hcz24_3, hcz24_4, hfz24_0, hfz24_1, hfz24_2, hfz24_3, hfz24_4⟩ := kc5 BK214.out; obtain ⟨hcz25_0, hcz25_1, hcz25_2, hcz25_3, hcz25_4, hfz25_0, hfz25_1, hfz25_2, hfz25_3, hfz25_4⟩ := kc5 BK215.out))
  have n0_ := am (Kd.R_drew HO218.out)
  have n1_ := am (Kd.R_drew HO221.out)
  have n2_ := am (blk_drew BK214.out)
  have n3_ := am (blk_drew BK215.out)
  have n4_ := am (below_drew1 HB.out)
  clear HO218
  clear HO221
  clear BK214
  clear BK215
  clear HB
  have HO218 := n0_
  have HO221 := n1_
  have BK214 := n2_
  have BK215 := n3_
  have HB := n4_
  clear n0_ n1_ n2_ n3_ n4_
  refine start_ (n := 23) (S := fun w' => w'.cell? ⟨gb214, 0, none⟩ = some (.int .i64 a0_0) ∧ w'.cell? ⟨gb214, 1, none⟩ = some (.int .i64 a0_1) ∧ w'.cell? ⟨gb214, 2, none⟩ = some (.int .i64 a0_2) ∧ w'.cell? ⟨gb214, 3, none⟩ = some (.int .i64 a0_3) ∧ w'.cell? ⟨gb214, 4, none⟩ = some (.int .i64 a0_4) ∧ w'.cell? ⟨gb215, 0, none⟩ = some (.int .i64 a1_0) ∧ w'.cell? ⟨gb215, 1, none⟩ = some (.int .i64 a1_1) ∧ w'.cell? ⟨gb215, 2, none⟩ = some (.int .i64 a1_2) ∧ w'.cell? ⟨gb215, 3, none⟩ = some (.int .i64 a1_3) ∧ w'.cell? ⟨gb215, 4, none⟩ = some (.int .i64 a1_4)) (ds := []) (bm 23 0) qz rfl rfl ⟨(blk_cell BK214.out 0).trans rfl, (blk_cell BK214.out 1).trans rfl, (blk_cell BK214.out 2).trans rfl, (blk_cell BK214.out 3).trans rfl, (blk_cell BK214.out 4).trans rfl, (blk_cell BK215.out 0).trans rfl, (blk_cell BK215.out 1).trans rfl, (blk_cell BK215.out 2).trans rfl, (blk_cell BK215.out 3).trans rfl, (blk_cell BK215.out 4).trans rfl⟩ (fun hHeld => ?_); refine with_tabW geom_Touch.tab4 geom_Touch.bits4 (fun HT_ HW_ => ?_)
  generalize w23.drew = w26 at HO218 HO221 BK214 BK215 HB hHeld ⊢
  refine pa (i := 0) (N := some 28) (bm 23 1) HT_ ?_
  refine pa (i := 2) (N := some 30) (bm 23 5) HT_ ?_
  refine pa (i := 5) (N := some 33) (bm 23 37) HT_ ?_
  refine pa (i := 7) (N := some 35) (bm 23 165) HT_ ?_
  refine pa (i := 10) (N := some 38) (bm 23 1189) HT_ ?_
  refine pa (i := 12) (N := some 40) (bm 23 5285) HT_ ?_
  refine pa (i := 16) (N := some 44) (bm 23 70821) HT_ ?_
  refine pa (i := 17) (N := some 45) (bm 23 201893) HT_ ?_
  refine pa (i := 18) (N := some 46) (bm 23 464037) HT_ ?_
  refine take_ (i := 1) (N := some 29) (v := ?_) (a' := ?_) (bm 23 464039) rfl rfl (take_ofW HT_.out HW_.out qz) iz (Or.inl ⟨by rfl, ?_⟩) hHeld ?_ ?_
  rotate_left
  ·
   rintro w' ⟨s0, s1, s2, s3, s4, s5, s6, s7, s8, s9⟩
   go_simp
   with_reducible rfl
  rotate_left
  ·
   simp only [Act.put, aS, lZ, lS, i64_w, i32_w]
   rfl
  refine take_ (i := 3) (N := some 31) (v := ?_) (a' := ?_) (bm 23 464047) rfl rfl (take_ofW HT_.out HW_.out qz) iz (Or.inl ⟨by rfl, ?_⟩) hHeld ?_ ?_
  rotate_left
  ·
   rintro w' ⟨s0, s1, s2, s3, s4, s5, s6, s7, s8, s9⟩
   go_simp
   with_reducible rfl
  rotate_left
  ·
   simp only [Act.put, aS, lZ, lS, i64_w, i32_w]
   rfl
  refine take_ (i := 6) (N := some 34) (v := ?_) (a' := ?_) (bm 23 464111) rfl rfl (take_ofW HT_.out HW_.out qz) iz (Or.inl ⟨by rfl, ?_⟩) hHeld ?_ ?_
  rotate_left
  ·
   rintro w' ⟨s0, s1, s2, s3, s4, s5, s6, s7, s8, s9⟩
   go_simp
   with_reducible rfl
  rotate_left
  ·
   simp only [Act.put, aS, lZ, lS, i64_w, i32_w]
   rfl
  refine take_ (i := 8) (N := some 36) (v := ?_) (a' := ?_) (bm 23 464367) rfl rfl (take_ofW HT_.out HW_.out qz) iz (Or.inl ⟨by rfl, ?_⟩) hHeld ?_ ?_
  rotate_left
  ·
   rintro w' ⟨s0, s1, s2, s3, s4, s5, s6, s7, s8, s9⟩
   go_simp
   with_reducible rfl
  rotate_left
  ·
   simp only [Act.put, aS, lZ, lS, i64_w, i32_w]
   rfl
  refine take_ (i := 11) (N := some 39) (v := ?_) (a' := ?_) (bm 23 466415) rfl rfl (take_ofW HT_.out HW_.out qz) iz (Or.inl ⟨by rfl, ?_⟩) hHeld ?_ ?_
  rotate_left
  ·
   rintro w' ⟨s0, s1, s2, s3, s4, s5, s6, s7, s8, s9⟩
   go_simp
   with_reducible rfl
  rotate_left
  ·
   simp only [Act.put, aS, lZ, lS, i64_w, i32_w]
   rfl
  refine take_ (i := 13) (N := some 41) (v := ?_) (a' := ?_) (bm 23 474607) rfl rfl (take_ofW HT_.out HW_.out qz) iz (Or.inl ⟨by rfl, ?_⟩) hHeld ?_ ?_
  rotate_left
  ·
   rintro w' ⟨s0, s1, s2, s3, s4, s5, s6, s7, s8, s9⟩
   go_simp
   with_reducible rfl
  rotate_left
  ·
   simp only [Act.put, aS, lZ, lS, i64_w, i32_w]
   rfl
  refine one_ (i := 4) (N := some 32) (bm 23 474623) rfl rfl (one_of HT_.out qz) (by decide) (fun K hK => ?_)
  refine goes_ Try.func50 qz rfl #[.agg #[.int .i64 a0_0, .int .i64 a0_1], .agg #[.int .i64 a1_0, .int .i64 a1_1]] (by rfl) rfl rfl mz ?_
  with_reducible refine (geom_minus.calls a0_0 a0_1 a1_0 a1_1 t223 t224 _ A5.out).mono ?_
  rintro e w27 ⟨rfl, hb⟩
  refine ⟨_, rfl, ?_⟩
  have n0_ := am (Kd.R_below (rz HO218) hb)
  have n1_ := am (Kd.R_below (rz HO221) hb)
  have n2_ := am (blk_below (o := .cells #[.int .i64 a0_0, .int .i64 a0_1, .int .i64 a0_2, .int .i64 a0_3, .int .i64 a0_4] 57 (0, 0)) (kz BK214) hb)
  have n3_ := am (blk_below (o := .cells #[.int .i64 a1_0, .int .i64 a1_1, .int .i64 a1_2, .int .i64 a1_3, .int .i64 a1_4] 57 (0, 0)) (kz BK215) hb)
  have n4_ := am (below_step bz hb)
  clear HO218
  clear HO221
  clear BK214
  clear BK215
  clear HB
  have HO218 := n0_
  have HO221 := n1_
  have BK214 := n2_
  have BK215 := n3_
  have HB := n4_
  clear n0_ n1_ n2_ n3_ n4_
  (try clear hb)
  (try clear hb2)
  (try clear hk)
  (try clear hi)
  refine hK.out _ _ ⟨(blk_cell BK214.out 0).trans rfl, (blk_cell BK214.out 1).trans rfl, (blk_cell BK214.out 2).trans rfl, (blk_cell BK214.out 3).trans rfl, (blk_cell BK214.out 4).trans rfl, (blk_cell BK215.out 0).trans rfl, (blk_cell BK215.out 1).trans rfl, (blk_cell BK215.out 2).trans rfl, (blk_cell BK215.out 3).trans rfl, (blk_cell BK215.out 4).trans rfl⟩ (fun hHeld => ?_)
  clear hK K
  refine norm_ (a' := ?_) ?_ ?_
  rotate_left
  ·
   show Act.put _ (some 32) _ = _
   simp only [Act.put, aS, lZ, lS, i64_w, i32_w]
   rfl
  refine one_ (i := 9) (N := some 37) (bm 23 475135) rfl rfl (one_of HT_.out qz) (by decide) (fun K hK => ?_)
  refine goes_ Try.func50 qz rfl #[.agg #[.int .i64 a0_2, .int .i64 a0_3], .agg #[.int .i64 a0_0, .int .i64 a0_1]] (by rfl) rfl rfl mz ?_
  with_reducible refine (geom_minus.calls a0_2 a0_3 a0_0 a0_1 t225 t226 _ A6.out).mono ?_
  rintro e w28 ⟨rfl, hb⟩
  refine ⟨_, rfl, ?_⟩
  have n0_ := am (Kd.R_below (rz HO218) hb)
  have n1_ := am (Kd.R_below (rz HO221) hb)
  have n2_ := am (blk_below (o := .cells #[.int .i64 a0_0, .int .i64 a0_1, .int .i64 a0_2, .int .i64 a0_3, .int .i64 a0_4] 57 (0, 0)) (kz BK214) hb)
  have n3_ := am (blk_below (o := .cells #[.int .i64 a1_0, .int .i64 a1_1, .int .i64 a1_2, .int .i64 a1_3, .int .i64 a1_4] 57 (0, 0)) (kz BK215) hb)
  have n4_ := am (below_step bz hb)
  clear HO218
  clear HO221
  clear BK214
  clear BK215
  clear HB
  have HO218 := n0_
  have HO221 := n1_
  have BK214 := n2_
  have BK215 := n3_
  have HB := n4_
  clear n0_ n1_ n2_ n3_ n4_
  (try clear hb)
  (try clear hb2)
  (try clear hk)
  (try clear hi)
  refine hK.out _ _ ⟨(blk_cell BK214.out 0).trans rfl, (blk_cell BK214.out 1).trans rfl, (blk_cell BK214.out 2).trans rfl, (blk_cell BK214.out 3).trans rfl, (blk_cell BK214.out 4).trans rfl, (blk_cell BK215.out 0).trans rfl, (blk_cell BK215.out 1).trans rfl, (blk_cell BK215.out 2).trans rfl, (blk_cell BK215.out 3).trans rfl, (blk_cell BK215.out 4).trans rfl⟩ (fun hHeld => ?_)
  clear hK K
  refine norm_ (a' := ?_) ?_ ?_
  rotate_left
  ·
   show Act.put _ (some 37) _ = _
   simp only [Act.put, aS, lZ, lS, i64_w, i32_w]
   rfl
  refine one_ (i := 14) (N := some 42) (bm 23 491519) rfl rfl (one_of HT_.out qz) (by decide) (fun K hK => ?_)
  refine goes_ Try.func50 qz rfl #[.agg #[.int .i64 a1_2, .int .i64 a1_3], .agg #[.int .i64 a1_0, .int .i64 a1_1]] (by rfl) rfl rfl mz ?_
  with_reducible refine (geom_minus.calls a1_2 a1_3 a1_0 a1_1 t227 t228 _ A7.out).mono ?_
  rintro e w29 ⟨rfl, hb⟩
  refine ⟨_, rfl, ?_⟩
  have n0_ := am (Kd.R_below (rz HO218) hb)
  have n1_ := am (Kd.R_below (rz HO221) hb)
  have n2_ := am (blk_below (o := .cells #[.int .i64 a0_0, .int .i64 a0_1, .int .i64 a0_2, .int .i64 a0_3, .int .i64 a0_4] 57 (0, 0)) (kz BK214) hb)
  have n3_ := am (blk_below (o := .cells #[.int .i64 a1_0, .int .i64 a1_1, .int .i64 a1_2, .int .i64 a1_3, .int .i64 a1_4] 57 (0, 0)) (kz BK215) hb)
  have n4_ := am (below_step bz hb)
  clear HO218
  clear HO221
  clear BK214
  clear BK215
  clear HB
  have HO218 := n0_
  have HO221 := n1_
  have BK214 := n2_
  have BK215 := n3_
  have HB := n4_
  clear n0_ n1_ n2_ n3_ n4_
  (try clear hb)
  (try clear hb2)
  (try clear hk)
  (try clear hi)
  refine hK.out _ _ ⟨(blk_cell BK214.out 0).trans rfl, (blk_cell BK214.out 1).trans rfl, (blk_cell BK214.out 2).trans rfl, (blk_cell BK214.out 3).trans rfl, (blk_cell BK214.out 4).trans rfl, (blk_cell BK215.out 0).trans rfl, (blk_cell BK215.out 1).trans rfl, (blk_cell BK215.out 2).trans rfl, (blk_cell BK215.out 3).trans rfl, (blk_cell BK215.out 4).trans rfl⟩ (fun hHeld => ?_)
  clear hK K
  refine norm_ (a' := ?_) ?_ ?_
  rotate_left
  ·
   show Act.put _ (some 42) _ = _
   simp only [Act.put, aS, lZ, lS, i64_w, i32_w]
   rfl
  refine one_ (i := 15) (N := some 43) (bm 23 524287) rfl rfl (one_of HT_.out qz) (by decide) (fun K hK => ?_)
  refine goes_ Try.func50 qz rfl #[.agg #[.int .i64 t225, .int .i64 t226], .agg #[.int .i64 t227, .int .i64 t228]] (by rfl) rfl rfl mz ?_
  with_reducible refine (geom_minus.calls t225 t226 t227 t228 t229 t230 _ A8.out).mono ?_
  rintro e w30 ⟨rfl, hb⟩
  refine ⟨_, rfl, ?_⟩
  have n0_ := am (Kd.R_below (rz HO218) hb)
  have n1_ := am (Kd.R_below (rz HO221) hb)
  have n2_ := am (blk_below (o := .cells #[.int .i64 a0_0, .int .i64 a0_1, .int .i64 a0_2, .int .i64 a0_3, .int .i64 a0_4] 57 (0, 0)) (kz BK214) hb)
  have n3_ := am (blk_below (o := .cells #[.int .i64 a1_0, .int .i64 a1_1, .int .i64 a1_2, .int .i64 a1_3, .int .i64 a1_4] 57 (0, 0)) (kz BK215) hb)
  have n4_ := am (below_step bz hb)
  clear HO218
  clear HO221
  clear BK214
  clear BK215
  clear HB
  have HO218 := n0_
  have HO221 := n1_
  have BK214 := n2_
  have BK215 := n3_
  have HB := n4_
  clear n0_ n1_ n2_ n3_ n4_
  (try clear hb)
  (try clear hb2)
  (try clear hk)
  (try clear hi)
  refine hK.out _ _ ⟨(blk_cell BK214.out 0).trans rfl, (blk_cell BK214.out 1).trans rfl, (blk_cell BK214.out 2).trans rfl, (blk_cell BK214.out 3).trans rfl, (blk_cell BK214.out 4).trans rfl, (blk_cell BK215.out 0).trans rfl, (blk_cell BK215.out 1).trans rfl, (blk_cell BK215.out 2).trans rfl, (blk_cell BK215.out 3).trans rfl, (blk_cell BK215.out 4).trans rfl⟩ (fun hHeld => ?_)
  clear hK K
  refine norm_ (a' := ?_) ?_ ?_
  rotate_left
  ·
   show Act.put _ (some 43) _ = _
   simp only [Act.put, aS, lZ, lS, i64_w, i32_w]
   rfl
  refine one_ (i := 19) (N := some 47) (bm 23 1048575) rfl rfl (one_of HT_.out qz) (by decide) (fun K hK => ?_)
  refine goes_ Try.func49 qz rfl #[.agg #[.int .i64 t223, .int .i64 t224], .agg #[.int .i64 t229, .int .i64 t230], .int .i64 (wrap64 ((wrap64 (a0_4 + a1_4)) * (wrap64 (a0_4 + a1_4))))] (by rfl) rfl rfl mz ?_
  with_reducible refine (geom_nearest.calls k t223 t224 t229 t230 (wrap64 ((wrap64 (a0_4 + a1_4)) * (wrap64 (a0_4 + a1_4)))) t231 _ A9.out).mono ?_
  rintro e w31 ⟨rfl, hb⟩
  refine ⟨_, rfl, ?_⟩
  have n0_ := am (Kd.R_below (rz HO218) hb)
  have n1_ := am (Kd.R_below (rz HO221) hb)
  have n2_ := am (blk_below (o := .cells #[.int .i64 a0_0, .int .i64 a0_1, .int .i64 a0_2, .int .i64 a0_3, .int .i64 a0_4] 57 (0, 0)) (kz BK214) hb)
  have n3_ := am (blk_below (o := .cells #[.int .i64 a1_0, .int .i64 a1_1, .int .i64 a1_2, .int .i64 a1_3, .int .i64 a1_4] 57 (0, 0)) (kz BK215) hb)
  have n4_ := am (below_step bz hb)
  clear HO218
  clear HO221
  clear BK214
  clear BK215
  clear HB
  have HO218 := n0_
  have HO221 := n1_
  have BK214 := n2_
  have BK215 := n3_
  have HB := n4_
  clear n0_ n1_ n2_ n3_ n4_
  (try clear hb)
  (try clear hb2)
  (try clear hk)
  (try clear hi)
  refine hK.out _ _ ⟨(blk_cell BK214.out 0).trans rfl, (blk_cell BK214.out 1).trans rfl, (blk_cell BK214.out 2).trans rfl, (blk_cell BK214.out 3).trans rfl, (blk_cell BK214.out 4).trans rfl, (blk_cell BK215.out 0).trans rfl, (blk_cell BK215.out 1).trans rfl, (blk_cell BK215.out 2).trans rfl, (blk_cell BK215.out 3).trans rfl, (blk_cell BK215.out 4).trans rfl⟩ (fun hHeld => ?_)
  clear hK K
  refine norm_ (a' := ?_) ?_ ?_
  rotate_left
  ·
   show Act.put _ (some 47) _ = _
   simp only [Act.put, aS, lZ, lS, i64_w, i32_w]
   rfl
  refine pa (i := 20) (N := some 48) (bm 23 2097151) HT_ ?_
  refine pa (i := 21) (N := some 4) (bm 23 4194303) HT_ ?_
  refine pa (i := 22) (N := some 5) (bm 23 8388607) HT_ ?_
  refine done_ (done_of HT_.out qz) ?_
  try go_wp2
  go_ret2
  exact ⟨ez, bz⟩
 ·
  replace c4 := Bool.eq_false_iff.mpr c4
  subst c4
  have H1 : (some (false, 1)) = some (r1, r2) := by rw [if_neg (show ¬ (false = true) by decide)] at H; exact H
  clear H
  have H := H1
  clear H1
  simp only [Option.some.injEq, Prod.mk.injEq] at H
  obtain ⟨rfl, rfl⟩ := H
  go_enter Try.func35, Try.ntmps35
  go_wp2_with (first | ((with_reducible refine gate_dst (N := 2) rfl ?_); refine box_event yz (N := 2) yz (cs := #[.int .i64 a0_0, .int .i64 a0_1, .int .i64 a0_2, .int .i64 a0_3, .int .i64 a0_4]) (t := 57) gz ?_; intro gb214 hg w32 hbox hb; have BK214 := am (hbox); have GW214 := gwz (g := gb214) HB hg; have GE214 := GW214; replace HB := am (below_step bz hb); clear hb hbox hg) | ((with_reducible refine gate_dst (N := 3) rfl ?_); refine box_event yz (N := 3) yz (cs := #[.int .i64 a1_0, .int .i64 a1_1, .int .i64 a1_2, .int .i64 a1_3, .int .i64 a1_4]) (t := 57) gz ?_; intro gb215 hg w33 hbox hb; have BK215 := am (hbox); have GW215 := gwz (g := gb215) HB hg; have GE215 := GW215; replace HB := am (below_step bz hb); have NB214_215 := nlt (g' := gb215) BK214 hg; have NB215_214 := ngt (g' := gb215) BK214 hg; replace BK214 := am (blk_below (o := .cells #[.int .i64 a0_0, .int .i64 a0_1, .int .i64 a0_2, .int .i64 a0_3, .int .i64 a0_4] 57 (0, 0)) (kz BK214) hb); clear hb hbox hg; have hnb34 := NB214_215.out; have hnc34 := NB215_214.out; obtain ⟨hcz35_0, hcz35_1, hcz35_2, hcz35_3, hcz35_4, hfz35_0, hfz35_1, hfz35_2, hfz35_3, hfz35_4⟩ := kc5 BK214.out; obtain ⟨hcz36_0, hcz36_1, hcz36_2, hcz36_3, hcz36_4, hfz36_0, hfz36_1, hfz36_2, hfz36_3, hfz36_4⟩ := kc5 BK215.out) | ((with_reducible refine gate_dst (N := 15) rfl ?_); refine Kd.R_lit k35 _ 35 ?hg (N := 15) ?hd (xs := ([(⟨a0_0, a0_1⟩ : S35), (⟨a0_2, a0_3⟩ : S35), (⟨a1_0, a1_1⟩ : S35), (⟨a1_2, a1_3⟩ : S35)] : List (S35))) (inner := [.int .i64 a0_0, .int .i64 a0_1, .int .i64 a0_2, .int .i64 a0_3, .int .i64 a1_0, .int .i64 a1_1, .int .i64 a1_2, .int .i64 a1_3]) (ok := fun _ => True) (okp := fun _ => True) ?hr ?hp (fun _ hk => hk) trivial (Below.refl _ _) (Nat.le_refl _) (by simp) ?_; (case hd => rfl); (case hg => rfl); (case hr => first | (go_simp; done) | (go_simp; rfl)); (case hp => exact (Reps.c2 (show Kd.M k35 _ _ _ (⟨a0_0, a0_1⟩ : S35) [.int .i64 a0_0, .int .i64 a0_1] from (k35_mkM _ _ _ (⟨a0_0, a0_1⟩ : S35) )) (Reps.c2 (show Kd.M k35 _ _ _ (⟨a0_2, a0_3⟩ : S35) [.int .i64 a0_2, .int .i64 a0_3] from (k35_mkM _ _ _ (⟨a0_2, a0_3⟩ : S35) )) (Reps.c2 (show Kd.M k35 _ _ _ (⟨a1_0, a1_1⟩ : S35) [.int .i64 a1_0, .int .i64 a1_1] from (k35_mkM _ _ _ (⟨a1_0, a1_1⟩ : S35) )) (Reps.c2 (show Kd.M k35 _ _ _ (⟨a1_2, a1_3⟩ : S35) [.int .i64 a1_2, .int .i64 a1_3] from (k35_mkM _ _ _ (⟨a1_2, a1_3⟩ : S35) )) (Reps.none _ _)))))); intro v217 w37 ho38 hb hg_ hnew_; clear hg_ hnew_; (first | rw [← Ny216.out] at ho38 | (simp only [Int.reduceToNat] at ho38; rw [← Ny216.out] at ho38)); have HO218 := am (Kd.R_lower ho38 (below_size bz)); replace BK214 := am (blk_below (o := .cells #[.int .i64 a0_0, .int .i64 a0_1, .int .i64 a0_2, .int .i64 a0_3, .int .i64 a0_4] 57 (0, 0)) (kz BK214) hb); replace BK215 := am (blk_below (o := .cells #[.int .i64 a1_0, .int .i64 a1_1, .int .i64 a1_2, .int .i64 a1_3, .int .i64 a1_4] 57 (0, 0)) (kz BK215) hb); replace HB := am (below_step bz hb); clear hb ho38; obtain ⟨hcz39_0, hcz39_1, hcz39_2, hcz39_3, hcz39_4, hfz39_0, hfz39_1, hfz39_2, hfz39_3, hfz39_4⟩ := kc5 BK214.out; obtain ⟨hcz40_0, hcz40_1, hcz40_2, hcz40_3, hcz40_4, hfz40_0, hfz40_1, hfz40_2, hfz40_3, hfz40_4⟩ := kc5 BK215.out) | ((with_reducible refine gate_dst (N := 20) rfl ?_); refine Kd.R_lit (Kd.int .i64) _ 3 ?hg (N := 20) ?hd (xs := ([a0_4, a1_4] : List Int)) (inner := [.int .i64 a0_4, .int .i64 a1_4]) (ok := fun _ => True) (okp := fun _ => True) ?hr ?hp (fun _ hk => hk) trivial (Below.refl _ _) (Nat.le_refl _) (by simp) ?_; (case hd => rfl); (case hg => rfl); (case hr => first | (go_simp; done) | (go_simp; rfl)); (case hp => exact (Reps.one (show Kd.M (Kd.int .i64) _ _ _ a0_4 [.int .i64 a0_4] from rfl) (Reps.one (show Kd.M (Kd.int .i64) _ _ _ a1_4 [.int .i64 a1_4] from rfl) (Reps.none _ _)))); intro v220 w41 ho42 hb hg_ hnew_; clear hg_ hnew_; (first | rw [← Ny219.out] at ho42 | (simp only [Int.reduceToNat] at ho42; rw [← Ny219.out] at ho42)); replace HO218 := am (Kd.R_below (rz HO218) hb); have HO221 := am (Kd.R_lower ho42 (below_size bz)); replace BK214 := am (blk_below (o := .cells #[.int .i64 a0_0, .int .i64 a0_1, .int .i64 a0_2, .int .i64 a0_3, .int .i64 a0_4] 57 (0, 0)) (kz BK214) hb); replace BK215 := am (blk_below (o := .cells #[.int .i64 a1_0, .int .i64 a1_1, .int .i64 a1_2, .int .i64 a1_3, .int .i64 a1_4] 57 (0, 0)) (kz BK215) hb); replace HB := am (below_step bz hb); clear hb ho42; obtain ⟨Ao43, co43, eo43⟩ := Kd.R_slice HO218.out; subst eo43; obtain ⟨Ao44, co44, eo44⟩ := Kd.R_slice HO221.out; subst eo44) | ((with_reducible refine gate_callee (f := 48) rfl ?_); refine goesL_ (some 21) rfl rfl Try.func48 qz rfl #[.slice Ao43 y216.length co43, .slice Ao44 y219.length co44] rfl mz ?_; (with_reducible refine (geom_valid.calls k _ _ y216 _ _ y219 false _ ?side1 ?side2 ?side3 ?side4 A3.out).mono ?_); (case side1 => repeat (first | exact (Kd.R_reads' HO218.out).2.2 | (with_reducible first | apply cA | apply cN | apply cD))); (case side2 => exact (Kd.R_reads' HO218.out).2.1); (case side3 => repeat (first | exact (Kd.R_reads' HO221.out).2.2 | (with_reducible first | apply cA | apply cN | apply cD))); (case side4 => exact (Kd.R_reads' HO221.out).2.1); rintro e w45 ⟨rfl, hb⟩; refine ⟨_, rfl, ?_⟩; replace HO218 := am (Kd.R_below (rz HO218) hb); replace HO221 := am (Kd.R_below (rz HO221) hb); replace BK214 := am (blk_below (o := .cells #[.int .i64 a0_0, .int .i64 a0_1, .int .i64 a0_2, .int .i64 a0_3, .int .i64 a0_4] 57 (0, 0)) (kz BK214) hb); replace BK215 := am (blk_below (o := .cells #[.int .i64 a1_0, .int .i64 a1_1, .int .i64 a1_2, .int .i64 a1_3, .int .i64 a1_4] 57 (0, 0)) (kz BK215) hb); replace HB := am (below_step bz hb); (try clear hb); (try clear hb2); (try clear hk); (try clear hi)))
  go_ret2
  exact ⟨ez, bz⟩

end Go.Proofs.Ytmdmajfgpmopbaa.X
