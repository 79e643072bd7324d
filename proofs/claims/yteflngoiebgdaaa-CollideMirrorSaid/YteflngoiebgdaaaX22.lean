import Derived.Test.YteflngoiebgdaaaX0
import Derived.Test.YteflngoiebgdaaaX12
import Derived.Test.YteflngoiebgdaaaX13
import Derived.Test.YteflngoiebgdaaaX21
namespace Go.Proofs.Yteflngoiebgdaaa.X
open Go.RowKit YteflngoiebgdaaaW.PrintWords YteflngoiebgdaaaW.PrintLast YteflngoiebgdaaaW.PrintMore
attribute [local go_sem] max2_int min2_int max_two min_two max_three min_three max_four min_four
set_option linter.unusedVariables false
set_option linter.unusedSimpArgs false

/-! ### geom_Touch: function 37 -/
def geom_Touch.f (k : Nat) (a0_0 a0_1 a0_2 a0_3 a0_4 a1_0 a1_1 a1_2 a1_3 a1_4 : Int) : Option (Bool × Int) := (geom_valid.f k (([(⟨a0_0, a0_1⟩ : S49), (⟨a0_2, a0_3⟩ : S49), (⟨a1_0, a1_1⟩ : S49), (⟨a1_2, a1_3⟩ : S49)] : List (S49))) (([a0_4, a1_4] : List Int))).bind fun t175 => (if t175 = true then ((geom_minus.f a0_0 a0_1 a1_0 a1_1).bind fun bt176 => ((geom_minus.f a0_2 a0_3 a0_0 a0_1).bind fun bt178 => ((geom_minus.f a1_2 a1_3 a1_0 a1_1).bind fun bt180 => ((geom_minus.f bt178.1 bt178.2 bt180.1 bt180.2).bind fun bt182 => ((geom_nearest.f k bt176.1 bt176.2 bt182.1 bt182.2 (wrap64 ((wrap64 (a0_4 + a1_4)) * (wrap64 (a0_4 + a1_4))))).bind fun t184 => (some (decide (t184 < 0), 0))))))) else (some (false, 1)))
theorem geom_Touch.mono : ∀ a0 a1 a2 a3 a4 a5 a6 a7 a8 a9 k, LeO (geom_Touch.f k a0 a1 a2 a3 a4 a5 a6 a7 a8 a9) (geom_Touch.f (k + 1) a0 a1 a2 a3 a4 a5 a6 a7 a8 a9) := by
 intro a0 a1 a2 a3 a4 a5 a6 a7 a8 a9 k
 unfold geom_Touch.f
 repeat' first
   | (with_reducible exact geom_nearest.mono _ _ _ _ _ _)
   | (with_reducible exact geom_valid.mono _ _ _)
   | (with_reducible exact LeO.refl _)
   | (with_reducible exact LeO.none _)
   | (with_reducible refine LeO.ite ?_ ?_)
   | (with_reducible refine LeO.bind ?_ (fun _ => ?_))
   | exact geom_nearest.mono _ _ _ _ _ _
   | exact geom_valid.mono _ _ _
   | exact LeO.none _
   | refine LeO.ite ?_ ?_
   | refine LeO.bind ?_ (fun _ => ?_)
def geom_Touch.T4 : Bool × List (List Nat × List Nat) := (true, [([], []), ([0], [0]), ([], []), ([2], [2]), ([1, 3], [1, 3]), ([], []), ([5], [5]), ([], []), ([7], [7]), ([6, 8, 4], [6, 8]), ([], []), ([10], [10]), ([], []), ([12], [12]), ([11, 13, 9], [11, 13]), ([9, 14, 14], [9, 14]), ([], []), ([], []), ([16, 17], [16, 17]), ([4, 15, 18, 15], [4, 15, 18]), ([19], [19]), ([20, 19, 0, 1, 2, 3, 4, 5, 6, 7, 8, 9, 10, 11, 12, 13, 14, 15, 16, 17, 18, 19, 20], [20]), ([21, 0, 1, 2, 3, 4, 5, 6, 7, 8, 9, 10, 11, 12, 13, 14, 15, 16, 17, 18, 19, 20, 21], [])])
def geom_Touch.B4 : List Nat := [0, 1, 0, 4, 15, 0, 32, 0, 128, 511, 0, 1024, 0, 4096, 16383, 32767, 0, 0, 196608, 524287, 1048575, 2097151, 4194303]
theorem geom_Touch.tab4 : rtab .any (opsOf Try.f37 4) = geom_Touch.T4 := by kernel_rfl
theorem geom_Touch.bits4 : waitsOk geom_Touch.T4.2 geom_Touch.B4 = true := by kernel_rfl
set_option maxHeartbeats 8000000 in
set_option maxRecDepth 100000 in
theorem geom_Touch.calls (k : Nat) (a0_0 a0_1 a0_2 a0_3 a0_4 a1_0 a1_1 a1_2 a1_3 a1_4 : Int) (r1 : Bool) (r2 : Int) (w : World) (h : geom_Touch.f k a0_0 a0_1 a0_2 a0_3 a0_4 a1_0 a1_1 a1_2 a1_3 a1_4 = some (r1, r2)) :
  Calls Try.prog 37 #[.agg #[.int .i64 a0_0, .int .i64 a0_1, .int .i64 a0_2, .int .i64 a0_3, .int .i64 a0_4], .agg #[.int .i64 a1_0, .int .i64 a1_1, .int .i64 a1_2, .int .i64 a1_3, .int .i64 a1_4]] w fun e w' => e = .returned (.tuple #[.bool r1, .int .i64 r2]) ∧ Below w.heap.size w w' := by
 have hu72 := Try.underlying72
 have hu49 := Try.underlying49
 have HB := am (Below.refl w.heap.size w)
 have H : ((geom_valid.f k (([(⟨a0_0, a0_1⟩ : S49), (⟨a0_2, a0_3⟩ : S49), (⟨a1_0, a1_1⟩ : S49), (⟨a1_2, a1_3⟩ : S49)] : List (S49))) (([a0_4, a1_4] : List Int))).bind fun t175 => (if t175 = true then ((geom_minus.f a0_0 a0_1 a1_0 a1_1).bind fun bt176 => ((geom_minus.f a0_2 a0_3 a0_0 a0_1).bind fun bt178 => ((geom_minus.f a1_2 a1_3 a1_0 a1_1).bind fun bt180 => ((geom_minus.f bt178.1 bt178.2 bt180.1 bt180.2).bind fun bt182 => ((geom_nearest.f k bt176.1 bt176.2 bt182.1 bt182.2 (wrap64 ((wrap64 (a0_4 + a1_4)) * (wrap64 (a0_4 + a1_4))))).bind fun t184 => (some (decide (t184 < 0), 0))))))) else (some (false, 1)))) = some (r1, r2) := h
 clear h
 obtain ⟨y169, hy169⟩ : ∃ y_ : List (S49), y_ = (([(⟨a0_0, a0_1⟩ : S49), (⟨a0_2, a0_3⟩ : S49), (⟨a1_0, a1_1⟩ : S49), (⟨a1_2, a1_3⟩ : S49)] : List (S49))) := ⟨_, rfl⟩
 replace H : ((geom_valid.f k y169 (([a0_4, a1_4] : List Int))).bind fun t175 => (if t175 = true then ((geom_minus.f a0_0 a0_1 a1_0 a1_1).bind fun bt176 => ((geom_minus.f a0_2 a0_3 a0_0 a0_1).bind fun bt178 => ((geom_minus.f a1_2 a1_3 a1_0 a1_1).bind fun bt180 => ((geom_minus.f bt178.1 bt178.2 bt180.1 bt180.2).bind fun bt182 => ((geom_nearest.f k bt176.1 bt176.2 bt182.1 bt182.2 (wrap64 ((wrap64 (a0_4 + a1_4)) * (wrap64 (a0_4 + a1_4))))).bind fun t184 => (some (decide (t184 < 0), 0))))))) else (some (false, 1)))) = some (r1, r2) := by first | (rw [hy169]; with_reducible exact H) | (have H2_ := (Option.bind_some _ _).symm.trans H; rw [hy169]; with_reducible exact H2_) | (have H2_ := (Option.bind_some _ _).symm.trans H; with_reducible exact H2_) | with_reducible exact H | (rw [hy169]; exact H) | exact H
 have Ny169 := am hy169
 clear hy169
 obtain ⟨y172, hy172⟩ : ∃ y_ : List Int, y_ = (([a0_4, a1_4] : List Int)) := ⟨_, rfl⟩
 replace H : ((geom_valid.f k y169 y172).bind fun t175 => (if t175 = true then ((geom_minus.f a0_0 a0_1 a1_0 a1_1).bind fun bt176 => ((geom_minus.f a0_2 a0_3 a0_0 a0_1).bind fun bt178 => ((geom_minus.f a1_2 a1_3 a1_0 a1_1).bind fun bt180 => ((geom_minus.f bt178.1 bt178.2 bt180.1 bt180.2).bind fun bt182 => ((geom_nearest.f k bt176.1 bt176.2 bt182.1 bt182.2 (wrap64 ((wrap64 (a0_4 + a1_4)) * (wrap64 (a0_4 + a1_4))))).bind fun t184 => (some (decide (t184 < 0), 0))))))) else (some (false, 1)))) = some (r1, r2) := by first | (rw [hy172]; with_reducible exact H) | (have H2_ := (Option.bind_some _ _).symm.trans H; rw [hy172]; with_reducible exact H2_) | (have H2_ := (Option.bind_some _ _).symm.trans H; with_reducible exact H2_) | with_reducible exact H | (rw [hy172]; exact H) | exact H
 have Ny172 := am hy172
 clear hy172
 replace H := Option.bind_eq_some_iff.mp H
 obtain ⟨t175, A30, H⟩ := H
 replace H : (if t175 = true then ((geom_minus.f a0_0 a0_1 a1_0 a1_1).bind fun bt176 => ((geom_minus.f a0_2 a0_3 a0_0 a0_1).bind fun bt178 => ((geom_minus.f a1_2 a1_3 a1_0 a1_1).bind fun bt180 => ((geom_minus.f bt178.1 bt178.2 bt180.1 bt180.2).bind fun bt182 => ((geom_nearest.f k bt176.1 bt176.2 bt182.1 bt182.2 (wrap64 ((wrap64 (a0_4 + a1_4)) * (wrap64 (a0_4 + a1_4))))).bind fun t184 => (some (decide (t184 < 0), 0))))))) else (some (false, 1))) = some (r1, r2) := H
 have A3 := am A30
 clear A30
 by_cases c4 : t175 = true
 ·
  subst c4
  have H1 : ((geom_minus.f a0_0 a0_1 a1_0 a1_1).bind fun bt176 => ((geom_minus.f a0_2 a0_3 a0_0 a0_1).bind fun bt178 => ((geom_minus.f a1_2 a1_3 a1_0 a1_1).bind fun bt180 => ((geom_minus.f bt178.1 bt178.2 bt180.1 bt180.2).bind fun bt182 => ((geom_nearest.f k bt176.1 bt176.2 bt182.1 bt182.2 (wrap64 ((wrap64 (a0_4 + a1_4)) * (wrap64 (a0_4 + a1_4))))).bind fun t184 => (some (decide (t184 < 0), 0))))))) = some (r1, r2) := by rw [if_pos rfl] at H; exact H
  clear H
  have H := H1
  clear H1
  replace H := Option.bind_eq_some_iff.mp H
  obtain ⟨⟨t176, t177⟩, A50, H⟩ := H
  replace H : ((geom_minus.f a0_2 a0_3 a0_0 a0_1).bind fun bt178 => ((geom_minus.f a1_2 a1_3 a1_0 a1_1).bind fun bt180 => ((geom_minus.f bt178.1 bt178.2 bt180.1 bt180.2).bind fun bt182 => ((geom_nearest.f k t176 t177 bt182.1 bt182.2 (wrap64 ((wrap64 (a0_4 + a1_4)) * (wrap64 (a0_4 + a1_4))))).bind fun t184 => (some (decide (t184 < 0), 0)))))) = some (r1, r2) := H
  have A5 := am A50
  clear A50
  replace H := Option.bind_eq_some_iff.mp H
  obtain ⟨⟨t178, t179⟩, A60, H⟩ := H
  replace H : ((geom_minus.f a1_2 a1_3 a1_0 a1_1).bind fun bt180 => ((geom_minus.f t178 t179 bt180.1 bt180.2).bind fun bt182 => ((geom_nearest.f k t176 t177 bt182.1 bt182.2 (wrap64 ((wrap64 (a0_4 + a1_4)) * (wrap64 (a0_4 + a1_4))))).bind fun t184 => (some (decide (t184 < 0), 0))))) = some (r1, r2) := H
  have A6 := am A60
  clear A60
  replace H := Option.bind_eq_some_iff.mp H
  obtain ⟨⟨t180, t181⟩, A70, H⟩ := H
  replace H : ((geom_minus.f t178 t179 t180 t181).bind fun bt182 => ((geom_nearest.f k t176 t177 bt182.1 bt182.2 (wrap64 ((wrap64 (a0_4 + a1_4)) * (wrap64 (a0_4 + a1_4))))).bind fun t184 => (some (decide (t184 < 0), 0)))) = some (r1, r2) := H
  have A7 := am A70
  clear A70
  replace H := Option.bind_eq_some_iff.mp H
  obtain ⟨⟨t182, t183⟩, A80, H⟩ := H
  replace H : ((geom_nearest.f k t176 t177 t182 t183 (wrap64 ((wrap64 (a0_4 + a1_4)) * (wrap64 (a0_4 + a1_4))))).bind fun t184 => (some (decide (t184 < 0), 0))) = some (r1, r2) := H
  have A8 := am A80
  clear A80
  replace H := Option.bind_eq_some_iff.mp H
  obtain ⟨t184, A90, H⟩ := H
  replace H : (some (decide (t184 < 0), 0)) = some (r1, r2) := H
  have A9 := am A90
  clear A90
  simp only [Option.some.injEq, Prod.mk.injEq] at H
  obtain ⟨rfl, rfl⟩ := H
  go_enter Try.func37, Try.ntmps37
  try go_wp2_with (first | ((with_reducible refine gate_dst (N := 2) rfl ?_); refine box_event yz (N := 2) yz (cs := #[.int .i64 a0_0, .int .i64 a0_1, .int .i64 a0_2, .int .i64 a0_3, .int .i64 a0_4]) (t := 72) gz ?_; intro gb167 hg w10 hbox hb; have BK167 := am (hbox); have GW167 := gwz (g := gb167) HB hg; have GE167 := GW167; replace HB := am (below_step bz hb); clear hb hbox hg) | ((with_reducible refine gate_dst (N := 3) rfl ?_); refine box_event yz (N := 3) yz (cs := #[.int .i64 a1_0, .int .i64 a1_1, .int .i64 a1_2, .int .i64 a1_3, .int .i64 a1_4]) (t := 72) gz ?_; intro gb168 hg w11 hbox hb; have BK168 := am (hbox); have GW168 := gwz (g := gb168) HB hg; have GE168 := GW168; replace HB := am (below_step bz hb); have NB167_168 := nlt (g' := gb168) BK167 hg; have NB168_167 := ngt (g' := gb168) BK167 hg; replace BK167 := am (blk_below (o := .cells #[.int .i64 a0_0, .int .i64 a0_1, .int .i64 a0_2, .int .i64 a0_3, .int .i64 a0_4] 72 (0, 0)) (kz BK167) hb); clear hb hbox hg; have hnb12 := NB167_168.out; have hnc12 := NB168_167.out; obtain ⟨hcz13_0, hcz13_1, hcz13_2, hcz13_3, hcz13_4, hfz13_0, hfz13_1, hfz13_2, hfz13_3, hfz13_4⟩ := kc5 BK167.out; obtain ⟨hcz14_0, hcz14_1, hcz14_2, hcz14_3, hcz14_4, hfz14_0, hfz14_1, hfz14_2, hfz14_3, hfz14_4⟩ := kc5 BK168.out) | ((with_reducible refine gate_dst (N := 15) rfl ?_); refine Kd.R_lit k49 _ 49 ?hg (N := 15) ?hd (xs := ([(⟨a0_0, a0_1⟩ : S49), (⟨a0_2, a0_3⟩ : S49), (⟨a1_0, a1_1⟩ : S49), (⟨a1_2, a1_3⟩ : S49)] : List (S49))) (inner := [.int .i64 a0_0, .int .i64 a0_1, .int .i64 a0_2, .int .i64 a0_3, .int .i64 a1_0, .int .i64 a1_1, .int .i64 a1_2, .int .i64 a1_3]) (ok := fun _ => True) (okp := fun _ => True) ?hr ?hp (fun _ hk => hk) trivial (Below.refl _ _) (Nat.le_refl _) (by simp) ?_; (case hd => rfl); (case hg => rfl); (case hr => first | (go_simp; done) | (go_simp; rfl)); (case hp => exact (Reps.c2 (show Kd.M k49 _ _ _ (⟨a0_0, a0_1⟩ : S49) [.int .i64 a0_0, .int .i64 a0_1] from (k49_mkM _ _ _ (⟨a0_0, a0_1⟩ : S49) )) (Reps.c2 (show Kd.M k49 _ _ _ (⟨a0_2, a0_3⟩ : S49) [.int .i64 a0_2, .int .i64 a0_3] from (k49_mkM _ _ _ (⟨a0_2, a0_3⟩ : S49) )) (Reps.c2 (show Kd.M k49 _ _ _ (⟨a1_0, a1_1⟩ : S49) [.int .i64 a1_0, .int .i64 a1_1] from (k49_mkM _ _ _ (⟨a1_0, a1_1⟩ : S49) )) (Reps.c2 (show Kd.M k49 _ _ _ (⟨a1_2, a1_3⟩ : S49) [.int .i64 a1_2, .int .i64 a1_3] from (k49_mkM _ _ _ (⟨a1_2, a1_3⟩ : S49) )) (Reps.none _ _)))))); intro v170 w15 ho16 hb hg_ hnew_; clear hg_ hnew_; (first | rw [← Ny169.out] at ho16 | (simp only [Int.reduceToNat] at ho16; rw [← Ny169.out] at ho16)); have HO171 := am (Kd.R_lower ho16 (below_size bz)); replace BK167 := am (blk_below (o := .cells #[.int .i64 a0_0, .int .i64 a0_1, .int .i64 a0_2, .int .i64 a0_3, .int .i64 a0_4] 72 (0, 0)) (kz BK167) hb); replace BK168 := am (blk_below (o := .cells #[.int .i64 a1_0, .int .i64 a1_1, .int .i64 a1_2, .int .i64 a1_3, .int .i64 a1_4] 72 (0, 0)) (kz BK168) hb); replace HB := am (below_step bz hb); clear hb ho16; obtain ⟨hcz17_0, hcz17_1, hcz17_2, hcz17_3, hcz17_4, hfz17_0, hfz17_1, hfz17_2, hfz17_3, hfz17_4⟩ := kc5 BK167.out; obtain ⟨hcz18_0, hcz18_1, hcz18_2, hcz18_3, hcz18_4, hfz18_0, hfz18_1, hfz18_2, hfz18_3, hfz18_4⟩ := kc5 BK168.out) | ((with_reducible refine gate_dst (N := 20) rfl ?_); refine Kd.R_lit (Kd.int .i64) _ 3 ?hg (N := 20) ?hd (xs := ([a0_4, a1_4] : List Int)) (inner := [.int .i64 a0_4, .int .i64 a1_4]) (ok := fun _ => True) (okp := fun _ => True) ?hr ?hp (fun _ hk => hk) trivial (Below.refl _ _) (Nat.le_refl _) (by simp) ?_; (case hd => rfl); (case hg => rfl); (case hr => first | (go_simp; done) | (go_simp; rfl)); (case hp => exact (Reps.one (show Kd.M (Kd.int .i64) _ _ _ a0_4 [.int .i64 a0_4] from rfl) (Reps.one (show Kd.M (Kd.int .i64) _ _ _ a1_4 [.int .i64 a1_4] from rfl) (Reps.none _ _)))); intro v173 w19 ho20 hb hg_ hnew_; clear hg_ hnew_; (first | rw [← Ny172.out] at ho20 | (simp only [Int.reduceToNat] at ho20; rw [← Ny172.out] at ho20)); replace HO171 := am (Kd.R_below (rz HO171) hb); have HO174 := am (Kd.R_lower ho20 (below_size bz)); replace BK167 := am (blk_below (o := .cells #[.int .i64 a0_0, .int .i64 a0_1, .int .i64 a0_2, .int .i64 a0_3, .int .i64 a0_4] 72 (0, 0)) (kz BK167) hb); replace BK168 := am (blk_below (o := .cells #[.int .i64 a1_0, .int .i64 a1_1, .int .i64 a1_2, .int .i64 a1_3, .int .i64 a1_4] 72 (0, 0)) (kz BK168) hb); replace HB := am (below_step bz hb); clear hb ho20; obtain ⟨Ao21, co21, eo21⟩ := Kd.R_slice HO171.out; subst eo21; obtain ⟨Ao22, co22, eo22⟩ := Kd.R_slice HO174.out; subst eo22) | ((with_reducible refine gate_callee (f := 52) rfl ?_); refine goesL_ (some 21) rfl rfl Try.func52 qz rfl #[.slice Ao21 y169.length co21, .slice Ao22 y172.length co22] rfl mz ?_; (with_reducible refine (geom_valid.calls k _ _ y169 _ _ y172 true _ ?side1 ?side2 ?side3 ?side4 A3.out).mono ?_); (case side1 => repeat (first | exact (Kd.R_reads' HO171.out).2.2 | (with_reducible first | apply cA | apply cN | apply cD))); (case side2 => exact (Kd.R_reads' HO171.out).2.1); (case side3 => repeat (first | exact (Kd.R_reads' HO174.out).2.2 | (with_reducible first | apply cA | apply cN | apply cD))); (case side4 => exact (Kd.R_reads' HO174.out).2.1); rintro e w23 ⟨rfl, hb⟩; refine ⟨_, rfl, ?_⟩; replace HO171 := am (Kd.R_below (rz HO171) hb); replace HO174 := am (Kd.R_below (rz HO174) hb); replace BK167 := am (blk_below (o := .cells #[.int .i64 a0_0, .int .i64 a0_1, .int .i64 a0_2, .int .i64 a0_3, .int .i64 a0_4] 72 (0, 0)) (kz BK167) hb); replace BK168 := am (blk_below (o := .cells #[.int .i64 a1_0, .int .i64 a1_1, .int .i64 a1_2, .int .i64 a1_3, .int .i64 a1_4] 72 (0, 0)) (kz BK168) hb); replace HB := am (below_step bz hb); (try clear hb); (try clear hb2); (try clear hk); (try clear hi); obtain ⟨hcz24_0, hcz24_1, hcz24_2, hcz24_3, hcz24_4, hfz24_0, hfz24_1, hfz24_2, hfz24_3, hfz24_4⟩ := kc5 BK167.out; obtain ⟨hcz25_0, hcz25_1, hcz25_2, hcz25_3, hcz25_4, hfz25_0, hfz25_1, hfz25_2, hfz25_3, hfz25_4⟩ := kc5 BK168.out))
  have n0_ := am (Kd.R_drew HO171.out)
  have n1_ := am (Kd.R_drew HO174.out)
  have n2_ := am (blk_drew BK167.out)
  have n3_ := am (blk_drew BK168.out)
  have n4_ := am (below_drew1 HB.out)
  clear HO171
  clear HO174
  clear BK167
  clear BK168
  clear HB
  have HO171 := n0_
  have HO174 := n1_
  have BK167 := n2_
  have BK168 := n3_
  have HB := n4_
  clear n0_ n1_ n2_ n3_ n4_
  refine start_ (n := 23) (S := fun w' => w'.cell? ⟨gb167, 0, none⟩ = some (.int .i64 a0_0) ∧ w'.cell? ⟨gb167, 1, none⟩ = some (.int .i64 a0_1) ∧ w'.cell? ⟨gb167, 2, none⟩ = some (.int .i64 a0_2) ∧ w'.cell? ⟨gb167, 3, none⟩ = some (.int .i64 a0_3) ∧ w'.cell? ⟨gb167, 4, none⟩ = some (.int .i64 a0_4) ∧ w'.cell? ⟨gb168, 0, none⟩ = some (.int .i64 a1_0) ∧ w'.cell? ⟨gb168, 1, none⟩ = some (.int .i64 a1_1) ∧ w'.cell? ⟨gb168, 2, none⟩ = some (.int .i64 a1_2) ∧ w'.cell? ⟨gb168, 3, none⟩ = some (.int .i64 a1_3) ∧ w'.cell? ⟨gb168, 4, none⟩ = some (.int .i64 a1_4)) (ds := []) (bm 23 0) qz rfl rfl ⟨(blk_cell BK167.out 0).trans rfl, (blk_cell BK167.out 1).trans rfl, (blk_cell BK167.out 2).trans rfl, (blk_cell BK167.out 3).trans rfl, (blk_cell BK167.out 4).trans rfl, (blk_cell BK168.out 0).trans rfl, (blk_cell BK168.out 1).trans rfl, (blk_cell BK168.out 2).trans rfl, (blk_cell BK168.out 3).trans rfl, (blk_cell BK168.out 4).trans rfl⟩ (fun hHeld => ?_); refine with_tabW geom_Touch.tab4 geom_Touch.bits4 (fun HT_ HW_ => ?_)
  generalize w23.drew = w26 at HO171 HO174 BK167 BK168 HB hHeld ⊢
  refine pa (i := 0) (N := some 28) (bm 23 1) HT_ ?_
  refine pa (i := 2) (N := some 30) (bm 23 5) HT_ ?_
  refine pa (i := 5) (N := some 33) (bm 23 37) HT_ ?_
  refine pa (i := 7) (N := some 35) (bm 23 165) HT_ ?_
  refine pa (i := 10) (N := some 38) (bm 23 1189) HT_ ?_
  refine pa (i := 12) (N := some 40) (bm 23 5285) HT_ ?_
  refine pa (i := 16) (N := some 44) (bm 23 70821) HT_ ?_
  refine pa (i := 17) (N := some 45) (bm 23 201893) HT_ ?_
  refine pa (i := 18) (N := some 46) (bm 23 464037) HT_ ?_
  refine take_ (i := 1) (N := some 29) (v := ?_) (a' := ?_) (bm 23 464039) rfl rfl (take_ofW HT_.out HW_.out qz) iz (Or.inl ⟨by rfl, ?_⟩) hHeld ?_ ?_
  rotate_left
  ·
   rintro w' ⟨s0, s1, s2, s3, s4, s5, s6, s7, s8, s9⟩
   go_simp
   with_reducible rfl
  rotate_left
  ·
   simp only [Act.put, aS, lZ, lS, i64_w, i32_w]
   rfl
  refine take_ (i := 3) (N := some 31) (v := ?_) (a' := ?_) (bm 23 464047) rfl rfl (take_ofW HT_.out HW_.out qz) iz (Or.inl ⟨by rfl, ?_⟩) hHeld ?_ ?_
  rotate_left
  ·
   rintro w' ⟨s0, s1, s2, s3, s4, s5, s6, s7, s8, s9⟩
   go_simp
   with_reducible rfl
  rotate_left
  ·
   simp only [Act.put, aS, lZ, lS, i64_w, i32_w]
   rfl
  refine take_ (i := 6) (N := some 34) (v := ?_) (a' := ?_) (bm 23 464111) rfl rfl (take_ofW HT_.out HW_.out qz) iz (Or.inl ⟨by rfl, ?_⟩) hHeld ?_ ?_
  rotate_left
  ·
   rintro w' ⟨s0, s1, s2, s3, s4, s5, s6, s7, s8, s9⟩
   go_simp
   with_reducible rfl
  rotate_left
  ·
   simp only [Act.put, aS, lZ, lS, i64_w, i32_w]
   rfl
  refine take_ (i := 8) (N := some 36) (v := ?_) (a' := ?_) (bm 23 464367) rfl rfl (take_ofW HT_.out HW_.out qz) iz (Or.inl ⟨by rfl, ?_⟩) hHeld ?_ ?_
  rotate_left
  ·
   rintro w' ⟨s0, s1, s2, s3, s4, s5, s6, s7, s8, s9⟩
   go_simp
   with_reducible rfl
  rotate_left
  ·
   simp only [Act.put, aS, lZ, lS, i64_w, i32_w]
   rfl
  refine take_ (i := 11) (N := some 39) (v := ?_) (a' := ?_) (bm 23 466415) rfl rfl (take_ofW HT_.out HW_.out qz) iz (Or.inl ⟨by rfl, ?_⟩) hHeld ?_ ?_
  rotate_left
  ·
   rintro w' ⟨s0, s1, s2, s3, s4, s5, s6, s7, s8, s9⟩
   go_simp
   with_reducible rfl
  rotate_left
  ·
   simp only [Act.put, aS, lZ, lS, i64_w, i32_w]
   rfl
  refine take_ (i := 13) (N := some 41) (v := ?_) (a' := ?_) (bm 23 474607) rfl rfl (take_ofW HT_.out HW_.out qz) iz (Or.inl ⟨by rfl, ?_⟩) hHeld ?_ ?_
  rotate_left
  ·
   rintro w' ⟨s0, s1, s2, s3, s4, s5, s6, s7, s8, s9⟩
   go_simp
   with_reducible rfl
  rotate_left
  ·
   simp only [Act.put, aS, lZ, lS, i64_w, i32_w]
   rfl
  refine one_ (i := 4) (N := some 32) (bm 23 474623) rfl rfl (one_of HT_.out qz) (by decide) (fun K hK => ?_)
  refine goes_ Try.func53 qz rfl #[.agg #[.int .i64 a0_0, .int .i64 a0_1], .agg #[.int .i64 a1_0, .int .i64 a1_1]] (by rfl) rfl rfl mz ?_
  with_reducible refine (geom_minus.calls a0_0 a0_1 a1_0 a1_1 t176 t177 _ A5.out).mono ?_
  rintro e w27 ⟨rfl, hb⟩
  refine ⟨_, rfl, ?_⟩
  have n0_ := am (Kd.R_below (rz HO171) hb)
  have n1_ := am (Kd.R_below (rz HO174) hb)
  have n2_ := am (blk_below (o := .cells #[.int .i64 a0_0, .int .i64 a0_1, .int .i64 a0_2, .int .i64 a0_3, .int .i64 a0_4] 72 (0, 0)) (kz BK167) hb)
  have n3_ := am (blk_below (o := .cells #[.int .i64 a1_0, .int .i64 a1_1, .int .i64 a1_2, .int .i64 a1_3, .int .i64 a1_4] 72 (0, 0)) (kz BK168) hb)
  have n4_ := am (below_step bz hb)
  clear HO171
  clear HO174
  clear BK167
  clear BK168
  clear HB
  have HO171 := n0_
  have HO174 := n1_
  have BK167 := n2_
  have BK168 := n3_
  have HB := n4_
  clear n0_ n1_ n2_ n3_ n4_
  (try clear hb)
  (try clear hb2)
  (try clear hk)
  (try clear hi)
  refine hK.out _ _ ⟨(blk_cell BK167.out 0).trans rfl, (blk_cell BK167.out 1).trans rfl, (blk_cell BK167.out 2).trans rfl, (blk_cell BK167.out 3).trans rfl, (blk_cell BK167.out 4).trans rfl, (blk_cell BK168.out 0).trans rfl, (blk_cell BK168.out 1).trans rfl, (blk_cell BK168.out 2).trans rfl, (blk_cell BK168.out 3).trans rfl, (blk_cell BK168.out 4).trans rfl⟩ (fun hHeld => ?_)
  clear hK K
  refine norm_ (a' := ?_) ?_ ?_
  rotate_left
  ·
   show Act.put _ (some 32) _ = _
   simp only [Act.put, aS, lZ, lS, i64_w, i32_w]
   rfl
  refine one_ (i := 9) (N := some 37) (bm 23 475135) rfl rfl (one_of HT_.out qz) (by decide) (fun K hK => ?_)
  refine goes_ Try.func53 qz rfl #[.agg #[.int .i64 a0_2, .int .i64 a0_3], .agg #[.int .i64 a0_0, .int .i64 a0_1]] (by rfl) rfl rfl mz ?_
  with_reducible refine (geom_minus.calls a0_2 a0_3 a0_0 a0_1 t178 t179 _ A6.out).mono ?_
  rintro e w28 ⟨rfl, hb⟩
  refine ⟨_, rfl, ?_⟩
  have n0_ := am (Kd.R_below (rz HO171) hb)
  have n1_ := am (Kd.R_below (rz HO174) hb)
  have n2_ := am (blk_below (o := .cells #[.int .i64 a0_0, .int .i64 a0_1, .int .i64 a0_2, .int .i64 a0_3, .int .i64 a0_4] 72 (0, 0)) (kz BK167) hb)
  have n3_ := am (blk_below (o := .cells #[.int .i64 a1_0, .int .i64 a1_1, .int .i64 a1_2, .int .i64 a1_3, .int .i64 a1_4] 72 (0, 0)) (kz BK168) hb)
  have n4_ := am (below_step bz hb)
  clear HO171
  clear HO174
  clear BK167
  clear BK168
  clear HB
  have HO171 := n0_
  have HO174 := n1_
  have BK167 := n2_
  have BK168 := n3_
  have HB := n4_
  clear n0_ n1_ n2_ n3_ n4_
  (try clear hb)
  (try clear hb2)
  (try clear hk)
  (try clear hi)
  refine hK.out _ _ ⟨(blk_cell BK167.out 0).trans rfl, (blk_cell BK167.out 1).trans rfl, (blk_cell BK167.out 2).trans rfl, (blk_cell BK167.out 3).trans rfl, (blk_cell BK167.out 4).trans rfl, (blk_cell BK168.out 0).trans rfl, (blk_cell BK168.out 1).trans rfl, (blk_cell BK168.out 2).trans rfl, (blk_cell BK168.out 3).trans rfl, (blk_cell BK168.out 4).trans rfl⟩ (fun hHeld => ?_)
  clear hK K
  refine norm_ (a' := ?_) ?_ ?_
  rotate_left
  ·
   show Act.put _ (some 37) _ = _
   simp only [Act.put, aS, lZ, lS, i64_w, i32_w]
   rfl
  refine one_ (i := 14) (N := some 42) (bm 23 491519) rfl rfl (one_of HT_.out qz) (by decide) (fun K hK => ?_)
  refine goes_ Try.func53 qz rfl #[.agg #[.int .i64 a1_2, .int .i64 a1_3], .agg #[.int .i64 a1_0, .int .i64 a1_1]] (by rfl) rfl rfl mz ?_
  with_reducible refine (geom_minus.calls a1_2 a1_3 a1_0 a1_1 t180 t181 _ A7.out).mono ?_
  rintro e w29 ⟨rfl, hb⟩
  refine ⟨_, rfl, ?_⟩
  have n0_ := am (Kd.R_below (rz HO171) hb)
  have n1_ := am (Kd.R_below (rz HO174) hb)
  have n2_ := am (blk_below (o := .cells #[.int .i64 a0_0, .int .i64 a0_1, .int .i64 a0_2, .int .i64 a0_3, .int .i64 a0_4] 72 (0, 0)) (kz BK167) hb)
  have n3_ := am (blk_below (o := .cells #[.int .i64 a1_0, .int .i64 a1_1, .int .i64 a1_2, .int .i64 a1_3, .int .i64 a1_4] 72 (0, 0)) (kz BK168) hb)
  have n4_ := am (below_step bz hb)
  clear HO171
  clear HO174
  clear BK167
  clear BK168
  clear HB
  have HO171 := n0_
  have HO174 := n1_
  have BK167 := n2_
  have BK168 := n3_
  have HB := n4_
  clear n0_ n1_ n2_ n3_ n4_
  (try clear hb)
  (try clear hb2)
  (try clear hk)
  (try clear hi)
  refine hK.out _ _ ⟨(blk_cell BK167.out 0).trans rfl, (blk_cell BK167.out 1).trans rfl, (blk_cell BK167.out 2).trans rfl, (blk_cell BK167.out 3).trans rfl, (blk_cell BK167.out 4).trans rfl, (blk_cell BK168.out 0).trans rfl, (blk_cell BK168.out 1).trans rfl, (blk_cell BK168.out 2).trans rfl, (blk_cell BK168.out 3).trans rfl, (blk_cell BK168.out 4).trans rfl⟩ (fun hHeld => ?_)
  clear hK K
  refine norm_ (a' := ?_) ?_ ?_
  rotate_left
  ·
   show Act.put _ (some 42) _ = _
   simp only [Act.put, aS, lZ, lS, i64_w, i32_w]
   rfl
  refine one_ (i := 15) (N := some 43) (bm 23 524287) rfl rfl (one_of HT_.out qz) (by decide) (fun K hK => ?_)
  refine goes_ Try.func53 qz rfl #[.agg #[.int .i64 t178, .int .i64 t179], .agg #[.int .i64 t180, .int .i64 t181]] (by rfl) rfl rfl mz ?_
  with_reducible refine (geom_minus.calls t178 t179 t180 t181 t182 t183 _ A8.out).mono ?_
  rintro e w30 ⟨rfl, hb⟩
  refine ⟨_, rfl, ?_⟩
  have n0_ := am (Kd.R_below (rz HO171) hb)
  have n1_ := am (Kd.R_below (rz HO174) hb)
  have n2_ := am (blk_below (o := .cells #[.int .i64 a0_0, .int .i64 a0_1, .int .i64 a0_2, .int .i64 a0_3, .int .i64 a0_4] 72 (0, 0)) (kz BK167) hb)
  have n3_ := am (blk_below (o := .cells #[.int .i64 a1_0, .int .i64 a1_1, .int .i64 a1_2, .int .i64 a1_3, .int .i64 a1_4] 72 (0, 0)) (kz BK168) hb)
  have n4_ := am (below_step bz hb)
  clear HO171
  clear HO174
  clear BK167
  clear BK168
  clear HB
  have HO171 := n0_
  have HO174 := n1_
  have BK167 := n2_
  have BK168 := n3_
  have HB := n4_
  clear n0_ n1_ n2_ n3_ n4_
  (try clear hb)
  (try clear hb2)
  (try clear hk)
  (try clear hi)
  refine hK.out _ _ ⟨(blk_cell BK167.out 0).trans rfl, (blk_cell BK167.out 1).trans rfl, (blk_cell BK167.out 2).trans rfl, (blk_cell BK167.out 3).trans rfl, (blk_cell BK167.out 4).trans rfl, (blk_cell BK168.out 0).trans rfl, (blk_cell BK168.out 1).trans rfl, (blk_cell BK168.out 2).trans rfl, (blk_cell BK168.out 3).trans rfl, (blk_cell BK168.out 4).trans rfl⟩ (fun hHeld => ?_)
  clear hK K
  refine norm_ (a' := ?_) ?_ ?_
  rotate_left
  ·
   show Act.put _ (some 43) _ = _
   simp only [Act.put, aS, lZ, lS, i64_w, i32_w]
   rfl
  refine one_ (i := 19) (N := some 47) (bm 23 1048575) rfl rfl (one_of HT_.out qz) (by decide) (fun K hK => ?_)
  refine goes_ Try.func60 qz rfl #[.agg #[.int .i64 t176, .int .i64 t177], .agg #[.int .i64 t182, .int .i64 t183], .int .i64 (wrap64 ((wrap64 (a0_4 + a1_4)) * (wrap64 (a0_4 + a1_4))))] (by rfl) rfl rfl mz ?_
  with_reducible refine (geom_nearest.calls k t176 t177 t182 t183 (wrap64 ((wrap64 (a0_4 + a1_4)) * (wrap64 (a0_4 + a1_4)))) t184 _ A9.out).mono ?_
  rintro e w31 ⟨rfl, hb⟩
  refine ⟨_, rfl, ?_⟩
  have n0_ := am (Kd.R_below (rz HO171) hb)
  have n1_ := am (Kd.R_below (rz HO174) hb)
  have n2_ := am (blk_below (o := .cells #[.int .i64 a0_0, .int .i64 a0_1, .int .i64 a0_2, .int .i64 a0_3, .int .i64 a0_4] 72 (0, 0)) (kz BK167) hb)
  have n3_ := am (blk_below (o := .cells #[.int .i64 a1_0, .int .i64 a1_1, .int .i64 a1_2, .int .i64 a1_3, .int .i64 a1_4] 72 (0, 0)) (kz BK168) hb)
  have n4_ := am (below_step bz hb)
  clear HO171
  clear HO174
  clear BK167
  clear BK168
  clear HB
  have HO171 := n0_
  have HO174 := n1_
  have BK167 := n2_
  have BK168 := n3_
  have HB := n4_
  clear n0_ n1_ n2_ n3_ n4_
  (try clear hb)
  (try clear hb2)
  (try clear hk)
  (try clear hi)
  refine hK.out _ _ ⟨(blk_cell BK167.out 0).trans rfl, (blk_cell BK167.out 1).trans rfl, (blk_cell BK167.out 2).trans rfl, (blk_cell BK167.out 3).trans rfl, (blk_cell BK167.out 4).trans rfl, (blk_cell BK168.out 0).trans rfl, (blk_cell BK168.out 1).trans rfl, (blk_cell BK168.out 2).trans rfl, (blk_cell BK168.out 3).trans rfl, (blk_cell BK168.out 4).trans rfl⟩ (fun hHeld => ?_)
  clear hK K
  refine norm_ (a' := ?_) ?_ ?_
  rotate_left
  ·
   show Act.put _ (some 47) _ = _
   simp only [Act.put, aS, lZ, lS, i64_w, i32_w]
   rfl
  refine pa (i := 20) (N := some 48) (bm 23 2097151) HT_ ?_
  refine pa (i := 21) (N := some 4) (bm 23 4194303) HT_ ?_
  refine pa (i := 22) (N := some 5) (bm 23 8388607) HT_ ?_
  refine done_ (done_of HT_.out qz) ?_
  try go_wp2
  go_ret2
  exact ⟨ez, bz⟩
 ·
  replace c4 := Bool.eq_false_iff.mpr c4
  subst c4
  have H1 : (some (false, 1)) = some (r1, r2) := by rw [if_neg (show ¬ (false = true) by decide)] at H; exact H
  clear H
  have H := H1
  clear H1
  simp only [Option.some.injEq, Prod.mk.injEq] at H
  obtain ⟨rfl, rfl⟩ := H
  go_enter Try.func37, Try.ntmps37
  go_wp2_with (first | ((with_reducible refine gate_dst (N := 2) rfl ?_); refine box_event yz (N := 2) yz (cs := #[.int .i64 a0_0, .int .i64 a0_1, .int .i64 a0_2, .int .i64 a0_3, .int .i64 a0_4]) (t := 72) gz ?_; intro gb167 hg w32 hbox hb; have BK167 := am (hbox); have GW167 := gwz (g := gb167) HB hg; have GE167 := GW167; replace HB := am (below_step bz hb); clear hb hbox hg) | ((with_reducible refine gate_dst (N := 3) rfl ?_); refine box_event yz (N := 3) yz (cs := #[.int .i64 a1_0, .int .i64 a1_1, .int .i64 a1_2, .int .i64 a1_3, .int .i64 a1_4]) (t := 72) gz ?_; intro gb168 hg w33 hbox hb; have BK168 := am (hbox); have GW168 := gwz (g := gb168) HB hg; have GE168 := GW168; replace HB := am (below_step bz hb); have NB167_168 := nlt (g' := gb168) BK167 hg; have NB168_167 := ngt (g' := gb168) BK167 hg; replace BK167 := am (blk_below (o := .cells #[.int .i64 a0_0, .int .i64 a0_1, .int .i64 a0_2, .int .i64 a0_3, .int .i64 a0_4] 72 (0, 0)) (kz BK167) hb); clear hb hbox hg; have hnb34 := NB167_168.out; have hnc34 := NB168_167.out; obtain ⟨hcz35_0, hcz35_1, hcz35_2, hcz35_3, hcz35_4, hfz35_0, hfz35_1, hfz35_2, hfz35_3, hfz35_4⟩ := kc5 BK167.out; obtain ⟨hcz36_0, hcz36_1, hcz36_2, hcz36_3, hcz36_4, hfz36_0, hfz36_1, hfz36_2, hfz36_3, hfz36_4⟩ := kc5 BK168.out) | ((with_reducible refine gate_dst (N := 15) rfl ?_); refine Kd.R_lit k49 _ 49 ?hg (N := 15) ?hd (xs := ([(⟨a0_0, a0_1⟩ : S49), (⟨a0_2, a0_3⟩ : S49), (⟨a1_0, a1_1⟩ : S49), (⟨a1_2, a1_3⟩ : S49)] : List (S49))) (inner := [.int .i64 a0_0, .int .i64 a0_1, .int .i64 a0_2, .int .i64 a0_3, .int .i64 a1_0, .int .i64 a1_1, .int .i64 a1_2, .int .i64 a1_3]) (ok := fun _ => True) (okp := fun _ => True) ?hr ?hp (fun _ hk => hk) trivial (Below.refl _ _) (Nat.le_refl _) (by simp) ?_; (case hd => rfl); (case hg => rfl); (case hr => first | (go_simp; done) | (go_simp; rfl)); (case hp => exact (Reps.c2 (show Kd.M k49 _ _ _ (⟨a0_0, a0_1⟩ : S49) [.int .i64 a0_0, .int .i64 a0_1] from (k49_mkM _ _ _ (⟨a0_0, a0_1⟩ : S49) )) (Reps.c2 (show Kd.M k49 _ _ _ (⟨a0_2, a0_3⟩ : S49) [.int .i64 a0_2, .int .i64 a0_3] from (k49_mkM _ _ _ (⟨a0_2, a0_3⟩ : S49) )) (Reps.c2 (show Kd.M k49 _ _ _ (⟨a1_0, a1_1⟩ : S49) [.int .i64 a1_0, .int .i64 a1_1] from (k49_mkM _ _ _ (⟨a1_0, a1_1⟩ : S49) )) (Reps.c2 (show Kd.M k49 _ _ _ (⟨a1_2, a1_3⟩ : S49) [.int .i64 a1_2, .int .i64 a1_3] from (k49_mkM _ _ _ (⟨a1_2, a1_3⟩ : S49) )) (Reps.none _ _)))))); intro v170 w37 ho38 hb hg_ hnew_; clear hg_ hnew_; (first | rw [← Ny169.out] at ho38 | (simp only [Int.reduceToNat] at ho38; rw [← Ny169.out] at ho38)); have HO171 := am (Kd.R_lower ho38 (below_size bz)); replace BK167 := am (blk_below (o := .cells #[.int .i64 a0_0, .int .i64 a0_1, .int .i64 a0_2, .int .i64 a0_3, .int .i64 a0_4] 72 (0, 0)) (kz BK167) hb); replace BK168 := am (blk_below (o := .cells #[.int .i64 a1_0, .int .i64 a1_1, .int .i64 a1_2, .int .i64 a1_3, .int .i64 a1_4] 72 (0, 0)) (kz BK168) hb); replace HB := am (below_step bz hb); clear hb ho38; obtain ⟨hcz39_0, hcz39_1, hcz39_2, hcz39_3, hcz39_4, hfz39_0, hfz39_1, hfz39_2, hfz39_3, hfz39_4⟩ := kc5 BK167.out; obtain ⟨hcz40_0, hcz40_1, hcz40_2, hcz40_3, hcz40_4, hfz40_0, hfz40_1, hfz40_2, hfz40_3, hfz40_4⟩ := kc5 BK168.out) | ((with_reducible refine gate_dst (N := 20) rfl ?_); refine Kd.R_lit (Kd.int .i64) _ 3 ?hg (N := 20) ?hd (xs := ([a0_4, a1_4] : List Int)) (inner := [.int .i64 a0_4, .int .i64 a1_4]) (ok := fun _ => True) (okp := fun _ => True) ?hr ?hp (fun _ hk => hk) trivial (Below.refl _ _) (Nat.le_refl _) (by simp) ?_; (case hd => rfl); (case hg => rfl); (case hr => first | (go_simp; done) | (go_simp; rfl)); (case hp => exact (Reps.one (show Kd.M (Kd.int .i64) _ _ _ a0_4 [.int .i64 a0_4] from rfl) (Reps.one (show Kd.M (Kd.int .i64) _ _ _ a1_4 [.int .i64 a1_4] from rfl) (Reps.none _ _)))); intro v173 w41 ho42 hb hg_ hnew_; clear hg_ hnew_; (first | rw [← Ny172.out] at ho42 | (simp only [Int.reduceToNat] at ho42; rw [← Ny172.out] at ho42)); replace HO171 := am (Kd.R_below (rz HO171) hb); have HO174 := am (Kd.R_lower ho42 (below_size bz)); replace BK167 := am (blk_below (o := .cells #[.int .i64 a0_0, .int .i64 a0_1, .int .i64 a0_2, .int .i64 a0_3, .int .i64 a0_4] 72 (0, 0)) (kz BK167) hb); replace BK168 := am (blk_below (o := .cells #[.int .i64 a1_0, .int .i64 a1_1, .int .i64 a1_2, .int .i64 a1_3, .int .i64 a1_4] 72 (0, 0)) (kz BK168) hb); replace HB := am (below_step bz hb); clear hb ho42; obtain ⟨Ao43, co43, eo43⟩ := Kd.R_slice HO171.out; subst eo43; obtain ⟨Ao44, co44, eo44⟩ := Kd.R_slice HO174.out; subst eo44) | ((with_reducible refine gate_callee (f := 52) rfl ?_); refine goesL_ (some 21) rfl rfl Try.func52 qz rfl #[.slice Ao43 y169.length co43, .slice Ao44 y172.length co44] rfl mz ?_; (with_reducible refine (geom_valid.calls k _ _ y169 _ _ y172 false _ ?side1 ?side2 ?side3 ?side4 A3.out).mono ?_); (case side1 => repeat (first | exact (Kd.R_reads' HO171.out).2.2 | (with_reducible first | apply cA | apply cN | apply cD))); (case side2 => exact (Kd.R_reads' HO171.out).2.1); (case side3 => repeat (first | exact (Kd.R_reads' HO174.out).2.2 | (with_reducible first | apply cA | apply cN | apply cD))); (case side4 => exact (Kd.R_reads' HO174.out).2.1); rintro e w45 ⟨rfl, hb⟩; refine ⟨_, rfl, ?_⟩; replace HO171 := am (Kd.R_below (rz HO171) hb); replace HO174 := am (Kd.R_below (rz HO174) hb); replace BK167 := am (blk_below (o := .cells #[.int .i64 a0_0, .int .i64 a0_1, .int .i64 a0_2, .int .i64 a0_3, .int .i64 a0_4] 72 (0, 0)) (kz BK167) hb); replace BK168 := am (blk_below (o := .cells #[.int .i64 a1_0, .int .i64 a1_1, .int .i64 a1_2, .int .i64 a1_3, .int .i64 a1_4] 72 (0, 0)) (kz BK168) hb); replace HB := am (below_step bz hb); (try clear hb); (try clear hb2); (try clear hk); (try clear hi)))
  go_ret2
  exact ⟨ez, bz⟩

end Go.Proofs.Yteflngoiebgdaaa.X
