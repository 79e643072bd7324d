import Derived.Test.YteflngoiebgdaaaX0
import Derived.Test.YteflngoiebgdaaaX12
import Derived.Test.YteflngoiebgdaaaX13
import Derived.Test.YteflngoiebgdaaaX14
namespace Go.Proofs.Yteflngoiebgdaaa.X
open Go.RowKit YteflngoiebgdaaaW.PrintWords YteflngoiebgdaaaW.PrintLast YteflngoiebgdaaaW.PrintMore
attribute [local go_sem] max2_int min2_int max_two min_two max_three min_three max_four min_four
set_option linter.unusedVariables false
set_option linter.unusedSimpArgs false

/-! ### geom_Dist2: function 33 -/
def geom_Dist2.f (k : Nat) (a0_0 a0_1 a1_0 a1_1 : Int) : Option (Int × Int) := (geom_valid.f k (([(⟨a0_0, a0_1⟩ : S49), (⟨a1_0, a1_1⟩ : S49)] : List (S49))) ([] : List Int)).bind fun t216 => (if t216 = true then ((geom_minus.f a0_0 a0_1 a1_0 a1_1).bind fun bt217 => ((geom_dot.f bt217.1 bt217.2 bt217.1 bt217.2).bind fun t220 => (some (t220, 0)))) else (some (0, 1)))
theorem geom_Dist2.mono : ∀ a0 a1 a2 a3 k, LeO (geom_Dist2.f k a0 a1 a2 a3) (geom_Dist2.f (k + 1) a0 a1 a2 a3) := by
 intro a0 a1 a2 a3 k
 unfold geom_Dist2.f
 repeat' first
   | (with_reducible exact geom_valid.mono _ _ _)
   | (with_reducible exact LeO.refl _)
   | (with_reducible exact LeO.none _)
   | (with_reducible refine LeO.ite ?_ ?_)
   | (with_reducible refine LeO.bind ?_ (fun _ => ?_))
   | exact geom_valid.mono _ _ _
   | exact LeO.none _
   | refine LeO.ite ?_ ?_
   | refine LeO.bind ?_ (fun _ => ?_)
set_option maxHeartbeats 8000000 in
set_option maxRecDepth 100000 in
theorem geom_Dist2.calls (k : Nat) (a0_0 a0_1 a1_0 a1_1 r1 r2 : Int) (w : World) (h : geom_Dist2.f k a0_0 a0_1 a1_0 a1_1 = some (r1, r2)) :
  Calls Try.prog 33 #[.agg #[.int .i64 a0_0, .int .i64 a0_1], .agg #[.int .i64 a1_0, .int .i64 a1_1]] w fun e w' => e = .returned (.tuple #[.int .i64 r1, .int .i64 r2]) ∧ Below w.heap.size w w' := by
 have hu49 := Try.underlying49
 have HB := am (Below.refl w.heap.size w)
 have H : ((geom_valid.f k (([(⟨a0_0, a0_1⟩ : S49), (⟨a1_0, a1_1⟩ : S49)] : List (S49))) ([] : List Int)).bind fun t216 => (if t216 = true then ((geom_minus.f a0_0 a0_1 a1_0 a1_1).bind fun bt217 => ((geom_dot.f bt217.1 bt217.2 bt217.1 bt217.2).bind fun t220 => (some (t220, 0)))) else (some (0, 1)))) = some (r1, r2) := h
 clear h
 obtain ⟨y213, hy213⟩ : ∃ y_ : List (S49), y_ = (([(⟨a0_0, a0_1⟩ : S49), (⟨a1_0, a1_1⟩ : S49)] : List (S49))) := ⟨_, rfl⟩
 replace H : ((geom_valid.f k y213 ([] : List Int)).bind fun t216 => (if t216 = true then ((geom_minus.f a0_0 a0_1 a1_0 a1_1).bind fun bt217 => ((geom_dot.f bt217.1 bt217.2 bt217.1 bt217.2).bind fun t220 => (some (t220, 0)))) else (some (0, 1)))) = some (r1, r2) := by first | (rw [hy213]; with_reducible exact H) | (have H2_ := (Option.bind_some _ _).symm.trans H; rw [hy213]; with_reducible exact H2_) | (have H2_ := (Option.bind_some _ _).symm.trans H; with_reducible exact H2_) | with_reducible exact H | (rw [hy213]; exact H) | exact H
 have Ny213 := am hy213
 clear hy213
 replace H := Option.bind_eq_some_iff.mp H
 obtain ⟨t216, A30, H⟩ := H
 replace H : (if t216 = true then ((geom_minus.f a0_0 a0_1 a1_0 a1_1).bind fun bt217 => ((geom_dot.f bt217.1 bt217.2 bt217.1 bt217.2).bind fun t220 => (some (t220, 0)))) else (some (0, 1))) = some (r1, r2) := H
 have A3 := am A30
 clear A30
 by_cases c4 : t216 = true
 ·
  subst c4
  have H1 : ((geom_minus.f a0_0 a0_1 a1_0 a1_1).bind fun bt217 => ((geom_dot.f bt217.1 bt217.2 bt217.1 bt217.2).bind fun t220 => (some (t220, 0)))) = some (r1, r2) := by rw [if_pos rfl] at H; exact H
  clear H
  have H := H1
  clear H1
  replace H := Option.bind_eq_some_iff.mp H
  obtain ⟨⟨t217, t218⟩, A50, H⟩ := H
  replace H : ((geom_dot.f t217 t218 t217 t218).bind fun t220 => (some (t220, 0))) = some (r1, r2) := H
  have A5 := am A50
  clear A50
  replace H := Option.bind_eq_some_iff.mp H
  obtain ⟨t220, A60, H⟩ := H
  replace H : (some (t220, 0)) = some (r1, r2) := H
  have A6 := am A60
  clear A60
  simp only [Option.some.injEq, Prod.mk.injEq] at H
  obtain ⟨rfl, rfl⟩ := H
  go_enter Try.func33, Try.ntmps33
  go_wp2_with (first | ((with_reducible refine gate_dst (N := 2) rfl ?_); refine box_event yz (N := 2) yz (cs := #[.int .i64 a0_0, .int .i64 a0_1]) (t := 49) gz ?_; intro gb211 hg w7 hbox hb; have BK211 := am (hbox); have GW211 := gwz (g := gb211) HB hg; have GE211 := GW211; replace HB := am (below_step bz hb); clear hb hbox hg) | ((with_reducible refine gate_dst (N := 3) rfl ?_); refine box_event yz (N := 3) yz (cs := #[.int .i64 a1_0, .int .i64 a1_1]) (t := 49) gz ?_; intro gb212 hg w8 hbox hb; have BK212 := am (hbox); have GW212 := gwz (g := gb212) HB hg; have GE212 := GW212; replace HB := am (below_step bz hb); have NB211_212 := nlt (g' := gb212) BK211 hg; have NB212_211 := ngt (g' := gb212) BK211 hg; replace BK211 := am (blk_below (o := .cells #[.int .i64 a0_0, .int .i64 a0_1] 49 (0, 0)) (kz BK211) hb); clear hb hbox hg; have hnb9 := NB211_212.out; have hnc9 := NB212_211.out; obtain ⟨hcz10_0, hcz10_1, hfz10_0, hfz10_1⟩ := kc2 BK211.out; obtain ⟨hcz11_0, hcz11_1, hfz11_0, hfz11_1⟩ := kc2 BK212.out) | ((with_reducible refine gate_dst (N := 9) rfl ?_); refine Kd.R_lit k49 _ 49 ?hg (N := 9) ?hd (xs := ([(⟨a0_0, a0_1⟩ : S49), (⟨a1_0, a1_1⟩ : S49)] : List (S49))) (inner := [.int .i64 a0_0, .int .i64 a0_1, .int .i64 a1_0, .int .i64 a1_1]) (ok := fun _ => True) (okp := fun _ => True) ?hr ?hp (fun _ hk => hk) trivial (Below.refl _ _) (Nat.le_refl _) (by simp) ?_; (case hd => rfl); (case hg => rfl); (case hr => first | (go_simp; done) | (go_simp; rfl)); (case hp => exact (Reps.c2 (show Kd.M k49 _ _ _ (⟨a0_0, a0_1⟩ : S49) [.int .i64 a0_0, .int .i64 a0_1] from (k49_mkM _ _ _ (⟨a0_0, a0_1⟩ : S49) )) (Reps.c2 (show Kd.M k49 _ _ _ (⟨a1_0, a1_1⟩ : S49) [.int .i64 a1_0, .int .i64 a1_1] from (k49_mkM _ _ _ (⟨a1_0, a1_1⟩ : S49) )) (Reps.none _ _)))); intro v214 w12 ho13 hb hg_ hnew_; clear hg_ hnew_; (first | rw [← Ny213.out] at ho13 | (simp only [Int.reduceToNat] at ho13; rw [← Ny213.out] at ho13)); have HO215 := am (Kd.R_lower (Kd.R_newB (Kd.R_newB ho13 (g := gb211) (o := .cells #[.int .i64 a0_0, .int .i64 a0_1] 49 (0, 0)) (kz BK211)) (g := gb212) (o := .cells #[.int .i64 a1_0, .int .i64 a1_1] 49 (0, 0)) (kz BK212)) (below_size bz)); replace BK211 := am (blk_below (o := .cells #[.int .i64 a0_0, .int .i64 a0_1] 49 (0, 0)) (kz BK211) hb); replace BK212 := am (blk_below (o := .cells #[.int .i64 a1_0, .int .i64 a1_1] 49 (0, 0)) (kz BK212) hb); replace HB := am (below_step bz hb); clear hb ho13; obtain ⟨Ao14, co14, eo14⟩ := Kd.R_slice HO215.out; subst eo14) | ((with_reducible refine gate_callee (f := 52) rfl ?_); refine goesL_ (some 10) rfl rfl Try.func52 qz rfl #[.slice Ao14 y213.length co14, .slice none 0 0] rfl mz ?_; (refine (geom_valid.calls k _ _ y213 _ _ ([] : List Int) true _ ?side1 ?side2 ?side3 ?side4 A3.out).mono ?_); (case side1 => repeat (first | exact (Kd.R_reads' HO215.out).2.2 | (with_reducible first | apply cA | apply cN | apply cD))); (case side2 => exact (Kd.R_reads' HO215.out).2.1); (case side3 => exact Kd.C_nil _ _); (case side4 => exact Nat.le_refl _); rintro e w15 ⟨rfl, hb⟩; refine ⟨_, rfl, ?_⟩; replace HO215 := am (Kd.R_below (rz HO215) hb); replace BK211 := am (blk_below (o := .cells #[.int .i64 a0_0, .int .i64 a0_1] 49 (0, 0)) (kz BK211) hb); replace BK212 := am (blk_below (o := .cells #[.int .i64 a1_0, .int .i64 a1_1] 49 (0, 0)) (kz BK212) hb); replace HB := am (below_step bz hb); (try clear hb); (try clear hb2); (try clear hk); (try clear hi); obtain ⟨hcz16_0, hcz16_1, hfz16_0, hfz16_1⟩ := kc2 BK211.out; obtain ⟨hcz17_0, hcz17_1, hfz17_0, hfz17_1⟩ := kc2 BK212.out) | ((with_reducible refine gate_callee (f := 53) rfl ?_); refine goesL_ (some 14) rfl rfl Try.func53 qz rfl #[.agg #[.int .i64 a0_0, .int .i64 a0_1], .agg #[.int .i64 a1_0, .int .i64 a1_1]] rfl mz ?_; (with_reducible refine (geom_minus.calls a0_0 a0_1 a1_0 a1_1 t217 t218 _ A5.out).mono ?_); rintro e w18 ⟨rfl, hb⟩; refine ⟨_, rfl, ?_⟩; replace HO215 := am (Kd.R_below (rz HO215) hb); replace BK211 := am (blk_below (o := .cells #[.int .i64 a0_0, .int .i64 a0_1] 49 (0, 0)) (kz BK211) hb); replace BK212 := am (blk_below (o := .cells #[.int .i64 a1_0, .int .i64 a1_1] 49 (0, 0)) (kz BK212) hb); replace HB := am (below_step bz hb); (try clear hb); (try clear hb2); (try clear hk); (try clear hi)) | ((with_reducible refine gate_dst (N := 6) rfl ?_); refine box_event yz (N := 6) yz (cs := #[.int .i64 0, .int .i64 0]) (t := 49) gz ?_; intro gb219 hg w19 hbox hb; replace HO215 := am (Kd.R_below (Kd.R_elderB (rz HO215) gb219 (Nat.le_of_eq hg.symm)) hb); have BK219 := am (hbox); have GW219 := gwz (g := gb219) HB hg; have GE219 := GW219; replace HB := am (below_step bz hb); have NB211_219 := nlt (g' := gb219) BK211 hg; have NB219_211 := ngt (g' := gb219) BK211 hg; replace BK211 := am (blk_below (o := .cells #[.int .i64 a0_0, .int .i64 a0_1] 49 (0, 0)) (kz BK211) hb); have NB212_219 := nlt (g' := gb219) BK212 hg; have NB219_212 := ngt (g' := gb219) BK212 hg; replace BK212 := am (blk_below (o := .cells #[.int .i64 a1_0, .int .i64 a1_1] 49 (0, 0)) (kz BK212) hb); clear hb hbox hg; have hnb20 := NB219_211.out; have hnc20 := NB211_219.out; have hnb21 := NB219_212.out; have hnc21 := NB212_219.out; obtain ⟨hcz22_0, hcz22_1, hfz22_0, hfz22_1⟩ := kc2 BK219.out) | ((with_reducible refine gate_callee (f := 54) rfl ?_); refine goesL_ (some 17) rfl rfl Try.func54 qz rfl #[.agg #[.int .i64 t217, .int .i64 t218], .agg #[.int .i64 t217, .int .i64 t218]] rfl mz ?_; (with_reducible refine (geom_dot.calls t217 t218 t217 t218 t220 _ A6.out).mono ?_); rintro e w23 ⟨rfl, hb⟩; refine ⟨_, rfl, ?_⟩; replace HO215 := am (Kd.R_below (by (with_reducible repeat first | apply rA | apply rN | apply rD); exact (Kd.R_mono (Kd.R_far (p := ⟨gb219, 1, none⟩) (Kd.R_far (p := ⟨gb219, 0, none⟩) (Kd.R_mono HO215.out (fun k_ hk => (⟨hk, hk.2⟩ : _ ∧ k_ ≠ gb219))) (fun _ hk => hk.2) (.int .i64 t217)) (fun _ hk => hk.2) (.int .i64 t218)) (fun _ h_ => h_.1))) hb); replace BK211 := am (blk_below (o := .cells #[.int .i64 a0_0, .int .i64 a0_1] 49 (0, 0)) (by (with_reducible repeat first | apply kN | apply kD | apply kA); refine blk_far ?_ NB211_219.out _; (with_reducible repeat first | apply kN | apply kD | apply kA); refine blk_far ?_ NB211_219.out _; (with_reducible repeat first | apply kN | apply kD | apply kA); exact BK211.out) hb); replace BK212 := am (blk_below (o := .cells #[.int .i64 a1_0, .int .i64 a1_1] 49 (0, 0)) (by (with_reducible repeat first | apply kN | apply kD | apply kA); refine blk_far ?_ NB212_219.out _; (with_reducible repeat first | apply kN | apply kD | apply kA); refine blk_far ?_ NB212_219.out _; (with_reducible repeat first | apply kN | apply kD | apply kA); exact BK212.out) hb); replace BK219 := am (blk_below (o := .cells #[.int .i64 t217, .int .i64 t218] 49 (0, 0)) (by (with_reducible repeat first | apply kN | apply kD | apply kA); refine blk_put (cs := #[.int .i64 t217, .int .i64 0]) ?_ 1 _ rfl; (with_reducible repeat first | apply kN | apply kD | apply kA); refine blk_put (cs := #[.int .i64 0, .int .i64 0]) ?_ 0 _ rfl; (with_reducible repeat first | apply kN | apply kD | apply kA); exact BK219.out) hb); replace HB := am (below_step bz hb); (try clear hb); (try clear hb2); (try clear hk); (try clear hi)))
  go_ret2
  exact ⟨ez, bz⟩
 ·
  replace c4 := Bool.eq_false_iff.mpr c4
  subst c4
  have H1 : (some (0, 1)) = some (r1, r2) := by rw [if_neg (show ¬ (false = true) by decide)] at H; exact H
  clear H
  have H := H1
  clear H1
  simp only [Option.some.injEq, Prod.mk.injEq] at H
  obtain ⟨rfl, rfl⟩ := H
  go_enter Try.func33, Try.ntmps33
  go_wp2_with (first | ((with_reducible refine gate_dst (N := 2) rfl ?_); refine box_event yz (N := 2) yz (cs := #[.int .i64 a0_0, .int .i64 a0_1]) (t := 49) gz ?_; intro gb211 hg w24 hbox hb; have BK211 := am (hbox); have GW211 := gwz (g := gb211) HB hg; have GE211 := GW211; replace HB := am (below_step bz hb); clear hb hbox hg) | ((with_reducible refine gate_dst (N := 3) rfl ?_); refine box_event yz (N := 3) yz (cs := #[.int .i64 a1_0, .int .i64 a1_1]) (t := 49) gz ?_; intro gb212 hg w25 hbox hb; have BK212 := am (hbox); have GW212 := gwz (g := gb212) HB hg; have GE212 := GW212; replace HB := am (below_step bz hb); have NB211_212 := nlt (g' := gb212) BK211 hg; have NB212_211 := ngt (g' := gb212) BK211 hg; replace BK211 := am (blk_below (o := .cells #[.int .i64 a0_0, .int .i64 a0_1] 49 (0, 0)) (kz BK211) hb); clear hb hbox hg; have hnb26 := NB211_212.out; have hnc26 := NB212_211.out; obtain ⟨hcz27_0, hcz27_1, hfz27_0, hfz27_1⟩ := kc2 BK211.out; obtain ⟨hcz28_0, hcz28_1, hfz28_0, hfz28_1⟩ := kc2 BK212.out) | ((with_reducible refine gate_dst (N := 9) rfl ?_); refine Kd.R_lit k49 _ 49 ?hg (N := 9) ?hd (xs := ([(⟨a0_0, a0_1⟩ : S49), (⟨a1_0, a1_1⟩ : S49)] : List (S49))) (inner := [.int .i64 a0_0, .int .i64 a0_1, .int .i64 a1_0, .int .i64 a1_1]) (ok := fun _ => True) (okp := fun _ => True) ?hr ?hp (fun _ hk => hk) trivial (Below.refl _ _) (Nat.le_refl _) (by simp) ?_; (case hd => rfl); (case hg => rfl); (case hr => first | (go_simp; done) | (go_simp; rfl)); (case hp => exact (Reps.c2 (show Kd.M k49 _ _ _ (⟨a0_0, a0_1⟩ : S49) [.int .i64 a0_0, .int .i64 a0_1] from (k49_mkM _ _ _ (⟨a0_0, a0_1⟩ : S49) )) (Reps.c2 (show Kd.M k49 _ _ _ (⟨a1_0, a1_1⟩ : S49) [.int .i64 a1_0, .int .i64 a1_1] from (k49_mkM _ _ _ (⟨a1_0, a1_1⟩ : S49) )) (Reps.none _ _)))); intro v214 w29 ho30 hb hg_ hnew_; clear hg_ hnew_; (first | rw [← Ny213.out] at ho30 | (simp only [Int.reduceToNat] at ho30; rw [← Ny213.out] at ho30)); have HO215 := am (Kd.R_lower (Kd.R_newB (Kd.R_newB ho30 (g := gb211) (o := .cells #[.int .i64 a0_0, .int .i64 a0_1] 49 (0, 0)) (kz BK211)) (g := gb212) (o := .cells #[.int .i64 a1_0, .int .i64 a1_1] 49 (0, 0)) (kz BK212)) (below_size bz)); replace BK211 := am (blk_below (o := .cells #[.int .i64 a0_0, .int .i64 a0_1] 49 (0, 0)) (kz BK211) hb); replace BK212 := am (blk_below (o := .cells #[.int .i64 a1_0, .int .i64 a1_1] 49 (0, 0)) (kz BK212) hb); replace HB := am (below_step bz hb); clear hb ho30; obtain ⟨Ao31, co31, eo31⟩ := Kd.R_slice HO215.out; subst eo31) | ((with_reducible refine gate_callee (f := 52) rfl ?_); refine goesL_ (some 10) rfl rfl Try.func52 qz rfl #[.slice Ao31 y213.length co31, .slice none 0 0] rfl mz ?_; (refine (geom_valid.calls k _ _ y213 _ _ ([] : List Int) false _ ?side1 ?side2 ?side3 ?side4 A3.out).mono ?_); (case side1 => repeat (first | exact (Kd.R_reads' HO215.out).2.2 | (with_reducible first | apply cA | apply cN | apply cD))); (case side2 => exact (Kd.R_reads' HO215.out).2.1); (case side3 => exact Kd.C_nil _ _); (case side4 => exact Nat.le_refl _); rintro e w32 ⟨rfl, hb⟩; refine ⟨_, rfl, ?_⟩; replace HO215 := am (Kd.R_below (rz HO215) hb); replace BK211 := am (blk_below (o := .cells #[.int .i64 a0_0, .int .i64 a0_1] 49 (0, 0)) (kz BK211) hb); replace BK212 := am (blk_below (o := .cells #[.int .i64 a1_0, .int .i64 a1_1] 49 (0, 0)) (kz BK212) hb); replace HB := am (below_step bz hb); (try clear hb); (try clear hb2); (try clear hk); (try clear hi)))
  go_ret2
  exact ⟨ez, bz⟩

end Go.Proofs.Yteflngoiebgdaaa.X
