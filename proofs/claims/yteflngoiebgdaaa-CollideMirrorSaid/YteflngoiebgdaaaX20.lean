import Derived.Test.YteflngoiebgdaaaX0
import Derived.Test.YteflngoiebgdaaaX16
import Derived.Test.YteflngoiebgdaaaX18
import Derived.Test.YteflngoiebgdaaaX19
namespace Go.Proofs.Yteflngoiebgdaaa.X
open Go.RowKit YteflngoiebgdaaaW.PrintWords YteflngoiebgdaaaW.PrintLast YteflngoiebgdaaaW.PrintMore
attribute [local go_sem] max2_int min2_int max_two min_two max_three min_three max_four min_four
set_option linter.unusedVariables false
set_option linter.unusedSimpArgs false

/-! ### num_Compare: function 73 -/
def num_Compare.f (k : Nat) (a0 a1 a2 a3 : Int) : Option (Int × Int) := (num_small.f k (([a0, a1, a2, a3] : List Int))).bind fun t141 => (if t141 = true then ((num_times.f k a0 a1).bind fun bt142 => ((num_times.f k a2 a3).bind fun bt145 => (if bt142.1 = bt145.1 then (if bt142.2.1 = bt145.2.1 then ((num_order.f bt142.2.2 bt145.2.2).bind fun t151 => (some (wrap64 (bt142.1 * t151), 0))) else ((num_order.f bt142.2.1 bt145.2.1).bind fun t152 => (some (wrap64 (bt142.1 * t152), 0)))) else ((num_order.f bt142.1 bt145.1).bind fun t150 => (some (t150, 0)))))) else (some (0, 1)))
theorem num_Compare.mono : ∀ a0 a1 a2 a3 k, LeO (num_Compare.f k a0 a1 a2 a3) (num_Compare.f (k + 1) a0 a1 a2 a3) := by
 intro a0 a1 a2 a3 k
 unfold num_Compare.f
 repeat' first
   | (with_reducible exact num_small.mono _ _)
   | (with_reducible exact num_times.mono _ _ _)
   | (with_reducible exact LeO.refl _)
   | (with_reducible exact LeO.none _)
   | (with_reducible refine LeO.ite ?_ ?_)
   | (with_reducible refine LeO.bind ?_ (fun _ => ?_))
   | exact num_small.mono _ _
   | exact num_times.mono _ _ _
   | exact LeO.none _
   | refine LeO.ite ?_ ?_
   | refine LeO.bind ?_ (fun _ => ?_)
set_option maxHeartbeats 8000000 in
set_option maxRecDepth 100000 in
theorem num_Compare.calls (k : Nat) (a0 a1 a2 a3 r1 r2 : Int) (w : World) (h : num_Compare.f k a0 a1 a2 a3 = some (r1, r2)) :
  Calls Try.prog 73 #[.int .i64 a0, .int .i64 a1, .int .i64 a2, .int .i64 a3] w fun e w' => e = .returned (.tuple #[.int .i64 r1, .int .i64 r2]) ∧ Below w.heap.size w w' := by
 have hu111 := Try.underlying111
 have HB := am (Below.refl w.heap.size w)
 have H : ((num_small.f k (([a0, a1, a2, a3] : List Int))).bind fun t141 => (if t141 = true then ((num_times.f k a0 a1).bind fun bt142 => ((num_times.f k a2 a3).bind fun bt145 => (if bt142.1 = bt145.1 then (if bt142.2.1 = bt145.2.1 then ((num_order.f bt142.2.2 bt145.2.2).bind fun t151 => (some (wrap64 (bt142.1 * t151), 0))) else ((num_order.f bt142.2.1 bt145.2.1).bind fun t152 => (some (wrap64 (bt142.1 * t152), 0)))) else ((num_order.f bt142.1 bt145.1).bind fun t150 => (some (t150, 0)))))) else (some (0, 1)))) = some (r1, r2) := h
 clear h
 obtain ⟨y138, hy138⟩ : ∃ y_ : List Int, y_ = (([a0, a1, a2, a3] : List Int)) := ⟨_, rfl⟩
 replace H : ((num_small.f k y138).bind fun t141 => (if t141 = true then ((num_times.f k a0 a1).bind fun bt142 => ((num_times.f k a2 a3).bind fun bt145 => (if bt142.1 = bt145.1 then (if bt142.2.1 = bt145.2.1 then ((num_order.f bt142.2.2 bt145.2.2).bind fun t151 => (some (wrap64 (bt142.1 * t151), 0))) else ((num_order.f bt142.2.1 bt145.2.1).bind fun t152 => (some (wrap64 (bt142.1 * t152), 0)))) else ((num_order.f bt142.1 bt145.1).bind fun t150 => (some (t150, 0)))))) else (some (0, 1)))) = some (r1, r2) := by first | (rw [hy138]; with_reducible exact H) | (have H2_ := (Option.bind_some _ _).symm.trans H; rw [hy138]; with_reducible exact H2_) | (have H2_ := (Option.bind_some _ _).symm.trans H; with_reducible exact H2_) | with_reducible exact H | (rw [hy138]; exact H) | exact H
 have Ny138 := am hy138
 clear hy138
 replace H := Option.bind_eq_some_iff.mp H
 obtain ⟨t141, A50, H⟩ := H
 replace H : (if t141 = true then ((num_times.f k a0 a1).bind fun bt142 => ((num_times.f k a2 a3).bind fun bt145 => (if bt142.1 = bt145.1 then (if bt142.2.1 = bt145.2.1 then ((num_order.f bt142.2.2 bt145.2.2).bind fun t151 => (some (wrap64 (bt142.1 * t151), 0))) else ((num_order.f bt142.2.1 bt145.2.1).bind fun t152 => (some (wrap64 (bt142.1 * t152), 0)))) else ((num_order.f bt142.1 bt145.1).bind fun t150 => (some (t150, 0)))))) else (some (0, 1))) = some (r1, r2) := H
 have A5 := am A50
 clear A50
 by_cases c6 : t141 = true
 ·
  subst c6
  have H1 : ((num_times.f k a0 a1).bind fun bt142 => ((num_times.f k a2 a3).bind fun bt145 => (if bt142.1 = bt145.1 then (if bt142.2.1 = bt145.2.1 then ((num_order.f bt142.2.2 bt145.2.2).bind fun t151 => (some (wrap64 (bt142.1 * t151), 0))) else ((num_order.f bt142.2.1 bt145.2.1).bind fun t152 => (some (wrap64 (bt142.1 * t152), 0)))) else ((num_order.f bt142.1 bt145.1).bind fun t150 => (some (t150, 0)))))) = some (r1, r2) := by rw [if_pos rfl] at H; exact H
  clear H
  have H := H1
  clear H1
  replace H := Option.bind_eq_some_iff.mp H
  obtain ⟨⟨t142, t143, t144⟩, A70, H⟩ := H
  replace H : ((num_times.f k a2 a3).bind fun bt145 => (if t142 = bt145.1 then (if t143 = bt145.2.1 then ((num_order.f t144 bt145.2.2).bind fun t151 => (some (wrap64 (t142 * t151), 0))) else ((num_order.f t143 bt145.2.1).bind fun t152 => (some (wrap64 (t142 * t152), 0)))) else ((num_order.f t142 bt145.1).bind fun t150 => (some (t150, 0))))) = some (r1, r2) := H
  have A7 := am A70
  clear A70
  replace H := Option.bind_eq_some_iff.mp H
  obtain ⟨⟨t145, t146, t147⟩, A80, H⟩ := H
  replace H : (if t142 = t145 then (if t143 = t146 then ((num_order.f t144 t147).bind fun t151 => (some (wrap64 (t142 * t151), 0))) else ((num_order.f t143 t146).bind fun t152 => (some (wrap64 (t142 * t152), 0)))) else ((num_order.f t142 t145).bind fun t150 => (some (t150, 0)))) = some (r1, r2) := H
  have A8 := am A80
  clear A80
  by_cases c9 : t142 = t145
  ·
   rw [if_pos c9] at H
   have c9b0 : (t142 == t145) = true := beq_iff_eq.mpr c9
   have c9b1 : (t142 != t145) = false := bne_eq_false_iff_eq.mpr c9
   clear c9
   by_cases c10 : t143 = t146
   ·
    rw [if_pos c10] at H
    have c10b0 : (t143 == t146) = true := beq_iff_eq.mpr c10
    have c10b1 : (t143 != t146) = false := bne_eq_false_iff_eq.mpr c10
    clear c10
    replace H := Option.bind_eq_some_iff.mp H
    obtain ⟨t151, A110, H⟩ := H
    replace H : (some (wrap64 (t142 * t151), 0)) = some (r1, r2) := H
    have A11 := am A110
    clear A110
    simp only [Option.some.injEq, Prod.mk.injEq] at H
    obtain ⟨rfl, rfl⟩ := H
    go_enter Try.func73, Try.ntmps73
    go_wp2_with (first | ((with_reducible refine gate_dst (N := 16) rfl ?_); refine Kd.R_lit (Kd.int .i64) _ 3 ?hg (N := 16) ?hd (xs := ([a0, a1, a2, a3] : List Int)) (inner := [.int .i64 a0, .int .i64 a1, .int .i64 a2, .int .i64 a3]) (ok := fun _ => True) (okp := fun _ => True) ?hr ?hp (fun _ hk => hk) trivial (Below.refl _ _) (Nat.le_refl _) (by simp) ?_; (case hd => rfl); (case hg => rfl); (case hr => first | (go_simp; done) | (go_simp; rfl)); (case hp => exact (Reps.one (show Kd.M (Kd.int .i64) _ _ _ a0 [.int .i64 a0] from rfl) (Reps.one (show Kd.M (Kd.int .i64) _ _ _ a1 [.int .i64 a1] from rfl) (Reps.one (show Kd.M (Kd.int .i64) _ _ _ a2 [.int .i64 a2] from rfl) (Reps.one (show Kd.M (Kd.int .i64) _ _ _ a3 [.int .i64 a3] from rfl) (Reps.none _ _)))))); intro v139 w12 ho13 hb hg_ hnew_; clear hg_ hnew_; (first | rw [← Ny138.out] at ho13 | (simp only [Int.reduceToNat] at ho13; rw [← Ny138.out] at ho13)); have HO140 := am (Kd.R_lower ho13 (below_size bz)); replace HB := am (below_step bz hb); clear hb ho13; obtain ⟨Ao14, co14, eo14⟩ := Kd.R_slice HO140.out; subst eo14) | (go_at_call 85; (with_reducible refine (num_small.calls k _ _ y138 true _ ?side1 ?side2 A5.out).mono ?_); (case side1 => repeat (first | exact (Kd.R_reads' HO140.out).2.2 | (with_reducible first | apply cA | apply cN | apply cD))); (case side2 => exact (Kd.R_reads' HO140.out).2.1); rintro e w' ⟨rfl, ⟨nd, rfl⟩⟩; (try first | exact ⟨rfl, _, World.drewN_drewN _ _ _⟩ | exact ⟨rfl, _, Eq.trans (World.drewN_drewN _ _ _) (congrArg (World.drewN _) (Nat.add_assoc _ _ _))⟩)) | (go_at_call 86; (with_reducible refine (num_times.calls k a0 a1 t142 t143 t144 _ A7.out).mono ?_); rintro e w15 ⟨rfl, hb⟩; replace HO140 := am (Kd.R_below (rz HO140) hb); replace HB := am (below_step bz hb); (try clear hb); (try clear hb2); (try clear hk); (try clear hi)) | (go_at_call 86; (with_reducible refine (num_times.calls k a2 a3 t145 t146 t147 _ A8.out).mono ?_); rintro e w16 ⟨rfl, hb⟩; replace HO140 := am (Kd.R_below (rz HO140) hb); replace HB := am (below_step bz hb); (try clear hb); (try clear hb2); (try clear hk); (try clear hi)) | ((with_reducible refine gate_dst (N := 10) rfl ?_); refine box_event yz (N := 10) yz (cs := #[.int .i64 0, .int .i64 0, .int .i64 0]) (t := 111) gz ?_; intro gb148 hg w17 hbox hb; replace HO140 := am (Kd.R_below (rz HO140) hb); have BK148 := am (hbox); have GW148 := gwz (g := gb148) HB hg; have GE148 := GW148; replace HB := am (below_step bz hb); clear hb hbox hg) | ((with_reducible refine gate_dst (N := 11) rfl ?_); refine box_event yz (N := 11) yz (cs := #[.int .i64 0, .int .i64 0, .int .i64 0]) (t := 111) gz ?_; intro gb149 hg w18 hbox hb; replace HO140 := am (Kd.R_below (rz HO140) hb); have BK149 := am (hbox); have GW149 := gwz (g := gb149) HB hg; have GE149 := GW149; replace HB := am (below_step bz hb); have NB148_149 := nlt (g' := gb149) BK148 hg; have NB149_148 := ngt (g' := gb149) BK148 hg; replace BK148 := am (blk_below (o := .cells #[.int .i64 0, .int .i64 0, .int .i64 0] 111 (0, 0)) (kz BK148) hb); clear hb hbox hg; have hnb19 := NB148_149.out; have hnc19 := NB149_148.out; obtain ⟨hcz20_0, hcz20_1, hcz20_2, hfz20_0, hfz20_1, hfz20_2⟩ := kc3 BK148.out; obtain ⟨hcz21_0, hcz21_1, hcz21_2, hfz21_0, hfz21_1, hfz21_2⟩ := kc3 BK149.out))
    repeat (go_quiet (first | (go_at_call 87; (with_reducible refine (num_order.calls t144 t147 t151 _ A11.out).mono ?_); rintro e w' ⟨rfl, ⟨nd, rfl⟩⟩; (try first | exact ⟨rfl, _, World.drewN_drewN _ _ _⟩ | exact ⟨rfl, _, Eq.trans (World.drewN_drewN _ _ _) (congrArg (World.drewN _) (Nat.add_assoc _ _ _))⟩))); try go_wp2_with (fail))
    go_ret2
    exact ⟨ez, bz⟩
   ·
    rw [if_neg c10] at H
    have c10b0 : (t143 == t146) = false := beq_eq_false_iff_ne.mpr c10
    have c10b1 : (t143 != t146) = true := bne_iff_ne.mpr c10
    replace H := Option.bind_eq_some_iff.mp H
    obtain ⟨t152, A220, H⟩ := H
    replace H : (some (wrap64 (t142 * t152), 0)) = some (r1, r2) := H
    have A22 := am A220
    clear A220
    simp only [Option.some.injEq, Prod.mk.injEq] at H
    obtain ⟨rfl, rfl⟩ := H
    go_enter Try.func73, Try.ntmps73
    go_wp2_with (first | ((with_reducible refine gate_dst (N := 16) rfl ?_); refine Kd.R_lit (Kd.int .i64) _ 3 ?hg (N := 16) ?hd (xs := ([a0, a1, a2, a3] : List Int)) (inner := [.int .i64 a0, .int .i64 a1, .int .i64 a2, .int .i64 a3]) (ok := fun _ => True) (okp := fun _ => True) ?hr ?hp (fun _ hk => hk) trivial (Below.refl _ _) (Nat.le_refl _) (by simp) ?_; (case hd => rfl); (case hg => rfl); (case hr => first | (go_simp; done) | (go_simp; rfl)); (case hp => exact (Reps.one (show Kd.M (Kd.int .i64) _ _ _ a0 [.int .i64 a0] from rfl) (Reps.one (show Kd.M (Kd.int .i64) _ _ _ a1 [.int .i64 a1] from rfl) (Reps.one (show Kd.M (Kd.int .i64) _ _ _ a2 [.int .i64 a2] from rfl) (Reps.one (show Kd.M (Kd.int .i64) _ _ _ a3 [.int .i64 a3] from rfl) (Reps.none _ _)))))); intro v139 w23 ho24 hb hg_ hnew_; clear hg_ hnew_; (first | rw [← Ny138.out] at ho24 | (simp only [Int.reduceToNat] at ho24; rw [← Ny138.out] at ho24)); have HO140 := am (Kd.R_lower ho24 (below_size bz)); replace HB := am (below_step bz hb); clear hb ho24; obtain ⟨Ao25, co25, eo25⟩ := Kd.R_slice HO140.out; subst eo25) | (go_at_call 85; (with_reducible refine (num_small.calls k _ _ y138 true _ ?side1 ?side2 A5.out).mono ?_); (case side1 => repeat (first | exact (Kd.R_reads' HO140.out).2.2 | (with_reducible first | apply cA | apply cN | apply cD))); (case side2 => exact (Kd.R_reads' HO140.out).2.1); rintro e w' ⟨rfl, ⟨nd, rfl⟩⟩; (try first | exact ⟨rfl, _, World.drewN_drewN _ _ _⟩ | exact ⟨rfl, _, Eq.trans (World.drewN_drewN _ _ _) (congrArg (World.drewN _) (Nat.add_assoc _ _ _))⟩)) | (go_at_call 86; (with_reducible refine (num_times.calls k a0 a1 t142 t143 t144 _ A7.out).mono ?_); rintro e w26 ⟨rfl, hb⟩; replace HO140 := am (Kd.R_below (rz HO140) hb); replace HB := am (below_step bz hb); (try clear hb); (try clear hb2); (try clear hk); (try clear hi)) | (go_at_call 86; (with_reducible refine (num_times.calls k a2 a3 t145 t146 t147 _ A8.out).mono ?_); rintro e w27 ⟨rfl, hb⟩; replace HO140 := am (Kd.R_below (rz HO140) hb); replace HB := am (below_step bz hb); (try clear hb); (try clear hb2); (try clear hk); (try clear hi)) | ((with_reducible refine gate_dst (N := 10) rfl ?_); refine box_event yz (N := 10) yz (cs := #[.int .i64 0, .int .i64 0, .int .i64 0]) (t := 111) gz ?_; intro gb148 hg w28 hbox hb; replace HO140 := am (Kd.R_below (rz HO140) hb); have BK148 := am (hbox); have GW148 := gwz (g := gb148) HB hg; have GE148 := GW148; replace HB := am (below_step bz hb); clear hb hbox hg) | ((with_reducible refine gate_dst (N := 11) rfl ?_); refine box_event yz (N := 11) yz (cs := #[.int .i64 0, .int .i64 0, .int .i64 0]) (t := 111) gz ?_; intro gb149 hg w29 hbox hb; replace HO140 := am (Kd.R_below (rz HO140) hb); have BK149 := am (hbox); have GW149 := gwz (g := gb149) HB hg; have GE149 := GW149; replace HB := am (below_step bz hb); have NB148_149 := nlt (g' := gb149) BK148 hg; have NB149_148 := ngt (g' := gb149) BK148 hg; replace BK148 := am (blk_below (o := .cells #[.int .i64 0, .int .i64 0, .int .i64 0] 111 (0, 0)) (kz BK148) hb); clear hb hbox hg; have hnb30 := NB148_149.out; have hnc30 := NB149_148.out; obtain ⟨hcz31_0, hcz31_1, hcz31_2, hfz31_0, hfz31_1, hfz31_2⟩ := kc3 BK148.out; obtain ⟨hcz32_0, hcz32_1, hcz32_2, hfz32_0, hfz32_1, hfz32_2⟩ := kc3 BK149.out))
    repeat (go_quiet (first | (go_at_call 87; (with_reducible refine (num_order.calls t143 t146 t152 _ A22.out).mono ?_); rintro e w' ⟨rfl, ⟨nd, rfl⟩⟩; (try first | exact ⟨rfl, _, World.drewN_drewN _ _ _⟩ | exact ⟨rfl, _, Eq.trans (World.drewN_drewN _ _ _) (congrArg (World.drewN _) (Nat.add_assoc _ _ _))⟩))); try go_wp2_with (fail))
    go_ret2
    exact ⟨ez, bz⟩
  ·
   rw [if_neg c9] at H
   have c9b0 : (t142 == t145) = false := beq_eq_false_iff_ne.mpr c9
   have c9b1 : (t142 != t145) = true := bne_iff_ne.mpr c9
   replace H := Option.bind_eq_some_iff.mp H
   obtain ⟨t150, A330, H⟩ := H
   replace H : (some (t150, 0)) = some (r1, r2) := H
   have A33 := am A330
   clear A330
   simp only [Option.some.injEq, Prod.mk.injEq] at H
   obtain ⟨rfl, rfl⟩ := H
   go_enter Try.func73, Try.ntmps73
   go_wp2_with (first | ((with_reducible refine gate_dst (N := 16) rfl ?_); refine Kd.R_lit (Kd.int .i64) _ 3 ?hg (N := 16) ?hd (xs := ([a0, a1, a2, a3] : List Int)) (inner := [.int .i64 a0, .int .i64 a1, .int .i64 a2, .int .i64 a3]) (ok := fun _ => True) (okp := fun _ => True) ?hr ?hp (fun _ hk => hk) trivial (Below.refl _ _) (Nat.le_refl _) (by simp) ?_; (case hd => rfl); (case hg => rfl); (case hr => first | (go_simp; done) | (go_simp; rfl)); (case hp => exact (Reps.one (show Kd.M (Kd.int .i64) _ _ _ a0 [.int .i64 a0] from rfl) (Reps.one (show Kd.M (Kd.int .i64) _ _ _ a1 [.int .i64 a1] from rfl) (Reps.one (show Kd.M (Kd.int .i64) _ _ _ a2 [.int .i64 a2] from rfl) (Reps.one (show Kd.M (Kd.int .i64) _ _ _ a3 [.int .i64 a3] from rfl) (Reps.none _ _)))))); intro v139 w34 ho35 hb hg_ hnew_; clear hg_ hnew_; (first | rw [← Ny138.out] at ho35 | (simp only [Int.reduceToNat] at ho35; rw [← Ny138.out] at ho35)); have HO140 := am (Kd.R_lower ho35 (below_size bz)); replace HB := am (below_step bz hb); clear hb ho35; obtain ⟨Ao36, co36, eo36⟩ := Kd.R_slice HO140.out; subst eo36) | (go_at_call 85; (with_reducible refine (num_small.calls k _ _ y138 true _ ?side1 ?side2 A5.out).mono ?_); (case side1 => repeat (first | exact (Kd.R_reads' HO140.out).2.2 | (with_reducible first | apply cA | apply cN | apply cD))); (case side2 => exact (Kd.R_reads' HO140.out).2.1); rintro e w' ⟨rfl, ⟨nd, rfl⟩⟩; (try first | exact ⟨rfl, _, World.drewN_drewN _ _ _⟩ | exact ⟨rfl, _, Eq.trans (World.drewN_drewN _ _ _) (congrArg (World.drewN _) (Nat.add_assoc _ _ _))⟩)) | (go_at_call 86; (with_reducible refine (num_times.calls k a0 a1 t142 t143 t144 _ A7.out).mono ?_); rintro e w37 ⟨rfl, hb⟩; replace HO140 := am (Kd.R_below (rz HO140) hb); replace HB := am (below_step bz hb); (try clear hb); (try clear hb2); (try clear hk); (try clear hi)) | (go_at_call 86; (with_reducible refine (num_times.calls k a2 a3 t145 t146 t147 _ A8.out).mono ?_); rintro e w38 ⟨rfl, hb⟩; replace HO140 := am (Kd.R_below (rz HO140) hb); replace HB := am (below_step bz hb); (try clear hb); (try clear hb2); (try clear hk); (try clear hi)) | ((with_reducible refine gate_dst (N := 10) rfl ?_); refine box_event yz (N := 10) yz (cs := #[.int .i64 0, .int .i64 0, .int .i64 0]) (t := 111) gz ?_; intro gb148 hg w39 hbox hb; replace HO140 := am (Kd.R_below (rz HO140) hb); have BK148 := am (hbox); have GW148 := gwz (g := gb148) HB hg; have GE148 := GW148; replace HB := am (below_step bz hb); clear hb hbox hg) | ((with_reducible refine gate_dst (N := 11) rfl ?_); refine box_event yz (N := 11) yz (cs := #[.int .i64 0, .int .i64 0, .int .i64 0]) (t := 111) gz ?_; intro gb149 hg w40 hbox hb; replace HO140 := am (Kd.R_below (rz HO140) hb); have BK149 := am (hbox); have GW149 := gwz (g := gb149) HB hg; have GE149 := GW149; replace HB := am (below_step bz hb); have NB148_149 := nlt (g' := gb149) BK148 hg; have NB149_148 := ngt (g' := gb149) BK148 hg; replace BK148 := am (blk_below (o := .cells #[.int .i64 0, .int .i64 0, .int .i64 0] 111 (0, 0)) (kz BK148) hb); clear hb hbox hg; have hnb41 := NB148_149.out; have hnc41 := NB149_148.out; obtain ⟨hcz42_0, hcz42_1, hcz42_2, hfz42_0, hfz42_1, hfz42_2⟩ := kc3 BK148.out; obtain ⟨hcz43_0, hcz43_1, hcz43_2, hfz43_0, hfz43_1, hfz43_2⟩ := kc3 BK149.out) | (go_at_call 87; (with_reducible refine (num_order.calls t142 t145 t150 _ A33.out).mono ?_); rintro e w' ⟨rfl, ⟨nd, rfl⟩⟩; (try first | exact ⟨rfl, _, World.drewN_drewN _ _ _⟩ | exact ⟨rfl, _, Eq.trans (World.drewN_drewN _ _ _) (congrArg (World.drewN _) (Nat.add_assoc _ _ _))⟩)))
   repeat (go_quiet (fail); try go_wp2_with (fail))
   go_ret2
   exact ⟨ez, bz⟩
 ·
  replace c6 := Bool.eq_false_iff.mpr c6
  subst c6
  have H1 : (some (0, 1)) = some (r1, r2) := by rw [if_neg (show ¬ (false = true) by decide)] at H; exact H
  clear H
  have H := H1
  clear H1
  simp only [Option.some.injEq, Prod.mk.injEq] at H
  obtain ⟨rfl, rfl⟩ := H
  go_enter Try.func73, Try.ntmps73
  go_wp2_with (first | ((with_reducible refine gate_dst (N := 16) rfl ?_); refine Kd.R_lit (Kd.int .i64) _ 3 ?hg (N := 16) ?hd (xs := ([a0, a1, a2, a3] : List Int)) (inner := [.int .i64 a0, .int .i64 a1, .int .i64 a2, .int .i64 a3]) (ok := fun _ => True) (okp := fun _ => True) ?hr ?hp (fun _ hk => hk) trivial (Below.refl _ _) (Nat.le_refl _) (by simp) ?_; (case hd => rfl); (case hg => rfl); (case hr => first | (go_simp; done) | (go_simp; rfl)); (case hp => exact (Reps.one (show Kd.M (Kd.int .i64) _ _ _ a0 [.int .i64 a0] from rfl) (Reps.one (show Kd.M (Kd.int .i64) _ _ _ a1 [.int .i64 a1] from rfl) (Reps.one (show Kd.M (Kd.int .i64) _ _ _ a2 [.int .i64 a2] from rfl) (Reps.one (show Kd.M (Kd.int .i64) _ _ _ a3 [.int .i64 a3] from rfl) (Reps.none _ _)))))); intro v139 w44 ho45 hb hg_ hnew_; clear hg_ hnew_; (first | rw [← Ny138.out] at ho45 | (simp only [Int.reduceToNat] at ho45; rw [← Ny138.out] at ho45)); have HO140 := am (Kd.R_lower ho45 (below_size bz)); replace HB := am (below_step bz hb); clear hb ho45; obtain ⟨Ao46, co46, eo46⟩ := Kd.R_slice HO140.out; subst eo46) | (go_at_call 85; (with_reducible refine (num_small.calls k _ _ y138 false _ ?side1 ?side2 A5.out).mono ?_); (case side1 => repeat (first | exact (Kd.R_reads' HO140.out).2.2 | (with_reducible first | apply cA | apply cN | apply cD))); (case side2 => exact (Kd.R_reads' HO140.out).2.1); rintro e w' ⟨rfl, ⟨nd, rfl⟩⟩; (try first | exact ⟨rfl, _, World.drewN_drewN _ _ _⟩ | exact ⟨rfl, _, Eq.trans (World.drewN_drewN _ _ _) (congrArg (World.drewN _) (Nat.add_assoc _ _ _))⟩)))
  repeat (go_quiet (fail); try go_wp2_with (fail))
  go_ret2
  exact ⟨ez, bz⟩

end Go.Proofs.Yteflngoiebgdaaa.X
