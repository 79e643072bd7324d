import Derived.Test.YteflngoiebgdaaaX0
import Derived.Test.YteflngoiebgdaaaX14
import Derived.Test.YteflngoiebgdaaaX15
import Derived.Test.YteflngoiebgdaaaX20
namespace Go.Proofs.Yteflngoiebgdaaa.X
open Go.RowKit YteflngoiebgdaaaW.PrintWords YteflngoiebgdaaaW.PrintLast YteflngoiebgdaaaW.PrintMore
attribute [local go_sem] max2_int min2_int max_two min_two max_three min_three max_four min_four
set_option linter.unusedVariables false
set_option linter.unusedSimpArgs false

/-! ### geom_nearest: function 60 -/
def geom_nearest.f (k : Nat) (a0_0 a0_1 a1_0 a1_1 a2 : Int) : Option (Int) := (geom_dot.f a0_0 a0_1 a1_0 a1_1).bind fun t155 => ((geom_dot.f a1_0 a1_1 a1_0 a1_1).bind fun t156 => (if (wrap64 (-t155)) ≤ 0 then ((geom_dot.f a0_0 a0_1 a0_0 a0_1).bind fun t158 => ((num_Compare.f k t158 1 a2 1).bind fun bt159 => (some bt159.1))) else (if (wrap64 (-t155)) ≥ t156 then ((geom_dot.f (wrap64 (a0_0 + a1_0)) (wrap64 (a0_1 + a1_1)) (wrap64 (a0_0 + a1_0)) (wrap64 (a0_1 + a1_1))).bind fun t161 => ((num_Compare.f k t161 1 a2 1).bind fun bt162 => (some bt162.1))) else ((geom_cross.f a0_0 a0_1 a1_0 a1_1).bind fun t164 => ((num_Compare.f k t164 t164 a2 t156).bind fun bt165 => (some bt165.1))))))
theorem geom_nearest.mono : ∀ a0 a1 a2 a3 a4 k, LeO (geom_nearest.f k a0 a1 a2 a3 a4) (geom_nearest.f (k + 1) a0 a1 a2 a3 a4) := by
 intro a0 a1 a2 a3 a4 k
 unfold geom_nearest.f
 repeat' first
   | (with_reducible exact num_Compare.mono _ _ _ _ _)
   | (with_reducible exact LeO.refl _)
   | (with_reducible exact LeO.none _)
   | (with_reducible refine LeO.ite ?_ ?_)
   | (with_reducible refine LeO.bind ?_ (fun _ => ?_))
   | exact num_Compare.mono _ _ _ _ _
   | exact LeO.none _
   | refine LeO.ite ?_ ?_
   | refine LeO.bind ?_ (fun _ => ?_)
def geom_nearest.T1 : Bool × List (List Nat × List Nat) := (true, [([], []), ([], []), ([0, 1], [0, 1]), ([2], [2]), ([], []), ([], []), ([4, 5, 2], [4, 5]), ([3, 6, 0, 1, 2, 3], [3]), ([6, 7, 0, 1, 2, 3, 4, 5, 6, 7], [6])])
def geom_nearest.B1 : List Nat := [0, 0, 3, 7, 0, 0, 55, 127, 255]
theorem geom_nearest.tab1 : rtab .any (opsOf Try.f60 1) = geom_nearest.T1 := by kernel_rfl
theorem geom_nearest.bits1 : waitsOk geom_nearest.T1.2 geom_nearest.B1 = true := by kernel_rfl
set_option maxHeartbeats 8000000 in
set_option maxRecDepth 100000 in
theorem geom_nearest.calls (k : Nat) (a0_0 a0_1 a1_0 a1_1 a2 r : Int) (w : World) (h : geom_nearest.f k a0_0 a0_1 a1_0 a1_1 a2 = some r) :
  Calls Try.prog 60 #[.agg #[.int .i64 a0_0, .int .i64 a0_1], .agg #[.int .i64 a1_0, .int .i64 a1_1], .int .i64 a2] w fun e w' => e = .returned (.int .i64 r) ∧ Below w.heap.size w w' := by
 have hu49 := Try.underlying49
 have HB := am (Below.refl w.heap.size w)
 have H : ((geom_dot.f a0_0 a0_1 a1_0 a1_1).bind fun t155 => ((geom_dot.f a1_0 a1_1 a1_0 a1_1).bind fun t156 => (if (wrap64 (-t155)) ≤ 0 then ((geom_dot.f a0_0 a0_1 a0_0 a0_1).bind fun t158 => ((num_Compare.f k t158 1 a2 1).bind fun bt159 => (some bt159.1))) else (if (wrap64 (-t155)) ≥ t156 then ((geom_dot.f (wrap64 (a0_0 + a1_0)) (wrap64 (a0_1 + a1_1)) (wrap64 (a0_0 + a1_0)) (wrap64 (a0_1 + a1_1))).bind fun t161 => ((num_Compare.f k t161 1 a2 1).bind fun bt162 => (some bt162.1))) else ((geom_cross.f a0_0 a0_1 a1_0 a1_1).bind fun t164 => ((num_Compare.f k t164 t164 a2 t156).bind fun bt165 => (some bt165.1))))))) = some r := h
 clear h
 replace H := Option.bind_eq_some_iff.mp H
 obtain ⟨t155, A40, H⟩ := H
 replace H : ((geom_dot.f a1_0 a1_1 a1_0 a1_1).bind fun t156 => (if (wrap64 (-t155)) ≤ 0 then ((geom_dot.f a0_0 a0_1 a0_0 a0_1).bind fun t158 => ((num_Compare.f k t158 1 a2 1).bind fun bt159 => (some bt159.1))) else (if (wrap64 (-t155)) ≥ t156 then ((geom_dot.f (wrap64 (a0_0 + a1_0)) (wrap64 (a0_1 + a1_1)) (wrap64 (a0_0 + a1_0)) (wrap64 (a0_1 + a1_1))).bind fun t161 => ((num_Compare.f k t161 1 a2 1).bind fun bt162 => (some bt162.1))) else ((geom_cross.f a0_0 a0_1 a1_0 a1_1).bind fun t164 => ((num_Compare.f k t164 t164 a2 t156).bind fun bt165 => (some bt165.1)))))) = some r := H
 have A4 := am A40
 clear A40
 replace H := Option.bind_eq_some_iff.mp H
 obtain ⟨t156, A50, H⟩ := H
 replace H : (if (wrap64 (-t155)) ≤ 0 then ((geom_dot.f a0_0 a0_1 a0_0 a0_1).bind fun t158 => ((num_Compare.f k t158 1 a2 1).bind fun bt159 => (some bt159.1))) else (if (wrap64 (-t155)) ≥ t156 then ((geom_dot.f (wrap64 (a0_0 + a1_0)) (wrap64 (a0_1 + a1_1)) (wrap64 (a0_0 + a1_0)) (wrap64 (a0_1 + a1_1))).bind fun t161 => ((num_Compare.f k t161 1 a2 1).bind fun bt162 => (some bt162.1))) else ((geom_cross.f a0_0 a0_1 a1_0 a1_1).bind fun t164 => ((num_Compare.f k t164 t164 a2 t156).bind fun bt165 => (some bt165.1))))) = some r := H
 have A5 := am A50
 clear A50
 by_cases c6 : (wrap64 (-t155)) ≤ 0
 ·
  rw [if_pos c6] at H
  have c6b0 := decide_eq_true c6
  clear c6
  replace H := Option.bind_eq_some_iff.mp H
  obtain ⟨t158, A70, H⟩ := H
  replace H : ((num_Compare.f k t158 1 a2 1).bind fun bt159 => (some bt159.1)) = some r := H
  have A7 := am A70
  clear A70
  replace H := Option.bind_eq_some_iff.mp H
  obtain ⟨⟨t159, t160⟩, A80, H⟩ := H
  replace H : (some t159) = some r := H
  have A8 := am A80
  clear A80
  obtain rfl := Option.some.inj H
  go_enter Try.func60, Try.ntmps60
  try go_wp2_with (first | ((with_reducible refine gate_dst (N := 3) rfl ?_); refine box_event yz (N := 3) yz (cs := #[.int .i64 a0_0, .int .i64 a0_1]) (t := 49) gz ?_; intro gb153 hg w9 hbox hb; have BK153 := am (hbox); have GW153 := gwz (g := gb153) HB hg; have GE153 := GW153; replace HB := am (below_step bz hb); clear hb hbox hg) | ((with_reducible refine gate_dst (N := 4) rfl ?_); refine box_event yz (N := 4) yz (cs := #[.int .i64 a1_0, .int .i64 a1_1]) (t := 49) gz ?_; intro gb154 hg w10 hbox hb; have BK154 := am (hbox); have GW154 := gwz (g := gb154) HB hg; have GE154 := GW154; replace HB := am (below_step bz hb); have NB153_154 := nlt (g' := gb154) BK153 hg; have NB154_153 := ngt (g' := gb154) BK153 hg; replace BK153 := am (blk_below (o := .cells #[.int .i64 a0_0, .int .i64 a0_1] 49 (0, 0)) (kz BK153) hb); clear hb hbox hg))
  have n0_ := am (blk_drew BK153.out)
  have n1_ := am (blk_drew BK154.out)
  have n2_ := am (below_drew1 HB.out)
  clear BK153
  clear BK154
  clear HB
  have BK153 := n0_
  have BK154 := n1_
  have HB := n2_
  clear n0_ n1_ n2_
  refine start_ (n := 9) (S := fun w' => w'.cell? ⟨gb153, 0, none⟩ = some (.int .i64 a0_0) ∧ w'.cell? ⟨gb153, 1, none⟩ = some (.int .i64 a0_1) ∧ w'.cell? ⟨gb154, 0, none⟩ = some (.int .i64 a1_0) ∧ w'.cell? ⟨gb154, 1, none⟩ = some (.int .i64 a1_1)) (ds := []) (bm 9 0) qz rfl rfl ⟨(blk_cell BK153.out 0).trans rfl, (blk_cell BK153.out 1).trans rfl, (blk_cell BK154.out 0).trans rfl, (blk_cell BK154.out 1).trans rfl⟩ (fun hHeld => ?_); refine with_tabW geom_nearest.tab1 geom_nearest.bits1 (fun HT_ HW_ => ?_)
  generalize w10.drew = w11 at BK153 BK154 HB hHeld ⊢
  refine take_ (i := 0) (N := some 16) (v := ?_) (a' := ?_) (bm 9 1) rfl rfl (take_ofW HT_.out HW_.out qz) iz (Or.inl ⟨by rfl, ?_⟩) hHeld ?_ ?_
  rotate_left
  ·
   rintro w' ⟨s0, s1, s2, s3⟩
   go_simp
   with_reducible rfl
  rotate_left
  ·
   simp only [Act.put, aS, lZ, lS, i64_w, i32_w]
   rfl
  refine take_ (i := 1) (N := some 17) (v := ?_) (a' := ?_) (bm 9 3) rfl rfl (take_ofW HT_.out HW_.out qz) iz (Or.inl ⟨by rfl, ?_⟩) hHeld ?_ ?_
  rotate_left
  ·
   rintro w' ⟨s0, s1, s2, s3⟩
   go_simp
   with_reducible rfl
  rotate_left
  ·
   simp only [Act.put, aS, lZ, lS, i64_w, i32_w]
   rfl
  refine take_ (i := 4) (N := some 20) (v := ?_) (a' := ?_) (bm 9 19) rfl rfl (take_ofW HT_.out HW_.out qz) iz (Or.inl ⟨by rfl, ?_⟩) hHeld ?_ ?_
  rotate_left
  ·
   rintro w' ⟨s0, s1, s2, s3⟩
   go_simp
   with_reducible rfl
  rotate_left
  ·
   simp only [Act.put, aS, lZ, lS, i64_w, i32_w]
   rfl
  refine take_ (i := 5) (N := some 21) (v := ?_) (a' := ?_) (bm 9 51) rfl rfl (take_ofW HT_.out HW_.out qz) iz (Or.inl ⟨by rfl, ?_⟩) hHeld ?_ ?_
  rotate_left
  ·
   rintro w' ⟨s0, s1, s2, s3⟩
   go_simp
   with_reducible rfl
  rotate_left
  ·
   simp only [Act.put, aS, lZ, lS, i64_w, i32_w]
   rfl
  refine one_ (i := 2) (N := some 18) (bm 9 55) rfl rfl (one_of HT_.out qz) (by decide) (fun K hK => ?_)
  refine goes_ Try.func54 qz rfl #[.agg #[.int .i64 a0_0, .int .i64 a0_1], .agg #[.int .i64 a1_0, .int .i64 a1_1]] (by rfl) rfl rfl mz ?_
  with_reducible refine (geom_dot.calls a0_0 a0_1 a1_0 a1_1 t155 _ A4.out).mono ?_
  rintro e w12 ⟨rfl, hb⟩
  refine ⟨_, rfl, ?_⟩
  have n0_ := am (blk_below (o := .cells #[.int .i64 a0_0, .int .i64 a0_1] 49 (0, 0)) (kz BK153) hb)
  have n1_ := am (blk_below (o := .cells #[.int .i64 a1_0, .int .i64 a1_1] 49 (0, 0)) (kz BK154) hb)
  have n2_ := am (below_step bz hb)
  clear BK153
  clear BK154
  clear HB
  have BK153 := n0_
  have BK154 := n1_
  have HB := n2_
  clear n0_ n1_ n2_
  (try clear hb)
  (try clear hb2)
  (try clear hk)
  (try clear hi)
  refine hK.out _ _ ⟨(blk_cell BK153.out 0).trans rfl, (blk_cell BK153.out 1).trans rfl, (blk_cell BK154.out 0).trans rfl, (blk_cell BK154.out 1).trans rfl⟩ (fun hHeld => ?_)
  clear hK K
  refine norm_ (a' := ?_) ?_ ?_
  rotate_left
  ·
   show Act.put _ (some 18) _ = _
   simp only [Act.put, aS, lZ, lS, i64_w, i32_w]
   rfl
  refine pa (i := 3) (N := some 19) (bm 9 63) HT_ ?_
  refine one_ (i := 6) (N := some 22) (bm 9 127) rfl rfl (one_of HT_.out qz) (by decide) (fun K hK => ?_)
  refine goes_ Try.func54 qz rfl #[.agg #[.int .i64 a1_0, .int .i64 a1_1], .agg #[.int .i64 a1_0, .int .i64 a1_1]] (by rfl) rfl rfl mz ?_
  with_reducible refine (geom_dot.calls a1_0 a1_1 a1_0 a1_1 t156 _ A5.out).mono ?_
  rintro e w13 ⟨rfl, hb⟩
  refine ⟨_, rfl, ?_⟩
  have n0_ := am (blk_below (o := .cells #[.int .i64 a0_0, .int .i64 a0_1] 49 (0, 0)) (kz BK153) hb)
  have n1_ := am (blk_below (o := .cells #[.int .i64 a1_0, .int .i64 a1_1] 49 (0, 0)) (kz BK154) hb)
  have n2_ := am (below_step bz hb)
  clear BK153
  clear BK154
  clear HB
  have BK153 := n0_
  have BK154 := n1_
  have HB := n2_
  clear n0_ n1_ n2_
  (try clear hb)
  (try clear hb2)
  (try clear hk)
  (try clear hi)
  refine hK.out _ _ ⟨(blk_cell BK153.out 0).trans rfl, (blk_cell BK153.out 1).trans rfl, (blk_cell BK154.out 0).trans rfl, (blk_cell BK154.out 1).trans rfl⟩ (fun hHeld => ?_)
  clear hK K
  refine norm_ (a' := ?_) ?_ ?_
  rotate_left
  ·
   show Act.put _ (some 22) _ = _
   simp only [Act.put, aS, lZ, lS, i64_w, i32_w]
   rfl
  refine pa (i := 7) (N := some 7) (bm 9 255) HT_ ?_
  refine pa (i := 8) (N := some 8) (bm 9 511) HT_ ?_
  refine done_ (done_of HT_.out qz) ?_
  have hnb14 := NB153_154.out
  have hnc14 := NB154_153.out
  obtain ⟨hcz15_0, hcz15_1, hfz15_0, hfz15_1⟩ := kc2 BK153.out
  obtain ⟨hcz16_0, hcz16_1, hfz16_0, hfz16_1⟩ := kc2 BK154.out
  try go_wp2_with (first | ((with_reducible refine gate_dst (N := 9) rfl ?_); refine box_event yz (N := 9) yz (cs := #[.int .i64 0, .int .i64 0]) (t := 49) gz ?_; intro gb157 hg w17 hbox hb; have BK157 := am (hbox); have GW157 := gwz (g := gb157) HB hg; have GE157 := GW157; replace HB := am (below_step bz hb); have NB153_157 := nlt (g' := gb157) BK153 hg; have NB157_153 := ngt (g' := gb157) BK153 hg; replace BK153 := am (blk_below (o := .cells #[.int .i64 a0_0, .int .i64 a0_1] 49 (0, 0)) (kz BK153) hb); have NB154_157 := nlt (g' := gb157) BK154 hg; have NB157_154 := ngt (g' := gb157) BK154 hg; replace BK154 := am (blk_below (o := .cells #[.int .i64 a1_0, .int .i64 a1_1] 49 (0, 0)) (kz BK154) hb); clear hb hbox hg; have hnb18 := NB157_153.out; have hnc18 := NB153_157.out; have hnb19 := NB157_154.out; have hnc19 := NB154_157.out; obtain ⟨hcz20_0, hcz20_1, hfz20_0, hfz20_1⟩ := kc2 BK157.out; obtain ⟨hcz21_0, hcz21_1, hfz21_0, hfz21_1⟩ := kc2 BK153.out) | ((with_reducible refine gate_callee (f := 54) rfl ?_); refine goesL_ (some 51) rfl rfl Try.func54 qz rfl #[.agg #[.int .i64 a0_0, .int .i64 a0_1], .agg #[.int .i64 a0_0, .int .i64 a0_1]] rfl mz ?_; (with_reducible refine (geom_dot.calls a0_0 a0_1 a0_0 a0_1 t158 _ A7.out).mono ?_); rintro e w22 ⟨rfl, hb⟩; refine ⟨_, rfl, ?_⟩; replace BK153 := am (blk_below (o := .cells #[.int .i64 a0_0, .int .i64 a0_1] 49 (0, 0)) (by (with_reducible repeat first | apply kN | apply kD | apply kA); refine blk_far ?_ NB153_157.out _; (with_reducible repeat first | apply kN | apply kD | apply kA); refine blk_far ?_ NB153_157.out _; (with_reducible repeat first | apply kN | apply kD | apply kA); exact BK153.out) hb); replace BK154 := am (blk_below (o := .cells #[.int .i64 a1_0, .int .i64 a1_1] 49 (0, 0)) (by (with_reducible repeat first | apply kN | apply kD | apply kA); refine blk_far ?_ NB154_157.out _; (with_reducible repeat first | apply kN | apply kD | apply kA); refine blk_far ?_ NB154_157.out _; (with_reducible repeat first | apply kN | apply kD | apply kA); exact BK154.out) hb); replace BK157 := am (blk_below (o := .cells #[.int .i64 (wrap64 (a0_0 + a1_0)), .int .i64 (wrap64 (a0_1 + a1_1))] 49 (0, 0)) (by (with_reducible repeat first | apply kN | apply kD | apply kA); refine blk_put (cs := #[.int .i64 (wrap64 (a0_0 + a1_0)), .int .i64 0]) ?_ 1 _ rfl; (with_reducible repeat first | apply kN | apply kD | apply kA); refine blk_put (cs := #[.int .i64 0, .int .i64 0]) ?_ 0 _ rfl; (with_reducible repeat first | apply kN | apply kD | apply kA); exact BK157.out) hb); replace HB := am (below_step bz hb); (try clear hb); (try clear hb2); (try clear hk); (try clear hi)) | ((with_reducible refine gate_callee (f := 73) rfl ?_); refine goesL_ (some 62) rfl rfl Try.func73 qz rfl #[.int .i64 t158, .int .i64 1, .int .i64 a2, .int .i64 1] rfl mz ?_; (with_reducible refine (num_Compare.calls k t158 1 a2 1 t159 t160 _ A8.out).mono ?_); rintro e w23 ⟨rfl, hb⟩; refine ⟨_, rfl, ?_⟩; replace BK153 := am (blk_below (o := .cells #[.int .i64 a0_0, .int .i64 a0_1] 49 (0, 0)) (kz BK153) hb); replace BK154 := am (blk_below (o := .cells #[.int .i64 a1_0, .int .i64 a1_1] 49 (0, 0)) (kz BK154) hb); replace BK157 := am (blk_below (o := .cells #[.int .i64 (wrap64 (a0_0 + a1_0)), .int .i64 (wrap64 (a0_1 + a1_1))] 49 (0, 0)) (kz BK157) hb); replace HB := am (below_step bz hb); (try clear hb); (try clear hb2); (try clear hk); (try clear hi)))
  go_ret
  exact ⟨ez, bz⟩
 ·
  rw [if_neg c6] at H
  have c6b0 := decide_eq_false c6
  clear c6
  by_cases c24 : (wrap64 (-t155)) ≥ t156
  case' pos =>
   rw [if_pos c24] at H
   have c24b0 := decide_eq_true c24
   clear c24
   replace H := Option.bind_eq_some_iff.mp H
   obtain ⟨t161, A250, H⟩ := H
   replace H : ((num_Compare.f k t161 1 a2 1).bind fun bt162 => (some bt162.1)) = some r := H
   have tw1a : True := trivial
  case' neg =>
   rw [if_neg c24] at H
   have c24b0 := decide_eq_false c24
   clear c24
   replace H := Option.bind_eq_some_iff.mp H
   obtain ⟨t164, A250, H⟩ := H
   replace H : ((num_Compare.f k t164 t164 a2 t156).bind fun bt165 => (some bt165.1)) = some r := H
   have tw1b : True := trivial
  all_goals
   have A25 := am A250
   clear A250
   replace H := Option.bind_eq_some_iff.mp H
   obtain ⟨⟨t162, t163⟩, A260, H⟩ := H
   replace H : (some t162) = some r := H
   have A26 := am A260
   clear A260
   obtain rfl := Option.some.inj H
   go_enter Try.func60, Try.ntmps60
   try go_wp2_with (first | ((with_reducible refine gate_dst (N := 3) rfl ?_); refine box_event yz (N := 3) yz (cs := #[.int .i64 a0_0, .int .i64 a0_1]) (t := 49) gz ?_; intro gb153 hg w27 hbox hb; have BK153 := am (hbox); have GW153 := gwz (g := gb153) HB hg; have GE153 := GW153; replace HB := am (below_step bz hb); clear hb hbox hg) | ((with_reducible refine gate_dst (N := 4) rfl ?_); refine box_event yz (N := 4) yz (cs := #[.int .i64 a1_0, .int .i64 a1_1]) (t := 49) gz ?_; intro gb154 hg w28 hbox hb; have BK154 := am (hbox); have GW154 := gwz (g := gb154) HB hg; have GE154 := GW154; replace HB := am (below_step bz hb); have NB153_154 := nlt (g' := gb154) BK153 hg; have NB154_153 := ngt (g' := gb154) BK153 hg; replace BK153 := am (blk_below (o := .cells #[.int .i64 a0_0, .int .i64 a0_1] 49 (0, 0)) (kz BK153) hb); clear hb hbox hg))
   have n0_ := am (blk_drew BK153.out)
   have n1_ := am (blk_drew BK154.out)
   have n2_ := am (below_drew1 HB.out)
   clear BK153
   clear BK154
   clear HB
   have BK153 := n0_
   have BK154 := n1_
   have HB := n2_
   clear n0_ n1_ n2_
   refine start_ (n := 9) (S := fun w' => w'.cell? ⟨gb153, 0, none⟩ = some (.int .i64 a0_0) ∧ w'.cell? ⟨gb153, 1, none⟩ = some (.int .i64 a0_1) ∧ w'.cell? ⟨gb154, 0, none⟩ = some (.int .i64 a1_0) ∧ w'.cell? ⟨gb154, 1, none⟩ = some (.int .i64 a1_1)) (ds := []) (bm 9 0) qz rfl rfl ⟨(blk_cell BK153.out 0).trans rfl, (blk_cell BK153.out 1).trans rfl, (blk_cell BK154.out 0).trans rfl, (blk_cell BK154.out 1).trans rfl⟩ (fun hHeld => ?_); refine with_tabW geom_nearest.tab1 geom_nearest.bits1 (fun HT_ HW_ => ?_)
   generalize w28.drew = w29 at BK153 BK154 HB hHeld ⊢
   refine take_ (i := 0) (N := some 16) (v := ?_) (a' := ?_) (bm 9 1) rfl rfl (take_ofW HT_.out HW_.out qz) iz (Or.inl ⟨by rfl, ?_⟩) hHeld ?_ ?_
   rotate_left
   ·
    rintro w' ⟨s0, s1, s2, s3⟩
    go_simp
    with_reducible rfl
   rotate_left
   ·
    simp only [Act.put, aS, lZ, lS, i64_w, i32_w]
    rfl
   refine take_ (i := 1) (N := some 17) (v := ?_) (a' := ?_) (bm 9 3) rfl rfl (take_ofW HT_.out HW_.out qz) iz (Or.inl ⟨by rfl, ?_⟩) hHeld ?_ ?_
   rotate_left
   ·
    rintro w' ⟨s0, s1, s2, s3⟩
    go_simp
    with_reducible rfl
   rotate_left
   ·
    simp only [Act.put, aS, lZ, lS, i64_w, i32_w]
    rfl
   refine take_ (i := 4) (N := some 20) (v := ?_) (a' := ?_) (bm 9 19) rfl rfl (take_ofW HT_.out HW_.out qz) iz (Or.inl ⟨by rfl, ?_⟩) hHeld ?_ ?_
   rotate_left
   ·
    rintro w' ⟨s0, s1, s2, s3⟩
    go_simp
    with_reducible rfl
   rotate_left
   ·
    simp only [Act.put, aS, lZ, lS, i64_w, i32_w]
    rfl
   refine take_ (i := 5) (N := some 21) (v := ?_) (a' := ?_) (bm 9 51) rfl rfl (take_ofW HT_.out HW_.out qz) iz (Or.inl ⟨by rfl, ?_⟩) hHeld ?_ ?_
   rotate_left
   ·
    rintro w' ⟨s0, s1, s2, s3⟩
    go_simp
    with_reducible rfl
   rotate_left
   ·
    simp only [Act.put, aS, lZ, lS, i64_w, i32_w]
    rfl
   refine one_ (i := 2) (N := some 18) (bm 9 55) rfl rfl (one_of HT_.out qz) (by decide) (fun K hK => ?_)
   refine goes_ Try.func54 qz rfl #[.agg #[.int .i64 a0_0, .int .i64 a0_1], .agg #[.int .i64 a1_0, .int .i64 a1_1]] (by rfl) rfl rfl mz ?_
   with_reducible refine (geom_dot.calls a0_0 a0_1 a1_0 a1_1 t155 _ A4.out).mono ?_
   rintro e w30 ⟨rfl, hb⟩
   refine ⟨_, rfl, ?_⟩
   have n0_ := am (blk_below (o := .cells #[.int .i64 a0_0, .int .i64 a0_1] 49 (0, 0)) (kz BK153) hb)
   have n1_ := am (blk_below (o := .cells #[.int .i64 a1_0, .int .i64 a1_1] 49 (0, 0)) (kz BK154) hb)
   have n2_ := am (below_step bz hb)
   clear BK153
   clear BK154
   clear HB
   have BK153 := n0_
   have BK154 := n1_
   have HB := n2_
   clear n0_ n1_ n2_
   (try clear hb)
   (try clear hb2)
   (try clear hk)
   (try clear hi)
   refine hK.out _ _ ⟨(blk_cell BK153.out 0).trans rfl, (blk_cell BK153.out 1).trans rfl, (blk_cell BK154.out 0).trans rfl, (blk_cell BK154.out 1).trans rfl⟩ (fun hHeld => ?_)
   clear hK K
   refine norm_ (a' := ?_) ?_ ?_
   rotate_left
   ·
    show Act.put _ (some 18) _ = _
    simp only [Act.put, aS, lZ, lS, i64_w, i32_w]
    rfl
   refine pa (i := 3) (N := some 19) (bm 9 63) HT_ ?_
   refine one_ (i := 6) (N := some 22) (bm 9 127) rfl rfl (one_of HT_.out qz) (by decide) (fun K hK => ?_)
   refine goes_ Try.func54 qz rfl #[.agg #[.int .i64 a1_0, .int .i64 a1_1], .agg #[.int .i64 a1_0, .int .i64 a1_1]] (by rfl) rfl rfl mz ?_
   with_reducible refine (geom_dot.calls a1_0 a1_1 a1_0 a1_1 t156 _ A5.out).mono ?_
   rintro e w31 ⟨rfl, hb⟩
   refine ⟨_, rfl, ?_⟩
   have n0_ := am (blk_below (o := .cells #[.int .i64 a0_0, .int .i64 a0_1] 49 (0, 0)) (kz BK153) hb)
   have n1_ := am (blk_below (o := .cells #[.int .i64 a1_0, .int .i64 a1_1] 49 (0, 0)) (kz BK154) hb)
   have n2_ := am (below_step bz hb)
   clear BK153
   clear BK154
   clear HB
   have BK153 := n0_
   have BK154 := n1_
   have HB := n2_
   clear n0_ n1_ n2_
   (try clear hb)
   (try clear hb2)
   (try clear hk)
   (try clear hi)
   refine hK.out _ _ ⟨(blk_cell BK153.out 0).trans rfl, (blk_cell BK153.out 1).trans rfl, (blk_cell BK154.out 0).trans rfl, (blk_cell BK154.out 1).trans rfl⟩ (fun hHeld => ?_)
   clear hK K
   refine norm_ (a' := ?_) ?_ ?_
   rotate_left
   ·
    show Act.put _ (some 22) _ = _
    simp only [Act.put, aS, lZ, lS, i64_w, i32_w]
    rfl
   refine pa (i := 7) (N := some 7) (bm 9 255) HT_ ?_
   refine pa (i := 8) (N := some 8) (bm 9 511) HT_ ?_
   refine done_ (done_of HT_.out qz) ?_
   have hnb32 := NB153_154.out
   have hnc32 := NB154_153.out
   obtain ⟨hcz33_0, hcz33_1, hfz33_0, hfz33_1⟩ := kc2 BK153.out
   obtain ⟨hcz34_0, hcz34_1, hfz34_0, hfz34_1⟩ := kc2 BK154.out
   first
   | (have _ := tw1a
      try go_wp2_with (first | ((with_reducible refine gate_dst (N := 9) rfl ?_); refine box_event yz (N := 9) yz (cs := #[.int .i64 0, .int .i64 0]) (t := 49) gz ?_; intro gb157 hg w35 hbox hb; have BK157 := am (hbox); have GW157 := gwz (g := gb157) HB hg; have GE157 := GW157; replace HB := am (below_step bz hb); have NB153_157 := nlt (g' := gb157) BK153 hg; have NB157_153 := ngt (g' := gb157) BK153 hg; replace BK153 := am (blk_below (o := .cells #[.int .i64 a0_0, .int .i64 a0_1] 49 (0, 0)) (kz BK153) hb); have NB154_157 := nlt (g' := gb157) BK154 hg; have NB157_154 := ngt (g' := gb157) BK154 hg; replace BK154 := am (blk_below (o := .cells #[.int .i64 a1_0, .int .i64 a1_1] 49 (0, 0)) (kz BK154) hb); clear hb hbox hg; have hnb36 := NB157_153.out; have hnc36 := NB153_157.out; have hnb37 := NB157_154.out; have hnc37 := NB154_157.out; obtain ⟨hcz38_0, hcz38_1, hfz38_0, hfz38_1⟩ := kc2 BK157.out) | ((with_reducible refine gate_callee (f := 54) rfl ?_); refine goesL_ (some 58) rfl rfl Try.func54 qz rfl #[.agg #[.int .i64 (wrap64 (a0_0 + a1_0)), .int .i64 (wrap64 (a0_1 + a1_1))], .agg #[.int .i64 (wrap64 (a0_0 + a1_0)), .int .i64 (wrap64 (a0_1 + a1_1))]] rfl mz ?_; (with_reducible refine (geom_dot.calls (wrap64 (a0_0 + a1_0)) (wrap64 (a0_1 + a1_1)) (wrap64 (a0_0 + a1_0)) (wrap64 (a0_1 + a1_1)) t161 _ A25.out).mono ?_); rintro e w39 ⟨rfl, hb⟩; refine ⟨_, rfl, ?_⟩; replace BK153 := am (blk_below (o := .cells #[.int .i64 a0_0, .int .i64 a0_1] 49 (0, 0)) (by (with_reducible repeat first | apply kN | apply kD | apply kA); refine blk_far ?_ NB153_157.out _; (with_reducible repeat first | apply kN | apply kD | apply kA); refine blk_far ?_ NB153_157.out _; (with_reducible repeat first | apply kN | apply kD | apply kA); exact BK153.out) hb); replace BK154 := am (blk_below (o := .cells #[.int .i64 a1_0, .int .i64 a1_1] 49 (0, 0)) (by (with_reducible repeat first | apply kN | apply kD | apply kA); refine blk_far ?_ NB154_157.out _; (with_reducible repeat first | apply kN | apply kD | apply kA); refine blk_far ?_ NB154_157.out _; (with_reducible repeat first | apply kN | apply kD | apply kA); exact BK154.out) hb); replace BK157 := am (blk_below (o := .cells #[.int .i64 (wrap64 (a0_0 + a1_0)), .int .i64 (wrap64 (a0_1 + a1_1))] 49 (0, 0)) (by (with_reducible repeat first | apply kN | apply kD | apply kA); refine blk_put (cs := #[.int .i64 (wrap64 (a0_0 + a1_0)), .int .i64 0]) ?_ 1 _ rfl; (with_reducible repeat first | apply kN | apply kD | apply kA); refine blk_put (cs := #[.int .i64 0, .int .i64 0]) ?_ 0 _ rfl; (with_reducible repeat first | apply kN | apply kD | apply kA); exact BK157.out) hb); replace HB := am (below_step bz hb); (try clear hb); (try clear hb2); (try clear hk); (try clear hi)) | ((with_reducible refine gate_callee (f := 73) rfl ?_); refine goesL_ (some 62) rfl rfl Try.func73 qz rfl #[.int .i64 t161, .int .i64 1, .int .i64 a2, .int .i64 1] rfl mz ?_; (with_reducible refine (num_Compare.calls k t161 1 a2 1 t162 t163 _ A26.out).mono ?_); rintro e w40 ⟨rfl, hb⟩; refine ⟨_, rfl, ?_⟩; replace BK153 := am (blk_below (o := .cells #[.int .i64 a0_0, .int .i64 a0_1] 49 (0, 0)) (kz BK153) hb); replace BK154 := am (blk_below (o := .cells #[.int .i64 a1_0, .int .i64 a1_1] 49 (0, 0)) (kz BK154) hb); replace BK157 := am (blk_below (o := .cells #[.int .i64 (wrap64 (a0_0 + a1_0)), .int .i64 (wrap64 (a0_1 + a1_1))] 49 (0, 0)) (kz BK157) hb); replace HB := am (below_step bz hb); (try clear hb); (try clear hb2); (try clear hk); (try clear hi)))
      go_ret
      exact ⟨ez, bz⟩)
   | (have _ := tw1b
      try go_wp2_with (first | ((with_reducible refine gate_dst (N := 9) rfl ?_); refine box_event yz (N := 9) yz (cs := #[.int .i64 0, .int .i64 0]) (t := 49) gz ?_; intro gb157 hg w51 hbox hb; have BK157 := am (hbox); have GW157 := gwz (g := gb157) HB hg; have GE157 := GW157; replace HB := am (below_step bz hb); have NB153_157 := nlt (g' := gb157) BK153 hg; have NB157_153 := ngt (g' := gb157) BK153 hg; replace BK153 := am (blk_below (o := .cells #[.int .i64 a0_0, .int .i64 a0_1] 49 (0, 0)) (kz BK153) hb); have NB154_157 := nlt (g' := gb157) BK154 hg; have NB157_154 := ngt (g' := gb157) BK154 hg; replace BK154 := am (blk_below (o := .cells #[.int .i64 a1_0, .int .i64 a1_1] 49 (0, 0)) (kz BK154) hb); clear hb hbox hg; have hnb52 := NB157_153.out; have hnc52 := NB153_157.out; have hnb53 := NB157_154.out; have hnc53 := NB154_157.out; obtain ⟨hcz54_0, hcz54_1, hfz54_0, hfz54_1⟩ := kc2 BK157.out; obtain ⟨hcz55_0, hcz55_1, hfz55_0, hfz55_1⟩ := kc2 BK153.out; obtain ⟨hcz56_0, hcz56_1, hfz56_0, hfz56_1⟩ := kc2 BK154.out) | ((with_reducible refine gate_callee (f := 72) rfl ?_); refine goesL_ (some 36) rfl rfl Try.func72 qz rfl #[.agg #[.int .i64 a0_0, .int .i64 a0_1], .agg #[.int .i64 a1_0, .int .i64 a1_1]] rfl mz ?_; (with_reducible refine (geom_cross.calls a0_0 a0_1 a1_0 a1_1 t164 _ A25.out).mono ?_); rintro e w57 ⟨rfl, hb⟩; refine ⟨_, rfl, ?_⟩; replace BK153 := am (blk_below (o := .cells #[.int .i64 a0_0, .int .i64 a0_1] 49 (0, 0)) (by (with_reducible repeat first | apply kN | apply kD | apply kA); refine blk_far ?_ NB153_157.out _; (with_reducible repeat first | apply kN | apply kD | apply kA); refine blk_far ?_ NB153_157.out _; (with_reducible repeat first | apply kN | apply kD | apply kA); exact BK153.out) hb); replace BK154 := am (blk_below (o := .cells #[.int .i64 a1_0, .int .i64 a1_1] 49 (0, 0)) (by (with_reducible repeat first | apply kN | apply kD | apply kA); refine blk_far ?_ NB154_157.out _; (with_reducible repeat first | apply kN | apply kD | apply kA); refine blk_far ?_ NB154_157.out _; (with_reducible repeat first | apply kN | apply kD | apply kA); exact BK154.out) hb); replace BK157 := am (blk_below (o := .cells #[.int .i64 (wrap64 (a0_0 + a1_0)), .int .i64 (wrap64 (a0_1 + a1_1))] 49 (0, 0)) (by (with_reducible repeat first | apply kN | apply kD | apply kA); refine blk_put (cs := #[.int .i64 (wrap64 (a0_0 + a1_0)), .int .i64 0]) ?_ 1 _ rfl; (with_reducible repeat first | apply kN | apply kD | apply kA); refine blk_put (cs := #[.int .i64 0, .int .i64 0]) ?_ 0 _ rfl; (with_reducible repeat first | apply kN | apply kD | apply kA); exact BK157.out) hb); replace HB := am (below_step bz hb); (try clear hb); (try clear hb2); (try clear hk); (try clear hi)) | ((with_reducible refine gate_callee (f := 73) rfl ?_); refine goesL_ (some 42) rfl rfl Try.func73 qz rfl #[.int .i64 t164, .int .i64 t164, .int .i64 a2, .int .i64 t156] rfl mz ?_; (with_reducible refine (num_Compare.calls k t164 t164 a2 t156 t162 t163 _ A26.out).mono ?_); rintro e w58 ⟨rfl, hb⟩; refine ⟨_, rfl, ?_⟩; replace BK153 := am (blk_below (o := .cells #[.int .i64 a0_0, .int .i64 a0_1] 49 (0, 0)) (kz BK153) hb); replace BK154 := am (blk_below (o := .cells #[.int .i64 a1_0, .int .i64 a1_1] 49 (0, 0)) (kz BK154) hb); replace BK157 := am (blk_below (o := .cells #[.int .i64 (wrap64 (a0_0 + a1_0)), .int .i64 (wrap64 (a0_1 + a1_1))] 49 (0, 0)) (kz BK157) hb); replace HB := am (below_step bz hb); (try clear hb); (try clear hb2); (try clear hk); (try clear hi)))
      go_ret
      exact ⟨ez, bz⟩
      )
end Go.Proofs.Yteflngoiebgdaaa.X
