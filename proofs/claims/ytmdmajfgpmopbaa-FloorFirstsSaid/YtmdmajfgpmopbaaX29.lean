import Derived.Test.YtmdmajfgpmopbaaX0
import Derived.Test.YtmdmajfgpmopbaaX22
import Derived.Test.YtmdmajfgpmopbaaX23
import Derived.Test.YtmdmajfgpmopbaaX28
namespace Go.Proofs.Ytmdmajfgpmopbaa.X
open Go.RowKit YtmdmajfgpmopbaaW.PrintWords YtmdmajfgpmopbaaW.PrintLast YtmdmajfgpmopbaaW.PrintMore
attribute [local go_sem] max2_int min2_int max_two min_two max_three min_three max_four min_four
set_option linter.unusedVariables false
set_option linter.unusedSimpArgs false

/-! ### geom_nearest: function 49 -/
def geom_nearest.f (k : Nat) (a0_0 a0_1 a1_0 a1_1 a2 : Int) : Option (Int) := (geom_dot.f a0_0 a0_1 a1_0 a1_1).bind fun t199 => ((geom_dot.f a1_0 a1_1 a1_0 a1_1).bind fun t200 => (if (wrap64 (-t199)) ≤ 0 then ((geom_dot.f a0_0 a0_1 a0_0 a0_1).bind fun t202 => ((num_Compare.f k t202 1 a2 1).bind fun bt203 => (some bt203.1))) else (if (wrap64 (-t199)) ≥ t200 then ((geom_dot.f (wrap64 (a0_0 + a1_0)) (wrap64 (a0_1 + a1_1)) (wrap64 (a0_0 + a1_0)) (wrap64 (a0_1 + a1_1))).bind fun t205 => ((num_Compare.f k t205 1 a2 1).bind fun bt206 => (some bt206.1))) else ((geom_cross.f a0_0 a0_1 a1_0 a1_1).bind fun t208 => ((num_Compare.f k t208 t208 a2 t200).bind fun bt209 => (some bt209.1))))))
theorem geom_nearest.mono : ∀ a0 a1 a2 a3 a4 k, LeO (geom_nearest.f k a0 a1 a2 a3 a4) (geom_nearest.f (k + 1) a0 a1 a2 a3 a4) := by
 intro a0 a1 a2 a3 a4 k
 unfold geom_nearest.f
 repeat' first
   | (with_reducible exact num_Compare.mono _ _ _ _ _)
   | (with_reducible exact LeO.refl _)
   | (with_reducible exact LeO.none _)
   | (with_reducible refine LeO.ite ?_ ?_)
   | (with_reducible refine LeO.bind ?_ (fun _ => ?_))
   | exact num_Compare.mono _ _ _ _ _
   | exact LeO.none _
   | refine LeO.ite ?_ ?_
   | refine LeO.bind ?_ (fun _ => ?_)
def geom_nearest.T1 : Bool × List (List Nat × List Nat) := (true, [([], []), ([], []), ([0, 1], [0, 1]), ([2], [2]), ([], []), ([], []), ([4, 5, 2], [4, 5]), ([3, 6, 0, 1, 2, 3], [3]), ([6, 7, 0, 1, 2, 3, 4, 5, 6, 7], [6])])
def geom_nearest.B1 : List Nat := [0, 0, 3, 7, 0, 0, 55, 127, 255]
theorem geom_nearest.tab1 : rtab .any (opsOf Try.f49 1) = geom_nearest.T1 := by kernel_rfl
theorem geom_nearest.bits1 : waitsOk geom_nearest.T1.2 geom_nearest.B1 = true := by kernel_rfl
set_option maxHeartbeats 8000000 in
set_option maxRecDepth 100000 in
theorem geom_nearest.calls (k : Nat) (a0_0 a0_1 a1_0 a1_1 a2 r : Int) (w : World) (h : geom_nearest.f k a0_0 a0_1 a1_0 a1_1 a2 = some r) :
  Calls Try.prog 49 #[.agg #[.int .i64 a0_0, .int .i64 a0_1], .agg #[.int .i64 a1_0, .int .i64 a1_1], .int .i64 a2] w fun e w' => e = .returned (.int .i64 r) ∧ Below w.heap.size w w' := by
 have hu35 := Try.underlying35
 have HB := am (Below.refl w.heap.size w)
 have H : ((geom_dot.f a0_0 a0_1 a1_0 a1_1).bind fun t199 => ((geom_dot.f a1_0 a1_1 a1_0 a1_1).bind fun t200 => (if (wrap64 (-t199)) ≤ 0 then ((geom_dot.f a0_0 a0_1 a0_0 a0_1).bind fun t202 => ((num_Compare.f k t202 1 a2 1).bind fun bt203 => (some bt203.1))) else (if (wrap64 (-t199)) ≥ t200 then ((geom_dot.f (wrap64 (a0_0 + a1_0)) (wrap64 (a0_1 + a1_1)) (wrap64 (a0_0 + a1_0)) (wrap64 (a0_1 + a1_1))).bind fun t205 => ((num_Compare.f k t205 1 a2 1).bind fun bt206 => (some bt206.1))) else ((geom_cross.f a0_0 a0_1 a1_0 a1_1).bind fun t208 => ((num_Compare.f k t208 t208 a2 t200).bind fun bt209 => (some bt209.1))))))) = some r := h
 clear h
 replace H := Option.bind_eq_some_iff.mp H
 obtain ⟨t199, A40, H⟩ := H
 replace H : ((geom_dot.f a1_0 a1_1 a1_0 a1_1).bind fun t200 => (if (wrap64 (-t199)) ≤ 0 then ((geom_dot.f a0_0 a0_1 a0_0 a0_1).bind fun t202 => ((num_Compare.f k t202 1 a2 1).bind fun bt203 => (some bt203.1))) else (if (wrap64 (-t199)) ≥ t200 then ((geom_dot.f (wrap64 (a0_0 + a1_0)) (wrap64 (a0_1 + a1_1)) (wrap64 (a0_0 + a1_0)) (wrap64 (a0_1 + a1_1))).bind fun t205 => ((num_Compare.f k t205 1 a2 1).bind fun bt206 => (some bt206.1))) else ((geom_cross.f a0_0 a0_1 a1_0 a1_1).bind fun t208 => ((num_Compare.f k t208 t208 a2 t200).bind fun bt209 => (some bt209.1)))))) = some r := H
 have A4 := am A40
 clear A40
 replace H := Option.bind_eq_some_iff.mp H
 obtain ⟨t200, A50, H⟩ := H
 replace H : (if (wrap64 (-t199)) ≤ 0 then ((geom_dot.f a0_0 a0_1 a0_0 a0_1).bind fun t202 => ((num_Compare.f k t202 1 a2 1).bind fun bt203 => (some bt203.1))) else (if (wrap64 (-t199)) ≥ t200 then ((geom_dot.f (wrap64 (a0_0 + a1_0)) (wrap64 (a0_1 + a1_1)) (wrap64 (a0_0 + a1_0)) (wrap64 (a0_1 + a1_1))).bind fun t205 => ((num_Compare.f k t205 1 a2 1).bind fun bt206 => (some bt206.1))) else ((geom_cross.f a0_0 a0_1 a1_0 a1_1).bind fun t208 => ((num_Compare.f k t208 t208 a2 t200).bind fun bt209 => (some bt209.1))))) = some r := H
 have A5 := am A50
 clear A50
 by_cases c6 : (wrap64 (-t199)) ≤ 0
 ·
  rw [if_pos c6] at H
  have c6b0 := decide_eq_true c6
  clear c6
  replace H := Option.bind_eq_some_iff.mp H
  obtain ⟨t202, A70, H⟩ := H
  replace H : ((num_Compare.f k t202 1 a2 1).bind fun bt203 => (some bt203.1)) = some r := H
  have A7 := am A70
  clear A70
  replace H := Option.bind_eq_some_iff.mp H
  obtain ⟨⟨t203, t204⟩, A80, H⟩ := H
  replace H : (some t203) = some r := H
  have A8 := am A80
  clear A80
  obtain rfl := Option.some.inj H
  go_enter Try.func49, Try.ntmps49
  try go_wp2_with (first | ((with_reducible refine gate_dst (N := 3) rfl ?_); refine box_event yz (N := 3) yz (cs := #[.int .i64 a0_0, .int .i64 a0_1]) (t := 35) gz ?_; intro gb197 hg w9 hbox hb; have BK197 := am (hbox); have GW197 := gwz (g := gb197) HB hg; have GE197 := GW197; replace HB := am (below_step bz hb); clear hb hbox hg) | ((with_reducible refine gate_dst (N := 4) rfl ?_); refine box_event yz (N := 4) yz (cs := #[.int .i64 a1_0, .int .i64 a1_1]) (t := 35) gz ?_; intro gb198 hg w10 hbox hb; have BK198 := am (hbox); have GW198 := gwz (g := gb198) HB hg; have GE198 := GW198; replace HB := am (below_step bz hb); have NB197_198 := nlt (g' := gb198) BK197 hg; have NB198_197 := ngt (g' := gb198) BK197 hg; replace BK197 := am (blk_below (o := .cells #[.int .i64 a0_0, .int .i64 a0_1] 35 (0, 0)) (kz BK197) hb); clear hb hbox hg))
  have n0_ := am (blk_drew BK197.out)
  have n1_ := am (blk_drew BK198.out)
  have n2_ := am (below_drew1 HB.out)
  clear BK197
  clear BK198
  clear HB
  have BK197 := n0_
  have BK198 := n1_
  have HB := n2_
  clear n0_ n1_ n2_
  refine start_ (n := 9) (S := fun w' => w'.cell? ⟨gb197, 0, none⟩ = some (.int .i64 a0_0) ∧ w'.cell? ⟨gb197, 1, none⟩ = some (.int .i64 a0_1) ∧ w'.cell? ⟨gb198, 0, none⟩ = some (.int .i64 a1_0) ∧ w'.cell? ⟨gb198, 1, none⟩ = some (.int .i64 a1_1)) (ds := []) (bm 9 0) qz rfl rfl ⟨(blk_cell BK197.out 0).trans rfl, (blk_cell BK197.out 1).trans rfl, (blk_cell BK198.out 0).trans rfl, (blk_cell BK198.out 1).trans rfl⟩ (fun hHeld => ?_); refine with_tabW geom_nearest.tab1 geom_nearest.bits1 (fun HT_ HW_ => ?_)
  generalize w10.drew = w11 at BK197 BK198 HB hHeld ⊢
  refine take_ (i := 0) (N := some 16) (v := ?_) (a' := ?_) (bm 9 1) rfl rfl (take_ofW HT_.out HW_.out qz) iz (Or.inl ⟨by rfl, ?_⟩) hHeld ?_ ?_
  rotate_left
  ·
   rintro w' ⟨s0, s1, s2, s3⟩
   go_simp
   with_reducible rfl
  rotate_left
  ·
   simp only [Act.put, aS, lZ, lS, i64_w, i32_w]
   rfl
  refine take_ (i := 1) (N := some 17) (v := ?_) (a' := ?_) (bm 9 3) rfl rfl (take_ofW HT_.out HW_.out qz) iz (Or.inl ⟨by rfl, ?_⟩) hHeld ?_ ?_
  rotate_left
  ·
   rintro w' ⟨s0, s1, s2, s3⟩
   go_simp
   with_reducible rfl
  rotate_left
  ·
   simp only [Act.put, aS, lZ, lS, i64_w, i32_w]
   rfl
  refine take_ (i := 4) (N := some 20) (v := ?_) (a' := ?_) (bm 9 19) rfl rfl (take_ofW HT_.out HW_.out qz) iz (Or.inl ⟨by rfl, ?_⟩) hHeld ?_ ?_
  rotate_left
  ·
   rintro w' ⟨s0, s1, s2, s3⟩
   go_simp
   with_reducible rfl
  rotate_left
  ·
   simp only [Act.put, aS, lZ, lS, i64_w, i32_w]
   rfl
  refine take_ (i := 5) (N := some 21) (v := ?_) (a' := ?_) (bm 9 51) rfl rfl (take_ofW HT_.out HW_.out qz) iz (Or.inl ⟨by rfl, ?_⟩) hHeld ?_ ?_
  rotate_left
  ·
   rintro w' ⟨s0, s1, s2, s3⟩
   go_simp
   with_reducible rfl
  rotate_left
  ·
   simp only [Act.put, aS, lZ, lS, i64_w, i32_w]
   rfl
  refine one_ (i := 2) (N := some 18) (bm 9 55) rfl rfl (one_of HT_.out qz) (by decide) (fun K hK => ?_)
  refine goes_ Try.func62 qz rfl #[.agg #[.int .i64 a0_0, .int .i64 a0_1], .agg #[.int .i64 a1_0, .int .i64 a1_1]] (by rfl) rfl rfl mz ?_
  with_reducible refine (geom_dot.calls a0_0 a0_1 a1_0 a1_1 t199 _ A4.out).mono ?_
  rintro e w12 ⟨rfl, hb⟩
  refine ⟨_, rfl, ?_⟩
  have n0_ := am (blk_below (o := .cells #[.int .i64 a0_0, .int .i64 a0_1] 35 (0, 0)) (kz BK197) hb)
  have n1_ := am (blk_below (o := .cells #[.int .i64 a1_0, .int .i64 a1_1] 35 (0, 0)) (kz BK198) hb)
  have n2_ := am (below_step bz hb)
  clear BK197
  clear BK198
  clear HB
  have BK197 := n0_
  have BK198 := n1_
  have HB := n2_
  clear n0_ n1_ n2_
  (try clear hb)
  (try clear hb2)
  (try clear hk)
  (try clear hi)
  refine hK.out _ _ ⟨(blk_cell BK197.out 0).trans rfl, (blk_cell BK197.out 1).trans rfl, (blk_cell BK198.out 0).trans rfl, (blk_cell BK198.out 1).trans rfl⟩ (fun hHeld => ?_)
  clear hK K
  refine norm_ (a' := ?_) ?_ ?_
  rotate_left
  ·
   show Act.put _ (some 18) _ = _
   simp only [Act.put, aS, lZ, lS, i64_w, i32_w]
   rfl
  refine pa (i := 3) (N := some 19) (bm 9 63) HT_ ?_
  refine one_ (i := 6) (N := some 22) (bm 9 127) rfl rfl (one_of HT_.out qz) (by decide) (fun K hK => ?_)
  refine goes_ Try.func62 qz rfl #[.agg #[.int .i64 a1_0, .int .i64 a1_1], .agg #[.int .i64 a1_0, .int .i64 a1_1]] (by rfl) rfl rfl mz ?_
  with_reducible refine (geom_dot.calls a1_0 a1_1 a1_0 a1_1 t200 _ A5.out).mono ?_
  rintro e w13 ⟨rfl, hb⟩
  refine ⟨_, rfl, ?_⟩
  have n0_ := am (blk_below (o := .cells #[.int .i64 a0_0, .int .i64 a0_1] 35 (0, 0)) (kz BK197) hb)
  have n1_ := am (blk_below (o := .cells #[.int .i64 a1_0, .int .i64 a1_1] 35 (0, 0)) (kz BK198) hb)
  have n2_ := am (below_step bz hb)
  clear BK197
  clear BK198
  clear HB
  have BK197 := n0_
  have BK198 := n1_
  have HB := n2_
  clear n0_ n1_ n2_
  (try clear hb)
  (try clear hb2)
  (try clear hk)
  (try clear hi)
  refine hK.out _ _ ⟨(blk_cell BK197.out 0).trans rfl, (blk_cell BK197.out 1).trans rfl, (blk_cell BK198.out 0).trans rfl, (blk_cell BK198.out 1).trans rfl⟩ (fun hHeld => ?_)
  clear hK K
  refine norm_ (a' := ?_) ?_ ?_
  rotate_left
  ·
   show Act.put _ (some 22) _ = _
   simp only [Act.put, aS, lZ, lS, i64_w, i32_w]
   rfl
  refine pa (i := 7) (N := some 7) (bm 9 255) HT_ ?_
  refine pa (i := 8) (N := some 8) (bm 9 511) HT_ ?_
  refine done_ (done_of HT_.out qz) ?_
  have hnb14 := NB197_198.out
  have hnc14 := NB198_197.out
  obtain ⟨hcz15_0, hcz15_1, hfz15_0, hfz15_1⟩ := kc2 BK197.out
  obtain ⟨hcz16_0, hcz16_1, hfz16_0, hfz16_1⟩ := kc2 BK198.out
  try go_wp2_with (first | ((with_reducible refine gate_dst (N := 9) rfl ?_); refine box_event yz (N := 9) yz (cs := #[.int .i64 0, .int .i64 0]) (t := 35) gz ?_; intro gb201 hg w17 hbox hb; have BK201 := am (hbox); have GW201 := gwz (g := gb201) HB hg; have GE201 := GW201; replace HB := am (below_step bz hb); have NB197_201 := nlt (g' := gb201) BK197 hg; have NB201_197 := ngt (g' := gb201) BK197 hg; replace BK197 := am (blk_below (o := .cells #[.int .i64 a0_0, .int .i64 a0_1] 35 (0, 0)) (kz BK197) hb); have NB198_201 := nlt (g' := gb201) BK198 hg; have NB201_198 := ngt (g' := gb201) BK198 hg; replace BK198 := am (blk_below (o := .cells #[.int .i64 a1_0, .int .i64 a1_1] 35 (0, 0)) (kz BK198) hb); clear hb hbox hg; have hnb18 := NB201_197.out; have hnc18 := NB197_201.out; have hnb19 := NB201_198.out; have hnc19 := NB198_201.out; obtain ⟨hcz20_0, hcz20_1, hfz20_0, hfz20_1⟩ := kc2 BK201.out; obtain ⟨hcz21_0, hcz21_1, hfz21_0, hfz21_1⟩ := kc2 BK197.out) | ((with_reducible refine gate_callee (f := 62) rfl ?_); refine goesL_ (some 51) rfl rfl Try.func62 qz rfl #[.agg #[.int .i64 a0_0, .int .i64 a0_1], .agg #[.int .i64 a0_0, .int .i64 a0_1]] rfl mz ?_; (with_reducible refine (geom_dot.calls a0_0 a0_1 a0_0 a0_1 t202 _ A7.out).mono ?_); rintro e w22 ⟨rfl, hb⟩; refine ⟨_, rfl, ?_⟩; replace BK197 := am (blk_below (o := .cells #[.int .i64 a0_0, .int .i64 a0_1] 35 (0, 0)) (by (with_reducible repeat first | apply kN | apply kD | apply kA); refine blk_far ?_ NB197_201.out _; (with_reducible repeat first | apply kN | apply kD | apply kA); refine blk_far ?_ NB197_201.out _; (with_reducible repeat first | apply kN | apply kD | apply kA); exact BK197.out) hb); replace BK198 := am (blk_below (o := .cells #[.int .i64 a1_0, .int .i64 a1_1] 35 (0, 0)) (by (with_reducible repeat first | apply kN | apply kD | apply kA); refine blk_far ?_ NB198_201.out _; (with_reducible repeat first | apply kN | apply kD | apply kA); refine blk_far ?_ NB198_201.out _; (with_reducible repeat first | apply kN | apply kD | apply kA); exact BK198.out) hb); replace BK201 := am (blk_below (o := .cells #[.int .i64 (wrap64 (a0_0 + a1_0)), .int .i64 (wrap64 (a0_1 + a1_1))] 35 (0, 0)) (by (with_reducible repeat first | apply kN | apply kD | apply kA); refine blk_put (cs := #[.int .i64 (wrap64 (a0_0 + a1_0)), .int .i64 0]) ?_ 1 _ rfl; (with_reducible repeat first | apply kN | apply kD | apply kA); refine blk_put (cs := #[.int .i64 0, .int .i64 0]) ?_ 0 _ rfl; (with_reducible repeat first | apply kN | apply kD | apply kA); exact BK201.out) hb); replace HB := am (below_step bz hb); (try clear hb); (try clear hb2); (try clear hk); (try clear hi)) | ((with_reducible refine gate_callee (f := 64) rfl ?_); refine goesL_ (some 62) rfl rfl Try.func64 qz rfl #[.int .i64 t202, .int .i64 1, .int .i64 a2, .int .i64 1] rfl mz ?_; (with_reducible refine (num_Compare.calls k t202 1 a2 1 t203 t204 _ A8.out).mono ?_); rintro e w23 ⟨rfl, hb⟩; refine ⟨_, rfl, ?_⟩; replace BK197 := am (blk_below (o := .cells #[.int .i64 a0_0, .int .i64 a0_1] 35 (0, 0)) (kz BK197) hb); replace BK198 := am (blk_below (o := .cells #[.int .i64 a1_0, .int .i64 a1_1] 35 (0, 0)) (kz BK198) hb); replace BK201 := am (blk_below (o := .cells #[.int .i64 (wrap64 (a0_0 + a1_0)), .int .i64 (wrap64 (a0_1 + a1_1))] 35 (0, 0)) (kz BK201) hb); replace HB := am (below_step bz hb); (try clear hb); (try clear hb2); (try clear hk); (try clear hi)))
  go_ret
  exact ⟨ez, bz⟩
 ·
  rw [if_neg c6] at H
  have c6b0 := decide_eq_false c6
  clear c6
  by_cases c24 : (wrap64 (-t199)) ≥ t200
  ·
   rw [if_pos c24] at H
   have c24b0 := decide_eq_true c24
   clear c24
   replace H := Option.bind_eq_some_iff.mp H
   obtain ⟨t205, A250, H⟩ := H
   replace H : ((num_Compare.f k t205 1 a2 1).bind fun bt206 => (some bt206.1)) = some r := H
   have A25 := am A250
   clear A250
   replace H := Option.bind_eq_some_iff.mp H
   obtain ⟨⟨t206, t207⟩, A260, H⟩ := H
   replace H : (some t206) = some r := H
   have A26 := am A260
   clear A260
   obtain rfl := Option.some.inj H
   go_enter Try.func49, Try.ntmps49
   try go_wp2_with (first | ((with_reducible refine gate_dst (N := 3) rfl ?_); refine box_event yz (N := 3) yz (cs := #[.int .i64 a0_0, .int .i64 a0_1]) (t := 35) gz ?_; intro gb197 hg w27 hbox hb; have BK197 := am (hbox); have GW197 := gwz (g := gb197) HB hg; have GE197 := GW197; replace HB := am (below_step bz hb); clear hb hbox hg) | ((with_reducible refine gate_dst (N := 4) rfl ?_); refine box_event yz (N := 4) yz (cs := #[.int .i64 a1_0, .int .i64 a1_1]) (t := 35) gz ?_; intro gb198 hg w28 hbox hb; have BK198 := am (hbox); have GW198 := gwz (g := gb198) HB hg; have GE198 := GW198; replace HB := am (below_step bz hb); have NB197_198 := nlt (g' := gb198) BK197 hg; have NB198_197 := ngt (g' := gb198) BK197 hg; replace BK197 := am (blk_below (o := .cells #[.int .i64 a0_0, .int .i64 a0_1] 35 (0, 0)) (kz BK197) hb); clear hb hbox hg))
   have n0_ := am (blk_drew BK197.out)
   have n1_ := am (blk_drew BK198.out)
   have n2_ := am (below_drew1 HB.out)
   clear BK197
   clear BK198
   clear HB
   have BK197 := n0_
   have BK198 := n1_
   have HB := n2_
   clear n0_ n1_ n2_
   refine start_ (n := 9) (S := fun w' => w'.cell? ⟨gb197, 0, none⟩ = some (.int .i64 a0_0) ∧ w'.cell? ⟨gb197, 1, none⟩ = some (.int .i64 a0_1) ∧ w'.cell? ⟨gb198, 0, none⟩ = some (.int .i64 a1_0) ∧ w'.cell? ⟨gb198, 1, none⟩ = some (.int .i64 a1_1)) (ds := []) (bm 9 0) qz rfl rfl ⟨(blk_cell BK197.out 0).trans rfl, (blk_cell BK197.out 1).trans rfl, (blk_cell BK198.out 0).trans rfl, (blk_cell BK198.out 1).trans rfl⟩ (fun hHeld => ?_); refine with_tabW geom_nearest.tab1 geom_nearest.bits1 (fun HT_ HW_ => ?_)
   generalize w28.drew = w29 at BK197 BK198 HB hHeld ⊢
   refine take_ (i := 0) (N := some 16) (v := ?_) (a' := ?_) (bm 9 1) rfl rfl (take_ofW HT_.out HW_.out qz) iz (Or.inl ⟨by rfl, ?_⟩) hHeld ?_ ?_
   rotate_left
   ·
    rintro w' ⟨s0, s1, s2, s3⟩
    go_simp
    with_reducible rfl
   rotate_left
   ·
    simp only [Act.put, aS, lZ, lS, i64_w, i32_w]
    rfl
   refine take_ (i := 1) (N := some 17) (v := ?_) (a' := ?_) (bm 9 3) rfl rfl (take_ofW HT_.out HW_.out qz) iz (Or.inl ⟨by rfl, ?_⟩) hHeld ?_ ?_
   rotate_left
   ·
    rintro w' ⟨s0, s1, s2, s3⟩
    go_simp
    with_reducible rfl
   rotate_left
   ·
    simp only [Act.put, aS, lZ, lS, i64_w, i32_w]
    rfl
   refine take_ (i := 4) (N := some 20) (v := ?_) (a' := ?_) (bm 9 19) rfl rfl (take_ofW HT_.out HW_.out qz) iz (Or.inl ⟨by rfl, ?_⟩) hHeld ?_ ?_
   rotate_left
   ·
    rintro w' ⟨s0, s1, s2, s3⟩
    go_simp
    with_reducible rfl
   rotate_left
   ·
    simp only [Act.put, aS, lZ, lS, i64_w, i32_w]
    rfl
   refine take_ (i := 5) (N := some 21) (v := ?_) (a' := ?_) (bm 9 51) rfl rfl (take_ofW HT_.out HW_.out qz) iz (Or.inl ⟨by rfl, ?_⟩) hHeld ?_ ?_
   rotate_left
   ·
    rintro w' ⟨s0, s1, s2, s3⟩
    go_simp
    with_reducible rfl
   rotate_left
   ·
    simp only [Act.put, aS, lZ, lS, i64_w, i32_w]
    rfl
   refine one_ (i := 2) (N := some 18) (bm 9 55) rfl rfl (one_of HT_.out qz) (by decide) (fun K hK => ?_)
   refine goes_ Try.func62 qz rfl #[.agg #[.int .i64 a0_0, .int .i64 a0_1], .agg #[.int .i64 a1_0, .int .i64 a1_1]] (by rfl) rfl rfl mz ?_
   with_reducible refine (geom_dot.calls a0_0 a0_1 a1_0 a1_1 t199 _ A4.out).mono ?_
   rintro e w30 ⟨rfl, hb⟩
   refine ⟨_, rfl, ?_⟩
   have n0_ := am (blk_below (o := .cells #[.int .i64 a0_0, .int .i64 a0_1] 35 (0, 0)) (kz BK197) hb)
   have n1_ := am (blk_below (o := .cells #[.int .i64 a1_0, .int .i64 a1_1] 35 (0, 0)) (kz BK198) hb)
   have n2_ := am (below_step bz hb)
   clear BK197
   clear BK198
   clear HB
   have BK197 := n0_
   have BK198 := n1_
   have HB := n2_
   clear n0_ n1_ n2_
   (try clear hb)
   (try clear hb2)
   (try clear hk)
   (try clear hi)
   refine hK.out _ _ ⟨(blk_cell BK197.out 0).trans rfl, (blk_cell BK197.out 1).trans rfl, (blk_cell BK198.out 0).trans rfl, (blk_cell BK198.out 1).trans rfl⟩ (fun hHeld => ?_)
   clear hK K
   refine norm_ (a' := ?_) ?_ ?_
   rotate_left
   ·
    show Act.put _ (some 18) _ = _
    simp only [Act.put, aS, lZ, lS, i64_w, i32_w]
    rfl
   refine pa (i := 3) (N := some 19) (bm 9 63) HT_ ?_
   refine one_ (i := 6) (N := some 22) (bm 9 127) rfl rfl (one_of HT_.out qz) (by decide) (fun K hK => ?_)
   refine goes_ Try.func62 qz rfl #[.agg #[.int .i64 a1_0, .int .i64 a1_1], .agg #[.int .i64 a1_0, .int .i64 a1_1]] (by rfl) rfl rfl mz ?_
   with_reducible refine (geom_dot.calls a1_0 a1_1 a1_0 a1_1 t200 _ A5.out).mono ?_
   rintro e w31 ⟨rfl, hb⟩
   refine ⟨_, rfl, ?_⟩
   have n0_ := am (blk_below (o := .cells #[.int .i64 a0_0, .int .i64 a0_1] 35 (0, 0)) (kz BK197) hb)
   have n1_ := am (blk_below (o := .cells #[.int .i64 a1_0, .int .i64 a1_1] 35 (0, 0)) (kz BK198) hb)
   have n2_ := am (below_step bz hb)
   clear BK197
   clear BK198
   clear HB
   have BK197 := n0_
   have BK198 := n1_
   have HB := n2_
   clear n0_ n1_ n2_
   (try clear hb)
   (try clear hb2)
   (try clear hk)
   (try clear hi)
   refine hK.out _ _ ⟨(blk_cell BK197.out 0).trans rfl, (blk_cell BK197.out 1).trans rfl, (blk_cell BK198.out 0).trans rfl, (blk_cell BK198.out 1).trans rfl⟩ (fun hHeld => ?_)
   clear hK K
   refine norm_ (a' := ?_) ?_ ?_
   rotate_left
   ·
    show Act.put _ (some 22) _ = _
    simp only [Act.put, aS, lZ, lS, i64_w, i32_w]
    rfl
   refine pa (i := 7) (N := some 7) (bm 9 255) HT_ ?_
   refine pa (i := 8) (N := some 8) (bm 9 511) HT_ ?_
   refine done_ (done_of HT_.out qz) ?_
   have hnb32 := NB197_198.out
   have hnc32 := NB198_197.out
   obtain ⟨hcz33_0, hcz33_1, hfz33_0, hfz33_1⟩ := kc2 BK197.out
   obtain ⟨hcz34_0, hcz34_1, hfz34_0, hfz34_1⟩ := kc2 BK198.out
   try go_wp2_with (first | ((with_reducible refine gate_dst (N := 9) rfl ?_); refine box_event yz (N := 9) yz (cs := #[.int .i64 0, .int .i64 0]) (t := 35) gz ?_; intro gb201 hg w35 hbox hb; have BK201 := am (hbox); have GW201 := gwz (g := gb201) HB hg; have GE201 := GW201; replace HB := am (below_step bz hb); have NB197_201 := nlt (g' := gb201) BK197 hg; have NB201_197 := ngt (g' := gb201) BK197 hg; replace BK197 := am (blk_below (o := .cells #[.int .i64 a0_0, .int .i64 a0_1] 35 (0, 0)) (kz BK197) hb); have NB198_201 := nlt (g' := gb201) BK198 hg; have NB201_198 := ngt (g' := gb201) BK198 hg; replace BK198 := am (blk_below (o := .cells #[.int .i64 a1_0, .int .i64 a1_1] 35 (0, 0)) (kz BK198) hb); clear hb hbox hg; have hnb36 := NB201_197.out; have hnc36 := NB197_201.out; have hnb37 := NB201_198.out; have hnc37 := NB198_201.out; obtain ⟨hcz38_0, hcz38_1, hfz38_0, hfz38_1⟩ := kc2 BK201.out) | ((with_reducible refine gate_callee (f := 62) rfl ?_); refine goesL_ (some 58) rfl rfl Try.func62 qz rfl #[.agg #[.int .i64 (wrap64 (a0_0 + a1_0)), .int .i64 (wrap64 (a0_1 + a1_1))], .agg #[.int .i64 (wrap64 (a0_0 + a1_0)), .int .i64 (wrap64 (a0_1 + a1_1))]] rfl mz ?_; (with_reducible refine (geom_dot.calls (wrap64 (a0_0 + a1_0)) (wrap64 (a0_1 + a1_1)) (wrap64 (a0_0 + a1_0)) (wrap64 (a0_1 + a1_1)) t205 _ A25.out).mono ?_); rintro e w39 ⟨rfl, hb⟩; refine ⟨_, rfl, ?_⟩; replace BK197 := am (blk_below (o := .cells #[.int .i64 a0_0, .int .i64 a0_1] 35 (0, 0)) (by (with_reducible repeat first | apply kN | apply kD | apply kA); refine blk_far ?_ NB197_201.out _; (with_reducible repeat first | apply kN | apply kD | apply kA); refine blk_far ?_ NB197_201.out _; (with_reducible repeat first | apply kN | apply kD | apply kA); exact BK197.out) hb); replace BK198 := am (blk_below (o := .cells #[.int .i64 a1_0, .int .i64 a1_1] 35 (0, 0)) (by (with_reducible repeat first | apply kN | apply kD | apply kA); refine blk_far ?_ NB198_201.out _; (with_reducible repeat first | apply kN | apply kD | apply kA); refine blk_far ?_ NB198_201.out _; (with_reducible repeat first | apply kN | apply kD | apply kA); exact BK198.out) hb); replace BK201 := am (blk_below (o := .cells #[.int .i64 (wrap64 (a0_0 + a1_0)), .int .i64 (wrap64 (a0_1 + a1_1))] 35 (0, 0)) (by (with_reducible repeat first | apply kN | apply kD | apply kA); refine blk_put (cs := #[.int .i64 (wrap64 (a0_0 + a1_0)), .int .i64 0]) ?_ 1 _ rfl; (with_reducible repeat first | apply kN | apply kD | apply kA); refine blk_put (cs := #[.int .i64 0, .int .i64 0]) ?_ 0 _ rfl; (with_reducible repeat first | apply kN | apply kD | apply kA); exact BK201.out) hb); replace HB := am (below_step bz hb); (try clear hb); (try clear hb2); (try clear hk); (try clear hi)) | ((with_reducible refine gate_callee (f := 64) rfl ?_); refine goesL_ (some 62) rfl rfl Try.func64 qz rfl #[.int .i64 t205, .int .i64 1, .int .i64 a2, .int .i64 1] rfl mz ?_; (with_reducible refine (num_Compare.calls k t205 1 a2 1 t206 t207 _ A26.out).mono ?_); rintro e w40 ⟨rfl, hb⟩; refine ⟨_, rfl, ?_⟩; replace BK197 := am (blk_below (o := .cells #[.int .i64 a0_0, .int .i64 a0_1] 35 (0, 0)) (kz BK197) hb); replace BK198 := am (blk_below (o := .cells #[.int .i64 a1_0, .int .i64 a1_1] 35 (0, 0)) (kz BK198) hb); replace BK201 := am (blk_below (o := .cells #[.int .i64 (wrap64 (a0_0 + a1_0)), .int .i64 (wrap64 (a0_1 + a1_1))] 35 (0, 0)) (kz BK201) hb); replace HB := am (below_step bz hb); (try clear hb); (try clear hb2); (try clear hk); (try clear hi)))
   go_ret
   exact ⟨ez, bz⟩
  ·
   rw [if_neg c24] at H
   have c24b0 := decide_eq_false c24
   clear c24
   replace H := Option.bind_eq_some_iff.mp H
   obtain ⟨t208, A410, H⟩ := H
   replace H : ((num_Compare.f k t208 t208 a2 t200).bind fun bt209 => (some bt209.1)) = some r := H
   have A41 := am A410
   clear A410
   replace H := Option.bind_eq_some_iff.mp H
   obtain ⟨⟨t209, t210⟩, A420, H⟩ := H
   replace H : (some t209) = some r := H
   have A42 := am A420
   clear A420
   obtain rfl := Option.some.inj H
   go_enter Try.func49, Try.ntmps49
   try go_wp2_with (first | ((with_reducible refine gate_dst (N := 3) rfl ?_); refine box_event yz (N := 3) yz (cs := #[.int .i64 a0_0, .int .i64 a0_1]) (t := 35) gz ?_; intro gb197 hg w43 hbox hb; have BK197 := am (hbox); have GW197 := gwz (g := gb197) HB hg; have GE197 := GW197; replace HB := am (below_step bz hb); clear hb hbox hg) | ((with_reducible refine gate_dst (N := 4) rfl ?_); refine box_event yz (N := 4) yz (cs := #[.int .i64 a1_0, .int .i64 a1_1]) (t := 35) gz ?_; intro gb198 hg w44 hbox hb; have BK198 := am (hbox); have GW198 := gwz (g := gb198) HB hg; have GE198 := GW198; replace HB := am (below_step bz hb); have NB197_198 := nlt (g' := gb198) BK197 hg; have NB198_197 := ngt (g' := gb198) BK197 hg; replace BK197 := am (blk_below (o := .cells #[.int .i64 a0_0, .int .i64 a0_1] 35 (0, 0)) (kz BK197) hb); clear hb hbox hg))
   have n0_ := am (blk_drew BK197.out)
   have n1_ := am (blk_drew BK198.out)
   have n2_ := am (below_drew1 HB.out)
   clear BK197
   clear BK198
   clear HB
   have BK197 := n0_
   have BK198 := n1_
   have HB := n2_
   clear n0_ n1_ n2_
   refine start_ (n := 9) (S := fun w' => w'.cell? ⟨gb197, 0, none⟩ = some (.int .i64 a0_0) ∧ w'.cell? ⟨gb197, 1, none⟩ = some (.int .i64 a0_1) ∧ w'.cell? ⟨gb198, 0, none⟩ = some (.int .i64 a1_0) ∧ w'.cell? ⟨gb198, 1, none⟩ = some (.int .i64 a1_1)) (ds := []) (bm 9 0) qz rfl rfl ⟨(blk_cell BK197.out 0).trans rfl, (blk_cell BK197.out 1).trans rfl, (blk_cell BK198.out 0).trans rfl, (blk_cell BK198.out 1).trans rfl⟩ (fun hHeld => ?_); refine with_tabW geom_nearest.tab1 geom_nearest.bits1 (fun HT_ HW_ => ?_)
   generalize w44.drew = w45 at BK197 BK198 HB hHeld ⊢
   refine take_ (i := 0) (N := some 16) (v := ?_) (a' := ?_) (bm 9 1) rfl rfl (take_ofW HT_.out HW_.out qz) iz (Or.inl ⟨by rfl, ?_⟩) hHeld ?_ ?_
   rotate_left
   ·
    rintro w' ⟨s0, s1, s2, s3⟩
    go_simp
    with_reducible rfl
   rotate_left
   ·
    simp only [Act.put, aS, lZ, lS, i64_w, i32_w]
    rfl
   refine take_ (i := 1) (N := some 17) (v := ?_) (a' := ?_) (bm 9 3) rfl rfl (take_ofW HT_.out HW_.out qz) iz (Or.inl ⟨by rfl, ?_⟩) hHeld ?_ ?_
   rotate_left
   ·
    rintro w' ⟨s0, s1, s2, s3⟩
    go_simp
    with_reducible rfl
   rotate_left
   ·
    simp only [Act.put, aS, lZ, lS, i64_w, i32_w]
    rfl
   refine take_ (i := 4) (N := some 20) (v := ?_) (a' := ?_) (bm 9 19) rfl rfl (take_ofW HT_.out HW_.out qz) iz (Or.inl ⟨by rfl, ?_⟩) hHeld ?_ ?_
   rotate_left
   ·
    rintro w' ⟨s0, s1, s2, s3⟩
    go_simp
    with_reducible rfl
   rotate_left
   ·
    simp only [Act.put, aS, lZ, lS, i64_w, i32_w]
    rfl
   refine take_ (i := 5) (N := some 21) (v := ?_) (a' := ?_) (bm 9 51) rfl rfl (take_ofW HT_.out HW_.out qz) iz (Or.inl ⟨by rfl, ?_⟩) hHeld ?_ ?_
   rotate_left
   ·
    rintro w' ⟨s0, s1, s2, s3⟩
    go_simp
    with_reducible rfl
   rotate_left
   ·
    simp only [Act.put, aS, lZ, lS, i64_w, i32_w]
    rfl
   refine one_ (i := 2) (N := some 18) (bm 9 55) rfl rfl (one_of HT_.out qz) (by decide) (fun K hK => ?_)
   refine goes_ Try.func62 qz rfl #[.agg #[.int .i64 a0_0, .int .i64 a0_1], .agg #[.int .i64 a1_0, .int .i64 a1_1]] (by rfl) rfl rfl mz ?_
   with_reducible refine (geom_dot.calls a0_0 a0_1 a1_0 a1_1 t199 _ A4.out).mono ?_
   rintro e w46 ⟨rfl, hb⟩
   refine ⟨_, rfl, ?_⟩
   have n0_ := am (blk_below (o := .cells #[.int .i64 a0_0, .int .i64 a0_1] 35 (0, 0)) (kz BK197) hb)
   have n1_ := am (blk_below (o := .cells #[.int .i64 a1_0, .int .i64 a1_1] 35 (0, 0)) (kz BK198) hb)
   have n2_ := am (below_step bz hb)
   clear BK197
   clear BK198
   clear HB
   have BK197 := n0_
   have BK198 := n1_
   have HB := n2_
   clear n0_ n1_ n2_
   (try clear hb)
   (try clear hb2)
   (try clear hk)
   (try clear hi)
   refine hK.out _ _ ⟨(blk_cell BK197.out 0).trans rfl, (blk_cell BK197.out 1).trans rfl, (blk_cell BK198.out 0).trans rfl, (blk_cell BK198.out 1).trans rfl⟩ (fun hHeld => ?_)
   clear hK K
   refine norm_ (a' := ?_) ?_ ?_
   rotate_left
   ·
    show Act.put _ (some 18) _ = _
    simp only [Act.put, aS, lZ, lS, i64_w, i32_w]
    rfl
   refine pa (i := 3) (N := some 19) (bm 9 63) HT_ ?_
   refine one_ (i := 6) (N := some 22) (bm 9 127) rfl rfl (one_of HT_.out qz) (by decide) (fun K hK => ?_)
   refine goes_ Try.func62 qz rfl #[.agg #[.int .i64 a1_0, .int .i64 a1_1], .agg #[.int .i64 a1_0, .int .i64 a1_1]] (by rfl) rfl rfl mz ?_
   with_reducible refine (geom_dot.calls a1_0 a1_1 a1_0 a1_1 t200 _ A5.out).mono ?_
   rintro e w47 ⟨rfl, hb⟩
   refine ⟨_, rfl, ?_⟩
   have n0_ := am (blk_below (o := .cells #[.int .i64 a0_0, .int .i64 a0_1] 35 (0, 0)) (kz BK197) hb)
   have n1_ := am (blk_below (o := .cells #[.int .i64 a1_0, .int .i64 a1_1] 35 (0, 0)) (kz BK198) hb)
   have n2_ := am (below_step bz hb)
   clear BK197
   clear BK198
   clear HB
   have BK197 := n0_
   have BK198 := n1_
   have HB := n2_
   clear n0_ n1_ n2_
   (try clear hb)
   (try clear hb2)
   (try clear hk)
   (try clear hi)
   refine hK.out _ _ ⟨(blk_cell BK197.out 0).trans rfl, (blk_cell BK197.out 1).trans rfl, (blk_cell BK198.out 0).trans rfl, (blk_cell BK198.out 1).trans rfl⟩ (fun hHeld => ?_)
   clear hK K
   refine norm_ (a' := ?_) ?_ ?_
   rotate_left
   ·
    show Act.put _ (some 22) _ = _
    simp only [Act.put, aS, lZ, lS, i64_w, i32_w]
    rfl
   refine pa (i := 7) (N := some 7) (bm 9 255) HT_ ?_
   refine pa (i := 8) (N := some 8) (bm 9 511) HT_ ?_
   refine done_ (done_of HT_.out qz) ?_
   have hnb48 := NB197_198.out
   have hnc48 := NB198_197.out
   obtain ⟨hcz49_0, hcz49_1, hfz49_0, hfz49_1⟩ := kc2 BK197.out
   obtain ⟨hcz50_0, hcz50_1, hfz50_0, hfz50_1⟩ := kc2 BK198.out
   try go_wp2_with (first | ((with_reducible refine gate_dst (N := 9) rfl ?_); refine box_event yz (N := 9) yz (cs := #[.int .i64 0, .int .i64 0]) (t := 35) gz ?_; intro gb201 hg w51 hbox hb; have BK201 := am (hbox); have GW201 := gwz (g := gb201) HB hg; have GE201 := GW201; replace HB := am (below_step bz hb); have NB197_201 := nlt (g' := gb201) BK197 hg; have NB201_197 := ngt (g' := gb201) BK197 hg; replace BK197 := am (blk_below (o := .cells #[.int .i64 a0_0, .int .i64 a0_1] 35 (0, 0)) (kz BK197) hb); have NB198_201 := nlt (g' := gb201) BK198 hg; have NB201_198 := ngt (g' := gb201) BK198 hg; replace BK198 := am (blk_below (o := .cells #[.int .i64 a1_0, .int .i64 a1_1] 35 (0, 0)) (kz BK198) hb); clear hb hbox hg; have hnb52 := NB201_197.out; have hnc52 := NB197_201.out; have hnb53 := NB201_198.out; have hnc53 := NB198_201.out; obtain ⟨hcz54_0, hcz54_1, hfz54_0, hfz54_1⟩ := kc2 BK201.out; obtain ⟨hcz55_0, hcz55_1, hfz55_0, hfz55_1⟩ := kc2 BK197.out; obtain ⟨hcz56_0, hcz56_1, hfz56_0, hfz56_1⟩ := kc2 BK198.out) | ((with_reducible refine gate_callee (f := 63) rfl ?_); refine goesL_ (some 36) rfl rfl Try.func63 qz rfl #[.agg #[.int .i64 a0_0, .int .i64 a0_1], .agg #[.int .i64 a1_0, .int .i64 a1_1]] rfl mz ?_; (with_reducible refine (geom_cross.calls a0_0 a0_1 a1_0 a1_1 t208 _ A41.out).mono ?_); rintro e w57 ⟨rfl, hb⟩; refine ⟨_, rfl, ?_⟩; replace BK197 := am (blk_below (o := .cells #[.int .i64 a0_0, .int .i64 a0_1] 35 (0, 0)) (by (with_reducible repeat first | apply kN | apply kD | apply kA); refine blk_far ?_ NB197_201.out _; (with_reducible repeat first | apply kN | apply kD | apply kA); refine blk_far ?_ NB197_201.out _; (with_reducible repeat first | apply kN | apply kD | apply kA); exact BK197.out) hb); replace BK198 := am (blk_below (o := .cells #[.int .i64 a1_0, .int .i64 a1_1] 35 (0, 0)) (by (with_reducible repeat first | apply kN | apply kD | apply kA); refine blk_far ?_ NB198_201.out _; (with_reducible repeat first | apply kN | apply kD | apply kA); refine blk_far ?_ NB198_201.out _; (with_reducible repeat first | apply kN | apply kD | apply kA); exact BK198.out) hb); replace BK201 := am (blk_below (o := .cells #[.int .i64 (wrap64 (a0_0 + a1_0)), .int .i64 (wrap64 (a0_1 + a1_1))] 35 (0, 0)) (by (with_reducible repeat first | apply kN | apply kD | apply kA); refine blk_put (cs := #[.int .i64 (wrap64 (a0_0 + a1_0)), .int .i64 0]) ?_ 1 _ rfl; (with_reducible repeat first | apply kN | apply kD | apply kA); refine blk_put (cs := #[.int .i64 0, .int .i64 0]) ?_ 0 _ rfl; (with_reducible repeat first | apply kN | apply kD | apply kA); exact BK201.out) hb); replace HB := am (below_step bz hb); (try clear hb); (try clear hb2); (try clear hk); (try clear hi)) | ((with_reducible refine gate_callee (f := 64) rfl ?_); refine goesL_ (some 42) rfl rfl Try.func64 qz rfl #[.int .i64 t208, .int .i64 t208, .int .i64 a2, .int .i64 t200] rfl mz ?_; (with_reducible refine (num_Compare.calls k t208 t208 a2 t200 t209 t210 _ A42.out).mono ?_); rintro e w58 ⟨rfl, hb⟩; refine ⟨_, rfl, ?_⟩; replace BK197 := am (blk_below (o := .cells #[.int .i64 a0_0, .int .i64 a0_1] 35 (0, 0)) (kz BK197) hb); replace BK198 := am (blk_below (o := .cells #[.int .i64 a1_0, .int .i64 a1_1] 35 (0, 0)) (kz BK198) hb); replace BK201 := am (blk_below (o := .cells #[.int .i64 (wrap64 (a0_0 + a1_0)), .int .i64 (wrap64 (a0_1 + a1_1))] 35 (0, 0)) (kz BK201) hb); replace HB := am (below_step bz hb); (try clear hb); (try clear hb2); (try clear hk); (try clear hi)))
   go_ret
   exact ⟨ez, bz⟩

end Go.Proofs.Ytmdmajfgpmopbaa.X
