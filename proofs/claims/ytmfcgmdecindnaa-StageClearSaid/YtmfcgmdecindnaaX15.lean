-- squeezed
-- written by xprint.py, an own overlay over the kit's print; not trusted: Lean checks it
import Derived.Test.YtmfcgmdecindnaaX0
import Derived.Test.YtmfcgmdecindnaaX8
import Derived.Test.YtmfcgmdecindnaaX9
import Derived.Test.YtmfcgmdecindnaaX14
namespace Go.Proofs.Ytmfcgmdecindnaa.X
open Go.RowKit Go.Proofs.YtmfcgmdecindnaaW.PrintWords Go.Proofs.YtmfcgmdecindnaaW.PrintLast Go.Proofs.YtmfcgmdecindnaaW.PrintMore
attribute [local go_sem] max2_int min2_int max_two min_two max_three min_three max_four min_four   -- for this text's walks alone
set_option linter.unusedVariables false
set_option linter.unusedSimpArgs false

/-! ### geom_nearest: function 36 -/
def geom_nearest.f (k : Nat) (a0_0 a0_1 a1_0 a1_1 a2 : Int) : Option (Int) := (geom_dot.f a0_0 a0_1 a1_0 a1_1).bind fun t141 => ((geom_dot.f a1_0 a1_1 a1_0 a1_1).bind fun t142 => (if (wrap64 (-t141)) ≤ 0 then ((geom_dot.f a0_0 a0_1 a0_0 a0_1).bind fun t144 => ((num_Compare.f k t144 1 a2 1).bind fun bt145 => (some bt145.1))) else (if (wrap64 (-t141)) ≥ t142 then ((geom_dot.f (wrap64 (a0_0 + a1_0)) (wrap64 (a0_1 + a1_1)) (wrap64 (a0_0 + a1_0)) (wrap64 (a0_1 + a1_1))).bind fun t147 => ((num_Compare.f k t147 1 a2 1).bind fun bt148 => (some bt148.1))) else ((geom_cross.f a0_0 a0_1 a1_0 a1_1).bind fun t150 => ((num_Compare.f k t150 t150 a2 t142).bind fun bt151 => (some bt151.1))))))
theorem geom_nearest.mono : ∀ a0 a1 a2 a3 a4 k, LeO (geom_nearest.f k a0 a1 a2 a3 a4) (geom_nearest.f (k + 1) a0 a1 a2 a3 a4) := by
 intro a0 a1 a2 a3 a4 k
 unfold geom_nearest.f
 repeat' first
   | (with_reducible exact num_Compare.mono _ _ _ _ _)
   | (with_reducible exact LeO.refl _)
   | (with_reducible exact LeO.none _)
   | (with_reducible refine LeO.ite ?_ ?_)
   | (with_reducible refine LeO.bind ?_ (fun _ => ?_))
   | exact num_Compare.mono _ _ _ _ _
   | exact LeO.none _
   | refine LeO.ite ?_ ?_
   | refine LeO.bind ?_ (fun _ => ?_)
def geom_nearest.T1 : Bool × List (List Nat × List Nat) := (true, [([], []), ([], []), ([0, 1], [0, 1]), ([2], [2]), ([], []), ([], []), ([4, 5, 2], [4, 5]), ([3, 6, 0, 1, 2, 3], [3]), ([6, 7, 0, 1, 2, 3, 4, 5, 6, 7], [6])])
def geom_nearest.B1 : List Nat := [0, 0, 3, 7, 0, 0, 55, 127, 255]
theorem geom_nearest.tab1 : rtab .any (opsOf Try.f36 1) = geom_nearest.T1 := by kernel_rfl
theorem geom_nearest.bits1 : waitsOk geom_nearest.T1.2 geom_nearest.B1 = true := by kernel_rfl
set_option maxHeartbeats 8000000 in
set_option maxRecDepth 100000 in
theorem geom_nearest.calls (k : Nat) (a0_0 a0_1 a1_0 a1_1 a2 r : Int) (w : World) (h : geom_nearest.f k a0_0 a0_1 a1_0 a1_1 a2 = some r) :
  Calls Try.prog 36 #[.agg #[.int .i64 a0_0, .int .i64 a0_1], .agg #[.int .i64 a1_0, .int .i64 a1_1], .int .i64 a2] w fun e w' => e = .returned (.int .i64 r) ∧ Below w.heap.size w w' := by
 have hu26 := Try.underlying26
 have HB := Aside0.mk (Below.refl w.heap.size w)
 have H : ((geom_dot.f a0_0 a0_1 a1_0 a1_1).bind fun t141 => ((geom_dot.f a1_0 a1_1 a1_0 a1_1).bind fun t142 => (if (wrap64 (-t141)) ≤ 0 then ((geom_dot.f a0_0 a0_1 a0_0 a0_1).bind fun t144 => ((num_Compare.f k t144 1 a2 1).bind fun bt145 => (some bt145.1))) else (if (wrap64 (-t141)) ≥ t142 then ((geom_dot.f (wrap64 (a0_0 + a1_0)) (wrap64 (a0_1 + a1_1)) (wrap64 (a0_0 + a1_0)) (wrap64 (a0_1 + a1_1))).bind fun t147 => ((num_Compare.f k t147 1 a2 1).bind fun bt148 => (some bt148.1))) else ((geom_cross.f a0_0 a0_1 a1_0 a1_1).bind fun t150 => ((num_Compare.f k t150 t150 a2 t142).bind fun bt151 => (some bt151.1))))))) = some r := h
 clear h
 replace H := Option.bind_eq_some_iff.mp H
 obtain ⟨t141, A40, H⟩ := H
 replace H : ((geom_dot.f a1_0 a1_1 a1_0 a1_1).bind fun t142 => (if (wrap64 (-t141)) ≤ 0 then ((geom_dot.f a0_0 a0_1 a0_0 a0_1).bind fun t144 => ((num_Compare.f k t144 1 a2 1).bind fun bt145 => (some bt145.1))) else (if (wrap64 (-t141)) ≥ t142 then ((geom_dot.f (wrap64 (a0_0 + a1_0)) (wrap64 (a0_1 + a1_1)) (wrap64 (a0_0 + a1_0)) (wrap64 (a0_1 + a1_1))).bind fun t147 => ((num_Compare.f k t147 1 a2 1).bind fun bt148 => (some bt148.1))) else ((geom_cross.f a0_0 a0_1 a1_0 a1_1).bind fun t150 => ((num_Compare.f k t150 t150 a2 t142).bind fun bt151 => (some bt151.1)))))) = some r := H
 have A4 := Aside0.mk A40
 clear A40
 replace H := Option.bind_eq_some_iff.mp H
 obtain ⟨t142, A50, H⟩ := H
 replace H : (if (wrap64 (-t141)) ≤ 0 then ((geom_dot.f a0_0 a0_1 a0_0 a0_1).bind fun t144 => ((num_Compare.f k t144 1 a2 1).bind fun bt145 => (some bt145.1))) else (if (wrap64 (-t141)) ≥ t142 then ((geom_dot.f (wrap64 (a0_0 + a1_0)) (wrap64 (a0_1 + a1_1)) (wrap64 (a0_0 + a1_0)) (wrap64 (a0_1 + a1_1))).bind fun t147 => ((num_Compare.f k t147 1 a2 1).bind fun bt148 => (some bt148.1))) else ((geom_cross.f a0_0 a0_1 a1_0 a1_1).bind fun t150 => ((num_Compare.f k t150 t150 a2 t142).bind fun bt151 => (some bt151.1))))) = some r := H
 have A5 := Aside0.mk A50
 clear A50
 by_cases c6 : (wrap64 (-t141)) ≤ 0
 ·
  rw [if_pos c6] at H
  have c6b0 := decide_eq_true c6
  clear c6
  replace H := Option.bind_eq_some_iff.mp H
  obtain ⟨t144, A70, H⟩ := H
  replace H : ((num_Compare.f k t144 1 a2 1).bind fun bt145 => (some bt145.1)) = some r := H
  have A7 := Aside0.mk A70
  clear A70
  replace H := Option.bind_eq_some_iff.mp H
  obtain ⟨⟨t145, t146⟩, A80, H⟩ := H
  replace H : (some t145) = some r := H
  have A8 := Aside0.mk A80
  clear A80
  obtain rfl := Option.some.inj H
  go_enter Try.func36, Try.ntmps36
  try go_wp2_with (first | ((with_reducible refine gate_dst (N := 3) rfl ?_); refine box_event ?hg (N := 3) ?hd (cs := #[.int .i64 a0_0, .int .i64 a0_1]) (t := 26) ?hr ?_; (case hd => rfl); (case hg => rfl); (case hr => first | (go_simp; done) | (go_simp; rfl)); intro gb139 hg w9 hbox hb; have BK139 := Aside0.mk (hbox); have GW139 := Aside0.mk ((by rw [hg]; exact (below_size (by repeat with_reducible first | exact HB.out | apply bA | apply bN | apply bD)) : w.heap.size ≤ gb139)); have GE139 := GW139; replace HB := Aside0.mk (below_step (by repeat with_reducible first | exact HB.out | apply bA | apply bN | apply bD) hb); clear hb hbox hg) | ((with_reducible refine gate_dst (N := 4) rfl ?_); refine box_event ?hg (N := 4) ?hd (cs := #[.int .i64 a1_0, .int .i64 a1_1]) (t := 26) ?hr ?_; (case hd => rfl); (case hg => rfl); (case hr => first | (go_simp; done) | (go_simp; rfl)); intro gb140 hg w10 hbox hb; have BK140 := Aside0.mk (hbox); have GW140 := Aside0.mk ((by rw [hg]; exact (below_size (by repeat with_reducible first | exact HB.out | apply bA | apply bN | apply bD | refine bS ?_ GE139.out)) : w.heap.size ≤ gb140)); have GE140 := GW140; replace HB := Aside0.mk (below_step (by repeat with_reducible first | exact HB.out | apply bA | apply bN | apply bD | refine bS ?_ GE139.out) hb); have NB139_140 := Aside0.mk ((by rw [hg]; exact Nat.ne_of_lt (blk_lt (by with_reducible repeat first | exact BK139.out | apply kN | apply kD | apply kA)) : gb139 ≠ gb140)); have NB140_139 := Aside0.mk ((by rw [hg]; exact Nat.ne_of_gt (blk_lt (by with_reducible repeat first | exact BK139.out | apply kN | apply kD | apply kA)) : gb140 ≠ gb139)); replace BK139 := Aside0.mk (blk_below (o := .cells #[.int .i64 a0_0, .int .i64 a0_1] 26 (0, 0)) (by with_reducible repeat first | exact BK139.out | apply kN | apply kD | apply kA) hb); clear hb hbox hg))
  have n0_ := Aside0.mk (blk_drew BK139.out)
  have n1_ := Aside0.mk (blk_drew BK140.out)
  have n2_ := Aside0.mk (below_drew1 HB.out)
  clear BK139
  clear BK140
  clear HB
  have BK139 := n0_
  have BK140 := n1_
  have HB := n2_
  clear n0_ n1_ n2_
  refine start_ (n := 9) (S := fun w' => w'.cell? ⟨gb139, 0, none⟩ = some (.int .i64 a0_0) ∧ w'.cell? ⟨gb139, 1, none⟩ = some (.int .i64 a0_1) ∧ w'.cell? ⟨gb140, 0, none⟩ = some (.int .i64 a1_0) ∧ w'.cell? ⟨gb140, 1, none⟩ = some (.int .i64 a1_1)) (ds := []) (bm 9 0) (by kernel_rfl) rfl rfl ⟨(blk_cell BK139.out 0).trans rfl, (blk_cell BK139.out 1).trans rfl, (blk_cell BK140.out 0).trans rfl, (blk_cell BK140.out 1).trans rfl⟩ (fun hHeld => ?_); refine with_tabW geom_nearest.tab1 geom_nearest.bits1 (fun HT_ HW_ => ?_)
  generalize w10.drew = w11 at BK139 BK140 HB hHeld ⊢
  refine take_ (i := 0) (N := some 16) (v := ?_) (a' := ?_) (bm 9 1) rfl rfl (take_ofW HT_.out HW_.out (by kernel_rfl)) (fun _ _ _ h => h) (Or.inl ⟨by rfl, ?_⟩) hHeld ?_ ?_
  rotate_left
  ·
   rintro w' ⟨s0, s1, s2, s3⟩
   go_simp
   with_reducible rfl
  rotate_left
  ·
   simp only [Act.put, aS, lZ, lS, i64_w, i32_w]
   rfl
  refine take_ (i := 1) (N := some 17) (v := ?_) (a' := ?_) (bm 9 3) rfl rfl (take_ofW HT_.out HW_.out (by kernel_rfl)) (fun _ _ _ h => h) (Or.inl ⟨by rfl, ?_⟩) hHeld ?_ ?_
  rotate_left
  ·
   rintro w' ⟨s0, s1, s2, s3⟩
   go_simp
   with_reducible rfl
  rotate_left
  ·
   simp only [Act.put, aS, lZ, lS, i64_w, i32_w]
   rfl
  refine take_ (i := 4) (N := some 20) (v := ?_) (a' := ?_) (bm 9 19) rfl rfl (take_ofW HT_.out HW_.out (by kernel_rfl)) (fun _ _ _ h => h) (Or.inl ⟨by rfl, ?_⟩) hHeld ?_ ?_
  rotate_left
  ·
   rintro w' ⟨s0, s1, s2, s3⟩
   go_simp
   with_reducible rfl
  rotate_left
  ·
   simp only [Act.put, aS, lZ, lS, i64_w, i32_w]
   rfl
  refine take_ (i := 5) (N := some 21) (v := ?_) (a' := ?_) (bm 9 51) rfl rfl (take_ofW HT_.out HW_.out (by kernel_rfl)) (fun _ _ _ h => h) (Or.inl ⟨by rfl, ?_⟩) hHeld ?_ ?_
  rotate_left
  ·
   rintro w' ⟨s0, s1, s2, s3⟩
   go_simp
   with_reducible rfl
  rotate_left
  ·
   simp only [Act.put, aS, lZ, lS, i64_w, i32_w]
   rfl
  refine one_ (i := 2) (N := some 18) (bm 9 55) rfl rfl (one_of HT_.out (by kernel_rfl)) (by decide) (fun K hK => ?_)
  refine goes_ Try.func41 (by kernel_rfl) rfl #[.agg #[.int .i64 a0_0, .int .i64 a0_1], .agg #[.int .i64 a1_0, .int .i64 a1_1]] (by rfl) rfl rfl (by (try simp only [List.map_toArray, List.map_cons, List.map_nil]); first | done | rfl | (simp only [List.length_drop, List.length_take]; rfl)) ?_
  with_reducible refine (geom_dot.calls a0_0 a0_1 a1_0 a1_1 t141 _ A4.out).mono ?_
  rintro e w12 ⟨rfl, hb⟩
  refine ⟨_, rfl, ?_⟩
  have n0_ := Aside0.mk (blk_below (o := .cells #[.int .i64 a0_0, .int .i64 a0_1] 26 (0, 0)) (by with_reducible repeat first | exact BK139.out | apply kN | apply kD | apply kA) hb)
  have n1_ := Aside0.mk (blk_below (o := .cells #[.int .i64 a1_0, .int .i64 a1_1] 26 (0, 0)) (by with_reducible repeat first | exact BK140.out | apply kN | apply kD | apply kA) hb)
  have n2_ := Aside0.mk (below_step (by repeat with_reducible first | exact HB.out | apply bA | apply bN | apply bD | refine bS ?_ GE139.out | refine bS ?_ GE140.out) hb)
  clear BK139
  clear BK140
  clear HB
  have BK139 := n0_
  have BK140 := n1_
  have HB := n2_
  clear n0_ n1_ n2_
  (try clear hb)
  (try clear hb2)
  (try clear hk)
  (try clear hi)
  refine hK.out _ _ ⟨(blk_cell BK139.out 0).trans rfl, (blk_cell BK139.out 1).trans rfl, (blk_cell BK140.out 0).trans rfl, (blk_cell BK140.out 1).trans rfl⟩ (fun hHeld => ?_)
  clear hK K
  refine norm_ (a' := ?_) ?_ ?_
  rotate_left
  ·
   show Act.put _ (some 18) _ = _
   simp only [Act.put, aS, lZ, lS, i64_w, i32_w]
   rfl
  refine pure_ (i := 3) (N := some 19) (v := ?_) (a' := ?_) (bm 9 63) rfl rfl (any_of HT_.out (by kernel_rfl)) (fun _ _ _ h => h) (Or.inl ⟨by rfl, ?_⟩) ?_ ?_
  rotate_left; (intro w'; go_simp; with_reducible rfl); rotate_left; (simp only [Act.put, aS, lZ, lS, i64_w, i32_w]; rfl)
  refine one_ (i := 6) (N := some 22) (bm 9 127) rfl rfl (one_of HT_.out (by kernel_rfl)) (by decide) (fun K hK => ?_)
  refine goes_ Try.func41 (by kernel_rfl) rfl #[.agg #[.int .i64 a1_0, .int .i64 a1_1], .agg #[.int .i64 a1_0, .int .i64 a1_1]] (by rfl) rfl rfl (by (try simp only [List.map_toArray, List.map_cons, List.map_nil]); first | done | rfl | (simp only [List.length_drop, List.length_take]; rfl)) ?_
  with_reducible refine (geom_dot.calls a1_0 a1_1 a1_0 a1_1 t142 _ A5.out).mono ?_
  rintro e w13 ⟨rfl, hb⟩
  refine ⟨_, rfl, ?_⟩
  have n0_ := Aside0.mk (blk_below (o := .cells #[.int .i64 a0_0, .int .i64 a0_1] 26 (0, 0)) (by with_reducible repeat first | exact BK139.out | apply kN | apply kD | apply kA) hb)
  have n1_ := Aside0.mk (blk_below (o := .cells #[.int .i64 a1_0, .int .i64 a1_1] 26 (0, 0)) (by with_reducible repeat first | exact BK140.out | apply kN | apply kD | apply kA) hb)
  have n2_ := Aside0.mk (below_step (by repeat with_reducible first | exact HB.out | apply bA | apply bN | apply bD | refine bS ?_ GE139.out | refine bS ?_ GE140.out) hb)
  clear BK139
  clear BK140
  clear HB
  have BK139 := n0_
  have BK140 := n1_
  have HB := n2_
  clear n0_ n1_ n2_
  (try clear hb)
  (try clear hb2)
  (try clear hk)
  (try clear hi)
  refine hK.out _ _ ⟨(blk_cell BK139.out 0).trans rfl, (blk_cell BK139.out 1).trans rfl, (blk_cell BK140.out 0).trans rfl, (blk_cell BK140.out 1).trans rfl⟩ (fun hHeld => ?_)
  clear hK K
  refine norm_ (a' := ?_) ?_ ?_
  rotate_left
  ·
   show Act.put _ (some 22) _ = _
   simp only [Act.put, aS, lZ, lS, i64_w, i32_w]
   rfl
  refine pure_ (i := 7) (N := some 7) (v := ?_) (a' := ?_) (bm 9 255) rfl rfl (any_of HT_.out (by kernel_rfl)) (fun _ _ _ h => h) (Or.inl ⟨by rfl, ?_⟩) ?_ ?_
  rotate_left; (intro w'; go_simp; with_reducible rfl); rotate_left; (simp only [Act.put, aS, lZ, lS, i64_w, i32_w]; rfl)
  refine pure_ (i := 8) (N := some 8) (v := ?_) (a' := ?_) (bm 9 511) rfl rfl (any_of HT_.out (by kernel_rfl)) (fun _ _ _ h => h) (Or.inl ⟨by rfl, ?_⟩) ?_ ?_
  rotate_left; (intro w'; go_simp; with_reducible rfl); rotate_left; (simp only [Act.put, aS, lZ, lS, i64_w, i32_w]; rfl)
  refine done_ (done_of HT_.out (by kernel_rfl)) ?_
  have hnb14 := NB139_140.out
  have hnc14 := NB140_139.out
  obtain ⟨hcz15_0, hcz15_1, hfz15_0, hfz15_1⟩ := kc2 BK139.out
  obtain ⟨hcz16_0, hcz16_1, hfz16_0, hfz16_1⟩ := kc2 BK140.out
  try go_wp2_with (first | ((with_reducible refine gate_dst (N := 9) rfl ?_); refine box_event ?hg (N := 9) ?hd (cs := #[.int .i64 0, .int .i64 0]) (t := 26) ?hr ?_; (case hd => rfl); (case hg => rfl); (case hr => first | (go_simp; done) | (go_simp; rfl)); intro gb143 hg w17 hbox hb; have BK143 := Aside0.mk (hbox); have GW143 := Aside0.mk ((by rw [hg]; exact (below_size (by repeat with_reducible first | exact HB.out | apply bA | apply bN | apply bD | refine bS ?_ GE139.out | refine bS ?_ GE140.out)) : w.heap.size ≤ gb143)); have GE143 := GW143; replace HB := Aside0.mk (below_step (by repeat with_reducible first | exact HB.out | apply bA | apply bN | apply bD | refine bS ?_ GE139.out | refine bS ?_ GE140.out) hb); have NB139_143 := Aside0.mk ((by rw [hg]; exact Nat.ne_of_lt (blk_lt (by with_reducible repeat first | exact BK139.out | apply kN | apply kD | apply kA)) : gb139 ≠ gb143)); have NB143_139 := Aside0.mk ((by rw [hg]; exact Nat.ne_of_gt (blk_lt (by with_reducible repeat first | exact BK139.out | apply kN | apply kD | apply kA)) : gb143 ≠ gb139)); replace BK139 := Aside0.mk (blk_below (o := .cells #[.int .i64 a0_0, .int .i64 a0_1] 26 (0, 0)) (by with_reducible repeat first | exact BK139.out | apply kN | apply kD | apply kA) hb); have NB140_143 := Aside0.mk ((by rw [hg]; exact Nat.ne_of_lt (blk_lt (by with_reducible repeat first | exact BK140.out | apply kN | apply kD | apply kA)) : gb140 ≠ gb143)); have NB143_140 := Aside0.mk ((by rw [hg]; exact Nat.ne_of_gt (blk_lt (by with_reducible repeat first | exact BK140.out | apply kN | apply kD | apply kA)) : gb143 ≠ gb140)); replace BK140 := Aside0.mk (blk_below (o := .cells #[.int .i64 a1_0, .int .i64 a1_1] 26 (0, 0)) (by with_reducible repeat first | exact BK140.out | apply kN | apply kD | apply kA) hb); clear hb hbox hg; have hnb18 := NB143_139.out; have hnc18 := NB139_143.out; have hnb19 := NB143_140.out; have hnc19 := NB140_143.out; obtain ⟨hcz20_0, hcz20_1, hfz20_0, hfz20_1⟩ := kc2 BK143.out; obtain ⟨hcz21_0, hcz21_1, hfz21_0, hfz21_1⟩ := kc2 BK139.out) | ((with_reducible refine gate_callee (f := 41) rfl ?_); refine goesL_ (some 51) rfl rfl Try.func41 (by kernel_rfl) rfl #[.agg #[.int .i64 a0_0, .int .i64 a0_1], .agg #[.int .i64 a0_0, .int .i64 a0_1]] rfl (by (try simp only [List.map_toArray, List.map_cons, List.map_nil]); first | done | rfl | (simp only [List.length_drop, List.length_take]; rfl)) ?_; (with_reducible refine (geom_dot.calls a0_0 a0_1 a0_0 a0_1 t144 _ A7.out).mono ?_); rintro e w22 ⟨rfl, hb⟩; refine ⟨_, rfl, ?_⟩; replace BK139 := Aside0.mk (blk_below (o := .cells #[.int .i64 a0_0, .int .i64 a0_1] 26 (0, 0)) (by (with_reducible repeat first | apply kN | apply kD | apply kA); refine blk_far ?_ NB139_143.out _; (with_reducible repeat first | apply kN | apply kD | apply kA); refine blk_far ?_ NB139_143.out _; (with_reducible repeat first | apply kN | apply kD | apply kA); exact BK139.out) hb); replace BK140 := Aside0.mk (blk_below (o := .cells #[.int .i64 a1_0, .int .i64 a1_1] 26 (0, 0)) (by (with_reducible repeat first | apply kN | apply kD | apply kA); refine blk_far ?_ NB140_143.out _; (with_reducible repeat first | apply kN | apply kD | apply kA); refine blk_far ?_ NB140_143.out _; (with_reducible repeat first | apply kN | apply kD | apply kA); exact BK140.out) hb); replace BK143 := Aside0.mk (blk_below (o := .cells #[.int .i64 (wrap64 (a0_0 + a1_0)), .int .i64 (wrap64 (a0_1 + a1_1))] 26 (0, 0)) (by (with_reducible repeat first | apply kN | apply kD | apply kA); refine blk_put (cs := #[.int .i64 (wrap64 (a0_0 + a1_0)), .int .i64 0]) ?_ 1 _ rfl; (with_reducible repeat first | apply kN | apply kD | apply kA); refine blk_put (cs := #[.int .i64 0, .int .i64 0]) ?_ 0 _ rfl; (with_reducible repeat first | apply kN | apply kD | apply kA); exact BK143.out) hb); replace HB := Aside0.mk (below_step (by repeat with_reducible first | exact HB.out | apply bA | apply bN | apply bD | refine bS ?_ GE139.out | refine bS ?_ GE140.out | refine bS ?_ GE143.out) hb); (try clear hb); (try clear hb2); (try clear hk); (try clear hi)) | ((with_reducible refine gate_callee (f := 43) rfl ?_); refine goesL_ (some 62) rfl rfl Try.func43 (by kernel_rfl) rfl #[.int .i64 t144, .int .i64 1, .int .i64 a2, .int .i64 1] rfl (by (try simp only [List.map_toArray, List.map_cons, List.map_nil]); first | done | rfl | (simp only [List.length_drop, List.length_take]; rfl)) ?_; (with_reducible refine (num_Compare.calls k t144 1 a2 1 t145 t146 _ A8.out).mono ?_); rintro e w23 ⟨rfl, hb⟩; refine ⟨_, rfl, ?_⟩; replace BK139 := Aside0.mk (blk_below (o := .cells #[.int .i64 a0_0, .int .i64 a0_1] 26 (0, 0)) (by with_reducible repeat first | exact BK139.out | apply kN | apply kD | apply kA) hb); replace BK140 := Aside0.mk (blk_below (o := .cells #[.int .i64 a1_0, .int .i64 a1_1] 26 (0, 0)) (by with_reducible repeat first | exact BK140.out | apply kN | apply kD | apply kA) hb); replace BK143 := Aside0.mk (blk_below (o := .cells #[.int .i64 (wrap64 (a0_0 + a1_0)), .int .i64 (wrap64 (a0_1 + a1_1))] 26 (0, 0)) (by with_reducible repeat first | exact BK143.out | apply kN | apply kD | apply kA) hb); replace HB := Aside0.mk (below_step (by repeat with_reducible first | exact HB.out | apply bA | apply bN | apply bD | refine bS ?_ GE139.out | refine bS ?_ GE140.out | refine bS ?_ GE143.out) hb); (try clear hb); (try clear hb2); (try clear hk); (try clear hi)))
  go_ret
  exact ⟨by first | rfl | (simp [errW_none, errW_some] <;> rfl) | (simp [*, errW_none, errW_some] <;> rfl), by repeat with_reducible first | exact HB.out | apply bA | apply bN | apply bD | refine bS ?_ GE139.out | refine bS ?_ GE140.out | refine bS ?_ GE143.out⟩
 ·
  rw [if_neg c6] at H
  have c6b0 := decide_eq_false c6
  clear c6
  by_cases c24 : (wrap64 (-t141)) ≥ t142
  ·
   rw [if_pos c24] at H
   have c24b0 := decide_eq_true c24
   clear c24
   replace H := Option.bind_eq_some_iff.mp H
   obtain ⟨t147, A250, H⟩ := H
   replace H : ((num_Compare.f k t147 1 a2 1).bind fun bt148 => (some bt148.1)) = some r := H
   have A25 := Aside0.mk A250
   clear A250
   replace H := Option.bind_eq_some_iff.mp H
   obtain ⟨⟨t148, t149⟩, A260, H⟩ := H
   replace H : (some t148) = some r := H
   have A26 := Aside0.mk A260
   clear A260
   obtain rfl := Option.some.inj H
   go_enter Try.func36, Try.ntmps36
   try go_wp2_with (first | ((with_reducible refine gate_dst (N := 3) rfl ?_); refine box_event ?hg (N := 3) ?hd (cs := #[.int .i64 a0_0, .int .i64 a0_1]) (t := 26) ?hr ?_; (case hd => rfl); (case hg => rfl); (case hr => first | (go_simp; done) | (go_simp; rfl)); intro gb139 hg w27 hbox hb; have BK139 := Aside0.mk (hbox); have GW139 := Aside0.mk ((by rw [hg]; exact (below_size (by repeat with_reducible first | exact HB.out | apply bA | apply bN | apply bD)) : w.heap.size ≤ gb139)); have GE139 := GW139; replace HB := Aside0.mk (below_step (by repeat with_reducible first | exact HB.out | apply bA | apply bN | apply bD) hb); clear hb hbox hg) | ((with_reducible refine gate_dst (N := 4) rfl ?_); refine box_event ?hg (N := 4) ?hd (cs := #[.int .i64 a1_0, .int .i64 a1_1]) (t := 26) ?hr ?_; (case hd => rfl); (case hg => rfl); (case hr => first | (go_simp; done) | (go_simp; rfl)); intro gb140 hg w28 hbox hb; have BK140 := Aside0.mk (hbox); have GW140 := Aside0.mk ((by rw [hg]; exact (below_size (by repeat with_reducible first | exact HB.out | apply bA | apply bN | apply bD | refine bS ?_ GE139.out)) : w.heap.size ≤ gb140)); have GE140 := GW140; replace HB := Aside0.mk (below_step (by repeat with_reducible first | exact HB.out | apply bA | apply bN | apply bD | refine bS ?_ GE139.out) hb); have NB139_140 := Aside0.mk ((by rw [hg]; exact Nat.ne_of_lt (blk_lt (by with_reducible repeat first | exact BK139.out | apply kN | apply kD | apply kA)) : gb139 ≠ gb140)); have NB140_139 := Aside0.mk ((by rw [hg]; exact Nat.ne_of_gt (blk_lt (by with_reducible repeat first | exact BK139.out | apply kN | apply kD | apply kA)) : gb140 ≠ gb139)); replace BK139 := Aside0.mk (blk_below (o := .cells #[.int .i64 a0_0, .int .i64 a0_1] 26 (0, 0)) (by with_reducible repeat first | exact BK139.out | apply kN | apply kD | apply kA) hb); clear hb hbox hg))
   have n0_ := Aside0.mk (blk_drew BK139.out)
   have n1_ := Aside0.mk (blk_drew BK140.out)
   have n2_ := Aside0.mk (below_drew1 HB.out)
   clear BK139
   clear BK140
   clear HB
   have BK139 := n0_
   have BK140 := n1_
   have HB := n2_
   clear n0_ n1_ n2_
   refine start_ (n := 9) (S := fun w' => w'.cell? ⟨gb139, 0, none⟩ = some (.int .i64 a0_0) ∧ w'.cell? ⟨gb139, 1, none⟩ = some (.int .i64 a0_1) ∧ w'.cell? ⟨gb140, 0, none⟩ = some (.int .i64 a1_0) ∧ w'.cell? ⟨gb140, 1, none⟩ = some (.int .i64 a1_1)) (ds := []) (bm 9 0) (by kernel_rfl) rfl rfl ⟨(blk_cell BK139.out 0).trans rfl, (blk_cell BK139.out 1).trans rfl, (blk_cell BK140.out 0).trans rfl, (blk_cell BK140.out 1).trans rfl⟩ (fun hHeld => ?_); refine with_tabW geom_nearest.tab1 geom_nearest.bits1 (fun HT_ HW_ => ?_)
   generalize w28.drew = w29 at BK139 BK140 HB hHeld ⊢
   refine take_ (i := 0) (N := some 16) (v := ?_) (a' := ?_) (bm 9 1) rfl rfl (take_ofW HT_.out HW_.out (by kernel_rfl)) (fun _ _ _ h => h) (Or.inl ⟨by rfl, ?_⟩) hHeld ?_ ?_
   rotate_left
   ·
    rintro w' ⟨s0, s1, s2, s3⟩
    go_simp
    with_reducible rfl
   rotate_left
   ·
    simp only [Act.put, aS, lZ, lS, i64_w, i32_w]
    rfl
   refine take_ (i := 1) (N := some 17) (v := ?_) (a' := ?_) (bm 9 3) rfl rfl (take_ofW HT_.out HW_.out (by kernel_rfl)) (fun _ _ _ h => h) (Or.inl ⟨by rfl, ?_⟩) hHeld ?_ ?_
   rotate_left
   ·
    rintro w' ⟨s0, s1, s2, s3⟩
    go_simp
    with_reducible rfl
   rotate_left
   ·
    simp only [Act.put, aS, lZ, lS, i64_w, i32_w]
    rfl
   refine take_ (i := 4) (N := some 20) (v := ?_) (a' := ?_) (bm 9 19) rfl rfl (take_ofW HT_.out HW_.out (by kernel_rfl)) (fun _ _ _ h => h) (Or.inl ⟨by rfl, ?_⟩) hHeld ?_ ?_
   rotate_left
   ·
    rintro w' ⟨s0, s1, s2, s3⟩
    go_simp
    with_reducible rfl
   rotate_left
   ·
    simp only [Act.put, aS, lZ, lS, i64_w, i32_w]
    rfl
   refine take_ (i := 5) (N := some 21) (v := ?_) (a' := ?_) (bm 9 51) rfl rfl (take_ofW HT_.out HW_.out (by kernel_rfl)) (fun _ _ _ h => h) (Or.inl ⟨by rfl, ?_⟩) hHeld ?_ ?_
   rotate_left
   ·
    rintro w' ⟨s0, s1, s2, s3⟩
    go_simp
    with_reducible rfl
   rotate_left
   ·
    simp only [Act.put, aS, lZ, lS, i64_w, i32_w]
    rfl
   refine one_ (i := 2) (N := some 18) (bm 9 55) rfl rfl (one_of HT_.out (by kernel_rfl)) (by decide) (fun K hK => ?_)
   refine goes_ Try.func41 (by kernel_rfl) rfl #[.agg #[.int .i64 a0_0, .int .i64 a0_1], .agg #[.int .i64 a1_0, .int .i64 a1_1]] (by rfl) rfl rfl (by (try simp only [List.map_toArray, List.map_cons, List.map_nil]); first | done | rfl | (simp only [List.length_drop, List.length_take]; rfl)) ?_
   with_reducible refine (geom_dot.calls a0_0 a0_1 a1_0 a1_1 t141 _ A4.out).mono ?_
   rintro e w30 ⟨rfl, hb⟩
   refine ⟨_, rfl, ?_⟩
   have n0_ := Aside0.mk (blk_below (o := .cells #[.int .i64 a0_0, .int .i64 a0_1] 26 (0, 0)) (by with_reducible repeat first | exact BK139.out | apply kN | apply kD | apply kA) hb)
   have n1_ := Aside0.mk (blk_below (o := .cells #[.int .i64 a1_0, .int .i64 a1_1] 26 (0, 0)) (by with_reducible repeat first | exact BK140.out | apply kN | apply kD | apply kA) hb)
   have n2_ := Aside0.mk (below_step (by repeat with_reducible first | exact HB.out | apply bA | apply bN | apply bD | refine bS ?_ GE139.out | refine bS ?_ GE140.out) hb)
   clear BK139
   clear BK140
   clear HB
   have BK139 := n0_
   have BK140 := n1_
   have HB := n2_
   clear n0_ n1_ n2_
   (try clear hb)
   (try clear hb2)
   (try clear hk)
   (try clear hi)
   refine hK.out _ _ ⟨(blk_cell BK139.out 0).trans rfl, (blk_cell BK139.out 1).trans rfl, (blk_cell BK140.out 0).trans rfl, (blk_cell BK140.out 1).trans rfl⟩ (fun hHeld => ?_)
   clear hK K
   refine norm_ (a' := ?_) ?_ ?_
   rotate_left
   ·
    show Act.put _ (some 18) _ = _
    simp only [Act.put, aS, lZ, lS, i64_w, i32_w]
    rfl
   refine pure_ (i := 3) (N := some 19) (v := ?_) (a' := ?_) (bm 9 63) rfl rfl (any_of HT_.out (by kernel_rfl)) (fun _ _ _ h => h) (Or.inl ⟨by rfl, ?_⟩) ?_ ?_
   rotate_left; (intro w'; go_simp; with_reducible rfl); rotate_left; (simp only [Act.put, aS, lZ, lS, i64_w, i32_w]; rfl)
   refine one_ (i := 6) (N := some 22) (bm 9 127) rfl rfl (one_of HT_.out (by kernel_rfl)) (by decide) (fun K hK => ?_)
   refine goes_ Try.func41 (by kernel_rfl) rfl #[.agg #[.int .i64 a1_0, .int .i64 a1_1], .agg #[.int .i64 a1_0, .int .i64 a1_1]] (by rfl) rfl rfl (by (try simp only [List.map_toArray, List.map_cons, List.map_nil]); first | done | rfl | (simp only [List.length_drop, List.length_take]; rfl)) ?_
   with_reducible refine (geom_dot.calls a1_0 a1_1 a1_0 a1_1 t142 _ A5.out).mono ?_
   rintro e w31 ⟨rfl, hb⟩
   refine ⟨_, rfl, ?_⟩
   have n0_ := Aside0.mk (blk_below (o := .cells #[.int .i64 a0_0, .int .i64 a0_1] 26 (0, 0)) (by with_reducible repeat first | exact BK139.out | apply kN | apply kD | apply kA) hb)
   have n1_ := Aside0.mk (blk_below (o := .cells #[.int .i64 a1_0, .int .i64 a1_1] 26 (0, 0)) (by with_reducible repeat first | exact BK140.out | apply kN | apply kD | apply kA) hb)
   have n2_ := Aside0.mk (below_step (by repeat with_reducible first | exact HB.out | apply bA | apply bN | apply bD | refine bS ?_ GE139.out | refine bS ?_ GE140.out) hb)
   clear BK139
   clear BK140
   clear HB
   have BK139 := n0_
   have BK140 := n1_
   have HB := n2_
   clear n0_ n1_ n2_
   (try clear hb)
   (try clear hb2)
   (try clear hk)
   (try clear hi)
   refine hK.out _ _ ⟨(blk_cell BK139.out 0).trans rfl, (blk_cell BK139.out 1).trans rfl, (blk_cell BK140.out 0).trans rfl, (blk_cell BK140.out 1).trans rfl⟩ (fun hHeld => ?_)
   clear hK K
   refine norm_ (a' := ?_) ?_ ?_
   rotate_left
   ·
    show Act.put _ (some 22) _ = _
    simp only [Act.put, aS, lZ, lS, i64_w, i32_w]
    rfl
   refine pure_ (i := 7) (N := some 7) (v := ?_) (a' := ?_) (bm 9 255) rfl rfl (any_of HT_.out (by kernel_rfl)) (fun _ _ _ h => h) (Or.inl ⟨by rfl, ?_⟩) ?_ ?_
   rotate_left; (intro w'; go_simp; with_reducible rfl); rotate_left; (simp only [Act.put, aS, lZ, lS, i64_w, i32_w]; rfl)
   refine pure_ (i := 8) (N := some 8) (v := ?_) (a' := ?_) (bm 9 511) rfl rfl (any_of HT_.out (by kernel_rfl)) (fun _ _ _ h => h) (Or.inl ⟨by rfl, ?_⟩) ?_ ?_
   rotate_left; (intro w'; go_simp; with_reducible rfl); rotate_left; (simp only [Act.put, aS, lZ, lS, i64_w, i32_w]; rfl)
   refine done_ (done_of HT_.out (by kernel_rfl)) ?_
   have hnb32 := NB139_140.out
   have hnc32 := NB140_139.out
   obtain ⟨hcz33_0, hcz33_1, hfz33_0, hfz33_1⟩ := kc2 BK139.out
   obtain ⟨hcz34_0, hcz34_1, hfz34_0, hfz34_1⟩ := kc2 BK140.out
   try go_wp2_with (first | ((with_reducible refine gate_dst (N := 9) rfl ?_); refine box_event ?hg (N := 9) ?hd (cs := #[.int .i64 0, .int .i64 0]) (t := 26) ?hr ?_; (case hd => rfl); (case hg => rfl); (case hr => first | (go_simp; done) | (go_simp; rfl)); intro gb143 hg w35 hbox hb; have BK143 := Aside0.mk (hbox); have GW143 := Aside0.mk ((by rw [hg]; exact (below_size (by repeat with_reducible first | exact HB.out | apply bA | apply bN | apply bD | refine bS ?_ GE139.out | refine bS ?_ GE140.out)) : w.heap.size ≤ gb143)); have GE143 := GW143; replace HB := Aside0.mk (below_step (by repeat with_reducible first | exact HB.out | apply bA | apply bN | apply bD | refine bS ?_ GE139.out | refine bS ?_ GE140.out) hb); have NB139_143 := Aside0.mk ((by rw [hg]; exact Nat.ne_of_lt (blk_lt (by with_reducible repeat first | exact BK139.out | apply kN | apply kD | apply kA)) : gb139 ≠ gb143)); have NB143_139 := Aside0.mk ((by rw [hg]; exact Nat.ne_of_gt (blk_lt (by with_reducible repeat first | exact BK139.out | apply kN | apply kD | apply kA)) : gb143 ≠ gb139)); replace BK139 := Aside0.mk (blk_below (o := .cells #[.int .i64 a0_0, .int .i64 a0_1] 26 (0, 0)) (by with_reducible repeat first | exact BK139.out | apply kN | apply kD | apply kA) hb); have NB140_143 := Aside0.mk ((by rw [hg]; exact Nat.ne_of_lt (blk_lt (by with_reducible repeat first | exact BK140.out | apply kN | apply kD | apply kA)) : gb140 ≠ gb143)); have NB143_140 := Aside0.mk ((by rw [hg]; exact Nat.ne_of_gt (blk_lt (by with_reducible repeat first | exact BK140.out | apply kN | apply kD | apply kA)) : gb143 ≠ gb140)); replace BK140 := Aside0.mk (blk_below (o := .cells #[.int .i64 a1_0, .int .i64 a1_1] 26 (0, 0)) (by with_reducible repeat first | exact BK140.out | apply kN | apply kD | apply kA) hb); clear hb hbox hg; have hnb36 := NB143_139.out; have hnc36 := NB139_143.out; have hnb37 := NB143_140.out; have hnc37 := NB140_143.out; obtain ⟨hcz38_0, hcz38_1, hfz38_0, hfz38_1⟩ := kc2 BK143.out) | ((with_reducible refine gate_callee (f := 41) rfl ?_); refine goesL_ (some 58) rfl rfl Try.func41 (by kernel_rfl) rfl #[.agg #[.int .i64 (wrap64 (a0_0 + a1_0)), .int .i64 (wrap64 (a0_1 + a1_1))], .agg #[.int .i64 (wrap64 (a0_0 + a1_0)), .int .i64 (wrap64 (a0_1 + a1_1))]] rfl (by (try simp only [List.map_toArray, List.map_cons, List.map_nil]); first | done | rfl | (simp only [List.length_drop, List.length_take]; rfl)) ?_; (with_reducible refine (geom_dot.calls (wrap64 (a0_0 + a1_0)) (wrap64 (a0_1 + a1_1)) (wrap64 (a0_0 + a1_0)) (wrap64 (a0_1 + a1_1)) t147 _ A25.out).mono ?_); rintro e w39 ⟨rfl, hb⟩; refine ⟨_, rfl, ?_⟩; replace BK139 := Aside0.mk (blk_below (o := .cells #[.int .i64 a0_0, .int .i64 a0_1] 26 (0, 0)) (by (with_reducible repeat first | apply kN | apply kD | apply kA); refine blk_far ?_ NB139_143.out _; (with_reducible repeat first | apply kN | apply kD | apply kA); refine blk_far ?_ NB139_143.out _; (with_reducible repeat first | apply kN | apply kD | apply kA); exact BK139.out) hb); replace BK140 := Aside0.mk (blk_below (o := .cells #[.int .i64 a1_0, .int .i64 a1_1] 26 (0, 0)) (by (with_reducible repeat first | apply kN | apply kD | apply kA); refine blk_far ?_ NB140_143.out _; (with_reducible repeat first | apply kN | apply kD | apply kA); refine blk_far ?_ NB140_143.out _; (with_reducible repeat first | apply kN | apply kD | apply kA); exact BK140.out) hb); replace BK143 := Aside0.mk (blk_below (o := .cells #[.int .i64 (wrap64 (a0_0 + a1_0)), .int .i64 (wrap64 (a0_1 + a1_1))] 26 (0, 0)) (by (with_reducible repeat first | apply kN | apply kD | apply kA); refine blk_put (cs := #[.int .i64 (wrap64 (a0_0 + a1_0)), .int .i64 0]) ?_ 1 _ rfl; (with_reducible repeat first | apply kN | apply kD | apply kA); refine blk_put (cs := #[.int .i64 0, .int .i64 0]) ?_ 0 _ rfl; (with_reducible repeat first | apply kN | apply kD | apply kA); exact BK143.out) hb); replace HB := Aside0.mk (below_step (by repeat with_reducible first | exact HB.out | apply bA | apply bN | apply bD | refine bS ?_ GE139.out | refine bS ?_ GE140.out | refine bS ?_ GE143.out) hb); (try clear hb); (try clear hb2); (try clear hk); (try clear hi)) | ((with_reducible refine gate_callee (f := 43) rfl ?_); refine goesL_ (some 62) rfl rfl Try.func43 (by kernel_rfl) rfl #[.int .i64 t147, .int .i64 1, .int .i64 a2, .int .i64 1] rfl (by (try simp only [List.map_toArray, List.map_cons, List.map_nil]); first | done | rfl | (simp only [List.length_drop, List.length_take]; rfl)) ?_; (with_reducible refine (num_Compare.calls k t147 1 a2 1 t148 t149 _ A26.out).mono ?_); rintro e w40 ⟨rfl, hb⟩; refine ⟨_, rfl, ?_⟩; replace BK139 := Aside0.mk (blk_below (o := .cells #[.int .i64 a0_0, .int .i64 a0_1] 26 (0, 0)) (by with_reducible repeat first | exact BK139.out | apply kN | apply kD | apply kA) hb); replace BK140 := Aside0.mk (blk_below (o := .cells #[.int .i64 a1_0, .int .i64 a1_1] 26 (0, 0)) (by with_reducible repeat first | exact BK140.out | apply kN | apply kD | apply kA) hb); replace BK143 := Aside0.mk (blk_below (o := .cells #[.int .i64 (wrap64 (a0_0 + a1_0)), .int .i64 (wrap64 (a0_1 + a1_1))] 26 (0, 0)) (by with_reducible repeat first | exact BK143.out | apply kN | apply kD | apply kA) hb); replace HB := Aside0.mk (below_step (by repeat with_reducible first | exact HB.out | apply bA | apply bN | apply bD | refine bS ?_ GE139.out | refine bS ?_ GE140.out | refine bS ?_ GE143.out) hb); (try clear hb); (try clear hb2); (try clear hk); (try clear hi)))
   go_ret
   exact ⟨by first | rfl | (simp [errW_none, errW_some] <;> rfl) | (simp [*, errW_none, errW_some] <;> rfl), by repeat with_reducible first | exact HB.out | apply bA | apply bN | apply bD | refine bS ?_ GE139.out | refine bS ?_ GE140.out | refine bS ?_ GE143.out⟩
  ·
   rw [if_neg c24] at H
   have c24b0 := decide_eq_false c24
   clear c24
   replace H := Option.bind_eq_some_iff.mp H
   obtain ⟨t150, A410, H⟩ := H
   replace H : ((num_Compare.f k t150 t150 a2 t142).bind fun bt151 => (some bt151.1)) = some r := H
   have A41 := Aside0.mk A410
   clear A410
   replace H := Option.bind_eq_some_iff.mp H
   obtain ⟨⟨t151, t152⟩, A420, H⟩ := H
   replace H : (some t151) = some r := H
   have A42 := Aside0.mk A420
   clear A420
   obtain rfl := Option.some.inj H
   go_enter Try.func36, Try.ntmps36
   try go_wp2_with (first | ((with_reducible refine gate_dst (N := 3) rfl ?_); refine box_event ?hg (N := 3) ?hd (cs := #[.int .i64 a0_0, .int .i64 a0_1]) (t := 26) ?hr ?_; (case hd => rfl); (case hg => rfl); (case hr => first | (go_simp; done) | (go_simp; rfl)); intro gb139 hg w43 hbox hb; have BK139 := Aside0.mk (hbox); have GW139 := Aside0.mk ((by rw [hg]; exact (below_size (by repeat with_reducible first | exact HB.out | apply bA | apply bN | apply bD)) : w.heap.size ≤ gb139)); have GE139 := GW139; replace HB := Aside0.mk (below_step (by repeat with_reducible first | exact HB.out | apply bA | apply bN | apply bD) hb); clear hb hbox hg) | ((with_reducible refine gate_dst (N := 4) rfl ?_); refine box_event ?hg (N := 4) ?hd (cs := #[.int .i64 a1_0, .int .i64 a1_1]) (t := 26) ?hr ?_; (case hd => rfl); (case hg => rfl); (case hr => first | (go_simp; done) | (go_simp; rfl)); intro gb140 hg w44 hbox hb; have BK140 := Aside0.mk (hbox); have GW140 := Aside0.mk ((by rw [hg]; exact (below_size (by repeat with_reducible first | exact HB.out | apply bA | apply bN | apply bD | refine bS ?_ GE139.out)) : w.heap.size ≤ gb140)); have GE140 := GW140; replace HB := Aside0.mk (below_step (by repeat with_reducible first | exact HB.out | apply bA | apply bN | apply bD | refine bS ?_ GE139.out) hb); have NB139_140 := Aside0.mk ((by rw [hg]; exact Nat.ne_of_lt (blk_lt (by with_reducible repeat first | exact BK139.out | apply kN | apply kD | apply kA)) : gb139 ≠ gb140)); have NB140_139 := Aside0.mk ((by rw [hg]; exact Nat.ne_of_gt (blk_lt (by with_reducible repeat first | exact BK139.out | apply kN | apply kD | apply kA)) : gb140 ≠ gb139)); replace BK139 := Aside0.mk (blk_below (o := .cells #[.int .i64 a0_0, .int .i64 a0_1] 26 (0, 0)) (by with_reducible repeat first | exact BK139.out | apply kN | apply kD | apply kA) hb); clear hb hbox hg))
   have n0_ := Aside0.mk (blk_drew BK139.out)
   have n1_ := Aside0.mk (blk_drew BK140.out)
   have n2_ := Aside0.mk (below_drew1 HB.out)
   clear BK139
   clear BK140
   clear HB
   have BK139 := n0_
   have BK140 := n1_
   have HB := n2_
   clear n0_ n1_ n2_
   refine start_ (n := 9) (S := fun w' => w'.cell? ⟨gb139, 0, none⟩ = some (.int .i64 a0_0) ∧ w'.cell? ⟨gb139, 1, none⟩ = some (.int .i64 a0_1) ∧ w'.cell? ⟨gb140, 0, none⟩ = some (.int .i64 a1_0) ∧ w'.cell? ⟨gb140, 1, none⟩ = some (.int .i64 a1_1)) (ds := []) (bm 9 0) (by kernel_rfl) rfl rfl ⟨(blk_cell BK139.out 0).trans rfl, (blk_cell BK139.out 1).trans rfl, (blk_cell BK140.out 0).trans rfl, (blk_cell BK140.out 1).trans rfl⟩ (fun hHeld => ?_); refine with_tabW geom_nearest.tab1 geom_nearest.bits1 (fun HT_ HW_ => ?_)
   generalize w44.drew = w45 at BK139 BK140 HB hHeld ⊢
   refine take_ (i := 0) (N := some 16) (v := ?_) (a' := ?_) (bm 9 1) rfl rfl (take_ofW HT_.out HW_.out (by kernel_rfl)) (fun _ _ _ h => h) (Or.inl ⟨by rfl, ?_⟩) hHeld ?_ ?_
   rotate_left
   ·
    rintro w' ⟨s0, s1, s2, s3⟩
    go_simp
    with_reducible rfl
   rotate_left
   ·
    simp only [Act.put, aS, lZ, lS, i64_w, i32_w]
    rfl
   refine take_ (i := 1) (N := some 17) (v := ?_) (a' := ?_) (bm 9 3) rfl rfl (take_ofW HT_.out HW_.out (by kernel_rfl)) (fun _ _ _ h => h) (Or.inl ⟨by rfl, ?_⟩) hHeld ?_ ?_
   rotate_left
   ·
    rintro w' ⟨s0, s1, s2, s3⟩
    go_simp
    with_reducible rfl
   rotate_left
   ·
    simp only [Act.put, aS, lZ, lS, i64_w, i32_w]
    rfl
   refine take_ (i := 4) (N := some 20) (v := ?_) (a' := ?_) (bm 9 19) rfl rfl (take_ofW HT_.out HW_.out (by kernel_rfl)) (fun _ _ _ h => h) (Or.inl ⟨by rfl, ?_⟩) hHeld ?_ ?_
   rotate_left
   ·
    rintro w' ⟨s0, s1, s2, s3⟩
    go_simp
    with_reducible rfl
   rotate_left
   ·
    simp only [Act.put, aS, lZ, lS, i64_w, i32_w]
    rfl
   refine take_ (i := 5) (N := some 21) (v := ?_) (a' := ?_) (bm 9 51) rfl rfl (take_ofW HT_.out HW_.out (by kernel_rfl)) (fun _ _ _ h => h) (Or.inl ⟨by rfl, ?_⟩) hHeld ?_ ?_
   rotate_left
   ·
    rintro w' ⟨s0, s1, s2, s3⟩
    go_simp
    with_reducible rfl
   rotate_left
   ·
    simp only [Act.put, aS, lZ, lS, i64_w, i32_w]
    rfl
   refine one_ (i := 2) (N := some 18) (bm 9 55) rfl rfl (one_of HT_.out (by kernel_rfl)) (by decide) (fun K hK => ?_)
   refine goes_ Try.func41 (by kernel_rfl) rfl #[.agg #[.int .i64 a0_0, .int .i64 a0_1], .agg #[.int .i64 a1_0, .int .i64 a1_1]] (by rfl) rfl rfl (by (try simp only [List.map_toArray, List.map_cons, List.map_nil]); first | done | rfl | (simp only [List.length_drop, List.length_take]; rfl)) ?_
   with_reducible refine (geom_dot.calls a0_0 a0_1 a1_0 a1_1 t141 _ A4.out).mono ?_
   rintro e w46 ⟨rfl, hb⟩
   refine ⟨_, rfl, ?_⟩
   have n0_ := Aside0.mk (blk_below (o := .cells #[.int .i64 a0_0, .int .i64 a0_1] 26 (0, 0)) (by with_reducible repeat first | exact BK139.out | apply kN | apply kD | apply kA) hb)
   have n1_ := Aside0.mk (blk_below (o := .cells #[.int .i64 a1_0, .int .i64 a1_1] 26 (0, 0)) (by with_reducible repeat first | exact BK140.out | apply kN | apply kD | apply kA) hb)
   have n2_ := Aside0.mk (below_step (by repeat with_reducible first | exact HB.out | apply bA | apply bN | apply bD | refine bS ?_ GE139.out | refine bS ?_ GE140.out) hb)
   clear BK139
   clear BK140
   clear HB
   have BK139 := n0_
   have BK140 := n1_
   have HB := n2_
   clear n0_ n1_ n2_
   (try clear hb)
   (try clear hb2)
   (try clear hk)
   (try clear hi)
   refine hK.out _ _ ⟨(blk_cell BK139.out 0).trans rfl, (blk_cell BK139.out 1).trans rfl, (blk_cell BK140.out 0).trans rfl, (blk_cell BK140.out 1).trans rfl⟩ (fun hHeld => ?_)
   clear hK K
   refine norm_ (a' := ?_) ?_ ?_
   rotate_left
   ·
    show Act.put _ (some 18) _ = _
    simp only [Act.put, aS, lZ, lS, i64_w, i32_w]
    rfl
   refine pure_ (i := 3) (N := some 19) (v := ?_) (a' := ?_) (bm 9 63) rfl rfl (any_of HT_.out (by kernel_rfl)) (fun _ _ _ h => h) (Or.inl ⟨by rfl, ?_⟩) ?_ ?_
   rotate_left; (intro w'; go_simp; with_reducible rfl); rotate_left; (simp only [Act.put, aS, lZ, lS, i64_w, i32_w]; rfl)
   refine one_ (i := 6) (N := some 22) (bm 9 127) rfl rfl (one_of HT_.out (by kernel_rfl)) (by decide) (fun K hK => ?_)
   refine goes_ Try.func41 (by kernel_rfl) rfl #[.agg #[.int .i64 a1_0, .int .i64 a1_1], .agg #[.int .i64 a1_0, .int .i64 a1_1]] (by rfl) rfl rfl (by (try simp only [List.map_toArray, List.map_cons, List.map_nil]); first | done | rfl | (simp only [List.length_drop, List.length_take]; rfl)) ?_
   with_reducible refine (geom_dot.calls a1_0 a1_1 a1_0 a1_1 t142 _ A5.out).mono ?_
   rintro e w47 ⟨rfl, hb⟩
   refine ⟨_, rfl, ?_⟩
   have n0_ := Aside0.mk (blk_below (o := .cells #[.int .i64 a0_0, .int .i64 a0_1] 26 (0, 0)) (by with_reducible repeat first | exact BK139.out | apply kN | apply kD | apply kA) hb)
   have n1_ := Aside0.mk (blk_below (o := .cells #[.int .i64 a1_0, .int .i64 a1_1] 26 (0, 0)) (by with_reducible repeat first | exact BK140.out | apply kN | apply kD | apply kA) hb)
   have n2_ := Aside0.mk (below_step (by repeat with_reducible first | exact HB.out | apply bA | apply bN | apply bD | refine bS ?_ GE139.out | refine bS ?_ GE140.out) hb)
   clear BK139
   clear BK140
   clear HB
   have BK139 := n0_
   have BK140 := n1_
   have HB := n2_
   clear n0_ n1_ n2_
   (try clear hb)
   (try clear hb2)
   (try clear hk)
   (try clear hi)
   refine hK.out _ _ ⟨(blk_cell BK139.out 0).trans rfl, (blk_cell BK139.out 1).trans rfl, (blk_cell BK140.out 0).trans rfl, (blk_cell BK140.out 1).trans rfl⟩ (fun hHeld => ?_)
   clear hK K
   refine norm_ (a' := ?_) ?_ ?_
   rotate_left
   ·
    show Act.put _ (some 22) _ = _
    simp only [Act.put, aS, lZ, lS, i64_w, i32_w]
    rfl
   refine pure_ (i := 7) (N := some 7) (v := ?_) (a' := ?_) (bm 9 255) rfl rfl (any_of HT_.out (by kernel_rfl)) (fun _ _ _ h => h) (Or.inl ⟨by rfl, ?_⟩) ?_ ?_
   rotate_left; (intro w'; go_simp; with_reducible rfl); rotate_left; (simp only [Act.put, aS, lZ, lS, i64_w, i32_w]; rfl)
   refine pure_ (i := 8) (N := some 8) (v := ?_) (a' := ?_) (bm 9 511) rfl rfl (any_of HT_.out (by kernel_rfl)) (fun _ _ _ h => h) (Or.inl ⟨by rfl, ?_⟩) ?_ ?_
   rotate_left; (intro w'; go_simp; with_reducible rfl); rotate_left; (simp only [Act.put, aS, lZ, lS, i64_w, i32_w]; rfl)
   refine done_ (done_of HT_.out (by kernel_rfl)) ?_
   have hnb48 := NB139_140.out
   have hnc48 := NB140_139.out
   obtain ⟨hcz49_0, hcz49_1, hfz49_0, hfz49_1⟩ := kc2 BK139.out
   obtain ⟨hcz50_0, hcz50_1, hfz50_0, hfz50_1⟩ := kc2 BK140.out
   try go_wp2_with (first | ((with_reducible refine gate_dst (N := 9) rfl ?_); refine box_event ?hg (N := 9) ?hd (cs := #[.int .i64 0, .int .i64 0]) (t := 26) ?hr ?_; (case hd => rfl); (case hg => rfl); (case hr => first | (go_simp; done) | (go_simp; rfl)); intro gb143 hg w51 hbox hb; have BK143 := Aside0.mk (hbox); have GW143 := Aside0.mk ((by rw [hg]; exact (below_size (by repeat with_reducible first | exact HB.out | apply bA | apply bN | apply bD | refine bS ?_ GE139.out | refine bS ?_ GE140.out)) : w.heap.size ≤ gb143)); have GE143 := GW143; replace HB := Aside0.mk (below_step (by repeat with_reducible first | exact HB.out | apply bA | apply bN | apply bD | refine bS ?_ GE139.out | refine bS ?_ GE140.out) hb); have NB139_143 := Aside0.mk ((by rw [hg]; exact Nat.ne_of_lt (blk_lt (by with_reducible repeat first | exact BK139.out | apply kN | apply kD | apply kA)) : gb139 ≠ gb143)); have NB143_139 := Aside0.mk ((by rw [hg]; exact Nat.ne_of_gt (blk_lt (by with_reducible repeat first | exact BK139.out | apply kN | apply kD | apply kA)) : gb143 ≠ gb139)); replace BK139 := Aside0.mk (blk_below (o := .cells #[.int .i64 a0_0, .int .i64 a0_1] 26 (0, 0)) (by with_reducible repeat first | exact BK139.out | apply kN | apply kD | apply kA) hb); have NB140_143 := Aside0.mk ((by rw [hg]; exact Nat.ne_of_lt (blk_lt (by with_reducible repeat first | exact BK140.out | apply kN | apply kD | apply kA)) : gb140 ≠ gb143)); have NB143_140 := Aside0.mk ((by rw [hg]; exact Nat.ne_of_gt (blk_lt (by with_reducible repeat first | exact BK140.out | apply kN | apply kD | apply kA)) : gb143 ≠ gb140)); replace BK140 := Aside0.mk (blk_below (o := .cells #[.int .i64 a1_0, .int .i64 a1_1] 26 (0, 0)) (by with_reducible repeat first | exact BK140.out | apply kN | apply kD | apply kA) hb); clear hb hbox hg; have hnb52 := NB143_139.out; have hnc52 := NB139_143.out; have hnb53 := NB143_140.out; have hnc53 := NB140_143.out; obtain ⟨hcz54_0, hcz54_1, hfz54_0, hfz54_1⟩ := kc2 BK143.out; obtain ⟨hcz55_0, hcz55_1, hfz55_0, hfz55_1⟩ := kc2 BK139.out; obtain ⟨hcz56_0, hcz56_1, hfz56_0, hfz56_1⟩ := kc2 BK140.out) | ((with_reducible refine gate_callee (f := 42) rfl ?_); refine goesL_ (some 36) rfl rfl Try.func42 (by kernel_rfl) rfl #[.agg #[.int .i64 a0_0, .int .i64 a0_1], .agg #[.int .i64 a1_0, .int .i64 a1_1]] rfl (by (try simp only [List.map_toArray, List.map_cons, List.map_nil]); first | done | rfl | (simp only [List.length_drop, List.length_take]; rfl)) ?_; (with_reducible refine (geom_cross.calls a0_0 a0_1 a1_0 a1_1 t150 _ A41.out).mono ?_); rintro e w57 ⟨rfl, hb⟩; refine ⟨_, rfl, ?_⟩; replace BK139 := Aside0.mk (blk_below (o := .cells #[.int .i64 a0_0, .int .i64 a0_1] 26 (0, 0)) (by (with_reducible repeat first | apply kN | apply kD | apply kA); refine blk_far ?_ NB139_143.out _; (with_reducible repeat first | apply kN | apply kD | apply kA); refine blk_far ?_ NB139_143.out _; (with_reducible repeat first | apply kN | apply kD | apply kA); exact BK139.out) hb); replace BK140 := Aside0.mk (blk_below (o := .cells #[.int .i64 a1_0, .int .i64 a1_1] 26 (0, 0)) (by (with_reducible repeat first | apply kN | apply kD | apply kA); refine blk_far ?_ NB140_143.out _; (with_reducible repeat first | apply kN | apply kD | apply kA); refine blk_far ?_ NB140_143.out _; (with_reducible repeat first | apply kN | apply kD | apply kA); exact BK140.out) hb); replace BK143 := Aside0.mk (blk_below (o := .cells #[.int .i64 (wrap64 (a0_0 + a1_0)), .int .i64 (wrap64 (a0_1 + a1_1))] 26 (0, 0)) (by (with_reducible repeat first | apply kN | apply kD | apply kA); refine blk_put (cs := #[.int .i64 (wrap64 (a0_0 + a1_0)), .int .i64 0]) ?_ 1 _ rfl; (with_reducible repeat first | apply kN | apply kD | apply kA); refine blk_put (cs := #[.int .i64 0, .int .i64 0]) ?_ 0 _ rfl; (with_reducible repeat first | apply kN | apply kD | apply kA); exact BK143.out) hb); replace HB := Aside0.mk (below_step (by repeat with_reducible first | exact HB.out | apply bA | apply bN | apply bD | refine bS ?_ GE139.out | refine bS ?_ GE140.out | refine bS ?_ GE143.out) hb); (try clear hb); (try clear hb2); (try clear hk); (try clear hi)) | ((with_reducible refine gate_callee (f := 43) rfl ?_); refine goesL_ (some 42) rfl rfl Try.func43 (by kernel_rfl) rfl #[.int .i64 t150, .int .i64 t150, .int .i64 a2, .int .i64 t142] rfl (by (try simp only [List.map_toArray, List.map_cons, List.map_nil]); first | done | rfl | (simp only [List.length_drop, List.length_take]; rfl)) ?_; (with_reducible refine (num_Compare.calls k t150 t150 a2 t142 t151 t152 _ A42.out).mono ?_); rintro e w58 ⟨rfl, hb⟩; refine ⟨_, rfl, ?_⟩; replace BK139 := Aside0.mk (blk_below (o := .cells #[.int .i64 a0_0, .int .i64 a0_1] 26 (0, 0)) (by with_reducible repeat first | exact BK139.out | apply kN | apply kD | apply kA) hb); replace BK140 := Aside0.mk (blk_below (o := .cells #[.int .i64 a1_0, .int .i64 a1_1] 26 (0, 0)) (by with_reducible repeat first | exact BK140.out | apply kN | apply kD | apply kA) hb); replace BK143 := Aside0.mk (blk_below (o := .cells #[.int .i64 (wrap64 (a0_0 + a1_0)), .int .i64 (wrap64 (a0_1 + a1_1))] 26 (0, 0)) (by with_reducible repeat first | exact BK143.out | apply kN | apply kD | apply kA) hb); replace HB := Aside0.mk (below_step (by repeat with_reducible first | exact HB.out | apply bA | apply bN | apply bD | refine bS ?_ GE139.out | refine bS ?_ GE140.out | refine bS ?_ GE143.out) hb); (try clear hb); (try clear hb2); (try clear hk); (try clear hi)))
   go_ret
   exact ⟨by first | rfl | (simp [errW_none, errW_some] <;> rfl) | (simp [*, errW_none, errW_some] <;> rfl), by repeat with_reducible first | exact HB.out | apply bA | apply bN | apply bD | refine bS ?_ GE139.out | refine bS ?_ GE140.out | refine bS ?_ GE143.out⟩

end Go.Proofs.Ytmfcgmdecindnaa.X
