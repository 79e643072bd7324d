import Derived.Test.YtmdmajfgpmopbaaX0
namespace Go.Proofs.Ytmdmajfgpmopbaa.X
open Go.RowKit YtmdmajfgpmopbaaW.PrintWords YtmdmajfgpmopbaaW.PrintLast YtmdmajfgpmopbaaW.PrintMore
attribute [local go_sem] max2_int min2_int max_two min_two max_three min_three max_four min_four
set_option linter.unusedVariables false
set_option linter.unusedSimpArgs false

/-! ### dancestudioref43_step: function 29 -/
def dancestudioref43_step.f (l0_0 : List (S53)) (l0_1 : List Int) (a1 : Int) : Option (Int × Int) := if 0 ≤ a1 then (if a1 < (l0_0.length : Int) then (if 0 ≤ (wrap64 (a1 + 1)) then (if (wrap64 (a1 + 1)) < (l0_0.length : Int) then (some (wrap64 (((rd_T53 l0_0 (wrap64 (a1 + 1))).f0.f0) - ((rd_T53 l0_0 a1).f0.f0)), wrap64 (((rd_T53 l0_0 (wrap64 (a1 + 1))).f0.f1) - ((rd_T53 l0_0 a1).f0.f1)))) else (none)) else (none)) else (none)) else (none)
def dancestudioref43_step.T1 : Bool × List (List Nat × List Nat) := (true, [([], []), ([0], [0]), ([], []), ([1, 2], [1, 2]), ([3], [3]), ([4], [4]), ([], []), ([6], [6]), ([], []), ([8], [8]), ([7, 9], [7, 9]), ([10], [10]), ([11], [11]), ([], []), ([], []), ([13, 5, 0, 1, 2, 3, 4, 5, 13, 14], [5, 13]), ([14, 12, 15, 0, 1, 2, 3, 4, 5, 6, 7, 8, 9, 10, 11, 12, 13, 14, 15], [12, 14])])
def dancestudioref43_step.B1 : List Nat := [0, 1, 0, 7, 15, 31, 0, 64, 0, 256, 960, 1984, 4032, 0, 0, 24639, 65535]
theorem dancestudioref43_step.tab1 : rtab .any (opsOf Try.f29 1) = dancestudioref43_step.T1 := by kernel_rfl
theorem dancestudioref43_step.bits1 : waitsOk dancestudioref43_step.T1.2 dancestudioref43_step.B1 = true := by kernel_rfl
set_option maxHeartbeats 8000000 in
set_option maxRecDepth 100000 in
theorem dancestudioref43_step.calls (A0_0 : Option Addr) (c0_0 : Nat) (l0_0 : List (S53)) (A0_1 : Option Addr) (c0_1 : Nat) (l0_1 : List Int) (a1 r1 r2 : Int) (w : World) (hr0_0 : Kd.C k53 w A0_0 l0_0.length l0_0) (hc0_0 : l0_0.length ≤ c0_0) (hr0_1 : Kd.C (Kd.int .i64) w A0_1 l0_1.length l0_1) (hc0_1 : l0_1.length ≤ c0_1) (h : dancestudioref43_step.f l0_0 l0_1 a1 = some (r1, r2)) :
  Calls Try.prog 29 #[.agg #[.slice A0_0 l0_0.length c0_0, .slice A0_1 l0_1.length c0_1], .int .i64 a1] w fun e w' => e = .returned (.agg #[.int .i64 r1, .int .i64 r2]) ∧ Below w.heap.size w w' := by
 have hu25 := Try.underlying25
 have hu35 := Try.underlying35
 have HR0_0 := am hr0_0
 have HC0_0 := am hc0_0
 clear hr0_0 hc0_0
 have HR0_1 := am hr0_1
 have HC0_1 := am hc0_1
 clear hr0_1 hc0_1
 have HB := am (Below.refl w.heap.size w)
 have H : (if 0 ≤ a1 then (if a1 < (l0_0.length : Int) then (if 0 ≤ (wrap64 (a1 + 1)) then (if (wrap64 (a1 + 1)) < (l0_0.length : Int) then (some (wrap64 (((rd_T53 l0_0 (wrap64 (a1 + 1))).f0.f0) - ((rd_T53 l0_0 a1).f0.f0)), wrap64 (((rd_T53 l0_0 (wrap64 (a1 + 1))).f0.f1) - ((rd_T53 l0_0 a1).f0.f1)))) else (none)) else (none)) else (none)) else (none)) = some (r1, r2) := h
 clear h
 by_cases c3 : 0 ≤ a1
 ·
  rw [if_pos c3] at H
  have c3b0 := decide_eq_true c3
  clear c3
  by_cases c4 : a1 < (l0_0.length : Int); rotate_left
  · rw [if_neg c4] at H; exact absurd H (by simp)
  rw [if_pos c4] at H
  have c4b0 := decide_eq_true c4
  clear c4
  obtain ⟨ji5, hji5⟩ : ∃ j_ : Int, (wrap64 (a1 + 1)) = j_ := ⟨_, rfl⟩
  replace H : (if 0 ≤ (ji5) then (if (ji5) < (l0_0.length : Int) then (some (wrap64 (((rd_T53 l0_0 (ji5)).f0.f0) - ((rd_T53 l0_0 a1).f0.f0)), wrap64 (((rd_T53 l0_0 (ji5)).f0.f1) - ((rd_T53 l0_0 a1).f0.f1)))) else (none)) else (none)) = some (r1, r2) := by first | (rw [hji5] at H; exact H) | (simp only [hji5] at H ⊢; exact H)
  have hji5w : (IntKind.i64.wrap (a1 + 1)) = ji5 := (i64_w _).trans hji5
  by_cases c6 : 0 ≤ (ji5); rotate_left
  · rw [if_neg c6] at H; exact absurd H (by simp)
  rw [if_pos c6] at H
  have c6b0 := decide_eq_true c6
  clear c6
  by_cases c7 : (ji5) < (l0_0.length : Int); rotate_left
  · rw [if_neg c7] at H; exact absurd H (by simp)
  rw [if_pos c7] at H
  have c7b0 := decide_eq_true c7
  clear c7
  simp only [Option.some.injEq, Prod.mk.injEq] at H
  obtain ⟨rfl, rfl⟩ := H
  go_enter Try.func29, Try.ntmps29
  try go_wp2_with (first | ((with_reducible refine gate_dst (N := 2) rfl ?_); refine box_event yz (N := 2) yz (cs := #[.slice A0_0 l0_0.length c0_0, .slice A0_1 l0_1.length c0_1]) (t := 25) gz ?_; intro gb269 hg w8 hbox hb; have BK269 := am (hbox); have GW269 := gwz (g := gb269) HB hg; have GE269 := GW269; replace HB := am (below_step bz hb); clear hb hbox hg) | ((with_reducible refine gate_dst (N := 4) rfl ?_); refine box_event yz (N := 4) yz (cs := #[.int .i64 0, .int .i64 0]) (t := 35) gz ?_; intro gb270 hg w9 hbox hb; have BK270 := am (hbox); have GW270 := gwz (g := gb270) HB hg; have GE270 := GW270; replace HB := am (below_step bz hb); have NB269_270 := nlt (g' := gb270) BK269 hg; have NB270_269 := ngt (g' := gb270) BK269 hg; replace BK269 := am (blk_below (o := .cells #[.slice A0_0 l0_0.length c0_0, .slice A0_1 l0_1.length c0_1] 25 (0, 0)) (kz BK269) hb); clear hb hbox hg))
  have n0_ := am (blk_drew BK269.out)
  have n1_ := am (blk_drew BK270.out)
  have n2_ := am (below_drew1 HB.out)
  clear BK269
  clear BK270
  clear HB
  have BK269 := n0_
  have BK270 := n1_
  have HB := n2_
  clear n0_ n1_ n2_
  have p271 : 0 ≤ (a1 : Int) := az
  have q271 : a1 < (l0_0.length : Int) := az
  obtain ⟨ad271, e271, hx271_0, hx271_1, _, _, _, _, _, _, _, _, _, _, _, _, _, _, _, _, _, _, _, _⟩ := at_T53 HR0_0.out a1 p271 q271
  have hw271_1 := hx271_1
  have hw271_0 := hx271_0
  cases e271
  replace hx271_0 := cb HB.out hx271_0
  replace hx271_1 := cb HB.out hx271_1
  replace p271 := eq_true p271
  replace q271 := eq_true q271
  have p272 : 0 ≤ ((ji5) : Int) := az
  have q272 : (ji5) < (l0_0.length : Int) := az
  obtain ⟨ad272, e272, hx272_0, hx272_1, _, _, _, _, _, _, _, _, _, _, _, _, _, _, _, _, _, _, _, _⟩ := at_T53 HR0_0.out (ji5) p272 q272
  have hw272_1 := hx272_1
  have hw272_0 := hx272_0
  obtain rfl : ad271 = ad272 := (by injection e272)
  replace hx272_0 := cb HB.out hx272_0
  replace hx272_1 := cb HB.out hx272_1
  replace p272 := eq_true p272
  replace q272 := eq_true q272
  refine start_ (n := 17) (S := fun w' => w'.cell? ⟨gb269, 0, none⟩ = some (.slice (some ad271) l0_0.length c0_0) ∧ w'.cell? ⟨gb269, 1, none⟩ = some (.slice A0_1 l0_1.length c0_1) ∧ w'.cell? (ad271.add ((a1).toNat * 22)) = some (.int .i64 ((rd_T53 l0_0 a1).f0.f0)) ∧ w'.cell? ⟨(ad271.add ((a1).toNat * 22)).block, (ad271.add ((a1).toNat * 22)).off + 1, none⟩ = some (.int .i64 ((rd_T53 l0_0 a1).f0.f1)) ∧ w'.cell? (ad271.add (((ji5)).toNat * 22)) = some (.int .i64 ((rd_T53 l0_0 (ji5)).f0.f0)) ∧ w'.cell? ⟨(ad271.add (((ji5)).toNat * 22)).block, (ad271.add (((ji5)).toNat * 22)).off + 1, none⟩ = some (.int .i64 ((rd_T53 l0_0 (ji5)).f0.f1))) (ds := []) (bm 17 0) qz rfl rfl ⟨(blk_cell BK269.out 0).trans rfl, (blk_cell BK269.out 1).trans rfl, (cb HB.out hw271_0), (cb HB.out hw271_1), (cb HB.out hw272_0), (cb HB.out hw272_1)⟩ (fun hHeld => ?_); refine with_tabW dancestudioref43_step.tab1 dancestudioref43_step.bits1 (fun HT_ HW_ => ?_)
  generalize w9.drew = w10 at BK269 BK270 HB hx271_0 hx271_1 hx272_0 hx272_1 hHeld ⊢
  refine pa (i := 0) (N := some 7) (bm 17 1) HT_ ?_
  refine pa (i := 2) (N := some 9) (bm 17 5) HT_ ?_
  refine pa (i := 6) (N := some 13) (bm 17 69) HT_ ?_
  refine pa (i := 8) (N := some 15) (bm 17 325) HT_ ?_
  refine pa (i := 9) (N := some 16) (bm 17 837) HT_ ?_
  refine take_ (i := 1) (N := some 8) (v := ?_) (a' := ?_) (bm 17 839) rfl rfl (take_ofW HT_.out HW_.out qz) iz (Or.inl ⟨by rfl, ?_⟩) hHeld ?_ ?_
  rotate_left
  ·
   rintro w' ⟨s0, s1, s2, s3, s4, s5⟩
   go_simp
   with_reducible rfl
  rotate_left
  ·
   simp only [Act.put, aS, lZ, lS, i64_w, i32_w]
   rfl
  refine pa (i := 3) (N := some 10) (bm 17 847) HT_ ?_
  refine pa (i := 4) (N := some 11) (bm 17 863) HT_ ?_
  refine take_ (i := 5) (N := some 12) (v := ?_) (a' := ?_) (bm 17 895) rfl rfl (take_ofW HT_.out HW_.out qz) iz (Or.inl ⟨by rfl, ?_⟩) hHeld ?_ ?_
  rotate_left
  ·
   rintro w' ⟨s0, s1, s2, s3, s4, s5⟩
   go_simp
   with_reducible rfl
  rotate_left
  ·
   simp only [Act.put, aS, lZ, lS, i64_w, i32_w]
   rfl
  refine take_ (i := 7) (N := some 14) (v := ?_) (a' := ?_) (bm 17 1023) rfl rfl (take_ofW HT_.out HW_.out qz) iz (Or.inl ⟨by rfl, ?_⟩) hHeld ?_ ?_
  rotate_left
  ·
   rintro w' ⟨s0, s1, s2, s3, s4, s5⟩
   go_simp
   with_reducible rfl
  rotate_left
  ·
   simp only [Act.put, aS, lZ, lS, i64_w, i32_w]
   rfl
  refine pa (i := 10) (N := some 17) (bm 17 2047) HT_ ?_
  refine pa (i := 11) (N := some 18) (bm 17 4095) HT_ ?_
  refine take_ (i := 12) (N := some 19) (v := ?_) (a' := ?_) (bm 17 8191) rfl rfl (take_ofW HT_.out HW_.out qz) iz (Or.inl ⟨by rfl, ?_⟩) hHeld ?_ ?_
  rotate_left
  ·
   rintro w' ⟨s0, s1, s2, s3, s4, s5⟩
   go_simp
   with_reducible rfl
  rotate_left
  ·
   simp only [Act.put, aS, lZ, lS, i64_w, i32_w]
   rfl
  refine join_ (σ := Nat × Nat) 2 (bm 17 32767) (fun s_ => [(5, .pointer (some ⟨s_.1, 0, none⟩)), (6, .pointer (some ⟨s_.2, 0, none⟩))]) (fun s_ w' => (w'.cell? ⟨gb269, 0, none⟩ = some (.slice (some ad271) l0_0.length c0_0) ∧ w'.cell? ⟨gb269, 1, none⟩ = some (.slice A0_1 l0_1.length c0_1) ∧ w'.cell? (ad271.add ((a1).toNat * 22)) = some (.int .i64 ((rd_T53 l0_0 a1).f0.f0)) ∧ w'.cell? ⟨(ad271.add ((a1).toNat * 22)).block, (ad271.add ((a1).toNat * 22)).off + 1, none⟩ = some (.int .i64 ((rd_T53 l0_0 a1).f0.f1)) ∧ w'.cell? (ad271.add (((ji5)).toNat * 22)) = some (.int .i64 ((rd_T53 l0_0 (ji5)).f0.f0)) ∧ w'.cell? ⟨(ad271.add (((ji5)).toNat * 22)).block, (ad271.add (((ji5)).toNat * 22)).off + 1, none⟩ = some (.int .i64 ((rd_T53 l0_0 (ji5)).f0.f1))) ∧ (w'.heap[gb269]? = some (.cells #[.slice (some ad271) l0_0.length c0_0, .slice A0_1 l0_1.length c0_1] 25 (0, 0))) ∧ (w'.heap[gb270]? = some (.cells #[.int .i64 0, .int .i64 0] 35 (0, 0))) ∧ (w'.heap[s_.1]? = some (.cells #[.int .i64 0, .int .i64 0] 35 (0, 0))) ∧ (w'.heap[s_.2]? = some (.cells #[.int .i64 0, .int .i64 0] 35 (0, 0))) ∧ (w.heap.size ≤ s_.1) ∧ (w.heap.size ≤ s_.1) ∧ (gb269 ≠ s_.1) ∧ (s_.1 ≠ gb269) ∧ (gb270 ≠ s_.1) ∧ (s_.1 ≠ gb270) ∧ (s_.2 ≠ s_.1) ∧ (s_.1 ≠ s_.2) ∧ (w.heap.size ≤ s_.2) ∧ (w.heap.size ≤ s_.2) ∧ (gb269 ≠ s_.2) ∧ (s_.2 ≠ gb269) ∧ (gb270 ≠ s_.2) ∧ (s_.2 ≠ gb270) ∧ (Below w.heap.size w w')) ?_ ?_
  rotate_left
  ·
   intro hCont
   refine two_ (i := 13) (j := 14) (Ni := some 5) (Nj := some 6) (bm 17 16383) (bm 17 24575) rfl rfl rfl rfl (two_of HT_.out qz) (by decide) (by decide) (fun K hK => ?_) (fun K hK => ?_)
   ·
    skip
    refine box_step ?hg (N := 5) ?hd (cs := #[.int .i64 0, .int .i64 0]) (t := 35) ?hr ?_; (case hd => rfl); (case hg => rfl); (case hr => first | (go_simp; done) | (go_simp; rfl))
    intro gb273 hg w11 hbox hb
    have n0_ := am (blk_below (o := .cells #[.slice (some ad271) l0_0.length c0_0, .slice A0_1 l0_1.length c0_1] 25 (0, 0)) (kz BK269) hb)
    have n1_ := am (blk_below (o := .cells #[.int .i64 0, .int .i64 0] 35 (0, 0)) (kz BK270) hb)
    have n2_ := am (below_step bz hb)
    have n3_ := am (hbox)
    have n4_ := gwz (g := gb273) HB hg
    have n5_ := gwz (g := gb273) HB hg
    have n6_ := nlt (g' := gb273) BK269 hg
    have n7_ := ngt (g' := gb273) BK269 hg
    have n8_ := nlt (g' := gb273) BK270 hg
    have n9_ := ngt (g' := gb273) BK270 hg
    clear BK269
    clear BK270
    clear HB
    have BK269 := n0_
    have BK270 := n1_
    have HB := n2_
    have BK273 := n3_
    have GW273 := n4_
    have GE273 := n5_
    have NB269_273 := n6_
    have NB273_269 := n7_
    have NB270_273 := n8_
    have NB273_270 := n9_
    clear n0_ n1_ n2_ n3_ n4_ n5_ n6_ n7_ n8_ n9_
    clear hb hbox hg
    refine hK.out _ _ ⟨(blk_cell BK269.out 0).trans rfl, (blk_cell BK269.out 1).trans rfl, (cb HB.out hw271_0), (cb HB.out hw271_1), (cb HB.out hw272_0), (cb HB.out hw272_1)⟩ (fun hHeld => ?_)
    clear hK K
    refine norm_ (a' := ?_) ?_ ?_
    rotate_left
    ·
     show Act.put _ (some 5) _ = _
     simp only [Act.put, aS, lZ, lS, i64_w, i32_w]
     rfl
    refine one_ (i := 14) (N := some 6) (bm 17 32767) rfl rfl (one_of HT_.out qz) (by decide) (fun K hK => ?_)
    refine box_step ?hg (N := 6) ?hd (cs := #[.int .i64 0, .int .i64 0]) (t := 35) ?hr ?_; (case hd => rfl); (case hg => rfl); (case hr => first | (go_simp; done) | (go_simp; rfl))
    intro gb274 hg w12 hbox hb
    have n0_ := am (blk_below (o := .cells #[.slice (some ad271) l0_0.length c0_0, .slice A0_1 l0_1.length c0_1] 25 (0, 0)) (kz BK269) hb)
    have n1_ := am (blk_below (o := .cells #[.int .i64 0, .int .i64 0] 35 (0, 0)) (kz BK270) hb)
    have n2_ := am (blk_below (o := .cells #[.int .i64 0, .int .i64 0] 35 (0, 0)) (kz BK273) hb)
    have n3_ := am (below_step bz hb)
    have n4_ := am (hbox)
    have n5_ := gwz (g := gb274) HB hg
    have n6_ := gwz (g := gb274) HB hg
    have n7_ := nlt (g' := gb274) BK269 hg
    have n8_ := ngt (g' := gb274) BK269 hg
    have n9_ := nlt (g' := gb274) BK270 hg
    have n10_ := ngt (g' := gb274) BK270 hg
    have n11_ := nlt (g' := gb274) BK273 hg
    have n12_ := ngt (g' := gb274) BK273 hg
    clear BK269
    clear BK270
    clear BK273
    clear HB
    have BK269 := n0_
    have BK270 := n1_
    have BK273 := n2_
    have HB := n3_
    have BK274 := n4_
    have GW274 := n5_
    have GE274 := n6_
    have NB269_274 := n7_
    have NB274_269 := n8_
    have NB270_274 := n9_
    have NB274_270 := n10_
    have NB273_274 := n11_
    have NB274_273 := n12_
    clear n0_ n1_ n2_ n3_ n4_ n5_ n6_ n7_ n8_ n9_ n10_ n11_ n12_
    clear hb hbox hg
    refine hK.out _ _ ⟨(blk_cell BK269.out 0).trans rfl, (blk_cell BK269.out 1).trans rfl, (cb HB.out hw271_0), (cb HB.out hw271_1), (cb HB.out hw272_0), (cb HB.out hw272_1)⟩ (fun hHeld => ?_)
    clear hK K
    refine norm_ (a' := ?_) ?_ ?_
    rotate_left
    ·
     show Act.put _ (some 6) _ = _
     simp only [Act.put, aS, lZ, lS, i64_w, i32_w]
     rfl
    exact norm_ (by simp only [putAll, Act.put, List.setIfInBounds_toArray, List.set_cons_zero, List.set_cons_succ]) (hCont (gb273, gb274) _ ⟨hHeld, (kz BK269), (kz BK270), (kz BK273), (kz BK274), GW273.out, GE273.out, NB269_273.out, NB273_269.out, NB270_273.out, NB273_270.out, NB274_273.out, NB273_274.out, GW274.out, GE274.out, NB269_274.out, NB274_269.out, NB270_274.out, NB274_270.out, bz⟩)
   ·
    skip
    refine box_step ?hg (N := 6) ?hd (cs := #[.int .i64 0, .int .i64 0]) (t := 35) ?hr ?_; (case hd => rfl); (case hg => rfl); (case hr => first | (go_simp; done) | (go_simp; rfl))
    intro gb274 hg w11 hbox hb
    have n0_ := am (blk_below (o := .cells #[.slice (some ad271) l0_0.length c0_0, .slice A0_1 l0_1.length c0_1] 25 (0, 0)) (kz BK269) hb)
    have n1_ := am (blk_below (o := .cells #[.int .i64 0, .int .i64 0] 35 (0, 0)) (kz BK270) hb)
    have n2_ := am (below_step bz hb)
    have n3_ := am (hbox)
    have n4_ := gwz (g := gb274) HB hg
    have n5_ := gwz (g := gb274) HB hg
    have n6_ := nlt (g' := gb274) BK269 hg
    have n7_ := ngt (g' := gb274) BK269 hg
    have n8_ := nlt (g' := gb274) BK270 hg
    have n9_ := ngt (g' := gb274) BK270 hg
    clear BK269
    clear BK270
    clear HB
    have BK269 := n0_
    have BK270 := n1_
    have HB := n2_
    have BK274 := n3_
    have GW274 := n4_
    have GE274 := n5_
    have NB269_274 := n6_
    have NB274_269 := n7_
    have NB270_274 := n8_
    have NB274_270 := n9_
    clear n0_ n1_ n2_ n3_ n4_ n5_ n6_ n7_ n8_ n9_
    clear hb hbox hg
    refine hK.out _ _ ⟨(blk_cell BK269.out 0).trans rfl, (blk_cell BK269.out 1).trans rfl, (cb HB.out hw271_0), (cb HB.out hw271_1), (cb HB.out hw272_0), (cb HB.out hw272_1)⟩ (fun hHeld => ?_)
    clear hK K
    refine norm_ (a' := ?_) ?_ ?_
    rotate_left
    ·
     show Act.put _ (some 6) _ = _
     simp only [Act.put, aS, lZ, lS, i64_w, i32_w]
     rfl
    refine one_ (i := 13) (N := some 5) (bm 17 32767) rfl rfl (one_of HT_.out qz) (by decide) (fun K hK => ?_)
    refine box_step ?hg (N := 5) ?hd (cs := #[.int .i64 0, .int .i64 0]) (t := 35) ?hr ?_; (case hd => rfl); (case hg => rfl); (case hr => first | (go_simp; done) | (go_simp; rfl))
    intro gb273 hg w12 hbox hb
    have n0_ := am (blk_below (o := .cells #[.slice (some ad271) l0_0.length c0_0, .slice A0_1 l0_1.length c0_1] 25 (0, 0)) (kz BK269) hb)
    have n1_ := am (blk_below (o := .cells #[.int .i64 0, .int .i64 0] 35 (0, 0)) (kz BK270) hb)
    have n2_ := am (blk_below (o := .cells #[.int .i64 0, .int .i64 0] 35 (0, 0)) (kz BK274) hb)
    have n3_ := am (below_step bz hb)
    have n4_ := am (hbox)
    have n5_ := gwz (g := gb273) HB hg
    have n6_ := gwz (g := gb273) HB hg
    have n7_ := nlt (g' := gb273) BK269 hg
    have n8_ := ngt (g' := gb273) BK269 hg
    have n9_ := nlt (g' := gb273) BK270 hg
    have n10_ := ngt (g' := gb273) BK270 hg
    have n11_ := nlt (g' := gb273) BK274 hg
    have n12_ := ngt (g' := gb273) BK274 hg
    clear BK269
    clear BK270
    clear BK274
    clear HB
    have BK269 := n0_
    have BK270 := n1_
    have BK274 := n2_
    have HB := n3_
    have BK273 := n4_
    have GW273 := n5_
    have GE273 := n6_
    have NB269_273 := n7_
    have NB273_269 := n8_
    have NB270_273 := n9_
    have NB273_270 := n10_
    have NB274_273 := n11_
    have NB273_274 := n12_
    clear n0_ n1_ n2_ n3_ n4_ n5_ n6_ n7_ n8_ n9_ n10_ n11_ n12_
    clear hb hbox hg
    refine hK.out _ _ ⟨(blk_cell BK269.out 0).trans rfl, (blk_cell BK269.out 1).trans rfl, (cb HB.out hw271_0), (cb HB.out hw271_1), (cb HB.out hw272_0), (cb HB.out hw272_1)⟩ (fun hHeld => ?_)
    clear hK K
    refine norm_ (a' := ?_) ?_ ?_
    rotate_left
    ·
     show Act.put _ (some 5) _ = _
     simp only [Act.put, aS, lZ, lS, i64_w, i32_w]
     rfl
    exact norm_ (by simp only [putAll, Act.put, List.setIfInBounds_toArray, List.set_cons_zero, List.set_cons_succ]) (hCont (gb273, gb274) _ ⟨hHeld, (kz BK269), (kz BK270), (kz BK273), (kz BK274), GW273.out, GE273.out, NB269_273.out, NB273_269.out, NB270_273.out, NB273_270.out, NB274_273.out, NB273_274.out, GW274.out, GE274.out, NB269_274.out, NB274_269.out, NB270_274.out, NB274_270.out, bz⟩)
  rintro ⟨gb273, gb274⟩ w13 ⟨hS_, h0_, h1_, h2_, h3_, h4_, h5_, h6_, h7_, h8_, h9_, h10_, h11_, h12_, h13_, h14_, h15_, h16_, h17_, h18_⟩
  have n0_ : Aside0 (w13.heap[gb269]? = some (.cells #[.slice (some ad271) l0_0.length c0_0, .slice A0_1 l0_1.length c0_1] 25 (0, 0))) := ⟨h0_⟩
  have n1_ : Aside0 (w13.heap[gb270]? = some (.cells #[.int .i64 0, .int .i64 0] 35 (0, 0))) := ⟨h1_⟩
  have n2_ : Aside0 (w13.heap[gb273]? = some (.cells #[.int .i64 0, .int .i64 0] 35 (0, 0))) := ⟨h2_⟩
  have n3_ : Aside0 (w13.heap[gb274]? = some (.cells #[.int .i64 0, .int .i64 0] 35 (0, 0))) := ⟨h3_⟩
  have n4_ : Aside0 (w.heap.size ≤ gb273) := ⟨h4_⟩
  have n5_ : Aside0 (w.heap.size ≤ gb273) := ⟨h5_⟩
  have n6_ : Aside0 (gb269 ≠ gb273) := ⟨h6_⟩
  have n7_ : Aside0 (gb273 ≠ gb269) := ⟨h7_⟩
  have n8_ : Aside0 (gb270 ≠ gb273) := ⟨h8_⟩
  have n9_ : Aside0 (gb273 ≠ gb270) := ⟨h9_⟩
  have n10_ : Aside0 (gb274 ≠ gb273) := ⟨h10_⟩
  have n11_ : Aside0 (gb273 ≠ gb274) := ⟨h11_⟩
  have n12_ : Aside0 (w.heap.size ≤ gb274) := ⟨h12_⟩
  have n13_ : Aside0 (w.heap.size ≤ gb274) := ⟨h13_⟩
  have n14_ : Aside0 (gb269 ≠ gb274) := ⟨h14_⟩
  have n15_ : Aside0 (gb274 ≠ gb269) := ⟨h15_⟩
  have n16_ : Aside0 (gb270 ≠ gb274) := ⟨h16_⟩
  have n17_ : Aside0 (gb274 ≠ gb270) := ⟨h17_⟩
  have n18_ : Aside0 (Below w.heap.size w w13) := ⟨h18_⟩
  clear BK269
  clear BK270
  clear HB
  clear h0_ h1_ h2_ h3_ h4_ h5_ h6_ h7_ h8_ h9_ h10_ h11_ h12_ h13_ h14_ h15_ h16_ h17_ h18_
  have BK269 := n0_
  have BK270 := n1_
  have BK273 := n2_
  have BK274 := n3_
  have GW273 := n4_
  have GE273 := n5_
  have NB269_273 := n6_
  have NB273_269 := n7_
  have NB270_273 := n8_
  have NB273_270 := n9_
  have NB274_273 := n10_
  have NB273_274 := n11_
  have GW274 := n12_
  have GE274 := n13_
  have NB269_274 := n14_
  have NB274_269 := n15_
  have NB270_274 := n16_
  have NB274_270 := n17_
  have HB := n18_
  clear n0_ n1_ n2_ n3_ n4_ n5_ n6_ n7_ n8_ n9_ n10_ n11_ n12_ n13_ n14_ n15_ n16_ n17_ n18_
  have hHeld : w13.cell? ⟨gb269, 0, none⟩ = some (.slice (some ad271) l0_0.length c0_0) ∧ w13.cell? ⟨gb269, 1, none⟩ = some (.slice A0_1 l0_1.length c0_1) ∧ w13.cell? (ad271.add ((a1).toNat * 22)) = some (.int .i64 ((rd_T53 l0_0 a1).f0.f0)) ∧ w13.cell? ⟨(ad271.add ((a1).toNat * 22)).block, (ad271.add ((a1).toNat * 22)).off + 1, none⟩ = some (.int .i64 ((rd_T53 l0_0 a1).f0.f1)) ∧ w13.cell? (ad271.add (((ji5)).toNat * 22)) = some (.int .i64 ((rd_T53 l0_0 (ji5)).f0.f0)) ∧ w13.cell? ⟨(ad271.add (((ji5)).toNat * 22)).block, (ad271.add (((ji5)).toNat * 22)).off + 1, none⟩ = some (.int .i64 ((rd_T53 l0_0 (ji5)).f0.f1)) := hS_
  refine norm_ (a' := ?_) ?_ ?_
  rotate_left
  ·
   simp only [putAll, Act.put, List.setIfInBounds_toArray, List.set_cons_zero, List.set_cons_succ]
   rfl
  refine one_ (i := 15) (N := none) (bm 17 65535) rfl rfl (one_of HT_.out qz) (by decide) (fun K hK => ?_)
  have hs14 : w13.cell? ⟨gb273, 0, none⟩ = some (.int .i64 0) := (blk_cell BK273.out 0).trans rfl
  have hfs14 := blk_frozen BK273.out 0
  have hns14_0 := NB269_273.out
  have hns14_1 := NB270_273.out
  have hns14_3 := NB274_273.out
  have hms14_0 := NB273_269.out
  have hms14_1 := NB273_270.out
  have hms14_3 := NB273_274.out
  have hs15 : w13.cell? ⟨gb273, 1, none⟩ = some (.int .i64 0) := (blk_cell BK273.out 1).trans rfl
  have hfs15 := blk_frozen BK273.out 1
  have hns15_0 := NB269_273.out
  have hns15_1 := NB270_273.out
  have hns15_3 := NB274_273.out
  have hms15_0 := NB273_269.out
  have hms15_1 := NB273_270.out
  have hms15_3 := NB273_274.out
  refine skip_ (w1 := ?_) (by rfl) rfl ?_ ?_
  rotate_left
  ·
   go_simp
   rfl
  refine hK.out _ _ ⟨((cell_far (p := ⟨gb273, _, none⟩) NB269_273.out _).trans (((cell_far (p := ⟨gb273, _, none⟩) NB269_273.out _).trans (hHeld.1)))), ((cell_far (p := ⟨gb273, _, none⟩) NB269_273.out _).trans (((cell_far (p := ⟨gb273, _, none⟩) NB269_273.out _).trans (hHeld.2.1)))), ((cell_far (p := ⟨gb273, _, none⟩) (by first | exact nb hw271_0 GW273.out | exact nc hw271_0 GW273.out | exact nd hw271_0 GW273.out) _).trans (((cell_far (p := ⟨gb273, _, none⟩) (by first | exact nb hw271_0 GW273.out | exact nc hw271_0 GW273.out | exact nd hw271_0 GW273.out) _).trans (hHeld.2.2.1)))), ((cell_far (p := ⟨gb273, _, none⟩) (by first | exact nb hw271_1 GW273.out | exact nc hw271_1 GW273.out | exact nd hw271_1 GW273.out) _).trans (((cell_far (p := ⟨gb273, _, none⟩) (by first | exact nb hw271_1 GW273.out | exact nc hw271_1 GW273.out | exact nd hw271_1 GW273.out) _).trans (hHeld.2.2.2.1)))), ((cell_far (p := ⟨gb273, _, none⟩) (by first | exact nb hw272_0 GW273.out | exact nc hw272_0 GW273.out | exact nd hw272_0 GW273.out) _).trans (((cell_far (p := ⟨gb273, _, none⟩) (by first | exact nb hw272_0 GW273.out | exact nc hw272_0 GW273.out | exact nd hw272_0 GW273.out) _).trans (hHeld.2.2.2.2.1)))), ((cell_far (p := ⟨gb273, _, none⟩) (by first | exact nb hw272_1 GW273.out | exact nc hw272_1 GW273.out | exact nd hw272_1 GW273.out) _).trans (((cell_far (p := ⟨gb273, _, none⟩) (by first | exact nb hw272_1 GW273.out | exact nc hw272_1 GW273.out | exact nd hw272_1 GW273.out) _).trans (hHeld.2.2.2.2.2))))⟩ (fun hHeld => ?_)
  clear hK K
  refine one_ (i := 16) (N := none) (bm 17 131071) rfl rfl (one_of HT_.out qz) (by decide) (fun K hK => ?_)
  have hs16 : w13.cell? ⟨gb274, 0, none⟩ = some (.int .i64 0) := (blk_cell BK274.out 0).trans rfl
  have hfs16 := blk_frozen BK274.out 0
  have hns16_0 := NB269_274.out
  have hns16_1 := NB270_274.out
  have hns16_2 := NB273_274.out
  have hms16_0 := NB274_269.out
  have hms16_1 := NB274_270.out
  have hms16_2 := NB274_273.out
  have hs17 : w13.cell? ⟨gb274, 1, none⟩ = some (.int .i64 0) := (blk_cell BK274.out 1).trans rfl
  have hfs17 := blk_frozen BK274.out 1
  have hns17_0 := NB269_274.out
  have hns17_1 := NB270_274.out
  have hns17_2 := NB273_274.out
  have hms17_0 := NB274_269.out
  have hms17_1 := NB274_270.out
  have hms17_2 := NB274_273.out
  refine skip_ (w1 := ?_) (by rfl) rfl ?_ ?_
  rotate_left
  ·
   go_simp
   rfl
  refine hK.out _ _ ⟨((cell_far (p := ⟨gb274, _, none⟩) NB269_274.out _).trans (((cell_far (p := ⟨gb274, _, none⟩) NB269_274.out _).trans (hHeld.1)))), ((cell_far (p := ⟨gb274, _, none⟩) NB269_274.out _).trans (((cell_far (p := ⟨gb274, _, none⟩) NB269_274.out _).trans (hHeld.2.1)))), ((cell_far (p := ⟨gb274, _, none⟩) (by first | exact nb hw271_0 GW274.out | exact nc hw271_0 GW274.out | exact nd hw271_0 GW274.out) _).trans (((cell_far (p := ⟨gb274, _, none⟩) (by first | exact nb hw271_0 GW274.out | exact nc hw271_0 GW274.out | exact nd hw271_0 GW274.out) _).trans (hHeld.2.2.1)))), ((cell_far (p := ⟨gb274, _, none⟩) (by first | exact nb hw271_1 GW274.out | exact nc hw271_1 GW274.out | exact nd hw271_1 GW274.out) _).trans (((cell_far (p := ⟨gb274, _, none⟩) (by first | exact nb hw271_1 GW274.out | exact nc hw271_1 GW274.out | exact nd hw271_1 GW274.out) _).trans (hHeld.2.2.2.1)))), ((cell_far (p := ⟨gb274, _, none⟩) (by first | exact nb hw272_0 GW274.out | exact nc hw272_0 GW274.out | exact nd hw272_0 GW274.out) _).trans (((cell_far (p := ⟨gb274, _, none⟩) (by first | exact nb hw272_0 GW274.out | exact nc hw272_0 GW274.out | exact nd hw272_0 GW274.out) _).trans (hHeld.2.2.2.2.1)))), ((cell_far (p := ⟨gb274, _, none⟩) (by first | exact nb hw272_1 GW274.out | exact nc hw272_1 GW274.out | exact nd hw272_1 GW274.out) _).trans (((cell_far (p := ⟨gb274, _, none⟩) (by first | exact nb hw272_1 GW274.out | exact nc hw272_1 GW274.out | exact nd hw272_1 GW274.out) _).trans (hHeld.2.2.2.2.2))))⟩ (fun hHeld => ?_)
  clear hK K
  refine done_ (done_of HT_.out qz) ?_
  have hnb18 := NB274_269.out
  have hnc18 := NB269_274.out
  have hnb19 := NB274_270.out
  have hnc19 := NB270_274.out
  have hnb20 := NB274_273.out
  have hnc20 := NB273_274.out
  obtain ⟨hcz21_0, hcz21_1, hfz21_0, hfz21_1⟩ := kc2 BK274.out
  have hnb22 := NB273_269.out
  have hnc22 := NB269_273.out
  have hnb23 := NB273_270.out
  have hnc23 := NB270_273.out
  obtain ⟨hcz24_0, hcz24_1, hfz24_0, hfz24_1⟩ := kc2 BK273.out
  have hnb25 := NB270_269.out
  have hnc25 := NB269_270.out
  obtain ⟨hcz26_0, hcz26_1, hfz26_0, hfz26_1⟩ := kc2 BK270.out
  try go_wp2
  refine bodyPost_ret (results_cell_row rfl _ _ gb270 35 #[.int .i64 (wrap64 (((rd_T53 l0_0 (ji5)).f0.f0) - ((rd_T53 l0_0 a1).f0.f0))), .int .i64 (wrap64 (((rd_T53 l0_0 (ji5)).f0.f1) - ((rd_T53 l0_0 a1).f0.f1)))] (0, 0) _ rfl (by (with_reducible repeat first | apply kN | apply kD | apply kA); refine blk_put (cs := #[.int .i64 (wrap64 (((rd_T53 l0_0 (ji5)).f0.f0) - ((rd_T53 l0_0 a1).f0.f0))), .int .i64 0]) ?_ 1 _ rfl; (with_reducible repeat first | apply kN | apply kD | apply kA); refine blk_put (cs := #[.int .i64 0, .int .i64 0]) ?_ 0 _ rfl; (with_reducible repeat first | apply kN | apply kD | apply kA); refine blk_far ?_ NB270_274.out _; (with_reducible repeat first | apply kN | apply kD | apply kA); refine blk_far ?_ NB270_274.out _; (with_reducible repeat first | apply kN | apply kD | apply kA); refine blk_far ?_ NB270_273.out _; (with_reducible repeat first | apply kN | apply kD | apply kA); refine blk_far ?_ NB270_273.out _; (with_reducible repeat first | apply kN | apply kD | apply kA); exact BK270.out) Try.underlying35 rfl qz) rfl ?_
  exact ⟨by first | rfl | (simp [errW_none, errW_some] <;> rfl) | (simp only [← hji5]; first | rfl | (simp [errW_none, errW_some] <;> rfl)) | (simp [*, errW_none, errW_some] <;> rfl), bz⟩
 ·
  rw [if_neg c3] at H
  exact absurd H (by simp)

end Go.Proofs.Ytmdmajfgpmopbaa.X
