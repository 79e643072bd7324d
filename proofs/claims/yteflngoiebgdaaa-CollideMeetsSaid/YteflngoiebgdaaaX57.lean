import Derived.Test.YteflngoiebgdaaaX0
namespace Go.Proofs.Yteflngoiebgdaaa.X
open Go.RowKit YteflngoiebgdaaaW.PrintWords YteflngoiebgdaaaW.PrintLast YteflngoiebgdaaaW.PrintMore
attribute [local go_sem] max2_int min2_int max_two min_two max_three min_three max_four min_four
set_option linter.unusedVariables false
set_option linter.unusedSimpArgs false

/-! ### dancestudioref44_way: function 57 -/
def dancestudioref44_way.f (l0_0 : List (S54)) (l0_1 : List Int) (a1 a2 : Int) : Option (Int × Int × Int × Int × Int) := if 0 ≤ a1 then (if a1 < (l0_0.length : Int) then (if 0 ≤ (wrap64 (a1 + 1)) then (if (wrap64 (a1 + 1)) < (l0_0.length : Int) then (some ((rd_T54 l0_0 a1).f0.f0, (rd_T54 l0_0 a1).f0.f1, (rd_T54 l0_0 (wrap64 (a1 + 1))).f0.f0, (rd_T54 l0_0 (wrap64 (a1 + 1))).f0.f1, a2)) else (none)) else (none)) else (none)) else (none)
def dancestudioref44_way.T1 : Bool × List (List Nat × List Nat) := (true, [([], []), ([0], [0]), ([], []), ([1, 2], [1, 2]), ([3], [3]), ([4], [4]), ([], []), ([6], [6]), ([], []), ([8], [8]), ([7, 9], [7, 9]), ([10], [10]), ([11], [11]), ([], []), ([5, 12, 13], [5, 12, 13]), ([14, 0, 1, 2, 3, 4, 5, 6, 7, 8, 9, 10, 11, 12, 13, 14], [14])])
def dancestudioref44_way.B1 : List Nat := [0, 1, 0, 7, 15, 31, 0, 64, 0, 256, 960, 1984, 4032, 0, 16383, 32767]
theorem dancestudioref44_way.tab1 : rtab .any (opsOf Try.f57 1) = dancestudioref44_way.T1 := by kernel_rfl
theorem dancestudioref44_way.bits1 : waitsOk dancestudioref44_way.T1.2 dancestudioref44_way.B1 = true := by kernel_rfl
set_option maxHeartbeats 8000000 in
set_option maxRecDepth 100000 in
theorem dancestudioref44_way.calls (A0_0 : Option Addr) (c0_0 : Nat) (l0_0 : List (S54)) (A0_1 : Option Addr) (c0_1 : Nat) (l0_1 : List Int) (a1 a2 r1 r2 r3 r4 r5 : Int) (w : World) (hr0_0 : Kd.C k54 w A0_0 l0_0.length l0_0) (hc0_0 : l0_0.length ≤ c0_0) (hr0_1 : Kd.C (Kd.int .i64) w A0_1 l0_1.length l0_1) (hc0_1 : l0_1.length ≤ c0_1) (h : dancestudioref44_way.f l0_0 l0_1 a1 a2 = some (r1, r2, r3, r4, r5)) :
  Calls Try.prog 57 #[.agg #[.slice A0_0 l0_0.length c0_0, .slice A0_1 l0_1.length c0_1], .int .i64 a1, .int .i64 a2] w fun e w' => e = .returned (.agg #[.int .i64 r1, .int .i64 r2, .int .i64 r3, .int .i64 r4, .int .i64 r5]) ∧ Below w.heap.size w w' := by
 have hu43 := Try.underlying43
 have hu72 := Try.underlying72
 have hu49 := Try.underlying49
 have HR0_0 := am hr0_0
 have HC0_0 := am hc0_0
 clear hr0_0 hc0_0
 have HR0_1 := am hr0_1
 have HC0_1 := am hc0_1
 clear hr0_1 hc0_1
 have HB := am (Below.refl w.heap.size w)
 have H : (if 0 ≤ a1 then (if a1 < (l0_0.length : Int) then (if 0 ≤ (wrap64 (a1 + 1)) then (if (wrap64 (a1 + 1)) < (l0_0.length : Int) then (some ((rd_T54 l0_0 a1).f0.f0, (rd_T54 l0_0 a1).f0.f1, (rd_T54 l0_0 (wrap64 (a1 + 1))).f0.f0, (rd_T54 l0_0 (wrap64 (a1 + 1))).f0.f1, a2)) else (none)) else (none)) else (none)) else (none)) = some (r1, r2, r3, r4, r5) := h
 clear h
 by_cases c4 : 0 ≤ a1
 ·
  rw [if_pos c4] at H
  have c4b0 := decide_eq_true c4
  clear c4
  by_cases c5 : a1 < (l0_0.length : Int); rotate_left
  · rw [if_neg c5] at H; exact absurd H (by simp)
  rw [if_pos c5] at H
  have c5b0 := decide_eq_true c5
  clear c5
  obtain ⟨ji6, hji6⟩ : ∃ j_ : Int, (wrap64 (a1 + 1)) = j_ := ⟨_, rfl⟩
  replace H : (if 0 ≤ (ji6) then (if (ji6) < (l0_0.length : Int) then (some ((rd_T54 l0_0 a1).f0.f0, (rd_T54 l0_0 a1).f0.f1, (rd_T54 l0_0 (ji6)).f0.f0, (rd_T54 l0_0 (ji6)).f0.f1, a2)) else (none)) else (none)) = some (r1, r2, r3, r4, r5) := by first | (rw [hji6] at H; exact H) | (simp only [hji6] at H ⊢; exact H)
  have hji6w : (IntKind.i64.wrap (a1 + 1)) = ji6 := (i64_w _).trans hji6
  by_cases c7 : 0 ≤ (ji6); rotate_left
  · rw [if_neg c7] at H; exact absurd H (by simp)
  rw [if_pos c7] at H
  have c7b0 := decide_eq_true c7
  clear c7
  by_cases c8 : (ji6) < (l0_0.length : Int); rotate_left
  · rw [if_neg c8] at H; exact absurd H (by simp)
  rw [if_pos c8] at H
  have c8b0 := decide_eq_true c8
  clear c8
  simp only [Option.some.injEq, Prod.mk.injEq] at H
  obtain ⟨rfl, rfl, rfl, rfl, rfl⟩ := H
  go_enter Try.func57, Try.ntmps57
  try go_wp2_with (first | ((with_reducible refine gate_dst (N := 3) rfl ?_); refine box_event yz (N := 3) yz (cs := #[.slice A0_0 l0_0.length c0_0, .slice A0_1 l0_1.length c0_1]) (t := 43) gz ?_; intro gb482 hg w9 hbox hb; have BK482 := am (hbox); have GW482 := gwz (g := gb482) HB hg; have GE482 := GW482; replace HB := am (below_step bz hb); clear hb hbox hg) | ((with_reducible refine gate_dst (N := 6) rfl ?_); refine box_event yz (N := 6) yz (cs := #[.int .i64 0, .int .i64 0, .int .i64 0, .int .i64 0, .int .i64 0]) (t := 72) gz ?_; intro gb483 hg w10 hbox hb; have BK483 := am (hbox); have GW483 := gwz (g := gb483) HB hg; have GE483 := GW483; replace HB := am (below_step bz hb); have NB482_483 := nlt (g' := gb483) BK482 hg; have NB483_482 := ngt (g' := gb483) BK482 hg; replace BK482 := am (blk_below (o := .cells #[.slice A0_0 l0_0.length c0_0, .slice A0_1 l0_1.length c0_1] 43 (0, 0)) (kz BK482) hb); clear hb hbox hg))
  have n0_ := am (blk_drew BK482.out)
  have n1_ := am (blk_drew BK483.out)
  have n2_ := am (below_drew1 HB.out)
  clear BK482
  clear BK483
  clear HB
  have BK482 := n0_
  have BK483 := n1_
  have HB := n2_
  clear n0_ n1_ n2_
  have p484 : 0 ≤ (a1 : Int) := az
  have q484 : a1 < (l0_0.length : Int) := az
  obtain ⟨ad484, e484, hx484_0, hx484_1, _, _, _, _, _, _, _, _, _, _, _, _, _, _, _, _, _, _, _, _⟩ := at_T54 HR0_0.out a1 p484 q484
  have hw484_1 := hx484_1
  have hw484_0 := hx484_0
  cases e484
  replace hx484_0 := cb HB.out hx484_0
  replace hx484_1 := cb HB.out hx484_1
  replace p484 := eq_true p484
  replace q484 := eq_true q484
  have p485 : 0 ≤ ((ji6) : Int) := az
  have q485 : (ji6) < (l0_0.length : Int) := az
  obtain ⟨ad485, e485, hx485_0, hx485_1, _, _, _, _, _, _, _, _, _, _, _, _, _, _, _, _, _, _, _, _⟩ := at_T54 HR0_0.out (ji6) p485 q485
  have hw485_1 := hx485_1
  have hw485_0 := hx485_0
  obtain rfl : ad484 = ad485 := (by injection e485)
  replace hx485_0 := cb HB.out hx485_0
  replace hx485_1 := cb HB.out hx485_1
  replace p485 := eq_true p485
  replace q485 := eq_true q485
  refine start_ (n := 16) (S := fun w' => w'.cell? ⟨gb482, 0, none⟩ = some (.slice (some ad484) l0_0.length c0_0) ∧ w'.cell? ⟨gb482, 1, none⟩ = some (.slice A0_1 l0_1.length c0_1) ∧ w'.cell? (ad484.add ((a1).toNat * 22)) = some (.int .i64 ((rd_T54 l0_0 a1).f0.f0)) ∧ w'.cell? ⟨(ad484.add ((a1).toNat * 22)).block, (ad484.add ((a1).toNat * 22)).off + 1, none⟩ = some (.int .i64 ((rd_T54 l0_0 a1).f0.f1)) ∧ w'.cell? (ad484.add (((ji6)).toNat * 22)) = some (.int .i64 ((rd_T54 l0_0 (ji6)).f0.f0)) ∧ w'.cell? ⟨(ad484.add (((ji6)).toNat * 22)).block, (ad484.add (((ji6)).toNat * 22)).off + 1, none⟩ = some (.int .i64 ((rd_T54 l0_0 (ji6)).f0.f1))) (ds := []) (bm 16 0) qz rfl rfl ⟨(blk_cell BK482.out 0).trans rfl, (blk_cell BK482.out 1).trans rfl, (cb HB.out hw484_0), (cb HB.out hw484_1), (cb HB.out hw485_0), (cb HB.out hw485_1)⟩ (fun hHeld => ?_); refine with_tabW dancestudioref44_way.tab1 dancestudioref44_way.bits1 (fun HT_ HW_ => ?_)
  generalize w10.drew = w11 at BK482 BK483 HB hx484_0 hx484_1 hx485_0 hx485_1 hHeld ⊢
  refine pa (i := 0) (N := some 7) (bm 16 1) HT_ ?_
  refine pa (i := 2) (N := some 9) (bm 16 5) HT_ ?_
  refine pa (i := 6) (N := some 13) (bm 16 69) HT_ ?_
  refine pa (i := 8) (N := some 15) (bm 16 325) HT_ ?_
  refine pa (i := 9) (N := some 16) (bm 16 837) HT_ ?_
  refine pa (i := 13) (N := some 20) (bm 16 9029) HT_ ?_
  refine take_ (i := 1) (N := some 8) (v := ?_) (a' := ?_) (bm 16 9031) rfl rfl (take_ofW HT_.out HW_.out qz) iz (Or.inl ⟨by rfl, ?_⟩) hHeld ?_ ?_
  rotate_left
  ·
   rintro w' ⟨s0, s1, s2, s3, s4, s5⟩
   go_simp
   with_reducible rfl
  rotate_left
  ·
   simp only [Act.put, aS, lZ, lS, i64_w, i32_w]
   rfl
  refine pa (i := 3) (N := some 10) (bm 16 9039) HT_ ?_
  refine pa (i := 4) (N := some 11) (bm 16 9055) HT_ ?_
  refine take_ (i := 5) (N := some 12) (v := ?_) (a' := ?_) (bm 16 9087) rfl rfl (take_ofW HT_.out HW_.out qz) iz (Or.inl ⟨by rfl, ?_⟩) hHeld ?_ ?_
  rotate_left
  ·
   rintro w' ⟨s0, s1, s2, s3, s4, s5⟩
   go_simp
   with_reducible rfl
  rotate_left
  ·
   simp only [Act.put, aS, lZ, lS, i64_w, i32_w]
   rfl
  refine take_ (i := 7) (N := some 14) (v := ?_) (a' := ?_) (bm 16 9215) rfl rfl (take_ofW HT_.out HW_.out qz) iz (Or.inl ⟨by rfl, ?_⟩) hHeld ?_ ?_
  rotate_left
  ·
   rintro w' ⟨s0, s1, s2, s3, s4, s5⟩
   go_simp
   with_reducible rfl
  rotate_left
  ·
   simp only [Act.put, aS, lZ, lS, i64_w, i32_w]
   rfl
  refine pa (i := 10) (N := some 17) (bm 16 10239) HT_ ?_
  refine pa (i := 11) (N := some 18) (bm 16 12287) HT_ ?_
  refine take_ (i := 12) (N := some 19) (v := ?_) (a' := ?_) (bm 16 16383) rfl rfl (take_ofW HT_.out HW_.out qz) iz (Or.inl ⟨by rfl, ?_⟩) hHeld ?_ ?_
  rotate_left
  ·
   rintro w' ⟨s0, s1, s2, s3, s4, s5⟩
   go_simp
   with_reducible rfl
  rotate_left
  ·
   simp only [Act.put, aS, lZ, lS, i64_w, i32_w]
   rfl
  refine pa (i := 14) (N := some 21) (bm 16 32767) HT_ ?_
  refine one_ (i := 15) (N := none) (bm 16 65535) rfl rfl (one_of HT_.out qz) (by decide) (fun K hK => ?_)
  have hs12 : w11.cell? ⟨gb483, 0, none⟩ = some (.int .i64 0) := (blk_cell BK483.out 0).trans rfl
  have hfs12 := blk_frozen BK483.out 0
  have hns12_0 := NB482_483.out
  have hms12_0 := NB483_482.out
  have hs13 : w11.cell? ⟨gb483, 1, none⟩ = some (.int .i64 0) := (blk_cell BK483.out 1).trans rfl
  have hfs13 := blk_frozen BK483.out 1
  have hns13_0 := NB482_483.out
  have hms13_0 := NB483_482.out
  have hs14 : w11.cell? ⟨gb483, 2, none⟩ = some (.int .i64 0) := (blk_cell BK483.out 2).trans rfl
  have hfs14 := blk_frozen BK483.out 2
  have hns14_0 := NB482_483.out
  have hms14_0 := NB483_482.out
  have hs15 : w11.cell? ⟨gb483, 3, none⟩ = some (.int .i64 0) := (blk_cell BK483.out 3).trans rfl
  have hfs15 := blk_frozen BK483.out 3
  have hns15_0 := NB482_483.out
  have hms15_0 := NB483_482.out
  have hs16 : w11.cell? ⟨gb483, 4, none⟩ = some (.int .i64 0) := (blk_cell BK483.out 4).trans rfl
  have hfs16 := blk_frozen BK483.out 4
  have hns16_0 := NB482_483.out
  have hms16_0 := NB483_482.out
  refine skip_ (w1 := ?_) (by rfl) rfl ?_ ?_
  rotate_left
  ·
   go_simp
   rfl
  refine hK.out _ _ ⟨((cell_far (p := ⟨gb483, _, none⟩) NB482_483.out _).trans (((cell_far (p := ⟨gb483, _, none⟩) NB482_483.out _).trans (((cell_far (p := ⟨gb483, _, none⟩) NB482_483.out _).trans (((cell_far (p := ⟨gb483, _, none⟩) NB482_483.out _).trans (((cell_far (p := ⟨gb483, _, none⟩) NB482_483.out _).trans (hHeld.1)))))))))), ((cell_far (p := ⟨gb483, _, none⟩) NB482_483.out _).trans (((cell_far (p := ⟨gb483, _, none⟩) NB482_483.out _).trans (((cell_far (p := ⟨gb483, _, none⟩) NB482_483.out _).trans (((cell_far (p := ⟨gb483, _, none⟩) NB482_483.out _).trans (((cell_far (p := ⟨gb483, _, none⟩) NB482_483.out _).trans (hHeld.2.1)))))))))), ((cell_far (p := ⟨gb483, _, none⟩) (by first | exact nb hw484_0 GW483.out | exact nc hw484_0 GW483.out | exact nd hw484_0 GW483.out) _).trans (((cell_far (p := ⟨gb483, _, none⟩) (by first | exact nb hw484_0 GW483.out | exact nc hw484_0 GW483.out | exact nd hw484_0 GW483.out) _).trans (((cell_far (p := ⟨gb483, _, none⟩) (by first | exact nb hw484_0 GW483.out | exact nc hw484_0 GW483.out | exact nd hw484_0 GW483.out) _).trans (((cell_far (p := ⟨gb483, _, none⟩) (by first | exact nb hw484_0 GW483.out | exact nc hw484_0 GW483.out | exact nd hw484_0 GW483.out) _).trans (((cell_far (p := ⟨gb483, _, none⟩) (by first | exact nb hw484_0 GW483.out | exact nc hw484_0 GW483.out | exact nd hw484_0 GW483.out) _).trans (hHeld.2.2.1)))))))))), ((cell_far (p := ⟨gb483, _, none⟩) (by first | exact nb hw484_1 GW483.out | exact nc hw484_1 GW483.out | exact nd hw484_1 GW483.out) _).trans (((cell_far (p := ⟨gb483, _, none⟩) (by first | exact nb hw484_1 GW483.out | exact nc hw484_1 GW483.out | exact nd hw484_1 GW483.out) _).trans (((cell_far (p := ⟨gb483, _, none⟩) (by first | exact nb hw484_1 GW483.out | exact nc hw484_1 GW483.out | exact nd hw484_1 GW483.out) _).trans (((cell_far (p := ⟨gb483, _, none⟩) (by first | exact nb hw484_1 GW483.out | exact nc hw484_1 GW483.out | exact nd hw484_1 GW483.out) _).trans (((cell_far (p := ⟨gb483, _, none⟩) (by first | exact nb hw484_1 GW483.out | exact nc hw484_1 GW483.out | exact nd hw484_1 GW483.out) _).trans (hHeld.2.2.2.1)))))))))), ((cell_far (p := ⟨gb483, _, none⟩) (by first | exact nb hw485_0 GW483.out | exact nc hw485_0 GW483.out | exact nd hw485_0 GW483.out) _).trans (((cell_far (p := ⟨gb483, _, none⟩) (by first | exact nb hw485_0 GW483.out | exact nc hw485_0 GW483.out | exact nd hw485_0 GW483.out) _).trans (((cell_far (p := ⟨gb483, _, none⟩) (by first | exact nb hw485_0 GW483.out | exact nc hw485_0 GW483.out | exact nd hw485_0 GW483.out) _).trans (((cell_far (p := ⟨gb483, _, none⟩) (by first | exact nb hw485_0 GW483.out | exact nc hw485_0 GW483.out | exact nd hw485_0 GW483.out) _).trans (((cell_far (p := ⟨gb483, _, none⟩) (by first | exact nb hw485_0 GW483.out | exact nc hw485_0 GW483.out | exact nd hw485_0 GW483.out) _).trans (hHeld.2.2.2.2.1)))))))))), ((cell_far (p := ⟨gb483, _, none⟩) (by first | exact nb hw485_1 GW483.out | exact nc hw485_1 GW483.out | exact nd hw485_1 GW483.out) _).trans (((cell_far (p := ⟨gb483, _, none⟩) (by first | exact nb hw485_1 GW483.out | exact nc hw485_1 GW483.out | exact nd hw485_1 GW483.out) _).trans (((cell_far (p := ⟨gb483, _, none⟩) (by first | exact nb hw485_1 GW483.out | exact nc hw485_1 GW483.out | exact nd hw485_1 GW483.out) _).trans (((cell_far (p := ⟨gb483, _, none⟩) (by first | exact nb hw485_1 GW483.out | exact nc hw485_1 GW483.out | exact nd hw485_1 GW483.out) _).trans (((cell_far (p := ⟨gb483, _, none⟩) (by first | exact nb hw485_1 GW483.out | exact nc hw485_1 GW483.out | exact nd hw485_1 GW483.out) _).trans (hHeld.2.2.2.2.2))))))))))⟩ (fun hHeld => ?_)
  clear hK K
  refine done_ (done_of HT_.out qz) ?_
  try go_wp2
  refine bodyPost_ret (results_cell_row rfl _ _ gb483 72 #[.int .i64 ((rd_T54 l0_0 a1).f0.f0), .int .i64 ((rd_T54 l0_0 a1).f0.f1), .int .i64 ((rd_T54 l0_0 (ji6)).f0.f0), .int .i64 ((rd_T54 l0_0 (ji6)).f0.f1), .int .i64 a2] (0, 0) _ rfl (by (with_reducible repeat first | apply kN | apply kD | apply kA); refine blk_put (cs := #[.int .i64 ((rd_T54 l0_0 a1).f0.f0), .int .i64 ((rd_T54 l0_0 a1).f0.f1), .int .i64 ((rd_T54 l0_0 (ji6)).f0.f0), .int .i64 ((rd_T54 l0_0 (ji6)).f0.f1), .int .i64 0]) ?_ 4 _ rfl; (with_reducible repeat first | apply kN | apply kD | apply kA); refine blk_put (cs := #[.int .i64 ((rd_T54 l0_0 a1).f0.f0), .int .i64 ((rd_T54 l0_0 a1).f0.f1), .int .i64 ((rd_T54 l0_0 (ji6)).f0.f0), .int .i64 0, .int .i64 0]) ?_ 3 _ rfl; (with_reducible repeat first | apply kN | apply kD | apply kA); refine blk_put (cs := #[.int .i64 ((rd_T54 l0_0 a1).f0.f0), .int .i64 ((rd_T54 l0_0 a1).f0.f1), .int .i64 0, .int .i64 0, .int .i64 0]) ?_ 2 _ rfl; (with_reducible repeat first | apply kN | apply kD | apply kA); refine blk_put (cs := #[.int .i64 ((rd_T54 l0_0 a1).f0.f0), .int .i64 0, .int .i64 0, .int .i64 0, .int .i64 0]) ?_ 1 _ rfl; (with_reducible repeat first | apply kN | apply kD | apply kA); refine blk_put (cs := #[.int .i64 0, .int .i64 0, .int .i64 0, .int .i64 0, .int .i64 0]) ?_ 0 _ rfl; (with_reducible repeat first | apply kN | apply kD | apply kA); exact BK483.out) Try.underlying72 rfl qz) rfl ?_
  exact ⟨by first | rfl | (simp [errW_none, errW_some] <;> rfl) | (simp only [← hji6]; first | rfl | (simp [errW_none, errW_some] <;> rfl)) | (simp [*, errW_none, errW_some] <;> rfl), bz⟩
 ·
  rw [if_neg c4] at H
  exact absurd H (by simp)

end Go.Proofs.Yteflngoiebgdaaa.X
