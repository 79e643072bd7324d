import Derived.Test.YtmdmajfgpmopbaaX0
import Derived.Test.YtmdmajfgpmopbaaX42
namespace Go.Proofs.Ytmdmajfgpmopbaa.X
open Go.RowKit YtmdmajfgpmopbaaW.PrintWords YtmdmajfgpmopbaaW.PrintLast YtmdmajfgpmopbaaW.PrintMore
attribute [local go_sem] max2_int min2_int max_two min_two max_three min_three max_four min_four
set_option linter.unusedVariables false
set_option linter.unusedSimpArgs false

/-! ### dancestudioref43_Box: function 16 -/
def dancestudioref43_Box.l0 : Nat → Int → List (S53) → List Int → Int → Int → Int → Int → Option (Int × Int × Int × Int × Int)
 | 0, _, _, _, _, _, _, _ => none
 | k + 1, x8, x309000, x309001, x315000, x315001, x316000, x316001 => if x8 < (x309000.length : Int) then (if 0 ≤ x8 then (dancestudioref43_Box.l0 k (wrap64 (x8 + 1)) x309000 x309001 (mn x315000 ((rd_T53 x309000 x8).f0.f0)) (mn x315001 ((rd_T53 x309000 x8).f0.f1)) (mx x316000 ((rd_T53 x309000 x8).f0.f0)) (mx x316001 ((rd_T53 x309000 x8).f0.f1))) else (none)) else (some (x315000, x315001, x316000, x316001, 0))
def dancestudioref43_Box.f (k : Nat) (l0_0 : List (S53)) (l0_1 : List Int) : Option (Int × Int × Int × Int × Int) := (dancestudioref29_Check.f k l0_0 l0_1).bind fun t311 => (if t311 = 0 then (if 0 < (l0_0.length : Int) then (dancestudioref43_Box.l0 k 0 l0_0 l0_1 ((rd_T53 l0_0 0).f0.f0) ((rd_T53 l0_0 0).f0.f1) ((rd_T53 l0_0 0).f0.f0) ((rd_T53 l0_0 0).f0.f1)) else (none)) else (some (0, 0, 0, 0, t311)))
theorem dancestudioref43_Box.mono_l : ∀ k, (∀ y0 y1 y2 y3 y4 y5 y6, LeO (dancestudioref43_Box.l0 k y0 y1 y2 y3 y4 y5 y6) (dancestudioref43_Box.l0 (k + 1) y0 y1 y2 y3 y4 y5 y6))
 | 0 => fun _ _ _ _ _ _ _ r h => by simp [dancestudioref43_Box.l0] at h
 | k + 1 => by
  have ih0 := dancestudioref43_Box.mono_l k
  ·
   intro y0 y1 y2 y3 y4 y5 y6
   unfold dancestudioref43_Box.l0
   repeat' first
   | (with_reducible exact ih0 _ _ _ _ _ _ _)
   | (with_reducible exact dancestudioref29_Check.mono _ _ _)
   | (with_reducible exact LeO.refl _)
   | (with_reducible exact LeO.none _)
   | (with_reducible refine LeO.ite ?_ ?_)
   | (with_reducible refine LeO.bind ?_ (fun _ => ?_))
   | exact ih0 _ _ _ _ _ _ _
   | exact dancestudioref29_Check.mono _ _ _
   | exact LeO.none _
   | refine LeO.ite ?_ ?_
   | refine LeO.bind ?_ (fun _ => ?_)
theorem dancestudioref43_Box.mono : ∀ a0 a1 k, LeO (dancestudioref43_Box.f k a0 a1) (dancestudioref43_Box.f (k + 1) a0 a1) := by
 intro a0 a1 k
 have ih0 := dancestudioref43_Box.mono_l k
 unfold dancestudioref43_Box.f
 repeat' first
   | (with_reducible exact ih0 _ _ _ _ _ _ _)
   | (with_reducible exact dancestudioref29_Check.mono _ _ _)
   | (with_reducible exact LeO.refl _)
   | (with_reducible exact LeO.none _)
   | (with_reducible refine LeO.ite ?_ ?_)
   | (with_reducible refine LeO.bind ?_ (fun _ => ?_))
   | exact ih0 _ _ _ _ _ _ _
   | exact dancestudioref29_Check.mono _ _ _
   | exact LeO.none _
   | refine LeO.ite ?_ ?_
   | refine LeO.bind ?_ (fun _ => ?_)
def dancestudioref43_Box.T4 : Bool × List (List Nat × List Nat) := (true, [([], []), ([0], [0]), ([1], [1]), ([2], [2]), ([3], [3]), ([], []), ([5], [5]), ([6], [6]), ([7], [7]), ([8], [8]), ([], []), ([], []), ([10, 4, 0, 1, 2, 3, 4, 10, 11], [4, 10]), ([11, 9, 12, 0, 1, 2, 3, 4, 5, 6, 7, 8, 9, 10, 11, 12], [9, 11])])
def dancestudioref43_Box.B4 : List Nat := [0, 1, 3, 7, 15, 0, 32, 96, 224, 480, 0, 0, 3103, 8191]
theorem dancestudioref43_Box.tab4 : rtab .any (opsOf Try.f16 4) = dancestudioref43_Box.T4 := by kernel_rfl
theorem dancestudioref43_Box.bits4 : waitsOk dancestudioref43_Box.T4.2 dancestudioref43_Box.B4 = true := by kernel_rfl
set_option maxHeartbeats 8000000 in
set_option maxRecDepth 100000 in
theorem dancestudioref43_Box.calls (k : Nat) (A0_0 : Option Addr) (c0_0 : Nat) (l0_0 : List (S53)) (A0_1 : Option Addr) (c0_1 : Nat) (l0_1 : List Int) (r1 r2 r3 r4 r5 : Int) (w : World) (hr0_0 : Kd.C k53 w A0_0 l0_0.length l0_0) (hc0_0 : l0_0.length ≤ c0_0) (hr0_1 : Kd.C (Kd.int .i64) w A0_1 l0_1.length l0_1) (hc0_1 : l0_1.length ≤ c0_1) (h : dancestudioref43_Box.f k l0_0 l0_1 = some (r1, r2, r3, r4, r5)) :
  Calls Try.prog 16 #[.agg #[.slice A0_0 l0_0.length c0_0, .slice A0_1 l0_1.length c0_1]] w fun e w' => e = .returned (.tuple #[.agg #[.int .i64 r1, .int .i64 r2], .agg #[.int .i64 r3, .int .i64 r4], .int .i64 r5]) ∧ Below w.heap.size w w' := by
 have hu25 := Try.underlying25
 have hu35 := Try.underlying35
 have HR0_0 := am hr0_0
 have HC0_0 := am hc0_0
 clear hr0_0 hc0_0
 have HR0_1 := am hr0_1
 have HC0_1 := am hc0_1
 clear hr0_1 hc0_1
 have HB := am (Below.refl w.heap.size w)
 have H : ((dancestudioref29_Check.f k l0_0 l0_1).bind fun t311 => (if t311 = 0 then (if 0 < (l0_0.length : Int) then (dancestudioref43_Box.l0 k 0 l0_0 l0_1 ((rd_T53 l0_0 0).f0.f0) ((rd_T53 l0_0 0).f0.f1) ((rd_T53 l0_0 0).f0.f0) ((rd_T53 l0_0 0).f0.f1)) else (none)) else (some (0, 0, 0, 0, t311)))) = some (r1, r2, r3, r4, r5) := h
 clear h
 replace H := Option.bind_eq_some_iff.mp H
 obtain ⟨t311, A20, H⟩ := H
 replace H : (if t311 = 0 then (if 0 < (l0_0.length : Int) then (dancestudioref43_Box.l0 k 0 l0_0 l0_1 ((rd_T53 l0_0 0).f0.f0) ((rd_T53 l0_0 0).f0.f1) ((rd_T53 l0_0 0).f0.f0) ((rd_T53 l0_0 0).f0.f1)) else (none)) else (some (0, 0, 0, 0, t311))) = some (r1, r2, r3, r4, r5) := H
 have A2 := am A20
 clear A20
 by_cases c3 : t311 = 0
 ·
  rw [if_pos c3] at H
  have c3b0 : (t311 == 0) = true := beq_iff_eq.mpr c3
  have c3b1 : (t311 != 0) = false := bne_eq_false_iff_eq.mpr c3
  clear c3
  by_cases c4 : 0 < (l0_0.length : Int); rotate_left
  · rw [if_neg c4] at H; exact absurd H (by simp)
  rw [if_pos c4] at H
  have c4b0 := decide_eq_true c4
  have c4b1 : decide (0 < l0_0.length) = true := decide_eq_true (by omega)
  clear c4
  have H' := am H
  clear H
  go_enter Try.func16, Try.ntmps16
  try go_wp2_with (first | ((with_reducible refine gate_dst (N := 1) rfl ?_); refine box_event yz (N := 1) yz (cs := #[.slice A0_0 l0_0.length c0_0, .slice A0_1 l0_1.length c0_1]) (t := 25) gz ?_; intro gb308 hg w5 hbox hb; have BK308 := am (hbox); have GW308 := gwz (g := gb308) HB hg; have GE308 := GW308; replace HB := am (below_step bz hb); clear hb hbox hg) | ((with_reducible refine gate_dst (N := 2) rfl ?_); refine box_event yz (N := 2) yz (cs := #[.int .i64 0, .int .i64 0]) (t := 35) gz ?_; intro gb309 hg w6 hbox hb; have BK309 := am (hbox); have GW309 := gwz (g := gb309) HB hg; have GE309 := GW309; replace HB := am (below_step bz hb); have NB308_309 := nlt (g' := gb309) BK308 hg; have NB309_308 := ngt (g' := gb309) BK308 hg; replace BK308 := am (blk_below (o := .cells #[.slice A0_0 l0_0.length c0_0, .slice A0_1 l0_1.length c0_1] 25 (0, 0)) (kz BK308) hb); clear hb hbox hg) | ((with_reducible refine gate_dst (N := 3) rfl ?_); refine box_event yz (N := 3) yz (cs := #[.int .i64 0, .int .i64 0]) (t := 35) gz ?_; intro gb310 hg w7 hbox hb; have BK310 := am (hbox); have GW310 := gwz (g := gb310) HB hg; have GE310 := GW310; replace HB := am (below_step bz hb); have NB308_310 := nlt (g' := gb310) BK308 hg; have NB310_308 := ngt (g' := gb310) BK308 hg; replace BK308 := am (blk_below (o := .cells #[.slice A0_0 l0_0.length c0_0, .slice A0_1 l0_1.length c0_1] 25 (0, 0)) (kz BK308) hb); have NB309_310 := nlt (g' := gb310) BK309 hg; have NB310_309 := ngt (g' := gb310) BK309 hg; replace BK309 := am (blk_below (o := .cells #[.int .i64 0, .int .i64 0] 35 (0, 0)) (kz BK309) hb); clear hb hbox hg; have hnb8 := NB308_309.out; have hnc8 := NB309_308.out; have hnb9 := NB308_310.out; have hnc9 := NB310_308.out; obtain ⟨hcz10_0, hcz10_1, hfz10_0, hfz10_1⟩ := kc2 BK308.out) | ((with_reducible refine gate_callee (f := 28) rfl ?_); refine goesL_ (some 11) rfl rfl Try.func28 qz rfl #[.agg #[.slice A0_0 l0_0.length c0_0, .slice A0_1 l0_1.length c0_1]] rfl mz ?_; (with_reducible refine (dancestudioref29_Check.calls k _ _ l0_0 _ _ l0_1 t311 _ ?side1 ?side2 ?side3 ?side4 A2.out).mono ?_); (case side1 => exact cz HR0_0); (case side2 => exact HC0_0.out); (case side3 => exact cz HR0_1); (case side4 => exact HC0_1.out); rintro e w11 ⟨rfl, hb⟩; refine ⟨_, rfl, ?_⟩; replace BK308 := am (blk_below (o := .cells #[.slice A0_0 l0_0.length c0_0, .slice A0_1 l0_1.length c0_1] 25 (0, 0)) (kz BK308) hb); replace BK309 := am (blk_below (o := .cells #[.int .i64 0, .int .i64 0] 35 (0, 0)) (kz BK309) hb); replace BK310 := am (blk_below (o := .cells #[.int .i64 0, .int .i64 0] 35 (0, 0)) (kz BK310) hb); replace HB := am (below_step bz hb); (try clear hb); (try clear hb2); (try clear hk); (try clear hi)))
  have n0_ := am (blk_drew BK308.out)
  have n1_ := am (blk_drew BK309.out)
  have n2_ := am (blk_drew BK310.out)
  have n3_ := am (below_drew1 HB.out)
  clear BK308
  clear BK309
  clear BK310
  clear HB
  have BK308 := n0_
  have BK309 := n1_
  have BK310 := n2_
  have HB := n3_
  clear n0_ n1_ n2_ n3_
  have p312 : 0 ≤ (0 : Int) := (by omega)
  have q312 : 0 < (l0_0.length : Int) := az
  obtain ⟨ad312, e312, hx312_0, hx312_1, _, _, _, _, _, _, _, _, _, _, _, _, _, _, _, _, _, _, _, _⟩ := at_T53 HR0_0.out 0 p312 q312
  have hw312_1 := hx312_1
  (try rw [show ((0 : Int)).toNat = 0 from rfl] at hw312_1)
  (try rw [show 0 * 22 = 0 from rfl] at hw312_1)
  (try rw [Addr.add_zero'] at hw312_1)
  have hw312_0 := hx312_0
  (try rw [show ((0 : Int)).toNat = 0 from rfl] at hw312_0)
  (try rw [show 0 * 22 = 0 from rfl] at hw312_0)
  (try rw [Addr.add_zero'] at hw312_0)
  cases e312
  have qi312 : (0 < l0_0.length) = True := eq_true (by omega)
  (try rw [show ((0 : Int)).toNat = 0 from rfl] at hx312_0)
  (try rw [show 0 * 22 = 0 from rfl] at hx312_0)
  (try rw [Addr.add_zero'] at hx312_0)
  (try rw [show ((0 : Int)).toNat = 0 from rfl] at hx312_1)
  (try rw [show 0 * 22 = 0 from rfl] at hx312_1)
  (try rw [Addr.add_zero'] at hx312_1)
  replace hx312_0 := cb HB.out hx312_0
  replace hx312_1 := cb HB.out hx312_1
  replace p312 := eq_true p312
  replace q312 := eq_true q312
  have p313 : 0 ≤ (0 : Int) := (by omega)
  have q313 : 0 < (l0_0.length : Int) := az
  obtain ⟨ad313, e313, hx313_0, hx313_1, _, _, _, _, _, _, _, _, _, _, _, _, _, _, _, _, _, _, _, _⟩ := at_T53 HR0_0.out 0 p313 q313
  have hw313_1 := hx313_1
  (try rw [show ((0 : Int)).toNat = 0 from rfl] at hw313_1)
  (try rw [show 0 * 22 = 0 from rfl] at hw313_1)
  (try rw [Addr.add_zero'] at hw313_1)
  have hw313_0 := hx313_0
  (try rw [show ((0 : Int)).toNat = 0 from rfl] at hw313_0)
  (try rw [show 0 * 22 = 0 from rfl] at hw313_0)
  (try rw [Addr.add_zero'] at hw313_0)
  obtain rfl : ad312 = ad313 := (by injection e313)
  have qi313 : (0 < l0_0.length) = True := eq_true (by omega)
  (try rw [show ((0 : Int)).toNat = 0 from rfl] at hx313_0)
  (try rw [show 0 * 22 = 0 from rfl] at hx313_0)
  (try rw [Addr.add_zero'] at hx313_0)
  (try rw [show ((0 : Int)).toNat = 0 from rfl] at hx313_1)
  (try rw [show 0 * 22 = 0 from rfl] at hx313_1)
  (try rw [Addr.add_zero'] at hx313_1)
  replace hx313_0 := cb HB.out hx313_0
  replace hx313_1 := cb HB.out hx313_1
  replace p313 := eq_true p313
  replace q313 := eq_true q313
  refine start_ (n := 14) (S := fun w' => w'.cell? ⟨gb308, 0, none⟩ = some (.slice (some ad312) l0_0.length c0_0) ∧ w'.cell? ⟨gb308, 1, none⟩ = some (.slice A0_1 l0_1.length c0_1) ∧ w'.cell? ad312 = some (.int .i64 ((rd_T53 l0_0 0).f0.f0)) ∧ w'.cell? ⟨ad312.block, ad312.off + 1, none⟩ = some (.int .i64 ((rd_T53 l0_0 0).f0.f1)) ∧ w'.cell? ad312 = some (.int .i64 ((rd_T53 l0_0 0).f0.f0)) ∧ w'.cell? ⟨ad312.block, ad312.off + 1, none⟩ = some (.int .i64 ((rd_T53 l0_0 0).f0.f1))) (ds := []) (bm 14 0) qz rfl rfl ⟨(blk_cell BK308.out 0).trans rfl, (blk_cell BK308.out 1).trans rfl, (cb HB.out hw312_0), (cb HB.out hw312_1), (cb HB.out hw313_0), (cb HB.out hw313_1)⟩ (fun hHeld => ?_); refine with_tabW dancestudioref43_Box.tab4 dancestudioref43_Box.bits4 (fun HT_ HW_ => ?_)
  generalize w11.drew = w12 at BK308 BK309 BK310 HB hx312_0 hx312_1 hx313_0 hx313_1 hHeld ⊢
  refine pa (i := 0) (N := some 17) (bm 14 1) HT_ ?_
  refine pa (i := 5) (N := some 22) (bm 14 33) HT_ ?_
  refine take_ (i := 1) (N := some 18) (v := ?_) (a' := ?_) (bm 14 35) rfl rfl (take_ofW HT_.out HW_.out qz) iz (Or.inl ⟨by rfl, ?_⟩) hHeld ?_ ?_
  rotate_left
  ·
   rintro w' ⟨s0, s1, s2, s3, s4, s5⟩
   go_simp
   with_reducible rfl
  rotate_left
  ·
   simp only [Act.put, aS, lZ, lS, i64_w, i32_w]
   rfl
  refine pa (i := 2) (N := some 19) (bm 14 39) HT_ ?_
  refine pa (i := 3) (N := some 20) (bm 14 47) HT_ ?_
  refine take_ (i := 4) (N := some 21) (v := ?_) (a' := ?_) (bm 14 63) rfl rfl (take_ofW HT_.out HW_.out qz) iz (Or.inl ⟨by rfl, ?_⟩) hHeld ?_ ?_
  rotate_left
  ·
   rintro w' ⟨s0, s1, s2, s3, s4, s5⟩
   go_simp
   with_reducible rfl
  rotate_left
  ·
   simp only [Act.put, aS, lZ, lS, i64_w, i32_w]
   rfl
  refine take_ (i := 6) (N := some 23) (v := ?_) (a' := ?_) (bm 14 127) rfl rfl (take_ofW HT_.out HW_.out qz) iz (Or.inl ⟨by rfl, ?_⟩) hHeld ?_ ?_
  rotate_left
  ·
   rintro w' ⟨s0, s1, s2, s3, s4, s5⟩
   go_simp
   with_reducible rfl
  rotate_left
  ·
   simp only [Act.put, aS, lZ, lS, i64_w, i32_w]
   rfl
  refine pa (i := 7) (N := some 24) (bm 14 255) HT_ ?_
  refine pa (i := 8) (N := some 25) (bm 14 511) HT_ ?_
  refine take_ (i := 9) (N := some 26) (v := ?_) (a' := ?_) (bm 14 1023) rfl rfl (take_ofW HT_.out HW_.out qz) iz (Or.inl ⟨by rfl, ?_⟩) hHeld ?_ ?_
  rotate_left
  ·
   rintro w' ⟨s0, s1, s2, s3, s4, s5⟩
   go_simp
   with_reducible rfl
  rotate_left
  ·
   simp only [Act.put, aS, lZ, lS, i64_w, i32_w]
   rfl
  refine join_ (σ := Nat × Nat) 2 (bm 14 4095) (fun s_ => [(6, .pointer (some ⟨s_.1, 0, none⟩)), (7, .pointer (some ⟨s_.2, 0, none⟩))]) (fun s_ w' => (w'.cell? ⟨gb308, 0, none⟩ = some (.slice (some ad312) l0_0.length c0_0) ∧ w'.cell? ⟨gb308, 1, none⟩ = some (.slice A0_1 l0_1.length c0_1) ∧ w'.cell? ad312 = some (.int .i64 ((rd_T53 l0_0 0).f0.f0)) ∧ w'.cell? ⟨ad312.block, ad312.off + 1, none⟩ = some (.int .i64 ((rd_T53 l0_0 0).f0.f1)) ∧ w'.cell? ad312 = some (.int .i64 ((rd_T53 l0_0 0).f0.f0)) ∧ w'.cell? ⟨ad312.block, ad312.off + 1, none⟩ = some (.int .i64 ((rd_T53 l0_0 0).f0.f1))) ∧ (w'.heap[gb308]? = some (.cells #[.slice (some ad312) l0_0.length c0_0, .slice A0_1 l0_1.length c0_1] 25 (0, 0))) ∧ (w'.heap[gb309]? = some (.cells #[.int .i64 0, .int .i64 0] 35 (0, 0))) ∧ (w'.heap[gb310]? = some (.cells #[.int .i64 0, .int .i64 0] 35 (0, 0))) ∧ (w'.heap[s_.1]? = some (.cells #[.int .i64 0, .int .i64 0] 35 (0, 0))) ∧ (w'.heap[s_.2]? = some (.cells #[.int .i64 0, .int .i64 0] 35 (0, 0))) ∧ (w.heap.size ≤ s_.1) ∧ (w.heap.size ≤ s_.1) ∧ (gb308 ≠ s_.1) ∧ (s_.1 ≠ gb308) ∧ (gb309 ≠ s_.1) ∧ (s_.1 ≠ gb309) ∧ (gb310 ≠ s_.1) ∧ (s_.1 ≠ gb310) ∧ (s_.2 ≠ s_.1) ∧ (s_.1 ≠ s_.2) ∧ (w.heap.size ≤ s_.2) ∧ (w.heap.size ≤ s_.2) ∧ (gb308 ≠ s_.2) ∧ (s_.2 ≠ gb308) ∧ (gb309 ≠ s_.2) ∧ (s_.2 ≠ gb309) ∧ (gb310 ≠ s_.2) ∧ (s_.2 ≠ gb310) ∧ (Below w.heap.size w w')) ?_ ?_
  rotate_left
  ·
   intro hCont
   refine two_ (i := 10) (j := 11) (Ni := some 6) (Nj := some 7) (bm 14 2047) (bm 14 3071) rfl rfl rfl rfl (two_of HT_.out qz) (by decide) (by decide) (fun K hK => ?_) (fun K hK => ?_)
   ·
    skip
    refine box_step ?hg (N := 6) ?hd (cs := #[.int .i64 0, .int .i64 0]) (t := 35) ?hr ?_; (case hd => rfl); (case hg => rfl); (case hr => first | (go_simp; done) | (go_simp; rfl))
    intro gb314 hg w13 hbox hb
    have n0_ := am (blk_below (o := .cells #[.slice (some ad312) l0_0.length c0_0, .slice A0_1 l0_1.length c0_1] 25 (0, 0)) (kz BK308) hb)
    have n1_ := am (blk_below (o := .cells #[.int .i64 0, .int .i64 0] 35 (0, 0)) (kz BK309) hb)
    have n2_ := am (blk_below (o := .cells #[.int .i64 0, .int .i64 0] 35 (0, 0)) (kz BK310) hb)
    have n3_ := am (below_step bz hb)
    have n4_ := am (hbox)
    have n5_ := gwz (g := gb314) HB hg
    have n6_ := gwz (g := gb314) HB hg
    have n7_ := nlt (g' := gb314) BK308 hg
    have n8_ := ngt (g' := gb314) BK308 hg
    have n9_ := nlt (g' := gb314) BK309 hg
    have n10_ := ngt (g' := gb314) BK309 hg
    have n11_ := nlt (g' := gb314) BK310 hg
    have n12_ := ngt (g' := gb314) BK310 hg
    clear BK308
    clear BK309
    clear BK310
    clear HB
    have BK308 := n0_
    have BK309 := n1_
    have BK310 := n2_
    have HB := n3_
    have BK314 := n4_
    have GW314 := n5_
    have GE314 := n6_
    have NB308_314 := n7_
    have NB314_308 := n8_
    have NB309_314 := n9_
    have NB314_309 := n10_
    have NB310_314 := n11_
    have NB314_310 := n12_
    clear n0_ n1_ n2_ n3_ n4_ n5_ n6_ n7_ n8_ n9_ n10_ n11_ n12_
    clear hb hbox hg
    refine hK.out _ _ ⟨(blk_cell BK308.out 0).trans rfl, (blk_cell BK308.out 1).trans rfl, (cb HB.out hw312_0), (cb HB.out hw312_1), (cb HB.out hw313_0), (cb HB.out hw313_1)⟩ (fun hHeld => ?_)
    clear hK K
    refine norm_ (a' := ?_) ?_ ?_
    rotate_left
    ·
     show Act.put _ (some 6) _ = _
     simp only [Act.put, aS, lZ, lS, i64_w, i32_w]
     rfl
    refine one_ (i := 11) (N := some 7) (bm 14 4095) rfl rfl (one_of HT_.out qz) (by decide) (fun K hK => ?_)
    refine box_step ?hg (N := 7) ?hd (cs := #[.int .i64 0, .int .i64 0]) (t := 35) ?hr ?_; (case hd => rfl); (case hg => rfl); (case hr => first | (go_simp; done) | (go_simp; rfl))
    intro gb315 hg w14 hbox hb
    have n0_ := am (blk_below (o := .cells #[.slice (some ad312) l0_0.length c0_0, .slice A0_1 l0_1.length c0_1] 25 (0, 0)) (kz BK308) hb)
    have n1_ := am (blk_below (o := .cells #[.int .i64 0, .int .i64 0] 35 (0, 0)) (kz BK309) hb)
    have n2_ := am (blk_below (o := .cells #[.int .i64 0, .int .i64 0] 35 (0, 0)) (kz BK310) hb)
    have n3_ := am (blk_below (o := .cells #[.int .i64 0, .int .i64 0] 35 (0, 0)) (kz BK314) hb)
    have n4_ := am (below_step bz hb)
    have n5_ := am (hbox)
    have n6_ := gwz (g := gb315) HB hg
    have n7_ := gwz (g := gb315) HB hg
    have n8_ := nlt (g' := gb315) BK308 hg
    have n9_ := ngt (g' := gb315) BK308 hg
    have n10_ := nlt (g' := gb315) BK309 hg
    have n11_ := ngt (g' := gb315) BK309 hg
    have n12_ := nlt (g' := gb315) BK310 hg
    have n13_ := ngt (g' := gb315) BK310 hg
    have n14_ := nlt (g' := gb315) BK314 hg
    have n15_ := ngt (g' := gb315) BK314 hg
    clear BK308
    clear BK309
    clear BK310
    clear BK314
    clear HB
    have BK308 := n0_
    have BK309 := n1_
    have BK310 := n2_
    have BK314 := n3_
    have HB := n4_
    have BK315 := n5_
    have GW315 := n6_
    have GE315 := n7_
    have NB308_315 := n8_
    have NB315_308 := n9_
    have NB309_315 := n10_
    have NB315_309 := n11_
    have NB310_315 := n12_
    have NB315_310 := n13_
    have NB314_315 := n14_
    have NB315_314 := n15_
    clear n0_ n1_ n2_ n3_ n4_ n5_ n6_ n7_ n8_ n9_ n10_ n11_ n12_ n13_ n14_ n15_
    clear hb hbox hg
    refine hK.out _ _ ⟨(blk_cell BK308.out 0).trans rfl, (blk_cell BK308.out 1).trans rfl, (cb HB.out hw312_0), (cb HB.out hw312_1), (cb HB.out hw313_0), (cb HB.out hw313_1)⟩ (fun hHeld => ?_)
    clear hK K
    refine norm_ (a' := ?_) ?_ ?_
    rotate_left
    ·
     show Act.put _ (some 7) _ = _
     simp only [Act.put, aS, lZ, lS, i64_w, i32_w]
     rfl
    exact norm_ (by simp only [putAll, Act.put, List.setIfInBounds_toArray, List.set_cons_zero, List.set_cons_succ]) (hCont (gb314, gb315) _ ⟨hHeld, (kz BK308), (kz BK309), (kz BK310), (kz BK314), (kz BK315), GW314.out, GE314.out, NB308_314.out, NB314_308.out, NB309_314.out, NB314_309.out, NB310_314.out, NB314_310.out, NB315_314.out, NB314_315.out, GW315.out, GE315.out, NB308_315.out, NB315_308.out, NB309_315.out, NB315_309.out, NB310_315.out, NB315_310.out, bz⟩)
   ·
    skip
    refine box_step ?hg (N := 7) ?hd (cs := #[.int .i64 0, .int .i64 0]) (t := 35) ?hr ?_; (case hd => rfl); (case hg => rfl); (case hr => first | (go_simp; done) | (go_simp; rfl))
    intro gb315 hg w13 hbox hb
    have n0_ := am (blk_below (o := .cells #[.slice (some ad312) l0_0.length c0_0, .slice A0_1 l0_1.length c0_1] 25 (0, 0)) (kz BK308) hb)
    have n1_ := am (blk_below (o := .cells #[.int .i64 0, .int .i64 0] 35 (0, 0)) (kz BK309) hb)
    have n2_ := am (blk_below (o := .cells #[.int .i64 0, .int .i64 0] 35 (0, 0)) (kz BK310) hb)
    have n3_ := am (below_step bz hb)
    have n4_ := am (hbox)
    have n5_ := gwz (g := gb315) HB hg
    have n6_ := gwz (g := gb315) HB hg
    have n7_ := nlt (g' := gb315) BK308 hg
    have n8_ := ngt (g' := gb315) BK308 hg
    have n9_ := nlt (g' := gb315) BK309 hg
    have n10_ := ngt (g' := gb315) BK309 hg
    have n11_ := nlt (g' := gb315) BK310 hg
    have n12_ := ngt (g' := gb315) BK310 hg
    clear BK308
    clear BK309
    clear BK310
    clear HB
    have BK308 := n0_
    have BK309 := n1_
    have BK310 := n2_
    have HB := n3_
    have BK315 := n4_
    have GW315 := n5_
    have GE315 := n6_
    have NB308_315 := n7_
    have NB315_308 := n8_
    have NB309_315 := n9_
    have NB315_309 := n10_
    have NB310_315 := n11_
    have NB315_310 := n12_
    clear n0_ n1_ n2_ n3_ n4_ n5_ n6_ n7_ n8_ n9_ n10_ n11_ n12_
    clear hb hbox hg
    refine hK.out _ _ ⟨(blk_cell BK308.out 0).trans rfl, (blk_cell BK308.out 1).trans rfl, (cb HB.out hw312_0), (cb HB.out hw312_1), (cb HB.out hw313_0), (cb HB.out hw313_1)⟩ (fun hHeld => ?_)
    clear hK K
    refine norm_ (a' := ?_) ?_ ?_
    rotate_left
    ·
     show Act.put _ (some 7) _ = _
     simp only [Act.put, aS, lZ, lS, i64_w, i32_w]
     rfl
    refine one_ (i := 10) (N := some 6) (bm 14 4095) rfl rfl (one_of HT_.out qz) (by decide) (fun K hK => ?_)
    refine box_step ?hg (N := 6) ?hd (cs := #[.int .i64 0, .int .i64 0]) (t := 35) ?hr ?_; (case hd => rfl); (case hg => rfl); (case hr => first | (go_simp; done) | (go_simp; rfl))
    intro gb314 hg w14 hbox hb
    have n0_ := am (blk_below (o := .cells #[.slice (some ad312) l0_0.length c0_0, .slice A0_1 l0_1.length c0_1] 25 (0, 0)) (kz BK308) hb)
    have n1_ := am (blk_below (o := .cells #[.int .i64 0, .int .i64 0] 35 (0, 0)) (kz BK309) hb)
    have n2_ := am (blk_below (o := .cells #[.int .i64 0, .int .i64 0] 35 (0, 0)) (kz BK310) hb)
    have n3_ := am (blk_below (o := .cells #[.int .i64 0, .int .i64 0] 35 (0, 0)) (kz BK315) hb)
    have n4_ := am (below_step bz hb)
    have n5_ := am (hbox)
    have n6_ := gwz (g := gb314) HB hg
    have n7_ := gwz (g := gb314) HB hg
    have n8_ := nlt (g' := gb314) BK308 hg
    have n9_ := ngt (g' := gb314) BK308 hg
    have n10_ := nlt (g' := gb314) BK309 hg
    have n11_ := ngt (g' := gb314) BK309 hg
    have n12_ := nlt (g' := gb314) BK310 hg
    have n13_ := ngt (g' := gb314) BK310 hg
    have n14_ := nlt (g' := gb314) BK315 hg
    have n15_ := ngt (g' := gb314) BK315 hg
    clear BK308
    clear BK309
    clear BK310
    clear BK315
    clear HB
    have BK308 := n0_
    have BK309 := n1_
    have BK310 := n2_
    have BK315 := n3_
    have HB := n4_
    have BK314 := n5_
    have GW314 := n6_
    have GE314 := n7_
    have NB308_314 := n8_
    have NB314_308 := n9_
    have NB309_314 := n10_
    have NB314_309 := n11_
    have NB310_314 := n12_
    have NB314_310 := n13_
    have NB315_314 := n14_
    have NB314_315 := n15_
    clear n0_ n1_ n2_ n3_ n4_ n5_ n6_ n7_ n8_ n9_ n10_ n11_ n12_ n13_ n14_ n15_
    clear hb hbox hg
    refine hK.out _ _ ⟨(blk_cell BK308.out 0).trans rfl, (blk_cell BK308.out 1).trans rfl, (cb HB.out hw312_0), (cb HB.out hw312_1), (cb HB.out hw313_0), (cb HB.out hw313_1)⟩ (fun hHeld => ?_)
    clear hK K
    refine norm_ (a' := ?_) ?_ ?_
    rotate_left
    ·
     show Act.put _ (some 6) _ = _
     simp only [Act.put, aS, lZ, lS, i64_w, i32_w]
     rfl
    exact norm_ (by simp only [putAll, Act.put, List.setIfInBounds_toArray, List.set_cons_zero, List.set_cons_succ]) (hCont (gb314, gb315) _ ⟨hHeld, (kz BK308), (kz BK309), (kz BK310), (kz BK314), (kz BK315), GW314.out, GE314.out, NB308_314.out, NB314_308.out, NB309_314.out, NB314_309.out, NB310_314.out, NB314_310.out, NB315_314.out, NB314_315.out, GW315.out, GE315.out, NB308_315.out, NB315_308.out, NB309_315.out, NB315_309.out, NB310_315.out, NB315_310.out, bz⟩)
  rintro ⟨gb314, gb315⟩ w15 ⟨hS_, h0_, h1_, h2_, h3_, h4_, h5_, h6_, h7_, h8_, h9_, h10_, h11_, h12_, h13_, h14_, h15_, h16_, h17_, h18_, h19_, h20_, h21_, h22_, h23_⟩
  have n0_ : Aside0 (w15.heap[gb308]? = some (.cells #[.slice (some ad312) l0_0.length c0_0, .slice A0_1 l0_1.length c0_1] 25 (0, 0))) := ⟨h0_⟩
  have n1_ : Aside0 (w15.heap[gb309]? = some (.cells #[.int .i64 0, .int .i64 0] 35 (0, 0))) := ⟨h1_⟩
  have n2_ : Aside0 (w15.heap[gb310]? = some (.cells #[.int .i64 0, .int .i64 0] 35 (0, 0))) := ⟨h2_⟩
  have n3_ : Aside0 (w15.heap[gb314]? = some (.cells #[.int .i64 0, .int .i64 0] 35 (0, 0))) := ⟨h3_⟩
  have n4_ : Aside0 (w15.heap[gb315]? = some (.cells #[.int .i64 0, .int .i64 0] 35 (0, 0))) := ⟨h4_⟩
  have n5_ : Aside0 (w.heap.size ≤ gb314) := ⟨h5_⟩
  have n6_ : Aside0 (w.heap.size ≤ gb314) := ⟨h6_⟩
  have n7_ : Aside0 (gb308 ≠ gb314) := ⟨h7_⟩
  have n8_ : Aside0 (gb314 ≠ gb308) := ⟨h8_⟩
  have n9_ : Aside0 (gb309 ≠ gb314) := ⟨h9_⟩
  have n10_ : Aside0 (gb314 ≠ gb309) := ⟨h10_⟩
  have n11_ : Aside0 (gb310 ≠ gb314) := ⟨h11_⟩
  have n12_ : Aside0 (gb314 ≠ gb310) := ⟨h12_⟩
  have n13_ : Aside0 (gb315 ≠ gb314) := ⟨h13_⟩
  have n14_ : Aside0 (gb314 ≠ gb315) := ⟨h14_⟩
  have n15_ : Aside0 (w.heap.size ≤ gb315) := ⟨h15_⟩
  have n16_ : Aside0 (w.heap.size ≤ gb315) := ⟨h16_⟩
  have n17_ : Aside0 (gb308 ≠ gb315) := ⟨h17_⟩
  have n18_ : Aside0 (gb315 ≠ gb308) := ⟨h18_⟩
  have n19_ : Aside0 (gb309 ≠ gb315) := ⟨h19_⟩
  have n20_ : Aside0 (gb315 ≠ gb309) := ⟨h20_⟩
  have n21_ : Aside0 (gb310 ≠ gb315) := ⟨h21_⟩
  have n22_ : Aside0 (gb315 ≠ gb310) := ⟨h22_⟩
  have n23_ : Aside0 (Below w.heap.size w w15) := ⟨h23_⟩
  clear BK308
  clear BK309
  clear BK310
  clear HB
  clear h0_ h1_ h2_ h3_ h4_ h5_ h6_ h7_ h8_ h9_ h10_ h11_ h12_ h13_ h14_ h15_ h16_ h17_ h18_ h19_ h20_ h21_ h22_ h23_
  have BK308 := n0_
  have BK309 := n1_
  have BK310 := n2_
  have BK314 := n3_
  have BK315 := n4_
  have GW314 := n5_
  have GE314 := n6_
  have NB308_314 := n7_
  have NB314_308 := n8_
  have NB309_314 := n9_
  have NB314_309 := n10_
  have NB310_314 := n11_
  have NB314_310 := n12_
  have NB315_314 := n13_
  have NB314_315 := n14_
  have GW315 := n15_
  have GE315 := n16_
  have NB308_315 := n17_
  have NB315_308 := n18_
  have NB309_315 := n19_
  have NB315_309 := n20_
  have NB310_315 := n21_
  have NB315_310 := n22_
  have HB := n23_
  clear n0_ n1_ n2_ n3_ n4_ n5_ n6_ n7_ n8_ n9_ n10_ n11_ n12_ n13_ n14_ n15_ n16_ n17_ n18_ n19_ n20_ n21_ n22_ n23_
  have hHeld : w15.cell? ⟨gb308, 0, none⟩ = some (.slice (some ad312) l0_0.length c0_0) ∧ w15.cell? ⟨gb308, 1, none⟩ = some (.slice A0_1 l0_1.length c0_1) ∧ w15.cell? ad312 = some (.int .i64 ((rd_T53 l0_0 0).f0.f0)) ∧ w15.cell? ⟨ad312.block, ad312.off + 1, none⟩ = some (.int .i64 ((rd_T53 l0_0 0).f0.f1)) ∧ w15.cell? ad312 = some (.int .i64 ((rd_T53 l0_0 0).f0.f0)) ∧ w15.cell? ⟨ad312.block, ad312.off + 1, none⟩ = some (.int .i64 ((rd_T53 l0_0 0).f0.f1)) := hS_
  refine norm_ (a' := ?_) ?_ ?_
  rotate_left
  ·
   simp only [putAll, Act.put, List.setIfInBounds_toArray, List.set_cons_zero, List.set_cons_succ]
   rfl
  refine one_ (i := 12) (N := none) (bm 14 8191) rfl rfl (one_of HT_.out qz) (by decide) (fun K hK => ?_)
  have hs16 : w15.cell? ⟨gb314, 0, none⟩ = some (.int .i64 0) := (blk_cell BK314.out 0).trans rfl
  have hfs16 := blk_frozen BK314.out 0
  have hns16_0 := NB308_314.out
  have hns16_1 := NB309_314.out
  have hns16_2 := NB310_314.out
  have hns16_4 := NB315_314.out
  have hms16_0 := NB314_308.out
  have hms16_1 := NB314_309.out
  have hms16_2 := NB314_310.out
  have hms16_4 := NB314_315.out
  have hs17 : w15.cell? ⟨gb314, 1, none⟩ = some (.int .i64 0) := (blk_cell BK314.out 1).trans rfl
  have hfs17 := blk_frozen BK314.out 1
  have hns17_0 := NB308_314.out
  have hns17_1 := NB309_314.out
  have hns17_2 := NB310_314.out
  have hns17_4 := NB315_314.out
  have hms17_0 := NB314_308.out
  have hms17_1 := NB314_309.out
  have hms17_2 := NB314_310.out
  have hms17_4 := NB314_315.out
  refine skip_ (w1 := ?_) (by rfl) rfl ?_ ?_
  rotate_left
  ·
   go_simp
   rfl
  refine hK.out _ _ ⟨((cell_far (p := ⟨gb314, _, none⟩) NB308_314.out _).trans (((cell_far (p := ⟨gb314, _, none⟩) NB308_314.out _).trans (hHeld.1)))), ((cell_far (p := ⟨gb314, _, none⟩) NB308_314.out _).trans (((cell_far (p := ⟨gb314, _, none⟩) NB308_314.out _).trans (hHeld.2.1)))), ((cell_far (p := ⟨gb314, _, none⟩) (by first | exact nb hw312_0 GW314.out | exact nc hw312_0 GW314.out | exact nd hw312_0 GW314.out) _).trans (((cell_far (p := ⟨gb314, _, none⟩) (by first | exact nb hw312_0 GW314.out | exact nc hw312_0 GW314.out | exact nd hw312_0 GW314.out) _).trans (hHeld.2.2.1)))), ((cell_far (p := ⟨gb314, _, none⟩) (by first | exact nb hw312_1 GW314.out | exact nc hw312_1 GW314.out | exact nd hw312_1 GW314.out) _).trans (((cell_far (p := ⟨gb314, _, none⟩) (by first | exact nb hw312_1 GW314.out | exact nc hw312_1 GW314.out | exact nd hw312_1 GW314.out) _).trans (hHeld.2.2.2.1)))), ((cell_far (p := ⟨gb314, _, none⟩) (by first | exact nb hw313_0 GW314.out | exact nc hw313_0 GW314.out | exact nd hw313_0 GW314.out) _).trans (((cell_far (p := ⟨gb314, _, none⟩) (by first | exact nb hw313_0 GW314.out | exact nc hw313_0 GW314.out | exact nd hw313_0 GW314.out) _).trans (hHeld.2.2.2.2.1)))), ((cell_far (p := ⟨gb314, _, none⟩) (by first | exact nb hw313_1 GW314.out | exact nc hw313_1 GW314.out | exact nd hw313_1 GW314.out) _).trans (((cell_far (p := ⟨gb314, _, none⟩) (by first | exact nb hw313_1 GW314.out | exact nc hw313_1 GW314.out | exact nd hw313_1 GW314.out) _).trans (hHeld.2.2.2.2.2))))⟩ (fun hHeld => ?_)
  clear hK K
  refine one_ (i := 13) (N := none) (bm 14 16383) rfl rfl (one_of HT_.out qz) (by decide) (fun K hK => ?_)
  have hs18 : w15.cell? ⟨gb315, 0, none⟩ = some (.int .i64 0) := (blk_cell BK315.out 0).trans rfl
  have hfs18 := blk_frozen BK315.out 0
  have hns18_0 := NB308_315.out
  have hns18_1 := NB309_315.out
  have hns18_2 := NB310_315.out
  have hns18_3 := NB314_315.out
  have hms18_0 := NB315_308.out
  have hms18_1 := NB315_309.out
  have hms18_2 := NB315_310.out
  have hms18_3 := NB315_314.out
  have hs19 : w15.cell? ⟨gb315, 1, none⟩ = some (.int .i64 0) := (blk_cell BK315.out 1).trans rfl
  have hfs19 := blk_frozen BK315.out 1
  have hns19_0 := NB308_315.out
  have hns19_1 := NB309_315.out
  have hns19_2 := NB310_315.out
  have hns19_3 := NB314_315.out
  have hms19_0 := NB315_308.out
  have hms19_1 := NB315_309.out
  have hms19_2 := NB315_310.out
  have hms19_3 := NB315_314.out
  refine skip_ (w1 := ?_) (by rfl) rfl ?_ ?_
  rotate_left
  ·
   go_simp
   rfl
  refine hK.out _ _ ⟨((cell_far (p := ⟨gb315, _, none⟩) NB308_315.out _).trans (((cell_far (p := ⟨gb315, _, none⟩) NB308_315.out _).trans (hHeld.1)))), ((cell_far (p := ⟨gb315, _, none⟩) NB308_315.out _).trans (((cell_far (p := ⟨gb315, _, none⟩) NB308_315.out _).trans (hHeld.2.1)))), ((cell_far (p := ⟨gb315, _, none⟩) (by first | exact nb hw312_0 GW315.out | exact nc hw312_0 GW315.out | exact nd hw312_0 GW315.out) _).trans (((cell_far (p := ⟨gb315, _, none⟩) (by first | exact nb hw312_0 GW315.out | exact nc hw312_0 GW315.out | exact nd hw312_0 GW315.out) _).trans (hHeld.2.2.1)))), ((cell_far (p := ⟨gb315, _, none⟩) (by first | exact nb hw312_1 GW315.out | exact nc hw312_1 GW315.out | exact nd hw312_1 GW315.out) _).trans (((cell_far (p := ⟨gb315, _, none⟩) (by first | exact nb hw312_1 GW315.out | exact nc hw312_1 GW315.out | exact nd hw312_1 GW315.out) _).trans (hHeld.2.2.2.1)))), ((cell_far (p := ⟨gb315, _, none⟩) (by first | exact nb hw313_0 GW315.out | exact nc hw313_0 GW315.out | exact nd hw313_0 GW315.out) _).trans (((cell_far (p := ⟨gb315, _, none⟩) (by first | exact nb hw313_0 GW315.out | exact nc hw313_0 GW315.out | exact nd hw313_0 GW315.out) _).trans (hHeld.2.2.2.2.1)))), ((cell_far (p := ⟨gb315, _, none⟩) (by first | exact nb hw313_1 GW315.out | exact nc hw313_1 GW315.out | exact nd hw313_1 GW315.out) _).trans (((cell_far (p := ⟨gb315, _, none⟩) (by first | exact nb hw313_1 GW315.out | exact nc hw313_1 GW315.out | exact nd hw313_1 GW315.out) _).trans (hHeld.2.2.2.2.2))))⟩ (fun hHeld => ?_)
  clear hK K
  refine done_ (done_of HT_.out qz) ?_
  try go_wp2
  go_loopg [8] k (fun kq v8 w' => ∃ (x8_1 x315000_1 x315001_1 x316000_1 x316001_1 : Int), v8 = .int .i64 x8_1 ∧ Aside0 (dancestudioref43_Box.l0 kq x8_1 l0_0 l0_1 x315000_1 x315001_1 x316000_1 x316001_1 = some (r1, r2, r3, r4, r5)) ∧ Aside0 (kq ≤ k) ∧ Aside0 (w'.heap[gb308]? = some (.cells #[(.slice (some ad312) l0_0.length c0_0), (.slice A0_1 l0_1.length c0_1)] 25 (0, 0))) ∧ Aside0 (w'.heap[gb309]? = some (.cells #[.int .i64 0, .int .i64 0] 35 (0, 0))) ∧ Aside0 (w'.heap[gb310]? = some (.cells #[.int .i64 0, .int .i64 0] 35 (0, 0))) ∧ Aside0 (w'.heap[gb314]? = some (.cells #[.int .i64 x315000_1, .int .i64 x315001_1] 35 (0, 0))) ∧ Aside0 (w'.heap[gb315]? = some (.cells #[.int .i64 x316000_1, .int .i64 x316001_1] 35 (0, 0))) ∧ Aside0 (Below w.heap.size w w'))
  case atStart => exact ⟨(0), ((rd_T53 l0_0 0).f0.f0), ((rd_T53 l0_0 0).f0.f1), ((rd_T53 l0_0 0).f0.f0), ((rd_T53 l0_0 0).f0.f1), sz, H', ⟨Nat.le_refl _⟩, ⟨by (with_reducible repeat first | apply kN | apply kD | apply kA); refine blk_far ?_ NB308_315.out _; (with_reducible repeat first | apply kN | apply kD | apply kA); refine blk_far ?_ NB308_315.out _; (with_reducible repeat first | apply kN | apply kD | apply kA); refine blk_far ?_ NB308_314.out _; (with_reducible repeat first | apply kN | apply kD | apply kA); refine blk_far ?_ NB308_314.out _; (with_reducible repeat first | apply kN | apply kD | apply kA); exact BK308.out⟩, ⟨by (with_reducible repeat first | apply kN | apply kD | apply kA); refine blk_far ?_ NB309_315.out _; (with_reducible repeat first | apply kN | apply kD | apply kA); refine blk_far ?_ NB309_315.out _; (with_reducible repeat first | apply kN | apply kD | apply kA); refine blk_far ?_ NB309_314.out _; (with_reducible repeat first | apply kN | apply kD | apply kA); refine blk_far ?_ NB309_314.out _; (with_reducible repeat first | apply kN | apply kD | apply kA); exact BK309.out⟩, ⟨by (with_reducible repeat first | apply kN | apply kD | apply kA); refine blk_far ?_ NB310_315.out _; (with_reducible repeat first | apply kN | apply kD | apply kA); refine blk_far ?_ NB310_315.out _; (with_reducible repeat first | apply kN | apply kD | apply kA); refine blk_far ?_ NB310_314.out _; (with_reducible repeat first | apply kN | apply kD | apply kA); refine blk_far ?_ NB310_314.out _; (with_reducible repeat first | apply kN | apply kD | apply kA); exact BK310.out⟩, ⟨by (with_reducible repeat first | apply kN | apply kD | apply kA); refine blk_far ?_ NB314_315.out _; (with_reducible repeat first | apply kN | apply kD | apply kA); refine blk_far ?_ NB314_315.out _; (with_reducible repeat first | apply kN | apply kD | apply kA); refine blk_put (cs := #[.int .i64 ((rd_T53 l0_0 0).f0.f0), .int .i64 0]) ?_ 1 _ rfl; (with_reducible repeat first | apply kN | apply kD | apply kA); refine blk_put (cs := #[.int .i64 0, .int .i64 0]) ?_ 0 _ rfl; (with_reducible repeat first | apply kN | apply kD | apply kA); exact BK314.out⟩, ⟨by (with_reducible repeat first | apply kN | apply kD | apply kA); refine blk_put (cs := #[.int .i64 ((rd_T53 l0_0 0).f0.f0), .int .i64 0]) ?_ 1 _ rfl; (with_reducible repeat first | apply kN | apply kD | apply kA); refine blk_put (cs := #[.int .i64 0, .int .i64 0]) ?_ 0 _ rfl; (with_reducible repeat first | apply kN | apply kD | apply kA); refine blk_far ?_ NB315_314.out _; (with_reducible repeat first | apply kN | apply kD | apply kA); refine blk_far ?_ NB315_314.out _; (with_reducible repeat first | apply kN | apply kD | apply kA); exact BK315.out⟩, ⟨bz⟩⟩
  case round =>
   clear H'
   try clear c1
   try clear c2
   try clear p2
   try clear c3
   try clear c3b0
   try clear c3b1
   try clear p3
   try clear q3
   try clear hx3
   try clear qi3
   try clear c4
   try clear c4b0
   try clear c4b1
   try clear c8
   try clear c9
   try clear c16
   try clear hcz10_0
   try clear hcz10_1
   try clear hfz10_0
   try clear hfz10_1
   try clear hx312_0
   try clear hx312_1
   try clear hx313_0
   try clear hx313_1
   try clear p312
   try clear p313
   try clear q312
   try clear q313
   obtain ⟨x8_1, x315000_1, x315001_1, x316000_1, x316001_1, rfl, HA, HK1, BK308, BK309, BK310, BK314, BK315, HB⟩ := hrel
   cases gk with
   | zero => exact absurd HA.out (by simp [dancestudioref43_Box.l0])
   | succ k1 =>
    have H := HA.out
    clear HA
    simp only [dancestudioref43_Box.l0] at H
    by_cases c20 : x8_1 < (l0_0.length : Int)
    ·
     rw [if_pos c20] at H
     have c20b0 := decide_eq_true c20
     clear c20
     by_cases c21 : 0 ≤ x8_1; rotate_left
     · rw [if_neg c21] at H; exact absurd H (by simp)
     rw [if_pos c21] at H
     have c21b0 := decide_eq_true c21
     clear c21
     obtain ⟨ji22, hji22⟩ : ∃ j_ : Int, (mn x315000_1 ((rd_T53 l0_0 x8_1).f0.f0)) = j_ := ⟨_, rfl⟩
     replace H : (dancestudioref43_Box.l0 k1 (wrap64 (x8_1 + 1)) l0_0 l0_1 ji22 (mn x315001_1 ((rd_T53 l0_0 x8_1).f0.f1)) (mx x316000_1 ((rd_T53 l0_0 x8_1).f0.f0)) (mx x316001_1 ((rd_T53 l0_0 x8_1).f0.f1))) = some (r1, r2, r3, r4, r5) := by first | (rw [hji22] at H; exact H) | (simp only [hji22] at H ⊢; exact H)
     have hji22_ : (if ((rd_T53 l0_0 x8_1).f0.f0) < x315000_1 then ((rd_T53 l0_0 x8_1).f0.f0) else x315000_1) = ji22 := hji22
     obtain ⟨ji23, hji23⟩ : ∃ j_ : Int, (mn x315001_1 ((rd_T53 l0_0 x8_1).f0.f1)) = j_ := ⟨_, rfl⟩
     replace H : (dancestudioref43_Box.l0 k1 (wrap64 (x8_1 + 1)) l0_0 l0_1 ji22 ji23 (mx x316000_1 ((rd_T53 l0_0 x8_1).f0.f0)) (mx x316001_1 ((rd_T53 l0_0 x8_1).f0.f1))) = some (r1, r2, r3, r4, r5) := by first | (rw [hji23] at H; exact H) | (simp only [hji23] at H ⊢; exact H)
     have hji23_ : (if ((rd_T53 l0_0 x8_1).f0.f1) < x315001_1 then ((rd_T53 l0_0 x8_1).f0.f1) else x315001_1) = ji23 := hji23
     obtain ⟨ji24, hji24⟩ : ∃ j_ : Int, (mx x316000_1 ((rd_T53 l0_0 x8_1).f0.f0)) = j_ := ⟨_, rfl⟩
     replace H : (dancestudioref43_Box.l0 k1 (wrap64 (x8_1 + 1)) l0_0 l0_1 ji22 ji23 ji24 (mx x316001_1 ((rd_T53 l0_0 x8_1).f0.f1))) = some (r1, r2, r3, r4, r5) := by first | (rw [hji24] at H; exact H) | (simp only [hji24] at H ⊢; exact H)
     have hji24_ : (if x316000_1 < ((rd_T53 l0_0 x8_1).f0.f0) then ((rd_T53 l0_0 x8_1).f0.f0) else x316000_1) = ji24 := hji24
     obtain ⟨ji25, hji25⟩ : ∃ j_ : Int, (mx x316001_1 ((rd_T53 l0_0 x8_1).f0.f1)) = j_ := ⟨_, rfl⟩
     replace H : (dancestudioref43_Box.l0 k1 (wrap64 (x8_1 + 1)) l0_0 l0_1 ji22 ji23 ji24 ji25) = some (r1, r2, r3, r4, r5) := by first | (rw [hji25] at H; exact H) | (simp only [hji25] at H ⊢; exact H)
     have hji25_ : (if x316001_1 < ((rd_T53 l0_0 x8_1).f0.f1) then ((rd_T53 l0_0 x8_1).f0.f1) else x316001_1) = ji25 := hji25
     have H' := am H
     clear H
     have hnb26 := NB308_309.out
     have hnc26 := NB309_308.out
     have hnb27 := NB308_310.out
     have hnc27 := NB310_308.out
     have hnb28 := NB308_314.out
     have hnc28 := NB314_308.out
     have hnb29 := NB308_315.out
     have hnc29 := NB315_308.out
     obtain ⟨hcz30_0, hcz30_1, hfz30_0, hfz30_1⟩ := kc2 BK308.out
     have p316 : 0 ≤ (x8_1 : Int) := az
     have q316 : x8_1 < (l0_0.length : Int) := az
     obtain ⟨ad316, e316, hx316_0, hx316_1, _, _, _, _, _, _, _, _, _, _, _, _, _, _, _, _, _, _, _, _⟩ := at_T53 HR0_0.out x8_1 p316 q316
     obtain rfl : ad312 = ad316 := (by injection e316)
     replace hx316_0 := cb HB.out hx316_0
     replace hx316_1 := cb HB.out hx316_1
     replace p316 := eq_true p316
     replace q316 := eq_true q316
     go_wp2_with (first | ((with_reducible refine gate_dst (N := 9) rfl ?_); refine box_event yz (N := 9) yz (cs := #[.int .i64 0, .int .i64 0]) (t := 35) gz ?_; intro gb317 hg w31 hbox hb; have BK317 := am (hbox); have GW317 := gwz (g := gb317) HB hg; have GE317 := GW317; replace HB := am (below_step bz hb); have NB308_317 := nlt (g' := gb317) BK308 hg; have NB317_308 := ngt (g' := gb317) BK308 hg; replace BK308 := am (blk_below (o := .cells #[.slice (some ad312) l0_0.length c0_0, .slice A0_1 l0_1.length c0_1] 25 (0, 0)) (kz BK308) hb); have NB309_317 := nlt (g' := gb317) BK309 hg; have NB317_309 := ngt (g' := gb317) BK309 hg; replace BK309 := am (blk_below (o := .cells #[.int .i64 0, .int .i64 0] 35 (0, 0)) (kz BK309) hb); have NB310_317 := nlt (g' := gb317) BK310 hg; have NB317_310 := ngt (g' := gb317) BK310 hg; replace BK310 := am (blk_below (o := .cells #[.int .i64 0, .int .i64 0] 35 (0, 0)) (kz BK310) hb); have NB314_317 := nlt (g' := gb317) BK314 hg; have NB317_314 := ngt (g' := gb317) BK314 hg; replace BK314 := am (blk_below (o := .cells #[.int .i64 x315000_1, .int .i64 x315001_1] 35 (0, 0)) (kz BK314) hb); have NB315_317 := nlt (g' := gb317) BK315 hg; have NB317_315 := ngt (g' := gb317) BK315 hg; replace BK315 := am (blk_below (o := .cells #[.int .i64 x316000_1, .int .i64 x316001_1] 35 (0, 0)) (kz BK315) hb); clear hb hbox hg; have hnb32 := NB317_308.out; have hnc32 := NB308_317.out; have hnb33 := NB317_309.out; have hnc33 := NB309_317.out; have hnb34 := NB317_310.out; have hnc34 := NB310_317.out; have hnb35 := NB317_314.out; have hnc35 := NB314_317.out; have hnb36 := NB317_315.out; have hnc36 := NB315_317.out; obtain ⟨hcz37_0, hcz37_1, hfz37_0, hfz37_1⟩ := kc2 BK317.out; have hnb38 := NB314_309.out; have hnc38 := NB309_314.out; have hnb39 := NB314_310.out; have hnc39 := NB310_314.out; have hnb40 := NB314_315.out; have hnc40 := NB315_314.out; obtain ⟨hcz41_0, hcz41_1, hfz41_0, hfz41_1⟩ := kc2 BK314.out; have hnb42 := NB315_309.out; have hnc42 := NB309_315.out; have hnb43 := NB315_310.out; have hnc43 := NB310_315.out; obtain ⟨hcz44_0, hcz44_1, hfz44_0, hfz44_1⟩ := kc2 BK315.out))
     go_roundg k1
     case measure => have := HK1.out; omega
     case rel => exact ⟨(wrap64 (x8_1 + 1)), (ji22), (ji23), (ji24), (ji25), sz, H', ⟨by have := HK1.out; omega⟩, ⟨by (with_reducible repeat first | apply kN | apply kD | apply kA); refine blk_far ?_ NB308_315.out _; (with_reducible repeat first | apply kN | apply kD | apply kA); refine blk_far ?_ NB308_315.out _; (with_reducible repeat first | apply kN | apply kD | apply kA); refine blk_far ?_ NB308_314.out _; (with_reducible repeat first | apply kN | apply kD | apply kA); refine blk_far ?_ NB308_314.out _; (with_reducible repeat first | apply kN | apply kD | apply kA); refine blk_far ?_ NB308_317.out _; (with_reducible repeat first | apply kN | apply kD | apply kA); refine blk_far ?_ NB308_317.out _; (with_reducible repeat first | apply kN | apply kD | apply kA); exact BK308.out⟩, ⟨by (with_reducible repeat first | apply kN | apply kD | apply kA); refine blk_far ?_ NB309_315.out _; (with_reducible repeat first | apply kN | apply kD | apply kA); refine blk_far ?_ NB309_315.out _; (with_reducible repeat first | apply kN | apply kD | apply kA); refine blk_far ?_ NB309_314.out _; (with_reducible repeat first | apply kN | apply kD | apply kA); refine blk_far ?_ NB309_314.out _; (with_reducible repeat first | apply kN | apply kD | apply kA); refine blk_far ?_ NB309_317.out _; (with_reducible repeat first | apply kN | apply kD | apply kA); refine blk_far ?_ NB309_317.out _; (with_reducible repeat first | apply kN | apply kD | apply kA); exact BK309.out⟩, ⟨by (with_reducible repeat first | apply kN | apply kD | apply kA); refine blk_far ?_ NB310_315.out _; (with_reducible repeat first | apply kN | apply kD | apply kA); refine blk_far ?_ NB310_315.out _; (with_reducible repeat first | apply kN | apply kD | apply kA); refine blk_far ?_ NB310_314.out _; (with_reducible repeat first | apply kN | apply kD | apply kA); refine blk_far ?_ NB310_314.out _; (with_reducible repeat first | apply kN | apply kD | apply kA); refine blk_far ?_ NB310_317.out _; (with_reducible repeat first | apply kN | apply kD | apply kA); refine blk_far ?_ NB310_317.out _; (with_reducible repeat first | apply kN | apply kD | apply kA); exact BK310.out⟩, ⟨by (with_reducible repeat first | apply kN | apply kD | apply kA); refine blk_far ?_ NB314_315.out _; (with_reducible repeat first | apply kN | apply kD | apply kA); refine blk_far ?_ NB314_315.out _; (with_reducible repeat first | apply kN | apply kD | apply kA); refine blk_put (cs := #[.int .i64 ji22, .int .i64 x315001_1]) ?_ 1 _ rfl; (with_reducible repeat first | apply kN | apply kD | apply kA); refine blk_put (cs := #[.int .i64 x315000_1, .int .i64 x315001_1]) ?_ 0 _ rfl; (with_reducible repeat first | apply kN | apply kD | apply kA); refine blk_far ?_ NB314_317.out _; (with_reducible repeat first | apply kN | apply kD | apply kA); refine blk_far ?_ NB314_317.out _; (with_reducible repeat first | apply kN | apply kD | apply kA); exact BK314.out⟩, ⟨by (with_reducible repeat first | apply kN | apply kD | apply kA); refine blk_put (cs := #[.int .i64 ji24, .int .i64 x316001_1]) ?_ 1 _ rfl; (with_reducible repeat first | apply kN | apply kD | apply kA); refine blk_put (cs := #[.int .i64 x316000_1, .int .i64 x316001_1]) ?_ 0 _ rfl; (with_reducible repeat first | apply kN | apply kD | apply kA); refine blk_far ?_ NB315_314.out _; (with_reducible repeat first | apply kN | apply kD | apply kA); refine blk_far ?_ NB315_314.out _; (with_reducible repeat first | apply kN | apply kD | apply kA); refine blk_far ?_ NB315_317.out _; (with_reducible repeat first | apply kN | apply kD | apply kA); refine blk_far ?_ NB315_317.out _; (with_reducible repeat first | apply kN | apply kD | apply kA); exact BK315.out⟩, ⟨bz⟩⟩
    ·
     rw [if_neg c20] at H
     have c20b0 := decide_eq_false c20
     clear c20
     simp only [Option.some.injEq, Prod.mk.injEq] at H
     obtain ⟨rfl, rfl, rfl, rfl, rfl⟩ := H
     have hnb45 := NB308_309.out
     have hnc45 := NB309_308.out
     have hnb46 := NB308_310.out
     have hnc46 := NB310_308.out
     have hnb47 := NB308_314.out
     have hnc47 := NB314_308.out
     have hnb48 := NB308_315.out
     have hnc48 := NB315_308.out
     obtain ⟨hcz49_0, hcz49_1, hfz49_0, hfz49_1⟩ := kc2 BK308.out
     try go_wp2
     have n0_ := am (blk_drew BK308.out)
     have n1_ := am (blk_drew BK309.out)
     have n2_ := am (blk_drew BK310.out)
     have n3_ := am (blk_drew BK314.out)
     have n4_ := am (blk_drew BK315.out)
     have n5_ := am (below_drew1 HB.out)
     clear BK308
     clear BK309
     clear BK310
     clear BK314
     clear BK315
     clear HB
     have BK308 := n0_
     have BK309 := n1_
     have BK310 := n2_
     have BK314 := n3_
     have BK315 := n4_
     have HB := n5_
     clear n0_ n1_ n2_ n3_ n4_ n5_
     refine start_ (n := 5) (S := fun w' => w'.cell? ⟨gb314, 0, none⟩ = some (.int .i64 x315000_1) ∧ w'.cell? ⟨gb314, 1, none⟩ = some (.int .i64 x315001_1) ∧ w'.cell? ⟨gb315, 0, none⟩ = some (.int .i64 x316000_1) ∧ w'.cell? ⟨gb315, 1, none⟩ = some (.int .i64 x316001_1)) (ds := []) (bm 5 0) qz rfl rfl ⟨(blk_cell BK314.out 0).trans rfl, (blk_cell BK314.out 1).trans rfl, (blk_cell BK315.out 0).trans rfl, (blk_cell BK315.out 1).trans rfl⟩ (fun hHeld => ?_)
     generalize wr.drew = w50 at BK308 BK309 BK310 BK314 BK315 HB hHeld ⊢
     refine take_ (i := 0) (N := some 62) (v := ?_) (a' := ?_) (bm 5 1) rfl rfl qz (fun _ _ _ h => h) (Or.inl ⟨by rfl, ?_⟩) hHeld ?_ ?_
     rotate_left
     ·
      rintro w' ⟨s0, s1, s2, s3⟩
      go_simp
      with_reducible rfl
     rotate_left
     ·
      simp only [Act.put, aS, lZ, lS, i64_w, i32_w]
      rfl
     refine take_ (i := 1) (N := some 63) (v := ?_) (a' := ?_) (bm 5 3) rfl rfl qz (fun _ _ _ h => h) (Or.inl ⟨by rfl, ?_⟩) hHeld ?_ ?_
     rotate_left
     ·
      rintro w' ⟨s0, s1, s2, s3⟩
      go_simp
      with_reducible rfl
     rotate_left
     ·
      simp only [Act.put, aS, lZ, lS, i64_w, i32_w]
      rfl
     refine one_ (i := 2) (N := none) (bm 5 7) rfl rfl qz (by decide) (fun K hK => ?_)
     have hs51 : w50.cell? ⟨gb309, 0, none⟩ = some (.int .i64 0) := (blk_cell BK309.out 0).trans rfl
     have hfs51 := blk_frozen BK309.out 0
     have hns51_0 := NB308_309.out
     have hns51_2 := NB310_309.out
     have hns51_3 := NB314_309.out
     have hns51_4 := NB315_309.out
     have hms51_0 := NB309_308.out
     have hms51_2 := NB309_310.out
     have hms51_3 := NB309_314.out
     have hms51_4 := NB309_315.out
     have hs52 : w50.cell? ⟨gb309, 1, none⟩ = some (.int .i64 0) := (blk_cell BK309.out 1).trans rfl
     have hfs52 := blk_frozen BK309.out 1
     have hns52_0 := NB308_309.out
     have hns52_2 := NB310_309.out
     have hns52_3 := NB314_309.out
     have hns52_4 := NB315_309.out
     have hms52_0 := NB309_308.out
     have hms52_2 := NB309_310.out
     have hms52_3 := NB309_314.out
     have hms52_4 := NB309_315.out
     refine skip_ (w1 := ?_) (by rfl) rfl ?_ ?_
     rotate_left
     ·
      go_simp
      rfl
     refine hK.out _ _ ⟨((cell_far (p := ⟨gb309, _, none⟩) NB314_309.out _).trans (((cell_far (p := ⟨gb309, _, none⟩) NB314_309.out _).trans (hHeld.1)))), ((cell_far (p := ⟨gb309, _, none⟩) NB314_309.out _).trans (((cell_far (p := ⟨gb309, _, none⟩) NB314_309.out _).trans (hHeld.2.1)))), ((cell_far (p := ⟨gb309, _, none⟩) NB315_309.out _).trans (((cell_far (p := ⟨gb309, _, none⟩) NB315_309.out _).trans (hHeld.2.2.1)))), ((cell_far (p := ⟨gb309, _, none⟩) NB315_309.out _).trans (((cell_far (p := ⟨gb309, _, none⟩) NB315_309.out _).trans (hHeld.2.2.2))))⟩ (fun hHeld => ?_)
     clear hK K
     refine one_ (i := 3) (N := none) (bm 5 15) rfl rfl qz (by decide) (fun K hK => ?_)
     have hs53 : w50.cell? ⟨gb310, 0, none⟩ = some (.int .i64 0) := (blk_cell BK310.out 0).trans rfl
     have hfs53 := blk_frozen BK310.out 0
     have hns53_0 := NB308_310.out
     have hns53_1 := NB309_310.out
     have hns53_3 := NB314_310.out
     have hns53_4 := NB315_310.out
     have hms53_0 := NB310_308.out
     have hms53_1 := NB310_309.out
     have hms53_3 := NB310_314.out
     have hms53_4 := NB310_315.out
     have hs54 : w50.cell? ⟨gb310, 1, none⟩ = some (.int .i64 0) := (blk_cell BK310.out 1).trans rfl
     have hfs54 := blk_frozen BK310.out 1
     have hns54_0 := NB308_310.out
     have hns54_1 := NB309_310.out
     have hns54_3 := NB314_310.out
     have hns54_4 := NB315_310.out
     have hms54_0 := NB310_308.out
     have hms54_1 := NB310_309.out
     have hms54_3 := NB310_314.out
     have hms54_4 := NB310_315.out
     refine skip_ (w1 := ?_) (by rfl) rfl ?_ ?_
     rotate_left
     ·
      go_simp
      rfl
     refine hK.out _ _ ⟨((cell_far (p := ⟨gb310, _, none⟩) NB314_310.out _).trans (((cell_far (p := ⟨gb310, _, none⟩) NB314_310.out _).trans (hHeld.1)))), ((cell_far (p := ⟨gb310, _, none⟩) NB314_310.out _).trans (((cell_far (p := ⟨gb310, _, none⟩) NB314_310.out _).trans (hHeld.2.1)))), ((cell_far (p := ⟨gb310, _, none⟩) NB315_310.out _).trans (((cell_far (p := ⟨gb310, _, none⟩) NB315_310.out _).trans (hHeld.2.2.1)))), ((cell_far (p := ⟨gb310, _, none⟩) NB315_310.out _).trans (((cell_far (p := ⟨gb310, _, none⟩) NB315_310.out _).trans (hHeld.2.2.2))))⟩ (fun hHeld => ?_)
     clear hK K
     refine pure_ (i := 4) (N := some 4) (v := ?_) (a' := ?_) (bm 5 31) rfl rfl qz (fun _ _ _ h => h) (Or.inl ⟨by rfl, ?_⟩) ?_ ?_
     rotate_left; (intro w'; go_simp; with_reducible rfl); rotate_left; (simp only [Act.put, aS, lZ, lS, i64_w, i32_w]; rfl)
     refine done_ qz ?_
     try go_wp2
     refine bodyPost_ret (results_list (rs := [.cell 2 35, .cell 3 35, .tmp 4]) rfl (by simp) (.cell gb309 35 #[.int .i64 x315000_1, .int .i64 x315001_1] (0, 0) _ rfl (by (with_reducible repeat first | apply kN | apply kD | apply kA); refine blk_far ?_ NB309_310.out _; (with_reducible repeat first | apply kN | apply kD | apply kA); refine blk_far ?_ NB309_310.out _; (with_reducible repeat first | apply kN | apply kD | apply kA); refine blk_put (cs := #[.int .i64 x315000_1, .int .i64 0]) ?_ 1 _ rfl; (with_reducible repeat first | apply kN | apply kD | apply kA); refine blk_put (cs := #[.int .i64 0, .int .i64 0]) ?_ 0 _ rfl; (with_reducible repeat first | apply kN | apply kD | apply kA); exact BK309.out) Try.underlying35 rfl qz (.cell gb310 35 #[.int .i64 x316000_1, .int .i64 x316001_1] (0, 0) _ rfl (by (with_reducible repeat first | apply kN | apply kD | apply kA); refine blk_put (cs := #[.int .i64 x316000_1, .int .i64 0]) ?_ 1 _ rfl; (with_reducible repeat first | apply kN | apply kD | apply kA); refine blk_put (cs := #[.int .i64 0, .int .i64 0]) ?_ 0 _ rfl; (with_reducible repeat first | apply kN | apply kD | apply kA); refine blk_far ?_ NB310_309.out _; (with_reducible repeat first | apply kN | apply kD | apply kA); refine blk_far ?_ NB310_309.out _; (with_reducible repeat first | apply kN | apply kD | apply kA); exact BK310.out) Try.underlying35 rfl qz (.tmp .nil)))) rfl ?_
     exact ⟨ez, bz⟩
 ·
  rw [if_neg c3] at H
  have c3b0 : (t311 == 0) = false := beq_eq_false_iff_ne.mpr c3
  have c3b1 : (t311 != 0) = true := bne_iff_ne.mpr c3
  simp only [Option.some.injEq, Prod.mk.injEq] at H
  obtain ⟨rfl, rfl, rfl, rfl, rfl⟩ := H
  go_enter Try.func16, Try.ntmps16
  go_wp2_with (first | ((with_reducible refine gate_dst (N := 1) rfl ?_); refine box_event yz (N := 1) yz (cs := #[.slice A0_0 l0_0.length c0_0, .slice A0_1 l0_1.length c0_1]) (t := 25) gz ?_; intro gb308 hg w55 hbox hb; have BK308 := am (hbox); have GW308 := gwz (g := gb308) HB hg; have GE308 := GW308; replace HB := am (below_step bz hb); clear hb hbox hg) | ((with_reducible refine gate_dst (N := 2) rfl ?_); refine box_event yz (N := 2) yz (cs := #[.int .i64 0, .int .i64 0]) (t := 35) gz ?_; intro gb309 hg w56 hbox hb; have BK309 := am (hbox); have GW309 := gwz (g := gb309) HB hg; have GE309 := GW309; replace HB := am (below_step bz hb); have NB308_309 := nlt (g' := gb309) BK308 hg; have NB309_308 := ngt (g' := gb309) BK308 hg; replace BK308 := am (blk_below (o := .cells #[.slice A0_0 l0_0.length c0_0, .slice A0_1 l0_1.length c0_1] 25 (0, 0)) (kz BK308) hb); clear hb hbox hg) | ((with_reducible refine gate_dst (N := 3) rfl ?_); refine box_event yz (N := 3) yz (cs := #[.int .i64 0, .int .i64 0]) (t := 35) gz ?_; intro gb310 hg w57 hbox hb; have BK310 := am (hbox); have GW310 := gwz (g := gb310) HB hg; have GE310 := GW310; replace HB := am (below_step bz hb); have NB308_310 := nlt (g' := gb310) BK308 hg; have NB310_308 := ngt (g' := gb310) BK308 hg; replace BK308 := am (blk_below (o := .cells #[.slice A0_0 l0_0.length c0_0, .slice A0_1 l0_1.length c0_1] 25 (0, 0)) (kz BK308) hb); have NB309_310 := nlt (g' := gb310) BK309 hg; have NB310_309 := ngt (g' := gb310) BK309 hg; replace BK309 := am (blk_below (o := .cells #[.int .i64 0, .int .i64 0] 35 (0, 0)) (kz BK309) hb); clear hb hbox hg; have hnb58 := NB308_309.out; have hnc58 := NB309_308.out; have hnb59 := NB308_310.out; have hnc59 := NB310_308.out; obtain ⟨hcz60_0, hcz60_1, hfz60_0, hfz60_1⟩ := kc2 BK308.out) | ((with_reducible refine gate_callee (f := 28) rfl ?_); refine goesL_ (some 11) rfl rfl Try.func28 qz rfl #[.agg #[.slice A0_0 l0_0.length c0_0, .slice A0_1 l0_1.length c0_1]] rfl mz ?_; (with_reducible refine (dancestudioref29_Check.calls k _ _ l0_0 _ _ l0_1 t311 _ ?side1 ?side2 ?side3 ?side4 A2.out).mono ?_); (case side1 => exact cz HR0_0); (case side2 => exact HC0_0.out); (case side3 => exact cz HR0_1); (case side4 => exact HC0_1.out); rintro e w61 ⟨rfl, hb⟩; refine ⟨_, rfl, ?_⟩; replace BK308 := am (blk_below (o := .cells #[.slice A0_0 l0_0.length c0_0, .slice A0_1 l0_1.length c0_1] 25 (0, 0)) (kz BK308) hb); replace BK309 := am (blk_below (o := .cells #[.int .i64 0, .int .i64 0] 35 (0, 0)) (kz BK309) hb); replace BK310 := am (blk_below (o := .cells #[.int .i64 0, .int .i64 0] 35 (0, 0)) (kz BK310) hb); replace HB := am (below_step bz hb); (try clear hb); (try clear hb2); (try clear hk); (try clear hi); have hnb62 := NB309_310.out; have hnc62 := NB310_309.out; obtain ⟨hcz63_0, hcz63_1, hfz63_0, hfz63_1⟩ := kc2 BK309.out; obtain ⟨hcz64_0, hcz64_1, hfz64_0, hfz64_1⟩ := kc2 BK310.out))
  refine bodyPost_ret (results_list (rs := [.cell 2 35, .cell 3 35, .tmp 4]) rfl (by simp) (.cell gb309 35 #[.int .i64 0, .int .i64 0] (0, 0) _ rfl (by (with_reducible repeat first | apply kN | apply kD | apply kA); refine blk_far ?_ NB309_310.out _; (with_reducible repeat first | apply kN | apply kD | apply kA); refine blk_far ?_ NB309_310.out _; (with_reducible repeat first | apply kN | apply kD | apply kA); refine blk_put (cs := #[.int .i64 0, .int .i64 0]) ?_ 1 _ rfl; (with_reducible repeat first | apply kN | apply kD | apply kA); refine blk_put (cs := #[.int .i64 0, .int .i64 0]) ?_ 0 _ rfl; (with_reducible repeat first | apply kN | apply kD | apply kA); exact BK309.out) Try.underlying35 rfl qz (.cell gb310 35 #[.int .i64 0, .int .i64 0] (0, 0) _ rfl (by (with_reducible repeat first | apply kN | apply kD | apply kA); refine blk_put (cs := #[.int .i64 0, .int .i64 0]) ?_ 1 _ rfl; (with_reducible repeat first | apply kN | apply kD | apply kA); refine blk_put (cs := #[.int .i64 0, .int .i64 0]) ?_ 0 _ rfl; (with_reducible repeat first | apply kN | apply kD | apply kA); refine blk_far ?_ NB310_309.out _; (with_reducible repeat first | apply kN | apply kD | apply kA); refine blk_far ?_ NB310_309.out _; (with_reducible repeat first | apply kN | apply kD | apply kA); exact BK310.out) Try.underlying35 rfl qz (.tmp .nil)))) rfl ?_
  exact ⟨ez, bz⟩

end Go.Proofs.Ytmdmajfgpmopbaa.X
