import Derived.Test.YtmdmajfgpmopbaaX0
import Derived.Test.YtmdmajfgpmopbaaX10
namespace Go.Proofs.Ytmdmajfgpmopbaa.X
open Go.RowKit YtmdmajfgpmopbaaW.PrintWords YtmdmajfgpmopbaaW.PrintLast YtmdmajfgpmopbaaW.PrintMore
attribute [local go_sem] max2_int min2_int max_two min_two max_three min_three max_four min_four
set_option linter.unusedVariables false
set_option linter.unusedSimpArgs false

/-! ### floor_Box: function 15 -/
def floor_Box.l0 : Nat → List (S53) → Int → Int → Int → Int → Int → Int → Option (Int × Int × Int × Int × Int)
 | 0, _, _, _, _, _, _, _ => none
 | k + 1, x28, x29, x30, x155000, x155001, x156000, x156001 => if x30 < x29 then (if 0 ≤ x30 then (if x30 < (x28.length : Int) then (floor_Box.l0 k x28 x29 (wrap64 (x30 + 1)) (mn x155000 ((rd_T53 x28 x30).f0.f0)) (mn x155001 ((rd_T53 x28 x30).f0.f1)) (mx x156000 ((rd_T53 x28 x30).f0.f0)) (mx x156001 ((rd_T53 x28 x30).f0.f1))) else (none)) else (none)) else (some (x155000, x155001, x156000, x156001, 0))
def floor_Box.f (k : Nat) (l0_0 : List (S53)) (l0_1 : List Int) : Option (Int × Int × Int × Int × Int) := (movement_Check.f k l0_0 l0_1).bind fun t151 => (if t151 = 0 then (if 0 < (l0_0.length : Int) then (floor_Box.l0 k l0_0 (l0_0.length : Int) 0 ((rd_T53 l0_0 0).f0.f0) ((rd_T53 l0_0 0).f0.f1) ((rd_T53 l0_0 0).f0.f0) ((rd_T53 l0_0 0).f0.f1)) else (none)) else (some (0, 0, 0, 0, t151)))
theorem floor_Box.mono_l : ∀ k, (∀ y0 y1 y2 y3 y4 y5 y6, LeO (floor_Box.l0 k y0 y1 y2 y3 y4 y5 y6) (floor_Box.l0 (k + 1) y0 y1 y2 y3 y4 y5 y6))
 | 0 => fun _ _ _ _ _ _ _ r h => by simp [floor_Box.l0] at h
 | k + 1 => by
  have ih0 := floor_Box.mono_l k
  ·
   intro y0 y1 y2 y3 y4 y5 y6
   unfold floor_Box.l0
   repeat' first
   | (with_reducible exact ih0 _ _ _ _ _ _ _)
   | (with_reducible exact movement_Check.mono _ _ _)
   | (with_reducible exact LeO.refl _)
   | (with_reducible exact LeO.none _)
   | (with_reducible refine LeO.ite ?_ ?_)
   | (with_reducible refine LeO.bind ?_ (fun _ => ?_))
   | exact ih0 _ _ _ _ _ _ _
   | exact movement_Check.mono _ _ _
   | exact LeO.none _
   | refine LeO.ite ?_ ?_
   | refine LeO.bind ?_ (fun _ => ?_)
theorem floor_Box.mono : ∀ a0 a1 k, LeO (floor_Box.f k a0 a1) (floor_Box.f (k + 1) a0 a1) := by
 intro a0 a1 k
 have ih0 := floor_Box.mono_l k
 unfold floor_Box.f
 repeat' first
   | (with_reducible exact ih0 _ _ _ _ _ _ _)
   | (with_reducible exact movement_Check.mono _ _ _)
   | (with_reducible exact LeO.refl _)
   | (with_reducible exact LeO.none _)
   | (with_reducible refine LeO.ite ?_ ?_)
   | (with_reducible refine LeO.bind ?_ (fun _ => ?_))
   | exact ih0 _ _ _ _ _ _ _
   | exact movement_Check.mono _ _ _
   | exact LeO.none _
   | refine LeO.ite ?_ ?_
   | refine LeO.bind ?_ (fun _ => ?_)
def floor_Box.T4 : Bool × List (List Nat × List Nat) := (true, [([], []), ([0], [0]), ([1], [1]), ([2], [2]), ([3], [3]), ([], []), ([5], [5]), ([6], [6]), ([7], [7]), ([8], [8]), ([], []), ([], []), ([10, 4, 0, 1, 2, 3, 4, 10, 11], [4, 10]), ([11, 9, 12, 0, 1, 2, 3, 4, 5, 6, 7, 8, 9, 10, 11, 12], [9, 11])])
def floor_Box.B4 : List Nat := [0, 1, 3, 7, 15, 0, 32, 96, 224, 480, 0, 0, 3103, 8191]
theorem floor_Box.tab4 : rtab .any (opsOf Try.f15 4) = floor_Box.T4 := by kernel_rfl
theorem floor_Box.bits4 : waitsOk floor_Box.T4.2 floor_Box.B4 = true := by kernel_rfl
set_option maxHeartbeats 8000000 in
set_option maxRecDepth 100000 in
theorem floor_Box.calls (k : Nat) (A0_0 : Option Addr) (c0_0 : Nat) (l0_0 : List (S53)) (A0_1 : Option Addr) (c0_1 : Nat) (l0_1 : List Int) (r1 r2 r3 r4 r5 : Int) (w : World) (hr0_0 : Kd.C k53 w A0_0 l0_0.length l0_0) (hc0_0 : l0_0.length ≤ c0_0) (hr0_1 : Kd.C (Kd.int .i64) w A0_1 l0_1.length l0_1) (hc0_1 : l0_1.length ≤ c0_1) (h : floor_Box.f k l0_0 l0_1 = some (r1, r2, r3, r4, r5)) :
  Calls Try.prog 15 #[.agg #[.slice A0_0 l0_0.length c0_0, .slice A0_1 l0_1.length c0_1]] w fun e w' => e = .returned (.tuple #[.agg #[.int .i64 r1, .int .i64 r2], .agg #[.int .i64 r3, .int .i64 r4], .int .i64 r5]) ∧ Below w.heap.size w w' := by
 have hu25 := Try.underlying25
 have hu35 := Try.underlying35
 have hu53 := Try.underlying53
 have HR0_0 := am hr0_0
 have HC0_0 := am hc0_0
 clear hr0_0 hc0_0
 have HR0_1 := am hr0_1
 have HC0_1 := am hc0_1
 clear hr0_1 hc0_1
 have HB := am (Below.refl w.heap.size w)
 have H : ((movement_Check.f k l0_0 l0_1).bind fun t151 => (if t151 = 0 then (if 0 < (l0_0.length : Int) then (floor_Box.l0 k l0_0 (l0_0.length : Int) 0 ((rd_T53 l0_0 0).f0.f0) ((rd_T53 l0_0 0).f0.f1) ((rd_T53 l0_0 0).f0.f0) ((rd_T53 l0_0 0).f0.f1)) else (none)) else (some (0, 0, 0, 0, t151)))) = some (r1, r2, r3, r4, r5) := h
 clear h
 replace H := Option.bind_eq_some_iff.mp H
 obtain ⟨t151, A20, H⟩ := H
 replace H : (if t151 = 0 then (if 0 < (l0_0.length : Int) then (floor_Box.l0 k l0_0 (l0_0.length : Int) 0 ((rd_T53 l0_0 0).f0.f0) ((rd_T53 l0_0 0).f0.f1) ((rd_T53 l0_0 0).f0.f0) ((rd_T53 l0_0 0).f0.f1)) else (none)) else (some (0, 0, 0, 0, t151))) = some (r1, r2, r3, r4, r5) := H
 have A2 := am A20
 clear A20
 by_cases c3 : t151 = 0
 ·
  rw [if_pos c3] at H
  have c3b0 : (t151 == 0) = true := beq_iff_eq.mpr c3
  have c3b1 : (t151 != 0) = false := bne_eq_false_iff_eq.mpr c3
  clear c3
  by_cases c4 : 0 < (l0_0.length : Int); rotate_left
  · rw [if_neg c4] at H; exact absurd H (by simp)
  rw [if_pos c4] at H
  have c4b0 := decide_eq_true c4
  have c4b1 : decide (0 < l0_0.length) = true := decide_eq_true (by omega)
  clear c4
  have H' := am H
  clear H
  go_enter Try.func15, Try.ntmps15
  try go_wp2_with (first | ((with_reducible refine gate_dst (N := 1) rfl ?_); refine box_event yz (N := 1) yz (cs := #[.slice A0_0 l0_0.length c0_0, .slice A0_1 l0_1.length c0_1]) (t := 25) gz ?_; intro gb148 hg w5 hbox hb; have BK148 := am (hbox); have GW148 := gwz (g := gb148) HB hg; have GE148 := GW148; replace HB := am (below_step bz hb); clear hb hbox hg) | ((with_reducible refine gate_dst (N := 2) rfl ?_); refine box_event yz (N := 2) yz (cs := #[.int .i64 0, .int .i64 0]) (t := 35) gz ?_; intro gb149 hg w6 hbox hb; have BK149 := am (hbox); have GW149 := gwz (g := gb149) HB hg; have GE149 := GW149; replace HB := am (below_step bz hb); have NB148_149 := nlt (g' := gb149) BK148 hg; have NB149_148 := ngt (g' := gb149) BK148 hg; replace BK148 := am (blk_below (o := .cells #[.slice A0_0 l0_0.length c0_0, .slice A0_1 l0_1.length c0_1] 25 (0, 0)) (kz BK148) hb); clear hb hbox hg) | ((with_reducible refine gate_dst (N := 3) rfl ?_); refine box_event yz (N := 3) yz (cs := #[.int .i64 0, .int .i64 0]) (t := 35) gz ?_; intro gb150 hg w7 hbox hb; have BK150 := am (hbox); have GW150 := gwz (g := gb150) HB hg; have GE150 := GW150; replace HB := am (below_step bz hb); have NB148_150 := nlt (g' := gb150) BK148 hg; have NB150_148 := ngt (g' := gb150) BK148 hg; replace BK148 := am (blk_below (o := .cells #[.slice A0_0 l0_0.length c0_0, .slice A0_1 l0_1.length c0_1] 25 (0, 0)) (kz BK148) hb); have NB149_150 := nlt (g' := gb150) BK149 hg; have NB150_149 := ngt (g' := gb150) BK149 hg; replace BK149 := am (blk_below (o := .cells #[.int .i64 0, .int .i64 0] 35 (0, 0)) (kz BK149) hb); clear hb hbox hg; have hnb8 := NB148_149.out; have hnc8 := NB149_148.out; have hnb9 := NB148_150.out; have hnc9 := NB150_148.out; obtain ⟨hcz10_0, hcz10_1, hfz10_0, hfz10_1⟩ := kc2 BK148.out) | ((with_reducible refine gate_callee (f := 21) rfl ?_); refine goesL_ (some 11) rfl rfl Try.func21 qz rfl #[.agg #[.slice A0_0 l0_0.length c0_0, .slice A0_1 l0_1.length c0_1]] rfl mz ?_; (with_reducible refine (movement_Check.calls k _ _ l0_0 _ _ l0_1 t151 _ ?side1 ?side2 ?side3 ?side4 A2.out).mono ?_); (case side1 => exact cz HR0_0); (case side2 => exact HC0_0.out); (case side3 => exact cz HR0_1); (case side4 => exact HC0_1.out); rintro e w11 ⟨rfl, hb⟩; refine ⟨_, rfl, ?_⟩; replace BK148 := am (blk_below (o := .cells #[.slice A0_0 l0_0.length c0_0, .slice A0_1 l0_1.length c0_1] 25 (0, 0)) (kz BK148) hb); replace BK149 := am (blk_below (o := .cells #[.int .i64 0, .int .i64 0] 35 (0, 0)) (kz BK149) hb); replace BK150 := am (blk_below (o := .cells #[.int .i64 0, .int .i64 0] 35 (0, 0)) (kz BK150) hb); replace HB := am (below_step bz hb); (try clear hb); (try clear hb2); (try clear hk); (try clear hi)))
  have n0_ := am (blk_drew BK148.out)
  have n1_ := am (blk_drew BK149.out)
  have n2_ := am (blk_drew BK150.out)
  have n3_ := am (below_drew1 HB.out)
  clear BK148
  clear BK149
  clear BK150
  clear HB
  have BK148 := n0_
  have BK149 := n1_
  have BK150 := n2_
  have HB := n3_
  clear n0_ n1_ n2_ n3_
  have p152 : 0 ≤ (0 : Int) := (by omega)
  have q152 : 0 < (l0_0.length : Int) := az
  obtain ⟨ad152, e152, hx152_0, hx152_1, _, _, _, _, _, _, _, _, _, _, _, _, _, _, _, _, _, _, _, _⟩ := at_T53 HR0_0.out 0 p152 q152
  have hw152_1 := hx152_1
  (try rw [show ((0 : Int)).toNat = 0 from rfl] at hw152_1)
  (try rw [show 0 * 22 = 0 from rfl] at hw152_1)
  (try rw [Addr.add_zero'] at hw152_1)
  have hw152_0 := hx152_0
  (try rw [show ((0 : Int)).toNat = 0 from rfl] at hw152_0)
  (try rw [show 0 * 22 = 0 from rfl] at hw152_0)
  (try rw [Addr.add_zero'] at hw152_0)
  cases e152
  have qi152 : (0 < l0_0.length) = True := eq_true (by omega)
  (try rw [show ((0 : Int)).toNat = 0 from rfl] at hx152_0)
  (try rw [show 0 * 22 = 0 from rfl] at hx152_0)
  (try rw [Addr.add_zero'] at hx152_0)
  (try rw [show ((0 : Int)).toNat = 0 from rfl] at hx152_1)
  (try rw [show 0 * 22 = 0 from rfl] at hx152_1)
  (try rw [Addr.add_zero'] at hx152_1)
  replace hx152_0 := cb HB.out hx152_0
  replace hx152_1 := cb HB.out hx152_1
  replace p152 := eq_true p152
  replace q152 := eq_true q152
  have p153 : 0 ≤ (0 : Int) := (by omega)
  have q153 : 0 < (l0_0.length : Int) := az
  obtain ⟨ad153, e153, hx153_0, hx153_1, _, _, _, _, _, _, _, _, _, _, _, _, _, _, _, _, _, _, _, _⟩ := at_T53 HR0_0.out 0 p153 q153
  have hw153_1 := hx153_1
  (try rw [show ((0 : Int)).toNat = 0 from rfl] at hw153_1)
  (try rw [show 0 * 22 = 0 from rfl] at hw153_1)
  (try rw [Addr.add_zero'] at hw153_1)
  have hw153_0 := hx153_0
  (try rw [show ((0 : Int)).toNat = 0 from rfl] at hw153_0)
  (try rw [show 0 * 22 = 0 from rfl] at hw153_0)
  (try rw [Addr.add_zero'] at hw153_0)
  obtain rfl : ad152 = ad153 := (by injection e153)
  have qi153 : (0 < l0_0.length) = True := eq_true (by omega)
  (try rw [show ((0 : Int)).toNat = 0 from rfl] at hx153_0)
  (try rw [show 0 * 22 = 0 from rfl] at hx153_0)
  (try rw [Addr.add_zero'] at hx153_0)
  (try rw [show ((0 : Int)).toNat = 0 from rfl] at hx153_1)
  (try rw [show 0 * 22 = 0 from rfl] at hx153_1)
  (try rw [Addr.add_zero'] at hx153_1)
  replace hx153_0 := cb HB.out hx153_0
  replace hx153_1 := cb HB.out hx153_1
  replace p153 := eq_true p153
  replace q153 := eq_true q153
  refine start_ (n := 14) (S := fun w' => w'.cell? ⟨gb148, 0, none⟩ = some (.slice (some ad152) l0_0.length c0_0) ∧ w'.cell? ⟨gb148, 1, none⟩ = some (.slice A0_1 l0_1.length c0_1) ∧ w'.cell? ad152 = some (.int .i64 ((rd_T53 l0_0 0).f0.f0)) ∧ w'.cell? ⟨ad152.block, ad152.off + 1, none⟩ = some (.int .i64 ((rd_T53 l0_0 0).f0.f1)) ∧ w'.cell? ad152 = some (.int .i64 ((rd_T53 l0_0 0).f0.f0)) ∧ w'.cell? ⟨ad152.block, ad152.off + 1, none⟩ = some (.int .i64 ((rd_T53 l0_0 0).f0.f1))) (ds := []) (bm 14 0) qz rfl rfl ⟨(blk_cell BK148.out 0).trans rfl, (blk_cell BK148.out 1).trans rfl, (cb HB.out hw152_0), (cb HB.out hw152_1), (cb HB.out hw153_0), (cb HB.out hw153_1)⟩ (fun hHeld => ?_); refine with_tabW floor_Box.tab4 floor_Box.bits4 (fun HT_ HW_ => ?_)
  generalize w11.drew = w12 at BK148 BK149 BK150 HB hx152_0 hx152_1 hx153_0 hx153_1 hHeld ⊢
  refine pa (i := 0) (N := some 17) (bm 14 1) HT_ ?_
  refine pa (i := 5) (N := some 22) (bm 14 33) HT_ ?_
  refine take_ (i := 1) (N := some 18) (v := ?_) (a' := ?_) (bm 14 35) rfl rfl (take_ofW HT_.out HW_.out qz) iz (Or.inl ⟨by rfl, ?_⟩) hHeld ?_ ?_
  rotate_left
  ·
   rintro w' ⟨s0, s1, s2, s3, s4, s5⟩
   go_simp
   with_reducible rfl
  rotate_left
  ·
   simp only [Act.put, aS, lZ, lS, i64_w, i32_w]
   rfl
  refine pa (i := 2) (N := some 19) (bm 14 39) HT_ ?_
  refine pa (i := 3) (N := some 20) (bm 14 47) HT_ ?_
  refine take_ (i := 4) (N := some 21) (v := ?_) (a' := ?_) (bm 14 63) rfl rfl (take_ofW HT_.out HW_.out qz) iz (Or.inl ⟨by rfl, ?_⟩) hHeld ?_ ?_
  rotate_left
  ·
   rintro w' ⟨s0, s1, s2, s3, s4, s5⟩
   go_simp
   with_reducible rfl
  rotate_left
  ·
   simp only [Act.put, aS, lZ, lS, i64_w, i32_w]
   rfl
  refine take_ (i := 6) (N := some 23) (v := ?_) (a' := ?_) (bm 14 127) rfl rfl (take_ofW HT_.out HW_.out qz) iz (Or.inl ⟨by rfl, ?_⟩) hHeld ?_ ?_
  rotate_left
  ·
   rintro w' ⟨s0, s1, s2, s3, s4, s5⟩
   go_simp
   with_reducible rfl
  rotate_left
  ·
   simp only [Act.put, aS, lZ, lS, i64_w, i32_w]
   rfl
  refine pa (i := 7) (N := some 24) (bm 14 255) HT_ ?_
  refine pa (i := 8) (N := some 25) (bm 14 511) HT_ ?_
  refine take_ (i := 9) (N := some 26) (v := ?_) (a' := ?_) (bm 14 1023) rfl rfl (take_ofW HT_.out HW_.out qz) iz (Or.inl ⟨by rfl, ?_⟩) hHeld ?_ ?_
  rotate_left
  ·
   rintro w' ⟨s0, s1, s2, s3, s4, s5⟩
   go_simp
   with_reducible rfl
  rotate_left
  ·
   simp only [Act.put, aS, lZ, lS, i64_w, i32_w]
   rfl
  refine join_ (σ := Nat × Nat) 2 (bm 14 4095) (fun s_ => [(6, .pointer (some ⟨s_.1, 0, none⟩)), (7, .pointer (some ⟨s_.2, 0, none⟩))]) (fun s_ w' => (w'.cell? ⟨gb148, 0, none⟩ = some (.slice (some ad152) l0_0.length c0_0) ∧ w'.cell? ⟨gb148, 1, none⟩ = some (.slice A0_1 l0_1.length c0_1) ∧ w'.cell? ad152 = some (.int .i64 ((rd_T53 l0_0 0).f0.f0)) ∧ w'.cell? ⟨ad152.block, ad152.off + 1, none⟩ = some (.int .i64 ((rd_T53 l0_0 0).f0.f1)) ∧ w'.cell? ad152 = some (.int .i64 ((rd_T53 l0_0 0).f0.f0)) ∧ w'.cell? ⟨ad152.block, ad152.off + 1, none⟩ = some (.int .i64 ((rd_T53 l0_0 0).f0.f1))) ∧ (w'.heap[gb148]? = some (.cells #[.slice (some ad152) l0_0.length c0_0, .slice A0_1 l0_1.length c0_1] 25 (0, 0))) ∧ (w'.heap[gb149]? = some (.cells #[.int .i64 0, .int .i64 0] 35 (0, 0))) ∧ (w'.heap[gb150]? = some (.cells #[.int .i64 0, .int .i64 0] 35 (0, 0))) ∧ (w'.heap[s_.1]? = some (.cells #[.int .i64 0, .int .i64 0] 35 (0, 0))) ∧ (w'.heap[s_.2]? = some (.cells #[.int .i64 0, .int .i64 0] 35 (0, 0))) ∧ (w.heap.size ≤ s_.1) ∧ (w.heap.size ≤ s_.1) ∧ (gb148 ≠ s_.1) ∧ (s_.1 ≠ gb148) ∧ (gb149 ≠ s_.1) ∧ (s_.1 ≠ gb149) ∧ (gb150 ≠ s_.1) ∧ (s_.1 ≠ gb150) ∧ (s_.2 ≠ s_.1) ∧ (s_.1 ≠ s_.2) ∧ (w.heap.size ≤ s_.2) ∧ (w.heap.size ≤ s_.2) ∧ (gb148 ≠ s_.2) ∧ (s_.2 ≠ gb148) ∧ (gb149 ≠ s_.2) ∧ (s_.2 ≠ gb149) ∧ (gb150 ≠ s_.2) ∧ (s_.2 ≠ gb150) ∧ (Below w.heap.size w w')) ?_ ?_
  rotate_left
  ·
   intro hCont
   refine two_ (i := 10) (j := 11) (Ni := some 6) (Nj := some 7) (bm 14 2047) (bm 14 3071) rfl rfl rfl rfl (two_of HT_.out qz) (by decide) (by decide) (fun K hK => ?_) (fun K hK => ?_)
   ·
    skip
    refine box_step ?hg (N := 6) ?hd (cs := #[.int .i64 0, .int .i64 0]) (t := 35) ?hr ?_; (case hd => rfl); (case hg => rfl); (case hr => first | (go_simp; done) | (go_simp; rfl))
    intro gb154 hg w13 hbox hb
    have n0_ := am (blk_below (o := .cells #[.slice (some ad152) l0_0.length c0_0, .slice A0_1 l0_1.length c0_1] 25 (0, 0)) (kz BK148) hb)
    have n1_ := am (blk_below (o := .cells #[.int .i64 0, .int .i64 0] 35 (0, 0)) (kz BK149) hb)
    have n2_ := am (blk_below (o := .cells #[.int .i64 0, .int .i64 0] 35 (0, 0)) (kz BK150) hb)
    have n3_ := am (below_step bz hb)
    have n4_ := am (hbox)
    have n5_ := gwz (g := gb154) HB hg
    have n6_ := gwz (g := gb154) HB hg
    have n7_ := nlt (g' := gb154) BK148 hg
    have n8_ := ngt (g' := gb154) BK148 hg
    have n9_ := nlt (g' := gb154) BK149 hg
    have n10_ := ngt (g' := gb154) BK149 hg
    have n11_ := nlt (g' := gb154) BK150 hg
    have n12_ := ngt (g' := gb154) BK150 hg
    clear BK148
    clear BK149
    clear BK150
    clear HB
    have BK148 := n0_
    have BK149 := n1_
    have BK150 := n2_
    have HB := n3_
    have BK154 := n4_
    have GW154 := n5_
    have GE154 := n6_
    have NB148_154 := n7_
    have NB154_148 := n8_
    have NB149_154 := n9_
    have NB154_149 := n10_
    have NB150_154 := n11_
    have NB154_150 := n12_
    clear n0_ n1_ n2_ n3_ n4_ n5_ n6_ n7_ n8_ n9_ n10_ n11_ n12_
    clear hb hbox hg
    refine hK.out _ _ ⟨(blk_cell BK148.out 0).trans rfl, (blk_cell BK148.out 1).trans rfl, (cb HB.out hw152_0), (cb HB.out hw152_1), (cb HB.out hw153_0), (cb HB.out hw153_1)⟩ (fun hHeld => ?_)
    clear hK K
    refine norm_ (a' := ?_) ?_ ?_
    rotate_left
    ·
     show Act.put _ (some 6) _ = _
     simp only [Act.put, aS, lZ, lS, i64_w, i32_w]
     rfl
    refine one_ (i := 11) (N := some 7) (bm 14 4095) rfl rfl (one_of HT_.out qz) (by decide) (fun K hK => ?_)
    refine box_step ?hg (N := 7) ?hd (cs := #[.int .i64 0, .int .i64 0]) (t := 35) ?hr ?_; (case hd => rfl); (case hg => rfl); (case hr => first | (go_simp; done) | (go_simp; rfl))
    intro gb155 hg w14 hbox hb
    have n0_ := am (blk_below (o := .cells #[.slice (some ad152) l0_0.length c0_0, .slice A0_1 l0_1.length c0_1] 25 (0, 0)) (kz BK148) hb)
    have n1_ := am (blk_below (o := .cells #[.int .i64 0, .int .i64 0] 35 (0, 0)) (kz BK149) hb)
    have n2_ := am (blk_below (o := .cells #[.int .i64 0, .int .i64 0] 35 (0, 0)) (kz BK150) hb)
    have n3_ := am (blk_below (o := .cells #[.int .i64 0, .int .i64 0] 35 (0, 0)) (kz BK154) hb)
    have n4_ := am (below_step bz hb)
    have n5_ := am (hbox)
    have n6_ := gwz (g := gb155) HB hg
    have n7_ := gwz (g := gb155) HB hg
    have n8_ := nlt (g' := gb155) BK148 hg
    have n9_ := ngt (g' := gb155) BK148 hg
    have n10_ := nlt (g' := gb155) BK149 hg
    have n11_ := ngt (g' := gb155) BK149 hg
    have n12_ := nlt (g' := gb155) BK150 hg
    have n13_ := ngt (g' := gb155) BK150 hg
    have n14_ := nlt (g' := gb155) BK154 hg
    have n15_ := ngt (g' := gb155) BK154 hg
    clear BK148
    clear BK149
    clear BK150
    clear BK154
    clear HB
    have BK148 := n0_
    have BK149 := n1_
    have BK150 := n2_
    have BK154 := n3_
    have HB := n4_
    have BK155 := n5_
    have GW155 := n6_
    have GE155 := n7_
    have NB148_155 := n8_
    have NB155_148 := n9_
    have NB149_155 := n10_
    have NB155_149 := n11_
    have NB150_155 := n12_
    have NB155_150 := n13_
    have NB154_155 := n14_
    have NB155_154 := n15_
    clear n0_ n1_ n2_ n3_ n4_ n5_ n6_ n7_ n8_ n9_ n10_ n11_ n12_ n13_ n14_ n15_
    clear hb hbox hg
    refine hK.out _ _ ⟨(blk_cell BK148.out 0).trans rfl, (blk_cell BK148.out 1).trans rfl, (cb HB.out hw152_0), (cb HB.out hw152_1), (cb HB.out hw153_0), (cb HB.out hw153_1)⟩ (fun hHeld => ?_)
    clear hK K
    refine norm_ (a' := ?_) ?_ ?_
    rotate_left
    ·
     show Act.put _ (some 7) _ = _
     simp only [Act.put, aS, lZ, lS, i64_w, i32_w]
     rfl
    exact norm_ (by simp only [putAll, Act.put, List.setIfInBounds_toArray, List.set_cons_zero, List.set_cons_succ]) (hCont (gb154, gb155) _ ⟨hHeld, (kz BK148), (kz BK149), (kz BK150), (kz BK154), (kz BK155), GW154.out, GE154.out, NB148_154.out, NB154_148.out, NB149_154.out, NB154_149.out, NB150_154.out, NB154_150.out, NB155_154.out, NB154_155.out, GW155.out, GE155.out, NB148_155.out, NB155_148.out, NB149_155.out, NB155_149.out, NB150_155.out, NB155_150.out, bz⟩)
   ·
    skip
    refine box_step ?hg (N := 7) ?hd (cs := #[.int .i64 0, .int .i64 0]) (t := 35) ?hr ?_; (case hd => rfl); (case hg => rfl); (case hr => first | (go_simp; done) | (go_simp; rfl))
    intro gb155 hg w13 hbox hb
    have n0_ := am (blk_below (o := .cells #[.slice (some ad152) l0_0.length c0_0, .slice A0_1 l0_1.length c0_1] 25 (0, 0)) (kz BK148) hb)
    have n1_ := am (blk_below (o := .cells #[.int .i64 0, .int .i64 0] 35 (0, 0)) (kz BK149) hb)
    have n2_ := am (blk_below (o := .cells #[.int .i64 0, .int .i64 0] 35 (0, 0)) (kz BK150) hb)
    have n3_ := am (below_step bz hb)
    have n4_ := am (hbox)
    have n5_ := gwz (g := gb155) HB hg
    have n6_ := gwz (g := gb155) HB hg
    have n7_ := nlt (g' := gb155) BK148 hg
    have n8_ := ngt (g' := gb155) BK148 hg
    have n9_ := nlt (g' := gb155) BK149 hg
    have n10_ := ngt (g' := gb155) BK149 hg
    have n11_ := nlt (g' := gb155) BK150 hg
    have n12_ := ngt (g' := gb155) BK150 hg
    clear BK148
    clear BK149
    clear BK150
    clear HB
    have BK148 := n0_
    have BK149 := n1_
    have BK150 := n2_
    have HB := n3_
    have BK155 := n4_
    have GW155 := n5_
    have GE155 := n6_
    have NB148_155 := n7_
    have NB155_148 := n8_
    have NB149_155 := n9_
    have NB155_149 := n10_
    have NB150_155 := n11_
    have NB155_150 := n12_
    clear n0_ n1_ n2_ n3_ n4_ n5_ n6_ n7_ n8_ n9_ n10_ n11_ n12_
    clear hb hbox hg
    refine hK.out _ _ ⟨(blk_cell BK148.out 0).trans rfl, (blk_cell BK148.out 1).trans rfl, (cb HB.out hw152_0), (cb HB.out hw152_1), (cb HB.out hw153_0), (cb HB.out hw153_1)⟩ (fun hHeld => ?_)
    clear hK K
    refine norm_ (a' := ?_) ?_ ?_
    rotate_left
    ·
     show Act.put _ (some 7) _ = _
     simp only [Act.put, aS, lZ, lS, i64_w, i32_w]
     rfl
    refine one_ (i := 10) (N := some 6) (bm 14 4095) rfl rfl (one_of HT_.out qz) (by decide) (fun K hK => ?_)
    refine box_step ?hg (N := 6) ?hd (cs := #[.int .i64 0, .int .i64 0]) (t := 35) ?hr ?_; (case hd => rfl); (case hg => rfl); (case hr => first | (go_simp; done) | (go_simp; rfl))
    intro gb154 hg w14 hbox hb
    have n0_ := am (blk_below (o := .cells #[.slice (some ad152) l0_0.length c0_0, .slice A0_1 l0_1.length c0_1] 25 (0, 0)) (kz BK148) hb)
    have n1_ := am (blk_below (o := .cells #[.int .i64 0, .int .i64 0] 35 (0, 0)) (kz BK149) hb)
    have n2_ := am (blk_below (o := .cells #[.int .i64 0, .int .i64 0] 35 (0, 0)) (kz BK150) hb)
    have n3_ := am (blk_below (o := .cells #[.int .i64 0, .int .i64 0] 35 (0, 0)) (kz BK155) hb)
    have n4_ := am (below_step bz hb)
    have n5_ := am (hbox)
    have n6_ := gwz (g := gb154) HB hg
    have n7_ := gwz (g := gb154) HB hg
    have n8_ := nlt (g' := gb154) BK148 hg
    have n9_ := ngt (g' := gb154) BK148 hg
    have n10_ := nlt (g' := gb154) BK149 hg
    have n11_ := ngt (g' := gb154) BK149 hg
    have n12_ := nlt (g' := gb154) BK150 hg
    have n13_ := ngt (g' := gb154) BK150 hg
    have n14_ := nlt (g' := gb154) BK155 hg
    have n15_ := ngt (g' := gb154) BK155 hg
    clear BK148
    clear BK149
    clear BK150
    clear BK155
    clear HB
    have BK148 := n0_
    have BK149 := n1_
    have BK150 := n2_
    have BK155 := n3_
    have HB := n4_
    have BK154 := n5_
    have GW154 := n6_
    have GE154 := n7_
    have NB148_154 := n8_
    have NB154_148 := n9_
    have NB149_154 := n10_
    have NB154_149 := n11_
    have NB150_154 := n12_
    have NB154_150 := n13_
    have NB155_154 := n14_
    have NB154_155 := n15_
    clear n0_ n1_ n2_ n3_ n4_ n5_ n6_ n7_ n8_ n9_ n10_ n11_ n12_ n13_ n14_ n15_
    clear hb hbox hg
    refine hK.out _ _ ⟨(blk_cell BK148.out 0).trans rfl, (blk_cell BK148.out 1).trans rfl, (cb HB.out hw152_0), (cb HB.out hw152_1), (cb HB.out hw153_0), (cb HB.out hw153_1)⟩ (fun hHeld => ?_)
    clear hK K
    refine norm_ (a' := ?_) ?_ ?_
    rotate_left
    ·
     show Act.put _ (some 6) _ = _
     simp only [Act.put, aS, lZ, lS, i64_w, i32_w]
     rfl
    exact norm_ (by simp only [putAll, Act.put, List.setIfInBounds_toArray, List.set_cons_zero, List.set_cons_succ]) (hCont (gb154, gb155) _ ⟨hHeld, (kz BK148), (kz BK149), (kz BK150), (kz BK154), (kz BK155), GW154.out, GE154.out, NB148_154.out, NB154_148.out, NB149_154.out, NB154_149.out, NB150_154.out, NB154_150.out, NB155_154.out, NB154_155.out, GW155.out, GE155.out, NB148_155.out, NB155_148.out, NB149_155.out, NB155_149.out, NB150_155.out, NB155_150.out, bz⟩)
  rintro ⟨gb154, gb155⟩ w15 ⟨hS_, h0_, h1_, h2_, h3_, h4_, h5_, h6_, h7_, h8_, h9_, h10_, h11_, h12_, h13_, h14_, h15_, h16_, h17_, h18_, h19_, h20_, h21_, h22_, h23_⟩
  have n0_ : Aside0 (w15.heap[gb148]? = some (.cells #[.slice (some ad152) l0_0.length c0_0, .slice A0_1 l0_1.length c0_1] 25 (0, 0))) := ⟨h0_⟩
  have n1_ : Aside0 (w15.heap[gb149]? = some (.cells #[.int .i64 0, .int .i64 0] 35 (0, 0))) := ⟨h1_⟩
  have n2_ : Aside0 (w15.heap[gb150]? = some (.cells #[.int .i64 0, .int .i64 0] 35 (0, 0))) := ⟨h2_⟩
  have n3_ : Aside0 (w15.heap[gb154]? = some (.cells #[.int .i64 0, .int .i64 0] 35 (0, 0))) := ⟨h3_⟩
  have n4_ : Aside0 (w15.heap[gb155]? = some (.cells #[.int .i64 0, .int .i64 0] 35 (0, 0))) := ⟨h4_⟩
  have n5_ : Aside0 (w.heap.size ≤ gb154) := ⟨h5_⟩
  have n6_ : Aside0 (w.heap.size ≤ gb154) := ⟨h6_⟩
  have n7_ : Aside0 (gb148 ≠ gb154) := ⟨h7_⟩
  have n8_ : Aside0 (gb154 ≠ gb148) := ⟨h8_⟩
  have n9_ : Aside0 (gb149 ≠ gb154) := ⟨h9_⟩
  have n10_ : Aside0 (gb154 ≠ gb149) := ⟨h10_⟩
  have n11_ : Aside0 (gb150 ≠ gb154) := ⟨h11_⟩
  have n12_ : Aside0 (gb154 ≠ gb150) := ⟨h12_⟩
  have n13_ : Aside0 (gb155 ≠ gb154) := ⟨h13_⟩
  have n14_ : Aside0 (gb154 ≠ gb155) := ⟨h14_⟩
  have n15_ : Aside0 (w.heap.size ≤ gb155) := ⟨h15_⟩
  have n16_ : Aside0 (w.heap.size ≤ gb155) := ⟨h16_⟩
  have n17_ : Aside0 (gb148 ≠ gb155) := ⟨h17_⟩
  have n18_ : Aside0 (gb155 ≠ gb148) := ⟨h18_⟩
  have n19_ : Aside0 (gb149 ≠ gb155) := ⟨h19_⟩
  have n20_ : Aside0 (gb155 ≠ gb149) := ⟨h20_⟩
  have n21_ : Aside0 (gb150 ≠ gb155) := ⟨h21_⟩
  have n22_ : Aside0 (gb155 ≠ gb150) := ⟨h22_⟩
  have n23_ : Aside0 (Below w.heap.size w w15) := ⟨h23_⟩
  clear BK148
  clear BK149
  clear BK150
  clear HB
  clear h0_ h1_ h2_ h3_ h4_ h5_ h6_ h7_ h8_ h9_ h10_ h11_ h12_ h13_ h14_ h15_ h16_ h17_ h18_ h19_ h20_ h21_ h22_ h23_
  have BK148 := n0_
  have BK149 := n1_
  have BK150 := n2_
  have BK154 := n3_
  have BK155 := n4_
  have GW154 := n5_
  have GE154 := n6_
  have NB148_154 := n7_
  have NB154_148 := n8_
  have NB149_154 := n9_
  have NB154_149 := n10_
  have NB150_154 := n11_
  have NB154_150 := n12_
  have NB155_154 := n13_
  have NB154_155 := n14_
  have GW155 := n15_
  have GE155 := n16_
  have NB148_155 := n17_
  have NB155_148 := n18_
  have NB149_155 := n19_
  have NB155_149 := n20_
  have NB150_155 := n21_
  have NB155_150 := n22_
  have HB := n23_
  clear n0_ n1_ n2_ n3_ n4_ n5_ n6_ n7_ n8_ n9_ n10_ n11_ n12_ n13_ n14_ n15_ n16_ n17_ n18_ n19_ n20_ n21_ n22_ n23_
  have hHeld : w15.cell? ⟨gb148, 0, none⟩ = some (.slice (some ad152) l0_0.length c0_0) ∧ w15.cell? ⟨gb148, 1, none⟩ = some (.slice A0_1 l0_1.length c0_1) ∧ w15.cell? ad152 = some (.int .i64 ((rd_T53 l0_0 0).f0.f0)) ∧ w15.cell? ⟨ad152.block, ad152.off + 1, none⟩ = some (.int .i64 ((rd_T53 l0_0 0).f0.f1)) ∧ w15.cell? ad152 = some (.int .i64 ((rd_T53 l0_0 0).f0.f0)) ∧ w15.cell? ⟨ad152.block, ad152.off + 1, none⟩ = some (.int .i64 ((rd_T53 l0_0 0).f0.f1)) := hS_
  refine norm_ (a' := ?_) ?_ ?_
  rotate_left
  ·
   simp only [putAll, Act.put, List.setIfInBounds_toArray, List.set_cons_zero, List.set_cons_succ]
   rfl
  refine one_ (i := 12) (N := none) (bm 14 8191) rfl rfl (one_of HT_.out qz) (by decide) (fun K hK => ?_)
  have hs16 : w15.cell? ⟨gb154, 0, none⟩ = some (.int .i64 0) := (blk_cell BK154.out 0).trans rfl
  have hfs16 := blk_frozen BK154.out 0
  have hns16_0 := NB148_154.out
  have hns16_1 := NB149_154.out
  have hns16_2 := NB150_154.out
  have hns16_4 := NB155_154.out
  have hms16_0 := NB154_148.out
  have hms16_1 := NB154_149.out
  have hms16_2 := NB154_150.out
  have hms16_4 := NB154_155.out
  have hs17 : w15.cell? ⟨gb154, 1, none⟩ = some (.int .i64 0) := (blk_cell BK154.out 1).trans rfl
  have hfs17 := blk_frozen BK154.out 1
  have hns17_0 := NB148_154.out
  have hns17_1 := NB149_154.out
  have hns17_2 := NB150_154.out
  have hns17_4 := NB155_154.out
  have hms17_0 := NB154_148.out
  have hms17_1 := NB154_149.out
  have hms17_2 := NB154_150.out
  have hms17_4 := NB154_155.out
  refine skip_ (w1 := ?_) (by rfl) rfl ?_ ?_
  rotate_left
  ·
   go_simp
   rfl
  refine hK.out _ _ ⟨((cell_far (p := ⟨gb154, _, none⟩) NB148_154.out _).trans (((cell_far (p := ⟨gb154, _, none⟩) NB148_154.out _).trans (hHeld.1)))), ((cell_far (p := ⟨gb154, _, none⟩) NB148_154.out _).trans (((cell_far (p := ⟨gb154, _, none⟩) NB148_154.out _).trans (hHeld.2.1)))), ((cell_far (p := ⟨gb154, _, none⟩) (by first | exact nb hw152_0 GW154.out | exact nc hw152_0 GW154.out | exact nd hw152_0 GW154.out) _).trans (((cell_far (p := ⟨gb154, _, none⟩) (by first | exact nb hw152_0 GW154.out | exact nc hw152_0 GW154.out | exact nd hw152_0 GW154.out) _).trans (hHeld.2.2.1)))), ((cell_far (p := ⟨gb154, _, none⟩) (by first | exact nb hw152_1 GW154.out | exact nc hw152_1 GW154.out | exact nd hw152_1 GW154.out) _).trans (((cell_far (p := ⟨gb154, _, none⟩) (by first | exact nb hw152_1 GW154.out | exact nc hw152_1 GW154.out | exact nd hw152_1 GW154.out) _).trans (hHeld.2.2.2.1)))), ((cell_far (p := ⟨gb154, _, none⟩) (by first | exact nb hw153_0 GW154.out | exact nc hw153_0 GW154.out | exact nd hw153_0 GW154.out) _).trans (((cell_far (p := ⟨gb154, _, none⟩) (by first | exact nb hw153_0 GW154.out | exact nc hw153_0 GW154.out | exact nd hw153_0 GW154.out) _).trans (hHeld.2.2.2.2.1)))), ((cell_far (p := ⟨gb154, _, none⟩) (by first | exact nb hw153_1 GW154.out | exact nc hw153_1 GW154.out | exact nd hw153_1 GW154.out) _).trans (((cell_far (p := ⟨gb154, _, none⟩) (by first | exact nb hw153_1 GW154.out | exact nc hw153_1 GW154.out | exact nd hw153_1 GW154.out) _).trans (hHeld.2.2.2.2.2))))⟩ (fun hHeld => ?_)
  clear hK K
  refine one_ (i := 13) (N := none) (bm 14 16383) rfl rfl (one_of HT_.out qz) (by decide) (fun K hK => ?_)
  have hs18 : w15.cell? ⟨gb155, 0, none⟩ = some (.int .i64 0) := (blk_cell BK155.out 0).trans rfl
  have hfs18 := blk_frozen BK155.out 0
  have hns18_0 := NB148_155.out
  have hns18_1 := NB149_155.out
  have hns18_2 := NB150_155.out
  have hns18_3 := NB154_155.out
  have hms18_0 := NB155_148.out
  have hms18_1 := NB155_149.out
  have hms18_2 := NB155_150.out
  have hms18_3 := NB155_154.out
  have hs19 : w15.cell? ⟨gb155, 1, none⟩ = some (.int .i64 0) := (blk_cell BK155.out 1).trans rfl
  have hfs19 := blk_frozen BK155.out 1
  have hns19_0 := NB148_155.out
  have hns19_1 := NB149_155.out
  have hns19_2 := NB150_155.out
  have hns19_3 := NB154_155.out
  have hms19_0 := NB155_148.out
  have hms19_1 := NB155_149.out
  have hms19_2 := NB155_150.out
  have hms19_3 := NB155_154.out
  refine skip_ (w1 := ?_) (by rfl) rfl ?_ ?_
  rotate_left
  ·
   go_simp
   rfl
  refine hK.out _ _ ⟨((cell_far (p := ⟨gb155, _, none⟩) NB148_155.out _).trans (((cell_far (p := ⟨gb155, _, none⟩) NB148_155.out _).trans (hHeld.1)))), ((cell_far (p := ⟨gb155, _, none⟩) NB148_155.out _).trans (((cell_far (p := ⟨gb155, _, none⟩) NB148_155.out _).trans (hHeld.2.1)))), ((cell_far (p := ⟨gb155, _, none⟩) (by first | exact nb hw152_0 GW155.out | exact nc hw152_0 GW155.out | exact nd hw152_0 GW155.out) _).trans (((cell_far (p := ⟨gb155, _, none⟩) (by first | exact nb hw152_0 GW155.out | exact nc hw152_0 GW155.out | exact nd hw152_0 GW155.out) _).trans (hHeld.2.2.1)))), ((cell_far (p := ⟨gb155, _, none⟩) (by first | exact nb hw152_1 GW155.out | exact nc hw152_1 GW155.out | exact nd hw152_1 GW155.out) _).trans (((cell_far (p := ⟨gb155, _, none⟩) (by first | exact nb hw152_1 GW155.out | exact nc hw152_1 GW155.out | exact nd hw152_1 GW155.out) _).trans (hHeld.2.2.2.1)))), ((cell_far (p := ⟨gb155, _, none⟩) (by first | exact nb hw153_0 GW155.out | exact nc hw153_0 GW155.out | exact nd hw153_0 GW155.out) _).trans (((cell_far (p := ⟨gb155, _, none⟩) (by first | exact nb hw153_0 GW155.out | exact nc hw153_0 GW155.out | exact nd hw153_0 GW155.out) _).trans (hHeld.2.2.2.2.1)))), ((cell_far (p := ⟨gb155, _, none⟩) (by first | exact nb hw153_1 GW155.out | exact nc hw153_1 GW155.out | exact nd hw153_1 GW155.out) _).trans (((cell_far (p := ⟨gb155, _, none⟩) (by first | exact nb hw153_1 GW155.out | exact nc hw153_1 GW155.out | exact nd hw153_1 GW155.out) _).trans (hHeld.2.2.2.2.2))))⟩ (fun hHeld => ?_)
  clear hK K
  refine done_ (done_of HT_.out qz) ?_
  have hnb20 := NB148_154.out
  have hnc20 := NB154_148.out
  have hnb21 := NB148_155.out
  have hnc21 := NB155_148.out
  obtain ⟨hcz22_0, hcz22_1, hfz22_0, hfz22_1⟩ := kc2 BK148.out
  try go_wp2
  go_loopg [30] k (fun kq v30 w' => ∃ (x30_1 x155000_1 x155001_1 x156000_1 x156001_1 : Int), v30 = .int .i64 x30_1 ∧ Aside0 (floor_Box.l0 kq l0_0 (l0_0.length : Int) x30_1 x155000_1 x155001_1 x156000_1 x156001_1 = some (r1, r2, r3, r4, r5)) ∧ Aside0 (kq ≤ k) ∧ Aside0 (w'.heap[gb148]? = some (.cells #[(.slice (some ad152) l0_0.length c0_0), (.slice A0_1 l0_1.length c0_1)] 25 (0, 0))) ∧ Aside0 (w'.heap[gb149]? = some (.cells #[.int .i64 0, .int .i64 0] 35 (0, 0))) ∧ Aside0 (w'.heap[gb150]? = some (.cells #[.int .i64 0, .int .i64 0] 35 (0, 0))) ∧ Aside0 (w'.heap[gb154]? = some (.cells #[.int .i64 x155000_1, .int .i64 x155001_1] 35 (0, 0))) ∧ Aside0 (w'.heap[gb155]? = some (.cells #[.int .i64 x156000_1, .int .i64 x156001_1] 35 (0, 0))) ∧ Aside0 (Below w.heap.size w w'))
  case atStart => exact ⟨(0), ((rd_T53 l0_0 0).f0.f0), ((rd_T53 l0_0 0).f0.f1), ((rd_T53 l0_0 0).f0.f0), ((rd_T53 l0_0 0).f0.f1), sz, H', ⟨Nat.le_refl _⟩, ⟨by (with_reducible repeat first | apply kN | apply kD | apply kA); refine blk_far ?_ NB148_155.out _; (with_reducible repeat first | apply kN | apply kD | apply kA); refine blk_far ?_ NB148_155.out _; (with_reducible repeat first | apply kN | apply kD | apply kA); refine blk_far ?_ NB148_154.out _; (with_reducible repeat first | apply kN | apply kD | apply kA); refine blk_far ?_ NB148_154.out _; (with_reducible repeat first | apply kN | apply kD | apply kA); exact BK148.out⟩, ⟨by (with_reducible repeat first | apply kN | apply kD | apply kA); refine blk_far ?_ NB149_155.out _; (with_reducible repeat first | apply kN | apply kD | apply kA); refine blk_far ?_ NB149_155.out _; (with_reducible repeat first | apply kN | apply kD | apply kA); refine blk_far ?_ NB149_154.out _; (with_reducible repeat first | apply kN | apply kD | apply kA); refine blk_far ?_ NB149_154.out _; (with_reducible repeat first | apply kN | apply kD | apply kA); exact BK149.out⟩, ⟨by (with_reducible repeat first | apply kN | apply kD | apply kA); refine blk_far ?_ NB150_155.out _; (with_reducible repeat first | apply kN | apply kD | apply kA); refine blk_far ?_ NB150_155.out _; (with_reducible repeat first | apply kN | apply kD | apply kA); refine blk_far ?_ NB150_154.out _; (with_reducible repeat first | apply kN | apply kD | apply kA); refine blk_far ?_ NB150_154.out _; (with_reducible repeat first | apply kN | apply kD | apply kA); exact BK150.out⟩, ⟨by (with_reducible repeat first | apply kN | apply kD | apply kA); refine blk_far ?_ NB154_155.out _; (with_reducible repeat first | apply kN | apply kD | apply kA); refine blk_far ?_ NB154_155.out _; (with_reducible repeat first | apply kN | apply kD | apply kA); refine blk_put (cs := #[.int .i64 ((rd_T53 l0_0 0).f0.f0), .int .i64 0]) ?_ 1 _ rfl; (with_reducible repeat first | apply kN | apply kD | apply kA); refine blk_put (cs := #[.int .i64 0, .int .i64 0]) ?_ 0 _ rfl; (with_reducible repeat first | apply kN | apply kD | apply kA); exact BK154.out⟩, ⟨by (with_reducible repeat first | apply kN | apply kD | apply kA); refine blk_put (cs := #[.int .i64 ((rd_T53 l0_0 0).f0.f0), .int .i64 0]) ?_ 1 _ rfl; (with_reducible repeat first | apply kN | apply kD | apply kA); refine blk_put (cs := #[.int .i64 0, .int .i64 0]) ?_ 0 _ rfl; (with_reducible repeat first | apply kN | apply kD | apply kA); refine blk_far ?_ NB155_154.out _; (with_reducible repeat first | apply kN | apply kD | apply kA); refine blk_far ?_ NB155_154.out _; (with_reducible repeat first | apply kN | apply kD | apply kA); exact BK155.out⟩, ⟨bz⟩⟩
  case round =>
   clear H'
   try clear c1
   try clear p1
   try clear q1
   try clear hx1
   try clear qi1
   try clear c2
   try clear p2
   try clear c3
   try clear c3b0
   try clear c3b1
   try clear c4
   try clear c4b0
   try clear c4b1
   try clear c8
   try clear c9
   try clear c15
   try clear p15
   try clear q15
   try clear hx15
   try clear qi15
   try clear c20
   try clear c21
   try clear hcz10_0
   try clear hcz10_1
   try clear hcz22_0
   try clear hcz22_1
   try clear hfz10_0
   try clear hfz10_1
   try clear hfz22_0
   try clear hfz22_1
   try clear hx152_0
   try clear hx152_1
   try clear hx153_0
   try clear hx153_1
   try clear p152
   try clear p153
   try clear q152
   try clear q153
   obtain ⟨x30_1, x155000_1, x155001_1, x156000_1, x156001_1, rfl, HA, HK1, BK148, BK149, BK150, BK154, BK155, HB⟩ := hrel
   cases gk with
   | zero => exact absurd HA.out (by simp [floor_Box.l0])
   | succ k1 =>
    have H := HA.out
    clear HA
    simp only [floor_Box.l0] at H
    by_cases c23 : x30_1 < (l0_0.length : Int)
    ·
     rw [if_pos c23] at H
     have c23b0 := decide_eq_true c23
     clear c23
     by_cases c24 : 0 ≤ x30_1; rotate_left
     · rw [if_neg c24] at H; exact absurd H (by simp)
     rw [if_pos c24] at H
     have c24b0 := decide_eq_true c24
     clear c24
     by_cases c25 : x30_1 < (l0_0.length : Int); rotate_left
     · rw [if_neg c25] at H; exact absurd H (by simp)
     rw [if_pos c25] at H
     have c25b0 := decide_eq_true c25
     clear c25
     obtain ⟨ji26, hji26⟩ : ∃ j_ : Int, (mn x155000_1 ((rd_T53 l0_0 x30_1).f0.f0)) = j_ := ⟨_, rfl⟩
     replace H : (floor_Box.l0 k1 l0_0 (l0_0.length : Int) (wrap64 (x30_1 + 1)) ji26 (mn x155001_1 ((rd_T53 l0_0 x30_1).f0.f1)) (mx x156000_1 ((rd_T53 l0_0 x30_1).f0.f0)) (mx x156001_1 ((rd_T53 l0_0 x30_1).f0.f1))) = some (r1, r2, r3, r4, r5) := by first | (rw [hji26] at H; exact H) | (simp only [hji26] at H ⊢; exact H)
     have hji26_ : (if ((rd_T53 l0_0 x30_1).f0.f0) < x155000_1 then ((rd_T53 l0_0 x30_1).f0.f0) else x155000_1) = ji26 := hji26
     obtain ⟨ji27, hji27⟩ : ∃ j_ : Int, (mn x155001_1 ((rd_T53 l0_0 x30_1).f0.f1)) = j_ := ⟨_, rfl⟩
     replace H : (floor_Box.l0 k1 l0_0 (l0_0.length : Int) (wrap64 (x30_1 + 1)) ji26 ji27 (mx x156000_1 ((rd_T53 l0_0 x30_1).f0.f0)) (mx x156001_1 ((rd_T53 l0_0 x30_1).f0.f1))) = some (r1, r2, r3, r4, r5) := by first | (rw [hji27] at H; exact H) | (simp only [hji27] at H ⊢; exact H)
     have hji27_ : (if ((rd_T53 l0_0 x30_1).f0.f1) < x155001_1 then ((rd_T53 l0_0 x30_1).f0.f1) else x155001_1) = ji27 := hji27
     obtain ⟨ji28, hji28⟩ : ∃ j_ : Int, (mx x156000_1 ((rd_T53 l0_0 x30_1).f0.f0)) = j_ := ⟨_, rfl⟩
     replace H : (floor_Box.l0 k1 l0_0 (l0_0.length : Int) (wrap64 (x30_1 + 1)) ji26 ji27 ji28 (mx x156001_1 ((rd_T53 l0_0 x30_1).f0.f1))) = some (r1, r2, r3, r4, r5) := by first | (rw [hji28] at H; exact H) | (simp only [hji28] at H ⊢; exact H)
     have hji28_ : (if x156000_1 < ((rd_T53 l0_0 x30_1).f0.f0) then ((rd_T53 l0_0 x30_1).f0.f0) else x156000_1) = ji28 := hji28
     obtain ⟨ji29, hji29⟩ : ∃ j_ : Int, (mx x156001_1 ((rd_T53 l0_0 x30_1).f0.f1)) = j_ := ⟨_, rfl⟩
     replace H : (floor_Box.l0 k1 l0_0 (l0_0.length : Int) (wrap64 (x30_1 + 1)) ji26 ji27 ji28 ji29) = some (r1, r2, r3, r4, r5) := by first | (rw [hji29] at H; exact H) | (simp only [hji29] at H ⊢; exact H)
     have hji29_ : (if x156001_1 < ((rd_T53 l0_0 x30_1).f0.f1) then ((rd_T53 l0_0 x30_1).f0.f1) else x156001_1) = ji29 := hji29
     have H' := am H
     clear H
     have p156 : 0 ≤ (x30_1 : Int) := az
     have q156 : x30_1 < (l0_0.length : Int) := az
     obtain ⟨ad156, ce156, e156, hK156, hW156⟩ := Kd.C_rowAt (HR0_0.out) (z53) x30_1 p156 q156
     obtain rfl := k53_open (show k53.K _ (rd_T53 l0_0 x30_1) _ from hK156)
     clear hK156
     replace hW156 := RowAt.below hW156 HB.out
     obtain rfl : ad152 = ad156 := (by injection e156)
     have HW156 := am hW156
     clear hW156
     replace p156 := eq_true p156
     replace q156 := eq_true q156
     go_wp2_with (first | ((with_reducible refine gate_dst (N := 33) rfl ?_); refine' load_big ?h0 53 (.tmp 32) ?ho _ ?hx _ _ ?hc Try.underlying53 ?hd ?hi ?_; (case h0 => rfl); (case ho => rfl); (case hx => first | rfl | (go_simp; rfl)); (case hc => first | exact HW156.out | (simpa only [add_plain] using HW156.out) | (simpa only [Addr.add, Nat.zero_add] using HW156.out)); (case hd => rfl); (case hi => rfl)) | ((with_reducible refine gate_dst (N := 9) rfl ?_); refine box_event yz (N := 9) yz (cs := #[.int .i64 0, .int .i64 0, .int .i64 0, .int .i64 0, .int .i64 0, .int .i64 0, .int .i64 0, .int .i64 0, .int .i64 0, .int .i64 0, .int .i64 0, .int .i64 0, .int .i64 0, .int .i64 0, .int .i64 0, .int .i64 0, .int .i64 0, .int .i64 0, .int .i64 0, .int .i64 0, .int .i64 0, .int .i64 0]) (t := 53) gz ?_; intro gb157 hg_ w30 hbox_ hb_; have HA157 := am (And.intro hbox_ (And.intro hb_ hg_)); clear hbox_ hb_ hg_) | ((with_reducible refine row_gate (t := 53) (p := 9) rfl ?_); refine row_event ?h0 53 (.tmp 9) (.tmp 33) ?ho ?hd gb157 #[.int .i64 ((rd_T53 l0_0 x30_1).f0.f0), .int .i64 ((rd_T53 l0_0 x30_1).f0.f1), .int .i64 ((rd_T53 l0_0 x30_1).f1), .int .i64 ((rd_T53 l0_0 x30_1).f2), .int .i64 ((rd_T53 l0_0 x30_1).f3.f0.f0), .int .i64 ((rd_T53 l0_0 x30_1).f3.f0.f1), .int .i64 ((rd_T53 l0_0 x30_1).f3.f0.f2), .int .i64 ((rd_T53 l0_0 x30_1).f3.f1.f0), .int .i64 ((rd_T53 l0_0 x30_1).f3.f1.f1), .int .i64 ((rd_T53 l0_0 x30_1).f3.f1.f2), .int .i64 ((rd_T53 l0_0 x30_1).f3.f2.f0), .int .i64 ((rd_T53 l0_0 x30_1).f3.f2.f1), .int .i64 ((rd_T53 l0_0 x30_1).f3.f2.f2), .int .i64 ((rd_T53 l0_0 x30_1).f3.f3.f0), .int .i64 ((rd_T53 l0_0 x30_1).f3.f3.f1), .int .i64 ((rd_T53 l0_0 x30_1).f3.f3.f2), .int .i64 ((rd_T53 l0_0 x30_1).f3.f4.f0), .int .i64 ((rd_T53 l0_0 x30_1).f3.f4.f1), .int .i64 ((rd_T53 l0_0 x30_1).f3.f4.f2), .int .i64 ((rd_T53 l0_0 x30_1).f3.f5.f0), .int .i64 ((rd_T53 l0_0 x30_1).f3.f5.f1), .int .i64 ((rd_T53 l0_0 x30_1).f3.f5.f2)] ?hx ?hy _ _ HA157.out.1 ?hi ?hs ?h1 ?_; (case h0 => rfl); (case ho => rfl); (case hd => rfl); (case hx => first | rfl | (go_simp; rfl)); (case hy => first | rfl | (go_simp; rfl)); (case hi => rfl); (case hs => rfl); (case h1 => simp [Value.oneCell']); intro w31 hbox ho_ hb_; have hg := HA157.out.2.2; have hb := hb_ _ _ HA157.out.2.1 (Nat.le_of_eq hg.symm); clear ho_ hb_; have BK157 := am (hbox); have GW157 := gwz (g := gb157) HB hg; have GE157 := GW157; replace HB := am (below_step bz hb); have NB148_157 := nlt (g' := gb157) BK148 hg; have NB157_148 := ngt (g' := gb157) BK148 hg; replace BK148 := am (blk_below (o := .cells #[.slice (some ad152) l0_0.length c0_0, .slice A0_1 l0_1.length c0_1] 25 (0, 0)) (kz BK148) hb); have NB149_157 := nlt (g' := gb157) BK149 hg; have NB157_149 := ngt (g' := gb157) BK149 hg; replace BK149 := am (blk_below (o := .cells #[.int .i64 0, .int .i64 0] 35 (0, 0)) (kz BK149) hb); have NB150_157 := nlt (g' := gb157) BK150 hg; have NB157_150 := ngt (g' := gb157) BK150 hg; replace BK150 := am (blk_below (o := .cells #[.int .i64 0, .int .i64 0] 35 (0, 0)) (kz BK150) hb); have NB154_157 := nlt (g' := gb157) BK154 hg; have NB157_154 := ngt (g' := gb157) BK154 hg; replace BK154 := am (blk_below (o := .cells #[.int .i64 x155000_1, .int .i64 x155001_1] 35 (0, 0)) (kz BK154) hb); have NB155_157 := nlt (g' := gb157) BK155 hg; have NB157_155 := ngt (g' := gb157) BK155 hg; replace BK155 := am (blk_below (o := .cells #[.int .i64 x156000_1, .int .i64 x156001_1] 35 (0, 0)) (kz BK155) hb); clear hb hbox hg; have hnb32 := NB154_148.out; have hnc32 := NB148_154.out; have hnb33 := NB154_149.out; have hnc33 := NB149_154.out; have hnb34 := NB154_150.out; have hnc34 := NB150_154.out; have hnb35 := NB154_155.out; have hnc35 := NB155_154.out; have hnb36 := NB154_157.out; have hnc36 := NB157_154.out; obtain ⟨hcz37_0, hcz37_1, hfz37_0, hfz37_1⟩ := kc2 BK154.out; have hnb38 := NB157_148.out; have hnc38 := NB148_157.out; have hnb39 := NB157_149.out; have hnc39 := NB149_157.out; have hnb40 := NB157_150.out; have hnc40 := NB150_157.out; have hnb41 := NB157_155.out; have hnc41 := NB155_157.out; have hcz42_0 : w31.cell? ⟨gb157, 0, none⟩ = some (.int .i64 ((rd_T53 l0_0 x30_1).f0.f0)) := (blk_cell BK157.out 0).trans (by rfl); have hcz42_1 : w31.cell? ⟨gb157, 1, none⟩ = some (.int .i64 ((rd_T53 l0_0 x30_1).f0.f1)) := (blk_cell BK157.out 1).trans (by rfl); have hfz42_0 := blk_frozen BK157.out 0; have hfz42_1 := blk_frozen BK157.out 1; have hnb43 := NB155_148.out; have hnc43 := NB148_155.out; have hnb44 := NB155_149.out; have hnc44 := NB149_155.out; have hnb45 := NB155_150.out; have hnc45 := NB150_155.out; obtain ⟨hcz46_0, hcz46_1, hfz46_0, hfz46_1⟩ := kc2 BK155.out))
     go_roundg k1
     case measure => have := HK1.out; omega
     case rel => exact ⟨(wrap64 (x30_1 + 1)), (ji26), (ji27), (ji28), (ji29), sz, H', ⟨by have := HK1.out; omega⟩, ⟨by (with_reducible repeat first | apply kN | apply kD | apply kA); refine blk_far ?_ NB148_155.out _; (with_reducible repeat first | apply kN | apply kD | apply kA); refine blk_far ?_ NB148_155.out _; (with_reducible repeat first | apply kN | apply kD | apply kA); refine blk_far ?_ NB148_154.out _; (with_reducible repeat first | apply kN | apply kD | apply kA); refine blk_far ?_ NB148_154.out _; (with_reducible repeat first | apply kN | apply kD | apply kA); exact BK148.out⟩, ⟨by (with_reducible repeat first | apply kN | apply kD | apply kA); refine blk_far ?_ NB149_155.out _; (with_reducible repeat first | apply kN | apply kD | apply kA); refine blk_far ?_ NB149_155.out _; (with_reducible repeat first | apply kN | apply kD | apply kA); refine blk_far ?_ NB149_154.out _; (with_reducible repeat first | apply kN | apply kD | apply kA); refine blk_far ?_ NB149_154.out _; (with_reducible repeat first | apply kN | apply kD | apply kA); exact BK149.out⟩, ⟨by (with_reducible repeat first | apply kN | apply kD | apply kA); refine blk_far ?_ NB150_155.out _; (with_reducible repeat first | apply kN | apply kD | apply kA); refine blk_far ?_ NB150_155.out _; (with_reducible repeat first | apply kN | apply kD | apply kA); refine blk_far ?_ NB150_154.out _; (with_reducible repeat first | apply kN | apply kD | apply kA); refine blk_far ?_ NB150_154.out _; (with_reducible repeat first | apply kN | apply kD | apply kA); exact BK150.out⟩, ⟨by (with_reducible repeat first | apply kN | apply kD | apply kA); refine blk_far ?_ NB154_155.out _; (with_reducible repeat first | apply kN | apply kD | apply kA); refine blk_far ?_ NB154_155.out _; (with_reducible repeat first | apply kN | apply kD | apply kA); refine blk_put (cs := #[.int .i64 ji26, .int .i64 x155001_1]) ?_ 1 _ rfl; (with_reducible repeat first | apply kN | apply kD | apply kA); refine blk_put (cs := #[.int .i64 x155000_1, .int .i64 x155001_1]) ?_ 0 _ rfl; (with_reducible repeat first | apply kN | apply kD | apply kA); exact BK154.out⟩, ⟨by (with_reducible repeat first | apply kN | apply kD | apply kA); refine blk_put (cs := #[.int .i64 ji28, .int .i64 x156001_1]) ?_ 1 _ rfl; (with_reducible repeat first | apply kN | apply kD | apply kA); refine blk_put (cs := #[.int .i64 x156000_1, .int .i64 x156001_1]) ?_ 0 _ rfl; (with_reducible repeat first | apply kN | apply kD | apply kA); refine blk_far ?_ NB155_154.out _; (with_reducible repeat first | apply kN | apply kD | apply kA); refine blk_far ?_ NB155_154.out _; (with_reducible repeat first | apply kN | apply kD | apply kA); exact BK155.out⟩, ⟨bz⟩⟩
    ·
     rw [if_neg c23] at H
     have c23b0 := decide_eq_false c23
     clear c23
     simp only [Option.some.injEq, Prod.mk.injEq] at H
     obtain ⟨rfl, rfl, rfl, rfl, rfl⟩ := H
     try go_wp2
     have n0_ := am (blk_drew BK148.out)
     have n1_ := am (blk_drew BK149.out)
     have n2_ := am (blk_drew BK150.out)
     have n3_ := am (blk_drew BK154.out)
     have n4_ := am (blk_drew BK155.out)
     have n5_ := am (below_drew1 HB.out)
     clear BK148
     clear BK149
     clear BK150
     clear BK154
     clear BK155
     clear HB
     have BK148 := n0_
     have BK149 := n1_
     have BK150 := n2_
     have BK154 := n3_
     have BK155 := n4_
     have HB := n5_
     clear n0_ n1_ n2_ n3_ n4_ n5_
     refine start_ (n := 5) (S := fun w' => w'.cell? ⟨gb154, 0, none⟩ = some (.int .i64 x155000_1) ∧ w'.cell? ⟨gb154, 1, none⟩ = some (.int .i64 x155001_1) ∧ w'.cell? ⟨gb155, 0, none⟩ = some (.int .i64 x156000_1) ∧ w'.cell? ⟨gb155, 1, none⟩ = some (.int .i64 x156001_1)) (ds := []) (bm 5 0) qz rfl rfl ⟨(blk_cell BK154.out 0).trans rfl, (blk_cell BK154.out 1).trans rfl, (blk_cell BK155.out 0).trans rfl, (blk_cell BK155.out 1).trans rfl⟩ (fun hHeld => ?_)
     generalize wr.drew = w47 at BK148 BK149 BK150 BK154 BK155 HB hHeld ⊢
     refine take_ (i := 0) (N := some 61) (v := ?_) (a' := ?_) (bm 5 1) rfl rfl qz (fun _ _ _ h => h) (Or.inl ⟨by rfl, ?_⟩) hHeld ?_ ?_
     rotate_left
     ·
      rintro w' ⟨s0, s1, s2, s3⟩
      go_simp
      with_reducible rfl
     rotate_left
     ·
      simp only [Act.put, aS, lZ, lS, i64_w, i32_w]
      rfl
     refine take_ (i := 1) (N := some 62) (v := ?_) (a' := ?_) (bm 5 3) rfl rfl qz (fun _ _ _ h => h) (Or.inl ⟨by rfl, ?_⟩) hHeld ?_ ?_
     rotate_left
     ·
      rintro w' ⟨s0, s1, s2, s3⟩
      go_simp
      with_reducible rfl
     rotate_left
     ·
      simp only [Act.put, aS, lZ, lS, i64_w, i32_w]
      rfl
     refine one_ (i := 2) (N := none) (bm 5 7) rfl rfl qz (by decide) (fun K hK => ?_)
     have hs48 : w47.cell? ⟨gb149, 0, none⟩ = some (.int .i64 0) := (blk_cell BK149.out 0).trans rfl
     have hfs48 := blk_frozen BK149.out 0
     have hns48_0 := NB148_149.out
     have hns48_2 := NB150_149.out
     have hns48_3 := NB154_149.out
     have hns48_4 := NB155_149.out
     have hms48_0 := NB149_148.out
     have hms48_2 := NB149_150.out
     have hms48_3 := NB149_154.out
     have hms48_4 := NB149_155.out
     have hs49 : w47.cell? ⟨gb149, 1, none⟩ = some (.int .i64 0) := (blk_cell BK149.out 1).trans rfl
     have hfs49 := blk_frozen BK149.out 1
     have hns49_0 := NB148_149.out
     have hns49_2 := NB150_149.out
     have hns49_3 := NB154_149.out
     have hns49_4 := NB155_149.out
     have hms49_0 := NB149_148.out
     have hms49_2 := NB149_150.out
     have hms49_3 := NB149_154.out
     have hms49_4 := NB149_155.out
     refine skip_ (w1 := ?_) (by rfl) rfl ?_ ?_
     rotate_left
     ·
      go_simp
      rfl
     refine hK.out _ _ ⟨((cell_far (p := ⟨gb149, _, none⟩) NB154_149.out _).trans (((cell_far (p := ⟨gb149, _, none⟩) NB154_149.out _).trans (hHeld.1)))), ((cell_far (p := ⟨gb149, _, none⟩) NB154_149.out _).trans (((cell_far (p := ⟨gb149, _, none⟩) NB154_149.out _).trans (hHeld.2.1)))), ((cell_far (p := ⟨gb149, _, none⟩) NB155_149.out _).trans (((cell_far (p := ⟨gb149, _, none⟩) NB155_149.out _).trans (hHeld.2.2.1)))), ((cell_far (p := ⟨gb149, _, none⟩) NB155_149.out _).trans (((cell_far (p := ⟨gb149, _, none⟩) NB155_149.out _).trans (hHeld.2.2.2))))⟩ (fun hHeld => ?_)
     clear hK K
     refine one_ (i := 3) (N := none) (bm 5 15) rfl rfl qz (by decide) (fun K hK => ?_)
     have hs50 : w47.cell? ⟨gb150, 0, none⟩ = some (.int .i64 0) := (blk_cell BK150.out 0).trans rfl
     have hfs50 := blk_frozen BK150.out 0
     have hns50_0 := NB148_150.out
     have hns50_1 := NB149_150.out
     have hns50_3 := NB154_150.out
     have hns50_4 := NB155_150.out
     have hms50_0 := NB150_148.out
     have hms50_1 := NB150_149.out
     have hms50_3 := NB150_154.out
     have hms50_4 := NB150_155.out
     have hs51 : w47.cell? ⟨gb150, 1, none⟩ = some (.int .i64 0) := (blk_cell BK150.out 1).trans rfl
     have hfs51 := blk_frozen BK150.out 1
     have hns51_0 := NB148_150.out
     have hns51_1 := NB149_150.out
     have hns51_3 := NB154_150.out
     have hns51_4 := NB155_150.out
     have hms51_0 := NB150_148.out
     have hms51_1 := NB150_149.out
     have hms51_3 := NB150_154.out
     have hms51_4 := NB150_155.out
     refine skip_ (w1 := ?_) (by rfl) rfl ?_ ?_
     rotate_left
     ·
      go_simp
      rfl
     refine hK.out _ _ ⟨((cell_far (p := ⟨gb150, _, none⟩) NB154_150.out _).trans (((cell_far (p := ⟨gb150, _, none⟩) NB154_150.out _).trans (hHeld.1)))), ((cell_far (p := ⟨gb150, _, none⟩) NB154_150.out _).trans (((cell_far (p := ⟨gb150, _, none⟩) NB154_150.out _).trans (hHeld.2.1)))), ((cell_far (p := ⟨gb150, _, none⟩) NB155_150.out _).trans (((cell_far (p := ⟨gb150, _, none⟩) NB155_150.out _).trans (hHeld.2.2.1)))), ((cell_far (p := ⟨gb150, _, none⟩) NB155_150.out _).trans (((cell_far (p := ⟨gb150, _, none⟩) NB155_150.out _).trans (hHeld.2.2.2))))⟩ (fun hHeld => ?_)
     clear hK K
     refine pure_ (i := 4) (N := some 4) (v := ?_) (a' := ?_) (bm 5 31) rfl rfl qz (fun _ _ _ h => h) (Or.inl ⟨by rfl, ?_⟩) ?_ ?_
     rotate_left; (intro w'; go_simp; with_reducible rfl); rotate_left; (simp only [Act.put, aS, lZ, lS, i64_w, i32_w]; rfl)
     refine done_ qz ?_
     try go_wp2
     refine bodyPost_ret (results_list (rs := [.cell 2 35, .cell 3 35, .tmp 4]) rfl (by simp) (.cell gb149 35 #[.int .i64 x155000_1, .int .i64 x155001_1] (0, 0) _ rfl (by (with_reducible repeat first | apply kN | apply kD | apply kA); refine blk_far ?_ NB149_150.out _; (with_reducible repeat first | apply kN | apply kD | apply kA); refine blk_far ?_ NB149_150.out _; (with_reducible repeat first | apply kN | apply kD | apply kA); refine blk_put (cs := #[.int .i64 x155000_1, .int .i64 0]) ?_ 1 _ rfl; (with_reducible repeat first | apply kN | apply kD | apply kA); refine blk_put (cs := #[.int .i64 0, .int .i64 0]) ?_ 0 _ rfl; (with_reducible repeat first | apply kN | apply kD | apply kA); exact BK149.out) Try.underlying35 rfl qz (.cell gb150 35 #[.int .i64 x156000_1, .int .i64 x156001_1] (0, 0) _ rfl (by (with_reducible repeat first | apply kN | apply kD | apply kA); refine blk_put (cs := #[.int .i64 x156000_1, .int .i64 0]) ?_ 1 _ rfl; (with_reducible repeat first | apply kN | apply kD | apply kA); refine blk_put (cs := #[.int .i64 0, .int .i64 0]) ?_ 0 _ rfl; (with_reducible repeat first | apply kN | apply kD | apply kA); refine blk_far ?_ NB150_149.out _; (with_reducible repeat first | apply kN | apply kD | apply kA); refine blk_far ?_ NB150_149.out _; (with_reducible repeat first | apply kN | apply kD | apply kA); exact BK150.out) Try.underlying35 rfl qz (.tmp .nil)))) rfl ?_
     exact ⟨ez, bz⟩
 ·
  rw [if_neg c3] at H
  have c3b0 : (t151 == 0) = false := beq_eq_false_iff_ne.mpr c3
  have c3b1 : (t151 != 0) = true := bne_iff_ne.mpr c3
  simp only [Option.some.injEq, Prod.mk.injEq] at H
  obtain ⟨rfl, rfl, rfl, rfl, rfl⟩ := H
  go_enter Try.func15, Try.ntmps15
  go_wp2_with (first | ((with_reducible refine gate_dst (N := 1) rfl ?_); refine box_event yz (N := 1) yz (cs := #[.slice A0_0 l0_0.length c0_0, .slice A0_1 l0_1.length c0_1]) (t := 25) gz ?_; intro gb148 hg w52 hbox hb; have BK148 := am (hbox); have GW148 := gwz (g := gb148) HB hg; have GE148 := GW148; replace HB := am (below_step bz hb); clear hb hbox hg) | ((with_reducible refine gate_dst (N := 2) rfl ?_); refine box_event yz (N := 2) yz (cs := #[.int .i64 0, .int .i64 0]) (t := 35) gz ?_; intro gb149 hg w53 hbox hb; have BK149 := am (hbox); have GW149 := gwz (g := gb149) HB hg; have GE149 := GW149; replace HB := am (below_step bz hb); have NB148_149 := nlt (g' := gb149) BK148 hg; have NB149_148 := ngt (g' := gb149) BK148 hg; replace BK148 := am (blk_below (o := .cells #[.slice A0_0 l0_0.length c0_0, .slice A0_1 l0_1.length c0_1] 25 (0, 0)) (kz BK148) hb); clear hb hbox hg) | ((with_reducible refine gate_dst (N := 3) rfl ?_); refine box_event yz (N := 3) yz (cs := #[.int .i64 0, .int .i64 0]) (t := 35) gz ?_; intro gb150 hg w54 hbox hb; have BK150 := am (hbox); have GW150 := gwz (g := gb150) HB hg; have GE150 := GW150; replace HB := am (below_step bz hb); have NB148_150 := nlt (g' := gb150) BK148 hg; have NB150_148 := ngt (g' := gb150) BK148 hg; replace BK148 := am (blk_below (o := .cells #[.slice A0_0 l0_0.length c0_0, .slice A0_1 l0_1.length c0_1] 25 (0, 0)) (kz BK148) hb); have NB149_150 := nlt (g' := gb150) BK149 hg; have NB150_149 := ngt (g' := gb150) BK149 hg; replace BK149 := am (blk_below (o := .cells #[.int .i64 0, .int .i64 0] 35 (0, 0)) (kz BK149) hb); clear hb hbox hg; have hnb55 := NB148_149.out; have hnc55 := NB149_148.out; have hnb56 := NB148_150.out; have hnc56 := NB150_148.out; obtain ⟨hcz57_0, hcz57_1, hfz57_0, hfz57_1⟩ := kc2 BK148.out) | ((with_reducible refine gate_callee (f := 21) rfl ?_); refine goesL_ (some 11) rfl rfl Try.func21 qz rfl #[.agg #[.slice A0_0 l0_0.length c0_0, .slice A0_1 l0_1.length c0_1]] rfl mz ?_; (with_reducible refine (movement_Check.calls k _ _ l0_0 _ _ l0_1 t151 _ ?side1 ?side2 ?side3 ?side4 A2.out).mono ?_); (case side1 => exact cz HR0_0); (case side2 => exact HC0_0.out); (case side3 => exact cz HR0_1); (case side4 => exact HC0_1.out); rintro e w58 ⟨rfl, hb⟩; refine ⟨_, rfl, ?_⟩; replace BK148 := am (blk_below (o := .cells #[.slice A0_0 l0_0.length c0_0, .slice A0_1 l0_1.length c0_1] 25 (0, 0)) (kz BK148) hb); replace BK149 := am (blk_below (o := .cells #[.int .i64 0, .int .i64 0] 35 (0, 0)) (kz BK149) hb); replace BK150 := am (blk_below (o := .cells #[.int .i64 0, .int .i64 0] 35 (0, 0)) (kz BK150) hb); replace HB := am (below_step bz hb); (try clear hb); (try clear hb2); (try clear hk); (try clear hi); have hnb59 := NB149_150.out; have hnc59 := NB150_149.out; obtain ⟨hcz60_0, hcz60_1, hfz60_0, hfz60_1⟩ := kc2 BK149.out; obtain ⟨hcz61_0, hcz61_1, hfz61_0, hfz61_1⟩ := kc2 BK150.out))
  refine bodyPost_ret (results_list (rs := [.cell 2 35, .cell 3 35, .tmp 4]) rfl (by simp) (.cell gb149 35 #[.int .i64 0, .int .i64 0] (0, 0) _ rfl (by (with_reducible repeat first | apply kN | apply kD | apply kA); refine blk_far ?_ NB149_150.out _; (with_reducible repeat first | apply kN | apply kD | apply kA); refine blk_far ?_ NB149_150.out _; (with_reducible repeat first | apply kN | apply kD | apply kA); refine blk_put (cs := #[.int .i64 0, .int .i64 0]) ?_ 1 _ rfl; (with_reducible repeat first | apply kN | apply kD | apply kA); refine blk_put (cs := #[.int .i64 0, .int .i64 0]) ?_ 0 _ rfl; (with_reducible repeat first | apply kN | apply kD | apply kA); exact BK149.out) Try.underlying35 rfl qz (.cell gb150 35 #[.int .i64 0, .int .i64 0] (0, 0) _ rfl (by (with_reducible repeat first | apply kN | apply kD | apply kA); refine blk_put (cs := #[.int .i64 0, .int .i64 0]) ?_ 1 _ rfl; (with_reducible repeat first | apply kN | apply kD | apply kA); refine blk_put (cs := #[.int .i64 0, .int .i64 0]) ?_ 0 _ rfl; (with_reducible repeat first | apply kN | apply kD | apply kA); refine blk_far ?_ NB150_149.out _; (with_reducible repeat first | apply kN | apply kD | apply kA); refine blk_far ?_ NB150_149.out _; (with_reducible repeat first | apply kN | apply kD | apply kA); exact BK150.out) Try.underlying35 rfl qz (.tmp .nil)))) rfl ?_
  exact ⟨ez, bz⟩

end Go.Proofs.Ytmdmajfgpmopbaa.X
