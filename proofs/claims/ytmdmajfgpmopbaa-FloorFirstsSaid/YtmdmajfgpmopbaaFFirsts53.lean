import Derived.Test.YtmdmajfgpmopbaaX0
import Derived.Test.YtmdmajfgpmopbaaX1
import Derived.Test.YtmdmajfgpmopbaaX10
namespace Go.Proofs.Ytmdmajfgpmopbaa.X
open Go.RowKit YtmdmajfgpmopbaaW.PrintWords YtmdmajfgpmopbaaW.PrintLast YtmdmajfgpmopbaaW.PrintMore
attribute [local go_sem] max2_int min2_int max_two min_two max_three min_three max_four min_four
set_option linter.unusedVariables false
set_option linter.unusedSimpArgs false

theorem eqA44 (d : Nat) (w : World) (x0 y0 : Int) (x1 y1 : Int) (x2 y2 : Int) :
    (Op.equalIn (d + 2) 44 (.agg #[.int .i64 x0, .int .i64 x1, .int .i64 x2]) (.agg #[.int .i64 y0, .int .i64 y1, .int .i64 y2])).run Try.prog w = .ok (x0 == y0 && (x1 == y1 && (x2 == y2))) w := by
  refine eqA_of Try.underlying44 qz ?_
  refine eqf_cons (by rfl) (by go_simp; rfl) (by go_simp; rfl) (by go_simp) ?_
  refine eqf_cons (by rfl) (by go_simp; rfl) (by go_simp; rfl) (by go_simp) ?_
  exact eqf_last (by rfl) (by go_simp; rfl) (by go_simp; rfl) (by go_simp)
end Go.Proofs.Ytmdmajfgpmopbaa.X

namespace Go.Proofs.Ytmdmajfgpmopbaa.X
open Go.RowKit YtmdmajfgpmopbaaW.PrintWords YtmdmajfgpmopbaaW.PrintLast YtmdmajfgpmopbaaW.PrintMore
attribute [local go_sem] max2_int min2_int max_two min_two max_three min_three max_four min_four
set_option linter.unusedVariables false
set_option linter.unusedSimpArgs false

/-! ### dancestudiolaw43_great: function 9 -/
def dancestudiolaw43_great.f (l0_0 : List (S53)) (l0_1 : List Int) : Option (Bool) := if (l0_0.length : Int) > 200 then (some true) else (some (decide ((l0_1.length : Int) > 200)))
set_option maxHeartbeats 8000000 in
set_option maxRecDepth 100000 in
theorem dancestudiolaw43_great.calls (A0_0 : Option Addr) (c0_0 : Nat) (l0_0 : List (S53)) (A0_1 : Option Addr) (c0_1 : Nat) (l0_1 : List Int) (r : Bool) (w : World) (hr0_0 : Kd.C k53 w A0_0 l0_0.length l0_0) (hc0_0 : l0_0.length ≤ c0_0) (hr0_1 : Kd.C (Kd.int .i64) w A0_1 l0_1.length l0_1) (hc0_1 : l0_1.length ≤ c0_1) (h : dancestudiolaw43_great.f l0_0 l0_1 = some r) :
  Calls Try.prog 9 #[.agg #[.slice A0_0 l0_0.length c0_0, .slice A0_1 l0_1.length c0_1]] w fun e w' => e = .returned (.bool r) ∧ Below w.heap.size w w' := by
 have hu25 := Try.underlying25
 have HR0_0 := am hr0_0
 have HC0_0 := am hc0_0
 clear hr0_0 hc0_0
 have HR0_1 := am hr0_1
 have HC0_1 := am hc0_1
 clear hr0_1 hc0_1
 have HB := am (Below.refl w.heap.size w)
 have H : (if (l0_0.length : Int) > 200 then (some true) else (some (decide ((l0_1.length : Int) > 200)))) = some r := h
 clear h
 by_cases c2 : (l0_0.length : Int) > 200
 ·
  rw [if_pos c2] at H
  have c2b0 := decide_eq_true c2
  have c2b1 : decide (200 < l0_0.length) = true := decide_eq_true (by omega)
  clear c2
  obtain rfl := Option.some.inj H
  go_enter Try.func9, Try.ntmps9
  go_wp2_with (first | ((with_reducible refine gate_dst (N := 1) rfl ?_); refine box_event yz (N := 1) yz (cs := #[.slice A0_0 l0_0.length c0_0, .slice A0_1 l0_1.length c0_1]) (t := 25) gz ?_; intro gb101 hg w3 hbox hb; have BK101 := am (hbox); have GW101 := gwz (g := gb101) HB hg; have GE101 := GW101; replace HB := am (below_step bz hb); clear hb hbox hg; obtain ⟨hcz4_0, hcz4_1, hfz4_0, hfz4_1⟩ := kc2 BK101.out))
  go_ret
  exact ⟨ez, bz⟩
 ·
  rw [if_neg c2] at H
  have c2b0 := decide_eq_false c2
  have c2b1 : decide (200 < l0_0.length) = false := decide_eq_false (by omega)
  clear c2
  obtain rfl := Option.some.inj H
  go_enter Try.func9, Try.ntmps9
  go_wp2_with (first | ((with_reducible refine gate_dst (N := 1) rfl ?_); refine box_event yz (N := 1) yz (cs := #[.slice A0_0 l0_0.length c0_0, .slice A0_1 l0_1.length c0_1]) (t := 25) gz ?_; intro gb101 hg w5 hbox hb; have BK101 := am (hbox); have GW101 := gwz (g := gb101) HB hg; have GE101 := GW101; replace HB := am (below_step bz hb); clear hb hbox hg; obtain ⟨hcz6_0, hcz6_1, hfz6_0, hfz6_1⟩ := kc2 BK101.out))
  go_ret
  exact ⟨ez, bz⟩

end Go.Proofs.Ytmdmajfgpmopbaa.X

namespace Go.Proofs.Ytmdmajfgpmopbaa.X
open Go.RowKit YtmdmajfgpmopbaaW.PrintWords YtmdmajfgpmopbaaW.PrintLast YtmdmajfgpmopbaaW.PrintMore
attribute [local go_sem] max2_int min2_int max_two min_two max_three min_three max_four min_four
set_option linter.unusedVariables false
set_option linter.unusedSimpArgs false

/-! ### floor_step: function 27 -/
def floor_step.f (l0_0 : List (S53)) (l0_1 : List Int) (a1 : Int) : Option (Int × Int) := if 0 ≤ a1 then (if a1 < (l0_0.length : Int) then (if 0 ≤ (wrap64 (a1 + 1)) then (if (wrap64 (a1 + 1)) < (l0_0.length : Int) then (some (wrap64 (((rd_T53 l0_0 (wrap64 (a1 + 1))).f0.f0) - ((rd_T53 l0_0 a1).f0.f0)), wrap64 (((rd_T53 l0_0 (wrap64 (a1 + 1))).f0.f1) - ((rd_T53 l0_0 a1).f0.f1)))) else (none)) else (none)) else (none)) else (none)
def floor_step.T1 : Bool × List (List Nat × List Nat) := (true, [([], []), ([0], [0]), ([], []), ([1, 2], [1, 2]), ([3], [3]), ([4], [4]), ([], []), ([6], [6]), ([], []), ([8], [8]), ([7, 9], [7, 9]), ([10], [10]), ([11], [11]), ([], []), ([], []), ([13, 5, 0, 1, 2, 3, 4, 5, 13, 14], [5, 13]), ([14, 12, 15, 0, 1, 2, 3, 4, 5, 6, 7, 8, 9, 10, 11, 12, 13, 14, 15], [12, 14])])
def floor_step.B1 : List Nat := [0, 1, 0, 7, 15, 31, 0, 64, 0, 256, 960, 1984, 4032, 0, 0, 24639, 65535]
theorem floor_step.tab1 : rtab .any (opsOf Try.f27 1) = floor_step.T1 := by kernel_rfl
theorem floor_step.bits1 : waitsOk floor_step.T1.2 floor_step.B1 = true := by kernel_rfl
set_option maxHeartbeats 8000000 in
set_option maxRecDepth 100000 in
theorem floor_step.calls (A0_0 : Option Addr) (c0_0 : Nat) (l0_0 : List (S53)) (A0_1 : Option Addr) (c0_1 : Nat) (l0_1 : List Int) (a1 r1 r2 : Int) (w : World) (hr0_0 : Kd.C k53 w A0_0 l0_0.length l0_0) (hc0_0 : l0_0.length ≤ c0_0) (hr0_1 : Kd.C (Kd.int .i64) w A0_1 l0_1.length l0_1) (hc0_1 : l0_1.length ≤ c0_1) (h : floor_step.f l0_0 l0_1 a1 = some (r1, r2)) :
  Calls Try.prog 27 #[.agg #[.slice A0_0 l0_0.length c0_0, .slice A0_1 l0_1.length c0_1], .int .i64 a1] w fun e w' => e = .returned (.agg #[.int .i64 r1, .int .i64 r2]) ∧ Below w.heap.size w w' := by
 have hu25 := Try.underlying25
 have hu35 := Try.underlying35
 have HR0_0 := am hr0_0
 have HC0_0 := am hc0_0
 clear hr0_0 hc0_0
 have HR0_1 := am hr0_1
 have HC0_1 := am hc0_1
 clear hr0_1 hc0_1
 have HB := am (Below.refl w.heap.size w)
 have H : (if 0 ≤ a1 then (if a1 < (l0_0.length : Int) then (if 0 ≤ (wrap64 (a1 + 1)) then (if (wrap64 (a1 + 1)) < (l0_0.length : Int) then (some (wrap64 (((rd_T53 l0_0 (wrap64 (a1 + 1))).f0.f0) - ((rd_T53 l0_0 a1).f0.f0)), wrap64 (((rd_T53 l0_0 (wrap64 (a1 + 1))).f0.f1) - ((rd_T53 l0_0 a1).f0.f1)))) else (none)) else (none)) else (none)) else (none)) = some (r1, r2) := h
 clear h
 by_cases c3 : 0 ≤ a1
 ·
  rw [if_pos c3] at H
  have c3b0 := decide_eq_true c3
  clear c3
  by_cases c4 : a1 < (l0_0.length : Int); rotate_left
  · rw [if_neg c4] at H; exact absurd H (by simp)
  rw [if_pos c4] at H
  have c4b0 := decide_eq_true c4
  clear c4
  obtain ⟨ji5, hji5⟩ : ∃ j_ : Int, (wrap64 (a1 + 1)) = j_ := ⟨_, rfl⟩
  replace H : (if 0 ≤ (ji5) then (if (ji5) < (l0_0.length : Int) then (some (wrap64 (((rd_T53 l0_0 (ji5)).f0.f0) - ((rd_T53 l0_0 a1).f0.f0)), wrap64 (((rd_T53 l0_0 (ji5)).f0.f1) - ((rd_T53 l0_0 a1).f0.f1)))) else (none)) else (none)) = some (r1, r2) := by first | (rw [hji5] at H; exact H) | (simp only [hji5] at H ⊢; exact H)
  have hji5w : (IntKind.i64.wrap (a1 + 1)) = ji5 := (i64_w _).trans hji5
  by_cases c6 : 0 ≤ (ji5); rotate_left
  · rw [if_neg c6] at H; exact absurd H (by simp)
  rw [if_pos c6] at H
  have c6b0 := decide_eq_true c6
  clear c6
  by_cases c7 : (ji5) < (l0_0.length : Int); rotate_left
  · rw [if_neg c7] at H; exact absurd H (by simp)
  rw [if_pos c7] at H
  have c7b0 := decide_eq_true c7
  clear c7
  simp only [Option.some.injEq, Prod.mk.injEq] at H
  obtain ⟨rfl, rfl⟩ := H
  go_enter Try.func27, Try.ntmps27
  try go_wp2_with (first | ((with_reducible refine gate_dst (N := 2) rfl ?_); refine box_event yz (N := 2) yz (cs := #[.slice A0_0 l0_0.length c0_0, .slice A0_1 l0_1.length c0_1]) (t := 25) gz ?_; intro gb112 hg w8 hbox hb; have BK112 := am (hbox); have GW112 := gwz (g := gb112) HB hg; have GE112 := GW112; replace HB := am (below_step bz hb); clear hb hbox hg) | ((with_reducible refine gate_dst (N := 4) rfl ?_); refine box_event yz (N := 4) yz (cs := #[.int .i64 0, .int .i64 0]) (t := 35) gz ?_; intro gb113 hg w9 hbox hb; have BK113 := am (hbox); have GW113 := gwz (g := gb113) HB hg; have GE113 := GW113; replace HB := am (below_step bz hb); have NB112_113 := nlt (g' := gb113) BK112 hg; have NB113_112 := ngt (g' := gb113) BK112 hg; replace BK112 := am (blk_below (o := .cells #[.slice A0_0 l0_0.length c0_0, .slice A0_1 l0_1.length c0_1] 25 (0, 0)) (kz BK112) hb); clear hb hbox hg))
  have n0_ := am (blk_drew BK112.out)
  have n1_ := am (blk_drew BK113.out)
  have n2_ := am (below_drew1 HB.out)
  clear BK112
  clear BK113
  clear HB
  have BK112 := n0_
  have BK113 := n1_
  have HB := n2_
  clear n0_ n1_ n2_
  have p114 : 0 ≤ (a1 : Int) := az
  have q114 : a1 < (l0_0.length : Int) := az
  obtain ⟨ad114, e114, hx114_0, hx114_1, _, _, _, _, _, _, _, _, _, _, _, _, _, _, _, _, _, _, _, _⟩ := at_T53 HR0_0.out a1 p114 q114
  have hw114_1 := hx114_1
  have hw114_0 := hx114_0
  cases e114
  replace hx114_0 := cb HB.out hx114_0
  replace hx114_1 := cb HB.out hx114_1
  replace p114 := eq_true p114
  replace q114 := eq_true q114
  have p115 : 0 ≤ ((ji5) : Int) := az
  have q115 : (ji5) < (l0_0.length : Int) := az
  obtain ⟨ad115, e115, hx115_0, hx115_1, _, _, _, _, _, _, _, _, _, _, _, _, _, _, _, _, _, _, _, _⟩ := at_T53 HR0_0.out (ji5) p115 q115
  have hw115_1 := hx115_1
  have hw115_0 := hx115_0
  obtain rfl : ad114 = ad115 := (by injection e115)
  replace hx115_0 := cb HB.out hx115_0
  replace hx115_1 := cb HB.out hx115_1
  replace p115 := eq_true p115
  replace q115 := eq_true q115
  refine start_ (n := 17) (S := fun w' => w'.cell? ⟨gb112, 0, none⟩ = some (.slice (some ad114) l0_0.length c0_0) ∧ w'.cell? ⟨gb112, 1, none⟩ = some (.slice A0_1 l0_1.length c0_1) ∧ w'.cell? (ad114.add ((a1).toNat * 22)) = some (.int .i64 ((rd_T53 l0_0 a1).f0.f0)) ∧ w'.cell? ⟨(ad114.add ((a1).toNat * 22)).block, (ad114.add ((a1).toNat * 22)).off + 1, none⟩ = some (.int .i64 ((rd_T53 l0_0 a1).f0.f1)) ∧ w'.cell? (ad114.add (((ji5)).toNat * 22)) = some (.int .i64 ((rd_T53 l0_0 (ji5)).f0.f0)) ∧ w'.cell? ⟨(ad114.add (((ji5)).toNat * 22)).block, (ad114.add (((ji5)).toNat * 22)).off + 1, none⟩ = some (.int .i64 ((rd_T53 l0_0 (ji5)).f0.f1))) (ds := []) (bm 17 0) qz rfl rfl ⟨(blk_cell BK112.out 0).trans rfl, (blk_cell BK112.out 1).trans rfl, (cb HB.out hw114_0), (cb HB.out hw114_1), (cb HB.out hw115_0), (cb HB.out hw115_1)⟩ (fun hHeld => ?_); refine with_tabW floor_step.tab1 floor_step.bits1 (fun HT_ HW_ => ?_)
  generalize w9.drew = w10 at BK112 BK113 HB hx114_0 hx114_1 hx115_0 hx115_1 hHeld ⊢
  refine pa (i := 0) (N := some 7) (bm 17 1) HT_ ?_
  refine pa (i := 2) (N := some 9) (bm 17 5) HT_ ?_
  refine pa (i := 6) (N := some 13) (bm 17 69) HT_ ?_
  refine pa (i := 8) (N := some 15) (bm 17 325) HT_ ?_
  refine pa (i := 9) (N := some 16) (bm 17 837) HT_ ?_
  refine take_ (i := 1) (N := some 8) (v := ?_) (a' := ?_) (bm 17 839) rfl rfl (take_ofW HT_.out HW_.out qz) iz (Or.inl ⟨by rfl, ?_⟩) hHeld ?_ ?_
  rotate_left
  ·
   rintro w' ⟨s0, s1, s2, s3, s4, s5⟩
   go_simp
   with_reducible rfl
  rotate_left
  ·
   simp only [Act.put, aS, lZ, lS, i64_w, i32_w]
   rfl
  refine pa (i := 3) (N := some 10) (bm 17 847) HT_ ?_
  refine pa (i := 4) (N := some 11) (bm 17 863) HT_ ?_
  refine take_ (i := 5) (N := some 12) (v := ?_) (a' := ?_) (bm 17 895) rfl rfl (take_ofW HT_.out HW_.out qz) iz (Or.inl ⟨by rfl, ?_⟩) hHeld ?_ ?_
  rotate_left
  ·
   rintro w' ⟨s0, s1, s2, s3, s4, s5⟩
   go_simp
   with_reducible rfl
  rotate_left
  ·
   simp only [Act.put, aS, lZ, lS, i64_w, i32_w]
   rfl
  refine take_ (i := 7) (N := some 14) (v := ?_) (a' := ?_) (bm 17 1023) rfl rfl (take_ofW HT_.out HW_.out qz) iz (Or.inl ⟨by rfl, ?_⟩) hHeld ?_ ?_
  rotate_left
  ·
   rintro w' ⟨s0, s1, s2, s3, s4, s5⟩
   go_simp
   with_reducible rfl
  rotate_left
  ·
   simp only [Act.put, aS, lZ, lS, i64_w, i32_w]
   rfl
  refine pa (i := 10) (N := some 17) (bm 17 2047) HT_ ?_
  refine pa (i := 11) (N := some 18) (bm 17 4095) HT_ ?_
  refine take_ (i := 12) (N := some 19) (v := ?_) (a' := ?_) (bm 17 8191) rfl rfl (take_ofW HT_.out HW_.out qz) iz (Or.inl ⟨by rfl, ?_⟩) hHeld ?_ ?_
  rotate_left
  ·
   rintro w' ⟨s0, s1, s2, s3, s4, s5⟩
   go_simp
   with_reducible rfl
  rotate_left
  ·
   simp only [Act.put, aS, lZ, lS, i64_w, i32_w]
   rfl
  refine join_ (σ := Nat × Nat) 2 (bm 17 32767) (fun s_ => [(5, .pointer (some ⟨s_.1, 0, none⟩)), (6, .pointer (some ⟨s_.2, 0, none⟩))]) (fun s_ w' => (w'.cell? ⟨gb112, 0, none⟩ = some (.slice (some ad114) l0_0.length c0_0) ∧ w'.cell? ⟨gb112, 1, none⟩ = some (.slice A0_1 l0_1.length c0_1) ∧ w'.cell? (ad114.add ((a1).toNat * 22)) = some (.int .i64 ((rd_T53 l0_0 a1).f0.f0)) ∧ w'.cell? ⟨(ad114.add ((a1).toNat * 22)).block, (ad114.add ((a1).toNat * 22)).off + 1, none⟩ = some (.int .i64 ((rd_T53 l0_0 a1).f0.f1)) ∧ w'.cell? (ad114.add (((ji5)).toNat * 22)) = some (.int .i64 ((rd_T53 l0_0 (ji5)).f0.f0)) ∧ w'.cell? ⟨(ad114.add (((ji5)).toNat * 22)).block, (ad114.add (((ji5)).toNat * 22)).off + 1, none⟩ = some (.int .i64 ((rd_T53 l0_0 (ji5)).f0.f1))) ∧ (w'.heap[gb112]? = some (.cells #[.slice (some ad114) l0_0.length c0_0, .slice A0_1 l0_1.length c0_1] 25 (0, 0))) ∧ (w'.heap[gb113]? = some (.cells #[.int .i64 0, .int .i64 0] 35 (0, 0))) ∧ (w'.heap[s_.1]? = some (.cells #[.int .i64 0, .int .i64 0] 35 (0, 0))) ∧ (w'.heap[s_.2]? = some (.cells #[.int .i64 0, .int .i64 0] 35 (0, 0))) ∧ (w.heap.size ≤ s_.1) ∧ (w.heap.size ≤ s_.1) ∧ (gb112 ≠ s_.1) ∧ (s_.1 ≠ gb112) ∧ (gb113 ≠ s_.1) ∧ (s_.1 ≠ gb113) ∧ (s_.2 ≠ s_.1) ∧ (s_.1 ≠ s_.2) ∧ (w.heap.size ≤ s_.2) ∧ (w.heap.size ≤ s_.2) ∧ (gb112 ≠ s_.2) ∧ (s_.2 ≠ gb112) ∧ (gb113 ≠ s_.2) ∧ (s_.2 ≠ gb113) ∧ (Below w.heap.size w w')) ?_ ?_
  rotate_left
  ·
   intro hCont
   refine two_ (i := 13) (j := 14) (Ni := some 5) (Nj := some 6) (bm 17 16383) (bm 17 24575) rfl rfl rfl rfl (two_of HT_.out qz) (by decide) (by decide) (fun K hK => ?_) (fun K hK => ?_)
   ·
    skip
    refine box_step ?hg (N := 5) ?hd (cs := #[.int .i64 0, .int .i64 0]) (t := 35) ?hr ?_; (case hd => rfl); (case hg => rfl); (case hr => first | (go_simp; done) | (go_simp; rfl))
    intro gb116 hg w11 hbox hb
    have n0_ := am (blk_below (o := .cells #[.slice (some ad114) l0_0.length c0_0, .slice A0_1 l0_1.length c0_1] 25 (0, 0)) (kz BK112) hb)
    have n1_ := am (blk_below (o := .cells #[.int .i64 0, .int .i64 0] 35 (0, 0)) (kz BK113) hb)
    have n2_ := am (below_step bz hb)
    have n3_ := am (hbox)
    have n4_ := gwz (g := gb116) HB hg
    have n5_ := gwz (g := gb116) HB hg
    have n6_ := nlt (g' := gb116) BK112 hg
    have n7_ := ngt (g' := gb116) BK112 hg
    have n8_ := nlt (g' := gb116) BK113 hg
    have n9_ := ngt (g' := gb116) BK113 hg
    clear BK112
    clear BK113
    clear HB
    have BK112 := n0_
    have BK113 := n1_
    have HB := n2_
    have BK116 := n3_
    have GW116 := n4_
    have GE116 := n5_
    have NB112_116 := n6_
    have NB116_112 := n7_
    have NB113_116 := n8_
    have NB116_113 := n9_
    clear n0_ n1_ n2_ n3_ n4_ n5_ n6_ n7_ n8_ n9_
    clear hb hbox hg
    refine hK.out _ _ ⟨(blk_cell BK112.out 0).trans rfl, (blk_cell BK112.out 1).trans rfl, (cb HB.out hw114_0), (cb HB.out hw114_1), (cb HB.out hw115_0), (cb HB.out hw115_1)⟩ (fun hHeld => ?_)
    clear hK K
    refine norm_ (a' := ?_) ?_ ?_
    rotate_left
    ·
     show Act.put _ (some 5) _ = _
     simp only [Act.put, aS, lZ, lS, i64_w, i32_w]
     rfl
    refine one_ (i := 14) (N := some 6) (bm 17 32767) rfl rfl (one_of HT_.out qz) (by decide) (fun K hK => ?_)
    refine box_step ?hg (N := 6) ?hd (cs := #[.int .i64 0, .int .i64 0]) (t := 35) ?hr ?_; (case hd => rfl); (case hg => rfl); (case hr => first | (go_simp; done) | (go_simp; rfl))
    intro gb117 hg w12 hbox hb
    have n0_ := am (blk_below (o := .cells #[.slice (some ad114) l0_0.length c0_0, .slice A0_1 l0_1.length c0_1] 25 (0, 0)) (kz BK112) hb)
    have n1_ := am (blk_below (o := .cells #[.int .i64 0, .int .i64 0] 35 (0, 0)) (kz BK113) hb)
    have n2_ := am (blk_below (o := .cells #[.int .i64 0, .int .i64 0] 35 (0, 0)) (kz BK116) hb)
    have n3_ := am (below_step bz hb)
    have n4_ := am (hbox)
    have n5_ := gwz (g := gb117) HB hg
    have n6_ := gwz (g := gb117) HB hg
    have n7_ := nlt (g' := gb117) BK112 hg
    have n8_ := ngt (g' := gb117) BK112 hg
    have n9_ := nlt (g' := gb117) BK113 hg
    have n10_ := ngt (g' := gb117) BK113 hg
    have n11_ := nlt (g' := gb117) BK116 hg
    have n12_ := ngt (g' := gb117) BK116 hg
    clear BK112
    clear BK113
    clear BK116
    clear HB
    have BK112 := n0_
    have BK113 := n1_
    have BK116 := n2_
    have HB := n3_
    have BK117 := n4_
    have GW117 := n5_
    have GE117 := n6_
    have NB112_117 := n7_
    have NB117_112 := n8_
    have NB113_117 := n9_
    have NB117_113 := n10_
    have NB116_117 := n11_
    have NB117_116 := n12_
    clear n0_ n1_ n2_ n3_ n4_ n5_ n6_ n7_ n8_ n9_ n10_ n11_ n12_
    clear hb hbox hg
    refine hK.out _ _ ⟨(blk_cell BK112.out 0).trans rfl, (blk_cell BK112.out 1).trans rfl, (cb HB.out hw114_0), (cb HB.out hw114_1), (cb HB.out hw115_0), (cb HB.out hw115_1)⟩ (fun hHeld => ?_)
    clear hK K
    refine norm_ (a' := ?_) ?_ ?_
    rotate_left
    ·
     show Act.put _ (some 6) _ = _
     simp only [Act.put, aS, lZ, lS, i64_w, i32_w]
     rfl
    exact norm_ (by simp only [putAll, Act.put, List.setIfInBounds_toArray, List.set_cons_zero, List.set_cons_succ]) (hCont (gb116, gb117) _ ⟨hHeld, (kz BK112), (kz BK113), (kz BK116), (kz BK117), GW116.out, GE116.out, NB112_116.out, NB116_112.out, NB113_116.out, NB116_113.out, NB117_116.out, NB116_117.out, GW117.out, GE117.out, NB112_117.out, NB117_112.out, NB113_117.out, NB117_113.out, bz⟩)
   ·
    skip
    refine box_step ?hg (N := 6) ?hd (cs := #[.int .i64 0, .int .i64 0]) (t := 35) ?hr ?_; (case hd => rfl); (case hg => rfl); (case hr => first | (go_simp; done) | (go_simp; rfl))
    intro gb117 hg w11 hbox hb
    have n0_ := am (blk_below (o := .cells #[.slice (some ad114) l0_0.length c0_0, .slice A0_1 l0_1.length c0_1] 25 (0, 0)) (kz BK112) hb)
    have n1_ := am (blk_below (o := .cells #[.int .i64 0, .int .i64 0] 35 (0, 0)) (kz BK113) hb)
    have n2_ := am (below_step bz hb)
    have n3_ := am (hbox)
    have n4_ := gwz (g := gb117) HB hg
    have n5_ := gwz (g := gb117) HB hg
    have n6_ := nlt (g' := gb117) BK112 hg
    have n7_ := ngt (g' := gb117) BK112 hg
    have n8_ := nlt (g' := gb117) BK113 hg
    have n9_ := ngt (g' := gb117) BK113 hg
    clear BK112
    clear BK113
    clear HB
    have BK112 := n0_
    have BK113 := n1_
    have HB := n2_
    have BK117 := n3_
    have GW117 := n4_
    have GE117 := n5_
    have NB112_117 := n6_
    have NB117_112 := n7_
    have NB113_117 := n8_
    have NB117_113 := n9_
    clear n0_ n1_ n2_ n3_ n4_ n5_ n6_ n7_ n8_ n9_
    clear hb hbox hg
    refine hK.out _ _ ⟨(blk_cell BK112.out 0).trans rfl, (blk_cell BK112.out 1).trans rfl, (cb HB.out hw114_0), (cb HB.out hw114_1), (cb HB.out hw115_0), (cb HB.out hw115_1)⟩ (fun hHeld => ?_)
    clear hK K
    refine norm_ (a' := ?_) ?_ ?_
    rotate_left
    ·
     show Act.put _ (some 6) _ = _
     simp only [Act.put, aS, lZ, lS, i64_w, i32_w]
     rfl
    refine one_ (i := 13) (N := some 5) (bm 17 32767) rfl rfl (one_of HT_.out qz) (by decide) (fun K hK => ?_)
    refine box_step ?hg (N := 5) ?hd (cs := #[.int .i64 0, .int .i64 0]) (t := 35) ?hr ?_; (case hd => rfl); (case hg => rfl); (case hr => first | (go_simp; done) | (go_simp; rfl))
    intro gb116 hg w12 hbox hb
    have n0_ := am (blk_below (o := .cells #[.slice (some ad114) l0_0.length c0_0, .slice A0_1 l0_1.length c0_1] 25 (0, 0)) (kz BK112) hb)
    have n1_ := am (blk_below (o := .cells #[.int .i64 0, .int .i64 0] 35 (0, 0)) (kz BK113) hb)
    have n2_ := am (blk_below (o := .cells #[.int .i64 0, .int .i64 0] 35 (0, 0)) (kz BK117) hb)
    have n3_ := am (below_step bz hb)
    have n4_ := am (hbox)
    have n5_ := gwz (g := gb116) HB hg
    have n6_ := gwz (g := gb116) HB hg
    have n7_ := nlt (g' := gb116) BK112 hg
    have n8_ := ngt (g' := gb116) BK112 hg
    have n9_ := nlt (g' := gb116) BK113 hg
    have n10_ := ngt (g' := gb116) BK113 hg
    have n11_ := nlt (g' := gb116) BK117 hg
    have n12_ := ngt (g' := gb116) BK117 hg
    clear BK112
    clear BK113
    clear BK117
    clear HB
    have BK112 := n0_
    have BK113 := n1_
    have BK117 := n2_
    have HB := n3_
    have BK116 := n4_
    have GW116 := n5_
    have GE116 := n6_
    have NB112_116 := n7_
    have NB116_112 := n8_
    have NB113_116 := n9_
    have NB116_113 := n10_
    have NB117_116 := n11_
    have NB116_117 := n12_
    clear n0_ n1_ n2_ n3_ n4_ n5_ n6_ n7_ n8_ n9_ n10_ n11_ n12_
    clear hb hbox hg
    refine hK.out _ _ ⟨(blk_cell BK112.out 0).trans rfl, (blk_cell BK112.out 1).trans rfl, (cb HB.out hw114_0), (cb HB.out hw114_1), (cb HB.out hw115_0), (cb HB.out hw115_1)⟩ (fun hHeld => ?_)
    clear hK K
    refine norm_ (a' := ?_) ?_ ?_
    rotate_left
    ·
     show Act.put _ (some 5) _ = _
     simp only [Act.put, aS, lZ, lS, i64_w, i32_w]
     rfl
    exact norm_ (by simp only [putAll, Act.put, List.setIfInBounds_toArray, List.set_cons_zero, List.set_cons_succ]) (hCont (gb116, gb117) _ ⟨hHeld, (kz BK112), (kz BK113), (kz BK116), (kz BK117), GW116.out, GE116.out, NB112_116.out, NB116_112.out, NB113_116.out, NB116_113.out, NB117_116.out, NB116_117.out, GW117.out, GE117.out, NB112_117.out, NB117_112.out, NB113_117.out, NB117_113.out, bz⟩)
  rintro ⟨gb116, gb117⟩ w13 ⟨hS_, h0_, h1_, h2_, h3_, h4_, h5_, h6_, h7_, h8_, h9_, h10_, h11_, h12_, h13_, h14_, h15_, h16_, h17_, h18_⟩
  have n0_ : Aside0 (w13.heap[gb112]? = some (.cells #[.slice (some ad114) l0_0.length c0_0, .slice A0_1 l0_1.length c0_1] 25 (0, 0))) := ⟨h0_⟩
  have n1_ : Aside0 (w13.heap[gb113]? = some (.cells #[.int .i64 0, .int .i64 0] 35 (0, 0))) := ⟨h1_⟩
  have n2_ : Aside0 (w13.heap[gb116]? = some (.cells #[.int .i64 0, .int .i64 0] 35 (0, 0))) := ⟨h2_⟩
  have n3_ : Aside0 (w13.heap[gb117]? = some (.cells #[.int .i64 0, .int .i64 0] 35 (0, 0))) := ⟨h3_⟩
  have n4_ : Aside0 (w.heap.size ≤ gb116) := ⟨h4_⟩
  have n5_ : Aside0 (w.heap.size ≤ gb116) := ⟨h5_⟩
  have n6_ : Aside0 (gb112 ≠ gb116) := ⟨h6_⟩
  have n7_ : Aside0 (gb116 ≠ gb112) := ⟨h7_⟩
  have n8_ : Aside0 (gb113 ≠ gb116) := ⟨h8_⟩
  have n9_ : Aside0 (gb116 ≠ gb113) := ⟨h9_⟩
  have n10_ : Aside0 (gb117 ≠ gb116) := ⟨h10_⟩
  have n11_ : Aside0 (gb116 ≠ gb117) := ⟨h11_⟩
  have n12_ : Aside0 (w.heap.size ≤ gb117) := ⟨h12_⟩
  have n13_ : Aside0 (w.heap.size ≤ gb117) := ⟨h13_⟩
  have n14_ : Aside0 (gb112 ≠ gb117) := ⟨h14_⟩
  have n15_ : Aside0 (gb117 ≠ gb112) := ⟨h15_⟩
  have n16_ : Aside0 (gb113 ≠ gb117) := ⟨h16_⟩
  have n17_ : Aside0 (gb117 ≠ gb113) := ⟨h17_⟩
  have n18_ : Aside0 (Below w.heap.size w w13) := ⟨h18_⟩
  clear BK112
  clear BK113
  clear HB
  clear h0_ h1_ h2_ h3_ h4_ h5_ h6_ h7_ h8_ h9_ h10_ h11_ h12_ h13_ h14_ h15_ h16_ h17_ h18_
  have BK112 := n0_
  have BK113 := n1_
  have BK116 := n2_
  have BK117 := n3_
  have GW116 := n4_
  have GE116 := n5_
  have NB112_116 := n6_
  have NB116_112 := n7_
  have NB113_116 := n8_
  have NB116_113 := n9_
  have NB117_116 := n10_
  have NB116_117 := n11_
  have GW117 := n12_
  have GE117 := n13_
  have NB112_117 := n14_
  have NB117_112 := n15_
  have NB113_117 := n16_
  have NB117_113 := n17_
  have HB := n18_
  clear n0_ n1_ n2_ n3_ n4_ n5_ n6_ n7_ n8_ n9_ n10_ n11_ n12_ n13_ n14_ n15_ n16_ n17_ n18_
  have hHeld : w13.cell? ⟨gb112, 0, none⟩ = some (.slice (some ad114) l0_0.length c0_0) ∧ w13.cell? ⟨gb112, 1, none⟩ = some (.slice A0_1 l0_1.length c0_1) ∧ w13.cell? (ad114.add ((a1).toNat * 22)) = some (.int .i64 ((rd_T53 l0_0 a1).f0.f0)) ∧ w13.cell? ⟨(ad114.add ((a1).toNat * 22)).block, (ad114.add ((a1).toNat * 22)).off + 1, none⟩ = some (.int .i64 ((rd_T53 l0_0 a1).f0.f1)) ∧ w13.cell? (ad114.add (((ji5)).toNat * 22)) = some (.int .i64 ((rd_T53 l0_0 (ji5)).f0.f0)) ∧ w13.cell? ⟨(ad114.add (((ji5)).toNat * 22)).block, (ad114.add (((ji5)).toNat * 22)).off + 1, none⟩ = some (.int .i64 ((rd_T53 l0_0 (ji5)).f0.f1)) := hS_
  refine norm_ (a' := ?_) ?_ ?_
  rotate_left
  ·
   simp only [putAll, Act.put, List.setIfInBounds_toArray, List.set_cons_zero, List.set_cons_succ]
   rfl
  refine one_ (i := 15) (N := none) (bm 17 65535) rfl rfl (one_of HT_.out qz) (by decide) (fun K hK => ?_)
  have hs14 : w13.cell? ⟨gb116, 0, none⟩ = some (.int .i64 0) := (blk_cell BK116.out 0).trans rfl
  have hfs14 := blk_frozen BK116.out 0
  have hns14_0 := NB112_116.out
  have hns14_1 := NB113_116.out
  have hns14_3 := NB117_116.out
  have hms14_0 := NB116_112.out
  have hms14_1 := NB116_113.out
  have hms14_3 := NB116_117.out
  have hs15 : w13.cell? ⟨gb116, 1, none⟩ = some (.int .i64 0) := (blk_cell BK116.out 1).trans rfl
  have hfs15 := blk_frozen BK116.out 1
  have hns15_0 := NB112_116.out
  have hns15_1 := NB113_116.out
  have hns15_3 := NB117_116.out
  have hms15_0 := NB116_112.out
  have hms15_1 := NB116_113.out
  have hms15_3 := NB116_117.out
  refine skip_ (w1 := ?_) (by rfl) rfl ?_ ?_
  rotate_left
  ·
   go_simp
   rfl
  refine hK.out _ _ ⟨((cell_far (p := ⟨gb116, _, none⟩) NB112_116.out _).trans (((cell_far (p := ⟨gb116, _, none⟩) NB112_116.out _).trans (hHeld.1)))), ((cell_far (p := ⟨gb116, _, none⟩) NB112_116.out _).trans (((cell_far (p := ⟨gb116, _, none⟩) NB112_116.out _).trans (hHeld.2.1)))), ((cell_far (p := ⟨gb116, _, none⟩) (by first | exact nb hw114_0 GW116.out | exact nc hw114_0 GW116.out | exact nd hw114_0 GW116.out) _).trans (((cell_far (p := ⟨gb116, _, none⟩) (by first | exact nb hw114_0 GW116.out | exact nc hw114_0 GW116.out | exact nd hw114_0 GW116.out) _).trans (hHeld.2.2.1)))), ((cell_far (p := ⟨gb116, _, none⟩) (by first | exact nb hw114_1 GW116.out | exact nc hw114_1 GW116.out | exact nd hw114_1 GW116.out) _).trans (((cell_far (p := ⟨gb116, _, none⟩) (by first | exact nb hw114_1 GW116.out | exact nc hw114_1 GW116.out | exact nd hw114_1 GW116.out) _).trans (hHeld.2.2.2.1)))), ((cell_far (p := ⟨gb116, _, none⟩) (by first | exact nb hw115_0 GW116.out | exact nc hw115_0 GW116.out | exact nd hw115_0 GW116.out) _).trans (((cell_far (p := ⟨gb116, _, none⟩) (by first | exact nb hw115_0 GW116.out | exact nc hw115_0 GW116.out | exact nd hw115_0 GW116.out) _).trans (hHeld.2.2.2.2.1)))), ((cell_far (p := ⟨gb116, _, none⟩) (by first | exact nb hw115_1 GW116.out | exact nc hw115_1 GW116.out | exact nd hw115_1 GW116.out) _).trans (((cell_far (p := ⟨gb116, _, none⟩) (by first | exact nb hw115_1 GW116.out | exact nc hw115_1 GW116.out | exact nd hw115_1 GW116.out) _).trans (hHeld.2.2.2.2.2))))⟩ (fun hHeld => ?_)
  clear hK K
  refine one_ (i := 16) (N := none) (bm 17 131071) rfl rfl (one_of HT_.out qz) (by decide) (fun K hK => ?_)
  have hs16 : w13.cell? ⟨gb117, 0, none⟩ = some (.int .i64 0) := (blk_cell BK117.out 0).trans rfl
  have hfs16 := blk_frozen BK117.out 0
  have hns16_0 := NB112_117.out
  have hns16_1 := NB113_117.out
  have hns16_2 := NB116_117.out
  have hms16_0 := NB117_112.out
  have hms16_1 := NB117_113.out
  have hms16_2 := NB117_116.out
  have hs17 : w13.cell? ⟨gb117, 1, none⟩ = some (.int .i64 0) := (blk_cell BK117.out 1).trans rfl
  have hfs17 := blk_frozen BK117.out 1
  have hns17_0 := NB112_117.out
  have hns17_1 := NB113_117.out
  have hns17_2 := NB116_117.out
  have hms17_0 := NB117_112.out
  have hms17_1 := NB117_113.out
  have hms17_2 := NB117_116.out
  refine skip_ (w1 := ?_) (by rfl) rfl ?_ ?_
  rotate_left
  ·
   go_simp
   rfl
  refine hK.out _ _ ⟨((cell_far (p := ⟨gb117, _, none⟩) NB112_117.out _).trans (((cell_far (p := ⟨gb117, _, none⟩) NB112_117.out _).trans (hHeld.1)))), ((cell_far (p := ⟨gb117, _, none⟩) NB112_117.out _).trans (((cell_far (p := ⟨gb117, _, none⟩) NB112_117.out _).trans (hHeld.2.1)))), ((cell_far (p := ⟨gb117, _, none⟩) (by first | exact nb hw114_0 GW117.out | exact nc hw114_0 GW117.out | exact nd hw114_0 GW117.out) _).trans (((cell_far (p := ⟨gb117, _, none⟩) (by first | exact nb hw114_0 GW117.out | exact nc hw114_0 GW117.out | exact nd hw114_0 GW117.out) _).trans (hHeld.2.2.1)))), ((cell_far (p := ⟨gb117, _, none⟩) (by first | exact nb hw114_1 GW117.out | exact nc hw114_1 GW117.out | exact nd hw114_1 GW117.out) _).trans (((cell_far (p := ⟨gb117, _, none⟩) (by first | exact nb hw114_1 GW117.out | exact nc hw114_1 GW117.out | exact nd hw114_1 GW117.out) _).trans (hHeld.2.2.2.1)))), ((cell_far (p := ⟨gb117, _, none⟩) (by first | exact nb hw115_0 GW117.out | exact nc hw115_0 GW117.out | exact nd hw115_0 GW117.out) _).trans (((cell_far (p := ⟨gb117, _, none⟩) (by first | exact nb hw115_0 GW117.out | exact nc hw115_0 GW117.out | exact nd hw115_0 GW117.out) _).trans (hHeld.2.2.2.2.1)))), ((cell_far (p := ⟨gb117, _, none⟩) (by first | exact nb hw115_1 GW117.out | exact nc hw115_1 GW117.out | exact nd hw115_1 GW117.out) _).trans (((cell_far (p := ⟨gb117, _, none⟩) (by first | exact nb hw115_1 GW117.out | exact nc hw115_1 GW117.out | exact nd hw115_1 GW117.out) _).trans (hHeld.2.2.2.2.2))))⟩ (fun hHeld => ?_)
  clear hK K
  refine done_ (done_of HT_.out qz) ?_
  have hnb18 := NB117_112.out
  have hnc18 := NB112_117.out
  have hnb19 := NB117_113.out
  have hnc19 := NB113_117.out
  have hnb20 := NB117_116.out
  have hnc20 := NB116_117.out
  obtain ⟨hcz21_0, hcz21_1, hfz21_0, hfz21_1⟩ := kc2 BK117.out
  have hnb22 := NB116_112.out
  have hnc22 := NB112_116.out
  have hnb23 := NB116_113.out
  have hnc23 := NB113_116.out
  obtain ⟨hcz24_0, hcz24_1, hfz24_0, hfz24_1⟩ := kc2 BK116.out
  have hnb25 := NB113_112.out
  have hnc25 := NB112_113.out
  obtain ⟨hcz26_0, hcz26_1, hfz26_0, hfz26_1⟩ := kc2 BK113.out
  try go_wp2
  refine bodyPost_ret (results_cell_row rfl _ _ gb113 35 #[.int .i64 (wrap64 (((rd_T53 l0_0 (ji5)).f0.f0) - ((rd_T53 l0_0 a1).f0.f0))), .int .i64 (wrap64 (((rd_T53 l0_0 (ji5)).f0.f1) - ((rd_T53 l0_0 a1).f0.f1)))] (0, 0) _ rfl (by (with_reducible repeat first | apply kN | apply kD | apply kA); refine blk_put (cs := #[.int .i64 (wrap64 (((rd_T53 l0_0 (ji5)).f0.f0) - ((rd_T53 l0_0 a1).f0.f0))), .int .i64 0]) ?_ 1 _ rfl; (with_reducible repeat first | apply kN | apply kD | apply kA); refine blk_put (cs := #[.int .i64 0, .int .i64 0]) ?_ 0 _ rfl; (with_reducible repeat first | apply kN | apply kD | apply kA); refine blk_far ?_ NB113_117.out _; (with_reducible repeat first | apply kN | apply kD | apply kA); refine blk_far ?_ NB113_117.out _; (with_reducible repeat first | apply kN | apply kD | apply kA); refine blk_far ?_ NB113_116.out _; (with_reducible repeat first | apply kN | apply kD | apply kA); refine blk_far ?_ NB113_116.out _; (with_reducible repeat first | apply kN | apply kD | apply kA); exact BK113.out) Try.underlying35 rfl qz) rfl ?_
  exact ⟨by first | rfl | (simp [errW_none, errW_some] <;> rfl) | (simp only [← hji5]; first | rfl | (simp [errW_none, errW_some] <;> rfl)) | (simp [*, errW_none, errW_some] <;> rfl), bz⟩
 ·
  rw [if_neg c3] at H
  exact absurd H (by simp)

end Go.Proofs.Ytmdmajfgpmopbaa.X

namespace Go.Proofs.Ytmdmajfgpmopbaa.X
open Go.RowKit YtmdmajfgpmopbaaW.PrintWords YtmdmajfgpmopbaaW.PrintLast YtmdmajfgpmopbaaW.PrintMore
attribute [local go_sem] max2_int min2_int max_two min_two max_three min_three max_four min_four
set_option linter.unusedVariables false
set_option linter.unusedSimpArgs false

attribute [local go_sem high] eqA35
/-! ### floor_Path: function 11 -/
def floor_Path.l0 : Nat → List (S35) → List Int → List (S53) → Int → Int → List (S53) → List Int → Option ((List (S35)) × List Int × Int)
 | 0, _, _, _, _, _, _, _ => none
 | k + 1, x6, x7, x16, x17, x18, x119000, x119001 => if x18 < x17 then (if 0 ≤ x18 then (if x18 < (x16.length : Int) then (if x18 > 0 then (if x18 < (x119001.length : Int) then ((floor_step.f x119000 x119001 (wrap64 (x18 - 1))).bind fun bt122 => ((floor_step.f x119000 x119001 x18).bind fun bt124 => (if (bt122.1 == bt124.1 && (bt122.2 == bt124.2)) = true then (floor_Path.l0 k x6 x7 x16 x17 (wrap64 (x18 + 1)) x119000 x119001) else (if x6.length < 8796093022208 then (if x7.length < 17592186044416 then (floor_Path.l0 k (x6 ++ [(⟨(rd_T53 x16 x18).f0.f0, (rd_T53 x16 x18).f0.f1⟩ : S35)]) (x7 ++ [x18]) x16 x17 (wrap64 (x18 + 1)) x119000 x119001) else (none)) else (none))))) else (if x6.length < 8796093022208 then (if x7.length < 17592186044416 then (floor_Path.l0 k (x6 ++ [(⟨(rd_T53 x16 x18).f0.f0, (rd_T53 x16 x18).f0.f1⟩ : S35)]) (x7 ++ [x18]) x16 x17 (wrap64 (x18 + 1)) x119000 x119001) else (none)) else (none))) else (if x6.length < 8796093022208 then (if x7.length < 17592186044416 then (floor_Path.l0 k (x6 ++ [(⟨(rd_T53 x16 x18).f0.f0, (rd_T53 x16 x18).f0.f1⟩ : S35)]) (x7 ++ [x18]) x16 x17 (wrap64 (x18 + 1)) x119000 x119001) else (none)) else (none))) else (none)) else (none)) else (some (x6, x7, 0))
def floor_Path.f (k : Nat) (l0_0 : List (S53)) (l0_1 : List Int) : Option ((List (S35)) × List Int × Int) := (movement_Check.f k l0_0 l0_1).bind fun t119 => (if t119 = 0 then (floor_Path.l0 k ([] : List (S35)) ([] : List Int) l0_0 (l0_0.length : Int) 0 l0_0 l0_1) else (some (([] : List (S35)), ([] : List Int), t119)))
theorem floor_Path.mono_l : ∀ k, (∀ y0 y1 y2 y3 y4 y5 y6, LeO (floor_Path.l0 k y0 y1 y2 y3 y4 y5 y6) (floor_Path.l0 (k + 1) y0 y1 y2 y3 y4 y5 y6))
 | 0 => fun _ _ _ _ _ _ _ r h => by simp [floor_Path.l0] at h
 | k + 1 => by
  have ih0 := floor_Path.mono_l k
  ·
   intro y0 y1 y2 y3 y4 y5 y6
   unfold floor_Path.l0
   repeat' first
   | (with_reducible exact ih0 _ _ _ _ _ _ _)
   | (with_reducible exact movement_Check.mono _ _ _)
   | (with_reducible exact LeO.refl _)
   | (with_reducible exact LeO.none _)
   | (with_reducible refine LeO.ite ?_ ?_)
   | (with_reducible refine LeO.bind ?_ (fun _ => ?_))
   | exact ih0 _ _ _ _ _ _ _
   | exact movement_Check.mono _ _ _
   | exact LeO.none _
   | refine LeO.ite ?_ ?_
   | refine LeO.bind ?_ (fun _ => ?_)
theorem floor_Path.mono : ∀ a0 a1 k, LeO (floor_Path.f k a0 a1) (floor_Path.f (k + 1) a0 a1) := by
 intro a0 a1 k
 have ih0 := floor_Path.mono_l k
 unfold floor_Path.f
 repeat' first
   | (with_reducible exact ih0 _ _ _ _ _ _ _)
   | (with_reducible exact movement_Check.mono _ _ _)
   | (with_reducible exact LeO.refl _)
   | (with_reducible exact LeO.none _)
   | (with_reducible refine LeO.ite ?_ ?_)
   | (with_reducible refine LeO.bind ?_ (fun _ => ?_))
   | exact ih0 _ _ _ _ _ _ _
   | exact movement_Check.mono _ _ _
   | exact LeO.none _
   | refine LeO.ite ?_ ?_
   | refine LeO.bind ?_ (fun _ => ?_)
def floor_Path.T9 : Bool × List (List Nat × List Nat) := (true, [([], []), ([0], [0]), ([1], [1]), ([2], [2]), ([2], [2]), ([4, 2], [2, 4]), ([5, 2], [2, 5]), ([3, 6, 2], [2, 3, 6]), ([2, 7], [2, 7]), ([8, 2], [8]), ([9], [9]), ([9], [9]), ([11, 9], [9, 11]), ([10, 12, 9, 9], [9, 10, 12]), ([9], [9]), ([9], [9]), ([14, 15, 13, 9], [9, 14, 15]), ([13, 16, 9], [9, 13, 16]), ([9, 17], [9, 17])])
def floor_Path.B9 : List Nat := [0, 1, 3, 7, 7, 23, 55, 127, 255, 511, 1023, 1023, 3071, 8191, 1023, 1023, 65535, 131071, 262143]
theorem floor_Path.tab9 : rtab .any (opsOf Try.f11 9) = floor_Path.T9 := by kernel_rfl
theorem floor_Path.bits9 : waitsOk floor_Path.T9.2 floor_Path.B9 = true := by kernel_rfl
set_option maxHeartbeats 8000000 in
set_option maxRecDepth 100000 in
theorem floor_Path.calls (k : Nat) (A0_0 : Option Addr) (c0_0 : Nat) (l0_0 : List (S53)) (A0_1 : Option Addr) (c0_1 : Nat) (l0_1 : List Int) (r1 : List (S35)) (r2 : List Int) (r3 : Int) (w : World) (hr0_0 : Kd.C k53 w A0_0 l0_0.length l0_0) (hc0_0 : l0_0.length ≤ c0_0) (hr0_1 : Kd.C (Kd.int .i64) w A0_1 l0_1.length l0_1) (hc0_1 : l0_1.length ≤ c0_1) (h : floor_Path.f k l0_0 l0_1 = some (r1, r2, r3)) :
  Calls Try.prog 11 #[.agg #[.slice A0_0 l0_0.length c0_0, .slice A0_1 l0_1.length c0_1]] w fun e w' => ∃ v0_ v1_ : Value, e = .returned (.tuple #[v0_, v1_, .int .i64 r3]) ∧ Kd.R k35 35 w' w.heap.size (fun _ => True) v0_ r1 ∧ Kd.R (Kd.int .i64) 3 w' w.heap.size (fun _ => True) v1_ r2 ∧ Below w.heap.size w w' := by
 have hu25 := Try.underlying25
 have hu53 := Try.underlying53
 have hu35 := Try.underlying35
 have HR0_0 := am hr0_0
 have HC0_0 := am hc0_0
 clear hr0_0 hc0_0
 have HR0_1 := am hr0_1
 have HC0_1 := am hc0_1
 clear hr0_1 hc0_1
 have HB := am (Below.refl w.heap.size w)
 have H : ((movement_Check.f k l0_0 l0_1).bind fun t119 => (if t119 = 0 then (floor_Path.l0 k ([] : List (S35)) ([] : List Int) l0_0 (l0_0.length : Int) 0 l0_0 l0_1) else (some (([] : List (S35)), ([] : List Int), t119)))) = some (r1, r2, r3) := h
 clear h
 replace H := Option.bind_eq_some_iff.mp H
 obtain ⟨t119, A20, H⟩ := H
 replace H : (if t119 = 0 then (floor_Path.l0 k ([] : List (S35)) ([] : List Int) l0_0 (l0_0.length : Int) 0 l0_0 l0_1) else (some (([] : List (S35)), ([] : List Int), t119))) = some (r1, r2, r3) := H
 have A2 := am A20
 clear A20
 by_cases c3 : t119 = 0
 ·
  rw [if_pos c3] at H
  have c3b0 : (t119 == 0) = true := beq_iff_eq.mpr c3
  have c3b1 : (t119 != 0) = false := bne_eq_false_iff_eq.mpr c3
  clear c3
  have H' := am H
  clear H
  go_enter Try.func11, Try.ntmps11
  go_wp2_with (first | ((with_reducible refine gate_dst (N := 1) rfl ?_); refine box_event yz (N := 1) yz (cs := #[.slice A0_0 l0_0.length c0_0, .slice A0_1 l0_1.length c0_1]) (t := 25) gz ?_; intro gb118 hg w4 hbox hb; have BK118 := am (hbox); have GW118 := gwz (g := gb118) HB hg; have GE118 := GW118; replace HB := am (below_step bz hb); clear hb hbox hg; obtain ⟨hcz5_0, hcz5_1, hfz5_0, hfz5_1⟩ := kc2 BK118.out) | ((with_reducible refine gate_callee (f := 21) rfl ?_); refine goesL_ (some 11) rfl rfl Try.func21 qz rfl #[.agg #[.slice A0_0 l0_0.length c0_0, .slice A0_1 l0_1.length c0_1]] rfl mz ?_; (with_reducible refine (movement_Check.calls k _ _ l0_0 _ _ l0_1 t119 _ ?side1 ?side2 ?side3 ?side4 A2.out).mono ?_); (case side1 => exact cz HR0_0); (case side2 => exact HC0_0.out); (case side3 => exact cz HR0_1); (case side4 => exact HC0_1.out); rintro e w6 ⟨rfl, hb⟩; refine ⟨_, rfl, ?_⟩; replace BK118 := am (blk_below (o := .cells #[.slice A0_0 l0_0.length c0_0, .slice A0_1 l0_1.length c0_1] 25 (0, 0)) (kz BK118) hb); replace HB := am (below_step bz hb); (try clear hb); (try clear hb2); (try clear hk); (try clear hi); obtain ⟨hcz7_0, hcz7_1, hfz7_0, hfz7_1⟩ := kc2 BK118.out))
  go_loopg [6, 7, 18] k (fun kq v6 v7 v18 w' => ∃ (x6_1 : List (S35)) (x7_1 : List Int) (x18_1 : Int), v18 = .int .i64 x18_1 ∧ Aside0 (floor_Path.l0 kq x6_1 x7_1 l0_0 (l0_0.length : Int) x18_1 l0_0 l0_1 = some (r1, r2, r3)) ∧ Aside0 (kq ≤ k) ∧ Aside0 (Kd.R k35 35 w' w.heap.size (fun _ => True) v6 x6_1) ∧ Aside0 (Kd.R (Kd.int .i64) 3 w' w.heap.size (fun _ => True) v7 x7_1) ∧ Aside0 (w'.heap[gb118]? = some (.cells #[(.slice A0_0 l0_0.length c0_0), (.slice A0_1 l0_1.length c0_1)] 25 (0, 0))) ∧ Aside0 (Below w.heap.size w w'))
  case atStart => exact ⟨(([] : List (S35))), (([] : List Int)), (0), sz, H', ⟨Nat.le_refl _⟩, ⟨by first | exact Kd.R_nil _ _ _ _ _ | exact Kd.N_nil _ _ _ _ _ | exact Kd.V_nil _ _ _ _ _ | exact Kd.Q_nil _ _ _ _ _ | exact Kd.S_nil _ _ _ _ _⟩, ⟨by first | exact Kd.R_nil _ _ _ _ _ | exact Kd.N_nil _ _ _ _ _ | exact Kd.V_nil _ _ _ _ _ | exact Kd.Q_nil _ _ _ _ _ | exact Kd.S_nil _ _ _ _ _⟩, ⟨kz BK118⟩, ⟨bz⟩⟩
  case round =>
   clear H'
   try clear c1
   try clear c2
   try clear p2
   try clear c3
   try clear c3b0
   try clear c3b1
   try clear hcz5_0
   try clear hcz5_1
   try clear hcz7_0
   try clear hcz7_1
   try clear hfz5_0
   try clear hfz5_1
   try clear hfz7_0
   try clear hfz7_1
   obtain ⟨x6_1, x7_1, x18_1, rfl, HA, HK1, HO_6, HO_7, BK118, HB⟩ := hrel
   cases gk with
   | zero => exact absurd HA.out (by simp [floor_Path.l0])
   | succ k1 =>
    have H := HA.out
    clear HA
    simp only [floor_Path.l0] at H
    by_cases c8 : x18_1 < (l0_0.length : Int)
    ·
     rw [if_pos c8] at H
     have c8b0 := decide_eq_true c8
     clear c8
     by_cases c9 : 0 ≤ x18_1; rotate_left
     · rw [if_neg c9] at H; exact absurd H (by simp)
     rw [if_pos c9] at H
     have c9b0 := decide_eq_true c9
     clear c9
     by_cases c10 : x18_1 < (l0_0.length : Int); rotate_left
     · rw [if_neg c10] at H; exact absurd H (by simp)
     rw [if_pos c10] at H
     have c10b0 := decide_eq_true c10
     clear c10
     by_cases c11 : x18_1 > 0
     ·
      rw [if_pos c11] at H
      have c11b0 := decide_eq_true c11
      clear c11
      by_cases c12 : x18_1 < (l0_1.length : Int)
      ·
       rw [if_pos c12] at H
       have c12b0 := decide_eq_true c12
       clear c12
       replace H := Option.bind_eq_some_iff.mp H
       obtain ⟨⟨t122, t123⟩, A130, H⟩ := H
       replace H : ((floor_step.f l0_0 l0_1 x18_1).bind fun bt124 => (if (t122 == bt124.1 && (t123 == bt124.2)) = true then (floor_Path.l0 k1 x6_1 x7_1 l0_0 (l0_0.length : Int) (wrap64 (x18_1 + 1)) l0_0 l0_1) else (if x6_1.length < 8796093022208 then (if x7_1.length < 17592186044416 then (floor_Path.l0 k1 (x6_1 ++ [(⟨(rd_T53 l0_0 x18_1).f0.f0, (rd_T53 l0_0 x18_1).f0.f1⟩ : S35)]) (x7_1 ++ [x18_1]) l0_0 (l0_0.length : Int) (wrap64 (x18_1 + 1)) l0_0 l0_1) else (none)) else (none)))) = some (r1, r2, r3) := H
       have A13 := am A130
       clear A130
       replace H := Option.bind_eq_some_iff.mp H
       obtain ⟨⟨t124, t125⟩, A140, H⟩ := H
       replace H : (if (t122 == t124 && (t123 == t125)) = true then (floor_Path.l0 k1 x6_1 x7_1 l0_0 (l0_0.length : Int) (wrap64 (x18_1 + 1)) l0_0 l0_1) else (if x6_1.length < 8796093022208 then (if x7_1.length < 17592186044416 then (floor_Path.l0 k1 (x6_1 ++ [(⟨(rd_T53 l0_0 x18_1).f0.f0, (rd_T53 l0_0 x18_1).f0.f1⟩ : S35)]) (x7_1 ++ [x18_1]) l0_0 (l0_0.length : Int) (wrap64 (x18_1 + 1)) l0_0 l0_1) else (none)) else (none))) = some (r1, r2, r3) := H
       have A14 := am A140
       clear A140
       by_cases c15 : (t122 == t124 && (t123 == t125)) = true
       ·
        rw [if_pos c15] at H
        have c15b0 : (t122 == t124 && (t123 == t125)) = true := c15
        (try (have c15b1 : decide (t122 = t124 && (t123 == t125)) = true := by simpa using c15))
        (try (have c15b2 : (t122 == t124 && (t123 == t125)) = true := by simpa using c15))
        clear c15
        have H' := am H
        clear H
        have p120 : 0 ≤ (x18_1 : Int) := az
        have q120 : x18_1 < (l0_0.length : Int) := az
        obtain ⟨ad120, ce120, e120, hK120, hW120⟩ := Kd.C_rowAt (HR0_0.out) (z53) x18_1 p120 q120
        obtain rfl := k53_open (show k53.K _ (rd_T53 l0_0 x18_1) _ from hK120)
        clear hK120
        replace hW120 := RowAt.below hW120 HB.out
        cases e120
        have HW120 := am hW120
        clear hW120
        replace p120 := eq_true p120
        replace q120 := eq_true q120
        try go_wp2_with (first | ((with_reducible refine gate_dst (N := 22) rfl ?_); refine' load_big ?h0 53 (.tmp 21) ?ho _ ?hx _ _ ?hc Try.underlying53 ?hd ?hi ?_; (case h0 => rfl); (case ho => rfl); (case hx => first | rfl | (go_simp; rfl)); (case hc => first | exact HW120.out | (simpa only [add_plain] using HW120.out) | (simpa only [Addr.add, Nat.zero_add] using HW120.out)); (case hd => rfl); (case hi => rfl)) | ((with_reducible refine gate_dst (N := 9) rfl ?_); refine box_event yz (N := 9) yz (cs := #[.int .i64 0, .int .i64 0, .int .i64 0, .int .i64 0, .int .i64 0, .int .i64 0, .int .i64 0, .int .i64 0, .int .i64 0, .int .i64 0, .int .i64 0, .int .i64 0, .int .i64 0, .int .i64 0, .int .i64 0, .int .i64 0, .int .i64 0, .int .i64 0, .int .i64 0, .int .i64 0, .int .i64 0, .int .i64 0]) (t := 53) gz ?_; intro gb121 hg_ w16 hbox_ hb_; have HA121 := am (And.intro hbox_ (And.intro hb_ hg_)); clear hbox_ hb_ hg_) | ((with_reducible refine row_gate (t := 53) (p := 9) rfl ?_); refine row_event ?h0 53 (.tmp 9) (.tmp 22) ?ho ?hd gb121 #[.int .i64 ((rd_T53 l0_0 x18_1).f0.f0), .int .i64 ((rd_T53 l0_0 x18_1).f0.f1), .int .i64 ((rd_T53 l0_0 x18_1).f1), .int .i64 ((rd_T53 l0_0 x18_1).f2), .int .i64 ((rd_T53 l0_0 x18_1).f3.f0.f0), .int .i64 ((rd_T53 l0_0 x18_1).f3.f0.f1), .int .i64 ((rd_T53 l0_0 x18_1).f3.f0.f2), .int .i64 ((rd_T53 l0_0 x18_1).f3.f1.f0), .int .i64 ((rd_T53 l0_0 x18_1).f3.f1.f1), .int .i64 ((rd_T53 l0_0 x18_1).f3.f1.f2), .int .i64 ((rd_T53 l0_0 x18_1).f3.f2.f0), .int .i64 ((rd_T53 l0_0 x18_1).f3.f2.f1), .int .i64 ((rd_T53 l0_0 x18_1).f3.f2.f2), .int .i64 ((rd_T53 l0_0 x18_1).f3.f3.f0), .int .i64 ((rd_T53 l0_0 x18_1).f3.f3.f1), .int .i64 ((rd_T53 l0_0 x18_1).f3.f3.f2), .int .i64 ((rd_T53 l0_0 x18_1).f3.f4.f0), .int .i64 ((rd_T53 l0_0 x18_1).f3.f4.f1), .int .i64 ((rd_T53 l0_0 x18_1).f3.f4.f2), .int .i64 ((rd_T53 l0_0 x18_1).f3.f5.f0), .int .i64 ((rd_T53 l0_0 x18_1).f3.f5.f1), .int .i64 ((rd_T53 l0_0 x18_1).f3.f5.f2)] ?hx ?hy _ _ HA121.out.1 ?hi ?hs ?h1 ?_; (case h0 => rfl); (case ho => rfl); (case hd => rfl); (case hx => first | rfl | (go_simp; rfl)); (case hy => first | rfl | (go_simp; rfl)); (case hi => rfl); (case hs => rfl); (case h1 => simp [Value.oneCell']); intro w17 hbox ho_ hb_; have hg := HA121.out.2.2; have hb := hb_ _ _ HA121.out.2.1 (Nat.le_of_eq hg.symm); clear ho_ hb_; replace HO_6 := am (Kd.R_below (rz HO_6) hb); replace HO_7 := am (Kd.R_below (rz HO_7) hb); have BK121 := am (hbox); have GW121 := gwz (g := gb121) HB hg; have GE121 := GW121; replace HB := am (below_step bz hb); have NB118_121 := nlt (g' := gb121) BK118 hg; have NB121_118 := ngt (g' := gb121) BK118 hg; replace BK118 := am (blk_below (o := .cells #[.slice (some ad120) l0_0.length c0_0, .slice A0_1 l0_1.length c0_1] 25 (0, 0)) (kz BK118) hb); clear hb hbox hg))
        have n0_ := am (Kd.R_drew HO_6.out)
        have n1_ := am (Kd.R_drew HO_7.out)
        have n2_ := am (blk_drew BK118.out)
        have n3_ := am (blk_drew BK121.out)
        have n4_ := am (below_drew1 HB.out)
        clear HO_6
        clear HO_7
        clear BK118
        clear BK121
        clear HB
        have HO_6 := n0_
        have HO_7 := n1_
        have BK118 := n2_
        have BK121 := n3_
        have HB := n4_
        clear n0_ n1_ n2_ n3_ n4_
        refine start_ (n := 19) (S := fun w' => w'.cell? ⟨gb118, 0, none⟩ = some (.slice (some ad120) l0_0.length c0_0) ∧ w'.cell? ⟨gb118, 1, none⟩ = some (.slice A0_1 l0_1.length c0_1)) (ds := []) (bm 19 0) qz rfl rfl ⟨(blk_cell BK118.out 0).trans rfl, (blk_cell BK118.out 1).trans rfl⟩ (fun hHeld => ?_); refine with_tabW floor_Path.tab9 floor_Path.bits9 (fun HT_ HW_ => ?_)
        generalize w17.drew = w18 at HO_6 HO_7 BK118 BK121 HB hHeld ⊢
        refine pa (i := 0) (N := some 23) (bm 19 1) HT_ ?_
        refine pa (i := 1) (N := some 24) (bm 19 3) HT_ ?_
        refine pa (i := 2) (N := some 25) (bm 19 7) HT_ ?_
        refine pa (i := 3) (N := some 26) (bm 19 15) HT_ ?_
        refine pa (i := 4) (N := some 27) (bm 19 31) HT_ ?_
        refine take_ (i := 5) (N := some 28) (v := ?_) (a' := ?_) (bm 19 63) rfl rfl (take_ofW HT_.out HW_.out qz) iz (Or.inl ⟨by rfl, ?_⟩) hHeld ?_ ?_
        rotate_left
        ·
         rintro w' ⟨s0, s1⟩
         go_simp
         with_reducible rfl
        rotate_left
        ·
         simp only [Act.put, aS, lZ, lS, i64_w, i32_w]
         rfl
        refine pa (i := 6) (N := some 29) (bm 19 127) HT_ ?_
        refine pa (i := 7) (N := some 30) (bm 19 255) HT_ ?_
        refine pa (i := 8) (N := some 31) (bm 19 511) HT_ ?_
        refine pa (i := 9) (N := some 32) (bm 19 1023) HT_ ?_
        refine pa (i := 11) (N := some 34) (bm 19 3071) HT_ ?_
        refine pa (i := 12) (N := some 35) (bm 19 7167) HT_ ?_
        refine pa (i := 15) (N := some 38) (bm 19 39935) HT_ ?_
        refine take_ (i := 10) (N := some 33) (v := ?_) (a' := ?_) (bm 19 40959) rfl rfl (take_ofW HT_.out HW_.out qz) iz (Or.inl ⟨by rfl, ?_⟩) hHeld ?_ ?_
        rotate_left
        ·
         rintro w' ⟨s0, s1⟩
         go_simp
         with_reducible rfl
        rotate_left
        ·
         simp only [Act.put, aS, lZ, lS, i64_w, i32_w]
         rfl
        refine take_ (i := 14) (N := some 37) (v := ?_) (a' := ?_) (bm 19 57343) rfl rfl (take_ofW HT_.out HW_.out qz) iz (Or.inl ⟨by rfl, ?_⟩) hHeld ?_ ?_
        rotate_left
        ·
         rintro w' ⟨s0, s1⟩
         go_simp
         with_reducible rfl
        rotate_left
        ·
         simp only [Act.put, aS, lZ, lS, i64_w, i32_w]
         rfl
        refine one_ (i := 13) (N := some 36) (bm 19 65535) rfl rfl (one_of HT_.out qz) (by decide) (fun K hK => ?_)
        refine goes_ Try.func27 qz rfl #[.agg #[.slice (some ad120) l0_0.length c0_0, .slice A0_1 l0_1.length c0_1], .int .i64 (wrap64 (x18_1 - 1))] (by rfl) rfl rfl mz ?_
        with_reducible refine (floor_step.calls _ _ l0_0 _ _ l0_1 (wrap64 (x18_1 - 1)) t122 t123 _ ?side1 ?side2 ?side3 ?side4 A13.out).mono ?_
        (case side1 => exact cz HR0_0)
        (case side2 => exact HC0_0.out)
        (case side3 => exact cz HR0_1)
        (case side4 => exact HC0_1.out)
        rintro e w19 ⟨rfl, hb⟩
        refine ⟨_, rfl, ?_⟩
        have n0_ := am (Kd.R_below (rz HO_6) hb)
        have n1_ := am (Kd.R_below (rz HO_7) hb)
        have n2_ := am (blk_below (o := .cells #[.slice (some ad120) l0_0.length c0_0, .slice A0_1 l0_1.length c0_1] 25 (0, 0)) (kz BK118) hb)
        have n3_ := am (blk_below (o := .cells #[.int .i64 ((rd_T53 l0_0 x18_1).f0.f0), .int .i64 ((rd_T53 l0_0 x18_1).f0.f1), .int .i64 ((rd_T53 l0_0 x18_1).f1), .int .i64 ((rd_T53 l0_0 x18_1).f2), .int .i64 ((rd_T53 l0_0 x18_1).f3.f0.f0), .int .i64 ((rd_T53 l0_0 x18_1).f3.f0.f1), .int .i64 ((rd_T53 l0_0 x18_1).f3.f0.f2), .int .i64 ((rd_T53 l0_0 x18_1).f3.f1.f0), .int .i64 ((rd_T53 l0_0 x18_1).f3.f1.f1), .int .i64 ((rd_T53 l0_0 x18_1).f3.f1.f2), .int .i64 ((rd_T53 l0_0 x18_1).f3.f2.f0), .int .i64 ((rd_T53 l0_0 x18_1).f3.f2.f1), .int .i64 ((rd_T53 l0_0 x18_1).f3.f2.f2), .int .i64 ((rd_T53 l0_0 x18_1).f3.f3.f0), .int .i64 ((rd_T53 l0_0 x18_1).f3.f3.f1), .int .i64 ((rd_T53 l0_0 x18_1).f3.f3.f2), .int .i64 ((rd_T53 l0_0 x18_1).f3.f4.f0), .int .i64 ((rd_T53 l0_0 x18_1).f3.f4.f1), .int .i64 ((rd_T53 l0_0 x18_1).f3.f4.f2), .int .i64 ((rd_T53 l0_0 x18_1).f3.f5.f0), .int .i64 ((rd_T53 l0_0 x18_1).f3.f5.f1), .int .i64 ((rd_T53 l0_0 x18_1).f3.f5.f2)] 53 (0, 0)) (kz BK121) hb)
        have n4_ := am (below_step bz hb)
        clear HO_6
        clear HO_7
        clear BK118
        clear BK121
        clear HB
        have HO_6 := n0_
        have HO_7 := n1_
        have BK118 := n2_
        have BK121 := n3_
        have HB := n4_
        clear n0_ n1_ n2_ n3_ n4_
        (try clear hb)
        (try clear hb2)
        (try clear hk)
        (try clear hi)
        refine hK.out _ _ ⟨(blk_cell BK118.out 0).trans rfl, (blk_cell BK118.out 1).trans rfl⟩ (fun hHeld => ?_)
        clear hK K
        refine norm_ (a' := ?_) ?_ ?_
        rotate_left
        ·
         show Act.put _ (some 36) _ = _
         simp only [Act.put, aS, lZ, lS, i64_w, i32_w]
         rfl
        refine one_ (i := 16) (N := some 39) (bm 19 131071) rfl rfl (one_of HT_.out qz) (by decide) (fun K hK => ?_)
        refine goes_ Try.func27 qz rfl #[.agg #[.slice (some ad120) l0_0.length c0_0, .slice A0_1 l0_1.length c0_1], .int .i64 x18_1] (by rfl) rfl rfl mz ?_
        with_reducible refine (floor_step.calls _ _ l0_0 _ _ l0_1 x18_1 t124 t125 _ ?side1 ?side2 ?side3 ?side4 A14.out).mono ?_
        (case side1 => exact cz HR0_0)
        (case side2 => exact HC0_0.out)
        (case side3 => exact cz HR0_1)
        (case side4 => exact HC0_1.out)
        rintro e w20 ⟨rfl, hb⟩
        refine ⟨_, rfl, ?_⟩
        have n0_ := am (Kd.R_below (rz HO_6) hb)
        have n1_ := am (Kd.R_below (rz HO_7) hb)
        have n2_ := am (blk_below (o := .cells #[.slice (some ad120) l0_0.length c0_0, .slice A0_1 l0_1.length c0_1] 25 (0, 0)) (kz BK118) hb)
        have n3_ := am (blk_below (o := .cells #[.int .i64 ((rd_T53 l0_0 x18_1).f0.f0), .int .i64 ((rd_T53 l0_0 x18_1).f0.f1), .int .i64 ((rd_T53 l0_0 x18_1).f1), .int .i64 ((rd_T53 l0_0 x18_1).f2), .int .i64 ((rd_T53 l0_0 x18_1).f3.f0.f0), .int .i64 ((rd_T53 l0_0 x18_1).f3.f0.f1), .int .i64 ((rd_T53 l0_0 x18_1).f3.f0.f2), .int .i64 ((rd_T53 l0_0 x18_1).f3.f1.f0), .int .i64 ((rd_T53 l0_0 x18_1).f3.f1.f1), .int .i64 ((rd_T53 l0_0 x18_1).f3.f1.f2), .int .i64 ((rd_T53 l0_0 x18_1).f3.f2.f0), .int .i64 ((rd_T53 l0_0 x18_1).f3.f2.f1), .int .i64 ((rd_T53 l0_0 x18_1).f3.f2.f2), .int .i64 ((rd_T53 l0_0 x18_1).f3.f3.f0), .int .i64 ((rd_T53 l0_0 x18_1).f3.f3.f1), .int .i64 ((rd_T53 l0_0 x18_1).f3.f3.f2), .int .i64 ((rd_T53 l0_0 x18_1).f3.f4.f0), .int .i64 ((rd_T53 l0_0 x18_1).f3.f4.f1), .int .i64 ((rd_T53 l0_0 x18_1).f3.f4.f2), .int .i64 ((rd_T53 l0_0 x18_1).f3.f5.f0), .int .i64 ((rd_T53 l0_0 x18_1).f3.f5.f1), .int .i64 ((rd_T53 l0_0 x18_1).f3.f5.f2)] 53 (0, 0)) (kz BK121) hb)
        have n4_ := am (below_step bz hb)
        clear HO_6
        clear HO_7
        clear BK118
        clear BK121
        clear HB
        have HO_6 := n0_
        have HO_7 := n1_
        have BK118 := n2_
        have BK121 := n3_
        have HB := n4_
        clear n0_ n1_ n2_ n3_ n4_
        (try clear hb)
        (try clear hb2)
        (try clear hk)
        (try clear hi)
        refine hK.out _ _ ⟨(blk_cell BK118.out 0).trans rfl, (blk_cell BK118.out 1).trans rfl⟩ (fun hHeld => ?_)
        clear hK K
        refine norm_ (a' := ?_) ?_ ?_
        rotate_left
        ·
         show Act.put _ (some 39) _ = _
         simp only [Act.put, aS, lZ, lS, i64_w, i32_w]
         rfl
        refine pa (i := 17) (N := some 40) (bm 19 262143) HT_ ?_
        refine pa (i := 18) (N := some 41) (bm 19 524287) HT_ ?_
        refine done_ (done_of HT_.out qz) ?_
        try go_wp2
        go_roundg k1
        case measure => have := HK1.out; omega
        case rel => exact ⟨(x6_1), (x7_1), (wrap64 (x18_1 + 1)), sz, H', ⟨by have := HK1.out; omega⟩, ⟨rz HO_6⟩, ⟨rz HO_7⟩, ⟨kz BK118⟩, ⟨bz⟩⟩
       ·
        rw [if_neg c15] at H
        have c15b0 : (t122 == t124 && (t123 == t125)) = false := by simpa using c15
        (try (have c15b1 : decide (t122 = t124 && (t123 == t125)) = false := by simpa using c15))
        (try (have c15b2 : (t122 == t124 && (t123 == t125)) = false := by simpa using c15))
        (try (have c15b3 : ¬ (t122 = t124 && (t123 == t125)) := by simpa using c15))
        clear c15
        by_cases c21 : x6_1.length < 8796093022208; rotate_left
        · rw [if_neg c21] at H; exact absurd H (by simp)
        rw [if_pos c21] at H
        have LMc21 := am c21
        clear c21
        obtain ⟨y126, hy126⟩ : ∃ y_ : List (S35), y_ = (x6_1 ++ [(⟨(rd_T53 l0_0 x18_1).f0.f0, (rd_T53 l0_0 x18_1).f0.f1⟩ : S35)]) := ⟨_, rfl⟩
        replace H : (if x7_1.length < 17592186044416 then (floor_Path.l0 k1 y126 (x7_1 ++ [x18_1]) l0_0 (l0_0.length : Int) (wrap64 (x18_1 + 1)) l0_0 l0_1) else (none)) = some (r1, r2, r3) := by first | (rw [hy126]; with_reducible exact H) | (have H2_ := (Option.bind_some _ _).symm.trans H; rw [hy126]; with_reducible exact H2_) | (have H2_ := (Option.bind_some _ _).symm.trans H; with_reducible exact H2_) | with_reducible exact H | (rw [hy126]; exact H) | exact H
        have Ny126 := am hy126
        clear hy126
        by_cases c22 : x7_1.length < 17592186044416; rotate_left
        · rw [if_neg c22] at H; exact absurd H (by simp)
        rw [if_pos c22] at H
        have LMc22 := am c22
        clear c22
        obtain ⟨y129, hy129⟩ : ∃ y_ : List Int, y_ = (x7_1 ++ [x18_1]) := ⟨_, rfl⟩
        replace H : (floor_Path.l0 k1 y126 y129 l0_0 (l0_0.length : Int) (wrap64 (x18_1 + 1)) l0_0 l0_1) = some (r1, r2, r3) := by first | (rw [hy129]; with_reducible exact H) | (have H2_ := (Option.bind_some _ _).symm.trans H; rw [hy129]; with_reducible exact H2_) | (have H2_ := (Option.bind_some _ _).symm.trans H; with_reducible exact H2_) | with_reducible exact H | (rw [hy129]; exact H) | exact H
        have Ny129 := am hy129
        clear hy129
        have H' := am H
        clear H
        have p120 : 0 ≤ (x18_1 : Int) := az
        have q120 : x18_1 < (l0_0.length : Int) := az
        obtain ⟨ad120, ce120, e120, hK120, hW120⟩ := Kd.C_rowAt (HR0_0.out) (z53) x18_1 p120 q120
        obtain rfl := k53_open (show k53.K _ (rd_T53 l0_0 x18_1) _ from hK120)
        clear hK120
        replace hW120 := RowAt.below hW120 HB.out
        cases e120
        have HW120 := am hW120
        clear hW120
        replace p120 := eq_true p120
        replace q120 := eq_true q120
        try go_wp2_with (first | ((with_reducible refine gate_dst (N := 22) rfl ?_); refine' load_big ?h0 53 (.tmp 21) ?ho _ ?hx _ _ ?hc Try.underlying53 ?hd ?hi ?_; (case h0 => rfl); (case ho => rfl); (case hx => first | rfl | (go_simp; rfl)); (case hc => first | exact HW120.out | (simpa only [add_plain] using HW120.out) | (simpa only [Addr.add, Nat.zero_add] using HW120.out)); (case hd => rfl); (case hi => rfl)) | ((with_reducible refine gate_dst (N := 9) rfl ?_); refine box_event yz (N := 9) yz (cs := #[.int .i64 0, .int .i64 0, .int .i64 0, .int .i64 0, .int .i64 0, .int .i64 0, .int .i64 0, .int .i64 0, .int .i64 0, .int .i64 0, .int .i64 0, .int .i64 0, .int .i64 0, .int .i64 0, .int .i64 0, .int .i64 0, .int .i64 0, .int .i64 0, .int .i64 0, .int .i64 0, .int .i64 0, .int .i64 0]) (t := 53) gz ?_; intro gb121 hg_ w23 hbox_ hb_; have HA121 := am (And.intro hbox_ (And.intro hb_ hg_)); clear hbox_ hb_ hg_) | ((with_reducible refine row_gate (t := 53) (p := 9) rfl ?_); refine row_event ?h0 53 (.tmp 9) (.tmp 22) ?ho ?hd gb121 #[.int .i64 ((rd_T53 l0_0 x18_1).f0.f0), .int .i64 ((rd_T53 l0_0 x18_1).f0.f1), .int .i64 ((rd_T53 l0_0 x18_1).f1), .int .i64 ((rd_T53 l0_0 x18_1).f2), .int .i64 ((rd_T53 l0_0 x18_1).f3.f0.f0), .int .i64 ((rd_T53 l0_0 x18_1).f3.f0.f1), .int .i64 ((rd_T53 l0_0 x18_1).f3.f0.f2), .int .i64 ((rd_T53 l0_0 x18_1).f3.f1.f0), .int .i64 ((rd_T53 l0_0 x18_1).f3.f1.f1), .int .i64 ((rd_T53 l0_0 x18_1).f3.f1.f2), .int .i64 ((rd_T53 l0_0 x18_1).f3.f2.f0), .int .i64 ((rd_T53 l0_0 x18_1).f3.f2.f1), .int .i64 ((rd_T53 l0_0 x18_1).f3.f2.f2), .int .i64 ((rd_T53 l0_0 x18_1).f3.f3.f0), .int .i64 ((rd_T53 l0_0 x18_1).f3.f3.f1), .int .i64 ((rd_T53 l0_0 x18_1).f3.f3.f2), .int .i64 ((rd_T53 l0_0 x18_1).f3.f4.f0), .int .i64 ((rd_T53 l0_0 x18_1).f3.f4.f1), .int .i64 ((rd_T53 l0_0 x18_1).f3.f4.f2), .int .i64 ((rd_T53 l0_0 x18_1).f3.f5.f0), .int .i64 ((rd_T53 l0_0 x18_1).f3.f5.f1), .int .i64 ((rd_T53 l0_0 x18_1).f3.f5.f2)] ?hx ?hy _ _ HA121.out.1 ?hi ?hs ?h1 ?_; (case h0 => rfl); (case ho => rfl); (case hd => rfl); (case hx => first | rfl | (go_simp; rfl)); (case hy => first | rfl | (go_simp; rfl)); (case hi => rfl); (case hs => rfl); (case h1 => simp [Value.oneCell']); intro w24 hbox ho_ hb_; have hg := HA121.out.2.2; have hb := hb_ _ _ HA121.out.2.1 (Nat.le_of_eq hg.symm); clear ho_ hb_; replace HO_6 := am (Kd.R_below (rz HO_6) hb); replace HO_7 := am (Kd.R_below (rz HO_7) hb); have BK121 := am (hbox); have GW121 := gwz (g := gb121) HB hg; have GE121 := GW121; replace HB := am (below_step bz hb); have NB118_121 := nlt (g' := gb121) BK118 hg; have NB121_118 := ngt (g' := gb121) BK118 hg; replace BK118 := am (blk_below (o := .cells #[.slice (some ad120) l0_0.length c0_0, .slice A0_1 l0_1.length c0_1] 25 (0, 0)) (kz BK118) hb); clear hb hbox hg))
        have n0_ := am (Kd.R_drew HO_6.out)
        have n1_ := am (Kd.R_drew HO_7.out)
        have n2_ := am (blk_drew BK118.out)
        have n3_ := am (blk_drew BK121.out)
        have n4_ := am (below_drew1 HB.out)
        clear HO_6
        clear HO_7
        clear BK118
        clear BK121
        clear HB
        have HO_6 := n0_
        have HO_7 := n1_
        have BK118 := n2_
        have BK121 := n3_
        have HB := n4_
        clear n0_ n1_ n2_ n3_ n4_
        refine start_ (n := 19) (S := fun w' => w'.cell? ⟨gb118, 0, none⟩ = some (.slice (some ad120) l0_0.length c0_0) ∧ w'.cell? ⟨gb118, 1, none⟩ = some (.slice A0_1 l0_1.length c0_1)) (ds := []) (bm 19 0) qz rfl rfl ⟨(blk_cell BK118.out 0).trans rfl, (blk_cell BK118.out 1).trans rfl⟩ (fun hHeld => ?_); refine with_tabW floor_Path.tab9 floor_Path.bits9 (fun HT_ HW_ => ?_)
        generalize w24.drew = w25 at HO_6 HO_7 BK118 BK121 HB hHeld ⊢
        refine pa (i := 0) (N := some 23) (bm 19 1) HT_ ?_
        refine pa (i := 1) (N := some 24) (bm 19 3) HT_ ?_
        refine pa (i := 2) (N := some 25) (bm 19 7) HT_ ?_
        refine pa (i := 3) (N := some 26) (bm 19 15) HT_ ?_
        refine pa (i := 4) (N := some 27) (bm 19 31) HT_ ?_
        refine take_ (i := 5) (N := some 28) (v := ?_) (a' := ?_) (bm 19 63) rfl rfl (take_ofW HT_.out HW_.out qz) iz (Or.inl ⟨by rfl, ?_⟩) hHeld ?_ ?_
        rotate_left
        ·
         rintro w' ⟨s0, s1⟩
         go_simp
         with_reducible rfl
        rotate_left
        ·
         simp only [Act.put, aS, lZ, lS, i64_w, i32_w]
         rfl
        refine pa (i := 6) (N := some 29) (bm 19 127) HT_ ?_
        refine pa (i := 7) (N := some 30) (bm 19 255) HT_ ?_
        refine pa (i := 8) (N := some 31) (bm 19 511) HT_ ?_
        refine pa (i := 9) (N := some 32) (bm 19 1023) HT_ ?_
        refine pa (i := 11) (N := some 34) (bm 19 3071) HT_ ?_
        refine pa (i := 12) (N := some 35) (bm 19 7167) HT_ ?_
        refine pa (i := 15) (N := some 38) (bm 19 39935) HT_ ?_
        refine take_ (i := 10) (N := some 33) (v := ?_) (a' := ?_) (bm 19 40959) rfl rfl (take_ofW HT_.out HW_.out qz) iz (Or.inl ⟨by rfl, ?_⟩) hHeld ?_ ?_
        rotate_left
        ·
         rintro w' ⟨s0, s1⟩
         go_simp
         with_reducible rfl
        rotate_left
        ·
         simp only [Act.put, aS, lZ, lS, i64_w, i32_w]
         rfl
        refine take_ (i := 14) (N := some 37) (v := ?_) (a' := ?_) (bm 19 57343) rfl rfl (take_ofW HT_.out HW_.out qz) iz (Or.inl ⟨by rfl, ?_⟩) hHeld ?_ ?_
        rotate_left
        ·
         rintro w' ⟨s0, s1⟩
         go_simp
         with_reducible rfl
        rotate_left
        ·
         simp only [Act.put, aS, lZ, lS, i64_w, i32_w]
         rfl
        refine one_ (i := 13) (N := some 36) (bm 19 65535) rfl rfl (one_of HT_.out qz) (by decide) (fun K hK => ?_)
        refine goes_ Try.func27 qz rfl #[.agg #[.slice (some ad120) l0_0.length c0_0, .slice A0_1 l0_1.length c0_1], .int .i64 (wrap64 (x18_1 - 1))] (by rfl) rfl rfl mz ?_
        with_reducible refine (floor_step.calls _ _ l0_0 _ _ l0_1 (wrap64 (x18_1 - 1)) t122 t123 _ ?side1 ?side2 ?side3 ?side4 A13.out).mono ?_
        (case side1 => exact cz HR0_0)
        (case side2 => exact HC0_0.out)
        (case side3 => exact cz HR0_1)
        (case side4 => exact HC0_1.out)
        rintro e w26 ⟨rfl, hb⟩
        refine ⟨_, rfl, ?_⟩
        have n0_ := am (Kd.R_below (rz HO_6) hb)
        have n1_ := am (Kd.R_below (rz HO_7) hb)
        have n2_ := am (blk_below (o := .cells #[.slice (some ad120) l0_0.length c0_0, .slice A0_1 l0_1.length c0_1] 25 (0, 0)) (kz BK118) hb)
        have n3_ := am (blk_below (o := .cells #[.int .i64 ((rd_T53 l0_0 x18_1).f0.f0), .int .i64 ((rd_T53 l0_0 x18_1).f0.f1), .int .i64 ((rd_T53 l0_0 x18_1).f1), .int .i64 ((rd_T53 l0_0 x18_1).f2), .int .i64 ((rd_T53 l0_0 x18_1).f3.f0.f0), .int .i64 ((rd_T53 l0_0 x18_1).f3.f0.f1), .int .i64 ((rd_T53 l0_0 x18_1).f3.f0.f2), .int .i64 ((rd_T53 l0_0 x18_1).f3.f1.f0), .int .i64 ((rd_T53 l0_0 x18_1).f3.f1.f1), .int .i64 ((rd_T53 l0_0 x18_1).f3.f1.f2), .int .i64 ((rd_T53 l0_0 x18_1).f3.f2.f0), .int .i64 ((rd_T53 l0_0 x18_1).f3.f2.f1), .int .i64 ((rd_T53 l0_0 x18_1).f3.f2.f2), .int .i64 ((rd_T53 l0_0 x18_1).f3.f3.f0), .int .i64 ((rd_T53 l0_0 x18_1).f3.f3.f1), .int .i64 ((rd_T53 l0_0 x18_1).f3.f3.f2), .int .i64 ((rd_T53 l0_0 x18_1).f3.f4.f0), .int .i64 ((rd_T53 l0_0 x18_1).f3.f4.f1), .int .i64 ((rd_T53 l0_0 x18_1).f3.f4.f2), .int .i64 ((rd_T53 l0_0 x18_1).f3.f5.f0), .int .i64 ((rd_T53 l0_0 x18_1).f3.f5.f1), .int .i64 ((rd_T53 l0_0 x18_1).f3.f5.f2)] 53 (0, 0)) (kz BK121) hb)
        have n4_ := am (below_step bz hb)
        clear HO_6
        clear HO_7
        clear BK118
        clear BK121
        clear HB
        have HO_6 := n0_
        have HO_7 := n1_
        have BK118 := n2_
        have BK121 := n3_
        have HB := n4_
        clear n0_ n1_ n2_ n3_ n4_
        (try clear hb)
        (try clear hb2)
        (try clear hk)
        (try clear hi)
        refine hK.out _ _ ⟨(blk_cell BK118.out 0).trans rfl, (blk_cell BK118.out 1).trans rfl⟩ (fun hHeld => ?_)
        clear hK K
        refine norm_ (a' := ?_) ?_ ?_
        rotate_left
        ·
         show Act.put _ (some 36) _ = _
         simp only [Act.put, aS, lZ, lS, i64_w, i32_w]
         rfl
        refine one_ (i := 16) (N := some 39) (bm 19 131071) rfl rfl (one_of HT_.out qz) (by decide) (fun K hK => ?_)
        refine goes_ Try.func27 qz rfl #[.agg #[.slice (some ad120) l0_0.length c0_0, .slice A0_1 l0_1.length c0_1], .int .i64 x18_1] (by rfl) rfl rfl mz ?_
        with_reducible refine (floor_step.calls _ _ l0_0 _ _ l0_1 x18_1 t124 t125 _ ?side1 ?side2 ?side3 ?side4 A14.out).mono ?_
        (case side1 => exact cz HR0_0)
        (case side2 => exact HC0_0.out)
        (case side3 => exact cz HR0_1)
        (case side4 => exact HC0_1.out)
        rintro e w27 ⟨rfl, hb⟩
        refine ⟨_, rfl, ?_⟩
        have n0_ := am (Kd.R_below (rz HO_6) hb)
        have n1_ := am (Kd.R_below (rz HO_7) hb)
        have n2_ := am (blk_below (o := .cells #[.slice (some ad120) l0_0.length c0_0, .slice A0_1 l0_1.length c0_1] 25 (0, 0)) (kz BK118) hb)
        have n3_ := am (blk_below (o := .cells #[.int .i64 ((rd_T53 l0_0 x18_1).f0.f0), .int .i64 ((rd_T53 l0_0 x18_1).f0.f1), .int .i64 ((rd_T53 l0_0 x18_1).f1), .int .i64 ((rd_T53 l0_0 x18_1).f2), .int .i64 ((rd_T53 l0_0 x18_1).f3.f0.f0), .int .i64 ((rd_T53 l0_0 x18_1).f3.f0.f1), .int .i64 ((rd_T53 l0_0 x18_1).f3.f0.f2), .int .i64 ((rd_T53 l0_0 x18_1).f3.f1.f0), .int .i64 ((rd_T53 l0_0 x18_1).f3.f1.f1), .int .i64 ((rd_T53 l0_0 x18_1).f3.f1.f2), .int .i64 ((rd_T53 l0_0 x18_1).f3.f2.f0), .int .i64 ((rd_T53 l0_0 x18_1).f3.f2.f1), .int .i64 ((rd_T53 l0_0 x18_1).f3.f2.f2), .int .i64 ((rd_T53 l0_0 x18_1).f3.f3.f0), .int .i64 ((rd_T53 l0_0 x18_1).f3.f3.f1), .int .i64 ((rd_T53 l0_0 x18_1).f3.f3.f2), .int .i64 ((rd_T53 l0_0 x18_1).f3.f4.f0), .int .i64 ((rd_T53 l0_0 x18_1).f3.f4.f1), .int .i64 ((rd_T53 l0_0 x18_1).f3.f4.f2), .int .i64 ((rd_T53 l0_0 x18_1).f3.f5.f0), .int .i64 ((rd_T53 l0_0 x18_1).f3.f5.f1), .int .i64 ((rd_T53 l0_0 x18_1).f3.f5.f2)] 53 (0, 0)) (kz BK121) hb)
        have n4_ := am (below_step bz hb)
        clear HO_6
        clear HO_7
        clear BK118
        clear BK121
        clear HB
        have HO_6 := n0_
        have HO_7 := n1_
        have BK118 := n2_
        have BK121 := n3_
        have HB := n4_
        clear n0_ n1_ n2_ n3_ n4_
        (try clear hb)
        (try clear hb2)
        (try clear hk)
        (try clear hi)
        refine hK.out _ _ ⟨(blk_cell BK118.out 0).trans rfl, (blk_cell BK118.out 1).trans rfl⟩ (fun hHeld => ?_)
        clear hK K
        refine norm_ (a' := ?_) ?_ ?_
        rotate_left
        ·
         show Act.put _ (some 39) _ = _
         simp only [Act.put, aS, lZ, lS, i64_w, i32_w]
         rfl
        refine pa (i := 17) (N := some 40) (bm 19 262143) HT_ ?_
        refine pa (i := 18) (N := some 41) (bm 19 524287) HT_ ?_
        refine done_ (done_of HT_.out qz) ?_
        have hnb28 := NB121_118.out
        have hnc28 := NB118_121.out
        have hcz29_0 : w27.cell? ⟨gb121, 0, none⟩ = some (.int .i64 ((rd_T53 l0_0 x18_1).f0.f0)) := (blk_cell BK121.out 0).trans (by rfl)
        have hcz29_1 : w27.cell? ⟨gb121, 1, none⟩ = some (.int .i64 ((rd_T53 l0_0 x18_1).f0.f1)) := (blk_cell BK121.out 1).trans (by rfl)
        have hfz29_0 := blk_frozen BK121.out 0
        have hfz29_1 := blk_frozen BK121.out 1
        try go_wp2_with (first | ((with_reducible refine gate_builtin (b := .append) (xs := #[.tmp 42, .tmp 45]) rfl ?_); at_builtin; refine Kd.R_append k35 (w0 := w) w.heap.size rfl (.tmp 42) (.tmp 45) 28 35 (.agg #[(.int .i64 0), (.int .i64 0)]) 16 rfl Try.underlying28 info35 rfl (by decide) (by omega) u6 x6_1 (⟨(rd_T53 l0_0 x18_1).f0.f0, (rd_T53 l0_0 x18_1).f0.f1⟩ : S35) [.int .i64 ((rd_T53 l0_0 x18_1).f0.f0), .int .i64 ((rd_T53 l0_0 x18_1).f0.f1)] (fun _ => True) (fun _ => False) rfl rfl ?aP (fun _ hk => hk.elim) ?aF ?aO ?aB ?aS ?aL ?_; (case aP => exact k35_mkM _ _ _ (⟨(rd_T53 l0_0 x18_1).f0.f0, (rd_T53 l0_0 x18_1).f0.f1⟩ : S35)); (case aB => exact bz); (case aF => exact (fun _ _ => trivial)); (case aO => exact (rz HO_6)); (case aS => exact (below_size bz)); (case aL => have := LMc21.out; omega); intro v127 w30 ho hb hg hat; rw [← Ny126.out] at ho; replace HO_7 := am (Kd.R_over' (rz HO_7) (Kd.R_typed (rz HO_6)) (by decide) hg); replace BK118 := am (blk_grown (g := gb118) (o := .cells #[.slice (some ad120) l0_0.length c0_0, .slice A0_1 l0_1.length c0_1] 25 (0, 0)) (kz BK118) hg (Kd.R_ne HO_6.out BK118.out (by decide))); replace BK121 := am (blk_grown (g := gb121) (o := .cells #[.int .i64 ((rd_T53 l0_0 x18_1).f0.f0), .int .i64 ((rd_T53 l0_0 x18_1).f0.f1), .int .i64 ((rd_T53 l0_0 x18_1).f1), .int .i64 ((rd_T53 l0_0 x18_1).f2), .int .i64 ((rd_T53 l0_0 x18_1).f3.f0.f0), .int .i64 ((rd_T53 l0_0 x18_1).f3.f0.f1), .int .i64 ((rd_T53 l0_0 x18_1).f3.f0.f2), .int .i64 ((rd_T53 l0_0 x18_1).f3.f1.f0), .int .i64 ((rd_T53 l0_0 x18_1).f3.f1.f1), .int .i64 ((rd_T53 l0_0 x18_1).f3.f1.f2), .int .i64 ((rd_T53 l0_0 x18_1).f3.f2.f0), .int .i64 ((rd_T53 l0_0 x18_1).f3.f2.f1), .int .i64 ((rd_T53 l0_0 x18_1).f3.f2.f2), .int .i64 ((rd_T53 l0_0 x18_1).f3.f3.f0), .int .i64 ((rd_T53 l0_0 x18_1).f3.f3.f1), .int .i64 ((rd_T53 l0_0 x18_1).f3.f3.f2), .int .i64 ((rd_T53 l0_0 x18_1).f3.f4.f0), .int .i64 ((rd_T53 l0_0 x18_1).f3.f4.f1), .int .i64 ((rd_T53 l0_0 x18_1).f3.f4.f2), .int .i64 ((rd_T53 l0_0 x18_1).f3.f5.f0), .int .i64 ((rd_T53 l0_0 x18_1).f3.f5.f1), .int .i64 ((rd_T53 l0_0 x18_1).f3.f5.f2)] 53 (0, 0)) (kz BK121) hg (Kd.R_ne HO_6.out BK121.out (by decide))); replace HB := am (hb); have HO128 := am (ho); clear HO_6; clear ho hb hg hat) | ((with_reducible refine gate_builtin (b := .append) (xs := #[.tmp 47, .tmp 49]) rfl ?_); at_builtin; refine Kd.R_append (Kd.int .i64) (w0 := w) w.heap.size rfl (.tmp 47) (.tmp 49) 23 3 (.int .i64 0) 8 rfl Try.underlying23 info3 rfl (by decide) (by omega) u7 x7_1 x18_1 [.int .i64 x18_1] (fun _ => True) (fun _ => False) rfl rfl ?aP (fun _ hk => hk.elim) ?aF ?aO ?aB ?aS ?aL ?_; (case aP => exact rfl); (case aB => exact bz); (case aF => exact (fun _ _ => trivial)); (case aO => exact (rz HO_7)); (case aS => exact (below_size bz)); (case aL => have := LMc22.out; omega); intro v130 w31 ho hb hg hat; rw [← Ny129.out] at ho; replace BK118 := am (blk_grown (g := gb118) (o := .cells #[.slice (some ad120) l0_0.length c0_0, .slice A0_1 l0_1.length c0_1] 25 (0, 0)) (kz BK118) hg (Kd.R_ne HO_7.out BK118.out (by decide))); replace BK121 := am (blk_grown (g := gb121) (o := .cells #[.int .i64 ((rd_T53 l0_0 x18_1).f0.f0), .int .i64 ((rd_T53 l0_0 x18_1).f0.f1), .int .i64 ((rd_T53 l0_0 x18_1).f1), .int .i64 ((rd_T53 l0_0 x18_1).f2), .int .i64 ((rd_T53 l0_0 x18_1).f3.f0.f0), .int .i64 ((rd_T53 l0_0 x18_1).f3.f0.f1), .int .i64 ((rd_T53 l0_0 x18_1).f3.f0.f2), .int .i64 ((rd_T53 l0_0 x18_1).f3.f1.f0), .int .i64 ((rd_T53 l0_0 x18_1).f3.f1.f1), .int .i64 ((rd_T53 l0_0 x18_1).f3.f1.f2), .int .i64 ((rd_T53 l0_0 x18_1).f3.f2.f0), .int .i64 ((rd_T53 l0_0 x18_1).f3.f2.f1), .int .i64 ((rd_T53 l0_0 x18_1).f3.f2.f2), .int .i64 ((rd_T53 l0_0 x18_1).f3.f3.f0), .int .i64 ((rd_T53 l0_0 x18_1).f3.f3.f1), .int .i64 ((rd_T53 l0_0 x18_1).f3.f3.f2), .int .i64 ((rd_T53 l0_0 x18_1).f3.f4.f0), .int .i64 ((rd_T53 l0_0 x18_1).f3.f4.f1), .int .i64 ((rd_T53 l0_0 x18_1).f3.f4.f2), .int .i64 ((rd_T53 l0_0 x18_1).f3.f5.f0), .int .i64 ((rd_T53 l0_0 x18_1).f3.f5.f1), .int .i64 ((rd_T53 l0_0 x18_1).f3.f5.f2)] 53 (0, 0)) (kz BK121) hg (Kd.R_ne HO_7.out BK121.out (by decide))); replace HO128 := am (Kd.R_over' (rz HO128) (Kd.R_typed (rz HO_7)) (by decide) hg); replace HB := am (hb); have HO131 := am (ho); clear HO_7; clear ho hb hg hat))
        go_roundg k1
        case measure => have := HK1.out; omega
        case rel => exact ⟨(y126), (y129), (wrap64 (x18_1 + 1)), sz, H', ⟨by have := HK1.out; omega⟩, ⟨rz HO128⟩, ⟨rz HO131⟩, ⟨kz BK118⟩, ⟨bz⟩⟩
      ·
       rw [if_neg c12] at H
       have c12b0 := decide_eq_false c12
       clear c12
       by_cases c32 : x6_1.length < 8796093022208; rotate_left
       · rw [if_neg c32] at H; exact absurd H (by simp)
       rw [if_pos c32] at H
       have LMc32 := am c32
       clear c32
       obtain ⟨y132, hy132⟩ : ∃ y_ : List (S35), y_ = (x6_1 ++ [(⟨(rd_T53 l0_0 x18_1).f0.f0, (rd_T53 l0_0 x18_1).f0.f1⟩ : S35)]) := ⟨_, rfl⟩
       replace H : (if x7_1.length < 17592186044416 then (floor_Path.l0 k1 y132 (x7_1 ++ [x18_1]) l0_0 (l0_0.length : Int) (wrap64 (x18_1 + 1)) l0_0 l0_1) else (none)) = some (r1, r2, r3) := by first | (rw [hy132]; with_reducible exact H) | (have H2_ := (Option.bind_some _ _).symm.trans H; rw [hy132]; with_reducible exact H2_) | (have H2_ := (Option.bind_some _ _).symm.trans H; with_reducible exact H2_) | with_reducible exact H | (rw [hy132]; exact H) | exact H
       have Ny132 := am hy132
       clear hy132
       by_cases c33 : x7_1.length < 17592186044416; rotate_left
       · rw [if_neg c33] at H; exact absurd H (by simp)
       rw [if_pos c33] at H
       have LMc33 := am c33
       clear c33
       obtain ⟨y135, hy135⟩ : ∃ y_ : List Int, y_ = (x7_1 ++ [x18_1]) := ⟨_, rfl⟩
       replace H : (floor_Path.l0 k1 y132 y135 l0_0 (l0_0.length : Int) (wrap64 (x18_1 + 1)) l0_0 l0_1) = some (r1, r2, r3) := by first | (rw [hy135]; with_reducible exact H) | (have H2_ := (Option.bind_some _ _).symm.trans H; rw [hy135]; with_reducible exact H2_) | (have H2_ := (Option.bind_some _ _).symm.trans H; with_reducible exact H2_) | with_reducible exact H | (rw [hy135]; exact H) | exact H
       have Ny135 := am hy135
       clear hy135
       have H' := am H
       clear H
       have p120 : 0 ≤ (x18_1 : Int) := az
       have q120 : x18_1 < (l0_0.length : Int) := az
       obtain ⟨ad120, ce120, e120, hK120, hW120⟩ := Kd.C_rowAt (HR0_0.out) (z53) x18_1 p120 q120
       obtain rfl := k53_open (show k53.K _ (rd_T53 l0_0 x18_1) _ from hK120)
       clear hK120
       replace hW120 := RowAt.below hW120 HB.out
       cases e120
       have HW120 := am hW120
       clear hW120
       replace p120 := eq_true p120
       replace q120 := eq_true q120
       try go_wp2_with (first | ((with_reducible refine gate_dst (N := 22) rfl ?_); refine' load_big ?h0 53 (.tmp 21) ?ho _ ?hx _ _ ?hc Try.underlying53 ?hd ?hi ?_; (case h0 => rfl); (case ho => rfl); (case hx => first | rfl | (go_simp; rfl)); (case hc => first | exact HW120.out | (simpa only [add_plain] using HW120.out) | (simpa only [Addr.add, Nat.zero_add] using HW120.out)); (case hd => rfl); (case hi => rfl)) | ((with_reducible refine gate_dst (N := 9) rfl ?_); refine box_event yz (N := 9) yz (cs := #[.int .i64 0, .int .i64 0, .int .i64 0, .int .i64 0, .int .i64 0, .int .i64 0, .int .i64 0, .int .i64 0, .int .i64 0, .int .i64 0, .int .i64 0, .int .i64 0, .int .i64 0, .int .i64 0, .int .i64 0, .int .i64 0, .int .i64 0, .int .i64 0, .int .i64 0, .int .i64 0, .int .i64 0, .int .i64 0]) (t := 53) gz ?_; intro gb121 hg_ w34 hbox_ hb_; have HA121 := am (And.intro hbox_ (And.intro hb_ hg_)); clear hbox_ hb_ hg_) | ((with_reducible refine row_gate (t := 53) (p := 9) rfl ?_); refine row_event ?h0 53 (.tmp 9) (.tmp 22) ?ho ?hd gb121 #[.int .i64 ((rd_T53 l0_0 x18_1).f0.f0), .int .i64 ((rd_T53 l0_0 x18_1).f0.f1), .int .i64 ((rd_T53 l0_0 x18_1).f1), .int .i64 ((rd_T53 l0_0 x18_1).f2), .int .i64 ((rd_T53 l0_0 x18_1).f3.f0.f0), .int .i64 ((rd_T53 l0_0 x18_1).f3.f0.f1), .int .i64 ((rd_T53 l0_0 x18_1).f3.f0.f2), .int .i64 ((rd_T53 l0_0 x18_1).f3.f1.f0), .int .i64 ((rd_T53 l0_0 x18_1).f3.f1.f1), .int .i64 ((rd_T53 l0_0 x18_1).f3.f1.f2), .int .i64 ((rd_T53 l0_0 x18_1).f3.f2.f0), .int .i64 ((rd_T53 l0_0 x18_1).f3.f2.f1), .int .i64 ((rd_T53 l0_0 x18_1).f3.f2.f2), .int .i64 ((rd_T53 l0_0 x18_1).f3.f3.f0), .int .i64 ((rd_T53 l0_0 x18_1).f3.f3.f1), .int .i64 ((rd_T53 l0_0 x18_1).f3.f3.f2), .int .i64 ((rd_T53 l0_0 x18_1).f3.f4.f0), .int .i64 ((rd_T53 l0_0 x18_1).f3.f4.f1), .int .i64 ((rd_T53 l0_0 x18_1).f3.f4.f2), .int .i64 ((rd_T53 l0_0 x18_1).f3.f5.f0), .int .i64 ((rd_T53 l0_0 x18_1).f3.f5.f1), .int .i64 ((rd_T53 l0_0 x18_1).f3.f5.f2)] ?hx ?hy _ _ HA121.out.1 ?hi ?hs ?h1 ?_; (case h0 => rfl); (case ho => rfl); (case hd => rfl); (case hx => first | rfl | (go_simp; rfl)); (case hy => first | rfl | (go_simp; rfl)); (case hi => rfl); (case hs => rfl); (case h1 => simp [Value.oneCell']); intro w35 hbox ho_ hb_; have hg := HA121.out.2.2; have hb := hb_ _ _ HA121.out.2.1 (Nat.le_of_eq hg.symm); clear ho_ hb_; replace HO_6 := am (Kd.R_below (rz HO_6) hb); replace HO_7 := am (Kd.R_below (rz HO_7) hb); have BK121 := am (hbox); have GW121 := gwz (g := gb121) HB hg; have GE121 := GW121; replace HB := am (below_step bz hb); have NB118_121 := nlt (g' := gb121) BK118 hg; have NB121_118 := ngt (g' := gb121) BK118 hg; replace BK118 := am (blk_below (o := .cells #[.slice (some ad120) l0_0.length c0_0, .slice A0_1 l0_1.length c0_1] 25 (0, 0)) (kz BK118) hb); clear hb hbox hg))
       have n0_ := am (Kd.R_drew HO_6.out)
       have n1_ := am (Kd.R_drew HO_7.out)
       have n2_ := am (blk_drew BK118.out)
       have n3_ := am (blk_drew BK121.out)
       have n4_ := am (below_drew1 HB.out)
       clear HO_6
       clear HO_7
       clear BK118
       clear BK121
       clear HB
       have HO_6 := n0_
       have HO_7 := n1_
       have BK118 := n2_
       have BK121 := n3_
       have HB := n4_
       clear n0_ n1_ n2_ n3_ n4_
       refine start_ (n := 19) (S := fun w' => w'.cell? ⟨gb118, 0, none⟩ = some (.slice (some ad120) l0_0.length c0_0) ∧ w'.cell? ⟨gb118, 1, none⟩ = some (.slice A0_1 l0_1.length c0_1)) (ds := []) (bm 19 0) qz rfl rfl ⟨(blk_cell BK118.out 0).trans rfl, (blk_cell BK118.out 1).trans rfl⟩ (fun hHeld => ?_); refine with_tabW floor_Path.tab9 floor_Path.bits9 (fun HT_ HW_ => ?_)
       generalize w35.drew = w36 at HO_6 HO_7 BK118 BK121 HB hHeld ⊢
       refine pa (i := 0) (N := some 23) (bm 19 1) HT_ ?_
       refine pa (i := 1) (N := some 24) (bm 19 3) HT_ ?_
       refine pa (i := 2) (N := some 25) (bm 19 7) HT_ ?_
       refine pa (i := 3) (N := some 26) (bm 19 15) HT_ ?_
       refine pa (i := 4) (N := some 27) (bm 19 31) HT_ ?_
       refine take_ (i := 5) (N := some 28) (v := ?_) (a' := ?_) (bm 19 63) rfl rfl (take_ofW HT_.out HW_.out qz) iz (Or.inl ⟨by rfl, ?_⟩) hHeld ?_ ?_
       rotate_left
       ·
        rintro w' ⟨s0, s1⟩
        go_simp
        with_reducible rfl
       rotate_left
       ·
        simp only [Act.put, aS, lZ, lS, i64_w, i32_w]
        rfl
       refine pa (i := 6) (N := some 29) (bm 19 127) HT_ ?_
       refine pa (i := 7) (N := some 30) (bm 19 255) HT_ ?_
       refine pa (i := 8) (N := some 31) (bm 19 511) HT_ ?_
       refine pa (i := 9) (N := some 32) (bm 19 1023) HT_ ?_
       refine pu (i := 10) (N := some 33) (bm 19 2047) HT_ ?_
       refine pu (i := 11) (N := some 34) (bm 19 4095) HT_ ?_
       refine pu (i := 12) (N := some 35) (bm 19 8191) HT_ ?_
       refine pu (i := 13) (N := some 36) (bm 19 16383) HT_ ?_
       refine pu (i := 14) (N := some 37) (bm 19 32767) HT_ ?_
       refine pu (i := 15) (N := some 38) (bm 19 65535) HT_ ?_
       refine pu (i := 16) (N := some 39) (bm 19 131071) HT_ ?_
       refine pu (i := 17) (N := some 40) (bm 19 262143) HT_ ?_
       refine pa (i := 18) (N := some 41) (bm 19 524287) HT_ ?_
       refine done_ (done_of HT_.out qz) ?_
       have hnb37 := NB121_118.out
       have hnc37 := NB118_121.out
       have hcz38_0 : w36.cell? ⟨gb121, 0, none⟩ = some (.int .i64 ((rd_T53 l0_0 x18_1).f0.f0)) := (blk_cell BK121.out 0).trans (by rfl)
       have hcz38_1 : w36.cell? ⟨gb121, 1, none⟩ = some (.int .i64 ((rd_T53 l0_0 x18_1).f0.f1)) := (blk_cell BK121.out 1).trans (by rfl)
       have hfz38_0 := blk_frozen BK121.out 0
       have hfz38_1 := blk_frozen BK121.out 1
       try go_wp2_with (first | ((with_reducible refine gate_builtin (b := .append) (xs := #[.tmp 42, .tmp 45]) rfl ?_); at_builtin; refine Kd.R_append k35 (w0 := w) w.heap.size rfl (.tmp 42) (.tmp 45) 28 35 (.agg #[(.int .i64 0), (.int .i64 0)]) 16 rfl Try.underlying28 info35 rfl (by decide) (by omega) u6 x6_1 (⟨(rd_T53 l0_0 x18_1).f0.f0, (rd_T53 l0_0 x18_1).f0.f1⟩ : S35) [.int .i64 ((rd_T53 l0_0 x18_1).f0.f0), .int .i64 ((rd_T53 l0_0 x18_1).f0.f1)] (fun _ => True) (fun _ => False) rfl rfl ?aP (fun _ hk => hk.elim) ?aF ?aO ?aB ?aS ?aL ?_; (case aP => exact k35_mkM _ _ _ (⟨(rd_T53 l0_0 x18_1).f0.f0, (rd_T53 l0_0 x18_1).f0.f1⟩ : S35)); (case aB => exact bz); (case aF => exact (fun _ _ => trivial)); (case aO => exact (rz HO_6)); (case aS => exact (below_size bz)); (case aL => have := LMc32.out; omega); intro v133 w39 ho hb hg hat; rw [← Ny132.out] at ho; replace HO_7 := am (Kd.R_over' (rz HO_7) (Kd.R_typed (rz HO_6)) (by decide) hg); replace BK118 := am (blk_grown (g := gb118) (o := .cells #[.slice (some ad120) l0_0.length c0_0, .slice A0_1 l0_1.length c0_1] 25 (0, 0)) (kz BK118) hg (Kd.R_ne HO_6.out BK118.out (by decide))); replace BK121 := am (blk_grown (g := gb121) (o := .cells #[.int .i64 ((rd_T53 l0_0 x18_1).f0.f0), .int .i64 ((rd_T53 l0_0 x18_1).f0.f1), .int .i64 ((rd_T53 l0_0 x18_1).f1), .int .i64 ((rd_T53 l0_0 x18_1).f2), .int .i64 ((rd_T53 l0_0 x18_1).f3.f0.f0), .int .i64 ((rd_T53 l0_0 x18_1).f3.f0.f1), .int .i64 ((rd_T53 l0_0 x18_1).f3.f0.f2), .int .i64 ((rd_T53 l0_0 x18_1).f3.f1.f0), .int .i64 ((rd_T53 l0_0 x18_1).f3.f1.f1), .int .i64 ((rd_T53 l0_0 x18_1).f3.f1.f2), .int .i64 ((rd_T53 l0_0 x18_1).f3.f2.f0), .int .i64 ((rd_T53 l0_0 x18_1).f3.f2.f1), .int .i64 ((rd_T53 l0_0 x18_1).f3.f2.f2), .int .i64 ((rd_T53 l0_0 x18_1).f3.f3.f0), .int .i64 ((rd_T53 l0_0 x18_1).f3.f3.f1), .int .i64 ((rd_T53 l0_0 x18_1).f3.f3.f2), .int .i64 ((rd_T53 l0_0 x18_1).f3.f4.f0), .int .i64 ((rd_T53 l0_0 x18_1).f3.f4.f1), .int .i64 ((rd_T53 l0_0 x18_1).f3.f4.f2), .int .i64 ((rd_T53 l0_0 x18_1).f3.f5.f0), .int .i64 ((rd_T53 l0_0 x18_1).f3.f5.f1), .int .i64 ((rd_T53 l0_0 x18_1).f3.f5.f2)] 53 (0, 0)) (kz BK121) hg (Kd.R_ne HO_6.out BK121.out (by decide))); replace HB := am (hb); have HO134 := am (ho); clear HO_6; clear ho hb hg hat) | ((with_reducible refine gate_builtin (b := .append) (xs := #[.tmp 47, .tmp 49]) rfl ?_); at_builtin; refine Kd.R_append (Kd.int .i64) (w0 := w) w.heap.size rfl (.tmp 47) (.tmp 49) 23 3 (.int .i64 0) 8 rfl Try.underlying23 info3 rfl (by decide) (by omega) u7 x7_1 x18_1 [.int .i64 x18_1] (fun _ => True) (fun _ => False) rfl rfl ?aP (fun _ hk => hk.elim) ?aF ?aO ?aB ?aS ?aL ?_; (case aP => exact rfl); (case aB => exact bz); (case aF => exact (fun _ _ => trivial)); (case aO => exact (rz HO_7)); (case aS => exact (below_size bz)); (case aL => have := LMc33.out; omega); intro v136 w40 ho hb hg hat; rw [← Ny135.out] at ho; replace BK118 := am (blk_grown (g := gb118) (o := .cells #[.slice (some ad120) l0_0.length c0_0, .slice A0_1 l0_1.length c0_1] 25 (0, 0)) (kz BK118) hg (Kd.R_ne HO_7.out BK118.out (by decide))); replace BK121 := am (blk_grown (g := gb121) (o := .cells #[.int .i64 ((rd_T53 l0_0 x18_1).f0.f0), .int .i64 ((rd_T53 l0_0 x18_1).f0.f1), .int .i64 ((rd_T53 l0_0 x18_1).f1), .int .i64 ((rd_T53 l0_0 x18_1).f2), .int .i64 ((rd_T53 l0_0 x18_1).f3.f0.f0), .int .i64 ((rd_T53 l0_0 x18_1).f3.f0.f1), .int .i64 ((rd_T53 l0_0 x18_1).f3.f0.f2), .int .i64 ((rd_T53 l0_0 x18_1).f3.f1.f0), .int .i64 ((rd_T53 l0_0 x18_1).f3.f1.f1), .int .i64 ((rd_T53 l0_0 x18_1).f3.f1.f2), .int .i64 ((rd_T53 l0_0 x18_1).f3.f2.f0), .int .i64 ((rd_T53 l0_0 x18_1).f3.f2.f1), .int .i64 ((rd_T53 l0_0 x18_1).f3.f2.f2), .int .i64 ((rd_T53 l0_0 x18_1).f3.f3.f0), .int .i64 ((rd_T53 l0_0 x18_1).f3.f3.f1), .int .i64 ((rd_T53 l0_0 x18_1).f3.f3.f2), .int .i64 ((rd_T53 l0_0 x18_1).f3.f4.f0), .int .i64 ((rd_T53 l0_0 x18_1).f3.f4.f1), .int .i64 ((rd_T53 l0_0 x18_1).f3.f4.f2), .int .i64 ((rd_T53 l0_0 x18_1).f3.f5.f0), .int .i64 ((rd_T53 l0_0 x18_1).f3.f5.f1), .int .i64 ((rd_T53 l0_0 x18_1).f3.f5.f2)] 53 (0, 0)) (kz BK121) hg (Kd.R_ne HO_7.out BK121.out (by decide))); replace HO134 := am (Kd.R_over' (rz HO134) (Kd.R_typed (rz HO_7)) (by decide) hg); replace HB := am (hb); have HO137 := am (ho); clear HO_7; clear ho hb hg hat))
       go_roundg k1
       case measure => have := HK1.out; omega
       case rel => exact ⟨(y132), (y135), (wrap64 (x18_1 + 1)), sz, H', ⟨by have := HK1.out; omega⟩, ⟨rz HO134⟩, ⟨rz HO137⟩, ⟨kz BK118⟩, ⟨bz⟩⟩
     ·
      rw [if_neg c11] at H
      have c11b0 := decide_eq_false c11
      clear c11
      by_cases c41 : x6_1.length < 8796093022208; rotate_left
      · rw [if_neg c41] at H; exact absurd H (by simp)
      rw [if_pos c41] at H
      have LMc41 := am c41
      clear c41
      obtain ⟨y138, hy138⟩ : ∃ y_ : List (S35), y_ = (x6_1 ++ [(⟨(rd_T53 l0_0 x18_1).f0.f0, (rd_T53 l0_0 x18_1).f0.f1⟩ : S35)]) := ⟨_, rfl⟩
      replace H : (if x7_1.length < 17592186044416 then (floor_Path.l0 k1 y138 (x7_1 ++ [x18_1]) l0_0 (l0_0.length : Int) (wrap64 (x18_1 + 1)) l0_0 l0_1) else (none)) = some (r1, r2, r3) := by first | (rw [hy138]; with_reducible exact H) | (have H2_ := (Option.bind_some _ _).symm.trans H; rw [hy138]; with_reducible exact H2_) | (have H2_ := (Option.bind_some _ _).symm.trans H; with_reducible exact H2_) | with_reducible exact H | (rw [hy138]; exact H) | exact H
      have Ny138 := am hy138
      clear hy138
      by_cases c42 : x7_1.length < 17592186044416; rotate_left
      · rw [if_neg c42] at H; exact absurd H (by simp)
      rw [if_pos c42] at H
      have LMc42 := am c42
      clear c42
      obtain ⟨y141, hy141⟩ : ∃ y_ : List Int, y_ = (x7_1 ++ [x18_1]) := ⟨_, rfl⟩
      replace H : (floor_Path.l0 k1 y138 y141 l0_0 (l0_0.length : Int) (wrap64 (x18_1 + 1)) l0_0 l0_1) = some (r1, r2, r3) := by first | (rw [hy141]; with_reducible exact H) | (have H2_ := (Option.bind_some _ _).symm.trans H; rw [hy141]; with_reducible exact H2_) | (have H2_ := (Option.bind_some _ _).symm.trans H; with_reducible exact H2_) | with_reducible exact H | (rw [hy141]; exact H) | exact H
      have Ny141 := am hy141
      clear hy141
      have H' := am H
      clear H
      have p120 : 0 ≤ (x18_1 : Int) := az
      have q120 : x18_1 < (l0_0.length : Int) := az
      obtain ⟨ad120, ce120, e120, hK120, hW120⟩ := Kd.C_rowAt (HR0_0.out) (z53) x18_1 p120 q120
      obtain rfl := k53_open (show k53.K _ (rd_T53 l0_0 x18_1) _ from hK120)
      clear hK120
      replace hW120 := RowAt.below hW120 HB.out
      cases e120
      have HW120 := am hW120
      clear hW120
      replace p120 := eq_true p120
      replace q120 := eq_true q120
      try go_wp2_with (first | ((with_reducible refine gate_dst (N := 22) rfl ?_); refine' load_big ?h0 53 (.tmp 21) ?ho _ ?hx _ _ ?hc Try.underlying53 ?hd ?hi ?_; (case h0 => rfl); (case ho => rfl); (case hx => first | rfl | (go_simp; rfl)); (case hc => first | exact HW120.out | (simpa only [add_plain] using HW120.out) | (simpa only [Addr.add, Nat.zero_add] using HW120.out)); (case hd => rfl); (case hi => rfl)) | ((with_reducible refine gate_dst (N := 9) rfl ?_); refine box_event yz (N := 9) yz (cs := #[.int .i64 0, .int .i64 0, .int .i64 0, .int .i64 0, .int .i64 0, .int .i64 0, .int .i64 0, .int .i64 0, .int .i64 0, .int .i64 0, .int .i64 0, .int .i64 0, .int .i64 0, .int .i64 0, .int .i64 0, .int .i64 0, .int .i64 0, .int .i64 0, .int .i64 0, .int .i64 0, .int .i64 0, .int .i64 0]) (t := 53) gz ?_; intro gb121 hg_ w43 hbox_ hb_; have HA121 := am (And.intro hbox_ (And.intro hb_ hg_)); clear hbox_ hb_ hg_) | ((with_reducible refine row_gate (t := 53) (p := 9) rfl ?_); refine row_event ?h0 53 (.tmp 9) (.tmp 22) ?ho ?hd gb121 #[.int .i64 ((rd_T53 l0_0 x18_1).f0.f0), .int .i64 ((rd_T53 l0_0 x18_1).f0.f1), .int .i64 ((rd_T53 l0_0 x18_1).f1), .int .i64 ((rd_T53 l0_0 x18_1).f2), .int .i64 ((rd_T53 l0_0 x18_1).f3.f0.f0), .int .i64 ((rd_T53 l0_0 x18_1).f3.f0.f1), .int .i64 ((rd_T53 l0_0 x18_1).f3.f0.f2), .int .i64 ((rd_T53 l0_0 x18_1).f3.f1.f0), .int .i64 ((rd_T53 l0_0 x18_1).f3.f1.f1), .int .i64 ((rd_T53 l0_0 x18_1).f3.f1.f2), .int .i64 ((rd_T53 l0_0 x18_1).f3.f2.f0), .int .i64 ((rd_T53 l0_0 x18_1).f3.f2.f1), .int .i64 ((rd_T53 l0_0 x18_1).f3.f2.f2), .int .i64 ((rd_T53 l0_0 x18_1).f3.f3.f0), .int .i64 ((rd_T53 l0_0 x18_1).f3.f3.f1), .int .i64 ((rd_T53 l0_0 x18_1).f3.f3.f2), .int .i64 ((rd_T53 l0_0 x18_1).f3.f4.f0), .int .i64 ((rd_T53 l0_0 x18_1).f3.f4.f1), .int .i64 ((rd_T53 l0_0 x18_1).f3.f4.f2), .int .i64 ((rd_T53 l0_0 x18_1).f3.f5.f0), .int .i64 ((rd_T53 l0_0 x18_1).f3.f5.f1), .int .i64 ((rd_T53 l0_0 x18_1).f3.f5.f2)] ?hx ?hy _ _ HA121.out.1 ?hi ?hs ?h1 ?_; (case h0 => rfl); (case ho => rfl); (case hd => rfl); (case hx => first | rfl | (go_simp; rfl)); (case hy => first | rfl | (go_simp; rfl)); (case hi => rfl); (case hs => rfl); (case h1 => simp [Value.oneCell']); intro w44 hbox ho_ hb_; have hg := HA121.out.2.2; have hb := hb_ _ _ HA121.out.2.1 (Nat.le_of_eq hg.symm); clear ho_ hb_; replace HO_6 := am (Kd.R_below (rz HO_6) hb); replace HO_7 := am (Kd.R_below (rz HO_7) hb); have BK121 := am (hbox); have GW121 := gwz (g := gb121) HB hg; have GE121 := GW121; replace HB := am (below_step bz hb); have NB118_121 := nlt (g' := gb121) BK118 hg; have NB121_118 := ngt (g' := gb121) BK118 hg; replace BK118 := am (blk_below (o := .cells #[.slice (some ad120) l0_0.length c0_0, .slice A0_1 l0_1.length c0_1] 25 (0, 0)) (kz BK118) hb); clear hb hbox hg))
      have n0_ := am (Kd.R_drew HO_6.out)
      have n1_ := am (Kd.R_drew HO_7.out)
      have n2_ := am (blk_drew BK118.out)
      have n3_ := am (blk_drew BK121.out)
      have n4_ := am (below_drew1 HB.out)
      clear HO_6
      clear HO_7
      clear BK118
      clear BK121
      clear HB
      have HO_6 := n0_
      have HO_7 := n1_
      have BK118 := n2_
      have BK121 := n3_
      have HB := n4_
      clear n0_ n1_ n2_ n3_ n4_
      refine start_ (n := 19) (S := fun w' => True) (ds := []) (bm 19 0) qz rfl rfl trivial (fun hHeld => ?_); refine with_tabW floor_Path.tab9 floor_Path.bits9 (fun HT_ HW_ => ?_)
      generalize w44.drew = w45 at HO_6 HO_7 BK118 BK121 HB hHeld ⊢
      refine pa (i := 0) (N := some 23) (bm 19 1) HT_ ?_
      refine pa (i := 1) (N := some 24) (bm 19 3) HT_ ?_
      refine pa (i := 2) (N := some 25) (bm 19 7) HT_ ?_
      refine pu (i := 3) (N := some 26) (bm 19 15) HT_ ?_
      refine pu (i := 4) (N := some 27) (bm 19 31) HT_ ?_
      refine pu (i := 5) (N := some 28) (bm 19 63) HT_ ?_
      refine pu (i := 6) (N := some 29) (bm 19 127) HT_ ?_
      refine pu (i := 7) (N := some 30) (bm 19 255) HT_ ?_
      refine pa (i := 8) (N := some 31) (bm 19 511) HT_ ?_
      refine pa (i := 9) (N := some 32) (bm 19 1023) HT_ ?_
      refine pu (i := 10) (N := some 33) (bm 19 2047) HT_ ?_
      refine pu (i := 11) (N := some 34) (bm 19 4095) HT_ ?_
      refine pu (i := 12) (N := some 35) (bm 19 8191) HT_ ?_
      refine pu (i := 13) (N := some 36) (bm 19 16383) HT_ ?_
      refine pu (i := 14) (N := some 37) (bm 19 32767) HT_ ?_
      refine pu (i := 15) (N := some 38) (bm 19 65535) HT_ ?_
      refine pu (i := 16) (N := some 39) (bm 19 131071) HT_ ?_
      refine pu (i := 17) (N := some 40) (bm 19 262143) HT_ ?_
      refine pa (i := 18) (N := some 41) (bm 19 524287) HT_ ?_
      refine done_ (done_of HT_.out qz) ?_
      have hnb46 := NB121_118.out
      have hnc46 := NB118_121.out
      have hcz47_0 : w45.cell? ⟨gb121, 0, none⟩ = some (.int .i64 ((rd_T53 l0_0 x18_1).f0.f0)) := (blk_cell BK121.out 0).trans (by rfl)
      have hcz47_1 : w45.cell? ⟨gb121, 1, none⟩ = some (.int .i64 ((rd_T53 l0_0 x18_1).f0.f1)) := (blk_cell BK121.out 1).trans (by rfl)
      have hfz47_0 := blk_frozen BK121.out 0
      have hfz47_1 := blk_frozen BK121.out 1
      try go_wp2_with (first | ((with_reducible refine gate_builtin (b := .append) (xs := #[.tmp 42, .tmp 45]) rfl ?_); at_builtin; refine Kd.R_append k35 (w0 := w) w.heap.size rfl (.tmp 42) (.tmp 45) 28 35 (.agg #[(.int .i64 0), (.int .i64 0)]) 16 rfl Try.underlying28 info35 rfl (by decide) (by omega) u6 x6_1 (⟨(rd_T53 l0_0 x18_1).f0.f0, (rd_T53 l0_0 x18_1).f0.f1⟩ : S35) [.int .i64 ((rd_T53 l0_0 x18_1).f0.f0), .int .i64 ((rd_T53 l0_0 x18_1).f0.f1)] (fun _ => True) (fun _ => False) rfl rfl ?aP (fun _ hk => hk.elim) ?aF ?aO ?aB ?aS ?aL ?_; (case aP => exact k35_mkM _ _ _ (⟨(rd_T53 l0_0 x18_1).f0.f0, (rd_T53 l0_0 x18_1).f0.f1⟩ : S35)); (case aB => exact bz); (case aF => exact (fun _ _ => trivial)); (case aO => exact (rz HO_6)); (case aS => exact (below_size bz)); (case aL => have := LMc41.out; omega); intro v139 w48 ho hb hg hat; rw [← Ny138.out] at ho; replace HO_7 := am (Kd.R_over' (rz HO_7) (Kd.R_typed (rz HO_6)) (by decide) hg); replace BK118 := am (blk_grown (g := gb118) (o := .cells #[.slice (some ad120) l0_0.length c0_0, .slice A0_1 l0_1.length c0_1] 25 (0, 0)) (kz BK118) hg (Kd.R_ne HO_6.out BK118.out (by decide))); replace BK121 := am (blk_grown (g := gb121) (o := .cells #[.int .i64 ((rd_T53 l0_0 x18_1).f0.f0), .int .i64 ((rd_T53 l0_0 x18_1).f0.f1), .int .i64 ((rd_T53 l0_0 x18_1).f1), .int .i64 ((rd_T53 l0_0 x18_1).f2), .int .i64 ((rd_T53 l0_0 x18_1).f3.f0.f0), .int .i64 ((rd_T53 l0_0 x18_1).f3.f0.f1), .int .i64 ((rd_T53 l0_0 x18_1).f3.f0.f2), .int .i64 ((rd_T53 l0_0 x18_1).f3.f1.f0), .int .i64 ((rd_T53 l0_0 x18_1).f3.f1.f1), .int .i64 ((rd_T53 l0_0 x18_1).f3.f1.f2), .int .i64 ((rd_T53 l0_0 x18_1).f3.f2.f0), .int .i64 ((rd_T53 l0_0 x18_1).f3.f2.f1), .int .i64 ((rd_T53 l0_0 x18_1).f3.f2.f2), .int .i64 ((rd_T53 l0_0 x18_1).f3.f3.f0), .int .i64 ((rd_T53 l0_0 x18_1).f3.f3.f1), .int .i64 ((rd_T53 l0_0 x18_1).f3.f3.f2), .int .i64 ((rd_T53 l0_0 x18_1).f3.f4.f0), .int .i64 ((rd_T53 l0_0 x18_1).f3.f4.f1), .int .i64 ((rd_T53 l0_0 x18_1).f3.f4.f2), .int .i64 ((rd_T53 l0_0 x18_1).f3.f5.f0), .int .i64 ((rd_T53 l0_0 x18_1).f3.f5.f1), .int .i64 ((rd_T53 l0_0 x18_1).f3.f5.f2)] 53 (0, 0)) (kz BK121) hg (Kd.R_ne HO_6.out BK121.out (by decide))); replace HB := am (hb); have HO140 := am (ho); clear HO_6; clear ho hb hg hat) | ((with_reducible refine gate_builtin (b := .append) (xs := #[.tmp 47, .tmp 49]) rfl ?_); at_builtin; refine Kd.R_append (Kd.int .i64) (w0 := w) w.heap.size rfl (.tmp 47) (.tmp 49) 23 3 (.int .i64 0) 8 rfl Try.underlying23 info3 rfl (by decide) (by omega) u7 x7_1 x18_1 [.int .i64 x18_1] (fun _ => True) (fun _ => False) rfl rfl ?aP (fun _ hk => hk.elim) ?aF ?aO ?aB ?aS ?aL ?_; (case aP => exact rfl); (case aB => exact bz); (case aF => exact (fun _ _ => trivial)); (case aO => exact (rz HO_7)); (case aS => exact (below_size bz)); (case aL => have := LMc42.out; omega); intro v142 w49 ho hb hg hat; rw [← Ny141.out] at ho; replace BK118 := am (blk_grown (g := gb118) (o := .cells #[.slice (some ad120) l0_0.length c0_0, .slice A0_1 l0_1.length c0_1] 25 (0, 0)) (kz BK118) hg (Kd.R_ne HO_7.out BK118.out (by decide))); replace BK121 := am (blk_grown (g := gb121) (o := .cells #[.int .i64 ((rd_T53 l0_0 x18_1).f0.f0), .int .i64 ((rd_T53 l0_0 x18_1).f0.f1), .int .i64 ((rd_T53 l0_0 x18_1).f1), .int .i64 ((rd_T53 l0_0 x18_1).f2), .int .i64 ((rd_T53 l0_0 x18_1).f3.f0.f0), .int .i64 ((rd_T53 l0_0 x18_1).f3.f0.f1), .int .i64 ((rd_T53 l0_0 x18_1).f3.f0.f2), .int .i64 ((rd_T53 l0_0 x18_1).f3.f1.f0), .int .i64 ((rd_T53 l0_0 x18_1).f3.f1.f1), .int .i64 ((rd_T53 l0_0 x18_1).f3.f1.f2), .int .i64 ((rd_T53 l0_0 x18_1).f3.f2.f0), .int .i64 ((rd_T53 l0_0 x18_1).f3.f2.f1), .int .i64 ((rd_T53 l0_0 x18_1).f3.f2.f2), .int .i64 ((rd_T53 l0_0 x18_1).f3.f3.f0), .int .i64 ((rd_T53 l0_0 x18_1).f3.f3.f1), .int .i64 ((rd_T53 l0_0 x18_1).f3.f3.f2), .int .i64 ((rd_T53 l0_0 x18_1).f3.f4.f0), .int .i64 ((rd_T53 l0_0 x18_1).f3.f4.f1), .int .i64 ((rd_T53 l0_0 x18_1).f3.f4.f2), .int .i64 ((rd_T53 l0_0 x18_1).f3.f5.f0), .int .i64 ((rd_T53 l0_0 x18_1).f3.f5.f1), .int .i64 ((rd_T53 l0_0 x18_1).f3.f5.f2)] 53 (0, 0)) (kz BK121) hg (Kd.R_ne HO_7.out BK121.out (by decide))); replace HO140 := am (Kd.R_over' (rz HO140) (Kd.R_typed (rz HO_7)) (by decide) hg); replace HB := am (hb); have HO143 := am (ho); clear HO_7; clear ho hb hg hat))
      go_roundg k1
      case measure => have := HK1.out; omega
      case rel => exact ⟨(y138), (y141), (wrap64 (x18_1 + 1)), sz, H', ⟨by have := HK1.out; omega⟩, ⟨rz HO140⟩, ⟨rz HO143⟩, ⟨kz BK118⟩, ⟨bz⟩⟩
    ·
     rw [if_neg c8] at H
     have c8b0 := decide_eq_false c8
     clear c8
     simp only [Option.some.injEq, Prod.mk.injEq] at H
     obtain ⟨rfl, rfl, rfl⟩ := H
     go_wp2
     go_ret3
     exact ⟨_, _, ez, by (with_reducible repeat first | apply rA | apply rN | apply rD); exact HO_6.out, by (with_reducible repeat first | apply rA | apply rN | apply rD); exact HO_7.out, bz⟩
 ·
  rw [if_neg c3] at H
  have c3b0 : (t119 == 0) = false := beq_eq_false_iff_ne.mpr c3
  have c3b1 : (t119 != 0) = true := bne_iff_ne.mpr c3
  simp only [Option.some.injEq, Prod.mk.injEq] at H
  obtain ⟨rfl, rfl, rfl⟩ := H
  go_enter Try.func11, Try.ntmps11
  go_wp2_with (first | ((with_reducible refine gate_dst (N := 1) rfl ?_); refine box_event yz (N := 1) yz (cs := #[.slice A0_0 l0_0.length c0_0, .slice A0_1 l0_1.length c0_1]) (t := 25) gz ?_; intro gb118 hg w50 hbox hb; have BK118 := am (hbox); have GW118 := gwz (g := gb118) HB hg; have GE118 := GW118; replace HB := am (below_step bz hb); clear hb hbox hg; obtain ⟨hcz51_0, hcz51_1, hfz51_0, hfz51_1⟩ := kc2 BK118.out) | ((with_reducible refine gate_callee (f := 21) rfl ?_); refine goesL_ (some 11) rfl rfl Try.func21 qz rfl #[.agg #[.slice A0_0 l0_0.length c0_0, .slice A0_1 l0_1.length c0_1]] rfl mz ?_; (with_reducible refine (movement_Check.calls k _ _ l0_0 _ _ l0_1 t119 _ ?side1 ?side2 ?side3 ?side4 A2.out).mono ?_); (case side1 => exact cz HR0_0); (case side2 => exact HC0_0.out); (case side3 => exact cz HR0_1); (case side4 => exact HC0_1.out); rintro e w52 ⟨rfl, hb⟩; refine ⟨_, rfl, ?_⟩; replace BK118 := am (blk_below (o := .cells #[.slice A0_0 l0_0.length c0_0, .slice A0_1 l0_1.length c0_1] 25 (0, 0)) (kz BK118) hb); replace HB := am (below_step bz hb); (try clear hb); (try clear hb2); (try clear hk); (try clear hi)))
  go_ret3
  exact ⟨_, _, ez, by first | exact Kd.R_nil _ _ _ _ _ | exact Kd.N_nil _ _ _ _ _ | exact Kd.V_nil _ _ _ _ _ | exact Kd.Q_nil _ _ _ _ _ | exact Kd.S_nil _ _ _ _ _, by first | exact Kd.R_nil _ _ _ _ _ | exact Kd.N_nil _ _ _ _ _ | exact Kd.V_nil _ _ _ _ _ | exact Kd.Q_nil _ _ _ _ _ | exact Kd.S_nil _ _ _ _ _, bz⟩

end Go.Proofs.Ytmdmajfgpmopbaa.X

namespace Go.Proofs.Ytmdmajfgpmopbaa.X
open Go.RowKit YtmdmajfgpmopbaaW.PrintWords YtmdmajfgpmopbaaW.PrintLast YtmdmajfgpmopbaaW.PrintMore
attribute [local go_sem] max2_int min2_int max_two min_two max_three min_three max_four min_four
set_option linter.unusedVariables false
set_option linter.unusedSimpArgs false

attribute [local go_sem high] eqA35
/-! ### dancestudioref43_Same: function 13 -/
def dancestudioref43_Same.l0 : Nat → List (S35) → List (S35) → Int → Option (Bool)
 | 0, _, _, _ => none
 | k + 1, x0, x1, x5 => if x5 < (x0.length : Int) then (if 0 ≤ x5 then (if x5 < (x1.length : Int) then (if (!(((rd_T35 x0 x5).f0) == ((rd_T35 x1 x5).f0)) || (!(((rd_T35 x0 x5).f1) == ((rd_T35 x1 x5).f1)))) = true then (some false) else (dancestudioref43_Same.l0 k x0 x1 (wrap64 (x5 + 1)))) else (none)) else (none)) else (some true)
def dancestudioref43_Same.f (k : Nat) (l0 : List (S35)) (l1 : List (S35)) : Option (Bool) := if (l0.length : Int) = (l1.length : Int) then (dancestudioref43_Same.l0 k l0 l1 0) else (some false)
theorem dancestudioref43_Same.mono_l : ∀ k, (∀ y0 y1 y2, LeO (dancestudioref43_Same.l0 k y0 y1 y2) (dancestudioref43_Same.l0 (k + 1) y0 y1 y2))
 | 0 => fun _ _ _ r h => by simp [dancestudioref43_Same.l0] at h
 | k + 1 => by
  have ih0 := dancestudioref43_Same.mono_l k
  ·
   intro y0 y1 y2
   unfold dancestudioref43_Same.l0
   repeat' first
   | (with_reducible exact ih0 _ _ _)
   | (with_reducible exact LeO.refl _)
   | (with_reducible exact LeO.none _)
   | (with_reducible refine LeO.ite ?_ ?_)
   | (with_reducible refine LeO.bind ?_ (fun _ => ?_))
   | exact ih0 _ _ _
   | exact LeO.none _
   | refine LeO.ite ?_ ?_
   | refine LeO.bind ?_ (fun _ => ?_)
theorem dancestudioref43_Same.mono : ∀ a0 a1 k, LeO (dancestudioref43_Same.f k a0 a1) (dancestudioref43_Same.f (k + 1) a0 a1) := by
 intro a0 a1 k
 have ih0 := dancestudioref43_Same.mono_l k
 unfold dancestudioref43_Same.f
 repeat' first
   | (with_reducible exact ih0 _ _ _)
   | (with_reducible exact LeO.refl _)
   | (with_reducible exact LeO.none _)
   | (with_reducible refine LeO.ite ?_ ?_)
   | (with_reducible refine LeO.bind ?_ (fun _ => ?_))
   | exact ih0 _ _ _
   | exact LeO.none _
   | refine LeO.ite ?_ ?_
   | refine LeO.bind ?_ (fun _ => ?_)
set_option maxHeartbeats 8000000 in
set_option maxRecDepth 100000 in
theorem dancestudioref43_Same.calls (k : Nat) (A0 : Option Addr) (c0 : Nat) (l0 : List (S35)) (A1 : Option Addr) (c1 : Nat) (l1 : List (S35)) (r : Bool) (w : World) (hr0 : Kd.C k35 w A0 l0.length l0) (hc0 : l0.length ≤ c0) (hr1 : Kd.C k35 w A1 l1.length l1) (hc1 : l1.length ≤ c1) (h : dancestudioref43_Same.f k l0 l1 = some r) :
  Calls Try.prog 13 #[.slice A0 l0.length c0, .slice A1 l1.length c1] w fun e w' => e = .returned (.bool r) ∧ Drawn0 w w' := by
 have hu35 := Try.underlying35
 have HR0 := am hr0
 have HC0 := am hc0
 clear hr0 hc0
 have HR1 := am hr1
 have HC1 := am hc1
 clear hr1 hc1
 have H : (if (l0.length : Int) = (l1.length : Int) then (dancestudioref43_Same.l0 k l0 l1 0) else (some false)) = some r := h
 clear h
 by_cases c3 : (l0.length : Int) = (l1.length : Int)
 ·
  rw [if_pos c3] at H
  have c3b0 : ((l0.length : Int) == (l1.length : Int)) = true := beq_iff_eq.mpr c3
  have c3b1 : ((l0.length : Int) != (l1.length : Int)) = false := bne_eq_false_iff_eq.mpr c3
  have c3b2 : (l0.length == l1.length) = true := by first | simpa using c3 | (simp at c3 ⊢; omega)
  clear c3
  have H' := am H
  clear H
  go_enter Try.func13, Try.ntmps13
  go_wp2
  repeat (go_quiet (fail); try go_wp2)
  go_loopg [5] k (fun kq v5 w' => ∃ (x5_1 : Int), v5 = .int .i64 x5_1 ∧ Aside0 (dancestudioref43_Same.l0 kq l0 l1 x5_1 = some r) ∧ Aside0 (kq ≤ k) ∧ Drawn0 w w')
  case atStart => exact ⟨(0), sz, H', ⟨Nat.le_refl _⟩, by repeat (first | exact Drawn0.refl _ | apply Drawn0.step)⟩
  case round =>
   clear H'
   try clear c1
   try clear p2
   try clear c3
   try clear c3b0
   try clear c3b1
   try clear c3b2
   obtain ⟨x5_1, rfl, HA, HK1, ⟨m1, rfl⟩⟩ := hrel
   cases gk with
   | zero => exact absurd HA.out (by simp [dancestudioref43_Same.l0])
   | succ k1 =>
    have H := HA.out
    clear HA
    simp only [dancestudioref43_Same.l0] at H
    by_cases c4 : x5_1 < (l0.length : Int)
    ·
     rw [if_pos c4] at H
     have c4b0 := decide_eq_true c4
     clear c4
     by_cases c5 : 0 ≤ x5_1; rotate_left
     · rw [if_neg c5] at H; exact absurd H (by simp)
     rw [if_pos c5] at H
     have c5b0 := decide_eq_true c5
     clear c5
     by_cases c6 : x5_1 < (l1.length : Int); rotate_left
     · rw [if_neg c6] at H; exact absurd H (by simp)
     rw [if_pos c6] at H
     have c6b0 := decide_eq_true c6
     clear c6
     by_cases c7 : (!(((rd_T35 l0 x5_1).f0) == ((rd_T35 l1 x5_1).f0)) || (!(((rd_T35 l0 x5_1).f1) == ((rd_T35 l1 x5_1).f1)))) = true
     ·
      rw [if_pos c7] at H
      have c7b0 : (!(((rd_T35 l0 x5_1).f0) == ((rd_T35 l1 x5_1).f0)) || (!(((rd_T35 l0 x5_1).f1) == ((rd_T35 l1 x5_1).f1)))) = true := c7
      clear c7
      obtain rfl := Option.some.inj H
      have p144 : 0 ≤ (x5_1 : Int) := az
      have q144 : x5_1 < (l0.length : Int) := az
      obtain ⟨ad144, e144, hx144_0, hx144_1⟩ := at_T35 HR0.out x5_1 p144 q144
      cases e144
      replace p144 := eq_true p144
      replace q144 := eq_true q144
      have p145 : 0 ≤ (x5_1 : Int) := az
      have q145 : x5_1 < (l1.length : Int) := az
      obtain ⟨ad145, e145, hx145_0, hx145_1⟩ := at_T35 HR1.out x5_1 p145 q145
      cases e145
      replace p145 := eq_true p145
      replace q145 := eq_true q145
      go_wp2
      repeat (go_quiet (fail); try go_wp2)
      go_ret
      exact ⟨by first | rfl | (simp; done) | (simp [*]; done), by repeat (first | exact Drawn0.refl _ | apply Drawn0.step)⟩
     ·
      rw [if_neg c7] at H
      have c7b0 : (!(((rd_T35 l0 x5_1).f0) == ((rd_T35 l1 x5_1).f0)) || (!(((rd_T35 l0 x5_1).f1) == ((rd_T35 l1 x5_1).f1)))) = false := by simpa using c7
      clear c7
      have H' := am H
      clear H
      have p144 : 0 ≤ (x5_1 : Int) := az
      have q144 : x5_1 < (l0.length : Int) := az
      obtain ⟨ad144, e144, hx144_0, hx144_1⟩ := at_T35 HR0.out x5_1 p144 q144
      cases e144
      replace p144 := eq_true p144
      replace q144 := eq_true q144
      have p145 : 0 ≤ (x5_1 : Int) := az
      have q145 : x5_1 < (l1.length : Int) := az
      obtain ⟨ad145, e145, hx145_0, hx145_1⟩ := at_T35 HR1.out x5_1 p145 q145
      cases e145
      replace p145 := eq_true p145
      replace q145 := eq_true q145
      go_wp2
      repeat (go_quiet (fail); try go_wp2)
      go_roundg k1
      case measure => have := HK1.out; omega
      case rel => exact ⟨(wrap64 (x5_1 + 1)), sz, H', ⟨by have := HK1.out; omega⟩, by repeat (first | exact Drawn0.refl _ | apply Drawn0.step)⟩
    ·
     rw [if_neg c4] at H
     have c4b0 := decide_eq_false c4
     clear c4
     obtain rfl := Option.some.inj H
     go_wp2
     repeat (go_quiet (fail); try go_wp2)
     go_ret
     exact ⟨by first | rfl | (simp; done) | (simp [*]; done), by repeat (first | exact Drawn0.refl _ | apply Drawn0.step)⟩
 ·
  rw [if_neg c3] at H
  have c3b0 : ((l0.length : Int) == (l1.length : Int)) = false := beq_eq_false_iff_ne.mpr c3
  have c3b1 : ((l0.length : Int) != (l1.length : Int)) = true := bne_iff_ne.mpr c3
  have c3b2 : (l0.length == l1.length) = false := by first | simpa using c3 | (simp at c3 ⊢; omega)
  obtain rfl := Option.some.inj H
  go_enter Try.func13, Try.ntmps13
  go_wp2
  repeat (go_quiet (fail); try go_wp2)
  go_ret
  exact ⟨by first | rfl | (simp; done) | (simp [*]; done), by repeat (first | exact Drawn0.refl _ | apply Drawn0.step)⟩

end Go.Proofs.Ytmdmajfgpmopbaa.X

namespace Go.Proofs.Ytmdmajfgpmopbaa.X
open Go.RowKit YtmdmajfgpmopbaaW.PrintWords YtmdmajfgpmopbaaW.PrintLast YtmdmajfgpmopbaaW.PrintMore
attribute [local go_sem] max2_int min2_int max_two min_two max_three min_three max_four min_four
set_option linter.unusedVariables false
set_option linter.unusedSimpArgs false

/-! ### dancestudioref25_Ints: function 14 -/
def dancestudioref25_Ints.l0 : Nat → List Int → List Int → Int → Option (Bool)
 | 0, _, _, _ => none
 | k + 1, x0, x1, x5 => if x5 < (x0.length : Int) then (if 0 ≤ x5 then (if x5 < (x1.length : Int) then (if (rd x0 x5) = (rd x1 x5) then (dancestudioref25_Ints.l0 k x0 x1 (wrap64 (x5 + 1))) else (some false)) else (none)) else (none)) else (some true)
def dancestudioref25_Ints.f (k : Nat) (l0 : List Int) (l1 : List Int) : Option (Bool) := if (l0.length : Int) = (l1.length : Int) then (dancestudioref25_Ints.l0 k l0 l1 0) else (some false)
theorem dancestudioref25_Ints.mono_l : ∀ k, (∀ y0 y1 y2, LeO (dancestudioref25_Ints.l0 k y0 y1 y2) (dancestudioref25_Ints.l0 (k + 1) y0 y1 y2))
 | 0 => fun _ _ _ r h => by simp [dancestudioref25_Ints.l0] at h
 | k + 1 => by
  have ih0 := dancestudioref25_Ints.mono_l k
  ·
   intro y0 y1 y2
   unfold dancestudioref25_Ints.l0
   repeat' first
   | (with_reducible exact ih0 _ _ _)
   | (with_reducible exact LeO.refl _)
   | (with_reducible exact LeO.none _)
   | (with_reducible refine LeO.ite ?_ ?_)
   | (with_reducible refine LeO.bind ?_ (fun _ => ?_))
   | exact ih0 _ _ _
   | exact LeO.none _
   | refine LeO.ite ?_ ?_
   | refine LeO.bind ?_ (fun _ => ?_)
theorem dancestudioref25_Ints.mono : ∀ a0 a1 k, LeO (dancestudioref25_Ints.f k a0 a1) (dancestudioref25_Ints.f (k + 1) a0 a1) := by
 intro a0 a1 k
 have ih0 := dancestudioref25_Ints.mono_l k
 unfold dancestudioref25_Ints.f
 repeat' first
   | (with_reducible exact ih0 _ _ _)
   | (with_reducible exact LeO.refl _)
   | (with_reducible exact LeO.none _)
   | (with_reducible refine LeO.ite ?_ ?_)
   | (with_reducible refine LeO.bind ?_ (fun _ => ?_))
   | exact ih0 _ _ _
   | exact LeO.none _
   | refine LeO.ite ?_ ?_
   | refine LeO.bind ?_ (fun _ => ?_)
set_option maxHeartbeats 8000000 in
set_option maxRecDepth 100000 in
theorem dancestudioref25_Ints.calls (k : Nat) (A0 : Option Addr) (c0 : Nat) (l0 : List Int) (A1 : Option Addr) (c1 : Nat) (l1 : List Int) (r : Bool) (w : World) (hr0 : Kd.C (Kd.int .i64) w A0 l0.length l0) (hc0 : l0.length ≤ c0) (hr1 : Kd.C (Kd.int .i64) w A1 l1.length l1) (hc1 : l1.length ≤ c1) (h : dancestudioref25_Ints.f k l0 l1 = some r) :
  Calls Try.prog 14 #[.slice A0 l0.length c0, .slice A1 l1.length c1] w fun e w' => e = .returned (.bool r) ∧ Drawn0 w w' := by
 have HR0 := am hr0
 have HC0 := am hc0
 clear hr0 hc0
 have HR1 := am hr1
 have HC1 := am hc1
 clear hr1 hc1
 have H : (if (l0.length : Int) = (l1.length : Int) then (dancestudioref25_Ints.l0 k l0 l1 0) else (some false)) = some r := h
 clear h
 by_cases c3 : (l0.length : Int) = (l1.length : Int)
 ·
  rw [if_pos c3] at H
  have c3b0 : ((l0.length : Int) == (l1.length : Int)) = true := beq_iff_eq.mpr c3
  have c3b1 : ((l0.length : Int) != (l1.length : Int)) = false := bne_eq_false_iff_eq.mpr c3
  have c3b2 : (l0.length == l1.length) = true := by first | simpa using c3 | (simp at c3 ⊢; omega)
  clear c3
  have H' := am H
  clear H
  go_enter Try.func14, Try.ntmps14
  go_wp2
  repeat (go_quiet (fail); try go_wp2)
  go_loopg [5] k (fun kq v5 w' => ∃ (x5_1 : Int), v5 = .int .i64 x5_1 ∧ Aside0 (dancestudioref25_Ints.l0 kq l0 l1 x5_1 = some r) ∧ Aside0 (kq ≤ k) ∧ Drawn0 w w')
  case atStart => exact ⟨(0), sz, H', ⟨Nat.le_refl _⟩, by repeat (first | exact Drawn0.refl _ | apply Drawn0.step)⟩
  case round =>
   clear H'
   try clear c1
   try clear p2
   try clear c3
   try clear c3b0
   try clear c3b1
   try clear c3b2
   obtain ⟨x5_1, rfl, HA, HK1, ⟨m1, rfl⟩⟩ := hrel
   cases gk with
   | zero => exact absurd HA.out (by simp [dancestudioref25_Ints.l0])
   | succ k1 =>
    have H := HA.out
    clear HA
    simp only [dancestudioref25_Ints.l0] at H
    by_cases c4 : x5_1 < (l0.length : Int)
    ·
     rw [if_pos c4] at H
     have c4b0 := decide_eq_true c4
     clear c4
     by_cases c5 : 0 ≤ x5_1; rotate_left
     · rw [if_neg c5] at H; exact absurd H (by simp)
     rw [if_pos c5] at H
     have c5b0 := decide_eq_true c5
     clear c5
     by_cases c6 : x5_1 < (l1.length : Int); rotate_left
     · rw [if_neg c6] at H; exact absurd H (by simp)
     rw [if_pos c6] at H
     have c6b0 := decide_eq_true c6
     clear c6
     by_cases c7 : (rd l0 x5_1) = (rd l1 x5_1)
     ·
      rw [if_pos c7] at H
      have c7b0 : ((rd l0 x5_1) == (rd l1 x5_1)) = true := beq_iff_eq.mpr c7
      have c7b1 : ((rd l0 x5_1) != (rd l1 x5_1)) = false := bne_eq_false_iff_eq.mpr c7
      clear c7
      have H' := am H
      clear H
      have p146 : 0 ≤ (x5_1 : Int) := az
      have q146 : x5_1 < (l0.length : Int) := az
      obtain ⟨ad146, e146, hx146_0⟩ := Kd.at_int HR0.out x5_1 p146 q146
      cases e146
      replace p146 := eq_true p146
      replace q146 := eq_true q146
      have p147 : 0 ≤ (x5_1 : Int) := az
      have q147 : x5_1 < (l1.length : Int) := az
      obtain ⟨ad147, e147, hx147_0⟩ := Kd.at_int HR1.out x5_1 p147 q147
      cases e147
      replace p147 := eq_true p147
      replace q147 := eq_true q147
      go_wp2
      repeat (go_quiet (fail); try go_wp2)
      go_roundg k1
      case measure => have := HK1.out; omega
      case rel => exact ⟨(wrap64 (x5_1 + 1)), sz, H', ⟨by have := HK1.out; omega⟩, by repeat (first | exact Drawn0.refl _ | apply Drawn0.step)⟩
     ·
      rw [if_neg c7] at H
      have c7b0 : ((rd l0 x5_1) == (rd l1 x5_1)) = false := beq_eq_false_iff_ne.mpr c7
      have c7b1 : ((rd l0 x5_1) != (rd l1 x5_1)) = true := bne_iff_ne.mpr c7
      obtain rfl := Option.some.inj H
      have p146 : 0 ≤ (x5_1 : Int) := az
      have q146 : x5_1 < (l0.length : Int) := az
      obtain ⟨ad146, e146, hx146_0⟩ := Kd.at_int HR0.out x5_1 p146 q146
      cases e146
      replace p146 := eq_true p146
      replace q146 := eq_true q146
      have p147 : 0 ≤ (x5_1 : Int) := az
      have q147 : x5_1 < (l1.length : Int) := az
      obtain ⟨ad147, e147, hx147_0⟩ := Kd.at_int HR1.out x5_1 p147 q147
      cases e147
      replace p147 := eq_true p147
      replace q147 := eq_true q147
      go_wp2
      repeat (go_quiet (fail); try go_wp2)
      go_ret
      exact ⟨by first | rfl | (simp; done) | (simp [*]; done), by repeat (first | exact Drawn0.refl _ | apply Drawn0.step)⟩
    ·
     rw [if_neg c4] at H
     have c4b0 := decide_eq_false c4
     clear c4
     obtain rfl := Option.some.inj H
     go_wp2
     repeat (go_quiet (fail); try go_wp2)
     go_ret
     exact ⟨by first | rfl | (simp; done) | (simp [*]; done), by repeat (first | exact Drawn0.refl _ | apply Drawn0.step)⟩
 ·
  rw [if_neg c3] at H
  have c3b0 : ((l0.length : Int) == (l1.length : Int)) = false := beq_eq_false_iff_ne.mpr c3
  have c3b1 : ((l0.length : Int) != (l1.length : Int)) = true := bne_iff_ne.mpr c3
  have c3b2 : (l0.length == l1.length) = false := by first | simpa using c3 | (simp at c3 ⊢; omega)
  obtain rfl := Option.some.inj H
  go_enter Try.func14, Try.ntmps14
  go_wp2
  repeat (go_quiet (fail); try go_wp2)
  go_ret
  exact ⟨by first | rfl | (simp; done) | (simp [*]; done), by repeat (first | exact Drawn0.refl _ | apply Drawn0.step)⟩

end Go.Proofs.Ytmdmajfgpmopbaa.X

namespace Go.Proofs.Ytmdmajfgpmopbaa.X
open Go.RowKit YtmdmajfgpmopbaaW.PrintWords YtmdmajfgpmopbaaW.PrintLast YtmdmajfgpmopbaaW.PrintMore
attribute [local go_sem] max2_int min2_int max_two min_two max_three min_three max_four min_four
set_option linter.unusedVariables false
set_option linter.unusedSimpArgs false

/-! ### floor_Box: function 15 -/
def floor_Box.l0 : Nat → List (S53) → Int → Int → Int → Int → Int → Int → Option (Int × Int × Int × Int × Int)
 | 0, _, _, _, _, _, _, _ => none
 | k + 1, x28, x29, x30, x155000, x155001, x156000, x156001 => if x30 < x29 then (if 0 ≤ x30 then (if x30 < (x28.length : Int) then (floor_Box.l0 k x28 x29 (wrap64 (x30 + 1)) (mn x155000 ((rd_T53 x28 x30).f0.f0)) (mn x155001 ((rd_T53 x28 x30).f0.f1)) (mx x156000 ((rd_T53 x28 x30).f0.f0)) (mx x156001 ((rd_T53 x28 x30).f0.f1))) else (none)) else (none)) else (some (x155000, x155001, x156000, x156001, 0))
def floor_Box.f (k : Nat) (l0_0 : List (S53)) (l0_1 : List Int) : Option (Int × Int × Int × Int × Int) := (movement_Check.f k l0_0 l0_1).bind fun t151 => (if t151 = 0 then (if 0 < (l0_0.length : Int) then (floor_Box.l0 k l0_0 (l0_0.length : Int) 0 ((rd_T53 l0_0 0).f0.f0) ((rd_T53 l0_0 0).f0.f1) ((rd_T53 l0_0 0).f0.f0) ((rd_T53 l0_0 0).f0.f1)) else (none)) else (some (0, 0, 0, 0, t151)))
theorem floor_Box.mono_l : ∀ k, (∀ y0 y1 y2 y3 y4 y5 y6, LeO (floor_Box.l0 k y0 y1 y2 y3 y4 y5 y6) (floor_Box.l0 (k + 1) y0 y1 y2 y3 y4 y5 y6))
 | 0 => fun _ _ _ _ _ _ _ r h => by simp [floor_Box.l0] at h
 | k + 1 => by
  have ih0 := floor_Box.mono_l k
  ·
   intro y0 y1 y2 y3 y4 y5 y6
   unfold floor_Box.l0
   repeat' first
   | (with_reducible exact ih0 _ _ _ _ _ _ _)
   | (with_reducible exact movement_Check.mono _ _ _)
   | (with_reducible exact LeO.refl _)
   | (with_reducible exact LeO.none _)
   | (with_reducible refine LeO.ite ?_ ?_)
   | (with_reducible refine LeO.bind ?_ (fun _ => ?_))
   | exact ih0 _ _ _ _ _ _ _
   | exact movement_Check.mono _ _ _
   | exact LeO.none _
   | refine LeO.ite ?_ ?_
   | refine LeO.bind ?_ (fun _ => ?_)
theorem floor_Box.mono : ∀ a0 a1 k, LeO (floor_Box.f k a0 a1) (floor_Box.f (k + 1) a0 a1) := by
 intro a0 a1 k
 have ih0 := floor_Box.mono_l k
 unfold floor_Box.f
 repeat' first
   | (with_reducible exact ih0 _ _ _ _ _ _ _)
   | (with_reducible exact movement_Check.mono _ _ _)
   | (with_reducible exact LeO.refl _)
   | (with_reducible exact LeO.none _)
   | (with_reducible refine LeO.ite ?_ ?_)
   | (with_reducible refine LeO.bind ?_ (fun _ => ?_))
   | exact ih0 _ _ _ _ _ _ _
   | exact movement_Check.mono _ _ _
   | exact LeO.none _
   | refine LeO.ite ?_ ?_
   | refine LeO.bind ?_ (fun _ => ?_)
def floor_Box.T4 : Bool × List (List Nat × List Nat) := (true, [([], []), ([0], [0]), ([1], [1]), ([2], [2]), ([3], [3]), ([], []), ([5], [5]), ([6], [6]), ([7], [7]), ([8], [8]), ([], []), ([], []), ([10, 4, 0, 1, 2, 3, 4, 10, 11], [4, 10]), ([11, 9, 12, 0, 1, 2, 3, 4, 5, 6, 7, 8, 9, 10, 11, 12], [9, 11])])
def floor_Box.B4 : List Nat := [0, 1, 3, 7, 15, 0, 32, 96, 224, 480, 0, 0, 3103, 8191]
theorem floor_Box.tab4 : rtab .any (opsOf Try.f15 4) = floor_Box.T4 := by kernel_rfl
theorem floor_Box.bits4 : waitsOk floor_Box.T4.2 floor_Box.B4 = true := by kernel_rfl
set_option maxHeartbeats 8000000 in
set_option maxRecDepth 100000 in
theorem floor_Box.calls (k : Nat) (A0_0 : Option Addr) (c0_0 : Nat) (l0_0 : List (S53)) (A0_1 : Option Addr) (c0_1 : Nat) (l0_1 : List Int) (r1 r2 r3 r4 r5 : Int) (w : World) (hr0_0 : Kd.C k53 w A0_0 l0_0.length l0_0) (hc0_0 : l0_0.length ≤ c0_0) (hr0_1 : Kd.C (Kd.int .i64) w A0_1 l0_1.length l0_1) (hc0_1 : l0_1.length ≤ c0_1) (h : floor_Box.f k l0_0 l0_1 = some (r1, r2, r3, r4, r5)) :
  Calls Try.prog 15 #[.agg #[.slice A0_0 l0_0.length c0_0, .slice A0_1 l0_1.length c0_1]] w fun e w' => e = .returned (.tuple #[.agg #[.int .i64 r1, .int .i64 r2], .agg #[.int .i64 r3, .int .i64 r4], .int .i64 r5]) ∧ Below w.heap.size w w' := by
 have hu25 := Try.underlying25
 have hu35 := Try.underlying35
 have hu53 := Try.underlying53
 have HR0_0 := am hr0_0
 have HC0_0 := am hc0_0
 clear hr0_0 hc0_0
 have HR0_1 := am hr0_1
 have HC0_1 := am hc0_1
 clear hr0_1 hc0_1
 have HB := am (Below.refl w.heap.size w)
 have H : ((movement_Check.f k l0_0 l0_1).bind fun t151 => (if t151 = 0 then (if 0 < (l0_0.length : Int) then (floor_Box.l0 k l0_0 (l0_0.length : Int) 0 ((rd_T53 l0_0 0).f0.f0) ((rd_T53 l0_0 0).f0.f1) ((rd_T53 l0_0 0).f0.f0) ((rd_T53 l0_0 0).f0.f1)) else (none)) else (some (0, 0, 0, 0, t151)))) = some (r1, r2, r3, r4, r5) := h
 clear h
 replace H := Option.bind_eq_some_iff.mp H
 obtain ⟨t151, A20, H⟩ := H
 replace H : (if t151 = 0 then (if 0 < (l0_0.length : Int) then (floor_Box.l0 k l0_0 (l0_0.length : Int) 0 ((rd_T53 l0_0 0).f0.f0) ((rd_T53 l0_0 0).f0.f1) ((rd_T53 l0_0 0).f0.f0) ((rd_T53 l0_0 0).f0.f1)) else (none)) else (some (0, 0, 0, 0, t151))) = some (r1, r2, r3, r4, r5) := H
 have A2 := am A20
 clear A20
 by_cases c3 : t151 = 0
 ·
  rw [if_pos c3] at H
  have c3b0 : (t151 == 0) = true := beq_iff_eq.mpr c3
  have c3b1 : (t151 != 0) = false := bne_eq_false_iff_eq.mpr c3
  clear c3
  by_cases c4 : 0 < (l0_0.length : Int); rotate_left
  · rw [if_neg c4] at H; exact absurd H (by simp)
  rw [if_pos c4] at H
  have c4b0 := decide_eq_true c4
  have c4b1 : decide (0 < l0_0.length) = true := decide_eq_true (by omega)
  clear c4
  have H' := am H
  clear H
  go_enter Try.func15, Try.ntmps15
  try go_wp2_with (first | ((with_reducible refine gate_dst (N := 1) rfl ?_); refine box_event yz (N := 1) yz (cs := #[.slice A0_0 l0_0.length c0_0, .slice A0_1 l0_1.length c0_1]) (t := 25) gz ?_; intro gb148 hg w5 hbox hb; have BK148 := am (hbox); have GW148 := gwz (g := gb148) HB hg; have GE148 := GW148; replace HB := am (below_step bz hb); clear hb hbox hg) | ((with_reducible refine gate_dst (N := 2) rfl ?_); refine box_event yz (N := 2) yz (cs := #[.int .i64 0, .int .i64 0]) (t := 35) gz ?_; intro gb149 hg w6 hbox hb; have BK149 := am (hbox); have GW149 := gwz (g := gb149) HB hg; have GE149 := GW149; replace HB := am (below_step bz hb); have NB148_149 := nlt (g' := gb149) BK148 hg; have NB149_148 := ngt (g' := gb149) BK148 hg; replace BK148 := am (blk_below (o := .cells #[.slice A0_0 l0_0.length c0_0, .slice A0_1 l0_1.length c0_1] 25 (0, 0)) (kz BK148) hb); clear hb hbox hg) | ((with_reducible refine gate_dst (N := 3) rfl ?_); refine box_event yz (N := 3) yz (cs := #[.int .i64 0, .int .i64 0]) (t := 35) gz ?_; intro gb150 hg w7 hbox hb; have BK150 := am (hbox); have GW150 := gwz (g := gb150) HB hg; have GE150 := GW150; replace HB := am (below_step bz hb); have NB148_150 := nlt (g' := gb150) BK148 hg; have NB150_148 := ngt (g' := gb150) BK148 hg; replace BK148 := am (blk_below (o := .cells #[.slice A0_0 l0_0.length c0_0, .slice A0_1 l0_1.length c0_1] 25 (0, 0)) (kz BK148) hb); have NB149_150 := nlt (g' := gb150) BK149 hg; have NB150_149 := ngt (g' := gb150) BK149 hg; replace BK149 := am (blk_below (o := .cells #[.int .i64 0, .int .i64 0] 35 (0, 0)) (kz BK149) hb); clear hb hbox hg; have hnb8 := NB148_149.out; have hnc8 := NB149_148.out; have hnb9 := NB148_150.out; have hnc9 := NB150_148.out; obtain ⟨hcz10_0, hcz10_1, hfz10_0, hfz10_1⟩ := kc2 BK148.out) | ((with_reducible refine gate_callee (f := 21) rfl ?_); refine goesL_ (some 11) rfl rfl Try.func21 qz rfl #[.agg #[.slice A0_0 l0_0.length c0_0, .slice A0_1 l0_1.length c0_1]] rfl mz ?_; (with_reducible refine (movement_Check.calls k _ _ l0_0 _ _ l0_1 t151 _ ?side1 ?side2 ?side3 ?side4 A2.out).mono ?_); (case side1 => exact cz HR0_0); (case side2 => exact HC0_0.out); (case side3 => exact cz HR0_1); (case side4 => exact HC0_1.out); rintro e w11 ⟨rfl, hb⟩; refine ⟨_, rfl, ?_⟩; replace BK148 := am (blk_below (o := .cells #[.slice A0_0 l0_0.length c0_0, .slice A0_1 l0_1.length c0_1] 25 (0, 0)) (kz BK148) hb); replace BK149 := am (blk_below (o := .cells #[.int .i64 0, .int .i64 0] 35 (0, 0)) (kz BK149) hb); replace BK150 := am (blk_below (o := .cells #[.int .i64 0, .int .i64 0] 35 (0, 0)) (kz BK150) hb); replace HB := am (below_step bz hb); (try clear hb); (try clear hb2); (try clear hk); (try clear hi)))
  have n0_ := am (blk_drew BK148.out)
  have n1_ := am (blk_drew BK149.out)
  have n2_ := am (blk_drew BK150.out)
  have n3_ := am (below_drew1 HB.out)
  clear BK148
  clear BK149
  clear BK150
  clear HB
  have BK148 := n0_
  have BK149 := n1_
  have BK150 := n2_
  have HB := n3_
  clear n0_ n1_ n2_ n3_
  have p152 : 0 ≤ (0 : Int) := (by omega)
  have q152 : 0 < (l0_0.length : Int) := az
  obtain ⟨ad152, e152, hx152_0, hx152_1, _, _, _, _, _, _, _, _, _, _, _, _, _, _, _, _, _, _, _, _⟩ := at_T53 HR0_0.out 0 p152 q152
  have hw152_1 := hx152_1
  (try rw [show ((0 : Int)).toNat = 0 from rfl] at hw152_1)
  (try rw [show 0 * 22 = 0 from rfl] at hw152_1)
  (try rw [Addr.add_zero'] at hw152_1)
  have hw152_0 := hx152_0
  (try rw [show ((0 : Int)).toNat = 0 from rfl] at hw152_0)
  (try rw [show 0 * 22 = 0 from rfl] at hw152_0)
  (try rw [Addr.add_zero'] at hw152_0)
  cases e152
  have qi152 : (0 < l0_0.length) = True := eq_true (by omega)
  (try rw [show ((0 : Int)).toNat = 0 from rfl] at hx152_0)
  (try rw [show 0 * 22 = 0 from rfl] at hx152_0)
  (try rw [Addr.add_zero'] at hx152_0)
  (try rw [show ((0 : Int)).toNat = 0 from rfl] at hx152_1)
  (try rw [show 0 * 22 = 0 from rfl] at hx152_1)
  (try rw [Addr.add_zero'] at hx152_1)
  replace hx152_0 := cb HB.out hx152_0
  replace hx152_1 := cb HB.out hx152_1
  replace p152 := eq_true p152
  replace q152 := eq_true q152
  have p153 : 0 ≤ (0 : Int) := (by omega)
  have q153 : 0 < (l0_0.length : Int) := az
  obtain ⟨ad153, e153, hx153_0, hx153_1, _, _, _, _, _, _, _, _, _, _, _, _, _, _, _, _, _, _, _, _⟩ := at_T53 HR0_0.out 0 p153 q153
  have hw153_1 := hx153_1
  (try rw [show ((0 : Int)).toNat = 0 from rfl] at hw153_1)
  (try rw [show 0 * 22 = 0 from rfl] at hw153_1)
  (try rw [Addr.add_zero'] at hw153_1)
  have hw153_0 := hx153_0
  (try rw [show ((0 : Int)).toNat = 0 from rfl] at hw153_0)
  (try rw [show 0 * 22 = 0 from rfl] at hw153_0)
  (try rw [Addr.add_zero'] at hw153_0)
  obtain rfl : ad152 = ad153 := (by injection e153)
  have qi153 : (0 < l0_0.length) = True := eq_true (by omega)
  (try rw [show ((0 : Int)).toNat = 0 from rfl] at hx153_0)
  (try rw [show 0 * 22 = 0 from rfl] at hx153_0)
  (try rw [Addr.add_zero'] at hx153_0)
  (try rw [show ((0 : Int)).toNat = 0 from rfl] at hx153_1)
  (try rw [show 0 * 22 = 0 from rfl] at hx153_1)
  (try rw [Addr.add_zero'] at hx153_1)
  replace hx153_0 := cb HB.out hx153_0
  replace hx153_1 := cb HB.out hx153_1
  replace p153 := eq_true p153
  replace q153 := eq_true q153
  refine start_ (n := 14) (S := fun w' => w'.cell? ⟨gb148, 0, none⟩ = some (.slice (some ad152) l0_0.length c0_0) ∧ w'.cell? ⟨gb148, 1, none⟩ = some (.slice A0_1 l0_1.length c0_1) ∧ w'.cell? ad152 = some (.int .i64 ((rd_T53 l0_0 0).f0.f0)) ∧ w'.cell? ⟨ad152.block, ad152.off + 1, none⟩ = some (.int .i64 ((rd_T53 l0_0 0).f0.f1)) ∧ w'.cell? ad152 = some (.int .i64 ((rd_T53 l0_0 0).f0.f0)) ∧ w'.cell? ⟨ad152.block, ad152.off + 1, none⟩ = some (.int .i64 ((rd_T53 l0_0 0).f0.f1))) (ds := []) (bm 14 0) qz rfl rfl ⟨(blk_cell BK148.out 0).trans rfl, (blk_cell BK148.out 1).trans rfl, (cb HB.out hw152_0), (cb HB.out hw152_1), (cb HB.out hw153_0), (cb HB.out hw153_1)⟩ (fun hHeld => ?_); refine with_tabW floor_Box.tab4 floor_Box.bits4 (fun HT_ HW_ => ?_)
  generalize w11.drew = w12 at BK148 BK149 BK150 HB hx152_0 hx152_1 hx153_0 hx153_1 hHeld ⊢
  refine pa (i := 0) (N := some 17) (bm 14 1) HT_ ?_
  refine pa (i := 5) (N := some 22) (bm 14 33) HT_ ?_
  refine take_ (i := 1) (N := some 18) (v := ?_) (a' := ?_) (bm 14 35) rfl rfl (take_ofW HT_.out HW_.out qz) iz (Or.inl ⟨by rfl, ?_⟩) hHeld ?_ ?_
  rotate_left
  ·
   rintro w' ⟨s0, s1, s2, s3, s4, s5⟩
   go_simp
   with_reducible rfl
  rotate_left
  ·
   simp only [Act.put, aS, lZ, lS, i64_w, i32_w]
   rfl
  refine pa (i := 2) (N := some 19) (bm 14 39) HT_ ?_
  refine pa (i := 3) (N := some 20) (bm 14 47) HT_ ?_
  refine take_ (i := 4) (N := some 21) (v := ?_) (a' := ?_) (bm 14 63) rfl rfl (take_ofW HT_.out HW_.out qz) iz (Or.inl ⟨by rfl, ?_⟩) hHeld ?_ ?_
  rotate_left
  ·
   rintro w' ⟨s0, s1, s2, s3, s4, s5⟩
   go_simp
   with_reducible rfl
  rotate_left
  ·
   simp only [Act.put, aS, lZ, lS, i64_w, i32_w]
   rfl
  refine take_ (i := 6) (N := some 23) (v := ?_) (a' := ?_) (bm 14 127) rfl rfl (take_ofW HT_.out HW_.out qz) iz (Or.inl ⟨by rfl, ?_⟩) hHeld ?_ ?_
  rotate_left
  ·
   rintro w' ⟨s0, s1, s2, s3, s4, s5⟩
   go_simp
   with_reducible rfl
  rotate_left
  ·
   simp only [Act.put, aS, lZ, lS, i64_w, i32_w]
   rfl
  refine pa (i := 7) (N := some 24) (bm 14 255) HT_ ?_
  refine pa (i := 8) (N := some 25) (bm 14 511) HT_ ?_
  refine take_ (i := 9) (N := some 26) (v := ?_) (a' := ?_) (bm 14 1023) rfl rfl (take_ofW HT_.out HW_.out qz) iz (Or.inl ⟨by rfl, ?_⟩) hHeld ?_ ?_
  rotate_left
  ·
   rintro w' ⟨s0, s1, s2, s3, s4, s5⟩
   go_simp
   with_reducible rfl
  rotate_left
  ·
   simp only [Act.put, aS, lZ, lS, i64_w, i32_w]
   rfl
  refine join_ (σ := Nat × Nat) 2 (bm 14 4095) (fun s_ => [(6, .pointer (some ⟨s_.1, 0, none⟩)), (7, .pointer (some ⟨s_.2, 0, none⟩))]) (fun s_ w' => (w'.cell? ⟨gb148, 0, none⟩ = some (.slice (some ad152) l0_0.length c0_0) ∧ w'.cell? ⟨gb148, 1, none⟩ = some (.slice A0_1 l0_1.length c0_1) ∧ w'.cell? ad152 = some (.int .i64 ((rd_T53 l0_0 0).f0.f0)) ∧ w'.cell? ⟨ad152.block, ad152.off + 1, none⟩ = some (.int .i64 ((rd_T53 l0_0 0).f0.f1)) ∧ w'.cell? ad152 = some (.int .i64 ((rd_T53 l0_0 0).f0.f0)) ∧ w'.cell? ⟨ad152.block, ad152.off + 1, none⟩ = some (.int .i64 ((rd_T53 l0_0 0).f0.f1))) ∧ (w'.heap[gb148]? = some (.cells #[.slice (some ad152) l0_0.length c0_0, .slice A0_1 l0_1.length c0_1] 25 (0, 0))) ∧ (w'.heap[gb149]? = some (.cells #[.int .i64 0, .int .i64 0] 35 (0, 0))) ∧ (w'.heap[gb150]? = some (.cells #[.int .i64 0, .int .i64 0] 35 (0, 0))) ∧ (w'.heap[s_.1]? = some (.cells #[.int .i64 0, .int .i64 0] 35 (0, 0))) ∧ (w'.heap[s_.2]? = some (.cells #[.int .i64 0, .int .i64 0] 35 (0, 0))) ∧ (w.heap.size ≤ s_.1) ∧ (w.heap.size ≤ s_.1) ∧ (gb148 ≠ s_.1) ∧ (s_.1 ≠ gb148) ∧ (gb149 ≠ s_.1) ∧ (s_.1 ≠ gb149) ∧ (gb150 ≠ s_.1) ∧ (s_.1 ≠ gb150) ∧ (s_.2 ≠ s_.1) ∧ (s_.1 ≠ s_.2) ∧ (w.heap.size ≤ s_.2) ∧ (w.heap.size ≤ s_.2) ∧ (gb148 ≠ s_.2) ∧ (s_.2 ≠ gb148) ∧ (gb149 ≠ s_.2) ∧ (s_.2 ≠ gb149) ∧ (gb150 ≠ s_.2) ∧ (s_.2 ≠ gb150) ∧ (Below w.heap.size w w')) ?_ ?_
  rotate_left
  ·
   intro hCont
   refine two_ (i := 10) (j := 11) (Ni := some 6) (Nj := some 7) (bm 14 2047) (bm 14 3071) rfl rfl rfl rfl (two_of HT_.out qz) (by decide) (by decide) (fun K hK => ?_) (fun K hK => ?_)
   ·
    skip
    refine box_step ?hg (N := 6) ?hd (cs := #[.int .i64 0, .int .i64 0]) (t := 35) ?hr ?_; (case hd => rfl); (case hg => rfl); (case hr => first | (go_simp; done) | (go_simp; rfl))
    intro gb154 hg w13 hbox hb
    have n0_ := am (blk_below (o := .cells #[.slice (some ad152) l0_0.length c0_0, .slice A0_1 l0_1.length c0_1] 25 (0, 0)) (kz BK148) hb)
    have n1_ := am (blk_below (o := .cells #[.int .i64 0, .int .i64 0] 35 (0, 0)) (kz BK149) hb)
    have n2_ := am (blk_below (o := .cells #[.int .i64 0, .int .i64 0] 35 (0, 0)) (kz BK150) hb)
    have n3_ := am (below_step bz hb)
    have n4_ := am (hbox)
    have n5_ := gwz (g := gb154) HB hg
    have n6_ := gwz (g := gb154) HB hg
    have n7_ := nlt (g' := gb154) BK148 hg
    have n8_ := ngt (g' := gb154) BK148 hg
    have n9_ := nlt (g' := gb154) BK149 hg
    have n10_ := ngt (g' := gb154) BK149 hg
    have n11_ := nlt (g' := gb154) BK150 hg
    have n12_ := ngt (g' := gb154) BK150 hg
    clear BK148
    clear BK149
    clear BK150
    clear HB
    have BK148 := n0_
    have BK149 := n1_
    have BK150 := n2_
    have HB := n3_
    have BK154 := n4_
    have GW154 := n5_
    have GE154 := n6_
    have NB148_154 := n7_
    have NB154_148 := n8_
    have NB149_154 := n9_
    have NB154_149 := n10_
    have NB150_154 := n11_
    have NB154_150 := n12_
    clear n0_ n1_ n2_ n3_ n4_ n5_ n6_ n7_ n8_ n9_ n10_ n11_ n12_
    clear hb hbox hg
    refine hK.out _ _ ⟨(blk_cell BK148.out 0).trans rfl, (blk_cell BK148.out 1).trans rfl, (cb HB.out hw152_0), (cb HB.out hw152_1), (cb HB.out hw153_0), (cb HB.out hw153_1)⟩ (fun hHeld => ?_)
    clear hK K
    refine norm_ (a' := ?_) ?_ ?_
    rotate_left
    ·
     show Act.put _ (some 6) _ = _
     simp only [Act.put, aS, lZ, lS, i64_w, i32_w]
     rfl
    refine one_ (i := 11) (N := some 7) (bm 14 4095) rfl rfl (one_of HT_.out qz) (by decide) (fun K hK => ?_)
    refine box_step ?hg (N := 7) ?hd (cs := #[.int .i64 0, .int .i64 0]) (t := 35) ?hr ?_; (case hd => rfl); (case hg => rfl); (case hr => first | (go_simp; done) | (go_simp; rfl))
    intro gb155 hg w14 hbox hb
    have n0_ := am (blk_below (o := .cells #[.slice (some ad152) l0_0.length c0_0, .slice A0_1 l0_1.length c0_1] 25 (0, 0)) (kz BK148) hb)
    have n1_ := am (blk_below (o := .cells #[.int .i64 0, .int .i64 0] 35 (0, 0)) (kz BK149) hb)
    have n2_ := am (blk_below (o := .cells #[.int .i64 0, .int .i64 0] 35 (0, 0)) (kz BK150) hb)
    have n3_ := am (blk_below (o := .cells #[.int .i64 0, .int .i64 0] 35 (0, 0)) (kz BK154) hb)
    have n4_ := am (below_step bz hb)
    have n5_ := am (hbox)
    have n6_ := gwz (g := gb155) HB hg
    have n7_ := gwz (g := gb155) HB hg
    have n8_ := nlt (g' := gb155) BK148 hg
    have n9_ := ngt (g' := gb155) BK148 hg
    have n10_ := nlt (g' := gb155) BK149 hg
    have n11_ := ngt (g' := gb155) BK149 hg
    have n12_ := nlt (g' := gb155) BK150 hg
    have n13_ := ngt (g' := gb155) BK150 hg
    have n14_ := nlt (g' := gb155) BK154 hg
    have n15_ := ngt (g' := gb155) BK154 hg
    clear BK148
    clear BK149
    clear BK150
    clear BK154
    clear HB
    have BK148 := n0_
    have BK149 := n1_
    have BK150 := n2_
    have BK154 := n3_
    have HB := n4_
    have BK155 := n5_
    have GW155 := n6_
    have GE155 := n7_
    have NB148_155 := n8_
    have NB155_148 := n9_
    have NB149_155 := n10_
    have NB155_149 := n11_
    have NB150_155 := n12_
    have NB155_150 := n13_
    have NB154_155 := n14_
    have NB155_154 := n15_
    clear n0_ n1_ n2_ n3_ n4_ n5_ n6_ n7_ n8_ n9_ n10_ n11_ n12_ n13_ n14_ n15_
    clear hb hbox hg
    refine hK.out _ _ ⟨(blk_cell BK148.out 0).trans rfl, (blk_cell BK148.out 1).trans rfl, (cb HB.out hw152_0), (cb HB.out hw152_1), (cb HB.out hw153_0), (cb HB.out hw153_1)⟩ (fun hHeld => ?_)
    clear hK K
    refine norm_ (a' := ?_) ?_ ?_
    rotate_left
    ·
     show Act.put _ (some 7) _ = _
     simp only [Act.put, aS, lZ, lS, i64_w, i32_w]
     rfl
    exact norm_ (by simp only [putAll, Act.put, List.setIfInBounds_toArray, List.set_cons_zero, List.set_cons_succ]) (hCont (gb154, gb155) _ ⟨hHeld, (kz BK148), (kz BK149), (kz BK150), (kz BK154), (kz BK155), GW154.out, GE154.out, NB148_154.out, NB154_148.out, NB149_154.out, NB154_149.out, NB150_154.out, NB154_150.out, NB155_154.out, NB154_155.out, GW155.out, GE155.out, NB148_155.out, NB155_148.out, NB149_155.out, NB155_149.out, NB150_155.out, NB155_150.out, bz⟩)
   ·
    skip
    refine box_step ?hg (N := 7) ?hd (cs := #[.int .i64 0, .int .i64 0]) (t := 35) ?hr ?_; (case hd => rfl); (case hg => rfl); (case hr => first | (go_simp; done) | (go_simp; rfl))
    intro gb155 hg w13 hbox hb
    have n0_ := am (blk_below (o := .cells #[.slice (some ad152) l0_0.length c0_0, .slice A0_1 l0_1.length c0_1] 25 (0, 0)) (kz BK148) hb)
    have n1_ := am (blk_below (o := .cells #[.int .i64 0, .int .i64 0] 35 (0, 0)) (kz BK149) hb)
    have n2_ := am (blk_below (o := .cells #[.int .i64 0, .int .i64 0] 35 (0, 0)) (kz BK150) hb)
    have n3_ := am (below_step bz hb)
    have n4_ := am (hbox)
    have n5_ := gwz (g := gb155) HB hg
    have n6_ := gwz (g := gb155) HB hg
    have n7_ := nlt (g' := gb155) BK148 hg
    have n8_ := ngt (g' := gb155) BK148 hg
    have n9_ := nlt (g' := gb155) BK149 hg
    have n10_ := ngt (g' := gb155) BK149 hg
    have n11_ := nlt (g' := gb155) BK150 hg
    have n12_ := ngt (g' := gb155) BK150 hg
    clear BK148
    clear BK149
    clear BK150
    clear HB
    have BK148 := n0_
    have BK149 := n1_
    have BK150 := n2_
    have HB := n3_
    have BK155 := n4_
    have GW155 := n5_
    have GE155 := n6_
    have NB148_155 := n7_
    have NB155_148 := n8_
    have NB149_155 := n9_
    have NB155_149 := n10_
    have NB150_155 := n11_
    have NB155_150 := n12_
    clear n0_ n1_ n2_ n3_ n4_ n5_ n6_ n7_ n8_ n9_ n10_ n11_ n12_
    clear hb hbox hg
    refine hK.out _ _ ⟨(blk_cell BK148.out 0).trans rfl, (blk_cell BK148.out 1).trans rfl, (cb HB.out hw152_0), (cb HB.out hw152_1), (cb HB.out hw153_0), (cb HB.out hw153_1)⟩ (fun hHeld => ?_)
    clear hK K
    refine norm_ (a' := ?_) ?_ ?_
    rotate_left
    ·
     show Act.put _ (some 7) _ = _
     simp only [Act.put, aS, lZ, lS, i64_w, i32_w]
     rfl
    refine one_ (i := 10) (N := some 6) (bm 14 4095) rfl rfl (one_of HT_.out qz) (by decide) (fun K hK => ?_)
    refine box_step ?hg (N := 6) ?hd (cs := #[.int .i64 0, .int .i64 0]) (t := 35) ?hr ?_; (case hd => rfl); (case hg => rfl); (case hr => first | (go_simp; done) | (go_simp; rfl))
    intro gb154 hg w14 hbox hb
    have n0_ := am (blk_below (o := .cells #[.slice (some ad152) l0_0.length c0_0, .slice A0_1 l0_1.length c0_1] 25 (0, 0)) (kz BK148) hb)
    have n1_ := am (blk_below (o := .cells #[.int .i64 0, .int .i64 0] 35 (0, 0)) (kz BK149) hb)
    have n2_ := am (blk_below (o := .cells #[.int .i64 0, .int .i64 0] 35 (0, 0)) (kz BK150) hb)
    have n3_ := am (blk_below (o := .cells #[.int .i64 0, .int .i64 0] 35 (0, 0)) (kz BK155) hb)
    have n4_ := am (below_step bz hb)
    have n5_ := am (hbox)
    have n6_ := gwz (g := gb154) HB hg
    have n7_ := gwz (g := gb154) HB hg
    have n8_ := nlt (g' := gb154) BK148 hg
    have n9_ := ngt (g' := gb154) BK148 hg
    have n10_ := nlt (g' := gb154) BK149 hg
    have n11_ := ngt (g' := gb154) BK149 hg
    have n12_ := nlt (g' := gb154) BK150 hg
    have n13_ := ngt (g' := gb154) BK150 hg
    have n14_ := nlt (g' := gb154) BK155 hg
    have n15_ := ngt (g' := gb154) BK155 hg
    clear BK148
    clear BK149
    clear BK150
    clear BK155
    clear HB
    have BK148 := n0_
    have BK149 := n1_
    have BK150 := n2_
    have BK155 := n3_
    have HB := n4_
    have BK154 := n5_
    have GW154 := n6_
    have GE154 := n7_
    have NB148_154 := n8_
    have NB154_148 := n9_
    have NB149_154 := n10_
    have NB154_149 := n11_
    have NB150_154 := n12_
    have NB154_150 := n13_
    have NB155_154 := n14_
    have NB154_155 := n15_
    clear n0_ n1_ n2_ n3_ n4_ n5_ n6_ n7_ n8_ n9_ n10_ n11_ n12_ n13_ n14_ n15_
    clear hb hbox hg
    refine hK.out _ _ ⟨(blk_cell BK148.out 0).trans rfl, (blk_cell BK148.out 1).trans rfl, (cb HB.out hw152_0), (cb HB.out hw152_1), (cb HB.out hw153_0), (cb HB.out hw153_1)⟩ (fun hHeld => ?_)
    clear hK K
    refine norm_ (a' := ?_) ?_ ?_
    rotate_left
    ·
     show Act.put _ (some 6) _ = _
     simp only [Act.put, aS, lZ, lS, i64_w, i32_w]
     rfl
    exact norm_ (by simp only [putAll, Act.put, List.setIfInBounds_toArray, List.set_cons_zero, List.set_cons_succ]) (hCont (gb154, gb155) _ ⟨hHeld, (kz BK148), (kz BK149), (kz BK150), (kz BK154), (kz BK155), GW154.out, GE154.out, NB148_154.out, NB154_148.out, NB149_154.out, NB154_149.out, NB150_154.out, NB154_150.out, NB155_154.out, NB154_155.out, GW155.out, GE155.out, NB148_155.out, NB155_148.out, NB149_155.out, NB155_149.out, NB150_155.out, NB155_150.out, bz⟩)
  rintro ⟨gb154, gb155⟩ w15 ⟨hS_, h0_, h1_, h2_, h3_, h4_, h5_, h6_, h7_, h8_, h9_, h10_, h11_, h12_, h13_, h14_, h15_, h16_, h17_, h18_, h19_, h20_, h21_, h22_, h23_⟩
  have n0_ : Aside0 (w15.heap[gb148]? = some (.cells #[.slice (some ad152) l0_0.length c0_0, .slice A0_1 l0_1.length c0_1] 25 (0, 0))) := ⟨h0_⟩
  have n1_ : Aside0 (w15.heap[gb149]? = some (.cells #[.int .i64 0, .int .i64 0] 35 (0, 0))) := ⟨h1_⟩
  have n2_ : Aside0 (w15.heap[gb150]? = some (.cells #[.int .i64 0, .int .i64 0] 35 (0, 0))) := ⟨h2_⟩
  have n3_ : Aside0 (w15.heap[gb154]? = some (.cells #[.int .i64 0, .int .i64 0] 35 (0, 0))) := ⟨h3_⟩
  have n4_ : Aside0 (w15.heap[gb155]? = some (.cells #[.int .i64 0, .int .i64 0] 35 (0, 0))) := ⟨h4_⟩
  have n5_ : Aside0 (w.heap.size ≤ gb154) := ⟨h5_⟩
  have n6_ : Aside0 (w.heap.size ≤ gb154) := ⟨h6_⟩
  have n7_ : Aside0 (gb148 ≠ gb154) := ⟨h7_⟩
  have n8_ : Aside0 (gb154 ≠ gb148) := ⟨h8_⟩
  have n9_ : Aside0 (gb149 ≠ gb154) := ⟨h9_⟩
  have n10_ : Aside0 (gb154 ≠ gb149) := ⟨h10_⟩
  have n11_ : Aside0 (gb150 ≠ gb154) := ⟨h11_⟩
  have n12_ : Aside0 (gb154 ≠ gb150) := ⟨h12_⟩
  have n13_ : Aside0 (gb155 ≠ gb154) := ⟨h13_⟩
  have n14_ : Aside0 (gb154 ≠ gb155) := ⟨h14_⟩
  have n15_ : Aside0 (w.heap.size ≤ gb155) := ⟨h15_⟩
  have n16_ : Aside0 (w.heap.size ≤ gb155) := ⟨h16_⟩
  have n17_ : Aside0 (gb148 ≠ gb155) := ⟨h17_⟩
  have n18_ : Aside0 (gb155 ≠ gb148) := ⟨h18_⟩
  have n19_ : Aside0 (gb149 ≠ gb155) := ⟨h19_⟩
  have n20_ : Aside0 (gb155 ≠ gb149) := ⟨h20_⟩
  have n21_ : Aside0 (gb150 ≠ gb155) := ⟨h21_⟩
  have n22_ : Aside0 (gb155 ≠ gb150) := ⟨h22_⟩
  have n23_ : Aside0 (Below w.heap.size w w15) := ⟨h23_⟩
  clear BK148
  clear BK149
  clear BK150
  clear HB
  clear h0_ h1_ h2_ h3_ h4_ h5_ h6_ h7_ h8_ h9_ h10_ h11_ h12_ h13_ h14_ h15_ h16_ h17_ h18_ h19_ h20_ h21_ h22_ h23_
  have BK148 := n0_
  have BK149 := n1_
  have BK150 := n2_
  have BK154 := n3_
  have BK155 := n4_
  have GW154 := n5_
  have GE154 := n6_
  have NB148_154 := n7_
  have NB154_148 := n8_
  have NB149_154 := n9_
  have NB154_149 := n10_
  have NB150_154 := n11_
  have NB154_150 := n12_
  have NB155_154 := n13_
  have NB154_155 := n14_
  have GW155 := n15_
  have GE155 := n16_
  have NB148_155 := n17_
  have NB155_148 := n18_
  have NB149_155 := n19_
  have NB155_149 := n20_
  have NB150_155 := n21_
  have NB155_150 := n22_
  have HB := n23_
  clear n0_ n1_ n2_ n3_ n4_ n5_ n6_ n7_ n8_ n9_ n10_ n11_ n12_ n13_ n14_ n15_ n16_ n17_ n18_ n19_ n20_ n21_ n22_ n23_
  have hHeld : w15.cell? ⟨gb148, 0, none⟩ = some (.slice (some ad152) l0_0.length c0_0) ∧ w15.cell? ⟨gb148, 1, none⟩ = some (.slice A0_1 l0_1.length c0_1) ∧ w15.cell? ad152 = some (.int .i64 ((rd_T53 l0_0 0).f0.f0)) ∧ w15.cell? ⟨ad152.block, ad152.off + 1, none⟩ = some (.int .i64 ((rd_T53 l0_0 0).f0.f1)) ∧ w15.cell? ad152 = some (.int .i64 ((rd_T53 l0_0 0).f0.f0)) ∧ w15.cell? ⟨ad152.block, ad152.off + 1, none⟩ = some (.int .i64 ((rd_T53 l0_0 0).f0.f1)) := hS_
  refine norm_ (a' := ?_) ?_ ?_
  rotate_left
  ·
   simp only [putAll, Act.put, List.setIfInBounds_toArray, List.set_cons_zero, List.set_cons_succ]
   rfl
  refine one_ (i := 12) (N := none) (bm 14 8191) rfl rfl (one_of HT_.out qz) (by decide) (fun K hK => ?_)
  have hs16 : w15.cell? ⟨gb154, 0, none⟩ = some (.int .i64 0) := (blk_cell BK154.out 0).trans rfl
  have hfs16 := blk_frozen BK154.out 0
  have hns16_0 := NB148_154.out
  have hns16_1 := NB149_154.out
  have hns16_2 := NB150_154.out
  have hns16_4 := NB155_154.out
  have hms16_0 := NB154_148.out
  have hms16_1 := NB154_149.out
  have hms16_2 := NB154_150.out
  have hms16_4 := NB154_155.out
  have hs17 : w15.cell? ⟨gb154, 1, none⟩ = some (.int .i64 0) := (blk_cell BK154.out 1).trans rfl
  have hfs17 := blk_frozen BK154.out 1
  have hns17_0 := NB148_154.out
  have hns17_1 := NB149_154.out
  have hns17_2 := NB150_154.out
  have hns17_4 := NB155_154.out
  have hms17_0 := NB154_148.out
  have hms17_1 := NB154_149.out
  have hms17_2 := NB154_150.out
  have hms17_4 := NB154_155.out
  refine skip_ (w1 := ?_) (by rfl) rfl ?_ ?_
  rotate_left
  ·
   go_simp
   rfl
  refine hK.out _ _ ⟨((cell_far (p := ⟨gb154, _, none⟩) NB148_154.out _).trans (((cell_far (p := ⟨gb154, _, none⟩) NB148_154.out _).trans (hHeld.1)))), ((cell_far (p := ⟨gb154, _, none⟩) NB148_154.out _).trans (((cell_far (p := ⟨gb154, _, none⟩) NB148_154.out _).trans (hHeld.2.1)))), ((cell_far (p := ⟨gb154, _, none⟩) (by first | exact nb hw152_0 GW154.out | exact nc hw152_0 GW154.out | exact nd hw152_0 GW154.out) _).trans (((cell_far (p := ⟨gb154, _, none⟩) (by first | exact nb hw152_0 GW154.out | exact nc hw152_0 GW154.out | exact nd hw152_0 GW154.out) _).trans (hHeld.2.2.1)))), ((cell_far (p := ⟨gb154, _, none⟩) (by first | exact nb hw152_1 GW154.out | exact nc hw152_1 GW154.out | exact nd hw152_1 GW154.out) _).trans (((cell_far (p := ⟨gb154, _, none⟩) (by first | exact nb hw152_1 GW154.out | exact nc hw152_1 GW154.out | exact nd hw152_1 GW154.out) _).trans (hHeld.2.2.2.1)))), ((cell_far (p := ⟨gb154, _, none⟩) (by first | exact nb hw153_0 GW154.out | exact nc hw153_0 GW154.out | exact nd hw153_0 GW154.out) _).trans (((cell_far (p := ⟨gb154, _, none⟩) (by first | exact nb hw153_0 GW154.out | exact nc hw153_0 GW154.out | exact nd hw153_0 GW154.out) _).trans (hHeld.2.2.2.2.1)))), ((cell_far (p := ⟨gb154, _, none⟩) (by first | exact nb hw153_1 GW154.out | exact nc hw153_1 GW154.out | exact nd hw153_1 GW154.out) _).trans (((cell_far (p := ⟨gb154, _, none⟩) (by first | exact nb hw153_1 GW154.out | exact nc hw153_1 GW154.out | exact nd hw153_1 GW154.out) _).trans (hHeld.2.2.2.2.2))))⟩ (fun hHeld => ?_)
  clear hK K
  refine one_ (i := 13) (N := none) (bm 14 16383) rfl rfl (one_of HT_.out qz) (by decide) (fun K hK => ?_)
  have hs18 : w15.cell? ⟨gb155, 0, none⟩ = some (.int .i64 0) := (blk_cell BK155.out 0).trans rfl
  have hfs18 := blk_frozen BK155.out 0
  have hns18_0 := NB148_155.out
  have hns18_1 := NB149_155.out
  have hns18_2 := NB150_155.out
  have hns18_3 := NB154_155.out
  have hms18_0 := NB155_148.out
  have hms18_1 := NB155_149.out
  have hms18_2 := NB155_150.out
  have hms18_3 := NB155_154.out
  have hs19 : w15.cell? ⟨gb155, 1, none⟩ = some (.int .i64 0) := (blk_cell BK155.out 1).trans rfl
  have hfs19 := blk_frozen BK155.out 1
  have hns19_0 := NB148_155.out
  have hns19_1 := NB149_155.out
  have hns19_2 := NB150_155.out
  have hns19_3 := NB154_155.out
  have hms19_0 := NB155_148.out
  have hms19_1 := NB155_149.out
  have hms19_2 := NB155_150.out
  have hms19_3 := NB155_154.out
  refine skip_ (w1 := ?_) (by rfl) rfl ?_ ?_
  rotate_left
  ·
   go_simp
   rfl
  refine hK.out _ _ ⟨((cell_far (p := ⟨gb155, _, none⟩) NB148_155.out _).trans (((cell_far (p := ⟨gb155, _, none⟩) NB148_155.out _).trans (hHeld.1)))), ((cell_far (p := ⟨gb155, _, none⟩) NB148_155.out _).trans (((cell_far (p := ⟨gb155, _, none⟩) NB148_155.out _).trans (hHeld.2.1)))), ((cell_far (p := ⟨gb155, _, none⟩) (by first | exact nb hw152_0 GW155.out | exact nc hw152_0 GW155.out | exact nd hw152_0 GW155.out) _).trans (((cell_far (p := ⟨gb155, _, none⟩) (by first | exact nb hw152_0 GW155.out | exact nc hw152_0 GW155.out | exact nd hw152_0 GW155.out) _).trans (hHeld.2.2.1)))), ((cell_far (p := ⟨gb155, _, none⟩) (by first | exact nb hw152_1 GW155.out | exact nc hw152_1 GW155.out | exact nd hw152_1 GW155.out) _).trans (((cell_far (p := ⟨gb155, _, none⟩) (by first | exact nb hw152_1 GW155.out | exact nc hw152_1 GW155.out | exact nd hw152_1 GW155.out) _).trans (hHeld.2.2.2.1)))), ((cell_far (p := ⟨gb155, _, none⟩) (by first | exact nb hw153_0 GW155.out | exact nc hw153_0 GW155.out | exact nd hw153_0 GW155.out) _).trans (((cell_far (p := ⟨gb155, _, none⟩) (by first | exact nb hw153_0 GW155.out | exact nc hw153_0 GW155.out | exact nd hw153_0 GW155.out) _).trans (hHeld.2.2.2.2.1)))), ((cell_far (p := ⟨gb155, _, none⟩) (by first | exact nb hw153_1 GW155.out | exact nc hw153_1 GW155.out | exact nd hw153_1 GW155.out) _).trans (((cell_far (p := ⟨gb155, _, none⟩) (by first | exact nb hw153_1 GW155.out | exact nc hw153_1 GW155.out | exact nd hw153_1 GW155.out) _).trans (hHeld.2.2.2.2.2))))⟩ (fun hHeld => ?_)
  clear hK K
  refine done_ (done_of HT_.out qz) ?_
  have hnb20 := NB148_154.out
  have hnc20 := NB154_148.out
  have hnb21 := NB148_155.out
  have hnc21 := NB155_148.out
  obtain ⟨hcz22_0, hcz22_1, hfz22_0, hfz22_1⟩ := kc2 BK148.out
  try go_wp2
  go_loopg [30] k (fun kq v30 w' => ∃ (x30_1 x155000_1 x155001_1 x156000_1 x156001_1 : Int), v30 = .int .i64 x30_1 ∧ Aside0 (floor_Box.l0 kq l0_0 (l0_0.length : Int) x30_1 x155000_1 x155001_1 x156000_1 x156001_1 = some (r1, r2, r3, r4, r5)) ∧ Aside0 (kq ≤ k) ∧ Aside0 (w'.heap[gb148]? = some (.cells #[(.slice (some ad152) l0_0.length c0_0), (.slice A0_1 l0_1.length c0_1)] 25 (0, 0))) ∧ Aside0 (w'.heap[gb149]? = some (.cells #[.int .i64 0, .int .i64 0] 35 (0, 0))) ∧ Aside0 (w'.heap[gb150]? = some (.cells #[.int .i64 0, .int .i64 0] 35 (0, 0))) ∧ Aside0 (w'.heap[gb154]? = some (.cells #[.int .i64 x155000_1, .int .i64 x155001_1] 35 (0, 0))) ∧ Aside0 (w'.heap[gb155]? = some (.cells #[.int .i64 x156000_1, .int .i64 x156001_1] 35 (0, 0))) ∧ Aside0 (Below w.heap.size w w'))
  case atStart => exact ⟨(0), ((rd_T53 l0_0 0).f0.f0), ((rd_T53 l0_0 0).f0.f1), ((rd_T53 l0_0 0).f0.f0), ((rd_T53 l0_0 0).f0.f1), sz, H', ⟨Nat.le_refl _⟩, ⟨by (with_reducible repeat first | apply kN | apply kD | apply kA); refine blk_far ?_ NB148_155.out _; (with_reducible repeat first | apply kN | apply kD | apply kA); refine blk_far ?_ NB148_155.out _; (with_reducible repeat first | apply kN | apply kD | apply kA); refine blk_far ?_ NB148_154.out _; (with_reducible repeat first | apply kN | apply kD | apply kA); refine blk_far ?_ NB148_154.out _; (with_reducible repeat first | apply kN | apply kD | apply kA); exact BK148.out⟩, ⟨by (with_reducible repeat first | apply kN | apply kD | apply kA); refine blk_far ?_ NB149_155.out _; (with_reducible repeat first | apply kN | apply kD | apply kA); refine blk_far ?_ NB149_155.out _; (with_reducible repeat first | apply kN | apply kD | apply kA); refine blk_far ?_ NB149_154.out _; (with_reducible repeat first | apply kN | apply kD | apply kA); refine blk_far ?_ NB149_154.out _; (with_reducible repeat first | apply kN | apply kD | apply kA); exact BK149.out⟩, ⟨by (with_reducible repeat first | apply kN | apply kD | apply kA); refine blk_far ?_ NB150_155.out _; (with_reducible repeat first | apply kN | apply kD | apply kA); refine blk_far ?_ NB150_155.out _; (with_reducible repeat first | apply kN | apply kD | apply kA); refine blk_far ?_ NB150_154.out _; (with_reducible repeat first | apply kN | apply kD | apply kA); refine blk_far ?_ NB150_154.out _; (with_reducible repeat first | apply kN | apply kD | apply kA); exact BK150.out⟩, ⟨by (with_reducible repeat first | apply kN | apply kD | apply kA); refine blk_far ?_ NB154_155.out _; (with_reducible repeat first | apply kN | apply kD | apply kA); refine blk_far ?_ NB154_155.out _; (with_reducible repeat first | apply kN | apply kD | apply kA); refine blk_put (cs := #[.int .i64 ((rd_T53 l0_0 0).f0.f0), .int .i64 0]) ?_ 1 _ rfl; (with_reducible repeat first | apply kN | apply kD | apply kA); refine blk_put (cs := #[.int .i64 0, .int .i64 0]) ?_ 0 _ rfl; (with_reducible repeat first | apply kN | apply kD | apply kA); exact BK154.out⟩, ⟨by (with_reducible repeat first | apply kN | apply kD | apply kA); refine blk_put (cs := #[.int .i64 ((rd_T53 l0_0 0).f0.f0), .int .i64 0]) ?_ 1 _ rfl; (with_reducible repeat first | apply kN | apply kD | apply kA); refine blk_put (cs := #[.int .i64 0, .int .i64 0]) ?_ 0 _ rfl; (with_reducible repeat first | apply kN | apply kD | apply kA); refine blk_far ?_ NB155_154.out _; (with_reducible repeat first | apply kN | apply kD | apply kA); refine blk_far ?_ NB155_154.out _; (with_reducible repeat first | apply kN | apply kD | apply kA); exact BK155.out⟩, ⟨bz⟩⟩
  case round =>
   clear H'
   try clear c1
   try clear p1
   try clear q1
   try clear hx1
   try clear qi1
   try clear c2
   try clear p2
   try clear c3
   try clear c3b0
   try clear c3b1
   try clear c4
   try clear c4b0
   try clear c4b1
   try clear c8
   try clear c9
   try clear c15
   try clear p15
   try clear q15
   try clear hx15
   try clear qi15
   try clear c20
   try clear c21
   try clear hcz10_0
   try clear hcz10_1
   try clear hcz22_0
   try clear hcz22_1
   try clear hfz10_0
   try clear hfz10_1
   try clear hfz22_0
   try clear hfz22_1
   try clear hx152_0
   try clear hx152_1
   try clear hx153_0
   try clear hx153_1
   try clear p152
   try clear p153
   try clear q152
   try clear q153
   obtain ⟨x30_1, x155000_1, x155001_1, x156000_1, x156001_1, rfl, HA, HK1, BK148, BK149, BK150, BK154, BK155, HB⟩ := hrel
   cases gk with
   | zero => exact absurd HA.out (by simp [floor_Box.l0])
   | succ k1 =>
    have H := HA.out
    clear HA
    simp only [floor_Box.l0] at H
    by_cases c23 : x30_1 < (l0_0.length : Int)
    ·
     rw [if_pos c23] at H
     have c23b0 := decide_eq_true c23
     clear c23
     by_cases c24 : 0 ≤ x30_1; rotate_left
     · rw [if_neg c24] at H; exact absurd H (by simp)
     rw [if_pos c24] at H
     have c24b0 := decide_eq_true c24
     clear c24
     by_cases c25 : x30_1 < (l0_0.length : Int); rotate_left
     · rw [if_neg c25] at H; exact absurd H (by simp)
     rw [if_pos c25] at H
     have c25b0 := decide_eq_true c25
     clear c25
     obtain ⟨ji26, hji26⟩ : ∃ j_ : Int, (mn x155000_1 ((rd_T53 l0_0 x30_1).f0.f0)) = j_ := ⟨_, rfl⟩
     replace H : (floor_Box.l0 k1 l0_0 (l0_0.length : Int) (wrap64 (x30_1 + 1)) ji26 (mn x155001_1 ((rd_T53 l0_0 x30_1).f0.f1)) (mx x156000_1 ((rd_T53 l0_0 x30_1).f0.f0)) (mx x156001_1 ((rd_T53 l0_0 x30_1).f0.f1))) = some (r1, r2, r3, r4, r5) := by first | (rw [hji26] at H; exact H) | (simp only [hji26] at H ⊢; exact H)
     have hji26_ : (if ((rd_T53 l0_0 x30_1).f0.f0) < x155000_1 then ((rd_T53 l0_0 x30_1).f0.f0) else x155000_1) = ji26 := hji26
     obtain ⟨ji27, hji27⟩ : ∃ j_ : Int, (mn x155001_1 ((rd_T53 l0_0 x30_1).f0.f1)) = j_ := ⟨_, rfl⟩
     replace H : (floor_Box.l0 k1 l0_0 (l0_0.length : Int) (wrap64 (x30_1 + 1)) ji26 ji27 (mx x156000_1 ((rd_T53 l0_0 x30_1).f0.f0)) (mx x156001_1 ((rd_T53 l0_0 x30_1).f0.f1))) = some (r1, r2, r3, r4, r5) := by first | (rw [hji27] at H; exact H) | (simp only [hji27] at H ⊢; exact H)
     have hji27_ : (if ((rd_T53 l0_0 x30_1).f0.f1) < x155001_1 then ((rd_T53 l0_0 x30_1).f0.f1) else x155001_1) = ji27 := hji27
     obtain ⟨ji28, hji28⟩ : ∃ j_ : Int, (mx x156000_1 ((rd_T53 l0_0 x30_1).f0.f0)) = j_ := ⟨_, rfl⟩
     replace H : (floor_Box.l0 k1 l0_0 (l0_0.length : Int) (wrap64 (x30_1 + 1)) ji26 ji27 ji28 (mx x156001_1 ((rd_T53 l0_0 x30_1).f0.f1))) = some (r1, r2, r3, r4, r5) := by first | (rw [hji28] at H; exact H) | (simp only [hji28] at H ⊢; exact H)
     have hji28_ : (if x156000_1 < ((rd_T53 l0_0 x30_1).f0.f0) then ((rd_T53 l0_0 x30_1).f0.f0) else x156000_1) = ji28 := hji28
     obtain ⟨ji29, hji29⟩ : ∃ j_ : Int, (mx x156001_1 ((rd_T53 l0_0 x30_1).f0.f1)) = j_ := ⟨_, rfl⟩
     replace H : (floor_Box.l0 k1 l0_0 (l0_0.length : Int) (wrap64 (x30_1 + 1)) ji26 ji27 ji28 ji29) = some (r1, r2, r3, r4, r5) := by first | (rw [hji29] at H; exact H) | (simp only [hji29] at H ⊢; exact H)
     have hji29_ : (if x156001_1 < ((rd_T53 l0_0 x30_1).f0.f1) then ((rd_T53 l0_0 x30_1).f0.f1) else x156001_1) = ji29 := hji29
     have H' := am H
     clear H
     have p156 : 0 ≤ (x30_1 : Int) := az
     have q156 : x30_1 < (l0_0.length : Int) := az
     obtain ⟨ad156, ce156, e156, hK156, hW156⟩ := Kd.C_rowAt (HR0_0.out) (z53) x30_1 p156 q156
     obtain rfl := k53_open (show k53.K _ (rd_T53 l0_0 x30_1) _ from hK156)
     clear hK156
     replace hW156 := RowAt.below hW156 HB.out
     obtain rfl : ad152 = ad156 := (by injection e156)
     have HW156 := am hW156
     clear hW156
     replace p156 := eq_true p156
     replace q156 := eq_true q156
     go_wp2_with (first | ((with_reducible refine gate_dst (N := 33) rfl ?_); refine' load_big ?h0 53 (.tmp 32) ?ho _ ?hx _ _ ?hc Try.underlying53 ?hd ?hi ?_; (case h0 => rfl); (case ho => rfl); (case hx => first | rfl | (go_simp; rfl)); (case hc => first | exact HW156.out | (simpa only [add_plain] using HW156.out) | (simpa only [Addr.add, Nat.zero_add] using HW156.out)); (case hd => rfl); (case hi => rfl)) | ((with_reducible refine gate_dst (N := 9) rfl ?_); refine box_event yz (N := 9) yz (cs := #[.int .i64 0, .int .i64 0, .int .i64 0, .int .i64 0, .int .i64 0, .int .i64 0, .int .i64 0, .int .i64 0, .int .i64 0, .int .i64 0, .int .i64 0, .int .i64 0, .int .i64 0, .int .i64 0, .int .i64 0, .int .i64 0, .int .i64 0, .int .i64 0, .int .i64 0, .int .i64 0, .int .i64 0, .int .i64 0]) (t := 53) gz ?_; intro gb157 hg_ w30 hbox_ hb_; have HA157 := am (And.intro hbox_ (And.intro hb_ hg_)); clear hbox_ hb_ hg_) | ((with_reducible refine row_gate (t := 53) (p := 9) rfl ?_); refine row_event ?h0 53 (.tmp 9) (.tmp 33) ?ho ?hd gb157 #[.int .i64 ((rd_T53 l0_0 x30_1).f0.f0), .int .i64 ((rd_T53 l0_0 x30_1).f0.f1), .int .i64 ((rd_T53 l0_0 x30_1).f1), .int .i64 ((rd_T53 l0_0 x30_1).f2), .int .i64 ((rd_T53 l0_0 x30_1).f3.f0.f0), .int .i64 ((rd_T53 l0_0 x30_1).f3.f0.f1), .int .i64 ((rd_T53 l0_0 x30_1).f3.f0.f2), .int .i64 ((rd_T53 l0_0 x30_1).f3.f1.f0), .int .i64 ((rd_T53 l0_0 x30_1).f3.f1.f1), .int .i64 ((rd_T53 l0_0 x30_1).f3.f1.f2), .int .i64 ((rd_T53 l0_0 x30_1).f3.f2.f0), .int .i64 ((rd_T53 l0_0 x30_1).f3.f2.f1), .int .i64 ((rd_T53 l0_0 x30_1).f3.f2.f2), .int .i64 ((rd_T53 l0_0 x30_1).f3.f3.f0), .int .i64 ((rd_T53 l0_0 x30_1).f3.f3.f1), .int .i64 ((rd_T53 l0_0 x30_1).f3.f3.f2), .int .i64 ((rd_T53 l0_0 x30_1).f3.f4.f0), .int .i64 ((rd_T53 l0_0 x30_1).f3.f4.f1), .int .i64 ((rd_T53 l0_0 x30_1).f3.f4.f2), .int .i64 ((rd_T53 l0_0 x30_1).f3.f5.f0), .int .i64 ((rd_T53 l0_0 x30_1).f3.f5.f1), .int .i64 ((rd_T53 l0_0 x30_1).f3.f5.f2)] ?hx ?hy _ _ HA157.out.1 ?hi ?hs ?h1 ?_; (case h0 => rfl); (case ho => rfl); (case hd => rfl); (case hx => first | rfl | (go_simp; rfl)); (case hy => first | rfl | (go_simp; rfl)); (case hi => rfl); (case hs => rfl); (case h1 => simp [Value.oneCell']); intro w31 hbox ho_ hb_; have hg := HA157.out.2.2; have hb := hb_ _ _ HA157.out.2.1 (Nat.le_of_eq hg.symm); clear ho_ hb_; have BK157 := am (hbox); have GW157 := gwz (g := gb157) HB hg; have GE157 := GW157; replace HB := am (below_step bz hb); have NB148_157 := nlt (g' := gb157) BK148 hg; have NB157_148 := ngt (g' := gb157) BK148 hg; replace BK148 := am (blk_below (o := .cells #[.slice (some ad152) l0_0.length c0_0, .slice A0_1 l0_1.length c0_1] 25 (0, 0)) (kz BK148) hb); have NB149_157 := nlt (g' := gb157) BK149 hg; have NB157_149 := ngt (g' := gb157) BK149 hg; replace BK149 := am (blk_below (o := .cells #[.int .i64 0, .int .i64 0] 35 (0, 0)) (kz BK149) hb); have NB150_157 := nlt (g' := gb157) BK150 hg; have NB157_150 := ngt (g' := gb157) BK150 hg; replace BK150 := am (blk_below (o := .cells #[.int .i64 0, .int .i64 0] 35 (0, 0)) (kz BK150) hb); have NB154_157 := nlt (g' := gb157) BK154 hg; have NB157_154 := ngt (g' := gb157) BK154 hg; replace BK154 := am (blk_below (o := .cells #[.int .i64 x155000_1, .int .i64 x155001_1] 35 (0, 0)) (kz BK154) hb); have NB155_157 := nlt (g' := gb157) BK155 hg; have NB157_155 := ngt (g' := gb157) BK155 hg; replace BK155 := am (blk_below (o := .cells #[.int .i64 x156000_1, .int .i64 x156001_1] 35 (0, 0)) (kz BK155) hb); clear hb hbox hg; have hnb32 := NB154_148.out; have hnc32 := NB148_154.out; have hnb33 := NB154_149.out; have hnc33 := NB149_154.out; have hnb34 := NB154_150.out; have hnc34 := NB150_154.out; have hnb35 := NB154_155.out; have hnc35 := NB155_154.out; have hnb36 := NB154_157.out; have hnc36 := NB157_154.out; obtain ⟨hcz37_0, hcz37_1, hfz37_0, hfz37_1⟩ := kc2 BK154.out; have hnb38 := NB157_148.out; have hnc38 := NB148_157.out; have hnb39 := NB157_149.out; have hnc39 := NB149_157.out; have hnb40 := NB157_150.out; have hnc40 := NB150_157.out; have hnb41 := NB157_155.out; have hnc41 := NB155_157.out; have hcz42_0 : w31.cell? ⟨gb157, 0, none⟩ = some (.int .i64 ((rd_T53 l0_0 x30_1).f0.f0)) := (blk_cell BK157.out 0).trans (by rfl); have hcz42_1 : w31.cell? ⟨gb157, 1, none⟩ = some (.int .i64 ((rd_T53 l0_0 x30_1).f0.f1)) := (blk_cell BK157.out 1).trans (by rfl); have hfz42_0 := blk_frozen BK157.out 0; have hfz42_1 := blk_frozen BK157.out 1; have hnb43 := NB155_148.out; have hnc43 := NB148_155.out; have hnb44 := NB155_149.out; have hnc44 := NB149_155.out; have hnb45 := NB155_150.out; have hnc45 := NB150_155.out; obtain ⟨hcz46_0, hcz46_1, hfz46_0, hfz46_1⟩ := kc2 BK155.out))
     go_roundg k1
     case measure => have := HK1.out; omega
     case rel => exact ⟨(wrap64 (x30_1 + 1)), (ji26), (ji27), (ji28), (ji29), sz, H', ⟨by have := HK1.out; omega⟩, ⟨by (with_reducible repeat first | apply kN | apply kD | apply kA); refine blk_far ?_ NB148_155.out _; (with_reducible repeat first | apply kN | apply kD | apply kA); refine blk_far ?_ NB148_155.out _; (with_reducible repeat first | apply kN | apply kD | apply kA); refine blk_far ?_ NB148_154.out _; (with_reducible repeat first | apply kN | apply kD | apply kA); refine blk_far ?_ NB148_154.out _; (with_reducible repeat first | apply kN | apply kD | apply kA); exact BK148.out⟩, ⟨by (with_reducible repeat first | apply kN | apply kD | apply kA); refine blk_far ?_ NB149_155.out _; (with_reducible repeat first | apply kN | apply kD | apply kA); refine blk_far ?_ NB149_155.out _; (with_reducible repeat first | apply kN | apply kD | apply kA); refine blk_far ?_ NB149_154.out _; (with_reducible repeat first | apply kN | apply kD | apply kA); refine blk_far ?_ NB149_154.out _; (with_reducible repeat first | apply kN | apply kD | apply kA); exact BK149.out⟩, ⟨by (with_reducible repeat first | apply kN | apply kD | apply kA); refine blk_far ?_ NB150_155.out _; (with_reducible repeat first | apply kN | apply kD | apply kA); refine blk_far ?_ NB150_155.out _; (with_reducible repeat first | apply kN | apply kD | apply kA); refine blk_far ?_ NB150_154.out _; (with_reducible repeat first | apply kN | apply kD | apply kA); refine blk_far ?_ NB150_154.out _; (with_reducible repeat first | apply kN | apply kD | apply kA); exact BK150.out⟩, ⟨by (with_reducible repeat first | apply kN | apply kD | apply kA); refine blk_far ?_ NB154_155.out _; (with_reducible repeat first | apply kN | apply kD | apply kA); refine blk_far ?_ NB154_155.out _; (with_reducible repeat first | apply kN | apply kD | apply kA); refine blk_put (cs := #[.int .i64 ji26, .int .i64 x155001_1]) ?_ 1 _ rfl; (with_reducible repeat first | apply kN | apply kD | apply kA); refine blk_put (cs := #[.int .i64 x155000_1, .int .i64 x155001_1]) ?_ 0 _ rfl; (with_reducible repeat first | apply kN | apply kD | apply kA); exact BK154.out⟩, ⟨by (with_reducible repeat first | apply kN | apply kD | apply kA); refine blk_put (cs := #[.int .i64 ji28, .int .i64 x156001_1]) ?_ 1 _ rfl; (with_reducible repeat first | apply kN | apply kD | apply kA); refine blk_put (cs := #[.int .i64 x156000_1, .int .i64 x156001_1]) ?_ 0 _ rfl; (with_reducible repeat first | apply kN | apply kD | apply kA); refine blk_far ?_ NB155_154.out _; (with_reducible repeat first | apply kN | apply kD | apply kA); refine blk_far ?_ NB155_154.out _; (with_reducible repeat first | apply kN | apply kD | apply kA); exact BK155.out⟩, ⟨bz⟩⟩
    ·
     rw [if_neg c23] at H
     have c23b0 := decide_eq_false c23
     clear c23
     simp only [Option.some.injEq, Prod.mk.injEq] at H
     obtain ⟨rfl, rfl, rfl, rfl, rfl⟩ := H
     try go_wp2
     have n0_ := am (blk_drew BK148.out)
     have n1_ := am (blk_drew BK149.out)
     have n2_ := am (blk_drew BK150.out)
     have n3_ := am (blk_drew BK154.out)
     have n4_ := am (blk_drew BK155.out)
     have n5_ := am (below_drew1 HB.out)
     clear BK148
     clear BK149
     clear BK150
     clear BK154
     clear BK155
     clear HB
     have BK148 := n0_
     have BK149 := n1_
     have BK150 := n2_
     have BK154 := n3_
     have BK155 := n4_
     have HB := n5_
     clear n0_ n1_ n2_ n3_ n4_ n5_
     refine start_ (n := 5) (S := fun w' => w'.cell? ⟨gb154, 0, none⟩ = some (.int .i64 x155000_1) ∧ w'.cell? ⟨gb154, 1, none⟩ = some (.int .i64 x155001_1) ∧ w'.cell? ⟨gb155, 0, none⟩ = some (.int .i64 x156000_1) ∧ w'.cell? ⟨gb155, 1, none⟩ = some (.int .i64 x156001_1)) (ds := []) (bm 5 0) qz rfl rfl ⟨(blk_cell BK154.out 0).trans rfl, (blk_cell BK154.out 1).trans rfl, (blk_cell BK155.out 0).trans rfl, (blk_cell BK155.out 1).trans rfl⟩ (fun hHeld => ?_)
     generalize wr.drew = w47 at BK148 BK149 BK150 BK154 BK155 HB hHeld ⊢
     refine take_ (i := 0) (N := some 61) (v := ?_) (a' := ?_) (bm 5 1) rfl rfl qz (fun _ _ _ h => h) (Or.inl ⟨by rfl, ?_⟩) hHeld ?_ ?_
     rotate_left
     ·
      rintro w' ⟨s0, s1, s2, s3⟩
      go_simp
      with_reducible rfl
     rotate_left
     ·
      simp only [Act.put, aS, lZ, lS, i64_w, i32_w]
      rfl
     refine take_ (i := 1) (N := some 62) (v := ?_) (a' := ?_) (bm 5 3) rfl rfl qz (fun _ _ _ h => h) (Or.inl ⟨by rfl, ?_⟩) hHeld ?_ ?_
     rotate_left
     ·
      rintro w' ⟨s0, s1, s2, s3⟩
      go_simp
      with_reducible rfl
     rotate_left
     ·
      simp only [Act.put, aS, lZ, lS, i64_w, i32_w]
      rfl
     refine one_ (i := 2) (N := none) (bm 5 7) rfl rfl qz (by decide) (fun K hK => ?_)
     have hs48 : w47.cell? ⟨gb149, 0, none⟩ = some (.int .i64 0) := (blk_cell BK149.out 0).trans rfl
     have hfs48 := blk_frozen BK149.out 0
     have hns48_0 := NB148_149.out
     have hns48_2 := NB150_149.out
     have hns48_3 := NB154_149.out
     have hns48_4 := NB155_149.out
     have hms48_0 := NB149_148.out
     have hms48_2 := NB149_150.out
     have hms48_3 := NB149_154.out
     have hms48_4 := NB149_155.out
     have hs49 : w47.cell? ⟨gb149, 1, none⟩ = some (.int .i64 0) := (blk_cell BK149.out 1).trans rfl
     have hfs49 := blk_frozen BK149.out 1
     have hns49_0 := NB148_149.out
     have hns49_2 := NB150_149.out
     have hns49_3 := NB154_149.out
     have hns49_4 := NB155_149.out
     have hms49_0 := NB149_148.out
     have hms49_2 := NB149_150.out
     have hms49_3 := NB149_154.out
     have hms49_4 := NB149_155.out
     refine skip_ (w1 := ?_) (by rfl) rfl ?_ ?_
     rotate_left
     ·
      go_simp
      rfl
     refine hK.out _ _ ⟨((cell_far (p := ⟨gb149, _, none⟩) NB154_149.out _).trans (((cell_far (p := ⟨gb149, _, none⟩) NB154_149.out _).trans (hHeld.1)))), ((cell_far (p := ⟨gb149, _, none⟩) NB154_149.out _).trans (((cell_far (p := ⟨gb149, _, none⟩) NB154_149.out _).trans (hHeld.2.1)))), ((cell_far (p := ⟨gb149, _, none⟩) NB155_149.out _).trans (((cell_far (p := ⟨gb149, _, none⟩) NB155_149.out _).trans (hHeld.2.2.1)))), ((cell_far (p := ⟨gb149, _, none⟩) NB155_149.out _).trans (((cell_far (p := ⟨gb149, _, none⟩) NB155_149.out _).trans (hHeld.2.2.2))))⟩ (fun hHeld => ?_)
     clear hK K
     refine one_ (i := 3) (N := none) (bm 5 15) rfl rfl qz (by decide) (fun K hK => ?_)
     have hs50 : w47.cell? ⟨gb150, 0, none⟩ = some (.int .i64 0) := (blk_cell BK150.out 0).trans rfl
     have hfs50 := blk_frozen BK150.out 0
     have hns50_0 := NB148_150.out
     have hns50_1 := NB149_150.out
     have hns50_3 := NB154_150.out
     have hns50_4 := NB155_150.out
     have hms50_0 := NB150_148.out
     have hms50_1 := NB150_149.out
     have hms50_3 := NB150_154.out
     have hms50_4 := NB150_155.out
     have hs51 : w47.cell? ⟨gb150, 1, none⟩ = some (.int .i64 0) := (blk_cell BK150.out 1).trans rfl
     have hfs51 := blk_frozen BK150.out 1
     have hns51_0 := NB148_150.out
     have hns51_1 := NB149_150.out
     have hns51_3 := NB154_150.out
     have hns51_4 := NB155_150.out
     have hms51_0 := NB150_148.out
     have hms51_1 := NB150_149.out
     have hms51_3 := NB150_154.out
     have hms51_4 := NB150_155.out
     refine skip_ (w1 := ?_) (by rfl) rfl ?_ ?_
     rotate_left
     ·
      go_simp
      rfl
     refine hK.out _ _ ⟨((cell_far (p := ⟨gb150, _, none⟩) NB154_150.out _).trans (((cell_far (p := ⟨gb150, _, none⟩) NB154_150.out _).trans (hHeld.1)))), ((cell_far (p := ⟨gb150, _, none⟩) NB154_150.out _).trans (((cell_far (p := ⟨gb150, _, none⟩) NB154_150.out _).trans (hHeld.2.1)))), ((cell_far (p := ⟨gb150, _, none⟩) NB155_150.out _).trans (((cell_far (p := ⟨gb150, _, none⟩) NB155_150.out _).trans (hHeld.2.2.1)))), ((cell_far (p := ⟨gb150, _, none⟩) NB155_150.out _).trans (((cell_far (p := ⟨gb150, _, none⟩) NB155_150.out _).trans (hHeld.2.2.2))))⟩ (fun hHeld => ?_)
     clear hK K
     refine pure_ (i := 4) (N := some 4) (v := ?_) (a' := ?_) (bm 5 31) rfl rfl qz (fun _ _ _ h => h) (Or.inl ⟨by rfl, ?_⟩) ?_ ?_
     rotate_left; (intro w'; go_simp; with_reducible rfl); rotate_left; (simp only [Act.put, aS, lZ, lS, i64_w, i32_w]; rfl)
     refine done_ qz ?_
     try go_wp2
     refine bodyPost_ret (results_list (rs := [.cell 2 35, .cell 3 35, .tmp 4]) rfl (by simp) (.cell gb149 35 #[.int .i64 x155000_1, .int .i64 x155001_1] (0, 0) _ rfl (by (with_reducible repeat first | apply kN | apply kD | apply kA); refine blk_far ?_ NB149_150.out _; (with_reducible repeat first | apply kN | apply kD | apply kA); refine blk_far ?_ NB149_150.out _; (with_reducible repeat first | apply kN | apply kD | apply kA); refine blk_put (cs := #[.int .i64 x155000_1, .int .i64 0]) ?_ 1 _ rfl; (with_reducible repeat first | apply kN | apply kD | apply kA); refine blk_put (cs := #[.int .i64 0, .int .i64 0]) ?_ 0 _ rfl; (with_reducible repeat first | apply kN | apply kD | apply kA); exact BK149.out) Try.underlying35 rfl qz (.cell gb150 35 #[.int .i64 x156000_1, .int .i64 x156001_1] (0, 0) _ rfl (by (with_reducible repeat first | apply kN | apply kD | apply kA); refine blk_put (cs := #[.int .i64 x156000_1, .int .i64 0]) ?_ 1 _ rfl; (with_reducible repeat first | apply kN | apply kD | apply kA); refine blk_put (cs := #[.int .i64 0, .int .i64 0]) ?_ 0 _ rfl; (with_reducible repeat first | apply kN | apply kD | apply kA); refine blk_far ?_ NB150_149.out _; (with_reducible repeat first | apply kN | apply kD | apply kA); refine blk_far ?_ NB150_149.out _; (with_reducible repeat first | apply kN | apply kD | apply kA); exact BK150.out) Try.underlying35 rfl qz (.tmp .nil)))) rfl ?_
     exact ⟨ez, bz⟩
 ·
  rw [if_neg c3] at H
  have c3b0 : (t151 == 0) = false := beq_eq_false_iff_ne.mpr c3
  have c3b1 : (t151 != 0) = true := bne_iff_ne.mpr c3
  simp only [Option.some.injEq, Prod.mk.injEq] at H
  obtain ⟨rfl, rfl, rfl, rfl, rfl⟩ := H
  go_enter Try.func15, Try.ntmps15
  go_wp2_with (first | ((with_reducible refine gate_dst (N := 1) rfl ?_); refine box_event yz (N := 1) yz (cs := #[.slice A0_0 l0_0.length c0_0, .slice A0_1 l0_1.length c0_1]) (t := 25) gz ?_; intro gb148 hg w52 hbox hb; have BK148 := am (hbox); have GW148 := gwz (g := gb148) HB hg; have GE148 := GW148; replace HB := am (below_step bz hb); clear hb hbox hg) | ((with_reducible refine gate_dst (N := 2) rfl ?_); refine box_event yz (N := 2) yz (cs := #[.int .i64 0, .int .i64 0]) (t := 35) gz ?_; intro gb149 hg w53 hbox hb; have BK149 := am (hbox); have GW149 := gwz (g := gb149) HB hg; have GE149 := GW149; replace HB := am (below_step bz hb); have NB148_149 := nlt (g' := gb149) BK148 hg; have NB149_148 := ngt (g' := gb149) BK148 hg; replace BK148 := am (blk_below (o := .cells #[.slice A0_0 l0_0.length c0_0, .slice A0_1 l0_1.length c0_1] 25 (0, 0)) (kz BK148) hb); clear hb hbox hg) | ((with_reducible refine gate_dst (N := 3) rfl ?_); refine box_event yz (N := 3) yz (cs := #[.int .i64 0, .int .i64 0]) (t := 35) gz ?_; intro gb150 hg w54 hbox hb; have BK150 := am (hbox); have GW150 := gwz (g := gb150) HB hg; have GE150 := GW150; replace HB := am (below_step bz hb); have NB148_150 := nlt (g' := gb150) BK148 hg; have NB150_148 := ngt (g' := gb150) BK148 hg; replace BK148 := am (blk_below (o := .cells #[.slice A0_0 l0_0.length c0_0, .slice A0_1 l0_1.length c0_1] 25 (0, 0)) (kz BK148) hb); have NB149_150 := nlt (g' := gb150) BK149 hg; have NB150_149 := ngt (g' := gb150) BK149 hg; replace BK149 := am (blk_below (o := .cells #[.int .i64 0, .int .i64 0] 35 (0, 0)) (kz BK149) hb); clear hb hbox hg; have hnb55 := NB148_149.out; have hnc55 := NB149_148.out; have hnb56 := NB148_150.out; have hnc56 := NB150_148.out; obtain ⟨hcz57_0, hcz57_1, hfz57_0, hfz57_1⟩ := kc2 BK148.out) | ((with_reducible refine gate_callee (f := 21) rfl ?_); refine goesL_ (some 11) rfl rfl Try.func21 qz rfl #[.agg #[.slice A0_0 l0_0.length c0_0, .slice A0_1 l0_1.length c0_1]] rfl mz ?_; (with_reducible refine (movement_Check.calls k _ _ l0_0 _ _ l0_1 t151 _ ?side1 ?side2 ?side3 ?side4 A2.out).mono ?_); (case side1 => exact cz HR0_0); (case side2 => exact HC0_0.out); (case side3 => exact cz HR0_1); (case side4 => exact HC0_1.out); rintro e w58 ⟨rfl, hb⟩; refine ⟨_, rfl, ?_⟩; replace BK148 := am (blk_below (o := .cells #[.slice A0_0 l0_0.length c0_0, .slice A0_1 l0_1.length c0_1] 25 (0, 0)) (kz BK148) hb); replace BK149 := am (blk_below (o := .cells #[.int .i64 0, .int .i64 0] 35 (0, 0)) (kz BK149) hb); replace BK150 := am (blk_below (o := .cells #[.int .i64 0, .int .i64 0] 35 (0, 0)) (kz BK150) hb); replace HB := am (below_step bz hb); (try clear hb); (try clear hb2); (try clear hk); (try clear hi); have hnb59 := NB149_150.out; have hnc59 := NB150_149.out; obtain ⟨hcz60_0, hcz60_1, hfz60_0, hfz60_1⟩ := kc2 BK149.out; obtain ⟨hcz61_0, hcz61_1, hfz61_0, hfz61_1⟩ := kc2 BK150.out))
  refine bodyPost_ret (results_list (rs := [.cell 2 35, .cell 3 35, .tmp 4]) rfl (by simp) (.cell gb149 35 #[.int .i64 0, .int .i64 0] (0, 0) _ rfl (by (with_reducible repeat first | apply kN | apply kD | apply kA); refine blk_far ?_ NB149_150.out _; (with_reducible repeat first | apply kN | apply kD | apply kA); refine blk_far ?_ NB149_150.out _; (with_reducible repeat first | apply kN | apply kD | apply kA); refine blk_put (cs := #[.int .i64 0, .int .i64 0]) ?_ 1 _ rfl; (with_reducible repeat first | apply kN | apply kD | apply kA); refine blk_put (cs := #[.int .i64 0, .int .i64 0]) ?_ 0 _ rfl; (with_reducible repeat first | apply kN | apply kD | apply kA); exact BK149.out) Try.underlying35 rfl qz (.cell gb150 35 #[.int .i64 0, .int .i64 0] (0, 0) _ rfl (by (with_reducible repeat first | apply kN | apply kD | apply kA); refine blk_put (cs := #[.int .i64 0, .int .i64 0]) ?_ 1 _ rfl; (with_reducible repeat first | apply kN | apply kD | apply kA); refine blk_put (cs := #[.int .i64 0, .int .i64 0]) ?_ 0 _ rfl; (with_reducible repeat first | apply kN | apply kD | apply kA); refine blk_far ?_ NB150_149.out _; (with_reducible repeat first | apply kN | apply kD | apply kA); refine blk_far ?_ NB150_149.out _; (with_reducible repeat first | apply kN | apply kD | apply kA); exact BK150.out) Try.underlying35 rfl qz (.tmp .nil)))) rfl ?_
  exact ⟨ez, bz⟩

end Go.Proofs.Ytmdmajfgpmopbaa.X

namespace Go.Proofs.Ytmdmajfgpmopbaa.X
open Go.RowKit YtmdmajfgpmopbaaW.PrintWords YtmdmajfgpmopbaaW.PrintLast YtmdmajfgpmopbaaW.PrintMore
attribute [local go_sem] max2_int min2_int max_two min_two max_three min_three max_four min_four
set_option linter.unusedVariables false
set_option linter.unusedSimpArgs false

/-! ### num_Root: function 24 -/
mutual
def num_Root.j0 : Nat → Int → Bool → Option (Int × Int)
 | 0, _, _ => none
 | k + 1, x0, x12 => if x12 = true then (some (0, 1)) else (num_Root.l0 k x0 0 0)
def num_Root.l0 : Nat → Int → Int → Int → Option (Int × Int)
 | 0, _, _, _ => none
 | k + 1, x0, x4, x13 => if x13 < 26 then (if 0 ≤ (wrap64 (25 - x13)) then (if (wrap64 ((wrap64 (x4 + (shl .i64 1 (wrap64 (25 - x13))))) * (wrap64 (x4 + (shl .i64 1 (wrap64 (25 - x13))))))) ≤ x0 then (num_Root.l0 k x0 (wrap64 (x4 + (shl .i64 1 (wrap64 (25 - x13))))) (wrap64 (x13 + 1))) else (num_Root.l0 k x0 x4 (wrap64 (x13 + 1)))) else (none)) else (some (x4, 0))
end
def num_Root.f (k : Nat) (a0 : Int) : Option (Int × Int) := if a0 < 0 then (num_Root.j0 k a0 true) else (num_Root.j0 k a0 (decide (a0 > 1125899906842624)))
theorem num_Root.mono_l : ∀ k, (∀ y0 y1, LeO (num_Root.j0 k y0 y1) (num_Root.j0 (k + 1) y0 y1)) ∧ (∀ y0 y1 y2, LeO (num_Root.l0 k y0 y1 y2) (num_Root.l0 (k + 1) y0 y1 y2))
 | 0 => ⟨fun _ _ r h => by simp [num_Root.j0] at h, fun _ _ _ r h => by simp [num_Root.l0] at h⟩
 | k + 1 => by
  obtain ⟨ih0, ih1⟩ := num_Root.mono_l k
  refine ⟨?_, ?_⟩
  ·
   intro y0 y1
   unfold num_Root.j0
   repeat' first
   | (with_reducible exact ih0 _ _)
   | (with_reducible exact ih1 _ _ _)
   | (with_reducible exact LeO.refl _)
   | (with_reducible exact LeO.none _)
   | (with_reducible refine LeO.ite ?_ ?_)
   | (with_reducible refine LeO.bind ?_ (fun _ => ?_))
   | exact ih0 _ _
   | exact ih1 _ _ _
   | exact LeO.none _
   | refine LeO.ite ?_ ?_
   | refine LeO.bind ?_ (fun _ => ?_)
  ·
   intro y0 y1 y2
   unfold num_Root.l0
   repeat' first
   | (with_reducible exact ih0 _ _)
   | (with_reducible exact ih1 _ _ _)
   | (with_reducible exact LeO.refl _)
   | (with_reducible exact LeO.none _)
   | (with_reducible refine LeO.ite ?_ ?_)
   | (with_reducible refine LeO.bind ?_ (fun _ => ?_))
   | exact ih0 _ _
   | exact ih1 _ _ _
   | exact LeO.none _
   | refine LeO.ite ?_ ?_
   | refine LeO.bind ?_ (fun _ => ?_)
theorem num_Root.mono : ∀ a0 k, LeO (num_Root.f k a0) (num_Root.f (k + 1) a0) := by
 intro a0 k
 obtain ⟨ih0, ih1⟩ := num_Root.mono_l k
 unfold num_Root.f
 repeat' first
   | (with_reducible exact ih0 _ _)
   | (with_reducible exact ih1 _ _ _)
   | (with_reducible exact LeO.refl _)
   | (with_reducible exact LeO.none _)
   | (with_reducible refine LeO.ite ?_ ?_)
   | (with_reducible refine LeO.bind ?_ (fun _ => ?_))
   | exact ih0 _ _
   | exact ih1 _ _ _
   | exact LeO.none _
   | refine LeO.ite ?_ ?_
   | refine LeO.bind ?_ (fun _ => ?_)
set_option maxHeartbeats 8000000 in
set_option maxRecDepth 100000 in
theorem num_Root.calls (k : Nat) (a0 r1 r2 : Int) (w : World) (h : num_Root.f k a0 = some (r1, r2)) :
  Calls Try.prog 24 #[.int .i64 a0] w fun e w' => e = .returned (.tuple #[.int .i64 r1, .int .i64 r2]) ∧ Drawn0 w w' := by
 have H : (if a0 < 0 then (num_Root.j0 k a0 true) else (num_Root.j0 k a0 (decide (a0 > 1125899906842624)))) = some (r1, r2) := h
 clear h
 have HC2 := am H
 clear H
 go_enter Try.func24, Try.ntmps24
 go_upto_region 1 with (fail)
 go_cut [12] (fun v12 wc => ∃ (kq : Nat) (x12_1 : Bool), v12 = .bool x12_1 ∧ Aside0 (num_Root.j0 kq a0 x12_1 = some (r1, r2)) ∧ Aside0 (kq ≤ k) ∧ Drawn0 w wc)
 case first =>
  have H := HC2.out
  clear HC2
  by_cases c3 : a0 < 0
  ·
   rw [if_pos c3] at H
   have c3b0 := decide_eq_true c3
   clear c3
   (first | rw [c3b0] | (simp only [i64_w, i32_w]; rw [c3b0]) | skip)
   have H' := am H
   clear H
   go_wp2
   go_meet
   case rel => exact ⟨_, (true), sz, H', ⟨by first | omega | exact Nat.le_refl _⟩, by repeat (first | exact Drawn0.refl _ | apply Drawn0.step)⟩
  ·
   rw [if_neg c3] at H
   have c3b0 := decide_eq_false c3
   clear c3
   (first | rw [c3b0] | (simp only [i64_w, i32_w]; rw [c3b0]) | skip)
   have H' := am H
   clear H
   go_wp2
   go_meet
   case rel => exact ⟨_, (decide (a0 > 1125899906842624)), sz, H', ⟨by first | omega | exact Nat.le_refl _⟩, by repeat (first | exact Drawn0.refl _ | apply Drawn0.step)⟩
 case rest =>
  clear HC2
  try clear c2
  try clear p2
  try clear c3
  try clear c3b0
  obtain ⟨kq, x12_1, rfl, HA, HJ1, ⟨mc1, rfl⟩⟩ := hcut
  cases kq with
  | zero => exact absurd HA.out (by simp [num_Root.j0])
  | succ kj1 =>
   have H := HA.out
   clear HA
   simp only [num_Root.j0] at H
   by_cases c4 : x12_1 = true
   ·
    subst c4
    have H1 : (some (0, 1)) = some (r1, r2) := by rw [if_pos rfl] at H; exact H
    clear H
    have H := H1
    clear H1
    simp only [Option.some.injEq, Prod.mk.injEq] at H
    obtain ⟨rfl, rfl⟩ := H
    go_wp2
    go_ret2
    exact ⟨by first | rfl | (simp; done) | (simp [*]; done), by repeat (first | exact Drawn0.refl _ | apply Drawn0.step)⟩
   ·
    replace c4 := Bool.eq_false_iff.mpr c4
    subst c4
    have H1 : (num_Root.l0 kj1 a0 0 0) = some (r1, r2) := by rw [if_neg (show ¬ (false = true) by decide)] at H; exact H
    clear H
    have H := H1
    clear H1
    have H' := am H
    clear H
    go_wp2
    go_loopg [4, 13] kj1 (fun kq v4 v13 w' => ∃ (x4_2 x13_2 : Int), v4 = .int .i64 x4_2 ∧ v13 = .int .i64 x13_2 ∧ Aside0 (num_Root.l0 kq a0 x4_2 x13_2 = some (r1, r2)) ∧ Aside0 (kq ≤ kj1) ∧ Drawn0 w w')
    case atStart => exact ⟨(0), (0), sz, sz, H', ⟨Nat.le_refl _⟩, by repeat (first | exact Drawn0.refl _ | apply Drawn0.step)⟩
    case round =>
     clear H'
     try clear c1
     try clear c2
     try clear p2
     try clear c3
     try clear c3b0
     try clear c4
     try clear p2
     obtain ⟨x4_2, x13_2, rfl, rfl, HA, HK2, ⟨m2, rfl⟩⟩ := hrel
     cases gk with
     | zero => exact absurd HA.out (by simp [num_Root.l0])
     | succ k2 =>
      have H := HA.out
      clear HA
      simp only [num_Root.l0] at H
      by_cases c5 : x13_2 < 26
      ·
       rw [if_pos c5] at H
       have c5b0 := decide_eq_true c5
       clear c5
       obtain ⟨ji6, hji6⟩ : ∃ j_ : Int, (wrap64 (25 - x13_2)) = j_ := ⟨_, rfl⟩
       replace H : (if 0 ≤ (ji6) then (if (wrap64 ((wrap64 (x4_2 + (shl .i64 1 (ji6)))) * (wrap64 (x4_2 + (shl .i64 1 (ji6)))))) ≤ a0 then (num_Root.l0 k2 a0 (wrap64 (x4_2 + (shl .i64 1 (ji6)))) (wrap64 (x13_2 + 1))) else (num_Root.l0 k2 a0 x4_2 (wrap64 (x13_2 + 1)))) else (none)) = some (r1, r2) := by first | (rw [hji6] at H; exact H) | (simp only [hji6] at H ⊢; exact H)
       have hji6w : (IntKind.i64.wrap (25 - x13_2)) = ji6 := (i64_w _).trans hji6
       by_cases c7 : 0 ≤ (ji6); rotate_left
       · rw [if_neg c7] at H; exact absurd H (by simp)
       rw [if_pos c7] at H
       have c7b0 := eq_true c7
       have c7b1 : decide (0 ≤ (ji6)) = true := decide_eq_true c7
       clear c7
       obtain ⟨ji8, hji8⟩ : ∃ j_ : Int, (shl .i64 1 (ji6)) = j_ := ⟨_, rfl⟩
       replace H : (if (wrap64 ((wrap64 (x4_2 + (ji8))) * (wrap64 (x4_2 + (ji8))))) ≤ a0 then (num_Root.l0 k2 a0 (wrap64 (x4_2 + (ji8))) (wrap64 (x13_2 + 1))) else (num_Root.l0 k2 a0 x4_2 (wrap64 (x13_2 + 1)))) = some (r1, r2) := by first | (rw [hji8] at H; exact H) | (simp only [hji8] at H ⊢; exact H)
       have hji8_ : (IntKind.i64.wrap (1 * 2 ^ min (ji6).toNat 64)) = ji8 := hji8
       have hji8z : (ji6) ≤ 64 → (IntKind.i64.wrap (1 * 2 ^ (ji6).toNat)) = ji8 := shl_small hji8
       have hji8u : (IntKind.i64.wrap (2 ^ min (ji6).toNat 64)) = ji8 := by have h_ := hji8_; rw [Int.one_mul] at h_; exact h_
       have hji8v : (ji6) ≤ 64 → (IntKind.i64.wrap (2 ^ (ji6).toNat)) = ji8 := fun hle_ => by have h_ := hji8z hle_; rw [Int.one_mul] at h_; exact h_
       have hji8y : (wrap64 (1 * 2 ^ min (ji6).toNat 64)) = ji8 := (i64_w _).symm.trans hji8_
       have hji8x : (ji6) ≤ 64 → (wrap64 (1 * 2 ^ (ji6).toNat)) = ji8 := fun h_ => (i64_w _).symm.trans (hji8z h_)
       by_cases c9 : (wrap64 ((wrap64 (x4_2 + (ji8))) * (wrap64 (x4_2 + (ji8))))) ≤ a0
       ·
        rw [if_pos c9] at H
        have c9b0 := decide_eq_true c9
        clear c9
        have H' := am H
        clear H
        go_wp2
        go_roundg k2
        case measure => have := HJ1.out; have := HK2.out; omega
        case rel => exact ⟨(wrap64 (x4_2 + (ji8))), (wrap64 (x13_2 + 1)), (by first | rfl | (simp; done) | (simp only [← hji8] <;> (first | rfl | simp)) | (simp [*]; done)), sz, H', ⟨by have := HJ1.out; have := HK2.out; omega⟩, by repeat (first | exact Drawn0.refl _ | apply Drawn0.step)⟩
       ·
        rw [if_neg c9] at H
        have c9b0 := decide_eq_false c9
        clear c9
        have H' := am H
        clear H
        go_wp2
        go_roundg k2
        case measure => have := HJ1.out; have := HK2.out; omega
        case rel => exact ⟨(x4_2), (wrap64 (x13_2 + 1)), sz, sz, H', ⟨by have := HJ1.out; have := HK2.out; omega⟩, by repeat (first | exact Drawn0.refl _ | apply Drawn0.step)⟩
      ·
       rw [if_neg c5] at H
       have c5b0 := decide_eq_false c5
       clear c5
       simp only [Option.some.injEq, Prod.mk.injEq] at H
       obtain ⟨rfl, rfl⟩ := H
       go_wp2
       go_ret2
       exact ⟨by first | rfl | (simp; done) | (simp [*]; done), by repeat (first | exact Drawn0.refl _ | apply Drawn0.step)⟩

end Go.Proofs.Ytmdmajfgpmopbaa.X

namespace Go.Proofs.Ytmdmajfgpmopbaa.X
open Go.RowKit YtmdmajfgpmopbaaW.PrintWords YtmdmajfgpmopbaaW.PrintLast YtmdmajfgpmopbaaW.PrintMore
attribute [local go_sem] max2_int min2_int max_two min_two max_three min_three max_four min_four
set_option linter.unusedVariables false
set_option linter.unusedSimpArgs false

/-! ### floor_Way: function 17 -/
def floor_Way.l0 : Nat → Int → Int → Int → List (S53) → List Int → Option (Int × Int)
 | 0, _, _, _, _, _ => none
 | k + 1, x5, x17, x18, x159000, x159001 => if x18 < x17 then ((floor_step.f x159000 x159001 x18).bind fun bt160 => ((num_Root.f k (wrap64 ((wrap64 (bt160.1 * bt160.1)) + (wrap64 (bt160.2 * bt160.2))))).bind fun bt163 => (floor_Way.l0 k (wrap64 (x5 + bt163.1)) x17 (wrap64 (x18 + 1)) x159000 x159001))) else (some (x5, 0))
def floor_Way.f (k : Nat) (l0_0 : List (S53)) (l0_1 : List Int) : Option (Int × Int) := (movement_Check.f k l0_0 l0_1).bind fun t159 => (if t159 = 0 then (floor_Way.l0 k 0 (l0_1.length : Int) 0 l0_0 l0_1) else (some (0, t159)))
theorem floor_Way.mono_l : ∀ k, (∀ y0 y1 y2 y3 y4, LeO (floor_Way.l0 k y0 y1 y2 y3 y4) (floor_Way.l0 (k + 1) y0 y1 y2 y3 y4))
 | 0 => fun _ _ _ _ _ r h => by simp [floor_Way.l0] at h
 | k + 1 => by
  have ih0 := floor_Way.mono_l k
  ·
   intro y0 y1 y2 y3 y4
   unfold floor_Way.l0
   repeat' first
   | (with_reducible exact ih0 _ _ _ _ _)
   | (with_reducible exact movement_Check.mono _ _ _)
   | (with_reducible exact num_Root.mono _ _)
   | (with_reducible exact LeO.refl _)
   | (with_reducible exact LeO.none _)
   | (with_reducible refine LeO.ite ?_ ?_)
   | (with_reducible refine LeO.bind ?_ (fun _ => ?_))
   | exact ih0 _ _ _ _ _
   | exact movement_Check.mono _ _ _
   | exact num_Root.mono _ _
   | exact LeO.none _
   | refine LeO.ite ?_ ?_
   | refine LeO.bind ?_ (fun _ => ?_)
theorem floor_Way.mono : ∀ a0 a1 k, LeO (floor_Way.f k a0 a1) (floor_Way.f (k + 1) a0 a1) := by
 intro a0 a1 k
 have ih0 := floor_Way.mono_l k
 unfold floor_Way.f
 repeat' first
   | (with_reducible exact ih0 _ _ _ _ _)
   | (with_reducible exact movement_Check.mono _ _ _)
   | (with_reducible exact num_Root.mono _ _)
   | (with_reducible exact LeO.refl _)
   | (with_reducible exact LeO.none _)
   | (with_reducible refine LeO.ite ?_ ?_)
   | (with_reducible refine LeO.bind ?_ (fun _ => ?_))
   | exact ih0 _ _ _ _ _
   | exact movement_Check.mono _ _ _
   | exact num_Root.mono _ _
   | exact LeO.none _
   | refine LeO.ite ?_ ?_
   | refine LeO.bind ?_ (fun _ => ?_)
set_option maxHeartbeats 8000000 in
set_option maxRecDepth 100000 in
theorem floor_Way.calls (k : Nat) (A0_0 : Option Addr) (c0_0 : Nat) (l0_0 : List (S53)) (A0_1 : Option Addr) (c0_1 : Nat) (l0_1 : List Int) (r1 r2 : Int) (w : World) (hr0_0 : Kd.C k53 w A0_0 l0_0.length l0_0) (hc0_0 : l0_0.length ≤ c0_0) (hr0_1 : Kd.C (Kd.int .i64) w A0_1 l0_1.length l0_1) (hc0_1 : l0_1.length ≤ c0_1) (h : floor_Way.f k l0_0 l0_1 = some (r1, r2)) :
  Calls Try.prog 17 #[.agg #[.slice A0_0 l0_0.length c0_0, .slice A0_1 l0_1.length c0_1]] w fun e w' => e = .returned (.tuple #[.int .i64 r1, .int .i64 r2]) ∧ Below w.heap.size w w' := by
 have hu25 := Try.underlying25
 have hu35 := Try.underlying35
 have HR0_0 := am hr0_0
 have HC0_0 := am hc0_0
 clear hr0_0 hc0_0
 have HR0_1 := am hr0_1
 have HC0_1 := am hc0_1
 clear hr0_1 hc0_1
 have HB := am (Below.refl w.heap.size w)
 have H : ((movement_Check.f k l0_0 l0_1).bind fun t159 => (if t159 = 0 then (floor_Way.l0 k 0 (l0_1.length : Int) 0 l0_0 l0_1) else (some (0, t159)))) = some (r1, r2) := h
 clear h
 replace H := Option.bind_eq_some_iff.mp H
 obtain ⟨t159, A20, H⟩ := H
 replace H : (if t159 = 0 then (floor_Way.l0 k 0 (l0_1.length : Int) 0 l0_0 l0_1) else (some (0, t159))) = some (r1, r2) := H
 have A2 := am A20
 clear A20
 by_cases c3 : t159 = 0
 ·
  rw [if_pos c3] at H
  have c3b0 : (t159 == 0) = true := beq_iff_eq.mpr c3
  have c3b1 : (t159 != 0) = false := bne_eq_false_iff_eq.mpr c3
  clear c3
  have H' := am H
  clear H
  go_enter Try.func17, Try.ntmps17
  go_wp2_with (first | ((with_reducible refine gate_dst (N := 1) rfl ?_); refine box_event yz (N := 1) yz (cs := #[.slice A0_0 l0_0.length c0_0, .slice A0_1 l0_1.length c0_1]) (t := 25) gz ?_; intro gb158 hg w4 hbox hb; have BK158 := am (hbox); have GW158 := gwz (g := gb158) HB hg; have GE158 := GW158; replace HB := am (below_step bz hb); clear hb hbox hg; obtain ⟨hcz5_0, hcz5_1, hfz5_0, hfz5_1⟩ := kc2 BK158.out) | ((with_reducible refine gate_callee (f := 21) rfl ?_); refine goesL_ (some 11) rfl rfl Try.func21 qz rfl #[.agg #[.slice A0_0 l0_0.length c0_0, .slice A0_1 l0_1.length c0_1]] rfl mz ?_; (with_reducible refine (movement_Check.calls k _ _ l0_0 _ _ l0_1 t159 _ ?side1 ?side2 ?side3 ?side4 A2.out).mono ?_); (case side1 => exact cz HR0_0); (case side2 => exact HC0_0.out); (case side3 => exact cz HR0_1); (case side4 => exact HC0_1.out); rintro e w6 ⟨rfl, hb⟩; refine ⟨_, rfl, ?_⟩; replace BK158 := am (blk_below (o := .cells #[.slice A0_0 l0_0.length c0_0, .slice A0_1 l0_1.length c0_1] 25 (0, 0)) (kz BK158) hb); replace HB := am (below_step bz hb); (try clear hb); (try clear hb2); (try clear hk); (try clear hi); obtain ⟨hcz7_0, hcz7_1, hfz7_0, hfz7_1⟩ := kc2 BK158.out))
  go_loopg [5, 18] k (fun kq v5 v18 w' => ∃ (x5_1 x18_1 : Int), v5 = .int .i64 x5_1 ∧ v18 = .int .i64 x18_1 ∧ Aside0 (floor_Way.l0 kq x5_1 (l0_1.length : Int) x18_1 l0_0 l0_1 = some (r1, r2)) ∧ Aside0 (kq ≤ k) ∧ Aside0 (w'.heap[gb158]? = some (.cells #[(.slice A0_0 l0_0.length c0_0), (.slice A0_1 l0_1.length c0_1)] 25 (0, 0))) ∧ Aside0 (Below w.heap.size w w'))
  case atStart => exact ⟨(0), (0), sz, sz, H', ⟨Nat.le_refl _⟩, ⟨kz BK158⟩, ⟨bz⟩⟩
  case round =>
   clear H'
   try clear c1
   try clear c2
   try clear p2
   try clear c3
   try clear c3b0
   try clear c3b1
   try clear hcz5_0
   try clear hcz5_1
   try clear hcz7_0
   try clear hcz7_1
   try clear hfz5_0
   try clear hfz5_1
   try clear hfz7_0
   try clear hfz7_1
   obtain ⟨x5_1, x18_1, rfl, rfl, HA, HK1, BK158, HB⟩ := hrel
   cases gk with
   | zero => exact absurd HA.out (by simp [floor_Way.l0])
   | succ k1 =>
    have H := HA.out
    clear HA
    simp only [floor_Way.l0] at H
    by_cases c8 : x18_1 < (l0_1.length : Int)
    ·
     rw [if_pos c8] at H
     have c8b0 := decide_eq_true c8
     clear c8
     replace H := Option.bind_eq_some_iff.mp H
     obtain ⟨⟨t160, t161⟩, A90, H⟩ := H
     replace H : ((num_Root.f k1 (wrap64 ((wrap64 (t160 * t160)) + (wrap64 (t161 * t161))))).bind fun bt163 => (floor_Way.l0 k1 (wrap64 (x5_1 + bt163.1)) (l0_1.length : Int) (wrap64 (x18_1 + 1)) l0_0 l0_1)) = some (r1, r2) := H
     have A9 := am A90
     clear A90
     replace H := Option.bind_eq_some_iff.mp H
     obtain ⟨⟨t163, t164⟩, A100, H⟩ := H
     replace H : (floor_Way.l0 k1 (wrap64 (x5_1 + t163)) (l0_1.length : Int) (wrap64 (x18_1 + 1)) l0_0 l0_1) = some (r1, r2) := H
     have A10 := am A100
     clear A100
     have H' := am H
     clear H
     obtain ⟨hcz11_0, hcz11_1, hfz11_0, hfz11_1⟩ := kc2 BK158.out
     go_wp2_with (first | ((with_reducible refine gate_callee (f := 27) rfl ?_); refine goesL_ (some 23) rfl rfl Try.func27 qz rfl #[.agg #[.slice A0_0 l0_0.length c0_0, .slice A0_1 l0_1.length c0_1], .int .i64 x18_1] rfl mz ?_; (with_reducible refine (floor_step.calls _ _ l0_0 _ _ l0_1 x18_1 t160 t161 _ ?side1 ?side2 ?side3 ?side4 A9.out).mono ?_); (case side1 => exact cz HR0_0); (case side2 => exact HC0_0.out); (case side3 => exact cz HR0_1); (case side4 => exact HC0_1.out); rintro e w12 ⟨rfl, hb⟩; refine ⟨_, rfl, ?_⟩; replace BK158 := am (blk_below (o := .cells #[.slice A0_0 l0_0.length c0_0, .slice A0_1 l0_1.length c0_1] 25 (0, 0)) (kz BK158) hb); replace HB := am (below_step bz hb); (try clear hb); (try clear hb2); (try clear hk); (try clear hi)) | ((with_reducible refine gate_dst (N := 7) rfl ?_); refine box_event yz (N := 7) yz (cs := #[.int .i64 0, .int .i64 0]) (t := 35) gz ?_; intro gb162 hg w13 hbox hb; have BK162 := am (hbox); have GW162 := gwz (g := gb162) HB hg; have GE162 := GW162; replace HB := am (below_step bz hb); have NB158_162 := nlt (g' := gb162) BK158 hg; have NB162_158 := ngt (g' := gb162) BK158 hg; replace BK158 := am (blk_below (o := .cells #[.slice A0_0 l0_0.length c0_0, .slice A0_1 l0_1.length c0_1] 25 (0, 0)) (kz BK158) hb); clear hb hbox hg; have hnb14 := NB162_158.out; have hnc14 := NB158_162.out; obtain ⟨hcz15_0, hcz15_1, hfz15_0, hfz15_1⟩ := kc2 BK162.out) | ((with_reducible refine gate_callee (f := 24) rfl ?_); refine goesL_ (some 36) rfl rfl Try.func24 qz rfl #[.int .i64 (wrap64 ((wrap64 (t160 * t160)) + (wrap64 (t161 * t161))))] rfl mz ?_; (with_reducible refine (num_Root.calls k1 (wrap64 ((wrap64 (t160 * t160)) + (wrap64 (t161 * t161)))) t163 t164 _ A10.out).mono ?_); rintro e w' ⟨rfl, ⟨nd, rfl⟩⟩; refine ⟨_, rfl, ?_⟩))
     go_roundg k1
     case measure => have := HK1.out; omega
     case rel => exact ⟨(wrap64 (x5_1 + t163)), (wrap64 (x18_1 + 1)), sz, sz, H', ⟨by have := HK1.out; omega⟩, ⟨by (with_reducible repeat first | apply kN | apply kD | apply kA); refine blk_far ?_ NB158_162.out _; (with_reducible repeat first | apply kN | apply kD | apply kA); refine blk_far ?_ NB158_162.out _; (with_reducible repeat first | apply kN | apply kD | apply kA); exact BK158.out⟩, ⟨bz⟩⟩
    ·
     rw [if_neg c8] at H
     have c8b0 := decide_eq_false c8
     clear c8
     simp only [Option.some.injEq, Prod.mk.injEq] at H
     obtain ⟨rfl, rfl⟩ := H
     go_wp2
     go_ret2
     exact ⟨ez, bz⟩
 ·
  rw [if_neg c3] at H
  have c3b0 : (t159 == 0) = false := beq_eq_false_iff_ne.mpr c3
  have c3b1 : (t159 != 0) = true := bne_iff_ne.mpr c3
  simp only [Option.some.injEq, Prod.mk.injEq] at H
  obtain ⟨rfl, rfl⟩ := H
  go_enter Try.func17, Try.ntmps17
  go_wp2_with (first | ((with_reducible refine gate_dst (N := 1) rfl ?_); refine box_event yz (N := 1) yz (cs := #[.slice A0_0 l0_0.length c0_0, .slice A0_1 l0_1.length c0_1]) (t := 25) gz ?_; intro gb158 hg w16 hbox hb; have BK158 := am (hbox); have GW158 := gwz (g := gb158) HB hg; have GE158 := GW158; replace HB := am (below_step bz hb); clear hb hbox hg; obtain ⟨hcz17_0, hcz17_1, hfz17_0, hfz17_1⟩ := kc2 BK158.out) | ((with_reducible refine gate_callee (f := 21) rfl ?_); refine goesL_ (some 11) rfl rfl Try.func21 qz rfl #[.agg #[.slice A0_0 l0_0.length c0_0, .slice A0_1 l0_1.length c0_1]] rfl mz ?_; (with_reducible refine (movement_Check.calls k _ _ l0_0 _ _ l0_1 t159 _ ?side1 ?side2 ?side3 ?side4 A2.out).mono ?_); (case side1 => exact cz HR0_0); (case side2 => exact HC0_0.out); (case side3 => exact cz HR0_1); (case side4 => exact HC0_1.out); rintro e w18 ⟨rfl, hb⟩; refine ⟨_, rfl, ?_⟩; replace BK158 := am (blk_below (o := .cells #[.slice A0_0 l0_0.length c0_0, .slice A0_1 l0_1.length c0_1] 25 (0, 0)) (kz BK158) hb); replace HB := am (below_step bz hb); (try clear hb); (try clear hb2); (try clear hk); (try clear hi)))
  go_ret2
  exact ⟨ez, bz⟩

end Go.Proofs.Ytmdmajfgpmopbaa.X

namespace Go.Proofs.Ytmdmajfgpmopbaa.X
open Go.RowKit YtmdmajfgpmopbaaW.PrintWords YtmdmajfgpmopbaaW.PrintLast YtmdmajfgpmopbaaW.PrintMore
attribute [local go_sem] max2_int min2_int max_two min_two max_three min_three max_four min_four
set_option linter.unusedVariables false
set_option linter.unusedSimpArgs false

/-! ### dancestudiolaw43_of: function 25 -/
def dancestudiolaw43_of.l0 : Nat → List (S53) → List (S53) → List Int → Option ((List (S53)) × List Int)
 | 0, _, _, _ => none
 | k + 1, x0, x257000, x257001 => if (wrap64 ((x257001.length : Int) + 1)) < (x0.length : Int) then (if x257001.length < 17592186044416 then (dancestudiolaw43_of.l0 k x0 x257000 (x257001 ++ [3])) else (none)) else (some (x257000, x257001))
def dancestudiolaw43_of.f (k : Nat) (l0 : List (S53)) : Option ((List (S53)) × List Int) := dancestudiolaw43_of.l0 k l0 l0 ([] : List Int)
theorem dancestudiolaw43_of.mono_l : ∀ k, (∀ y0 y1 y2, LeO (dancestudiolaw43_of.l0 k y0 y1 y2) (dancestudiolaw43_of.l0 (k + 1) y0 y1 y2))
 | 0 => fun _ _ _ r h => by simp [dancestudiolaw43_of.l0] at h
 | k + 1 => by
  have ih0 := dancestudiolaw43_of.mono_l k
  ·
   intro y0 y1 y2
   unfold dancestudiolaw43_of.l0
   repeat' first
   | (with_reducible exact ih0 _ _ _)
   | (with_reducible exact LeO.refl _)
   | (with_reducible exact LeO.none _)
   | (with_reducible refine LeO.ite ?_ ?_)
   | (with_reducible refine LeO.bind ?_ (fun _ => ?_))
   | exact ih0 _ _ _
   | exact LeO.none _
   | refine LeO.ite ?_ ?_
   | refine LeO.bind ?_ (fun _ => ?_)
theorem dancestudiolaw43_of.mono : ∀ a0 k, LeO (dancestudiolaw43_of.f k a0) (dancestudiolaw43_of.f (k + 1) a0) := by
 intro a0 k
 have ih0 := dancestudiolaw43_of.mono_l k
 unfold dancestudiolaw43_of.f
 repeat' first
   | (with_reducible exact ih0 _ _ _)
   | (with_reducible exact LeO.refl _)
   | (with_reducible exact LeO.none _)
   | (with_reducible refine LeO.ite ?_ ?_)
   | (with_reducible refine LeO.bind ?_ (fun _ => ?_))
   | exact ih0 _ _ _
   | exact LeO.none _
   | refine LeO.ite ?_ ?_
   | refine LeO.bind ?_ (fun _ => ?_)
set_option maxHeartbeats 8000000 in
set_option maxRecDepth 100000 in
theorem dancestudiolaw43_of.calls (k : Nat) (P0_ : Nat → Prop) (A0 : Option Addr) (c0 : Nat) (l0 : List (S53)) (r1 : List (S53)) (r2 : List Int) (w : World) (hs0 : Kd.V k53 53 w w.heap.size (fun k_ => P0_ k_) (.slice A0 l0.length c0) l0) (h : dancestudiolaw43_of.f k l0 = some (r1, r2)) :
  Calls Try.prog 25 #[.slice A0 l0.length c0] w fun e w' => ∃ v0_ v1_ : Value, e = .returned (.agg #[v0_, v1_]) ∧ Kd.V k53 53 w' w.heap.size (fun k_ => (P0_ k_ ∨ w.heap.size ≤ k_) ∧ some k_ ≠ (v1_ : Value).ownBlock) v0_ r1 ∧ Kd.R (Kd.int .i64) 3 w' w.heap.size (fun k_ => (w.heap.size ≤ k_)) v1_ r2 ∧ Below w.heap.size w w' := by
 have hu25 := Try.underlying25
 have HO0 := am (show Kd.V k53 53 w w.heap.size (fun k_ => (P0_ k_ ∨ w.heap.size ≤ k_)) (.slice A0 l0.length c0) l0 from Kd.V_mono hs0 (fun k_ hk => .inl hk))
 have HB := am (Below.refl w.heap.size w)
 have H : (dancestudiolaw43_of.l0 k l0 l0 ([] : List Int)) = some (r1, r2) := h
 clear h
 have H' := am H
 clear H
 go_enter Try.func25, Try.ntmps25
 go_wp2_with (first | ((with_reducible refine gate_dst (N := 2) rfl ?_); refine box_event yz (N := 2) yz (cs := #[.slice none 0 0, .slice none 0 0]) (t := 25) gz ?_; intro gb255 hg w2 hbox hb; replace HO0 := am (Kd.V_below (Kd.V_elderB (by (with_reducible repeat (first | apply Kd.V_alloc | apply Kd.V_drewN | apply Kd.V_drew)); exact HO0.out) gb255 (Nat.le_of_eq hg.symm)) hb); have BK255 := am (hbox); have GW255 := gwz (g := gb255) HB hg; have GE255 := GW255; replace HB := am (below_step bz hb); clear hb hbox hg) | ((with_reducible refine gate_dst (N := 3) rfl ?_); refine box_event yz (N := 3) yz (cs := #[.slice none 0 0, .slice none 0 0]) (t := 25) gz ?_; intro gb256 hg w3 hbox hb; replace HO0 := am (Kd.V_below (Kd.V_elderB (by (with_reducible repeat (first | apply Kd.V_alloc | apply Kd.V_drewN | apply Kd.V_drew)); exact HO0.out) gb256 (Nat.le_of_eq hg.symm)) hb); have BK256 := am (hbox); have GW256 := gwz (g := gb256) HB hg; have GE256 := GW256; replace HB := am (below_step bz hb); have NB255_256 := nlt (g' := gb256) BK255 hg; have NB256_255 := ngt (g' := gb256) BK255 hg; replace BK255 := am (blk_below (o := .cells #[.slice none 0 0, .slice none 0 0] 25 (0, 0)) (kz BK255) hb); clear hb hbox hg; have hnb4 := NB256_255.out; have hnc4 := NB255_256.out; obtain ⟨hcz5_0, hcz5_1, hfz5_0, hfz5_1⟩ := kc2 BK256.out))
 go_loopg [] k (fun kq w' => ∃ (x257001_1 : List Int) (u257001 : Value), Aside0 (dancestudiolaw43_of.l0 kq l0 l0 x257001_1 = some (r1, r2)) ∧ Aside0 (kq ≤ k) ∧ Aside0 (Kd.V k53 53 w' w.heap.size (fun k_ => (P0_ k_ ∨ w.heap.size ≤ k_) ∧ some k_ ≠ (u257001 : Value).ownBlock ∧ k_ ≠ gb255 ∧ k_ ≠ gb256) (.slice A0 l0.length c0) l0) ∧ Aside0 (Kd.V k53 53 w' w.heap.size (fun k_ => (P0_ k_ ∨ w.heap.size ≤ k_) ∧ some k_ ≠ (u257001 : Value).ownBlock ∧ k_ ≠ gb255 ∧ k_ ≠ gb256) (.slice A0 l0.length c0) l0) ∧ Aside0 (Kd.R (Kd.int .i64) 3 w' w.heap.size (fun k_ => (w.heap.size ≤ k_)) u257001 x257001_1) ∧ Aside0 (w'.heap[gb255]? = some (.cells #[(.slice none 0 0), (.slice none 0 0)] 25 (0, 0))) ∧ Aside0 (w'.heap[gb256]? = some (.cells #[(.slice A0 l0.length c0), u257001] 25 (0, 0))) ∧ Aside0 (Below w.heap.size w w'))
 case atStart => exact ⟨(([] : List Int)), (.slice none 0 0), H', ⟨Nat.le_refl _⟩, ⟨by (with_reducible repeat (first | apply Kd.V_alloc | apply Kd.V_drewN | apply Kd.V_drew)); exact Kd.V_mono (Kd.V_far (p := ⟨gb256, 1, none⟩) (Kd.V_far (p := ⟨gb256, 0, none⟩) (Kd.V_mono HO0.out (fun k_ hk => (⟨hk, hk.2⟩ : _ ∧ k_ ≠ gb256))) (fun _ hk => hk.2) (.slice A0 l0.length c0)) (fun _ hk => hk.2) (.slice none 0 0)) (fun _ hk => ⟨hk.1.1.1, ⟨(by simp [Value.ownBlock]), ⟨hk.1.1.2, hk.1.2⟩⟩⟩)⟩, ⟨by (with_reducible repeat (first | apply Kd.V_alloc | apply Kd.V_drewN | apply Kd.V_drew)); exact Kd.V_mono (Kd.V_far (p := ⟨gb256, 1, none⟩) (Kd.V_far (p := ⟨gb256, 0, none⟩) (Kd.V_mono HO0.out (fun k_ hk => (⟨hk, hk.2⟩ : _ ∧ k_ ≠ gb256))) (fun _ hk => hk.2) (.slice A0 l0.length c0)) (fun _ hk => hk.2) (.slice none 0 0)) (fun _ hk => ⟨hk.1.1.1, ⟨(by simp [Value.ownBlock]), ⟨hk.1.1.2, hk.1.2⟩⟩⟩)⟩, ⟨by first | exact Kd.R_nil _ _ _ _ _ | exact Kd.N_nil _ _ _ _ _ | exact Kd.V_nil _ _ _ _ _ | exact Kd.Q_nil _ _ _ _ _ | exact Kd.S_nil _ _ _ _ _⟩, ⟨by (with_reducible repeat first | apply kN | apply kD | apply kA); refine blk_far ?_ NB255_256.out _; (with_reducible repeat first | apply kN | apply kD | apply kA); refine blk_far ?_ NB255_256.out _; (with_reducible repeat first | apply kN | apply kD | apply kA); exact BK255.out⟩, ⟨by (with_reducible repeat first | apply kN | apply kD | apply kA); refine blk_put (cs := #[.slice A0 l0.length c0, .slice none 0 0]) ?_ 1 _ rfl; (with_reducible repeat first | apply kN | apply kD | apply kA); refine blk_put (cs := #[.slice none 0 0, .slice none 0 0]) ?_ 0 _ rfl; (with_reducible repeat first | apply kN | apply kD | apply kA); exact BK256.out⟩, ⟨bz⟩⟩
 case round =>
  clear H'
  try clear c2
  try clear p2
  try clear c4
  try clear hcz5_0
  try clear hcz5_1
  try clear hfz5_0
  try clear hfz5_1
  obtain ⟨x257001_1, u257001, HA, HK1, HO_0, HO_257000, HO_257001, BK255, BK256, HB⟩ := hrel
  cases gk with
  | zero => exact absurd HA.out (by simp [dancestudiolaw43_of.l0])
  | succ k1 =>
   have H := HA.out
   clear HA
   simp only [dancestudiolaw43_of.l0] at H
   by_cases c6 : (wrap64 ((x257001_1.length : Int) + 1)) < (l0.length : Int)
   ·
    rw [if_pos c6] at H
    have c6b0 := decide_eq_true c6
    clear c6
    by_cases c7 : x257001_1.length < 17592186044416; rotate_left
    · rw [if_neg c7] at H; exact absurd H (by simp)
    rw [if_pos c7] at H
    have LMc7 := am c7
    clear c7
    obtain ⟨y257, hy257⟩ : ∃ y_ : List Int, y_ = (x257001_1 ++ [3]) := ⟨_, rfl⟩
    replace H : (dancestudiolaw43_of.l0 k1 l0 l0 y257) = some (r1, r2) := by first | (rw [hy257]; with_reducible exact H) | (have H2_ := (Option.bind_some _ _).symm.trans H; rw [hy257]; with_reducible exact H2_) | (have H2_ := (Option.bind_some _ _).symm.trans H; with_reducible exact H2_) | with_reducible exact H | (rw [hy257]; exact H) | exact H
    have Ny257 := am hy257
    clear hy257
    have H' := am H
    clear H
    have hnb8 := NB256_255.out
    have hnc8 := NB255_256.out
    obtain ⟨hcz9_0, hcz9_1, hfz9_0, hfz9_1⟩ := kc2 BK256.out
    obtain ⟨Ao10, co10, eo10⟩ := Kd.R_slice HO_257001.out
    subst eo10
    go_wp2_with (first | ((with_reducible refine gate_builtin (b := .append) (xs := #[.tmp 14, .tmp 15]) rfl ?_); at_builtin; refine Kd.R_append (Kd.int .i64) (w0 := w) w.heap.size rfl (.tmp 14) (.tmp 15) 23 3 (.int .i64 0) 8 rfl Try.underlying23 info3 rfl (by decide) (by omega) (.slice Ao10 x257001_1.length co10) x257001_1 3 [.int .i64 3] (fun k_ => (w.heap.size ≤ k_)) (fun _ => False) rfl rfl ?aP (fun _ hk => hk.elim) ?aF ?aO ?aB ?aS ?aL ?_; (case aP => exact rfl); (case aB => exact bz); (case aF => exact (fun k_ hk => (Nat.le_trans (below_size bz) hk))); (case aO => exact (rz HO_257001)); (case aS => exact (below_size bz)); (case aL => have := LMc7.out; omega); intro v258 w11 ho hb hg hat; rw [← Ny257.out] at ho; replace HO_0 := am (Kd.V_afterv (ok := (fun k_ => (P0_ k_ ∨ w.heap.size ≤ k_) ∧ k_ ≠ gb255 ∧ k_ ≠ gb256)) (by (with_reducible repeat (first | apply Kd.V_alloc | apply Kd.V_drewN | apply Kd.V_drew)); exact Kd.V_mono HO_0.out (fun _ hk => ⟨⟨hk.1, ⟨hk.2.2.1, hk.2.2.2⟩⟩, hk.2.1⟩)) hg hat); replace HO_257000 := am (Kd.V_afterv (ok := (fun k_ => (P0_ k_ ∨ w.heap.size ≤ k_) ∧ k_ ≠ gb255 ∧ k_ ≠ gb256)) (by (with_reducible repeat (first | apply Kd.V_alloc | apply Kd.V_drewN | apply Kd.V_drew)); exact Kd.V_mono HO_257000.out (fun _ hk => ⟨⟨hk.1, ⟨hk.2.2.1, hk.2.2.2⟩⟩, hk.2.1⟩)) hg hat); replace BK255 := am (blk_grown (g := gb255) (o := .cells #[.slice none 0 0, .slice none 0 0] 25 (0, 0)) (kz BK255) hg (Kd.R_ne HO_257001.out BK255.out (by decide))); replace BK256 := am (blk_grown (g := gb256) (o := .cells #[.slice A0 l0.length c0, .slice Ao10 x257001_1.length co10] 25 (0, 0)) (kz BK256) hg (Kd.R_ne HO_257001.out BK256.out (by decide))); replace HB := am (hb); have HO259 := am (ho); clear HO_257001; clear ho hb hg hat; obtain ⟨Ao12, co12, eo12⟩ := Kd.R_slice HO259.out; subst eo12; obtain ⟨hcz13_0, hcz13_1, hfz13_0, hfz13_1⟩ := kc2 BK256.out))
    go_roundg k1
    case measure => have := HK1.out; omega
    case rel => exact ⟨(y257), (.slice Ao12 y257.length co12), H', ⟨by have := HK1.out; omega⟩, ⟨by (with_reducible repeat (first | apply Kd.V_alloc | apply Kd.V_drewN | apply Kd.V_drew)); exact Kd.V_mono (Kd.V_far (p := ⟨gb256, 1, none⟩) (Kd.V_mono HO_0.out (fun k_ hk => (⟨hk, hk.1.2.2⟩ : _ ∧ k_ ≠ gb256))) (fun _ hk => hk.2) (.slice Ao12 y257.length co12)) (fun _ hk => ⟨hk.1.1.1, ⟨hk.1.2, ⟨hk.1.1.2.1, hk.1.1.2.2⟩⟩⟩)⟩, ⟨by (with_reducible repeat (first | apply Kd.V_alloc | apply Kd.V_drewN | apply Kd.V_drew)); exact Kd.V_mono (Kd.V_far (p := ⟨gb256, 1, none⟩) (Kd.V_mono HO_257000.out (fun k_ hk => (⟨hk, hk.1.2.2⟩ : _ ∧ k_ ≠ gb256))) (fun _ hk => hk.2) (.slice Ao12 y257.length co12)) (fun _ hk => ⟨hk.1.1.1, ⟨hk.1.2, ⟨hk.1.1.2.1, hk.1.1.2.2⟩⟩⟩)⟩, ⟨by (with_reducible repeat first | apply rA | apply rN | apply rD); exact Kd.R_mono (Kd.R_far (p := ⟨gb256, 1, none⟩) (Kd.R_types HO259.out BK256.out (by decide)) (fun _ hk => hk.2) (.slice Ao12 y257.length co12)) (fun _ hk => hk.1)⟩, ⟨by (with_reducible repeat first | apply kN | apply kD | apply kA); refine blk_far ?_ NB255_256.out _; (with_reducible repeat first | apply kN | apply kD | apply kA); exact BK255.out⟩, ⟨by (with_reducible repeat first | apply kN | apply kD | apply kA); refine blk_put (cs := #[.slice A0 l0.length c0, .slice Ao10 x257001_1.length co10]) ?_ 1 _ rfl; (with_reducible repeat first | apply kN | apply kD | apply kA); exact BK256.out⟩, ⟨bz⟩⟩
   ·
    rw [if_neg c6] at H
    have c6b0 := decide_eq_false c6
    clear c6
    simp only [Option.some.injEq, Prod.mk.injEq] at H
    obtain ⟨rfl, rfl⟩ := H
    have hnb14 := NB256_255.out
    have hnc14 := NB255_256.out
    obtain ⟨hcz15_0, hcz15_1, hfz15_0, hfz15_1⟩ := kc2 BK256.out
    obtain ⟨Ao16, co16, eo16⟩ := Kd.R_slice HO_257001.out
    subst eo16
    obtain ⟨hcz17_0, hcz17_1, hfz17_0, hfz17_1⟩ := kc2 BK255.out
    go_wp2
    refine bodyPost_ret (results_cell_row rfl _ _ gb255 25 #[.slice A0 l0.length c0, .slice Ao16 x257001_1.length co16] (0, 0) _ rfl (by (with_reducible repeat first | apply kN | apply kD | apply kA); refine blk_put (cs := #[.slice A0 l0.length c0, .slice none 0 0]) ?_ 1 _ rfl; (with_reducible repeat first | apply kN | apply kD | apply kA); refine blk_put (cs := #[.slice none 0 0, .slice none 0 0]) ?_ 0 _ rfl; (with_reducible repeat first | apply kN | apply kD | apply kA); exact BK255.out) Try.underlying25 rfl qz) rfl ?_
    exact ⟨_, _, ez, by (with_reducible repeat (first | apply Kd.V_alloc | apply Kd.V_drewN | apply Kd.V_drew)); exact Kd.V_mono (Kd.V_far (p := ⟨gb255, 1, none⟩) (Kd.V_far (p := ⟨gb255, 0, none⟩) (Kd.V_mono HO_257000.out (fun k_ hk => (⟨hk, hk.2.2.1⟩ : _ ∧ k_ ≠ gb255))) (fun _ hk => hk.2) (.slice A0 l0.length c0)) (fun _ hk => hk.2) (.slice Ao16 x257001_1.length co16)) (fun _ hk => ⟨hk.1.1, hk.1.2.1⟩), by (with_reducible repeat first | apply rA | apply rN | apply rD); exact Kd.R_mono (Kd.R_far (p := ⟨gb255, 1, none⟩) (Kd.R_far (p := ⟨gb255, 0, none⟩) (Kd.R_types HO_257001.out BK255.out (by decide)) (fun _ hk => hk.2) (.slice A0 l0.length c0)) (fun _ hk => hk.2) (.slice Ao16 x257001_1.length co16)) (fun _ hk => hk.1), bz⟩

end Go.Proofs.Ytmdmajfgpmopbaa.X

namespace Go.Proofs.Ytmdmajfgpmopbaa.X
open Go.RowKit YtmdmajfgpmopbaaW.PrintWords YtmdmajfgpmopbaaW.PrintLast YtmdmajfgpmopbaaW.PrintMore
attribute [local go_sem] max2_int min2_int max_two min_two max_three min_three max_four min_four
set_option linter.unusedVariables false
set_option linter.unusedSimpArgs false

/-! ### dancestudiolaw43_pose: function 26 -/
def dancestudiolaw43_pose.f (a0 a1 : Int) : Option (Int × Int × Int × Int × Int × Int × Int × Int × Int × Int × Int × Int × Int × Int × Int × Int × Int × Int × Int × Int × Int × Int) := some (a0, a1, 0, 0, 0, (-64), 0, 0, (-64), 0, 0, 64, 0, 0, (-64), 0, 0, (-64), 0, 0, 64, 0)
set_option maxHeartbeats 8000000 in
set_option maxRecDepth 100000 in
theorem dancestudiolaw43_pose.calls (a0 a1 r1 r2 r3 r4 r5 r6 r7 r8 r9 r10 r11 r12 r13 r14 r15 r16 r17 r18 r19 r20 r21 r22 : Int) (w : World) (h : dancestudiolaw43_pose.f a0 a1 = some (r1, r2, r3, r4, r5, r6, r7, r8, r9, r10, r11, r12, r13, r14, r15, r16, r17, r18, r19, r20, r21, r22)) :
  Calls Try.prog 26 #[.int .i64 a0, .int .i64 a1] w fun e w' => e = .returned (.agg #[.int .i64 r1, .int .i64 r2, .int .i64 r3, .int .i64 r4, .int .i64 r5, .int .i64 r6, .int .i64 r7, .int .i64 r8, .int .i64 r9, .int .i64 r10, .int .i64 r11, .int .i64 r12, .int .i64 r13, .int .i64 r14, .int .i64 r15, .int .i64 r16, .int .i64 r17, .int .i64 r18, .int .i64 r19, .int .i64 r20, .int .i64 r21, .int .i64 r22]) ∧ Below w.heap.size w w' := by
  have hu53 := Try.underlying53
  have hu50 := Try.underlying50
  have hu35 := Try.underlying35
  have HB := am (Below.refl w.heap.size w)
  simp only [dancestudiolaw43_pose.f, Option.some.injEq, Prod.mk.injEq] at h
  obtain ⟨rfl, rfl, rfl, rfl, rfl, rfl, rfl, rfl, rfl, rfl, rfl, rfl, rfl, rfl, rfl, rfl, rfl, rfl, rfl, rfl, rfl, rfl⟩ := h
  go_enter Try.func26, Try.ntmps26
  go_wp2_with (first
    | ((with_reducible refine gate_dst (N := 4) rfl ?_); refine box_event yz (N := 4) yz (cs := #[.int .i64 0, .int .i64 0, .int .i64 0, .int .i64 0, .int .i64 0, .int .i64 0, .int .i64 0, .int .i64 0, .int .i64 0, .int .i64 0, .int .i64 0, .int .i64 0, .int .i64 0, .int .i64 0, .int .i64 0, .int .i64 0, .int .i64 0, .int .i64 0, .int .i64 0, .int .i64 0, .int .i64 0, .int .i64 0]) (t := 53) gz ?_; intro g4 hg w1 hbox hb; have HB1 := am (below_step HB.out hb); have GE4 := am (show w.heap.size ≤ g4 by rw [hg]; exact HB.out.size); have BK4 := am hbox; clear hbox hb hg HB)
    | ((with_reducible refine gate_dst (N := 5) rfl ?_); refine box_event yz (N := 5) yz (cs := #[.int .i64 0, .int .i64 0, .int .i64 0]) (t := 50) gz ?_; intro g5 hg w2 hbox hb; have HB2 := am (below_step HB1.out hb); have GE5 := am (show w.heap.size ≤ g5 by rw [hg]; exact HB1.out.size); have N45 := am (show g4 ≠ g5 by rw [hg]; exact Nat.ne_of_lt (blk_lt BK4.out)); have BK4' := am (blk_below BK4.out hb); have BK5 := am hbox; clear hbox hb hg HB1 BK4)
    | ((with_reducible refine gate_dst (N := 6) rfl ?_); refine box_event yz (N := 6) yz (cs := #[.int .i64 0, .int .i64 0, .int .i64 0]) (t := 50) gz ?_; intro g6 hg w3 hbox hb; have HB3 := am (below_step HB2.out hb); have GE6 := am (show w.heap.size ≤ g6 by rw [hg]; exact HB2.out.size); have N56 := am (show g5 ≠ g6 by rw [hg]; exact Nat.ne_of_lt (blk_lt BK5.out)); have N46 := am (show g4 ≠ g6 by rw [hg]; exact Nat.ne_of_lt (blk_lt BK4'.out)); have BK4 := am (blk_below BK4'.out hb); have BK5' := am (blk_below BK5.out hb); have BK6 := am hbox; clear hbox hb hg HB2 BK4' BK5)
    | ((with_reducible refine row_gate (t := 50) (p := 5) rfl ?_); refine row_event ?h0 50 (.tmp 5) (.tmp 7) ?ho ?hd g5 #[.int .i64 0, .int .i64 (-64), .int .i64 0] ?hx ?hy _ _ BK5'.out ?hi ?hs ?h1 ?_; (case h0 => rfl); (case ho => rfl); (case hd => rfl); (case hx => rfl); (case hy => rfl); (case hi => rfl); (case hs => rfl); (case h1 => simp [Value.oneCell']); intro w4 hbox ho hb; have HB4 := am (hb _ _ HB3.out GE5.out); have BK4' := am ((ho g4 N45.out).trans BK4.out); have BK6' := am ((ho g6 N56.out.symm).trans BK6.out); have BK5 := am hbox; clear hbox ho hb HB3 BK4 BK6 BK5')
    | ((with_reducible refine row_gate (t := 50) (p := 6) rfl ?_); refine row_event ?h0 50 (.tmp 6) (.tmp 8) ?ho ?hd g6 #[.int .i64 0, .int .i64 64, .int .i64 0] ?hx ?hy _ _ BK6'.out ?hi ?hs ?h1 ?_; (case h0 => rfl); (case ho => rfl); (case hd => rfl); (case hx => rfl); (case hy => rfl); (case hi => rfl); (case hs => rfl); (case h1 => simp [Value.oneCell']); intro w5 hbox ho hb; have HB5 := am (hb _ _ HB4.out GE6.out); have BK4 := am ((ho g4 N46.out).trans BK4'.out); have hz0 : w5.cell? ⟨g5, 0, none⟩ = some (.int .i64 0) := (blk_cell ((ho g5 N56.out).trans BK5.out) 0).trans rfl; have hz1 : w5.cell? ⟨g5, 1, none⟩ = some (.int .i64 (-64)) := (blk_cell ((ho g5 N56.out).trans BK5.out) 1).trans rfl; have hz2 : w5.cell? ⟨g5, 2, none⟩ = some (.int .i64 0) := (blk_cell ((ho g5 N56.out).trans BK5.out) 2).trans rfl; have hy0 : w5.cell? ⟨g6, 0, none⟩ = some (.int .i64 0) := (blk_cell hbox 0).trans rfl; have hy1 : w5.cell? ⟨g6, 1, none⟩ = some (.int .i64 64) := (blk_cell hbox 1).trans rfl; have hy2 : w5.cell? ⟨g6, 2, none⟩ = some (.int .i64 0) := (blk_cell hbox 2).trans rfl; clear hbox ho hb HB4 BK4' BK6' BK5)
    | ((with_reducible refine row_gate (t := 53) (p := 4) rfl ?_); refine row_event ?h0 53 (.tmp 4) (.tmp 19) ?ho ?hd g4 #[.int .i64 a0, .int .i64 a1, .int .i64 0, .int .i64 0, .int .i64 0, .int .i64 (-64), .int .i64 0, .int .i64 0, .int .i64 (-64), .int .i64 0, .int .i64 0, .int .i64 64, .int .i64 0, .int .i64 0, .int .i64 (-64), .int .i64 0, .int .i64 0, .int .i64 (-64), .int .i64 0, .int .i64 0, .int .i64 64, .int .i64 0] ?hx ?hy _ _ BK4.out ?hi ?hs ?h1 ?_; (case h0 => rfl); (case ho => rfl); (case hd => rfl); (case hx => rfl); (case hy => rfl); (case hi => rfl); (case hs => rfl); (case h1 => simp [Value.oneCell']); intro w6 hbox ho hb; have HB6 := am (hb _ _ HB5.out GE4.out); have BK4' := am hbox; clear hbox ho hb HB5 BK4))
  refine bodyPost_ret (results_cell_row rfl _ _ g4 53 #[.int .i64 a0, .int .i64 a1, .int .i64 0, .int .i64 0, .int .i64 0, .int .i64 (-64), .int .i64 0, .int .i64 0, .int .i64 (-64), .int .i64 0, .int .i64 0, .int .i64 64, .int .i64 0, .int .i64 0, .int .i64 (-64), .int .i64 0, .int .i64 0, .int .i64 (-64), .int .i64 0, .int .i64 0, .int .i64 64, .int .i64 0] (0, 0) _ rfl BK4'.out rfl rfl rfl) rfl ?_
  exact ⟨rfl, HB6.out⟩

end Go.Proofs.Ytmdmajfgpmopbaa.X
