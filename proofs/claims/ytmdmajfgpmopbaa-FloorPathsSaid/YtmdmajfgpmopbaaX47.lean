import Derived.Test.YtmdmajfgpmopbaaX0
import Derived.Test.YtmdmajfgpmopbaaX42
import Derived.Test.YtmdmajfgpmopbaaX43
import Derived.Test.YtmdmajfgpmopbaaX46
namespace Go.Proofs.Ytmdmajfgpmopbaa.X
open Go.RowKit YtmdmajfgpmopbaaW.PrintWords YtmdmajfgpmopbaaW.PrintLast YtmdmajfgpmopbaaW.PrintMore
attribute [local go_sem] max2_int min2_int max_two min_two max_three min_three max_four min_four
set_option linter.unusedVariables false
set_option linter.unusedSimpArgs false

/-! ### dancestudioref43_Way: function 18 -/
def dancestudioref43_Way.l0 : Nat → Int → Int → List (S53) → List Int → Option (Int × Int)
 | 0, _, _, _, _ => none
 | k + 1, x5, x6, x319000, x319001 => if x6 < (x319001.length : Int) then ((dancestudioref43_step.f x319000 x319001 x6).bind fun bt320 => ((dancestudioref01_Root.f k (wrap64 ((wrap64 (bt320.1 * bt320.1)) + (wrap64 (bt320.2 * bt320.2))))).bind fun bt323 => (dancestudioref43_Way.l0 k (wrap64 (x5 + bt323.1)) (wrap64 (x6 + 1)) x319000 x319001))) else (some (x5, 0))
def dancestudioref43_Way.f (k : Nat) (l0_0 : List (S53)) (l0_1 : List Int) : Option (Int × Int) := (dancestudioref29_Check.f k l0_0 l0_1).bind fun t319 => (if t319 = 0 then (dancestudioref43_Way.l0 k 0 0 l0_0 l0_1) else (some (0, t319)))
theorem dancestudioref43_Way.mono_l : ∀ k, (∀ y0 y1 y2 y3, LeO (dancestudioref43_Way.l0 k y0 y1 y2 y3) (dancestudioref43_Way.l0 (k + 1) y0 y1 y2 y3))
 | 0 => fun _ _ _ _ r h => by simp [dancestudioref43_Way.l0] at h
 | k + 1 => by
  have ih0 := dancestudioref43_Way.mono_l k
  ·
   intro y0 y1 y2 y3
   unfold dancestudioref43_Way.l0
   repeat' first
   | (with_reducible exact ih0 _ _ _ _)
   | (with_reducible exact dancestudioref01_Root.mono _ _)
   | (with_reducible exact dancestudioref29_Check.mono _ _ _)
   | (with_reducible exact LeO.refl _)
   | (with_reducible exact LeO.none _)
   | (with_reducible refine LeO.ite ?_ ?_)
   | (with_reducible refine LeO.bind ?_ (fun _ => ?_))
   | exact ih0 _ _ _ _
   | exact dancestudioref01_Root.mono _ _
   | exact dancestudioref29_Check.mono _ _ _
   | exact LeO.none _
   | refine LeO.ite ?_ ?_
   | refine LeO.bind ?_ (fun _ => ?_)
theorem dancestudioref43_Way.mono : ∀ a0 a1 k, LeO (dancestudioref43_Way.f k a0 a1) (dancestudioref43_Way.f (k + 1) a0 a1) := by
 intro a0 a1 k
 have ih0 := dancestudioref43_Way.mono_l k
 unfold dancestudioref43_Way.f
 repeat' first
   | (with_reducible exact ih0 _ _ _ _)
   | (with_reducible exact dancestudioref01_Root.mono _ _)
   | (with_reducible exact dancestudioref29_Check.mono _ _ _)
   | (with_reducible exact LeO.refl _)
   | (with_reducible exact LeO.none _)
   | (with_reducible refine LeO.ite ?_ ?_)
   | (with_reducible refine LeO.bind ?_ (fun _ => ?_))
   | exact ih0 _ _ _ _
   | exact dancestudioref01_Root.mono _ _
   | exact dancestudioref29_Check.mono _ _ _
   | exact LeO.none _
   | refine LeO.ite ?_ ?_
   | refine LeO.bind ?_ (fun _ => ?_)
set_option maxHeartbeats 8000000 in
set_option maxRecDepth 100000 in
theorem dancestudioref43_Way.calls (k : Nat) (A0_0 : Option Addr) (c0_0 : Nat) (l0_0 : List (S53)) (A0_1 : Option Addr) (c0_1 : Nat) (l0_1 : List Int) (r1 r2 : Int) (w : World) (hr0_0 : Kd.C k53 w A0_0 l0_0.length l0_0) (hc0_0 : l0_0.length ≤ c0_0) (hr0_1 : Kd.C (Kd.int .i64) w A0_1 l0_1.length l0_1) (hc0_1 : l0_1.length ≤ c0_1) (h : dancestudioref43_Way.f k l0_0 l0_1 = some (r1, r2)) :
  Calls Try.prog 18 #[.agg #[.slice A0_0 l0_0.length c0_0, .slice A0_1 l0_1.length c0_1]] w fun e w' => e = .returned (.tuple #[.int .i64 r1, .int .i64 r2]) ∧ Below w.heap.size w w' := by
 have hu25 := Try.underlying25
 have hu35 := Try.underlying35
 have HR0_0 := am hr0_0
 have HC0_0 := am hc0_0
 clear hr0_0 hc0_0
 have HR0_1 := am hr0_1
 have HC0_1 := am hc0_1
 clear hr0_1 hc0_1
 have HB := am (Below.refl w.heap.size w)
 have H : ((dancestudioref29_Check.f k l0_0 l0_1).bind fun t319 => (if t319 = 0 then (dancestudioref43_Way.l0 k 0 0 l0_0 l0_1) else (some (0, t319)))) = some (r1, r2) := h
 clear h
 replace H := Option.bind_eq_some_iff.mp H
 obtain ⟨t319, A20, H⟩ := H
 replace H : (if t319 = 0 then (dancestudioref43_Way.l0 k 0 0 l0_0 l0_1) else (some (0, t319))) = some (r1, r2) := H
 have A2 := am A20
 clear A20
 by_cases c3 : t319 = 0
 ·
  rw [if_pos c3] at H
  have c3b0 : (t319 == 0) = true := beq_iff_eq.mpr c3
  have c3b1 : (t319 != 0) = false := bne_eq_false_iff_eq.mpr c3
  clear c3
  have H' := am H
  clear H
  go_enter Try.func18, Try.ntmps18
  go_wp2_with (first | ((with_reducible refine gate_dst (N := 1) rfl ?_); refine box_event yz (N := 1) yz (cs := #[.slice A0_0 l0_0.length c0_0, .slice A0_1 l0_1.length c0_1]) (t := 25) gz ?_; intro gb318 hg w4 hbox hb; have BK318 := am (hbox); have GW318 := gwz (g := gb318) HB hg; have GE318 := GW318; replace HB := am (below_step bz hb); clear hb hbox hg; obtain ⟨hcz5_0, hcz5_1, hfz5_0, hfz5_1⟩ := kc2 BK318.out) | ((with_reducible refine gate_callee (f := 28) rfl ?_); refine goesL_ (some 11) rfl rfl Try.func28 qz rfl #[.agg #[.slice A0_0 l0_0.length c0_0, .slice A0_1 l0_1.length c0_1]] rfl mz ?_; (with_reducible refine (dancestudioref29_Check.calls k _ _ l0_0 _ _ l0_1 t319 _ ?side1 ?side2 ?side3 ?side4 A2.out).mono ?_); (case side1 => exact cz HR0_0); (case side2 => exact HC0_0.out); (case side3 => exact cz HR0_1); (case side4 => exact HC0_1.out); rintro e w6 ⟨rfl, hb⟩; refine ⟨_, rfl, ?_⟩; replace BK318 := am (blk_below (o := .cells #[.slice A0_0 l0_0.length c0_0, .slice A0_1 l0_1.length c0_1] 25 (0, 0)) (kz BK318) hb); replace HB := am (below_step bz hb); (try clear hb); (try clear hb2); (try clear hk); (try clear hi)))
  go_loopg [5, 6] k (fun kq v5 v6 w' => ∃ (x5_1 x6_1 : Int), v5 = .int .i64 x5_1 ∧ v6 = .int .i64 x6_1 ∧ Aside0 (dancestudioref43_Way.l0 kq x5_1 x6_1 l0_0 l0_1 = some (r1, r2)) ∧ Aside0 (kq ≤ k) ∧ Aside0 (w'.heap[gb318]? = some (.cells #[(.slice A0_0 l0_0.length c0_0), (.slice A0_1 l0_1.length c0_1)] 25 (0, 0))) ∧ Aside0 (Below w.heap.size w w'))
  case atStart => exact ⟨(0), (0), sz, sz, H', ⟨Nat.le_refl _⟩, ⟨kz BK318⟩, ⟨bz⟩⟩
  case round =>
   clear H'
   try clear c1
   try clear c2
   try clear p2
   try clear c3
   try clear c3b0
   try clear c3b1
   try clear hcz5_0
   try clear hcz5_1
   try clear hfz5_0
   try clear hfz5_1
   obtain ⟨x5_1, x6_1, rfl, rfl, HA, HK1, BK318, HB⟩ := hrel
   cases gk with
   | zero => exact absurd HA.out (by simp [dancestudioref43_Way.l0])
   | succ k1 =>
    have H := HA.out
    clear HA
    simp only [dancestudioref43_Way.l0] at H
    by_cases c7 : x6_1 < (l0_1.length : Int)
    ·
     rw [if_pos c7] at H
     have c7b0 := decide_eq_true c7
     clear c7
     replace H := Option.bind_eq_some_iff.mp H
     obtain ⟨⟨t320, t321⟩, A80, H⟩ := H
     replace H : ((dancestudioref01_Root.f k1 (wrap64 ((wrap64 (t320 * t320)) + (wrap64 (t321 * t321))))).bind fun bt323 => (dancestudioref43_Way.l0 k1 (wrap64 (x5_1 + bt323.1)) (wrap64 (x6_1 + 1)) l0_0 l0_1)) = some (r1, r2) := H
     have A8 := am A80
     clear A80
     replace H := Option.bind_eq_some_iff.mp H
     obtain ⟨⟨t323, t324⟩, A90, H⟩ := H
     replace H : (dancestudioref43_Way.l0 k1 (wrap64 (x5_1 + t323)) (wrap64 (x6_1 + 1)) l0_0 l0_1) = some (r1, r2) := H
     have A9 := am A90
     clear A90
     have H' := am H
     clear H
     obtain ⟨hcz10_0, hcz10_1, hfz10_0, hfz10_1⟩ := kc2 BK318.out
     go_wp2_with (first | ((with_reducible refine gate_callee (f := 29) rfl ?_); refine goesL_ (some 24) rfl rfl Try.func29 qz rfl #[.agg #[.slice A0_0 l0_0.length c0_0, .slice A0_1 l0_1.length c0_1], .int .i64 x6_1] rfl mz ?_; (with_reducible refine (dancestudioref43_step.calls _ _ l0_0 _ _ l0_1 x6_1 t320 t321 _ ?side1 ?side2 ?side3 ?side4 A8.out).mono ?_); (case side1 => exact cz HR0_0); (case side2 => exact HC0_0.out); (case side3 => exact cz HR0_1); (case side4 => exact HC0_1.out); rintro e w11 ⟨rfl, hb⟩; refine ⟨_, rfl, ?_⟩; replace BK318 := am (blk_below (o := .cells #[.slice A0_0 l0_0.length c0_0, .slice A0_1 l0_1.length c0_1] 25 (0, 0)) (kz BK318) hb); replace HB := am (below_step bz hb); (try clear hb); (try clear hb2); (try clear hk); (try clear hi)) | ((with_reducible refine gate_dst (N := 7) rfl ?_); refine box_event yz (N := 7) yz (cs := #[.int .i64 0, .int .i64 0]) (t := 35) gz ?_; intro gb322 hg w12 hbox hb; have BK322 := am (hbox); have GW322 := gwz (g := gb322) HB hg; have GE322 := GW322; replace HB := am (below_step bz hb); have NB318_322 := nlt (g' := gb322) BK318 hg; have NB322_318 := ngt (g' := gb322) BK318 hg; replace BK318 := am (blk_below (o := .cells #[.slice A0_0 l0_0.length c0_0, .slice A0_1 l0_1.length c0_1] 25 (0, 0)) (kz BK318) hb); clear hb hbox hg; have hnb13 := NB322_318.out; have hnc13 := NB318_322.out; obtain ⟨hcz14_0, hcz14_1, hfz14_0, hfz14_1⟩ := kc2 BK322.out) | ((with_reducible refine gate_callee (f := 30) rfl ?_); refine goesL_ (some 37) rfl rfl Try.func30 qz rfl #[.int .i64 (wrap64 ((wrap64 (t320 * t320)) + (wrap64 (t321 * t321))))] rfl mz ?_; (with_reducible refine (dancestudioref01_Root.calls k1 (wrap64 ((wrap64 (t320 * t320)) + (wrap64 (t321 * t321)))) t323 t324 _ A9.out).mono ?_); rintro e w' ⟨rfl, ⟨nd, rfl⟩⟩; refine ⟨_, rfl, ?_⟩))
     go_roundg k1
     case measure => have := HK1.out; omega
     case rel => exact ⟨(wrap64 (x5_1 + t323)), (wrap64 (x6_1 + 1)), sz, sz, H', ⟨by have := HK1.out; omega⟩, ⟨by (with_reducible repeat first | apply kN | apply kD | apply kA); refine blk_far ?_ NB318_322.out _; (with_reducible repeat first | apply kN | apply kD | apply kA); refine blk_far ?_ NB318_322.out _; (with_reducible repeat first | apply kN | apply kD | apply kA); exact BK318.out⟩, ⟨bz⟩⟩
    ·
     rw [if_neg c7] at H
     have c7b0 := decide_eq_false c7
     clear c7
     simp only [Option.some.injEq, Prod.mk.injEq] at H
     obtain ⟨rfl, rfl⟩ := H
     obtain ⟨hcz15_0, hcz15_1, hfz15_0, hfz15_1⟩ := kc2 BK318.out
     go_wp2
     go_ret2
     exact ⟨ez, bz⟩
 ·
  rw [if_neg c3] at H
  have c3b0 : (t319 == 0) = false := beq_eq_false_iff_ne.mpr c3
  have c3b1 : (t319 != 0) = true := bne_iff_ne.mpr c3
  simp only [Option.some.injEq, Prod.mk.injEq] at H
  obtain ⟨rfl, rfl⟩ := H
  go_enter Try.func18, Try.ntmps18
  go_wp2_with (first | ((with_reducible refine gate_dst (N := 1) rfl ?_); refine box_event yz (N := 1) yz (cs := #[.slice A0_0 l0_0.length c0_0, .slice A0_1 l0_1.length c0_1]) (t := 25) gz ?_; intro gb318 hg w16 hbox hb; have BK318 := am (hbox); have GW318 := gwz (g := gb318) HB hg; have GE318 := GW318; replace HB := am (below_step bz hb); clear hb hbox hg; obtain ⟨hcz17_0, hcz17_1, hfz17_0, hfz17_1⟩ := kc2 BK318.out) | ((with_reducible refine gate_callee (f := 28) rfl ?_); refine goesL_ (some 11) rfl rfl Try.func28 qz rfl #[.agg #[.slice A0_0 l0_0.length c0_0, .slice A0_1 l0_1.length c0_1]] rfl mz ?_; (with_reducible refine (dancestudioref29_Check.calls k _ _ l0_0 _ _ l0_1 t319 _ ?side1 ?side2 ?side3 ?side4 A2.out).mono ?_); (case side1 => exact cz HR0_0); (case side2 => exact HC0_0.out); (case side3 => exact cz HR0_1); (case side4 => exact HC0_1.out); rintro e w18 ⟨rfl, hb⟩; refine ⟨_, rfl, ?_⟩; replace BK318 := am (blk_below (o := .cells #[.slice A0_0 l0_0.length c0_0, .slice A0_1 l0_1.length c0_1] 25 (0, 0)) (kz BK318) hb); replace HB := am (below_step bz hb); (try clear hb); (try clear hb2); (try clear hk); (try clear hi)))
  go_ret2
  exact ⟨ez, bz⟩

end Go.Proofs.Ytmdmajfgpmopbaa.X
