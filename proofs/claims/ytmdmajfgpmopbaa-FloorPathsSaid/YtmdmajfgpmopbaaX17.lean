import Derived.Test.YtmdmajfgpmopbaaX0
import Derived.Test.YtmdmajfgpmopbaaX10
import Derived.Test.YtmdmajfgpmopbaaX11
import Derived.Test.YtmdmajfgpmopbaaX16
namespace Go.Proofs.Ytmdmajfgpmopbaa.X
open Go.RowKit YtmdmajfgpmopbaaW.PrintWords YtmdmajfgpmopbaaW.PrintLast YtmdmajfgpmopbaaW.PrintMore
attribute [local go_sem] max2_int min2_int max_two min_two max_three min_three max_four min_four
set_option linter.unusedVariables false
set_option linter.unusedSimpArgs false

/-! ### floor_Way: function 17 -/
def floor_Way.l0 : Nat → Int → Int → Int → List (S53) → List Int → Option (Int × Int)
 | 0, _, _, _, _, _ => none
 | k + 1, x5, x17, x18, x159000, x159001 => if x18 < x17 then ((floor_step.f x159000 x159001 x18).bind fun bt160 => ((num_Root.f k (wrap64 ((wrap64 (bt160.1 * bt160.1)) + (wrap64 (bt160.2 * bt160.2))))).bind fun bt163 => (floor_Way.l0 k (wrap64 (x5 + bt163.1)) x17 (wrap64 (x18 + 1)) x159000 x159001))) else (some (x5, 0))
def floor_Way.f (k : Nat) (l0_0 : List (S53)) (l0_1 : List Int) : Option (Int × Int) := (movement_Check.f k l0_0 l0_1).bind fun t159 => (if t159 = 0 then (floor_Way.l0 k 0 (l0_1.length : Int) 0 l0_0 l0_1) else (some (0, t159)))
theorem floor_Way.mono_l : ∀ k, (∀ y0 y1 y2 y3 y4, LeO (floor_Way.l0 k y0 y1 y2 y3 y4) (floor_Way.l0 (k + 1) y0 y1 y2 y3 y4))
 | 0 => fun _ _ _ _ _ r h => by simp [floor_Way.l0] at h
 | k + 1 => by
  have ih0 := floor_Way.mono_l k
  ·
   intro y0 y1 y2 y3 y4
   unfold floor_Way.l0
   repeat' first
   | (with_reducible exact ih0 _ _ _ _ _)
   | (with_reducible exact movement_Check.mono _ _ _)
   | (with_reducible exact num_Root.mono _ _)
   | (with_reducible exact LeO.refl _)
   | (with_reducible exact LeO.none _)
   | (with_reducible refine LeO.ite ?_ ?_)
   | (with_reducible refine LeO.bind ?_ (fun _ => ?_))
   | exact ih0 _ _ _ _ _
   | exact movement_Check.mono _ _ _
   | exact num_Root.mono _ _
   | exact LeO.none _
   | refine LeO.ite ?_ ?_
   | refine LeO.bind ?_ (fun _ => ?_)
theorem floor_Way.mono : ∀ a0 a1 k, LeO (floor_Way.f k a0 a1) (floor_Way.f (k + 1) a0 a1) := by
 intro a0 a1 k
 have ih0 := floor_Way.mono_l k
 unfold floor_Way.f
 repeat' first
   | (with_reducible exact ih0 _ _ _ _ _)
   | (with_reducible exact movement_Check.mono _ _ _)
   | (with_reducible exact num_Root.mono _ _)
   | (with_reducible exact LeO.refl _)
   | (with_reducible exact LeO.none _)
   | (with_reducible refine LeO.ite ?_ ?_)
   | (with_reducible refine LeO.bind ?_ (fun _ => ?_))
   | exact ih0 _ _ _ _ _
   | exact movement_Check.mono _ _ _
   | exact num_Root.mono _ _
   | exact LeO.none _
   | refine LeO.ite ?_ ?_
   | refine LeO.bind ?_ (fun _ => ?_)
set_option maxHeartbeats 8000000 in
set_option maxRecDepth 100000 in
theorem floor_Way.calls (k : Nat) (A0_0 : Option Addr) (c0_0 : Nat) (l0_0 : List (S53)) (A0_1 : Option Addr) (c0_1 : Nat) (l0_1 : List Int) (r1 r2 : Int) (w : World) (hr0_0 : Kd.C k53 w A0_0 l0_0.length l0_0) (hc0_0 : l0_0.length ≤ c0_0) (hr0_1 : Kd.C (Kd.int .i64) w A0_1 l0_1.length l0_1) (hc0_1 : l0_1.length ≤ c0_1) (h : floor_Way.f k l0_0 l0_1 = some (r1, r2)) :
  Calls Try.prog 17 #[.agg #[.slice A0_0 l0_0.length c0_0, .slice A0_1 l0_1.length c0_1]] w fun e w' => e = .returned (.tuple #[.int .i64 r1, .int .i64 r2]) ∧ Below w.heap.size w w' := by
 have hu25 := Try.underlying25
 have hu35 := Try.underlying35
 have HR0_0 := am hr0_0
 have HC0_0 := am hc0_0
 clear hr0_0 hc0_0
 have HR0_1 := am hr0_1
 have HC0_1 := am hc0_1
 clear hr0_1 hc0_1
 have HB := am (Below.refl w.heap.size w)
 have H : ((movement_Check.f k l0_0 l0_1).bind fun t159 => (if t159 = 0 then (floor_Way.l0 k 0 (l0_1.length : Int) 0 l0_0 l0_1) else (some (0, t159)))) = some (r1, r2) := h
 clear h
 replace H := Option.bind_eq_some_iff.mp H
 obtain ⟨t159, A20, H⟩ := H
 replace H : (if t159 = 0 then (floor_Way.l0 k 0 (l0_1.length : Int) 0 l0_0 l0_1) else (some (0, t159))) = some (r1, r2) := H
 have A2 := am A20
 clear A20
 by_cases c3 : t159 = 0
 ·
  rw [if_pos c3] at H
  have c3b0 : (t159 == 0) = true := beq_iff_eq.mpr c3
  have c3b1 : (t159 != 0) = false := bne_eq_false_iff_eq.mpr c3
  clear c3
  have H' := am H
  clear H
  go_enter Try.func17, Try.ntmps17
  go_wp2_with (first | ((with_reducible refine gate_dst (N := 1) rfl ?_); refine box_event yz (N := 1) yz (cs := #[.slice A0_0 l0_0.length c0_0, .slice A0_1 l0_1.length c0_1]) (t := 25) gz ?_; intro gb158 hg w4 hbox hb; have BK158 := am (hbox); have GW158 := gwz (g := gb158) HB hg; have GE158 := GW158; replace HB := am (below_step bz hb); clear hb hbox hg; obtain ⟨hcz5_0, hcz5_1, hfz5_0, hfz5_1⟩ := kc2 BK158.out) | ((with_reducible refine gate_callee (f := 21) rfl ?_); refine goesL_ (some 11) rfl rfl Try.func21 qz rfl #[.agg #[.slice A0_0 l0_0.length c0_0, .slice A0_1 l0_1.length c0_1]] rfl mz ?_; (with_reducible refine (movement_Check.calls k _ _ l0_0 _ _ l0_1 t159 _ ?side1 ?side2 ?side3 ?side4 A2.out).mono ?_); (case side1 => exact cz HR0_0); (case side2 => exact HC0_0.out); (case side3 => exact cz HR0_1); (case side4 => exact HC0_1.out); rintro e w6 ⟨rfl, hb⟩; refine ⟨_, rfl, ?_⟩; replace BK158 := am (blk_below (o := .cells #[.slice A0_0 l0_0.length c0_0, .slice A0_1 l0_1.length c0_1] 25 (0, 0)) (kz BK158) hb); replace HB := am (below_step bz hb); (try clear hb); (try clear hb2); (try clear hk); (try clear hi); obtain ⟨hcz7_0, hcz7_1, hfz7_0, hfz7_1⟩ := kc2 BK158.out))
  go_loopg [5, 18] k (fun kq v5 v18 w' => ∃ (x5_1 x18_1 : Int), v5 = .int .i64 x5_1 ∧ v18 = .int .i64 x18_1 ∧ Aside0 (floor_Way.l0 kq x5_1 (l0_1.length : Int) x18_1 l0_0 l0_1 = some (r1, r2)) ∧ Aside0 (kq ≤ k) ∧ Aside0 (w'.heap[gb158]? = some (.cells #[(.slice A0_0 l0_0.length c0_0), (.slice A0_1 l0_1.length c0_1)] 25 (0, 0))) ∧ Aside0 (Below w.heap.size w w'))
  case atStart => exact ⟨(0), (0), sz, sz, H', ⟨Nat.le_refl _⟩, ⟨kz BK158⟩, ⟨bz⟩⟩
  case round =>
   clear H'
   try clear c1
   try clear c2
   try clear p2
   try clear c3
   try clear c3b0
   try clear c3b1
   try clear hcz5_0
   try clear hcz5_1
   try clear hcz7_0
   try clear hcz7_1
   try clear hfz5_0
   try clear hfz5_1
   try clear hfz7_0
   try clear hfz7_1
   obtain ⟨x5_1, x18_1, rfl, rfl, HA, HK1, BK158, HB⟩ := hrel
   cases gk with
   | zero => exact absurd HA.out (by simp [floor_Way.l0])
   | succ k1 =>
    have H := HA.out
    clear HA
    simp only [floor_Way.l0] at H
    by_cases c8 : x18_1 < (l0_1.length : Int)
    ·
     rw [if_pos c8] at H
     have c8b0 := decide_eq_true c8
     clear c8
     replace H := Option.bind_eq_some_iff.mp H
     obtain ⟨⟨t160, t161⟩, A90, H⟩ := H
     replace H : ((num_Root.f k1 (wrap64 ((wrap64 (t160 * t160)) + (wrap64 (t161 * t161))))).bind fun bt163 => (floor_Way.l0 k1 (wrap64 (x5_1 + bt163.1)) (l0_1.length : Int) (wrap64 (x18_1 + 1)) l0_0 l0_1)) = some (r1, r2) := H
     have A9 := am A90
     clear A90
     replace H := Option.bind_eq_some_iff.mp H
     obtain ⟨⟨t163, t164⟩, A100, H⟩ := H
     replace H : (floor_Way.l0 k1 (wrap64 (x5_1 + t163)) (l0_1.length : Int) (wrap64 (x18_1 + 1)) l0_0 l0_1) = some (r1, r2) := H
     have A10 := am A100
     clear A100
     have H' := am H
     clear H
     obtain ⟨hcz11_0, hcz11_1, hfz11_0, hfz11_1⟩ := kc2 BK158.out
     go_wp2_with (first | ((with_reducible refine gate_callee (f := 27) rfl ?_); refine goesL_ (some 23) rfl rfl Try.func27 qz rfl #[.agg #[.slice A0_0 l0_0.length c0_0, .slice A0_1 l0_1.length c0_1], .int .i64 x18_1] rfl mz ?_; (with_reducible refine (floor_step.calls _ _ l0_0 _ _ l0_1 x18_1 t160 t161 _ ?side1 ?side2 ?side3 ?side4 A9.out).mono ?_); (case side1 => exact cz HR0_0); (case side2 => exact HC0_0.out); (case side3 => exact cz HR0_1); (case side4 => exact HC0_1.out); rintro e w12 ⟨rfl, hb⟩; refine ⟨_, rfl, ?_⟩; replace BK158 := am (blk_below (o := .cells #[.slice A0_0 l0_0.length c0_0, .slice A0_1 l0_1.length c0_1] 25 (0, 0)) (kz BK158) hb); replace HB := am (below_step bz hb); (try clear hb); (try clear hb2); (try clear hk); (try clear hi)) | ((with_reducible refine gate_dst (N := 7) rfl ?_); refine box_event yz (N := 7) yz (cs := #[.int .i64 0, .int .i64 0]) (t := 35) gz ?_; intro gb162 hg w13 hbox hb; have BK162 := am (hbox); have GW162 := gwz (g := gb162) HB hg; have GE162 := GW162; replace HB := am (below_step bz hb); have NB158_162 := nlt (g' := gb162) BK158 hg; have NB162_158 := ngt (g' := gb162) BK158 hg; replace BK158 := am (blk_below (o := .cells #[.slice A0_0 l0_0.length c0_0, .slice A0_1 l0_1.length c0_1] 25 (0, 0)) (kz BK158) hb); clear hb hbox hg; have hnb14 := NB162_158.out; have hnc14 := NB158_162.out; obtain ⟨hcz15_0, hcz15_1, hfz15_0, hfz15_1⟩ := kc2 BK162.out) | ((with_reducible refine gate_callee (f := 24) rfl ?_); refine goesL_ (some 36) rfl rfl Try.func24 qz rfl #[.int .i64 (wrap64 ((wrap64 (t160 * t160)) + (wrap64 (t161 * t161))))] rfl mz ?_; (with_reducible refine (num_Root.calls k1 (wrap64 ((wrap64 (t160 * t160)) + (wrap64 (t161 * t161)))) t163 t164 _ A10.out).mono ?_); rintro e w' ⟨rfl, ⟨nd, rfl⟩⟩; refine ⟨_, rfl, ?_⟩))
     go_roundg k1
     case measure => have := HK1.out; omega
     case rel => exact ⟨(wrap64 (x5_1 + t163)), (wrap64 (x18_1 + 1)), sz, sz, H', ⟨by have := HK1.out; omega⟩, ⟨by (with_reducible repeat first | apply kN | apply kD | apply kA); refine blk_far ?_ NB158_162.out _; (with_reducible repeat first | apply kN | apply kD | apply kA); refine blk_far ?_ NB158_162.out _; (with_reducible repeat first | apply kN | apply kD | apply kA); exact BK158.out⟩, ⟨bz⟩⟩
    ·
     rw [if_neg c8] at H
     have c8b0 := decide_eq_false c8
     clear c8
     simp only [Option.some.injEq, Prod.mk.injEq] at H
     obtain ⟨rfl, rfl⟩ := H
     go_wp2
     go_ret2
     exact ⟨ez, bz⟩
 ·
  rw [if_neg c3] at H
  have c3b0 : (t159 == 0) = false := beq_eq_false_iff_ne.mpr c3
  have c3b1 : (t159 != 0) = true := bne_iff_ne.mpr c3
  simp only [Option.some.injEq, Prod.mk.injEq] at H
  obtain ⟨rfl, rfl⟩ := H
  go_enter Try.func17, Try.ntmps17
  go_wp2_with (first | ((with_reducible refine gate_dst (N := 1) rfl ?_); refine box_event yz (N := 1) yz (cs := #[.slice A0_0 l0_0.length c0_0, .slice A0_1 l0_1.length c0_1]) (t := 25) gz ?_; intro gb158 hg w16 hbox hb; have BK158 := am (hbox); have GW158 := gwz (g := gb158) HB hg; have GE158 := GW158; replace HB := am (below_step bz hb); clear hb hbox hg; obtain ⟨hcz17_0, hcz17_1, hfz17_0, hfz17_1⟩ := kc2 BK158.out) | ((with_reducible refine gate_callee (f := 21) rfl ?_); refine goesL_ (some 11) rfl rfl Try.func21 qz rfl #[.agg #[.slice A0_0 l0_0.length c0_0, .slice A0_1 l0_1.length c0_1]] rfl mz ?_; (with_reducible refine (movement_Check.calls k _ _ l0_0 _ _ l0_1 t159 _ ?side1 ?side2 ?side3 ?side4 A2.out).mono ?_); (case side1 => exact cz HR0_0); (case side2 => exact HC0_0.out); (case side3 => exact cz HR0_1); (case side4 => exact HC0_1.out); rintro e w18 ⟨rfl, hb⟩; refine ⟨_, rfl, ?_⟩; replace BK158 := am (blk_below (o := .cells #[.slice A0_0 l0_0.length c0_0, .slice A0_1 l0_1.length c0_1] 25 (0, 0)) (kz BK158) hb); replace HB := am (below_step bz hb); (try clear hb); (try clear hb2); (try clear hk); (try clear hi)))
  go_ret2
  exact ⟨ez, bz⟩

end Go.Proofs.Ytmdmajfgpmopbaa.X
