import Derived.Test.YteflngoiebgdaaaX0
import Derived.Test.YteflngoiebgdaaaX4
import Derived.Test.YteflngoiebgdaaaX5
namespace Go.Proofs.Yteflngoiebgdaaa.X
open Go.RowKit YteflngoiebgdaaaW.PrintWords YteflngoiebgdaaaW.PrintLast YteflngoiebgdaaaW.PrintMore
attribute [local go_sem] max2_int min2_int max_two min_two max_three min_three max_four min_four
set_option linter.unusedVariables false
set_option linter.unusedSimpArgs false

/-! ### aim_Check: function 67 -/
def aim_Check.j0 : Nat → Bool → Int → Int → Int → Option (Int)
 | 0, _, _, _, _ => none
 | k + 1, x35, x106000, x106001, x106002 => if x35 = true then (some 1) else ((aim_upright.f x106000 x106001 x106002).bind fun t107 => (if t107 = true then (if x106000 = 0 then (some 0) else (some 2)) else (some 0)))
def aim_Check.f (k : Nat) (a0 a1_0 a1_1 a1_2 : Int) : Option (Int) := (aim_known.f a0).bind fun t106 => (if t106 = true then (if a1_0 < 0 then (aim_Check.j0 k true a1_0 a1_1 a1_2) else (if a1_0 > 255 then (aim_Check.j0 k true a1_0 a1_1 a1_2) else (if a1_1 < (-64) then (aim_Check.j0 k true a1_0 a1_1 a1_2) else (if a1_1 > 64 then (aim_Check.j0 k true a1_0 a1_1 a1_2) else (if a1_2 < 0 then (aim_Check.j0 k true a1_0 a1_1 a1_2) else (aim_Check.j0 k (decide (a1_2 > 6)) a1_0 a1_1 a1_2)))))) else (some 9))
theorem aim_Check.mono_l : ∀ k, (∀ y0 y1 y2 y3, LeO (aim_Check.j0 k y0 y1 y2 y3) (aim_Check.j0 (k + 1) y0 y1 y2 y3))
 | 0 => fun _ _ _ _ r h => by simp [aim_Check.j0] at h
 | k + 1 => by
  have ih0 := aim_Check.mono_l k
  ·
   intro y0 y1 y2 y3
   unfold aim_Check.j0
   repeat' first
   | (with_reducible exact ih0 _ _ _ _)
   | (with_reducible exact LeO.refl _)
   | (with_reducible exact LeO.none _)
   | (with_reducible refine LeO.ite ?_ ?_)
   | (with_reducible refine LeO.bind ?_ (fun _ => ?_))
   | exact ih0 _ _ _ _
   | exact LeO.none _
   | refine LeO.ite ?_ ?_
   | refine LeO.bind ?_ (fun _ => ?_)
theorem aim_Check.mono : ∀ a0 a1 a2 a3 k, LeO (aim_Check.f k a0 a1 a2 a3) (aim_Check.f (k + 1) a0 a1 a2 a3) := by
 intro a0 a1 a2 a3 k
 have ih0 := aim_Check.mono_l k
 unfold aim_Check.f
 repeat' first
   | (with_reducible exact ih0 _ _ _ _)
   | (with_reducible exact LeO.refl _)
   | (with_reducible exact LeO.none _)
   | (with_reducible refine LeO.ite ?_ ?_)
   | (with_reducible refine LeO.bind ?_ (fun _ => ?_))
   | exact ih0 _ _ _ _
   | exact LeO.none _
   | refine LeO.ite ?_ ?_
   | refine LeO.bind ?_ (fun _ => ?_)
set_option maxHeartbeats 8000000 in
set_option maxRecDepth 100000 in
theorem aim_Check.calls (k : Nat) (a0 a1_0 a1_1 a1_2 r : Int) (w : World) (h : aim_Check.f k a0 a1_0 a1_1 a1_2 = some r) :
  Calls Try.prog 67 #[.int .i64 a0, .agg #[.int .i64 a1_0, .int .i64 a1_1, .int .i64 a1_2]] w fun e w' => e = .returned (.int .i64 r) ∧ Below w.heap.size w w' := by
 have hu51 := Try.underlying51
 have HB := am (Below.refl w.heap.size w)
 have H : ((aim_known.f a0).bind fun t106 => (if t106 = true then (if a1_0 < 0 then (aim_Check.j0 k true a1_0 a1_1 a1_2) else (if a1_0 > 255 then (aim_Check.j0 k true a1_0 a1_1 a1_2) else (if a1_1 < (-64) then (aim_Check.j0 k true a1_0 a1_1 a1_2) else (if a1_1 > 64 then (aim_Check.j0 k true a1_0 a1_1 a1_2) else (if a1_2 < 0 then (aim_Check.j0 k true a1_0 a1_1 a1_2) else (aim_Check.j0 k (decide (a1_2 > 6)) a1_0 a1_1 a1_2)))))) else (some 9))) = some r := h
 clear h
 replace H := Option.bind_eq_some_iff.mp H
 obtain ⟨t106, A30, H⟩ := H
 replace H : (if t106 = true then (if a1_0 < 0 then (aim_Check.j0 k true a1_0 a1_1 a1_2) else (if a1_0 > 255 then (aim_Check.j0 k true a1_0 a1_1 a1_2) else (if a1_1 < (-64) then (aim_Check.j0 k true a1_0 a1_1 a1_2) else (if a1_1 > 64 then (aim_Check.j0 k true a1_0 a1_1 a1_2) else (if a1_2 < 0 then (aim_Check.j0 k true a1_0 a1_1 a1_2) else (aim_Check.j0 k (decide (a1_2 > 6)) a1_0 a1_1 a1_2)))))) else (some 9)) = some r := H
 have A3 := am A30
 clear A30
 by_cases c4 : t106 = true
 ·
  subst c4
  have H1 : (if a1_0 < 0 then (aim_Check.j0 k true a1_0 a1_1 a1_2) else (if a1_0 > 255 then (aim_Check.j0 k true a1_0 a1_1 a1_2) else (if a1_1 < (-64) then (aim_Check.j0 k true a1_0 a1_1 a1_2) else (if a1_1 > 64 then (aim_Check.j0 k true a1_0 a1_1 a1_2) else (if a1_2 < 0 then (aim_Check.j0 k true a1_0 a1_1 a1_2) else (aim_Check.j0 k (decide (a1_2 > 6)) a1_0 a1_1 a1_2)))))) = some r := by rw [if_pos rfl] at H; exact H
  clear H
  have H := H1
  clear H1
  have HC5 := am H
  clear H
  go_enter Try.func67, Try.ntmps67
  go_upto_region 3 with (first | ((with_reducible refine gate_dst (N := 3) rfl ?_); refine box_event yz (N := 3) yz (cs := #[.int .i64 a1_0, .int .i64 a1_1, .int .i64 a1_2]) (t := 51) gz ?_; intro gb105 hg w6 hbox hb; have BK105 := am (hbox); have GW105 := gwz (g := gb105) HB hg; have GE105 := GW105; replace HB := am (below_step bz hb); clear hb hbox hg) | ((with_reducible refine gate_callee (f := 77) rfl ?_); refine goesL_ (some 6) rfl rfl Try.func77 qz rfl #[.int .i64 a0] rfl mz ?_; (with_reducible refine (aim_known.calls a0 true _ A3.out).mono ?_); rintro e w' ⟨rfl, ⟨nd, rfl⟩⟩; refine ⟨_, rfl, ?_⟩))
  (try simp only [Act.put, List.setIfInBounds_toArray, List.set_cons_zero, List.set_cons_succ])
  go_cut [35] (fun v35 wc => ∃ (kq : Nat) (x35_4 : Bool), v35 = .bool x35_4 ∧ Aside0 (aim_Check.j0 kq x35_4 a1_0 a1_1 a1_2 = some r) ∧ Aside0 (kq ≤ k) ∧ Aside0 (wc.heap[gb105]? = some (.cells #[.int .i64 a1_0, .int .i64 a1_1, .int .i64 a1_2] 51 (0, 0))) ∧ Aside0 (Below w.heap.size w wc))
  case first =>
   have H := HC5.out
   clear HC5
   by_cases c7 : a1_0 < 0
   ·
    rw [if_pos c7] at H
    have c7b0 := decide_eq_true c7
    clear c7
    (first | rw [c7b0] | (simp only [i64_w, i32_w]; rw [c7b0]) | skip)
    have H' := am H
    clear H
    obtain ⟨hcz8_0, hcz8_1, hcz8_2, hfz8_0, hfz8_1, hfz8_2⟩ := kc3 BK105.out
    go_wp2
    go_meet
    case rel => exact ⟨_, (true), sz, H', ⟨by first | omega | exact Nat.le_refl _⟩, ⟨kz BK105⟩, ⟨bz⟩⟩
   ·
    rw [if_neg c7] at H
    have c7b0 := decide_eq_false c7
    clear c7
    (first | rw [c7b0] | (simp only [i64_w, i32_w]; rw [c7b0]) | skip)
    by_cases c9 : a1_0 > 255
    ·
     rw [if_pos c9] at H
     have c9b0 := decide_eq_true c9
     clear c9
     have H' := am H
     clear H
     obtain ⟨hcz10_0, hcz10_1, hcz10_2, hfz10_0, hfz10_1, hfz10_2⟩ := kc3 BK105.out
     go_wp2
     go_meet
     case rel => exact ⟨_, (true), sz, H', ⟨by first | omega | exact Nat.le_refl _⟩, ⟨kz BK105⟩, ⟨bz⟩⟩
    ·
     rw [if_neg c9] at H
     have c9b0 := decide_eq_false c9
     clear c9
     by_cases c11 : a1_1 < (-64)
     ·
      rw [if_pos c11] at H
      have c11b0 := decide_eq_true c11
      clear c11
      have H' := am H
      clear H
      obtain ⟨hcz12_0, hcz12_1, hcz12_2, hfz12_0, hfz12_1, hfz12_2⟩ := kc3 BK105.out
      go_wp2
      go_meet
      case rel => exact ⟨_, (true), sz, H', ⟨by first | omega | exact Nat.le_refl _⟩, ⟨kz BK105⟩, ⟨bz⟩⟩
     ·
      rw [if_neg c11] at H
      have c11b0 := decide_eq_false c11
      clear c11
      by_cases c13 : a1_1 > 64
      ·
       rw [if_pos c13] at H
       have c13b0 := decide_eq_true c13
       clear c13
       have H' := am H
       clear H
       obtain ⟨hcz14_0, hcz14_1, hcz14_2, hfz14_0, hfz14_1, hfz14_2⟩ := kc3 BK105.out
       go_wp2
       go_meet
       case rel => exact ⟨_, (true), sz, H', ⟨by first | omega | exact Nat.le_refl _⟩, ⟨kz BK105⟩, ⟨bz⟩⟩
      ·
       rw [if_neg c13] at H
       have c13b0 := decide_eq_false c13
       clear c13
       by_cases c15 : a1_2 < 0
       ·
        rw [if_pos c15] at H
        have c15b0 := decide_eq_true c15
        clear c15
        have H' := am H
        clear H
        obtain ⟨hcz16_0, hcz16_1, hcz16_2, hfz16_0, hfz16_1, hfz16_2⟩ := kc3 BK105.out
        go_wp2
        go_meet
        case rel => exact ⟨_, (true), sz, H', ⟨by first | omega | exact Nat.le_refl _⟩, ⟨kz BK105⟩, ⟨bz⟩⟩
       ·
        rw [if_neg c15] at H
        have c15b0 := decide_eq_false c15
        clear c15
        have H' := am H
        clear H
        obtain ⟨hcz17_0, hcz17_1, hcz17_2, hfz17_0, hfz17_1, hfz17_2⟩ := kc3 BK105.out
        go_wp2
        go_meet
        case rel => exact ⟨_, (decide (a1_2 > 6)), sz, H', ⟨by first | omega | exact Nat.le_refl _⟩, ⟨kz BK105⟩, ⟨bz⟩⟩
  case rest =>
   clear HC5
   try clear c1
   try clear p2
   try clear c4
   try clear c6
   try clear c7
   try clear c7b0
   try clear c9
   try clear c9b0
   try clear c11
   try clear c11b0
   try clear c13
   try clear c13b0
   try clear c15
   try clear c15b0
   try clear hcz10_0
   try clear hcz10_1
   try clear hcz10_2
   try clear hcz12_0
   try clear hcz12_1
   try clear hcz12_2
   try clear hcz14_0
   try clear hcz14_1
   try clear hcz14_2
   try clear hcz16_0
   try clear hcz16_1
   try clear hcz16_2
   try clear hcz17_0
   try clear hcz17_1
   try clear hcz17_2
   try clear hcz8_0
   try clear hcz8_1
   try clear hcz8_2
   try clear hfz10_0
   try clear hfz10_1
   try clear hfz10_2
   try clear hfz12_0
   try clear hfz12_1
   try clear hfz12_2
   try clear hfz14_0
   try clear hfz14_1
   try clear hfz14_2
   try clear hfz16_0
   try clear hfz16_1
   try clear hfz16_2
   try clear hfz17_0
   try clear hfz17_1
   try clear hfz17_2
   try clear hfz8_0
   try clear hfz8_1
   try clear hfz8_2
   obtain ⟨kq, x35_4, rfl, HA, HJ4, BK105, HB⟩ := hcut
   cases kq with
   | zero => exact absurd HA.out (by simp [aim_Check.j0])
   | succ kj4 =>
    have H := HA.out
    clear HA
    simp only [aim_Check.j0] at H
    by_cases c18 : x35_4 = true
    ·
     subst c18
     have H1 : (some 1) = some r := by rw [if_pos rfl] at H; exact H
     clear H
     have H := H1
     clear H1
     obtain rfl := Option.some.inj H
     go_wp2
     go_ret
     exact ⟨ez, bz⟩
    ·
     replace c18 := Bool.eq_false_iff.mpr c18
     subst c18
     have H1 : ((aim_upright.f a1_0 a1_1 a1_2).bind fun t107 => (if t107 = true then (if a1_0 = 0 then (some 0) else (some 2)) else (some 0))) = some r := by rw [if_neg (show ¬ (false = true) by decide)] at H; exact H
     clear H
     have H := H1
     clear H1
     replace H := Option.bind_eq_some_iff.mp H
     obtain ⟨t107, A190, H⟩ := H
     replace H : (if t107 = true then (if a1_0 = 0 then (some 0) else (some 2)) else (some 0)) = some r := H
     have A19 := am A190
     clear A190
     by_cases c20 : t107 = true
     ·
      subst c20
      have H1 : (if a1_0 = 0 then (some 0) else (some 2)) = some r := by rw [if_pos rfl] at H; exact H
      clear H
      have H := H1
      clear H1
      by_cases c21 : a1_0 = 0
      ·
       rw [if_pos c21] at H
       have c21b0 : (a1_0 == 0) = true := beq_iff_eq.mpr c21
       have c21b1 : (a1_0 != 0) = false := bne_eq_false_iff_eq.mpr c21
       clear c21
       obtain rfl := Option.some.inj H
       obtain ⟨hcz22_0, hcz22_1, hcz22_2, hfz22_0, hfz22_1, hfz22_2⟩ := kc3 BK105.out
       go_wp2_with (first | ((with_reducible refine gate_callee (f := 78) rfl ?_); refine goesL_ (some 37) rfl rfl Try.func78 qz rfl #[.agg #[.int .i64 a1_0, .int .i64 a1_1, .int .i64 a1_2]] rfl mz ?_; (with_reducible refine (aim_upright.calls a1_0 a1_1 a1_2 true _ A19.out).mono ?_); rintro e w23 ⟨rfl, hb⟩; refine ⟨_, rfl, ?_⟩; replace BK105 := am (blk_below (o := .cells #[.int .i64 a1_0, .int .i64 a1_1, .int .i64 a1_2] 51 (0, 0)) (kz BK105) hb); replace HB := am (below_step bz hb); (try clear hb); (try clear hb2); (try clear hk); (try clear hi); obtain ⟨hcz24_0, hcz24_1, hcz24_2, hfz24_0, hfz24_1, hfz24_2⟩ := kc3 BK105.out))
       go_ret
       exact ⟨ez, bz⟩
      ·
       rw [if_neg c21] at H
       have c21b0 : (a1_0 == 0) = false := beq_eq_false_iff_ne.mpr c21
       have c21b1 : (a1_0 != 0) = true := bne_iff_ne.mpr c21
       obtain rfl := Option.some.inj H
       obtain ⟨hcz25_0, hcz25_1, hcz25_2, hfz25_0, hfz25_1, hfz25_2⟩ := kc3 BK105.out
       go_wp2_with (first | ((with_reducible refine gate_callee (f := 78) rfl ?_); refine goesL_ (some 37) rfl rfl Try.func78 qz rfl #[.agg #[.int .i64 a1_0, .int .i64 a1_1, .int .i64 a1_2]] rfl mz ?_; (with_reducible refine (aim_upright.calls a1_0 a1_1 a1_2 true _ A19.out).mono ?_); rintro e w26 ⟨rfl, hb⟩; refine ⟨_, rfl, ?_⟩; replace BK105 := am (blk_below (o := .cells #[.int .i64 a1_0, .int .i64 a1_1, .int .i64 a1_2] 51 (0, 0)) (kz BK105) hb); replace HB := am (below_step bz hb); (try clear hb); (try clear hb2); (try clear hk); (try clear hi); obtain ⟨hcz27_0, hcz27_1, hcz27_2, hfz27_0, hfz27_1, hfz27_2⟩ := kc3 BK105.out))
       go_ret
       exact ⟨ez, bz⟩
     ·
      replace c20 := Bool.eq_false_iff.mpr c20
      subst c20
      have H1 : (some 0) = some r := by rw [if_neg (show ¬ (false = true) by decide)] at H; exact H
      clear H
      have H := H1
      clear H1
      obtain rfl := Option.some.inj H
      obtain ⟨hcz28_0, hcz28_1, hcz28_2, hfz28_0, hfz28_1, hfz28_2⟩ := kc3 BK105.out
      go_wp2_with (first | ((with_reducible refine gate_callee (f := 78) rfl ?_); refine goesL_ (some 37) rfl rfl Try.func78 qz rfl #[.agg #[.int .i64 a1_0, .int .i64 a1_1, .int .i64 a1_2]] rfl mz ?_; (with_reducible refine (aim_upright.calls a1_0 a1_1 a1_2 false _ A19.out).mono ?_); rintro e w29 ⟨rfl, hb⟩; refine ⟨_, rfl, ?_⟩; replace BK105 := am (blk_below (o := .cells #[.int .i64 a1_0, .int .i64 a1_1, .int .i64 a1_2] 51 (0, 0)) (kz BK105) hb); replace HB := am (below_step bz hb); (try clear hb); (try clear hb2); (try clear hk); (try clear hi)))
      go_ret
      exact ⟨ez, bz⟩
 ·
  replace c4 := Bool.eq_false_iff.mpr c4
  subst c4
  have H1 : (some 9) = some r := by rw [if_neg (show ¬ (false = true) by decide)] at H; exact H
  clear H
  have H := H1
  clear H1
  obtain rfl := Option.some.inj H
  go_enter Try.func67, Try.ntmps67
  go_wp2_with (first | ((with_reducible refine gate_dst (N := 3) rfl ?_); refine box_event yz (N := 3) yz (cs := #[.int .i64 a1_0, .int .i64 a1_1, .int .i64 a1_2]) (t := 51) gz ?_; intro gb105 hg w30 hbox hb; have BK105 := am (hbox); have GW105 := gwz (g := gb105) HB hg; have GE105 := GW105; replace HB := am (below_step bz hb); clear hb hbox hg) | ((with_reducible refine gate_callee (f := 77) rfl ?_); refine goesL_ (some 6) rfl rfl Try.func77 qz rfl #[.int .i64 a0] rfl mz ?_; (with_reducible refine (aim_known.calls a0 false _ A3.out).mono ?_); rintro e w' ⟨rfl, ⟨nd, rfl⟩⟩; refine ⟨_, rfl, ?_⟩))
  go_ret
  exact ⟨ez, bz⟩

end Go.Proofs.Yteflngoiebgdaaa.X
