import Derived.Test.YtmdmajfgpmopbaaX0
import Derived.Test.YtmdmajfgpmopbaaX3
import Derived.Test.YtmdmajfgpmopbaaX18
import Derived.Test.YtmdmajfgpmopbaaX19
namespace Go.Proofs.Ytmdmajfgpmopbaa.X
open Go.RowKit YtmdmajfgpmopbaaW.PrintWords YtmdmajfgpmopbaaW.PrintLast YtmdmajfgpmopbaaW.PrintMore
attribute [local go_sem] max2_int min2_int max_two min_two max_three min_three max_four min_four
set_option linter.unusedVariables false
set_option linter.unusedSimpArgs false

attribute [local go_sem high] eqA64
/-! ### stage_Check: function 31 -/
mutual
def stage_Check.j0 : Nat → Bool → Int → Int → List (S64) → Option (Int)
 | 0, _, _, _, _ => none
 | k + 1, x28, x167000, x167001, x167002 => if x28 = true then (some 29) else (if (x167002.length : Int) > 16 then (some 3) else (stage_Check.l0 k x167002 (x167002.length : Int) 0 x167000 x167001 x167002))
def stage_Check.l0 : Nat → List (S64) → Int → Int → Int → Int → List (S64) → Option (Int)
 | 0, _, _, _, _, _, _ => none
 | k + 1, x34, x35, x36, x167000, x167001, x167002 => if x36 < x35 then (if 0 ≤ x36 then (if x36 < (x34.length : Int) then ((stage_far.f ((rd_T64 x34 x36).f0.f0) ((rd_T64 x34 x36).f0.f1)).bind fun t169 => (if t169 = true then (some 29) else ((stage_on.f x167000 x167001 x167002 ((rd_T64 x34 x36).f0.f0) ((rd_T64 x34 x36).f0.f1) 0).bind fun t170 => (if t170 = true then (if ((rd_T64 x34 x36).f1) < 1 then (some 29) else (if ((rd_T64 x34 x36).f1) > 32768 then (some 29) else (if ((((rd_T64 x34 x36).f0.f0) == 0 && (((rd_T64 x34 x36).f0.f1) == 0)) && (((rd_T64 x34 x36).f1) == 0)) = true then (some 29) else (stage_Check.l0 k x34 x35 (wrap64 (x36 + 1)) x167000 x167001 x167002)))) else (some 29))))) else (none)) else (none)) else (some 0)
end
def stage_Check.f (k : Nat) (a0_0 a0_1 : Int) (l0_2 : List (S64)) : Option (Int) := if (Int.tmod a0_0 2) = 0 then (if a0_0 < 2 then (stage_Check.j0 k true a0_0 a0_1 l0_2) else (if a0_0 > 65536 then (stage_Check.j0 k true a0_0 a0_1 l0_2) else (if a0_1 < 1 then (stage_Check.j0 k true a0_0 a0_1 l0_2) else (stage_Check.j0 k (decide (a0_1 > 32768)) a0_0 a0_1 l0_2)))) else (stage_Check.j0 k true a0_0 a0_1 l0_2)
theorem stage_Check.mono_l : ∀ k, (∀ y0 y1 y2 y3, LeO (stage_Check.j0 k y0 y1 y2 y3) (stage_Check.j0 (k + 1) y0 y1 y2 y3)) ∧ (∀ y0 y1 y2 y3 y4 y5, LeO (stage_Check.l0 k y0 y1 y2 y3 y4 y5) (stage_Check.l0 (k + 1) y0 y1 y2 y3 y4 y5))
 | 0 => ⟨fun _ _ _ _ r h => by simp [stage_Check.j0] at h, fun _ _ _ _ _ _ r h => by simp [stage_Check.l0] at h⟩
 | k + 1 => by
  obtain ⟨ih0, ih1⟩ := stage_Check.mono_l k
  refine ⟨?_, ?_⟩
  ·
   intro y0 y1 y2 y3
   unfold stage_Check.j0
   repeat' first
   | (with_reducible exact ih0 _ _ _ _)
   | (with_reducible exact ih1 _ _ _ _ _ _)
   | (with_reducible exact LeO.refl _)
   | (with_reducible exact LeO.none _)
   | (with_reducible refine LeO.ite ?_ ?_)
   | (with_reducible refine LeO.bind ?_ (fun _ => ?_))
   | exact ih0 _ _ _ _
   | exact ih1 _ _ _ _ _ _
   | exact LeO.none _
   | refine LeO.ite ?_ ?_
   | refine LeO.bind ?_ (fun _ => ?_)
  ·
   intro y0 y1 y2 y3 y4 y5
   unfold stage_Check.l0
   repeat' first
   | (with_reducible exact ih0 _ _ _ _)
   | (with_reducible exact ih1 _ _ _ _ _ _)
   | (with_reducible exact LeO.refl _)
   | (with_reducible exact LeO.none _)
   | (with_reducible refine LeO.ite ?_ ?_)
   | (with_reducible refine LeO.bind ?_ (fun _ => ?_))
   | exact ih0 _ _ _ _
   | exact ih1 _ _ _ _ _ _
   | exact LeO.none _
   | refine LeO.ite ?_ ?_
   | refine LeO.bind ?_ (fun _ => ?_)
theorem stage_Check.mono : ∀ a0 a1 a2 k, LeO (stage_Check.f k a0 a1 a2) (stage_Check.f (k + 1) a0 a1 a2) := by
 intro a0 a1 a2 k
 obtain ⟨ih0, ih1⟩ := stage_Check.mono_l k
 unfold stage_Check.f
 repeat' first
   | (with_reducible exact ih0 _ _ _ _)
   | (with_reducible exact ih1 _ _ _ _ _ _)
   | (with_reducible exact LeO.refl _)
   | (with_reducible exact LeO.none _)
   | (with_reducible refine LeO.ite ?_ ?_)
   | (with_reducible refine LeO.bind ?_ (fun _ => ?_))
   | exact ih0 _ _ _ _
   | exact ih1 _ _ _ _ _ _
   | exact LeO.none _
   | refine LeO.ite ?_ ?_
   | refine LeO.bind ?_ (fun _ => ?_)
set_option maxHeartbeats 8000000 in
set_option maxRecDepth 100000 in
theorem stage_Check.calls (k : Nat) (a0_0 a0_1 : Int) (A0_2 : Option Addr) (c0_2 : Nat) (l0_2 : List (S64)) (r : Int) (w : World) (hr0_2 : Kd.C k64 w A0_2 l0_2.length l0_2) (hc0_2 : l0_2.length ≤ c0_2) (h : stage_Check.f k a0_0 a0_1 l0_2 = some r) :
  Calls Try.prog 31 #[.agg #[.int .i64 a0_0, .int .i64 a0_1, .slice A0_2 l0_2.length c0_2]] w fun e w' => e = .returned (.int .i64 r) ∧ Below w.heap.size w w' := by
 have hu42 := Try.underlying42
 have hu64 := Try.underlying64
 have hu35 := Try.underlying35
 have HR0_2 := am hr0_2
 have HC0_2 := am hc0_2
 clear hr0_2 hc0_2
 have HB := am (Below.refl w.heap.size w)
 have H : (if (Int.tmod a0_0 2) = 0 then (if a0_0 < 2 then (stage_Check.j0 k true a0_0 a0_1 l0_2) else (if a0_0 > 65536 then (stage_Check.j0 k true a0_0 a0_1 l0_2) else (if a0_1 < 1 then (stage_Check.j0 k true a0_0 a0_1 l0_2) else (stage_Check.j0 k (decide (a0_1 > 32768)) a0_0 a0_1 l0_2)))) else (stage_Check.j0 k true a0_0 a0_1 l0_2)) = some r := h
 clear h
 have HC2 := am H
 clear H
 go_enter Try.func31, Try.ntmps31
 go_upto_region 1 with (first | ((with_reducible refine gate_dst (N := 1) rfl ?_); refine box_event yz (N := 1) yz (cs := #[.int .i64 a0_0, .int .i64 a0_1, .slice A0_2 l0_2.length c0_2]) (t := 42) gz ?_; intro gb166 hg w3 hbox hb; have BK166 := am (hbox); have GW166 := gwz (g := gb166) HB hg; have GE166 := GW166; replace HB := am (below_step bz hb); clear hb hbox hg))
 (try simp only [Act.put, List.setIfInBounds_toArray, List.set_cons_zero, List.set_cons_succ])
 go_cut [28] (fun v28 wc => ∃ (kq : Nat) (x28_1 : Bool), v28 = .bool x28_1 ∧ Aside0 (stage_Check.j0 kq x28_1 a0_0 a0_1 l0_2 = some r) ∧ Aside0 (kq ≤ k) ∧ Aside0 (wc.heap[gb166]? = some (.cells #[.int .i64 a0_0, .int .i64 a0_1, (.slice A0_2 l0_2.length c0_2)] 42 (0, 0))) ∧ Aside0 (Below w.heap.size w wc))
 case first =>
  have H := HC2.out
  clear HC2
  by_cases c4 : (Int.tmod a0_0 2) = 0
  ·
   rw [if_pos c4] at H
   have c4b0 : ((Int.tmod a0_0 2) == 0) = true := beq_iff_eq.mpr c4
   have c4b1 : ((Int.tmod a0_0 2) != 0) = false := bne_eq_false_iff_eq.mpr c4
   clear c4
   (first | rw [c4b0] | (simp only [i64_w, i32_w]; rw [c4b0]) | skip)
   by_cases c5 : a0_0 < 2
   ·
    rw [if_pos c5] at H
    have c5b0 := decide_eq_true c5
    clear c5
    have H' := am H
    clear H
    obtain ⟨hcz6_0, hcz6_1, hcz6_2, hfz6_0, hfz6_1, hfz6_2⟩ := kc3 BK166.out
    go_wp2
    go_meet
    case rel => exact ⟨_, (true), sz, H', ⟨by first | omega | exact Nat.le_refl _⟩, ⟨kz BK166⟩, ⟨bz⟩⟩
   ·
    rw [if_neg c5] at H
    have c5b0 := decide_eq_false c5
    clear c5
    by_cases c7 : a0_0 > 65536
    ·
     rw [if_pos c7] at H
     have c7b0 := decide_eq_true c7
     clear c7
     have H' := am H
     clear H
     obtain ⟨hcz8_0, hcz8_1, hcz8_2, hfz8_0, hfz8_1, hfz8_2⟩ := kc3 BK166.out
     go_wp2
     go_meet
     case rel => exact ⟨_, (true), sz, H', ⟨by first | omega | exact Nat.le_refl _⟩, ⟨kz BK166⟩, ⟨bz⟩⟩
    ·
     rw [if_neg c7] at H
     have c7b0 := decide_eq_false c7
     clear c7
     by_cases c9 : a0_1 < 1
     ·
      rw [if_pos c9] at H
      have c9b0 := decide_eq_true c9
      clear c9
      have H' := am H
      clear H
      obtain ⟨hcz10_0, hcz10_1, hcz10_2, hfz10_0, hfz10_1, hfz10_2⟩ := kc3 BK166.out
      go_wp2
      go_meet
      case rel => exact ⟨_, (true), sz, H', ⟨by first | omega | exact Nat.le_refl _⟩, ⟨kz BK166⟩, ⟨bz⟩⟩
     ·
      rw [if_neg c9] at H
      have c9b0 := decide_eq_false c9
      clear c9
      have H' := am H
      clear H
      obtain ⟨hcz11_0, hcz11_1, hcz11_2, hfz11_0, hfz11_1, hfz11_2⟩ := kc3 BK166.out
      go_wp2
      go_meet
      case rel => exact ⟨_, (decide (a0_1 > 32768)), sz, H', ⟨by first | omega | exact Nat.le_refl _⟩, ⟨kz BK166⟩, ⟨bz⟩⟩
  ·
   rw [if_neg c4] at H
   have c4b0 : ((Int.tmod a0_0 2) == 0) = false := beq_eq_false_iff_ne.mpr c4
   have c4b1 : ((Int.tmod a0_0 2) != 0) = true := bne_iff_ne.mpr c4
   (first | rw [c4b0] | (simp only [i64_w, i32_w]; rw [c4b0]) | skip)
   have H' := am H
   clear H
   obtain ⟨hcz12_0, hcz12_1, hcz12_2, hfz12_0, hfz12_1, hfz12_2⟩ := kc3 BK166.out
   go_wp2
   go_meet
   case rel => exact ⟨_, (true), sz, H', ⟨by first | omega | exact Nat.le_refl _⟩, ⟨kz BK166⟩, ⟨bz⟩⟩
 case rest =>
  clear HC2
  try clear p2
  try clear c3
  try clear c4
  try clear c4b0
  try clear c4b1
  try clear c5
  try clear c5b0
  try clear c7
  try clear c7b0
  try clear c9
  try clear c9b0
  try clear hcz10_0
  try clear hcz10_1
  try clear hcz10_2
  try clear hcz11_0
  try clear hcz11_1
  try clear hcz11_2
  try clear hcz12_0
  try clear hcz12_1
  try clear hcz12_2
  try clear hcz6_0
  try clear hcz6_1
  try clear hcz6_2
  try clear hcz8_0
  try clear hcz8_1
  try clear hcz8_2
  try clear hfz10_0
  try clear hfz10_1
  try clear hfz10_2
  try clear hfz11_0
  try clear hfz11_1
  try clear hfz11_2
  try clear hfz12_0
  try clear hfz12_1
  try clear hfz12_2
  try clear hfz6_0
  try clear hfz6_1
  try clear hfz6_2
  try clear hfz8_0
  try clear hfz8_1
  try clear hfz8_2
  obtain ⟨kq, x28_1, rfl, HA, HJ1, BK166, HB⟩ := hcut
  cases kq with
  | zero => exact absurd HA.out (by simp [stage_Check.j0])
  | succ kj1 =>
   have H := HA.out
   clear HA
   simp only [stage_Check.j0] at H
   by_cases c13 : x28_1 = true
   ·
    subst c13
    have H1 : (some 29) = some r := by rw [if_pos rfl] at H; exact H
    clear H
    have H := H1
    clear H1
    obtain rfl := Option.some.inj H
    go_wp2
    go_ret
    exact ⟨ez, bz⟩
   ·
    replace c13 := Bool.eq_false_iff.mpr c13
    subst c13
    have H1 : (if (l0_2.length : Int) > 16 then (some 3) else (stage_Check.l0 kj1 l0_2 (l0_2.length : Int) 0 a0_0 a0_1 l0_2)) = some r := by rw [if_neg (show ¬ (false = true) by decide)] at H; exact H
    clear H
    have H := H1
    clear H1
    by_cases c14 : (l0_2.length : Int) > 16
    ·
     rw [if_pos c14] at H
     have c14b0 := decide_eq_true c14
     have c14b1 : decide (16 < l0_2.length) = true := decide_eq_true (by omega)
     clear c14
     obtain rfl := Option.some.inj H
     obtain ⟨hcz15_0, hcz15_1, hcz15_2, hfz15_0, hfz15_1, hfz15_2⟩ := kc3 BK166.out
     go_wp2
     go_ret
     exact ⟨ez, bz⟩
    ·
     rw [if_neg c14] at H
     have c14b0 := decide_eq_false c14
     have c14b1 : decide (16 < l0_2.length) = false := decide_eq_false (by omega)
     clear c14
     have H' := am H
     clear H
     obtain ⟨hcz16_0, hcz16_1, hcz16_2, hfz16_0, hfz16_1, hfz16_2⟩ := kc3 BK166.out
     go_wp2
     go_loopg [36] kj1 (fun kq v36 w' => ∃ (x36_2 : Int), v36 = .int .i64 x36_2 ∧ Aside0 (stage_Check.l0 kq l0_2 (l0_2.length : Int) x36_2 a0_0 a0_1 l0_2 = some r) ∧ Aside0 (kq ≤ kj1) ∧ Aside0 (w'.heap[gb166]? = some (.cells #[.int .i64 a0_0, .int .i64 a0_1, (.slice A0_2 l0_2.length c0_2)] 42 (0, 0))) ∧ Aside0 (Below w.heap.size w w'))
     case atStart => exact ⟨(0), sz, H', ⟨Nat.le_refl _⟩, ⟨kz BK166⟩, ⟨bz⟩⟩
     case round =>
      clear H'
      try clear c1
      try clear p2
      try clear c3
      try clear c4
      try clear c4b0
      try clear c4b1
      try clear c5
      try clear c5b0
      try clear c7
      try clear c7b0
      try clear c9
      try clear c9b0
      try clear c13
      try clear c14
      try clear c14b0
      try clear c14b1
      try clear hcz10_0
      try clear hcz10_1
      try clear hcz10_2
      try clear hcz11_0
      try clear hcz11_1
      try clear hcz11_2
      try clear hcz12_0
      try clear hcz12_1
      try clear hcz12_2
      try clear hcz15_0
      try clear hcz15_1
      try clear hcz15_2
      try clear hcz16_0
      try clear hcz16_1
      try clear hcz16_2
      try clear hcz6_0
      try clear hcz6_1
      try clear hcz6_2
      try clear hcz8_0
      try clear hcz8_1
      try clear hcz8_2
      try clear hfz10_0
      try clear hfz10_1
      try clear hfz10_2
      try clear hfz11_0
      try clear hfz11_1
      try clear hfz11_2
      try clear hfz12_0
      try clear hfz12_1
      try clear hfz12_2
      try clear hfz15_0
      try clear hfz15_1
      try clear hfz15_2
      try clear hfz16_0
      try clear hfz16_1
      try clear hfz16_2
      try clear hfz6_0
      try clear hfz6_1
      try clear hfz6_2
      try clear hfz8_0
      try clear hfz8_1
      try clear hfz8_2
      try clear p2
      obtain ⟨x36_2, rfl, HA, HK2, BK166, HB⟩ := hrel
      cases gk with
      | zero => exact absurd HA.out (by simp [stage_Check.l0])
      | succ k2 =>
       have H := HA.out
       clear HA
       simp only [stage_Check.l0] at H
       by_cases c17 : x36_2 < (l0_2.length : Int)
       ·
        rw [if_pos c17] at H
        have c17b0 := decide_eq_true c17
        clear c17
        by_cases c18 : 0 ≤ x36_2; rotate_left
        · rw [if_neg c18] at H; exact absurd H (by simp)
        rw [if_pos c18] at H
        have c18b0 := decide_eq_true c18
        clear c18
        by_cases c19 : x36_2 < (l0_2.length : Int); rotate_left
        · rw [if_neg c19] at H; exact absurd H (by simp)
        rw [if_pos c19] at H
        have c19b0 := decide_eq_true c19
        clear c19
        replace H := Option.bind_eq_some_iff.mp H
        obtain ⟨t169, A200, H⟩ := H
        replace H : (if t169 = true then (some 29) else ((stage_on.f a0_0 a0_1 l0_2 ((rd_T64 l0_2 x36_2).f0.f0) ((rd_T64 l0_2 x36_2).f0.f1) 0).bind fun t170 => (if t170 = true then (if ((rd_T64 l0_2 x36_2).f1) < 1 then (some 29) else (if ((rd_T64 l0_2 x36_2).f1) > 32768 then (some 29) else (if ((((rd_T64 l0_2 x36_2).f0.f0) == 0 && (((rd_T64 l0_2 x36_2).f0.f1) == 0)) && (((rd_T64 l0_2 x36_2).f1) == 0)) = true then (some 29) else (stage_Check.l0 k2 l0_2 (l0_2.length : Int) (wrap64 (x36_2 + 1)) a0_0 a0_1 l0_2)))) else (some 29)))) = some r := H
        have A20 := am A200
        clear A200
        by_cases c21 : t169 = true
        ·
         subst c21
         have H1 : (some 29) = some r := by rw [if_pos rfl] at H; exact H
         clear H
         have H := H1
         clear H1
         obtain rfl := Option.some.inj H
         have p167 : 0 ≤ (x36_2 : Int) := az
         have q167 : x36_2 < (l0_2.length : Int) := az
         obtain ⟨ad167, e167, hx167_0, hx167_1, hx167_2⟩ := at_T64 HR0_2.out x36_2 p167 q167
         cases e167
         replace hx167_0 := cb HB.out hx167_0
         replace hx167_1 := cb HB.out hx167_1
         replace hx167_2 := cb HB.out hx167_2
         replace p167 := eq_true p167
         replace q167 := eq_true q167
         go_wp2_with (first | ((with_reducible refine gate_dst (N := 4) rfl ?_); refine box_event yz (N := 4) yz (cs := #[.int .i64 0, .int .i64 0, .int .i64 0]) (t := 64) gz ?_; intro gb168 hg w22 hbox hb; have BK168 := am (hbox); have GW168 := gwz (g := gb168) HB hg; have GE168 := GW168; replace HB := am (below_step bz hb); have NB166_168 := nlt (g' := gb168) BK166 hg; have NB168_166 := ngt (g' := gb168) BK166 hg; replace BK166 := am (blk_below (o := .cells #[.int .i64 a0_0, .int .i64 a0_1, .slice (some ad167) l0_2.length c0_2] 42 (0, 0)) (kz BK166) hb); clear hb hbox hg; have hnb23 := NB168_166.out; have hnc23 := NB166_168.out; obtain ⟨hcz24_0, hcz24_1, hcz24_2, hfz24_0, hfz24_1, hfz24_2⟩ := kc3 BK168.out) | ((with_reducible refine gate_callee (f := 42) rfl ?_); refine goesL_ (some 42) rfl rfl Try.func42 qz rfl #[.agg #[.int .i64 ((rd_T64 l0_2 x36_2).f0.f0), .int .i64 ((rd_T64 l0_2 x36_2).f0.f1)]] rfl mz ?_; (with_reducible refine (stage_far.calls ((rd_T64 l0_2 x36_2).f0.f0) ((rd_T64 l0_2 x36_2).f0.f1) true _ A20.out).mono ?_); rintro e w25 ⟨rfl, hb⟩; refine ⟨_, rfl, ?_⟩; replace BK166 := am (blk_below (o := .cells #[.int .i64 a0_0, .int .i64 a0_1, .slice (some ad167) l0_2.length c0_2] 42 (0, 0)) (by (with_reducible repeat first | apply kN | apply kD | apply kA); refine blk_far ?_ NB166_168.out _; (with_reducible repeat first | apply kN | apply kD | apply kA); refine blk_far ?_ NB166_168.out _; (with_reducible repeat first | apply kN | apply kD | apply kA); refine blk_far ?_ NB166_168.out _; (with_reducible repeat first | apply kN | apply kD | apply kA); exact BK166.out) hb); replace BK168 := am (blk_below (o := .cells #[.int .i64 ((rd_T64 l0_2 x36_2).f0.f0), .int .i64 ((rd_T64 l0_2 x36_2).f0.f1), .int .i64 ((rd_T64 l0_2 x36_2).f1)] 64 (0, 0)) (by (with_reducible repeat first | apply kN | apply kD | apply kA); refine blk_put (cs := #[.int .i64 ((rd_T64 l0_2 x36_2).f0.f0), .int .i64 ((rd_T64 l0_2 x36_2).f0.f1), .int .i64 0]) ?_ 2 _ rfl; (with_reducible repeat first | apply kN | apply kD | apply kA); refine blk_put (cs := #[.int .i64 ((rd_T64 l0_2 x36_2).f0.f0), .int .i64 0, .int .i64 0]) ?_ 1 _ rfl; (with_reducible repeat first | apply kN | apply kD | apply kA); refine blk_put (cs := #[.int .i64 0, .int .i64 0, .int .i64 0]) ?_ 0 _ rfl; (with_reducible repeat first | apply kN | apply kD | apply kA); exact BK168.out) hb); replace HB := am (below_step bz hb); (try clear hb); (try clear hb2); (try clear hk); (try clear hi)))
         go_ret
         exact ⟨ez, bz⟩
        ·
         replace c21 := Bool.eq_false_iff.mpr c21
         subst c21
         have H1 : ((stage_on.f a0_0 a0_1 l0_2 ((rd_T64 l0_2 x36_2).f0.f0) ((rd_T64 l0_2 x36_2).f0.f1) 0).bind fun t170 => (if t170 = true then (if ((rd_T64 l0_2 x36_2).f1) < 1 then (some 29) else (if ((rd_T64 l0_2 x36_2).f1) > 32768 then (some 29) else (if ((((rd_T64 l0_2 x36_2).f0.f0) == 0 && (((rd_T64 l0_2 x36_2).f0.f1) == 0)) && (((rd_T64 l0_2 x36_2).f1) == 0)) = true then (some 29) else (stage_Check.l0 k2 l0_2 (l0_2.length : Int) (wrap64 (x36_2 + 1)) a0_0 a0_1 l0_2)))) else (some 29))) = some r := by rw [if_neg (show ¬ (false = true) by decide)] at H; exact H
         clear H
         have H := H1
         clear H1
         replace H := Option.bind_eq_some_iff.mp H
         obtain ⟨t170, A260, H⟩ := H
         replace H : (if t170 = true then (if ((rd_T64 l0_2 x36_2).f1) < 1 then (some 29) else (if ((rd_T64 l0_2 x36_2).f1) > 32768 then (some 29) else (if ((((rd_T64 l0_2 x36_2).f0.f0) == 0 && (((rd_T64 l0_2 x36_2).f0.f1) == 0)) && (((rd_T64 l0_2 x36_2).f1) == 0)) = true then (some 29) else (stage_Check.l0 k2 l0_2 (l0_2.length : Int) (wrap64 (x36_2 + 1)) a0_0 a0_1 l0_2)))) else (some 29)) = some r := H
         have A26 := am A260
         clear A260
         by_cases c27 : t170 = true
         ·
          subst c27
          have H1 : (if ((rd_T64 l0_2 x36_2).f1) < 1 then (some 29) else (if ((rd_T64 l0_2 x36_2).f1) > 32768 then (some 29) else (if ((((rd_T64 l0_2 x36_2).f0.f0) == 0 && (((rd_T64 l0_2 x36_2).f0.f1) == 0)) && (((rd_T64 l0_2 x36_2).f1) == 0)) = true then (some 29) else (stage_Check.l0 k2 l0_2 (l0_2.length : Int) (wrap64 (x36_2 + 1)) a0_0 a0_1 l0_2)))) = some r := by rw [if_pos rfl] at H; exact H
          clear H
          have H := H1
          clear H1
          by_cases c28 : ((rd_T64 l0_2 x36_2).f1) < 1
          ·
           rw [if_pos c28] at H
           have c28b0 := decide_eq_true c28
           clear c28
           obtain rfl := Option.some.inj H
           have p167 : 0 ≤ (x36_2 : Int) := az
           have q167 : x36_2 < (l0_2.length : Int) := az
           obtain ⟨ad167, e167, hx167_0, hx167_1, hx167_2⟩ := at_T64 HR0_2.out x36_2 p167 q167
           cases e167
           replace hx167_0 := cb HB.out hx167_0
           replace hx167_1 := cb HB.out hx167_1
           replace hx167_2 := cb HB.out hx167_2
           replace p167 := eq_true p167
           replace q167 := eq_true q167
           go_wp2_with (first | ((with_reducible refine gate_dst (N := 4) rfl ?_); refine box_event yz (N := 4) yz (cs := #[.int .i64 0, .int .i64 0, .int .i64 0]) (t := 64) gz ?_; intro gb168 hg w29 hbox hb; have BK168 := am (hbox); have GW168 := gwz (g := gb168) HB hg; have GE168 := GW168; replace HB := am (below_step bz hb); have NB166_168 := nlt (g' := gb168) BK166 hg; have NB168_166 := ngt (g' := gb168) BK166 hg; replace BK166 := am (blk_below (o := .cells #[.int .i64 a0_0, .int .i64 a0_1, .slice (some ad167) l0_2.length c0_2] 42 (0, 0)) (kz BK166) hb); clear hb hbox hg; have hnb30 := NB168_166.out; have hnc30 := NB166_168.out; obtain ⟨hcz31_0, hcz31_1, hcz31_2, hfz31_0, hfz31_1, hfz31_2⟩ := kc3 BK168.out) | ((with_reducible refine gate_callee (f := 42) rfl ?_); refine goesL_ (some 42) rfl rfl Try.func42 qz rfl #[.agg #[.int .i64 ((rd_T64 l0_2 x36_2).f0.f0), .int .i64 ((rd_T64 l0_2 x36_2).f0.f1)]] rfl mz ?_; (with_reducible refine (stage_far.calls ((rd_T64 l0_2 x36_2).f0.f0) ((rd_T64 l0_2 x36_2).f0.f1) false _ A20.out).mono ?_); rintro e w32 ⟨rfl, hb⟩; refine ⟨_, rfl, ?_⟩; replace BK166 := am (blk_below (o := .cells #[.int .i64 a0_0, .int .i64 a0_1, .slice (some ad167) l0_2.length c0_2] 42 (0, 0)) (by (with_reducible repeat first | apply kN | apply kD | apply kA); refine blk_far ?_ NB166_168.out _; (with_reducible repeat first | apply kN | apply kD | apply kA); refine blk_far ?_ NB166_168.out _; (with_reducible repeat first | apply kN | apply kD | apply kA); refine blk_far ?_ NB166_168.out _; (with_reducible repeat first | apply kN | apply kD | apply kA); exact BK166.out) hb); replace BK168 := am (blk_below (o := .cells #[.int .i64 ((rd_T64 l0_2 x36_2).f0.f0), .int .i64 ((rd_T64 l0_2 x36_2).f0.f1), .int .i64 ((rd_T64 l0_2 x36_2).f1)] 64 (0, 0)) (by (with_reducible repeat first | apply kN | apply kD | apply kA); refine blk_put (cs := #[.int .i64 ((rd_T64 l0_2 x36_2).f0.f0), .int .i64 ((rd_T64 l0_2 x36_2).f0.f1), .int .i64 0]) ?_ 2 _ rfl; (with_reducible repeat first | apply kN | apply kD | apply kA); refine blk_put (cs := #[.int .i64 ((rd_T64 l0_2 x36_2).f0.f0), .int .i64 0, .int .i64 0]) ?_ 1 _ rfl; (with_reducible repeat first | apply kN | apply kD | apply kA); refine blk_put (cs := #[.int .i64 0, .int .i64 0, .int .i64 0]) ?_ 0 _ rfl; (with_reducible repeat first | apply kN | apply kD | apply kA); exact BK168.out) hb); replace HB := am (below_step bz hb); (try clear hb); (try clear hb2); (try clear hk); (try clear hi); obtain ⟨hcz33_0, hcz33_1, hcz33_2, hfz33_0, hfz33_1, hfz33_2⟩ := kc3 BK166.out; obtain ⟨hcz34_0, hcz34_1, hcz34_2, hfz34_0, hfz34_1, hfz34_2⟩ := kc3 BK168.out) | (go_at_call 36; (with_reducible refine (stage_on.calls a0_0 a0_1 _ _ l0_2 ((rd_T64 l0_2 x36_2).f0.f0) ((rd_T64 l0_2 x36_2).f0.f1) 0 true _ ?side1 ?side2 A26.out).mono ?_); (case side1 => exact cz HR0_2); (case side2 => exact HC0_2.out); rintro e w35 ⟨rfl, hb⟩; replace BK166 := am (blk_below (o := .cells #[.int .i64 a0_0, .int .i64 a0_1, .slice (some ad167) l0_2.length c0_2] 42 (0, 0)) (kz BK166) hb); replace BK168 := am (blk_below (o := .cells #[.int .i64 ((rd_T64 l0_2 x36_2).f0.f0), .int .i64 ((rd_T64 l0_2 x36_2).f0.f1), .int .i64 ((rd_T64 l0_2 x36_2).f1)] 64 (0, 0)) (kz BK168) hb); replace HB := am (below_step bz hb); (try clear hb); (try clear hb2); (try clear hk); (try clear hi); obtain ⟨hcz36_0, hcz36_1, hcz36_2, hfz36_0, hfz36_1, hfz36_2⟩ := kc3 BK168.out))
           go_ret
           exact ⟨ez, bz⟩
          ·
           rw [if_neg c28] at H
           have c28b0 := decide_eq_false c28
           clear c28
           by_cases c37 : ((rd_T64 l0_2 x36_2).f1) > 32768
           ·
            rw [if_pos c37] at H
            have c37b0 := decide_eq_true c37
            clear c37
            obtain rfl := Option.some.inj H
            have p167 : 0 ≤ (x36_2 : Int) := az
            have q167 : x36_2 < (l0_2.length : Int) := az
            obtain ⟨ad167, e167, hx167_0, hx167_1, hx167_2⟩ := at_T64 HR0_2.out x36_2 p167 q167
            cases e167
            replace hx167_0 := cb HB.out hx167_0
            replace hx167_1 := cb HB.out hx167_1
            replace hx167_2 := cb HB.out hx167_2
            replace p167 := eq_true p167
            replace q167 := eq_true q167
            go_wp2_with (first | ((with_reducible refine gate_dst (N := 4) rfl ?_); refine box_event yz (N := 4) yz (cs := #[.int .i64 0, .int .i64 0, .int .i64 0]) (t := 64) gz ?_; intro gb168 hg w38 hbox hb; have BK168 := am (hbox); have GW168 := gwz (g := gb168) HB hg; have GE168 := GW168; replace HB := am (below_step bz hb); have NB166_168 := nlt (g' := gb168) BK166 hg; have NB168_166 := ngt (g' := gb168) BK166 hg; replace BK166 := am (blk_below (o := .cells #[.int .i64 a0_0, .int .i64 a0_1, .slice (some ad167) l0_2.length c0_2] 42 (0, 0)) (kz BK166) hb); clear hb hbox hg; have hnb39 := NB168_166.out; have hnc39 := NB166_168.out; obtain ⟨hcz40_0, hcz40_1, hcz40_2, hfz40_0, hfz40_1, hfz40_2⟩ := kc3 BK168.out) | ((with_reducible refine gate_callee (f := 42) rfl ?_); refine goesL_ (some 42) rfl rfl Try.func42 qz rfl #[.agg #[.int .i64 ((rd_T64 l0_2 x36_2).f0.f0), .int .i64 ((rd_T64 l0_2 x36_2).f0.f1)]] rfl mz ?_; (with_reducible refine (stage_far.calls ((rd_T64 l0_2 x36_2).f0.f0) ((rd_T64 l0_2 x36_2).f0.f1) false _ A20.out).mono ?_); rintro e w41 ⟨rfl, hb⟩; refine ⟨_, rfl, ?_⟩; replace BK166 := am (blk_below (o := .cells #[.int .i64 a0_0, .int .i64 a0_1, .slice (some ad167) l0_2.length c0_2] 42 (0, 0)) (by (with_reducible repeat first | apply kN | apply kD | apply kA); refine blk_far ?_ NB166_168.out _; (with_reducible repeat first | apply kN | apply kD | apply kA); refine blk_far ?_ NB166_168.out _; (with_reducible repeat first | apply kN | apply kD | apply kA); refine blk_far ?_ NB166_168.out _; (with_reducible repeat first | apply kN | apply kD | apply kA); exact BK166.out) hb); replace BK168 := am (blk_below (o := .cells #[.int .i64 ((rd_T64 l0_2 x36_2).f0.f0), .int .i64 ((rd_T64 l0_2 x36_2).f0.f1), .int .i64 ((rd_T64 l0_2 x36_2).f1)] 64 (0, 0)) (by (with_reducible repeat first | apply kN | apply kD | apply kA); refine blk_put (cs := #[.int .i64 ((rd_T64 l0_2 x36_2).f0.f0), .int .i64 ((rd_T64 l0_2 x36_2).f0.f1), .int .i64 0]) ?_ 2 _ rfl; (with_reducible repeat first | apply kN | apply kD | apply kA); refine blk_put (cs := #[.int .i64 ((rd_T64 l0_2 x36_2).f0.f0), .int .i64 0, .int .i64 0]) ?_ 1 _ rfl; (with_reducible repeat first | apply kN | apply kD | apply kA); refine blk_put (cs := #[.int .i64 0, .int .i64 0, .int .i64 0]) ?_ 0 _ rfl; (with_reducible repeat first | apply kN | apply kD | apply kA); exact BK168.out) hb); replace HB := am (below_step bz hb); (try clear hb); (try clear hb2); (try clear hk); (try clear hi); obtain ⟨hcz42_0, hcz42_1, hcz42_2, hfz42_0, hfz42_1, hfz42_2⟩ := kc3 BK166.out; obtain ⟨hcz43_0, hcz43_1, hcz43_2, hfz43_0, hfz43_1, hfz43_2⟩ := kc3 BK168.out) | (go_at_call 36; (with_reducible refine (stage_on.calls a0_0 a0_1 _ _ l0_2 ((rd_T64 l0_2 x36_2).f0.f0) ((rd_T64 l0_2 x36_2).f0.f1) 0 true _ ?side1 ?side2 A26.out).mono ?_); (case side1 => exact cz HR0_2); (case side2 => exact HC0_2.out); rintro e w44 ⟨rfl, hb⟩; replace BK166 := am (blk_below (o := .cells #[.int .i64 a0_0, .int .i64 a0_1, .slice (some ad167) l0_2.length c0_2] 42 (0, 0)) (kz BK166) hb); replace BK168 := am (blk_below (o := .cells #[.int .i64 ((rd_T64 l0_2 x36_2).f0.f0), .int .i64 ((rd_T64 l0_2 x36_2).f0.f1), .int .i64 ((rd_T64 l0_2 x36_2).f1)] 64 (0, 0)) (kz BK168) hb); replace HB := am (below_step bz hb); (try clear hb); (try clear hb2); (try clear hk); (try clear hi); obtain ⟨hcz45_0, hcz45_1, hcz45_2, hfz45_0, hfz45_1, hfz45_2⟩ := kc3 BK168.out))
            go_ret
            exact ⟨ez, bz⟩
           ·
            rw [if_neg c37] at H
            have c37b0 := decide_eq_false c37
            clear c37
            by_cases c46 : ((((rd_T64 l0_2 x36_2).f0.f0) == 0 && (((rd_T64 l0_2 x36_2).f0.f1) == 0)) && (((rd_T64 l0_2 x36_2).f1) == 0)) = true
            ·
             rw [if_pos c46] at H
             have c46b0 : ((((rd_T64 l0_2 x36_2).f0.f0) == 0 && (((rd_T64 l0_2 x36_2).f0.f1) == 0)) && (((rd_T64 l0_2 x36_2).f1) == 0)) = true := c46
             clear c46
             obtain rfl := Option.some.inj H
             have p167 : 0 ≤ (x36_2 : Int) := az
             have q167 : x36_2 < (l0_2.length : Int) := az
             obtain ⟨ad167, e167, hx167_0, hx167_1, hx167_2⟩ := at_T64 HR0_2.out x36_2 p167 q167
             cases e167
             replace hx167_0 := cb HB.out hx167_0
             replace hx167_1 := cb HB.out hx167_1
             replace hx167_2 := cb HB.out hx167_2
             replace p167 := eq_true p167
             replace q167 := eq_true q167
             go_wp2_with (first | ((with_reducible refine gate_dst (N := 4) rfl ?_); refine box_event yz (N := 4) yz (cs := #[.int .i64 0, .int .i64 0, .int .i64 0]) (t := 64) gz ?_; intro gb168 hg w47 hbox hb; have BK168 := am (hbox); have GW168 := gwz (g := gb168) HB hg; have GE168 := GW168; replace HB := am (below_step bz hb); have NB166_168 := nlt (g' := gb168) BK166 hg; have NB168_166 := ngt (g' := gb168) BK166 hg; replace BK166 := am (blk_below (o := .cells #[.int .i64 a0_0, .int .i64 a0_1, .slice (some ad167) l0_2.length c0_2] 42 (0, 0)) (kz BK166) hb); clear hb hbox hg; have hnb48 := NB168_166.out; have hnc48 := NB166_168.out; obtain ⟨hcz49_0, hcz49_1, hcz49_2, hfz49_0, hfz49_1, hfz49_2⟩ := kc3 BK168.out) | ((with_reducible refine gate_callee (f := 42) rfl ?_); refine goesL_ (some 42) rfl rfl Try.func42 qz rfl #[.agg #[.int .i64 ((rd_T64 l0_2 x36_2).f0.f0), .int .i64 ((rd_T64 l0_2 x36_2).f0.f1)]] rfl mz ?_; (with_reducible refine (stage_far.calls ((rd_T64 l0_2 x36_2).f0.f0) ((rd_T64 l0_2 x36_2).f0.f1) false _ A20.out).mono ?_); rintro e w50 ⟨rfl, hb⟩; refine ⟨_, rfl, ?_⟩; replace BK166 := am (blk_below (o := .cells #[.int .i64 a0_0, .int .i64 a0_1, .slice (some ad167) l0_2.length c0_2] 42 (0, 0)) (by (with_reducible repeat first | apply kN | apply kD | apply kA); refine blk_far ?_ NB166_168.out _; (with_reducible repeat first | apply kN | apply kD | apply kA); refine blk_far ?_ NB166_168.out _; (with_reducible repeat first | apply kN | apply kD | apply kA); refine blk_far ?_ NB166_168.out _; (with_reducible repeat first | apply kN | apply kD | apply kA); exact BK166.out) hb); replace BK168 := am (blk_below (o := .cells #[.int .i64 ((rd_T64 l0_2 x36_2).f0.f0), .int .i64 ((rd_T64 l0_2 x36_2).f0.f1), .int .i64 ((rd_T64 l0_2 x36_2).f1)] 64 (0, 0)) (by (with_reducible repeat first | apply kN | apply kD | apply kA); refine blk_put (cs := #[.int .i64 ((rd_T64 l0_2 x36_2).f0.f0), .int .i64 ((rd_T64 l0_2 x36_2).f0.f1), .int .i64 0]) ?_ 2 _ rfl; (with_reducible repeat first | apply kN | apply kD | apply kA); refine blk_put (cs := #[.int .i64 ((rd_T64 l0_2 x36_2).f0.f0), .int .i64 0, .int .i64 0]) ?_ 1 _ rfl; (with_reducible repeat first | apply kN | apply kD | apply kA); refine blk_put (cs := #[.int .i64 0, .int .i64 0, .int .i64 0]) ?_ 0 _ rfl; (with_reducible repeat first | apply kN | apply kD | apply kA); exact BK168.out) hb); replace HB := am (below_step bz hb); (try clear hb); (try clear hb2); (try clear hk); (try clear hi); obtain ⟨hcz51_0, hcz51_1, hcz51_2, hfz51_0, hfz51_1, hfz51_2⟩ := kc3 BK166.out; obtain ⟨hcz52_0, hcz52_1, hcz52_2, hfz52_0, hfz52_1, hfz52_2⟩ := kc3 BK168.out) | (go_at_call 36; (with_reducible refine (stage_on.calls a0_0 a0_1 _ _ l0_2 ((rd_T64 l0_2 x36_2).f0.f0) ((rd_T64 l0_2 x36_2).f0.f1) 0 true _ ?side1 ?side2 A26.out).mono ?_); (case side1 => exact cz HR0_2); (case side2 => exact HC0_2.out); rintro e w53 ⟨rfl, hb⟩; replace BK166 := am (blk_below (o := .cells #[.int .i64 a0_0, .int .i64 a0_1, .slice (some ad167) l0_2.length c0_2] 42 (0, 0)) (kz BK166) hb); replace BK168 := am (blk_below (o := .cells #[.int .i64 ((rd_T64 l0_2 x36_2).f0.f0), .int .i64 ((rd_T64 l0_2 x36_2).f0.f1), .int .i64 ((rd_T64 l0_2 x36_2).f1)] 64 (0, 0)) (kz BK168) hb); replace HB := am (below_step bz hb); (try clear hb); (try clear hb2); (try clear hk); (try clear hi); obtain ⟨hcz54_0, hcz54_1, hcz54_2, hfz54_0, hfz54_1, hfz54_2⟩ := kc3 BK168.out))
             go_ret
             exact ⟨ez, bz⟩
            ·
             rw [if_neg c46] at H
             have c46b0 : ((((rd_T64 l0_2 x36_2).f0.f0) == 0 && (((rd_T64 l0_2 x36_2).f0.f1) == 0)) && (((rd_T64 l0_2 x36_2).f1) == 0)) = false := by simpa using c46
             clear c46
             have H' := am H
             clear H
             have p167 : 0 ≤ (x36_2 : Int) := az
             have q167 : x36_2 < (l0_2.length : Int) := az
             obtain ⟨ad167, e167, hx167_0, hx167_1, hx167_2⟩ := at_T64 HR0_2.out x36_2 p167 q167
             cases e167
             replace hx167_0 := cb HB.out hx167_0
             replace hx167_1 := cb HB.out hx167_1
             replace hx167_2 := cb HB.out hx167_2
             replace p167 := eq_true p167
             replace q167 := eq_true q167
             go_wp2_with (first | ((with_reducible refine gate_dst (N := 4) rfl ?_); refine box_event yz (N := 4) yz (cs := #[.int .i64 0, .int .i64 0, .int .i64 0]) (t := 64) gz ?_; intro gb168 hg w55 hbox hb; have BK168 := am (hbox); have GW168 := gwz (g := gb168) HB hg; have GE168 := GW168; replace HB := am (below_step bz hb); have NB166_168 := nlt (g' := gb168) BK166 hg; have NB168_166 := ngt (g' := gb168) BK166 hg; replace BK166 := am (blk_below (o := .cells #[.int .i64 a0_0, .int .i64 a0_1, .slice (some ad167) l0_2.length c0_2] 42 (0, 0)) (kz BK166) hb); clear hb hbox hg; have hnb56 := NB168_166.out; have hnc56 := NB166_168.out; obtain ⟨hcz57_0, hcz57_1, hcz57_2, hfz57_0, hfz57_1, hfz57_2⟩ := kc3 BK168.out) | ((with_reducible refine gate_callee (f := 42) rfl ?_); refine goesL_ (some 42) rfl rfl Try.func42 qz rfl #[.agg #[.int .i64 ((rd_T64 l0_2 x36_2).f0.f0), .int .i64 ((rd_T64 l0_2 x36_2).f0.f1)]] rfl mz ?_; (with_reducible refine (stage_far.calls ((rd_T64 l0_2 x36_2).f0.f0) ((rd_T64 l0_2 x36_2).f0.f1) false _ A20.out).mono ?_); rintro e w58 ⟨rfl, hb⟩; refine ⟨_, rfl, ?_⟩; replace BK166 := am (blk_below (o := .cells #[.int .i64 a0_0, .int .i64 a0_1, .slice (some ad167) l0_2.length c0_2] 42 (0, 0)) (by (with_reducible repeat first | apply kN | apply kD | apply kA); refine blk_far ?_ NB166_168.out _; (with_reducible repeat first | apply kN | apply kD | apply kA); refine blk_far ?_ NB166_168.out _; (with_reducible repeat first | apply kN | apply kD | apply kA); refine blk_far ?_ NB166_168.out _; (with_reducible repeat first | apply kN | apply kD | apply kA); exact BK166.out) hb); replace BK168 := am (blk_below (o := .cells #[.int .i64 ((rd_T64 l0_2 x36_2).f0.f0), .int .i64 ((rd_T64 l0_2 x36_2).f0.f1), .int .i64 ((rd_T64 l0_2 x36_2).f1)] 64 (0, 0)) (by (with_reducible repeat first | apply kN | apply kD | apply kA); refine blk_put (cs := #[.int .i64 ((rd_T64 l0_2 x36_2).f0.f0), .int .i64 ((rd_T64 l0_2 x36_2).f0.f1), .int .i64 0]) ?_ 2 _ rfl; (with_reducible repeat first | apply kN | apply kD | apply kA); refine blk_put (cs := #[.int .i64 ((rd_T64 l0_2 x36_2).f0.f0), .int .i64 0, .int .i64 0]) ?_ 1 _ rfl; (with_reducible repeat first | apply kN | apply kD | apply kA); refine blk_put (cs := #[.int .i64 0, .int .i64 0, .int .i64 0]) ?_ 0 _ rfl; (with_reducible repeat first | apply kN | apply kD | apply kA); exact BK168.out) hb); replace HB := am (below_step bz hb); (try clear hb); (try clear hb2); (try clear hk); (try clear hi); obtain ⟨hcz59_0, hcz59_1, hcz59_2, hfz59_0, hfz59_1, hfz59_2⟩ := kc3 BK166.out; obtain ⟨hcz60_0, hcz60_1, hcz60_2, hfz60_0, hfz60_1, hfz60_2⟩ := kc3 BK168.out) | (go_at_call 36; (with_reducible refine (stage_on.calls a0_0 a0_1 _ _ l0_2 ((rd_T64 l0_2 x36_2).f0.f0) ((rd_T64 l0_2 x36_2).f0.f1) 0 true _ ?side1 ?side2 A26.out).mono ?_); (case side1 => exact cz HR0_2); (case side2 => exact HC0_2.out); rintro e w61 ⟨rfl, hb⟩; replace BK166 := am (blk_below (o := .cells #[.int .i64 a0_0, .int .i64 a0_1, .slice (some ad167) l0_2.length c0_2] 42 (0, 0)) (kz BK166) hb); replace BK168 := am (blk_below (o := .cells #[.int .i64 ((rd_T64 l0_2 x36_2).f0.f0), .int .i64 ((rd_T64 l0_2 x36_2).f0.f1), .int .i64 ((rd_T64 l0_2 x36_2).f1)] 64 (0, 0)) (kz BK168) hb); replace HB := am (below_step bz hb); (try clear hb); (try clear hb2); (try clear hk); (try clear hi); obtain ⟨hcz62_0, hcz62_1, hcz62_2, hfz62_0, hfz62_1, hfz62_2⟩ := kc3 BK168.out))
             go_roundg k2
             case measure => have := HJ1.out; have := HK2.out; omega
             case rel => exact ⟨(wrap64 (x36_2 + 1)), sz, H', ⟨by have := HJ1.out; have := HK2.out; omega⟩, ⟨kz BK166⟩, ⟨bz⟩⟩
         ·
          replace c27 := Bool.eq_false_iff.mpr c27
          subst c27
          have H1 : (some 29) = some r := by rw [if_neg (show ¬ (false = true) by decide)] at H; exact H
          clear H
          have H := H1
          clear H1
          obtain rfl := Option.some.inj H
          have p167 : 0 ≤ (x36_2 : Int) := az
          have q167 : x36_2 < (l0_2.length : Int) := az
          obtain ⟨ad167, e167, hx167_0, hx167_1, hx167_2⟩ := at_T64 HR0_2.out x36_2 p167 q167
          cases e167
          replace hx167_0 := cb HB.out hx167_0
          replace hx167_1 := cb HB.out hx167_1
          replace hx167_2 := cb HB.out hx167_2
          replace p167 := eq_true p167
          replace q167 := eq_true q167
          go_wp2_with (first | ((with_reducible refine gate_dst (N := 4) rfl ?_); refine box_event yz (N := 4) yz (cs := #[.int .i64 0, .int .i64 0, .int .i64 0]) (t := 64) gz ?_; intro gb168 hg w63 hbox hb; have BK168 := am (hbox); have GW168 := gwz (g := gb168) HB hg; have GE168 := GW168; replace HB := am (below_step bz hb); have NB166_168 := nlt (g' := gb168) BK166 hg; have NB168_166 := ngt (g' := gb168) BK166 hg; replace BK166 := am (blk_below (o := .cells #[.int .i64 a0_0, .int .i64 a0_1, .slice (some ad167) l0_2.length c0_2] 42 (0, 0)) (kz BK166) hb); clear hb hbox hg; have hnb64 := NB168_166.out; have hnc64 := NB166_168.out; obtain ⟨hcz65_0, hcz65_1, hcz65_2, hfz65_0, hfz65_1, hfz65_2⟩ := kc3 BK168.out) | ((with_reducible refine gate_callee (f := 42) rfl ?_); refine goesL_ (some 42) rfl rfl Try.func42 qz rfl #[.agg #[.int .i64 ((rd_T64 l0_2 x36_2).f0.f0), .int .i64 ((rd_T64 l0_2 x36_2).f0.f1)]] rfl mz ?_; (with_reducible refine (stage_far.calls ((rd_T64 l0_2 x36_2).f0.f0) ((rd_T64 l0_2 x36_2).f0.f1) false _ A20.out).mono ?_); rintro e w66 ⟨rfl, hb⟩; refine ⟨_, rfl, ?_⟩; replace BK166 := am (blk_below (o := .cells #[.int .i64 a0_0, .int .i64 a0_1, .slice (some ad167) l0_2.length c0_2] 42 (0, 0)) (by (with_reducible repeat first | apply kN | apply kD | apply kA); refine blk_far ?_ NB166_168.out _; (with_reducible repeat first | apply kN | apply kD | apply kA); refine blk_far ?_ NB166_168.out _; (with_reducible repeat first | apply kN | apply kD | apply kA); refine blk_far ?_ NB166_168.out _; (with_reducible repeat first | apply kN | apply kD | apply kA); exact BK166.out) hb); replace BK168 := am (blk_below (o := .cells #[.int .i64 ((rd_T64 l0_2 x36_2).f0.f0), .int .i64 ((rd_T64 l0_2 x36_2).f0.f1), .int .i64 ((rd_T64 l0_2 x36_2).f1)] 64 (0, 0)) (by (with_reducible repeat first | apply kN | apply kD | apply kA); refine blk_put (cs := #[.int .i64 ((rd_T64 l0_2 x36_2).f0.f0), .int .i64 ((rd_T64 l0_2 x36_2).f0.f1), .int .i64 0]) ?_ 2 _ rfl; (with_reducible repeat first | apply kN | apply kD | apply kA); refine blk_put (cs := #[.int .i64 ((rd_T64 l0_2 x36_2).f0.f0), .int .i64 0, .int .i64 0]) ?_ 1 _ rfl; (with_reducible repeat first | apply kN | apply kD | apply kA); refine blk_put (cs := #[.int .i64 0, .int .i64 0, .int .i64 0]) ?_ 0 _ rfl; (with_reducible repeat first | apply kN | apply kD | apply kA); exact BK168.out) hb); replace HB := am (below_step bz hb); (try clear hb); (try clear hb2); (try clear hk); (try clear hi); obtain ⟨hcz67_0, hcz67_1, hcz67_2, hfz67_0, hfz67_1, hfz67_2⟩ := kc3 BK166.out; obtain ⟨hcz68_0, hcz68_1, hcz68_2, hfz68_0, hfz68_1, hfz68_2⟩ := kc3 BK168.out) | (go_at_call 36; (with_reducible refine (stage_on.calls a0_0 a0_1 _ _ l0_2 ((rd_T64 l0_2 x36_2).f0.f0) ((rd_T64 l0_2 x36_2).f0.f1) 0 false _ ?side1 ?side2 A26.out).mono ?_); (case side1 => exact cz HR0_2); (case side2 => exact HC0_2.out); rintro e w69 ⟨rfl, hb⟩; replace BK166 := am (blk_below (o := .cells #[.int .i64 a0_0, .int .i64 a0_1, .slice (some ad167) l0_2.length c0_2] 42 (0, 0)) (kz BK166) hb); replace BK168 := am (blk_below (o := .cells #[.int .i64 ((rd_T64 l0_2 x36_2).f0.f0), .int .i64 ((rd_T64 l0_2 x36_2).f0.f1), .int .i64 ((rd_T64 l0_2 x36_2).f1)] 64 (0, 0)) (kz BK168) hb); replace HB := am (below_step bz hb); (try clear hb); (try clear hb2); (try clear hk); (try clear hi)))
          go_ret
          exact ⟨ez, bz⟩
       ·
        rw [if_neg c17] at H
        have c17b0 := decide_eq_false c17
        clear c17
        obtain rfl := Option.some.inj H
        go_wp2
        go_ret
        exact ⟨ez, bz⟩

end Go.Proofs.Ytmdmajfgpmopbaa.X
