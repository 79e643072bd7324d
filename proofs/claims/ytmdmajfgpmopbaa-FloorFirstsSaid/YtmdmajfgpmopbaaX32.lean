import Derived.Test.YtmdmajfgpmopbaaX0
import Derived.Test.YtmdmajfgpmopbaaX18
import Derived.Test.YtmdmajfgpmopbaaX20
import Derived.Test.YtmdmajfgpmopbaaX31
namespace Go.Proofs.Ytmdmajfgpmopbaa.X
open Go.RowKit YtmdmajfgpmopbaaW.PrintWords YtmdmajfgpmopbaaW.PrintLast YtmdmajfgpmopbaaW.PrintMore
attribute [local go_sem] max2_int min2_int max_two min_two max_three min_three max_four min_four
set_option linter.unusedVariables false
set_option linter.unusedSimpArgs false

/-! ### stage_Clear: function 22 -/
def stage_Clear.l0 : Nat → Int → List (S64) → Int → Int → Int → Int → List (S64) → Int → Int → Int → Int → Int → Option (Bool × Int × Int)
 | 0, _, _, _, _, _, _, _, _, _, _, _, _ => none
 | k + 1, x10, x30, x31, x32, x233000, x233001, x233002, x234000, x234001, x234002, x234003, x234004 => if x32 < x31 then (if 0 ≤ x32 then (if x32 < (x30.length : Int) then ((geom_Touch.f k x234000 x234001 x234002 x234003 x234004 ((rd_T64 x30 x32).f0.f0) ((rd_T64 x30 x32).f0.f1) ((rd_T64 x30 x32).f0.f0) ((rd_T64 x30 x32).f0.f1) ((rd_T64 x30 x32).f1)).bind fun bt239 => (if bt239.1 = true then ((stage_on.f x233000 x233001 x233002 x234000 x234001 x234004).bind fun t241 => (if t241 = true then ((stage_on.f x233000 x233001 x233002 x234002 x234003 x234004).bind fun t242 => (some (t242, x32, 0))) else (some (false, x32, 0)))) else (stage_Clear.l0 k x10 x30 x31 (wrap64 (x32 + 1)) x233000 x233001 x233002 x234000 x234001 x234002 x234003 x234004))) else (none)) else (none)) else ((stage_on.f x233000 x233001 x233002 x234000 x234001 x234004).bind fun t243 => (if t243 = true then ((stage_on.f x233000 x233001 x233002 x234002 x234003 x234004).bind fun t244 => (some (t244, x10, 0))) else (some (false, x10, 0))))
def stage_Clear.f (k : Nat) (a0_0 a0_1 : Int) (l0_2 : List (S64)) (a1_0 a1_1 a1_2 a1_3 a1_4 : Int) : Option (Bool × Int × Int) := (stage_Check.f k a0_0 a0_1 l0_2).bind fun t234 => (if t234 = 0 then ((geom_Touch.f k a1_0 a1_1 a1_2 a1_3 a1_4 a1_0 a1_1 a1_2 a1_3 a1_4).bind fun bt235 => (if bt235.2 = 0 then (stage_Clear.l0 k (-1) l0_2 (l0_2.length : Int) 0 a0_0 a0_1 l0_2 a1_0 a1_1 a1_2 a1_3 a1_4) else (some (false, 0, bt235.2)))) else (some (false, 0, t234)))
theorem stage_Clear.mono_l : ∀ k, (∀ y0 y1 y2 y3 y4 y5 y6 y7 y8 y9 y10 y11, LeO (stage_Clear.l0 k y0 y1 y2 y3 y4 y5 y6 y7 y8 y9 y10 y11) (stage_Clear.l0 (k + 1) y0 y1 y2 y3 y4 y5 y6 y7 y8 y9 y10 y11))
 | 0 => fun _ _ _ _ _ _ _ _ _ _ _ _ r h => by simp [stage_Clear.l0] at h
 | k + 1 => by
  have ih0 := stage_Clear.mono_l k
  ·
   intro y0 y1 y2 y3 y4 y5 y6 y7 y8 y9 y10 y11
   unfold stage_Clear.l0
   repeat' first
   | (with_reducible exact ih0 _ _ _ _ _ _ _ _ _ _ _ _)
   | (with_reducible exact geom_Touch.mono _ _ _ _ _ _ _ _ _ _ _)
   | (with_reducible exact stage_Check.mono _ _ _ _)
   | (with_reducible exact LeO.refl _)
   | (with_reducible exact LeO.none _)
   | (with_reducible refine LeO.ite ?_ ?_)
   | (with_reducible refine LeO.bind ?_ (fun _ => ?_))
   | exact ih0 _ _ _ _ _ _ _ _ _ _ _ _
   | exact geom_Touch.mono _ _ _ _ _ _ _ _ _ _ _
   | exact stage_Check.mono _ _ _ _
   | exact LeO.none _
   | refine LeO.ite ?_ ?_
   | refine LeO.bind ?_ (fun _ => ?_)
theorem stage_Clear.mono : ∀ a0 a1 a2 a3 a4 a5 a6 a7 k, LeO (stage_Clear.f k a0 a1 a2 a3 a4 a5 a6 a7) (stage_Clear.f (k + 1) a0 a1 a2 a3 a4 a5 a6 a7) := by
 intro a0 a1 a2 a3 a4 a5 a6 a7 k
 have ih0 := stage_Clear.mono_l k
 unfold stage_Clear.f
 repeat' first
   | (with_reducible exact ih0 _ _ _ _ _ _ _ _ _ _ _ _)
   | (with_reducible exact geom_Touch.mono _ _ _ _ _ _ _ _ _ _ _)
   | (with_reducible exact stage_Check.mono _ _ _ _)
   | (with_reducible exact LeO.refl _)
   | (with_reducible exact LeO.none _)
   | (with_reducible refine LeO.ite ?_ ?_)
   | (with_reducible refine LeO.bind ?_ (fun _ => ?_))
   | exact ih0 _ _ _ _ _ _ _ _ _ _ _ _
   | exact geom_Touch.mono _ _ _ _ _ _ _ _ _ _ _
   | exact stage_Check.mono _ _ _ _
   | exact LeO.none _
   | refine LeO.ite ?_ ?_
   | refine LeO.bind ?_ (fun _ => ?_)
set_option maxHeartbeats 8000000 in
set_option maxRecDepth 100000 in
theorem stage_Clear.calls (k : Nat) (a0_0 a0_1 : Int) (A0_2 : Option Addr) (c0_2 : Nat) (l0_2 : List (S64)) (a1_0 a1_1 a1_2 a1_3 a1_4 : Int) (r1 : Bool) (r2 r3 : Int) (w : World) (hr0_2 : Kd.C k64 w A0_2 l0_2.length l0_2) (hc0_2 : l0_2.length ≤ c0_2) (h : stage_Clear.f k a0_0 a0_1 l0_2 a1_0 a1_1 a1_2 a1_3 a1_4 = some (r1, r2, r3)) :
  Calls Try.prog 22 #[.agg #[.int .i64 a0_0, .int .i64 a0_1, .slice A0_2 l0_2.length c0_2], .agg #[.int .i64 a1_0, .int .i64 a1_1, .int .i64 a1_2, .int .i64 a1_3, .int .i64 a1_4]] w fun e w' => e = .returned (.tuple #[.bool r1, .int .i64 r2, .int .i64 r3]) ∧ Below w.heap.size w w' := by
 have hu42 := Try.underlying42
 have hu57 := Try.underlying57
 have hu64 := Try.underlying64
 have hu35 := Try.underlying35
 have HR0_2 := am hr0_2
 have HC0_2 := am hc0_2
 clear hr0_2 hc0_2
 have HB := am (Below.refl w.heap.size w)
 have H : ((stage_Check.f k a0_0 a0_1 l0_2).bind fun t234 => (if t234 = 0 then ((geom_Touch.f k a1_0 a1_1 a1_2 a1_3 a1_4 a1_0 a1_1 a1_2 a1_3 a1_4).bind fun bt235 => (if bt235.2 = 0 then (stage_Clear.l0 k (-1) l0_2 (l0_2.length : Int) 0 a0_0 a0_1 l0_2 a1_0 a1_1 a1_2 a1_3 a1_4) else (some (false, 0, bt235.2)))) else (some (false, 0, t234)))) = some (r1, r2, r3) := h
 clear h
 replace H := Option.bind_eq_some_iff.mp H
 obtain ⟨t234, A30, H⟩ := H
 replace H : (if t234 = 0 then ((geom_Touch.f k a1_0 a1_1 a1_2 a1_3 a1_4 a1_0 a1_1 a1_2 a1_3 a1_4).bind fun bt235 => (if bt235.2 = 0 then (stage_Clear.l0 k (-1) l0_2 (l0_2.length : Int) 0 a0_0 a0_1 l0_2 a1_0 a1_1 a1_2 a1_3 a1_4) else (some (false, 0, bt235.2)))) else (some (false, 0, t234))) = some (r1, r2, r3) := H
 have A3 := am A30
 clear A30
 by_cases c4 : t234 = 0
 ·
  rw [if_pos c4] at H
  have c4b0 : (t234 == 0) = true := beq_iff_eq.mpr c4
  have c4b1 : (t234 != 0) = false := bne_eq_false_iff_eq.mpr c4
  clear c4
  replace H := Option.bind_eq_some_iff.mp H
  obtain ⟨⟨t235, t236⟩, A50, H⟩ := H
  replace H : (if t236 = 0 then (stage_Clear.l0 k (-1) l0_2 (l0_2.length : Int) 0 a0_0 a0_1 l0_2 a1_0 a1_1 a1_2 a1_3 a1_4) else (some (false, 0, t236))) = some (r1, r2, r3) := H
  have A5 := am A50
  clear A50
  by_cases c6 : t236 = 0
  ·
   rw [if_pos c6] at H
   have c6b0 : (t236 == 0) = true := beq_iff_eq.mpr c6
   have c6b1 : (t236 != 0) = false := bne_eq_false_iff_eq.mpr c6
   clear c6
   have H' := am H
   clear H
   go_enter Try.func22, Try.ntmps22
   go_wp2_with (first | ((with_reducible refine gate_dst (N := 2) rfl ?_); refine box_event yz (N := 2) yz (cs := #[.int .i64 a0_0, .int .i64 a0_1, .slice A0_2 l0_2.length c0_2]) (t := 42) gz ?_; intro gb232 hg w7 hbox hb; have BK232 := am (hbox); have GW232 := gwz (g := gb232) HB hg; have GE232 := GW232; replace HB := am (below_step bz hb); clear hb hbox hg) | ((with_reducible refine gate_dst (N := 3) rfl ?_); refine box_event yz (N := 3) yz (cs := #[.int .i64 a1_0, .int .i64 a1_1, .int .i64 a1_2, .int .i64 a1_3, .int .i64 a1_4]) (t := 57) gz ?_; intro gb233 hg w8 hbox hb; have BK233 := am (hbox); have GW233 := gwz (g := gb233) HB hg; have GE233 := GW233; replace HB := am (below_step bz hb); have NB232_233 := nlt (g' := gb233) BK232 hg; have NB233_232 := ngt (g' := gb233) BK232 hg; replace BK232 := am (blk_below (o := .cells #[.int .i64 a0_0, .int .i64 a0_1, .slice A0_2 l0_2.length c0_2] 42 (0, 0)) (kz BK232) hb); clear hb hbox hg; have hnb9 := NB232_233.out; have hnc9 := NB233_232.out; obtain ⟨hcz10_0, hcz10_1, hcz10_2, hfz10_0, hfz10_1, hfz10_2⟩ := kc3 BK232.out))
   repeat (go_step3; go_wp2_with (first | ((with_reducible refine gate_callee (f := 31) rfl ?_); refine goesL_ (some 16) rfl rfl Try.func31 qz rfl #[.agg #[.int .i64 a0_0, .int .i64 a0_1, .slice A0_2 l0_2.length c0_2]] rfl mz ?_; (with_reducible refine (stage_Check.calls k a0_0 a0_1 _ _ l0_2 t234 _ ?side1 ?side2 A3.out).mono ?_); (case side1 => exact cz HR0_2); (case side2 => exact HC0_2.out); rintro e w11 ⟨rfl, hb⟩; refine ⟨_, rfl, ?_⟩; replace BK232 := am (blk_below (o := .cells #[.int .i64 a0_0, .int .i64 a0_1, .slice A0_2 l0_2.length c0_2] 42 (0, 0)) (kz BK232) hb); replace BK233 := am (blk_below (o := .cells #[.int .i64 a1_0, .int .i64 a1_1, .int .i64 a1_2, .int .i64 a1_3, .int .i64 a1_4] 57 (0, 0)) (kz BK233) hb); replace HB := am (below_step bz hb); (try clear hb); (try clear hb2); (try clear hk); (try clear hi); obtain ⟨hcz12_0, hcz12_1, hcz12_2, hcz12_3, hcz12_4, hfz12_0, hfz12_1, hfz12_2, hfz12_3, hfz12_4⟩ := kc5 BK233.out) | ((with_reducible refine gate_callee (f := 35) rfl ?_); refine goesL_ (some 23) rfl rfl Try.func35 qz rfl #[.agg #[.int .i64 a1_0, .int .i64 a1_1, .int .i64 a1_2, .int .i64 a1_3, .int .i64 a1_4], .agg #[.int .i64 a1_0, .int .i64 a1_1, .int .i64 a1_2, .int .i64 a1_3, .int .i64 a1_4]] rfl mz ?_; (with_reducible refine (geom_Touch.calls k a1_0 a1_1 a1_2 a1_3 a1_4 a1_0 a1_1 a1_2 a1_3 a1_4 t235 t236 _ A5.out).mono ?_); rintro e w13 ⟨rfl, hb⟩; refine ⟨_, rfl, ?_⟩; replace BK232 := am (blk_below (o := .cells #[.int .i64 a0_0, .int .i64 a0_1, .slice A0_2 l0_2.length c0_2] 42 (0, 0)) (kz BK232) hb); replace BK233 := am (blk_below (o := .cells #[.int .i64 a1_0, .int .i64 a1_1, .int .i64 a1_2, .int .i64 a1_3, .int .i64 a1_4] 57 (0, 0)) (kz BK233) hb); replace HB := am (below_step bz hb); (try clear hb); (try clear hb2); (try clear hk); (try clear hi); obtain ⟨hcz14_0, hcz14_1, hcz14_2, hfz14_0, hfz14_1, hfz14_2⟩ := kc3 BK232.out)))
   go_loopg [10, 32] k (fun kq v10 v32 w' => ∃ (x10_1 x32_1 : Int), v10 = .int .i64 x10_1 ∧ v32 = .int .i64 x32_1 ∧ Aside0 (stage_Clear.l0 kq x10_1 l0_2 (l0_2.length : Int) x32_1 a0_0 a0_1 l0_2 a1_0 a1_1 a1_2 a1_3 a1_4 = some (r1, r2, r3)) ∧ Aside0 (kq ≤ k) ∧ Aside0 (w'.heap[gb232]? = some (.cells #[.int .i64 a0_0, .int .i64 a0_1, (.slice A0_2 l0_2.length c0_2)] 42 (0, 0))) ∧ Aside0 (w'.heap[gb233]? = some (.cells #[.int .i64 a1_0, .int .i64 a1_1, .int .i64 a1_2, .int .i64 a1_3, .int .i64 a1_4] 57 (0, 0))) ∧ Aside0 (Below w.heap.size w w'))
   case atStart => exact ⟨((-1)), (0), sz, sz, H', ⟨Nat.le_refl _⟩, ⟨kz BK232⟩, ⟨kz BK233⟩, ⟨bz⟩⟩
   case round =>
    clear H'
    try clear c2
    try clear p2
    try clear c3
    try clear c4
    try clear c4b0
    try clear c4b1
    try clear c6
    try clear c6b0
    try clear c6b1
    try clear c9
    try clear hcz10_0
    try clear hcz10_1
    try clear hcz10_2
    try clear hcz12_0
    try clear hcz12_1
    try clear hcz12_2
    try clear hcz12_3
    try clear hcz12_4
    try clear hcz14_0
    try clear hcz14_1
    try clear hcz14_2
    try clear hfz10_0
    try clear hfz10_1
    try clear hfz10_2
    try clear hfz12_0
    try clear hfz12_1
    try clear hfz12_2
    try clear hfz12_3
    try clear hfz12_4
    try clear hfz14_0
    try clear hfz14_1
    try clear hfz14_2
    obtain ⟨x10_1, x32_1, rfl, rfl, HA, HK1, BK232, BK233, HB⟩ := hrel
    cases gk with
    | zero => exact absurd HA.out (by simp [stage_Clear.l0])
    | succ k1 =>
     have H := HA.out
     clear HA
     simp only [stage_Clear.l0] at H
     by_cases c15 : x32_1 < (l0_2.length : Int)
     ·
      rw [if_pos c15] at H
      have c15b0 := decide_eq_true c15
      clear c15
      by_cases c16 : 0 ≤ x32_1; rotate_left
      · rw [if_neg c16] at H; exact absurd H (by simp)
      rw [if_pos c16] at H
      have c16b0 := decide_eq_true c16
      clear c16
      by_cases c17 : x32_1 < (l0_2.length : Int); rotate_left
      · rw [if_neg c17] at H; exact absurd H (by simp)
      rw [if_pos c17] at H
      have c17b0 := decide_eq_true c17
      clear c17
      replace H := Option.bind_eq_some_iff.mp H
      obtain ⟨⟨t239, t240⟩, A180, H⟩ := H
      replace H : (if t239 = true then ((stage_on.f a0_0 a0_1 l0_2 a1_0 a1_1 a1_4).bind fun t241 => (if t241 = true then ((stage_on.f a0_0 a0_1 l0_2 a1_2 a1_3 a1_4).bind fun t242 => (some (t242, x32_1, 0))) else (some (false, x32_1, 0)))) else (stage_Clear.l0 k1 x10_1 l0_2 (l0_2.length : Int) (wrap64 (x32_1 + 1)) a0_0 a0_1 l0_2 a1_0 a1_1 a1_2 a1_3 a1_4)) = some (r1, r2, r3) := H
      have A18 := am A180
      clear A180
      by_cases c19 : t239 = true
      ·
       subst c19
       have H1 : ((stage_on.f a0_0 a0_1 l0_2 a1_0 a1_1 a1_4).bind fun t241 => (if t241 = true then ((stage_on.f a0_0 a0_1 l0_2 a1_2 a1_3 a1_4).bind fun t242 => (some (t242, x32_1, 0))) else (some (false, x32_1, 0)))) = some (r1, r2, r3) := by rw [if_pos rfl] at H; exact H
       clear H
       have H := H1
       clear H1
       replace H := Option.bind_eq_some_iff.mp H
       obtain ⟨t241, A200, H⟩ := H
       replace H : (if t241 = true then ((stage_on.f a0_0 a0_1 l0_2 a1_2 a1_3 a1_4).bind fun t242 => (some (t242, x32_1, 0))) else (some (false, x32_1, 0))) = some (r1, r2, r3) := H
       have A20 := am A200
       clear A200
       by_cases c21 : t241 = true
       ·
        subst c21
        have H1 : ((stage_on.f a0_0 a0_1 l0_2 a1_2 a1_3 a1_4).bind fun t242 => (some (t242, x32_1, 0))) = some (r1, r2, r3) := by rw [if_pos rfl] at H; exact H
        clear H
        have H := H1
        clear H1
        replace H := Option.bind_eq_some_iff.mp H
        obtain ⟨t242, A220, H⟩ := H
        replace H : (some (t242, x32_1, 0)) = some (r1, r2, r3) := H
        have A22 := am A220
        clear A220
        simp only [Option.some.injEq, Prod.mk.injEq] at H
        obtain ⟨rfl, rfl, rfl⟩ := H
        have p237 : 0 ≤ (x32_1 : Int) := az
        have q237 : x32_1 < (l0_2.length : Int) := az
        obtain ⟨ad237, e237, hx237_0, hx237_1, hx237_2⟩ := at_T64 HR0_2.out x32_1 p237 q237
        cases e237
        replace hx237_0 := cb HB.out hx237_0
        replace hx237_1 := cb HB.out hx237_1
        replace hx237_2 := cb HB.out hx237_2
        replace p237 := eq_true p237
        replace q237 := eq_true q237
        go_wp2_with (first | ((with_reducible refine gate_dst (N := 12) rfl ?_); refine box_event yz (N := 12) yz (cs := #[.int .i64 0, .int .i64 0, .int .i64 0]) (t := 64) gz ?_; intro gb238 hg w23 hbox hb; have BK238 := am (hbox); have GW238 := gwz (g := gb238) HB hg; have GE238 := GW238; replace HB := am (below_step bz hb); have NB232_238 := nlt (g' := gb238) BK232 hg; have NB238_232 := ngt (g' := gb238) BK232 hg; replace BK232 := am (blk_below (o := .cells #[.int .i64 a0_0, .int .i64 a0_1, .slice (some ad237) l0_2.length c0_2] 42 (0, 0)) (kz BK232) hb); have NB233_238 := nlt (g' := gb238) BK233 hg; have NB238_233 := ngt (g' := gb238) BK233 hg; replace BK233 := am (blk_below (o := .cells #[.int .i64 a1_0, .int .i64 a1_1, .int .i64 a1_2, .int .i64 a1_3, .int .i64 a1_4] 57 (0, 0)) (kz BK233) hb); clear hb hbox hg; have hnb24 := NB238_232.out; have hnc24 := NB232_238.out; have hnb25 := NB238_233.out; have hnc25 := NB233_238.out; obtain ⟨hcz26_0, hcz26_1, hcz26_2, hfz26_0, hfz26_1, hfz26_2⟩ := kc3 BK238.out; have hnb27 := NB233_232.out; have hnc27 := NB232_233.out; obtain ⟨hcz28_0, hcz28_1, hcz28_2, hcz28_3, hcz28_4, hfz28_0, hfz28_1, hfz28_2, hfz28_3, hfz28_4⟩ := kc5 BK233.out) | ((with_reducible refine gate_callee (f := 35) rfl ?_); refine goesL_ (some 46) rfl rfl Try.func35 qz rfl #[.agg #[.int .i64 a1_0, .int .i64 a1_1, .int .i64 a1_2, .int .i64 a1_3, .int .i64 a1_4], .agg #[.int .i64 ((rd_T64 l0_2 x32_1).f0.f0), .int .i64 ((rd_T64 l0_2 x32_1).f0.f1), .int .i64 ((rd_T64 l0_2 x32_1).f0.f0), .int .i64 ((rd_T64 l0_2 x32_1).f0.f1), .int .i64 ((rd_T64 l0_2 x32_1).f1)]] rfl mz ?_; (with_reducible refine (geom_Touch.calls k1 a1_0 a1_1 a1_2 a1_3 a1_4 ((rd_T64 l0_2 x32_1).f0.f0) ((rd_T64 l0_2 x32_1).f0.f1) ((rd_T64 l0_2 x32_1).f0.f0) ((rd_T64 l0_2 x32_1).f0.f1) ((rd_T64 l0_2 x32_1).f1) true t240 _ A18.out).mono ?_); rintro e w29 ⟨rfl, hb⟩; refine ⟨_, rfl, ?_⟩; replace BK232 := am (blk_below (o := .cells #[.int .i64 a0_0, .int .i64 a0_1, .slice (some ad237) l0_2.length c0_2] 42 (0, 0)) (by (with_reducible repeat first | apply kN | apply kD | apply kA); refine blk_far ?_ NB232_238.out _; (with_reducible repeat first | apply kN | apply kD | apply kA); refine blk_far ?_ NB232_238.out _; (with_reducible repeat first | apply kN | apply kD | apply kA); refine blk_far ?_ NB232_238.out _; (with_reducible repeat first | apply kN | apply kD | apply kA); exact BK232.out) hb); replace BK233 := am (blk_below (o := .cells #[.int .i64 a1_0, .int .i64 a1_1, .int .i64 a1_2, .int .i64 a1_3, .int .i64 a1_4] 57 (0, 0)) (by (with_reducible repeat first | apply kN | apply kD | apply kA); refine blk_far ?_ NB233_238.out _; (with_reducible repeat first | apply kN | apply kD | apply kA); refine blk_far ?_ NB233_238.out _; (with_reducible repeat first | apply kN | apply kD | apply kA); refine blk_far ?_ NB233_238.out _; (with_reducible repeat first | apply kN | apply kD | apply kA); exact BK233.out) hb); replace BK238 := am (blk_below (o := .cells #[.int .i64 ((rd_T64 l0_2 x32_1).f0.f0), .int .i64 ((rd_T64 l0_2 x32_1).f0.f1), .int .i64 ((rd_T64 l0_2 x32_1).f1)] 64 (0, 0)) (by (with_reducible repeat first | apply kN | apply kD | apply kA); refine blk_put (cs := #[.int .i64 ((rd_T64 l0_2 x32_1).f0.f0), .int .i64 ((rd_T64 l0_2 x32_1).f0.f1), .int .i64 0]) ?_ 2 _ rfl; (with_reducible repeat first | apply kN | apply kD | apply kA); refine blk_put (cs := #[.int .i64 ((rd_T64 l0_2 x32_1).f0.f0), .int .i64 0, .int .i64 0]) ?_ 1 _ rfl; (with_reducible repeat first | apply kN | apply kD | apply kA); refine blk_put (cs := #[.int .i64 0, .int .i64 0, .int .i64 0]) ?_ 0 _ rfl; (with_reducible repeat first | apply kN | apply kD | apply kA); exact BK238.out) hb); replace HB := am (below_step bz hb); (try clear hb); (try clear hb2); (try clear hk); (try clear hi); obtain ⟨hcz30_0, hcz30_1, hcz30_2, hfz30_0, hfz30_1, hfz30_2⟩ := kc3 BK232.out; obtain ⟨hcz31_0, hcz31_1, hcz31_2, hcz31_3, hcz31_4, hfz31_0, hfz31_1, hfz31_2, hfz31_3, hfz31_4⟩ := kc5 BK233.out) | ((with_reducible refine gate_callee (f := 36) rfl ?_); refine goesL_ (some 58) rfl rfl Try.func36 qz rfl #[.agg #[.int .i64 a0_0, .int .i64 a0_1, .slice (some ad237) l0_2.length c0_2], .agg #[.int .i64 a1_0, .int .i64 a1_1], .int .i64 a1_4] rfl mz ?_; (with_reducible refine (stage_on.calls a0_0 a0_1 _ _ l0_2 a1_0 a1_1 a1_4 true _ ?side1 ?side2 A20.out).mono ?_); (case side1 => exact cz HR0_2); (case side2 => exact HC0_2.out); rintro e w32 ⟨rfl, hb⟩; refine ⟨_, rfl, ?_⟩; replace BK232 := am (blk_below (o := .cells #[.int .i64 a0_0, .int .i64 a0_1, .slice (some ad237) l0_2.length c0_2] 42 (0, 0)) (kz BK232) hb); replace BK233 := am (blk_below (o := .cells #[.int .i64 a1_0, .int .i64 a1_1, .int .i64 a1_2, .int .i64 a1_3, .int .i64 a1_4] 57 (0, 0)) (kz BK233) hb); replace BK238 := am (blk_below (o := .cells #[.int .i64 ((rd_T64 l0_2 x32_1).f0.f0), .int .i64 ((rd_T64 l0_2 x32_1).f0.f1), .int .i64 ((rd_T64 l0_2 x32_1).f1)] 64 (0, 0)) (kz BK238) hb); replace HB := am (below_step bz hb); (try clear hb); (try clear hb2); (try clear hk); (try clear hi); obtain ⟨hcz33_0, hcz33_1, hcz33_2, hfz33_0, hfz33_1, hfz33_2⟩ := kc3 BK232.out; obtain ⟨hcz34_0, hcz34_1, hcz34_2, hcz34_3, hcz34_4, hfz34_0, hfz34_1, hfz34_2, hfz34_3, hfz34_4⟩ := kc5 BK233.out) | (go_at_call 36; (with_reducible refine (stage_on.calls a0_0 a0_1 _ _ l0_2 a1_2 a1_3 a1_4 t242 _ ?side1 ?side2 A22.out).mono ?_); (case side1 => exact cz HR0_2); (case side2 => exact HC0_2.out); rintro e w35 ⟨rfl, hb⟩; replace BK232 := am (blk_below (o := .cells #[.int .i64 a0_0, .int .i64 a0_1, .slice (some ad237) l0_2.length c0_2] 42 (0, 0)) (kz BK232) hb); replace BK233 := am (blk_below (o := .cells #[.int .i64 a1_0, .int .i64 a1_1, .int .i64 a1_2, .int .i64 a1_3, .int .i64 a1_4] 57 (0, 0)) (kz BK233) hb); replace BK238 := am (blk_below (o := .cells #[.int .i64 ((rd_T64 l0_2 x32_1).f0.f0), .int .i64 ((rd_T64 l0_2 x32_1).f0.f1), .int .i64 ((rd_T64 l0_2 x32_1).f1)] 64 (0, 0)) (kz BK238) hb); replace HB := am (below_step bz hb); (try clear hb); (try clear hb2); (try clear hk); (try clear hi)))
        repeat (go_step3; go_wp2_with (fail))
        (try rw [Exit.noGoto_ret])
        go_ret3
        exact ⟨ez, bz⟩
       ·
        replace c21 := Bool.eq_false_iff.mpr c21
        subst c21
        have H1 : (some (false, x32_1, 0)) = some (r1, r2, r3) := by rw [if_neg (show ¬ (false = true) by decide)] at H; exact H
        clear H
        have H := H1
        clear H1
        simp only [Option.some.injEq, Prod.mk.injEq] at H
        obtain ⟨rfl, rfl, rfl⟩ := H
        have p237 : 0 ≤ (x32_1 : Int) := az
        have q237 : x32_1 < (l0_2.length : Int) := az
        obtain ⟨ad237, e237, hx237_0, hx237_1, hx237_2⟩ := at_T64 HR0_2.out x32_1 p237 q237
        cases e237
        replace hx237_0 := cb HB.out hx237_0
        replace hx237_1 := cb HB.out hx237_1
        replace hx237_2 := cb HB.out hx237_2
        replace p237 := eq_true p237
        replace q237 := eq_true q237
        go_wp2_with (first | ((with_reducible refine gate_dst (N := 12) rfl ?_); refine box_event yz (N := 12) yz (cs := #[.int .i64 0, .int .i64 0, .int .i64 0]) (t := 64) gz ?_; intro gb238 hg w36 hbox hb; have BK238 := am (hbox); have GW238 := gwz (g := gb238) HB hg; have GE238 := GW238; replace HB := am (below_step bz hb); have NB232_238 := nlt (g' := gb238) BK232 hg; have NB238_232 := ngt (g' := gb238) BK232 hg; replace BK232 := am (blk_below (o := .cells #[.int .i64 a0_0, .int .i64 a0_1, .slice (some ad237) l0_2.length c0_2] 42 (0, 0)) (kz BK232) hb); have NB233_238 := nlt (g' := gb238) BK233 hg; have NB238_233 := ngt (g' := gb238) BK233 hg; replace BK233 := am (blk_below (o := .cells #[.int .i64 a1_0, .int .i64 a1_1, .int .i64 a1_2, .int .i64 a1_3, .int .i64 a1_4] 57 (0, 0)) (kz BK233) hb); clear hb hbox hg; have hnb37 := NB238_232.out; have hnc37 := NB232_238.out; have hnb38 := NB238_233.out; have hnc38 := NB233_238.out; obtain ⟨hcz39_0, hcz39_1, hcz39_2, hfz39_0, hfz39_1, hfz39_2⟩ := kc3 BK238.out; have hnb40 := NB233_232.out; have hnc40 := NB232_233.out; obtain ⟨hcz41_0, hcz41_1, hcz41_2, hcz41_3, hcz41_4, hfz41_0, hfz41_1, hfz41_2, hfz41_3, hfz41_4⟩ := kc5 BK233.out) | ((with_reducible refine gate_callee (f := 35) rfl ?_); refine goesL_ (some 46) rfl rfl Try.func35 qz rfl #[.agg #[.int .i64 a1_0, .int .i64 a1_1, .int .i64 a1_2, .int .i64 a1_3, .int .i64 a1_4], .agg #[.int .i64 ((rd_T64 l0_2 x32_1).f0.f0), .int .i64 ((rd_T64 l0_2 x32_1).f0.f1), .int .i64 ((rd_T64 l0_2 x32_1).f0.f0), .int .i64 ((rd_T64 l0_2 x32_1).f0.f1), .int .i64 ((rd_T64 l0_2 x32_1).f1)]] rfl mz ?_; (with_reducible refine (geom_Touch.calls k1 a1_0 a1_1 a1_2 a1_3 a1_4 ((rd_T64 l0_2 x32_1).f0.f0) ((rd_T64 l0_2 x32_1).f0.f1) ((rd_T64 l0_2 x32_1).f0.f0) ((rd_T64 l0_2 x32_1).f0.f1) ((rd_T64 l0_2 x32_1).f1) true t240 _ A18.out).mono ?_); rintro e w42 ⟨rfl, hb⟩; refine ⟨_, rfl, ?_⟩; replace BK232 := am (blk_below (o := .cells #[.int .i64 a0_0, .int .i64 a0_1, .slice (some ad237) l0_2.length c0_2] 42 (0, 0)) (by (with_reducible repeat first | apply kN | apply kD | apply kA); refine blk_far ?_ NB232_238.out _; (with_reducible repeat first | apply kN | apply kD | apply kA); refine blk_far ?_ NB232_238.out _; (with_reducible repeat first | apply kN | apply kD | apply kA); refine blk_far ?_ NB232_238.out _; (with_reducible repeat first | apply kN | apply kD | apply kA); exact BK232.out) hb); replace BK233 := am (blk_below (o := .cells #[.int .i64 a1_0, .int .i64 a1_1, .int .i64 a1_2, .int .i64 a1_3, .int .i64 a1_4] 57 (0, 0)) (by (with_reducible repeat first | apply kN | apply kD | apply kA); refine blk_far ?_ NB233_238.out _; (with_reducible repeat first | apply kN | apply kD | apply kA); refine blk_far ?_ NB233_238.out _; (with_reducible repeat first | apply kN | apply kD | apply kA); refine blk_far ?_ NB233_238.out _; (with_reducible repeat first | apply kN | apply kD | apply kA); exact BK233.out) hb); replace BK238 := am (blk_below (o := .cells #[.int .i64 ((rd_T64 l0_2 x32_1).f0.f0), .int .i64 ((rd_T64 l0_2 x32_1).f0.f1), .int .i64 ((rd_T64 l0_2 x32_1).f1)] 64 (0, 0)) (by (with_reducible repeat first | apply kN | apply kD | apply kA); refine blk_put (cs := #[.int .i64 ((rd_T64 l0_2 x32_1).f0.f0), .int .i64 ((rd_T64 l0_2 x32_1).f0.f1), .int .i64 0]) ?_ 2 _ rfl; (with_reducible repeat first | apply kN | apply kD | apply kA); refine blk_put (cs := #[.int .i64 ((rd_T64 l0_2 x32_1).f0.f0), .int .i64 0, .int .i64 0]) ?_ 1 _ rfl; (with_reducible repeat first | apply kN | apply kD | apply kA); refine blk_put (cs := #[.int .i64 0, .int .i64 0, .int .i64 0]) ?_ 0 _ rfl; (with_reducible repeat first | apply kN | apply kD | apply kA); exact BK238.out) hb); replace HB := am (below_step bz hb); (try clear hb); (try clear hb2); (try clear hk); (try clear hi); obtain ⟨hcz43_0, hcz43_1, hcz43_2, hfz43_0, hfz43_1, hfz43_2⟩ := kc3 BK232.out; obtain ⟨hcz44_0, hcz44_1, hcz44_2, hcz44_3, hcz44_4, hfz44_0, hfz44_1, hfz44_2, hfz44_3, hfz44_4⟩ := kc5 BK233.out) | ((with_reducible refine gate_callee (f := 36) rfl ?_); refine goesL_ (some 58) rfl rfl Try.func36 qz rfl #[.agg #[.int .i64 a0_0, .int .i64 a0_1, .slice (some ad237) l0_2.length c0_2], .agg #[.int .i64 a1_0, .int .i64 a1_1], .int .i64 a1_4] rfl mz ?_; (with_reducible refine (stage_on.calls a0_0 a0_1 _ _ l0_2 a1_0 a1_1 a1_4 false _ ?side1 ?side2 A20.out).mono ?_); (case side1 => exact cz HR0_2); (case side2 => exact HC0_2.out); rintro e w45 ⟨rfl, hb⟩; refine ⟨_, rfl, ?_⟩; replace BK232 := am (blk_below (o := .cells #[.int .i64 a0_0, .int .i64 a0_1, .slice (some ad237) l0_2.length c0_2] 42 (0, 0)) (kz BK232) hb); replace BK233 := am (blk_below (o := .cells #[.int .i64 a1_0, .int .i64 a1_1, .int .i64 a1_2, .int .i64 a1_3, .int .i64 a1_4] 57 (0, 0)) (kz BK233) hb); replace BK238 := am (blk_below (o := .cells #[.int .i64 ((rd_T64 l0_2 x32_1).f0.f0), .int .i64 ((rd_T64 l0_2 x32_1).f0.f1), .int .i64 ((rd_T64 l0_2 x32_1).f1)] 64 (0, 0)) (kz BK238) hb); replace HB := am (below_step bz hb); (try clear hb); (try clear hb2); (try clear hk); (try clear hi)))
        repeat (go_step3; go_wp2_with (fail))
        (try rw [Exit.noGoto_ret])
        go_ret3
        exact ⟨ez, bz⟩
      ·
       replace c19 := Bool.eq_false_iff.mpr c19
       subst c19
       have H1 : (stage_Clear.l0 k1 x10_1 l0_2 (l0_2.length : Int) (wrap64 (x32_1 + 1)) a0_0 a0_1 l0_2 a1_0 a1_1 a1_2 a1_3 a1_4) = some (r1, r2, r3) := by rw [if_neg (show ¬ (false = true) by decide)] at H; exact H
       clear H
       have H := H1
       clear H1
       have H' := am H
       clear H
       have p237 : 0 ≤ (x32_1 : Int) := az
       have q237 : x32_1 < (l0_2.length : Int) := az
       obtain ⟨ad237, e237, hx237_0, hx237_1, hx237_2⟩ := at_T64 HR0_2.out x32_1 p237 q237
       cases e237
       replace hx237_0 := cb HB.out hx237_0
       replace hx237_1 := cb HB.out hx237_1
       replace hx237_2 := cb HB.out hx237_2
       replace p237 := eq_true p237
       replace q237 := eq_true q237
       go_wp2_with (first | ((with_reducible refine gate_dst (N := 12) rfl ?_); refine box_event yz (N := 12) yz (cs := #[.int .i64 0, .int .i64 0, .int .i64 0]) (t := 64) gz ?_; intro gb238 hg w46 hbox hb; have BK238 := am (hbox); have GW238 := gwz (g := gb238) HB hg; have GE238 := GW238; replace HB := am (below_step bz hb); have NB232_238 := nlt (g' := gb238) BK232 hg; have NB238_232 := ngt (g' := gb238) BK232 hg; replace BK232 := am (blk_below (o := .cells #[.int .i64 a0_0, .int .i64 a0_1, .slice (some ad237) l0_2.length c0_2] 42 (0, 0)) (kz BK232) hb); have NB233_238 := nlt (g' := gb238) BK233 hg; have NB238_233 := ngt (g' := gb238) BK233 hg; replace BK233 := am (blk_below (o := .cells #[.int .i64 a1_0, .int .i64 a1_1, .int .i64 a1_2, .int .i64 a1_3, .int .i64 a1_4] 57 (0, 0)) (kz BK233) hb); clear hb hbox hg; have hnb47 := NB238_232.out; have hnc47 := NB232_238.out; have hnb48 := NB238_233.out; have hnc48 := NB233_238.out; obtain ⟨hcz49_0, hcz49_1, hcz49_2, hfz49_0, hfz49_1, hfz49_2⟩ := kc3 BK238.out; have hnb50 := NB233_232.out; have hnc50 := NB232_233.out; obtain ⟨hcz51_0, hcz51_1, hcz51_2, hcz51_3, hcz51_4, hfz51_0, hfz51_1, hfz51_2, hfz51_3, hfz51_4⟩ := kc5 BK233.out) | ((with_reducible refine gate_callee (f := 35) rfl ?_); refine goesL_ (some 46) rfl rfl Try.func35 qz rfl #[.agg #[.int .i64 a1_0, .int .i64 a1_1, .int .i64 a1_2, .int .i64 a1_3, .int .i64 a1_4], .agg #[.int .i64 ((rd_T64 l0_2 x32_1).f0.f0), .int .i64 ((rd_T64 l0_2 x32_1).f0.f1), .int .i64 ((rd_T64 l0_2 x32_1).f0.f0), .int .i64 ((rd_T64 l0_2 x32_1).f0.f1), .int .i64 ((rd_T64 l0_2 x32_1).f1)]] rfl mz ?_; (with_reducible refine (geom_Touch.calls k1 a1_0 a1_1 a1_2 a1_3 a1_4 ((rd_T64 l0_2 x32_1).f0.f0) ((rd_T64 l0_2 x32_1).f0.f1) ((rd_T64 l0_2 x32_1).f0.f0) ((rd_T64 l0_2 x32_1).f0.f1) ((rd_T64 l0_2 x32_1).f1) false t240 _ A18.out).mono ?_); rintro e w52 ⟨rfl, hb⟩; refine ⟨_, rfl, ?_⟩; replace BK232 := am (blk_below (o := .cells #[.int .i64 a0_0, .int .i64 a0_1, .slice (some ad237) l0_2.length c0_2] 42 (0, 0)) (by (with_reducible repeat first | apply kN | apply kD | apply kA); refine blk_far ?_ NB232_238.out _; (with_reducible repeat first | apply kN | apply kD | apply kA); refine blk_far ?_ NB232_238.out _; (with_reducible repeat first | apply kN | apply kD | apply kA); refine blk_far ?_ NB232_238.out _; (with_reducible repeat first | apply kN | apply kD | apply kA); exact BK232.out) hb); replace BK233 := am (blk_below (o := .cells #[.int .i64 a1_0, .int .i64 a1_1, .int .i64 a1_2, .int .i64 a1_3, .int .i64 a1_4] 57 (0, 0)) (by (with_reducible repeat first | apply kN | apply kD | apply kA); refine blk_far ?_ NB233_238.out _; (with_reducible repeat first | apply kN | apply kD | apply kA); refine blk_far ?_ NB233_238.out _; (with_reducible repeat first | apply kN | apply kD | apply kA); refine blk_far ?_ NB233_238.out _; (with_reducible repeat first | apply kN | apply kD | apply kA); exact BK233.out) hb); replace BK238 := am (blk_below (o := .cells #[.int .i64 ((rd_T64 l0_2 x32_1).f0.f0), .int .i64 ((rd_T64 l0_2 x32_1).f0.f1), .int .i64 ((rd_T64 l0_2 x32_1).f1)] 64 (0, 0)) (by (with_reducible repeat first | apply kN | apply kD | apply kA); refine blk_put (cs := #[.int .i64 ((rd_T64 l0_2 x32_1).f0.f0), .int .i64 ((rd_T64 l0_2 x32_1).f0.f1), .int .i64 0]) ?_ 2 _ rfl; (with_reducible repeat first | apply kN | apply kD | apply kA); refine blk_put (cs := #[.int .i64 ((rd_T64 l0_2 x32_1).f0.f0), .int .i64 0, .int .i64 0]) ?_ 1 _ rfl; (with_reducible repeat first | apply kN | apply kD | apply kA); refine blk_put (cs := #[.int .i64 0, .int .i64 0, .int .i64 0]) ?_ 0 _ rfl; (with_reducible repeat first | apply kN | apply kD | apply kA); exact BK238.out) hb); replace HB := am (below_step bz hb); (try clear hb); (try clear hb2); (try clear hk); (try clear hi)))
       repeat (go_step3; go_wp2_with (fail))
       go_roundg k1
       case measure => have := HK1.out; omega
       case rel => exact ⟨(x10_1), (wrap64 (x32_1 + 1)), sz, sz, H', ⟨by have := HK1.out; omega⟩, ⟨kz BK232⟩, ⟨kz BK233⟩, ⟨bz⟩⟩
     ·
      rw [if_neg c15] at H
      have c15b0 := decide_eq_false c15
      clear c15
      replace H := Option.bind_eq_some_iff.mp H
      obtain ⟨t243, A530, H⟩ := H
      replace H : (if t243 = true then ((stage_on.f a0_0 a0_1 l0_2 a1_2 a1_3 a1_4).bind fun t244 => (some (t244, x10_1, 0))) else (some (false, x10_1, 0))) = some (r1, r2, r3) := H
      have A53 := am A530
      clear A530
      by_cases c54 : t243 = true
      ·
       subst c54
       have H1 : ((stage_on.f a0_0 a0_1 l0_2 a1_2 a1_3 a1_4).bind fun t244 => (some (t244, x10_1, 0))) = some (r1, r2, r3) := by rw [if_pos rfl] at H; exact H
       clear H
       have H := H1
       clear H1
       replace H := Option.bind_eq_some_iff.mp H
       obtain ⟨t244, A550, H⟩ := H
       replace H : (some (t244, x10_1, 0)) = some (r1, r2, r3) := H
       have A55 := am A550
       clear A550
       simp only [Option.some.injEq, Prod.mk.injEq] at H
       obtain ⟨rfl, rfl, rfl⟩ := H
       have hnb56 := NB232_233.out
       have hnc56 := NB233_232.out
       obtain ⟨hcz57_0, hcz57_1, hcz57_2, hfz57_0, hfz57_1, hfz57_2⟩ := kc3 BK232.out
       obtain ⟨hcz58_0, hcz58_1, hcz58_2, hcz58_3, hcz58_4, hfz58_0, hfz58_1, hfz58_2, hfz58_3, hfz58_4⟩ := kc5 BK233.out
       go_wp2_with (first | ((with_reducible refine gate_callee (f := 36) rfl ?_); refine goesL_ (some 58) rfl rfl Try.func36 qz rfl #[.agg #[.int .i64 a0_0, .int .i64 a0_1, .slice A0_2 l0_2.length c0_2], .agg #[.int .i64 a1_0, .int .i64 a1_1], .int .i64 a1_4] rfl mz ?_; (with_reducible refine (stage_on.calls a0_0 a0_1 _ _ l0_2 a1_0 a1_1 a1_4 true _ ?side1 ?side2 A53.out).mono ?_); (case side1 => exact cz HR0_2); (case side2 => exact HC0_2.out); rintro e w59 ⟨rfl, hb⟩; refine ⟨_, rfl, ?_⟩; replace BK232 := am (blk_below (o := .cells #[.int .i64 a0_0, .int .i64 a0_1, .slice A0_2 l0_2.length c0_2] 42 (0, 0)) (kz BK232) hb); replace BK233 := am (blk_below (o := .cells #[.int .i64 a1_0, .int .i64 a1_1, .int .i64 a1_2, .int .i64 a1_3, .int .i64 a1_4] 57 (0, 0)) (kz BK233) hb); replace HB := am (below_step bz hb); (try clear hb); (try clear hb2); (try clear hk); (try clear hi); obtain ⟨hcz60_0, hcz60_1, hcz60_2, hfz60_0, hfz60_1, hfz60_2⟩ := kc3 BK232.out; obtain ⟨hcz61_0, hcz61_1, hcz61_2, hcz61_3, hcz61_4, hfz61_0, hfz61_1, hfz61_2, hfz61_3, hfz61_4⟩ := kc5 BK233.out) | (go_at_call 36; (with_reducible refine (stage_on.calls a0_0 a0_1 _ _ l0_2 a1_2 a1_3 a1_4 t244 _ ?side1 ?side2 A55.out).mono ?_); (case side1 => exact cz HR0_2); (case side2 => exact HC0_2.out); rintro e w62 ⟨rfl, hb⟩; replace BK232 := am (blk_below (o := .cells #[.int .i64 a0_0, .int .i64 a0_1, .slice A0_2 l0_2.length c0_2] 42 (0, 0)) (kz BK232) hb); replace BK233 := am (blk_below (o := .cells #[.int .i64 a1_0, .int .i64 a1_1, .int .i64 a1_2, .int .i64 a1_3, .int .i64 a1_4] 57 (0, 0)) (kz BK233) hb); replace HB := am (below_step bz hb); (try clear hb); (try clear hb2); (try clear hk); (try clear hi)))
       repeat (go_step3; go_wp2_with (fail))
       (try rw [Exit.noGoto_ret])
       go_ret3
       exact ⟨ez, bz⟩
      ·
       replace c54 := Bool.eq_false_iff.mpr c54
       subst c54
       have H1 : (some (false, x10_1, 0)) = some (r1, r2, r3) := by rw [if_neg (show ¬ (false = true) by decide)] at H; exact H
       clear H
       have H := H1
       clear H1
       simp only [Option.some.injEq, Prod.mk.injEq] at H
       obtain ⟨rfl, rfl, rfl⟩ := H
       have hnb63 := NB232_233.out
       have hnc63 := NB233_232.out
       obtain ⟨hcz64_0, hcz64_1, hcz64_2, hfz64_0, hfz64_1, hfz64_2⟩ := kc3 BK232.out
       obtain ⟨hcz65_0, hcz65_1, hcz65_2, hcz65_3, hcz65_4, hfz65_0, hfz65_1, hfz65_2, hfz65_3, hfz65_4⟩ := kc5 BK233.out
       go_wp2_with (first | ((with_reducible refine gate_callee (f := 36) rfl ?_); refine goesL_ (some 58) rfl rfl Try.func36 qz rfl #[.agg #[.int .i64 a0_0, .int .i64 a0_1, .slice A0_2 l0_2.length c0_2], .agg #[.int .i64 a1_0, .int .i64 a1_1], .int .i64 a1_4] rfl mz ?_; (with_reducible refine (stage_on.calls a0_0 a0_1 _ _ l0_2 a1_0 a1_1 a1_4 false _ ?side1 ?side2 A53.out).mono ?_); (case side1 => exact cz HR0_2); (case side2 => exact HC0_2.out); rintro e w66 ⟨rfl, hb⟩; refine ⟨_, rfl, ?_⟩; replace BK232 := am (blk_below (o := .cells #[.int .i64 a0_0, .int .i64 a0_1, .slice A0_2 l0_2.length c0_2] 42 (0, 0)) (kz BK232) hb); replace BK233 := am (blk_below (o := .cells #[.int .i64 a1_0, .int .i64 a1_1, .int .i64 a1_2, .int .i64 a1_3, .int .i64 a1_4] 57 (0, 0)) (kz BK233) hb); replace HB := am (below_step bz hb); (try clear hb); (try clear hb2); (try clear hk); (try clear hi)))
       repeat (go_step3; go_wp2_with (fail))
       (try rw [Exit.noGoto_ret])
       go_ret3
       exact ⟨ez, bz⟩
  ·
   rw [if_neg c6] at H
   have c6b0 : (t236 == 0) = false := beq_eq_false_iff_ne.mpr c6
   have c6b1 : (t236 != 0) = true := bne_iff_ne.mpr c6
   simp only [Option.some.injEq, Prod.mk.injEq] at H
   obtain ⟨rfl, rfl, rfl⟩ := H
   go_enter Try.func22, Try.ntmps22
   go_wp2_with (first | ((with_reducible refine gate_dst (N := 2) rfl ?_); refine box_event yz (N := 2) yz (cs := #[.int .i64 a0_0, .int .i64 a0_1, .slice A0_2 l0_2.length c0_2]) (t := 42) gz ?_; intro gb232 hg w67 hbox hb; have BK232 := am (hbox); have GW232 := gwz (g := gb232) HB hg; have GE232 := GW232; replace HB := am (below_step bz hb); clear hb hbox hg) | ((with_reducible refine gate_dst (N := 3) rfl ?_); refine box_event yz (N := 3) yz (cs := #[.int .i64 a1_0, .int .i64 a1_1, .int .i64 a1_2, .int .i64 a1_3, .int .i64 a1_4]) (t := 57) gz ?_; intro gb233 hg w68 hbox hb; have BK233 := am (hbox); have GW233 := gwz (g := gb233) HB hg; have GE233 := GW233; replace HB := am (below_step bz hb); have NB232_233 := nlt (g' := gb233) BK232 hg; have NB233_232 := ngt (g' := gb233) BK232 hg; replace BK232 := am (blk_below (o := .cells #[.int .i64 a0_0, .int .i64 a0_1, .slice A0_2 l0_2.length c0_2] 42 (0, 0)) (kz BK232) hb); clear hb hbox hg; have hnb69 := NB232_233.out; have hnc69 := NB233_232.out; obtain ⟨hcz70_0, hcz70_1, hcz70_2, hfz70_0, hfz70_1, hfz70_2⟩ := kc3 BK232.out))
   repeat (go_step3; go_wp2_with (first | ((with_reducible refine gate_callee (f := 31) rfl ?_); refine goesL_ (some 16) rfl rfl Try.func31 qz rfl #[.agg #[.int .i64 a0_0, .int .i64 a0_1, .slice A0_2 l0_2.length c0_2]] rfl mz ?_; (with_reducible refine (stage_Check.calls k a0_0 a0_1 _ _ l0_2 t234 _ ?side1 ?side2 A3.out).mono ?_); (case side1 => exact cz HR0_2); (case side2 => exact HC0_2.out); rintro e w71 ⟨rfl, hb⟩; refine ⟨_, rfl, ?_⟩; replace BK232 := am (blk_below (o := .cells #[.int .i64 a0_0, .int .i64 a0_1, .slice A0_2 l0_2.length c0_2] 42 (0, 0)) (kz BK232) hb); replace BK233 := am (blk_below (o := .cells #[.int .i64 a1_0, .int .i64 a1_1, .int .i64 a1_2, .int .i64 a1_3, .int .i64 a1_4] 57 (0, 0)) (kz BK233) hb); replace HB := am (below_step bz hb); (try clear hb); (try clear hb2); (try clear hk); (try clear hi); obtain ⟨hcz72_0, hcz72_1, hcz72_2, hcz72_3, hcz72_4, hfz72_0, hfz72_1, hfz72_2, hfz72_3, hfz72_4⟩ := kc5 BK233.out) | ((with_reducible refine gate_callee (f := 35) rfl ?_); refine goesL_ (some 23) rfl rfl Try.func35 qz rfl #[.agg #[.int .i64 a1_0, .int .i64 a1_1, .int .i64 a1_2, .int .i64 a1_3, .int .i64 a1_4], .agg #[.int .i64 a1_0, .int .i64 a1_1, .int .i64 a1_2, .int .i64 a1_3, .int .i64 a1_4]] rfl mz ?_; (with_reducible refine (geom_Touch.calls k a1_0 a1_1 a1_2 a1_3 a1_4 a1_0 a1_1 a1_2 a1_3 a1_4 t235 t236 _ A5.out).mono ?_); rintro e w73 ⟨rfl, hb⟩; refine ⟨_, rfl, ?_⟩; replace BK232 := am (blk_below (o := .cells #[.int .i64 a0_0, .int .i64 a0_1, .slice A0_2 l0_2.length c0_2] 42 (0, 0)) (kz BK232) hb); replace BK233 := am (blk_below (o := .cells #[.int .i64 a1_0, .int .i64 a1_1, .int .i64 a1_2, .int .i64 a1_3, .int .i64 a1_4] 57 (0, 0)) (kz BK233) hb); replace HB := am (below_step bz hb); (try clear hb); (try clear hb2); (try clear hk); (try clear hi))))
   (try rw [Exit.noGoto_ret])
   go_ret3
   exact ⟨ez, bz⟩
 ·
  rw [if_neg c4] at H
  have c4b0 : (t234 == 0) = false := beq_eq_false_iff_ne.mpr c4
  have c4b1 : (t234 != 0) = true := bne_iff_ne.mpr c4
  simp only [Option.some.injEq, Prod.mk.injEq] at H
  obtain ⟨rfl, rfl, rfl⟩ := H
  go_enter Try.func22, Try.ntmps22
  go_wp2_with (first | ((with_reducible refine gate_dst (N := 2) rfl ?_); refine box_event yz (N := 2) yz (cs := #[.int .i64 a0_0, .int .i64 a0_1, .slice A0_2 l0_2.length c0_2]) (t := 42) gz ?_; intro gb232 hg w74 hbox hb; have BK232 := am (hbox); have GW232 := gwz (g := gb232) HB hg; have GE232 := GW232; replace HB := am (below_step bz hb); clear hb hbox hg) | ((with_reducible refine gate_dst (N := 3) rfl ?_); refine box_event yz (N := 3) yz (cs := #[.int .i64 a1_0, .int .i64 a1_1, .int .i64 a1_2, .int .i64 a1_3, .int .i64 a1_4]) (t := 57) gz ?_; intro gb233 hg w75 hbox hb; have BK233 := am (hbox); have GW233 := gwz (g := gb233) HB hg; have GE233 := GW233; replace HB := am (below_step bz hb); have NB232_233 := nlt (g' := gb233) BK232 hg; have NB233_232 := ngt (g' := gb233) BK232 hg; replace BK232 := am (blk_below (o := .cells #[.int .i64 a0_0, .int .i64 a0_1, .slice A0_2 l0_2.length c0_2] 42 (0, 0)) (kz BK232) hb); clear hb hbox hg; have hnb76 := NB232_233.out; have hnc76 := NB233_232.out; obtain ⟨hcz77_0, hcz77_1, hcz77_2, hfz77_0, hfz77_1, hfz77_2⟩ := kc3 BK232.out))
  repeat (go_step3; go_wp2_with (first | ((with_reducible refine gate_callee (f := 31) rfl ?_); refine goesL_ (some 16) rfl rfl Try.func31 qz rfl #[.agg #[.int .i64 a0_0, .int .i64 a0_1, .slice A0_2 l0_2.length c0_2]] rfl mz ?_; (with_reducible refine (stage_Check.calls k a0_0 a0_1 _ _ l0_2 t234 _ ?side1 ?side2 A3.out).mono ?_); (case side1 => exact cz HR0_2); (case side2 => exact HC0_2.out); rintro e w78 ⟨rfl, hb⟩; refine ⟨_, rfl, ?_⟩; replace BK232 := am (blk_below (o := .cells #[.int .i64 a0_0, .int .i64 a0_1, .slice A0_2 l0_2.length c0_2] 42 (0, 0)) (kz BK232) hb); replace BK233 := am (blk_below (o := .cells #[.int .i64 a1_0, .int .i64 a1_1, .int .i64 a1_2, .int .i64 a1_3, .int .i64 a1_4] 57 (0, 0)) (kz BK233) hb); replace HB := am (below_step bz hb); (try clear hb); (try clear hb2); (try clear hk); (try clear hi))))
  (try rw [Exit.noGoto_ret])
  go_ret3
  exact ⟨ez, bz⟩

end Go.Proofs.Ytmdmajfgpmopbaa.X
