import Derived.Test.YtmdmajfgpmopbaaX0
import Derived.Test.YtmdmajfgpmopbaaX50
import Derived.Test.YtmdmajfgpmopbaaX61
import Derived.Test.YtmdmajfgpmopbaaX62
namespace Go.Proofs.Ytmdmajfgpmopbaa.X
open Go.RowKit YtmdmajfgpmopbaaW.PrintWords YtmdmajfgpmopbaaW.PrintLast YtmdmajfgpmopbaaW.PrintMore
attribute [local go_sem] max2_int min2_int max_two min_two max_three min_three max_four min_four
set_option linter.unusedVariables false
set_option linter.unusedSimpArgs false

/-! ### dancestudioref42_Clear: function 33 -/
mutual
def dancestudioref42_Clear.l0 : Nat → Int → Int → Int → Int → List (S64) → Int → Int → Int → Int → Int → Option (Bool × Int × Int)
 | 0, _, _, _, _, _, _, _, _, _, _ => none
 | k + 1, x10, x11, x468000, x468001, x468002, x469000, x469001, x469002, x469003, x469004 => if x11 < (x468002.length : Int) then (dancestudioref42_Clear.j1 k x10 x11 (decide (x10 < 0)) x468000 x468001 x468002 x469000 x469001 x469002 x469003 x469004) else (dancestudioref42_Clear.j1 k x10 x11 false x468000 x468001 x468002 x469000 x469001 x469002 x469003 x469004)
def dancestudioref42_Clear.j1 : Nat → Int → Int → Bool → Int → Int → List (S64) → Int → Int → Int → Int → Int → Option (Bool × Int × Int)
 | 0, _, _, _, _, _, _, _, _, _, _, _ => none
 | k + 1, x10, x11, x37, x468000, x468001, x468002, x469000, x469001, x469002, x469003, x469004 => if x37 = true then (if 0 ≤ x11 then (if x11 < (x468002.length : Int) then ((dancestudioref03_Touch.f k x469000 x469001 x469002 x469003 x469004 ((rd_T64 x468002 x11).f0.f0) ((rd_T64 x468002 x11).f0.f1) ((rd_T64 x468002 x11).f0.f0) ((rd_T64 x468002 x11).f0.f1) ((rd_T64 x468002 x11).f1)).bind fun bt474 => (if bt474.1 = true then (dancestudioref42_Clear.l0 k x11 (wrap64 (x11 + 1)) x468000 x468001 x468002 x469000 x469001 x469002 x469003 x469004) else (dancestudioref42_Clear.l0 k x10 (wrap64 (x11 + 1)) x468000 x468001 x468002 x469000 x469001 x469002 x469003 x469004))) else (none)) else (none)) else ((dancestudioref42_inside.f x468000 x468001 x468002 x469000 x469001 x469004).bind fun t476 => (if t476 = true then ((dancestudioref42_inside.f x468000 x468001 x468002 x469002 x469003 x469004).bind fun t477 => (some (t477, x10, 0))) else (some (false, x10, 0))))
end
def dancestudioref42_Clear.f (k : Nat) (a0_0 a0_1 : Int) (l0_2 : List (S64)) (a1_0 a1_1 a1_2 a1_3 a1_4 : Int) : Option (Bool × Int × Int) := (dancestudioref42_Check.f k a0_0 a0_1 l0_2).bind fun t469 => (if t469 = 0 then ((dancestudioref03_Touch.f k a1_0 a1_1 a1_2 a1_3 a1_4 a1_0 a1_1 a1_2 a1_3 a1_4).bind fun bt470 => (if bt470.2 = 0 then (dancestudioref42_Clear.l0 k (-1) 0 a0_0 a0_1 l0_2 a1_0 a1_1 a1_2 a1_3 a1_4) else (some (false, 0, bt470.2)))) else (some (false, 0, t469)))
theorem dancestudioref42_Clear.mono_l : ∀ k, (∀ y0 y1 y2 y3 y4 y5 y6 y7 y8 y9, LeO (dancestudioref42_Clear.l0 k y0 y1 y2 y3 y4 y5 y6 y7 y8 y9) (dancestudioref42_Clear.l0 (k + 1) y0 y1 y2 y3 y4 y5 y6 y7 y8 y9)) ∧ (∀ y0 y1 y2 y3 y4 y5 y6 y7 y8 y9 y10, LeO (dancestudioref42_Clear.j1 k y0 y1 y2 y3 y4 y5 y6 y7 y8 y9 y10) (dancestudioref42_Clear.j1 (k + 1) y0 y1 y2 y3 y4 y5 y6 y7 y8 y9 y10))
 | 0 => ⟨fun _ _ _ _ _ _ _ _ _ _ r h => by simp [dancestudioref42_Clear.l0] at h, fun _ _ _ _ _ _ _ _ _ _ _ r h => by simp [dancestudioref42_Clear.j1] at h⟩
 | k + 1 => by
  obtain ⟨ih0, ih1⟩ := dancestudioref42_Clear.mono_l k
  refine ⟨?_, ?_⟩
  ·
   intro y0 y1 y2 y3 y4 y5 y6 y7 y8 y9
   unfold dancestudioref42_Clear.l0
   repeat' first
   | (with_reducible exact ih0 _ _ _ _ _ _ _ _ _ _)
   | (with_reducible exact ih1 _ _ _ _ _ _ _ _ _ _ _)
   | (with_reducible exact dancestudioref03_Touch.mono _ _ _ _ _ _ _ _ _ _ _)
   | (with_reducible exact dancestudioref42_Check.mono _ _ _ _)
   | (with_reducible exact LeO.refl _)
   | (with_reducible exact LeO.none _)
   | (with_reducible refine LeO.ite ?_ ?_)
   | (with_reducible refine LeO.bind ?_ (fun _ => ?_))
   | exact ih0 _ _ _ _ _ _ _ _ _ _
   | exact ih1 _ _ _ _ _ _ _ _ _ _ _
   | exact dancestudioref03_Touch.mono _ _ _ _ _ _ _ _ _ _ _
   | exact dancestudioref42_Check.mono _ _ _ _
   | exact LeO.none _
   | refine LeO.ite ?_ ?_
   | refine LeO.bind ?_ (fun _ => ?_)
  ·
   intro y0 y1 y2 y3 y4 y5 y6 y7 y8 y9 y10
   unfold dancestudioref42_Clear.j1
   repeat' first
   | (with_reducible exact ih0 _ _ _ _ _ _ _ _ _ _)
   | (with_reducible exact ih1 _ _ _ _ _ _ _ _ _ _ _)
   | (with_reducible exact dancestudioref03_Touch.mono _ _ _ _ _ _ _ _ _ _ _)
   | (with_reducible exact dancestudioref42_Check.mono _ _ _ _)
   | (with_reducible exact LeO.refl _)
   | (with_reducible exact LeO.none _)
   | (with_reducible refine LeO.ite ?_ ?_)
   | (with_reducible refine LeO.bind ?_ (fun _ => ?_))
   | exact ih0 _ _ _ _ _ _ _ _ _ _
   | exact ih1 _ _ _ _ _ _ _ _ _ _ _
   | exact dancestudioref03_Touch.mono _ _ _ _ _ _ _ _ _ _ _
   | exact dancestudioref42_Check.mono _ _ _ _
   | exact LeO.none _
   | refine LeO.ite ?_ ?_
   | refine LeO.bind ?_ (fun _ => ?_)
theorem dancestudioref42_Clear.mono : ∀ a0 a1 a2 a3 a4 a5 a6 a7 k, LeO (dancestudioref42_Clear.f k a0 a1 a2 a3 a4 a5 a6 a7) (dancestudioref42_Clear.f (k + 1) a0 a1 a2 a3 a4 a5 a6 a7) := by
 intro a0 a1 a2 a3 a4 a5 a6 a7 k
 obtain ⟨ih0, ih1⟩ := dancestudioref42_Clear.mono_l k
 unfold dancestudioref42_Clear.f
 repeat' first
   | (with_reducible exact ih0 _ _ _ _ _ _ _ _ _ _)
   | (with_reducible exact ih1 _ _ _ _ _ _ _ _ _ _ _)
   | (with_reducible exact dancestudioref03_Touch.mono _ _ _ _ _ _ _ _ _ _ _)
   | (with_reducible exact dancestudioref42_Check.mono _ _ _ _)
   | (with_reducible exact LeO.refl _)
   | (with_reducible exact LeO.none _)
   | (with_reducible refine LeO.ite ?_ ?_)
   | (with_reducible refine LeO.bind ?_ (fun _ => ?_))
   | exact ih0 _ _ _ _ _ _ _ _ _ _
   | exact ih1 _ _ _ _ _ _ _ _ _ _ _
   | exact dancestudioref03_Touch.mono _ _ _ _ _ _ _ _ _ _ _
   | exact dancestudioref42_Check.mono _ _ _ _
   | exact LeO.none _
   | refine LeO.ite ?_ ?_
   | refine LeO.bind ?_ (fun _ => ?_)
set_option maxHeartbeats 8000000 in
set_option maxRecDepth 100000 in
theorem dancestudioref42_Clear.calls (k : Nat) (a0_0 a0_1 : Int) (A0_2 : Option Addr) (c0_2 : Nat) (l0_2 : List (S64)) (a1_0 a1_1 a1_2 a1_3 a1_4 : Int) (r1 : Bool) (r2 r3 : Int) (w : World) (hr0_2 : Kd.C k64 w A0_2 l0_2.length l0_2) (hc0_2 : l0_2.length ≤ c0_2) (h : dancestudioref42_Clear.f k a0_0 a0_1 l0_2 a1_0 a1_1 a1_2 a1_3 a1_4 = some (r1, r2, r3)) :
  Calls Try.prog 33 #[.agg #[.int .i64 a0_0, .int .i64 a0_1, .slice A0_2 l0_2.length c0_2], .agg #[.int .i64 a1_0, .int .i64 a1_1, .int .i64 a1_2, .int .i64 a1_3, .int .i64 a1_4]] w fun e w' => e = .returned (.tuple #[.bool r1, .int .i64 r2, .int .i64 r3]) ∧ Below w.heap.size w w' := by
 have hu42 := Try.underlying42
 have hu57 := Try.underlying57
 have hu64 := Try.underlying64
 have hu35 := Try.underlying35
 have HR0_2 := am hr0_2
 have HC0_2 := am hc0_2
 clear hr0_2 hc0_2
 have HB := am (Below.refl w.heap.size w)
 have H : ((dancestudioref42_Check.f k a0_0 a0_1 l0_2).bind fun t469 => (if t469 = 0 then ((dancestudioref03_Touch.f k a1_0 a1_1 a1_2 a1_3 a1_4 a1_0 a1_1 a1_2 a1_3 a1_4).bind fun bt470 => (if bt470.2 = 0 then (dancestudioref42_Clear.l0 k (-1) 0 a0_0 a0_1 l0_2 a1_0 a1_1 a1_2 a1_3 a1_4) else (some (false, 0, bt470.2)))) else (some (false, 0, t469)))) = some (r1, r2, r3) := h
 clear h
 replace H := Option.bind_eq_some_iff.mp H
 obtain ⟨t469, A30, H⟩ := H
 replace H : (if t469 = 0 then ((dancestudioref03_Touch.f k a1_0 a1_1 a1_2 a1_3 a1_4 a1_0 a1_1 a1_2 a1_3 a1_4).bind fun bt470 => (if bt470.2 = 0 then (dancestudioref42_Clear.l0 k (-1) 0 a0_0 a0_1 l0_2 a1_0 a1_1 a1_2 a1_3 a1_4) else (some (false, 0, bt470.2)))) else (some (false, 0, t469))) = some (r1, r2, r3) := H
 have A3 := am A30
 clear A30
 by_cases c4 : t469 = 0
 ·
  rw [if_pos c4] at H
  have c4b0 : (t469 == 0) = true := beq_iff_eq.mpr c4
  have c4b1 : (t469 != 0) = false := bne_eq_false_iff_eq.mpr c4
  clear c4
  replace H := Option.bind_eq_some_iff.mp H
  obtain ⟨⟨t470, t471⟩, A50, H⟩ := H
  replace H : (if t471 = 0 then (dancestudioref42_Clear.l0 k (-1) 0 a0_0 a0_1 l0_2 a1_0 a1_1 a1_2 a1_3 a1_4) else (some (false, 0, t471))) = some (r1, r2, r3) := H
  have A5 := am A50
  clear A50
  by_cases c6 : t471 = 0
  ·
   rw [if_pos c6] at H
   have c6b0 : (t471 == 0) = true := beq_iff_eq.mpr c6
   have c6b1 : (t471 != 0) = false := bne_eq_false_iff_eq.mpr c6
   clear c6
   have H' := am H
   clear H
   go_enter Try.func33, Try.ntmps33
   go_wp2_with (first | ((with_reducible refine gate_dst (N := 2) rfl ?_); refine box_event yz (N := 2) yz (cs := #[.int .i64 a0_0, .int .i64 a0_1, .slice A0_2 l0_2.length c0_2]) (t := 42) gz ?_; intro gb467 hg w7 hbox hb; have BK467 := am (hbox); have GW467 := gwz (g := gb467) HB hg; have GE467 := GW467; replace HB := am (below_step bz hb); clear hb hbox hg) | ((with_reducible refine gate_dst (N := 3) rfl ?_); refine box_event yz (N := 3) yz (cs := #[.int .i64 a1_0, .int .i64 a1_1, .int .i64 a1_2, .int .i64 a1_3, .int .i64 a1_4]) (t := 57) gz ?_; intro gb468 hg w8 hbox hb; have BK468 := am (hbox); have GW468 := gwz (g := gb468) HB hg; have GE468 := GW468; replace HB := am (below_step bz hb); have NB467_468 := nlt (g' := gb468) BK467 hg; have NB468_467 := ngt (g' := gb468) BK467 hg; replace BK467 := am (blk_below (o := .cells #[.int .i64 a0_0, .int .i64 a0_1, .slice A0_2 l0_2.length c0_2] 42 (0, 0)) (kz BK467) hb); clear hb hbox hg; have hnb9 := NB467_468.out; have hnc9 := NB468_467.out; obtain ⟨hcz10_0, hcz10_1, hcz10_2, hfz10_0, hfz10_1, hfz10_2⟩ := kc3 BK467.out) | ((with_reducible refine gate_callee (f := 32) rfl ?_); refine goesL_ (some 16) rfl rfl Try.func32 qz rfl #[.agg #[.int .i64 a0_0, .int .i64 a0_1, .slice A0_2 l0_2.length c0_2]] rfl mz ?_; (with_reducible refine (dancestudioref42_Check.calls k a0_0 a0_1 _ _ l0_2 t469 _ ?side1 ?side2 A3.out).mono ?_); (case side1 => exact cz HR0_2); (case side2 => exact HC0_2.out); rintro e w11 ⟨rfl, hb⟩; refine ⟨_, rfl, ?_⟩; replace BK467 := am (blk_below (o := .cells #[.int .i64 a0_0, .int .i64 a0_1, .slice A0_2 l0_2.length c0_2] 42 (0, 0)) (kz BK467) hb); replace BK468 := am (blk_below (o := .cells #[.int .i64 a1_0, .int .i64 a1_1, .int .i64 a1_2, .int .i64 a1_3, .int .i64 a1_4] 57 (0, 0)) (kz BK468) hb); replace HB := am (below_step bz hb); (try clear hb); (try clear hb2); (try clear hk); (try clear hi); obtain ⟨hcz12_0, hcz12_1, hcz12_2, hcz12_3, hcz12_4, hfz12_0, hfz12_1, hfz12_2, hfz12_3, hfz12_4⟩ := kc5 BK468.out) | ((with_reducible refine gate_callee (f := 44) rfl ?_); refine goesL_ (some 23) rfl rfl Try.func44 qz rfl #[.agg #[.int .i64 a1_0, .int .i64 a1_1, .int .i64 a1_2, .int .i64 a1_3, .int .i64 a1_4], .agg #[.int .i64 a1_0, .int .i64 a1_1, .int .i64 a1_2, .int .i64 a1_3, .int .i64 a1_4]] rfl mz ?_; (with_reducible refine (dancestudioref03_Touch.calls k a1_0 a1_1 a1_2 a1_3 a1_4 a1_0 a1_1 a1_2 a1_3 a1_4 t470 t471 _ A5.out).mono ?_); rintro e w13 ⟨rfl, hb⟩; refine ⟨_, rfl, ?_⟩; replace BK467 := am (blk_below (o := .cells #[.int .i64 a0_0, .int .i64 a0_1, .slice A0_2 l0_2.length c0_2] 42 (0, 0)) (kz BK467) hb); replace BK468 := am (blk_below (o := .cells #[.int .i64 a1_0, .int .i64 a1_1, .int .i64 a1_2, .int .i64 a1_3, .int .i64 a1_4] 57 (0, 0)) (kz BK468) hb); replace HB := am (below_step bz hb); (try clear hb); (try clear hb2); (try clear hk); (try clear hi)))
   go_loopg [10, 11] k (fun kq v10 v11 w' => ∃ (x10_1 x11_1 : Int), v10 = .int .i64 x10_1 ∧ v11 = .int .i64 x11_1 ∧ Aside0 (dancestudioref42_Clear.l0 kq x10_1 x11_1 a0_0 a0_1 l0_2 a1_0 a1_1 a1_2 a1_3 a1_4 = some (r1, r2, r3)) ∧ Aside0 (kq ≤ k) ∧ Aside0 (w'.heap[gb467]? = some (.cells #[.int .i64 a0_0, .int .i64 a0_1, (.slice A0_2 l0_2.length c0_2)] 42 (0, 0))) ∧ Aside0 (w'.heap[gb468]? = some (.cells #[.int .i64 a1_0, .int .i64 a1_1, .int .i64 a1_2, .int .i64 a1_3, .int .i64 a1_4] 57 (0, 0))) ∧ Aside0 (Below w.heap.size w w'))
   case atStart => exact ⟨((-1)), (0), sz, sz, H', ⟨Nat.le_refl _⟩, ⟨kz BK467⟩, ⟨kz BK468⟩, ⟨bz⟩⟩
   case round =>
    clear H'
    try clear p2
    try clear c3
    try clear c4
    try clear c4b0
    try clear c4b1
    try clear c6
    try clear c6b0
    try clear c6b1
    try clear c9
    try clear hcz10_0
    try clear hcz10_1
    try clear hcz10_2
    try clear hcz12_0
    try clear hcz12_1
    try clear hcz12_2
    try clear hcz12_3
    try clear hcz12_4
    try clear hfz10_0
    try clear hfz10_1
    try clear hfz10_2
    try clear hfz12_0
    try clear hfz12_1
    try clear hfz12_2
    try clear hfz12_3
    try clear hfz12_4
    obtain ⟨x10_1, x11_1, rfl, rfl, HA, HK1, BK467, BK468, HB⟩ := hrel
    cases gk with
    | zero => exact absurd HA.out (by simp [dancestudioref42_Clear.l0])
    | succ k1 =>
     have H := HA.out
     clear HA
     simp only [dancestudioref42_Clear.l0] at H
     have HC14 := am H
     clear H
     go_upto_region 9 with (fail)
     go_cut [37] (fun v37 wc => ∃ (kq : Nat) (x37_13 : Bool), v37 = .bool x37_13 ∧ Aside0 (dancestudioref42_Clear.j1 kq x10_1 x11_1 x37_13 a0_0 a0_1 l0_2 a1_0 a1_1 a1_2 a1_3 a1_4 = some (r1, r2, r3)) ∧ Aside0 (kq ≤ k1) ∧ Aside0 (wc.heap[gb467]? = some (.cells #[.int .i64 a0_0, .int .i64 a0_1, (.slice A0_2 l0_2.length c0_2)] 42 (0, 0))) ∧ Aside0 (wc.heap[gb468]? = some (.cells #[.int .i64 a1_0, .int .i64 a1_1, .int .i64 a1_2, .int .i64 a1_3, .int .i64 a1_4] 57 (0, 0))) ∧ Aside0 (Below w.heap.size w wc))
     case first =>
      have H := HC14.out
      clear HC14
      by_cases c15 : x11_1 < (l0_2.length : Int)
      ·
       rw [if_pos c15] at H
       have c15b0 := decide_eq_true c15
       clear c15
       (first | rw [c15b0] | (simp only [i64_w, i32_w]; rw [c15b0]) | skip)
       have H' := am H
       clear H
       have hnb16 := NB467_468.out
       have hnc16 := NB468_467.out
       obtain ⟨hcz17_0, hcz17_1, hcz17_2, hfz17_0, hfz17_1, hfz17_2⟩ := kc3 BK467.out
       go_wp2
       go_meet
       case rel => exact ⟨_, (decide (x10_1 < 0)), sz, H', ⟨by have := HK1.out; first | omega | exact Nat.le_refl _⟩, ⟨kz BK467⟩, ⟨kz BK468⟩, ⟨bz⟩⟩
      ·
       rw [if_neg c15] at H
       have c15b0 := decide_eq_false c15
       clear c15
       (first | rw [c15b0] | (simp only [i64_w, i32_w]; rw [c15b0]) | skip)
       have H' := am H
       clear H
       have hnb18 := NB467_468.out
       have hnc18 := NB468_467.out
       obtain ⟨hcz19_0, hcz19_1, hcz19_2, hfz19_0, hfz19_1, hfz19_2⟩ := kc3 BK467.out
       go_wp2
       go_meet
       case rel => exact ⟨_, (false), sz, H', ⟨by have := HK1.out; first | omega | exact Nat.le_refl _⟩, ⟨kz BK467⟩, ⟨kz BK468⟩, ⟨bz⟩⟩
     case rest =>
      clear HC14
      try clear c1
      try clear p2
      try clear c3
      try clear c4
      try clear c4b0
      try clear c4b1
      try clear c6
      try clear c6b0
      try clear c6b1
      try clear c9
      try clear c15
      try clear c15b0
      try clear c16
      try clear c18
      try clear hcz10_0
      try clear hcz10_1
      try clear hcz10_2
      try clear hcz12_0
      try clear hcz12_1
      try clear hcz12_2
      try clear hcz12_3
      try clear hcz12_4
      try clear hcz17_0
      try clear hcz17_1
      try clear hcz17_2
      try clear hcz19_0
      try clear hcz19_1
      try clear hcz19_2
      try clear hfz10_0
      try clear hfz10_1
      try clear hfz10_2
      try clear hfz12_0
      try clear hfz12_1
      try clear hfz12_2
      try clear hfz12_3
      try clear hfz12_4
      try clear hfz17_0
      try clear hfz17_1
      try clear hfz17_2
      try clear hfz19_0
      try clear hfz19_1
      try clear hfz19_2
      try clear p2
      obtain ⟨kq, x37_13, rfl, HA, HJ13, BK467, BK468, HB⟩ := hcut
      cases kq with
      | zero => exact absurd HA.out (by simp [dancestudioref42_Clear.j1])
      | succ kj13 =>
       have H := HA.out
       clear HA
       simp only [dancestudioref42_Clear.j1] at H
       by_cases c20 : x37_13 = true
       ·
        subst c20
        have H1 : (if 0 ≤ x11_1 then (if x11_1 < (l0_2.length : Int) then ((dancestudioref03_Touch.f kj13 a1_0 a1_1 a1_2 a1_3 a1_4 ((rd_T64 l0_2 x11_1).f0.f0) ((rd_T64 l0_2 x11_1).f0.f1) ((rd_T64 l0_2 x11_1).f0.f0) ((rd_T64 l0_2 x11_1).f0.f1) ((rd_T64 l0_2 x11_1).f1)).bind fun bt474 => (if bt474.1 = true then (dancestudioref42_Clear.l0 kj13 x11_1 (wrap64 (x11_1 + 1)) a0_0 a0_1 l0_2 a1_0 a1_1 a1_2 a1_3 a1_4) else (dancestudioref42_Clear.l0 kj13 x10_1 (wrap64 (x11_1 + 1)) a0_0 a0_1 l0_2 a1_0 a1_1 a1_2 a1_3 a1_4))) else (none)) else (none)) = some (r1, r2, r3) := by rw [if_pos rfl] at H; exact H
        clear H
        have H := H1
        clear H1
        by_cases c21 : 0 ≤ x11_1; rotate_left
        · rw [if_neg c21] at H; exact absurd H (by simp)
        rw [if_pos c21] at H
        have c21b0 := decide_eq_true c21
        clear c21
        by_cases c22 : x11_1 < (l0_2.length : Int); rotate_left
        · rw [if_neg c22] at H; exact absurd H (by simp)
        rw [if_pos c22] at H
        have c22b0 := decide_eq_true c22
        clear c22
        replace H := Option.bind_eq_some_iff.mp H
        obtain ⟨⟨t474, t475⟩, A230, H⟩ := H
        replace H : (if t474 = true then (dancestudioref42_Clear.l0 kj13 x11_1 (wrap64 (x11_1 + 1)) a0_0 a0_1 l0_2 a1_0 a1_1 a1_2 a1_3 a1_4) else (dancestudioref42_Clear.l0 kj13 x10_1 (wrap64 (x11_1 + 1)) a0_0 a0_1 l0_2 a1_0 a1_1 a1_2 a1_3 a1_4)) = some (r1, r2, r3) := H
        have A23 := am A230
        clear A230
        by_cases c24 : t474 = true
        ·
         subst c24
         have H1 : (dancestudioref42_Clear.l0 kj13 x11_1 (wrap64 (x11_1 + 1)) a0_0 a0_1 l0_2 a1_0 a1_1 a1_2 a1_3 a1_4) = some (r1, r2, r3) := by rw [if_pos rfl] at H; exact H
         clear H
         have H := H1
         clear H1
         have H' := am H
         clear H
         have hnb25 := NB467_468.out
         have hnc25 := NB468_467.out
         obtain ⟨hcz26_0, hcz26_1, hcz26_2, hfz26_0, hfz26_1, hfz26_2⟩ := kc3 BK467.out
         have p472 : 0 ≤ (x11_1 : Int) := az
         have q472 : x11_1 < (l0_2.length : Int) := az
         obtain ⟨ad472, e472, hx472_0, hx472_1, hx472_2⟩ := at_T64 HR0_2.out x11_1 p472 q472
         cases e472
         replace hx472_0 := cb HB.out hx472_0
         replace hx472_1 := cb HB.out hx472_1
         replace hx472_2 := cb HB.out hx472_2
         replace p472 := eq_true p472
         replace q472 := eq_true q472
         go_wp2_with (first | ((with_reducible refine gate_dst (N := 12) rfl ?_); refine box_event yz (N := 12) yz (cs := #[.int .i64 0, .int .i64 0, .int .i64 0]) (t := 64) gz ?_; intro gb473 hg w27 hbox hb; have BK473 := am (hbox); have GW473 := gwz (g := gb473) HB hg; have GE473 := GW473; replace HB := am (below_step bz hb); have NB467_473 := nlt (g' := gb473) BK467 hg; have NB473_467 := ngt (g' := gb473) BK467 hg; replace BK467 := am (blk_below (o := .cells #[.int .i64 a0_0, .int .i64 a0_1, .slice (some ad472) l0_2.length c0_2] 42 (0, 0)) (kz BK467) hb); have NB468_473 := nlt (g' := gb473) BK468 hg; have NB473_468 := ngt (g' := gb473) BK468 hg; replace BK468 := am (blk_below (o := .cells #[.int .i64 a1_0, .int .i64 a1_1, .int .i64 a1_2, .int .i64 a1_3, .int .i64 a1_4] 57 (0, 0)) (kz BK468) hb); clear hb hbox hg; have hnb28 := NB473_467.out; have hnc28 := NB467_473.out; have hnb29 := NB473_468.out; have hnc29 := NB468_473.out; obtain ⟨hcz30_0, hcz30_1, hcz30_2, hfz30_0, hfz30_1, hfz30_2⟩ := kc3 BK473.out; obtain ⟨hcz31_0, hcz31_1, hcz31_2, hcz31_3, hcz31_4, hfz31_0, hfz31_1, hfz31_2, hfz31_3, hfz31_4⟩ := kc5 BK468.out) | ((with_reducible refine gate_callee (f := 44) rfl ?_); refine goesL_ (some 54) rfl rfl Try.func44 qz rfl #[.agg #[.int .i64 a1_0, .int .i64 a1_1, .int .i64 a1_2, .int .i64 a1_3, .int .i64 a1_4], .agg #[.int .i64 ((rd_T64 l0_2 x11_1).f0.f0), .int .i64 ((rd_T64 l0_2 x11_1).f0.f1), .int .i64 ((rd_T64 l0_2 x11_1).f0.f0), .int .i64 ((rd_T64 l0_2 x11_1).f0.f1), .int .i64 ((rd_T64 l0_2 x11_1).f1)]] rfl mz ?_; (with_reducible refine (dancestudioref03_Touch.calls kj13 a1_0 a1_1 a1_2 a1_3 a1_4 ((rd_T64 l0_2 x11_1).f0.f0) ((rd_T64 l0_2 x11_1).f0.f1) ((rd_T64 l0_2 x11_1).f0.f0) ((rd_T64 l0_2 x11_1).f0.f1) ((rd_T64 l0_2 x11_1).f1) true t475 _ A23.out).mono ?_); rintro e w32 ⟨rfl, hb⟩; refine ⟨_, rfl, ?_⟩; replace BK467 := am (blk_below (o := .cells #[.int .i64 a0_0, .int .i64 a0_1, .slice (some ad472) l0_2.length c0_2] 42 (0, 0)) (by (with_reducible repeat first | apply kN | apply kD | apply kA); refine blk_far ?_ NB467_473.out _; (with_reducible repeat first | apply kN | apply kD | apply kA); refine blk_far ?_ NB467_473.out _; (with_reducible repeat first | apply kN | apply kD | apply kA); refine blk_far ?_ NB467_473.out _; (with_reducible repeat first | apply kN | apply kD | apply kA); exact BK467.out) hb); replace BK468 := am (blk_below (o := .cells #[.int .i64 a1_0, .int .i64 a1_1, .int .i64 a1_2, .int .i64 a1_3, .int .i64 a1_4] 57 (0, 0)) (by (with_reducible repeat first | apply kN | apply kD | apply kA); refine blk_far ?_ NB468_473.out _; (with_reducible repeat first | apply kN | apply kD | apply kA); refine blk_far ?_ NB468_473.out _; (with_reducible repeat first | apply kN | apply kD | apply kA); refine blk_far ?_ NB468_473.out _; (with_reducible repeat first | apply kN | apply kD | apply kA); exact BK468.out) hb); replace BK473 := am (blk_below (o := .cells #[.int .i64 ((rd_T64 l0_2 x11_1).f0.f0), .int .i64 ((rd_T64 l0_2 x11_1).f0.f1), .int .i64 ((rd_T64 l0_2 x11_1).f1)] 64 (0, 0)) (by (with_reducible repeat first | apply kN | apply kD | apply kA); refine blk_put (cs := #[.int .i64 ((rd_T64 l0_2 x11_1).f0.f0), .int .i64 ((rd_T64 l0_2 x11_1).f0.f1), .int .i64 0]) ?_ 2 _ rfl; (with_reducible repeat first | apply kN | apply kD | apply kA); refine blk_put (cs := #[.int .i64 ((rd_T64 l0_2 x11_1).f0.f0), .int .i64 0, .int .i64 0]) ?_ 1 _ rfl; (with_reducible repeat first | apply kN | apply kD | apply kA); refine blk_put (cs := #[.int .i64 0, .int .i64 0, .int .i64 0]) ?_ 0 _ rfl; (with_reducible repeat first | apply kN | apply kD | apply kA); exact BK473.out) hb); replace HB := am (below_step bz hb); (try clear hb); (try clear hb2); (try clear hk); (try clear hi)))
         go_roundg kj13
         case measure => have := HK1.out; have := HJ13.out; omega
         case rel => exact ⟨(x11_1), (wrap64 (x11_1 + 1)), sz, sz, H', ⟨by have := HK1.out; have := HJ13.out; omega⟩, ⟨kz BK467⟩, ⟨kz BK468⟩, ⟨bz⟩⟩
        ·
         replace c24 := Bool.eq_false_iff.mpr c24
         subst c24
         have H1 : (dancestudioref42_Clear.l0 kj13 x10_1 (wrap64 (x11_1 + 1)) a0_0 a0_1 l0_2 a1_0 a1_1 a1_2 a1_3 a1_4) = some (r1, r2, r3) := by rw [if_neg (show ¬ (false = true) by decide)] at H; exact H
         clear H
         have H := H1
         clear H1
         have H' := am H
         clear H
         have hnb33 := NB467_468.out
         have hnc33 := NB468_467.out
         obtain ⟨hcz34_0, hcz34_1, hcz34_2, hfz34_0, hfz34_1, hfz34_2⟩ := kc3 BK467.out
         have p472 : 0 ≤ (x11_1 : Int) := az
         have q472 : x11_1 < (l0_2.length : Int) := az
         obtain ⟨ad472, e472, hx472_0, hx472_1, hx472_2⟩ := at_T64 HR0_2.out x11_1 p472 q472
         cases e472
         replace hx472_0 := cb HB.out hx472_0
         replace hx472_1 := cb HB.out hx472_1
         replace hx472_2 := cb HB.out hx472_2
         replace p472 := eq_true p472
         replace q472 := eq_true q472
         go_wp2_with (first | ((with_reducible refine gate_dst (N := 12) rfl ?_); refine box_event yz (N := 12) yz (cs := #[.int .i64 0, .int .i64 0, .int .i64 0]) (t := 64) gz ?_; intro gb473 hg w35 hbox hb; have BK473 := am (hbox); have GW473 := gwz (g := gb473) HB hg; have GE473 := GW473; replace HB := am (below_step bz hb); have NB467_473 := nlt (g' := gb473) BK467 hg; have NB473_467 := ngt (g' := gb473) BK467 hg; replace BK467 := am (blk_below (o := .cells #[.int .i64 a0_0, .int .i64 a0_1, .slice (some ad472) l0_2.length c0_2] 42 (0, 0)) (kz BK467) hb); have NB468_473 := nlt (g' := gb473) BK468 hg; have NB473_468 := ngt (g' := gb473) BK468 hg; replace BK468 := am (blk_below (o := .cells #[.int .i64 a1_0, .int .i64 a1_1, .int .i64 a1_2, .int .i64 a1_3, .int .i64 a1_4] 57 (0, 0)) (kz BK468) hb); clear hb hbox hg; have hnb36 := NB473_467.out; have hnc36 := NB467_473.out; have hnb37 := NB473_468.out; have hnc37 := NB468_473.out; obtain ⟨hcz38_0, hcz38_1, hcz38_2, hfz38_0, hfz38_1, hfz38_2⟩ := kc3 BK473.out; obtain ⟨hcz39_0, hcz39_1, hcz39_2, hcz39_3, hcz39_4, hfz39_0, hfz39_1, hfz39_2, hfz39_3, hfz39_4⟩ := kc5 BK468.out) | ((with_reducible refine gate_callee (f := 44) rfl ?_); refine goesL_ (some 54) rfl rfl Try.func44 qz rfl #[.agg #[.int .i64 a1_0, .int .i64 a1_1, .int .i64 a1_2, .int .i64 a1_3, .int .i64 a1_4], .agg #[.int .i64 ((rd_T64 l0_2 x11_1).f0.f0), .int .i64 ((rd_T64 l0_2 x11_1).f0.f1), .int .i64 ((rd_T64 l0_2 x11_1).f0.f0), .int .i64 ((rd_T64 l0_2 x11_1).f0.f1), .int .i64 ((rd_T64 l0_2 x11_1).f1)]] rfl mz ?_; (with_reducible refine (dancestudioref03_Touch.calls kj13 a1_0 a1_1 a1_2 a1_3 a1_4 ((rd_T64 l0_2 x11_1).f0.f0) ((rd_T64 l0_2 x11_1).f0.f1) ((rd_T64 l0_2 x11_1).f0.f0) ((rd_T64 l0_2 x11_1).f0.f1) ((rd_T64 l0_2 x11_1).f1) false t475 _ A23.out).mono ?_); rintro e w40 ⟨rfl, hb⟩; refine ⟨_, rfl, ?_⟩; replace BK467 := am (blk_below (o := .cells #[.int .i64 a0_0, .int .i64 a0_1, .slice (some ad472) l0_2.length c0_2] 42 (0, 0)) (by (with_reducible repeat first | apply kN | apply kD | apply kA); refine blk_far ?_ NB467_473.out _; (with_reducible repeat first | apply kN | apply kD | apply kA); refine blk_far ?_ NB467_473.out _; (with_reducible repeat first | apply kN | apply kD | apply kA); refine blk_far ?_ NB467_473.out _; (with_reducible repeat first | apply kN | apply kD | apply kA); exact BK467.out) hb); replace BK468 := am (blk_below (o := .cells #[.int .i64 a1_0, .int .i64 a1_1, .int .i64 a1_2, .int .i64 a1_3, .int .i64 a1_4] 57 (0, 0)) (by (with_reducible repeat first | apply kN | apply kD | apply kA); refine blk_far ?_ NB468_473.out _; (with_reducible repeat first | apply kN | apply kD | apply kA); refine blk_far ?_ NB468_473.out _; (with_reducible repeat first | apply kN | apply kD | apply kA); refine blk_far ?_ NB468_473.out _; (with_reducible repeat first | apply kN | apply kD | apply kA); exact BK468.out) hb); replace BK473 := am (blk_below (o := .cells #[.int .i64 ((rd_T64 l0_2 x11_1).f0.f0), .int .i64 ((rd_T64 l0_2 x11_1).f0.f1), .int .i64 ((rd_T64 l0_2 x11_1).f1)] 64 (0, 0)) (by (with_reducible repeat first | apply kN | apply kD | apply kA); refine blk_put (cs := #[.int .i64 ((rd_T64 l0_2 x11_1).f0.f0), .int .i64 ((rd_T64 l0_2 x11_1).f0.f1), .int .i64 0]) ?_ 2 _ rfl; (with_reducible repeat first | apply kN | apply kD | apply kA); refine blk_put (cs := #[.int .i64 ((rd_T64 l0_2 x11_1).f0.f0), .int .i64 0, .int .i64 0]) ?_ 1 _ rfl; (with_reducible repeat first | apply kN | apply kD | apply kA); refine blk_put (cs := #[.int .i64 0, .int .i64 0, .int .i64 0]) ?_ 0 _ rfl; (with_reducible repeat first | apply kN | apply kD | apply kA); exact BK473.out) hb); replace HB := am (below_step bz hb); (try clear hb); (try clear hb2); (try clear hk); (try clear hi)))
         go_roundg kj13
         case measure => have := HK1.out; have := HJ13.out; omega
         case rel => exact ⟨(x10_1), (wrap64 (x11_1 + 1)), sz, sz, H', ⟨by have := HK1.out; have := HJ13.out; omega⟩, ⟨kz BK467⟩, ⟨kz BK468⟩, ⟨bz⟩⟩
       ·
        replace c20 := Bool.eq_false_iff.mpr c20
        subst c20
        have H1 : ((dancestudioref42_inside.f a0_0 a0_1 l0_2 a1_0 a1_1 a1_4).bind fun t476 => (if t476 = true then ((dancestudioref42_inside.f a0_0 a0_1 l0_2 a1_2 a1_3 a1_4).bind fun t477 => (some (t477, x10_1, 0))) else (some (false, x10_1, 0)))) = some (r1, r2, r3) := by rw [if_neg (show ¬ (false = true) by decide)] at H; exact H
        clear H
        have H := H1
        clear H1
        replace H := Option.bind_eq_some_iff.mp H
        obtain ⟨t476, A410, H⟩ := H
        replace H : (if t476 = true then ((dancestudioref42_inside.f a0_0 a0_1 l0_2 a1_2 a1_3 a1_4).bind fun t477 => (some (t477, x10_1, 0))) else (some (false, x10_1, 0))) = some (r1, r2, r3) := H
        have A41 := am A410
        clear A410
        by_cases c42 : t476 = true
        ·
         subst c42
         have H1 : ((dancestudioref42_inside.f a0_0 a0_1 l0_2 a1_2 a1_3 a1_4).bind fun t477 => (some (t477, x10_1, 0))) = some (r1, r2, r3) := by rw [if_pos rfl] at H; exact H
         clear H
         have H := H1
         clear H1
         replace H := Option.bind_eq_some_iff.mp H
         obtain ⟨t477, A430, H⟩ := H
         replace H : (some (t477, x10_1, 0)) = some (r1, r2, r3) := H
         have A43 := am A430
         clear A430
         simp only [Option.some.injEq, Prod.mk.injEq] at H
         obtain ⟨rfl, rfl, rfl⟩ := H
         have hnb44 := NB467_468.out
         have hnc44 := NB468_467.out
         obtain ⟨hcz45_0, hcz45_1, hcz45_2, hfz45_0, hfz45_1, hfz45_2⟩ := kc3 BK467.out
         obtain ⟨hcz46_0, hcz46_1, hcz46_2, hcz46_3, hcz46_4, hfz46_0, hfz46_1, hfz46_2, hfz46_3, hfz46_4⟩ := kc5 BK468.out
         go_wp2_with (first | ((with_reducible refine gate_callee (f := 45) rfl ?_); refine goesL_ (some 64) rfl rfl Try.func45 qz rfl #[.agg #[.int .i64 a0_0, .int .i64 a0_1, .slice A0_2 l0_2.length c0_2], .agg #[.int .i64 a1_0, .int .i64 a1_1], .int .i64 a1_4] rfl mz ?_; (with_reducible refine (dancestudioref42_inside.calls a0_0 a0_1 _ _ l0_2 a1_0 a1_1 a1_4 true _ ?side1 ?side2 A41.out).mono ?_); (case side1 => exact cz HR0_2); (case side2 => exact HC0_2.out); rintro e w47 ⟨rfl, hb⟩; refine ⟨_, rfl, ?_⟩; replace BK467 := am (blk_below (o := .cells #[.int .i64 a0_0, .int .i64 a0_1, .slice A0_2 l0_2.length c0_2] 42 (0, 0)) (kz BK467) hb); replace BK468 := am (blk_below (o := .cells #[.int .i64 a1_0, .int .i64 a1_1, .int .i64 a1_2, .int .i64 a1_3, .int .i64 a1_4] 57 (0, 0)) (kz BK468) hb); replace HB := am (below_step bz hb); (try clear hb); (try clear hb2); (try clear hk); (try clear hi); obtain ⟨hcz48_0, hcz48_1, hcz48_2, hfz48_0, hfz48_1, hfz48_2⟩ := kc3 BK467.out; obtain ⟨hcz49_0, hcz49_1, hcz49_2, hcz49_3, hcz49_4, hfz49_0, hfz49_1, hfz49_2, hfz49_3, hfz49_4⟩ := kc5 BK468.out) | (go_at_call 45; (with_reducible refine (dancestudioref42_inside.calls a0_0 a0_1 _ _ l0_2 a1_2 a1_3 a1_4 t477 _ ?side1 ?side2 A43.out).mono ?_); (case side1 => exact cz HR0_2); (case side2 => exact HC0_2.out); rintro e w50 ⟨rfl, hb⟩; replace BK467 := am (blk_below (o := .cells #[.int .i64 a0_0, .int .i64 a0_1, .slice A0_2 l0_2.length c0_2] 42 (0, 0)) (kz BK467) hb); replace BK468 := am (blk_below (o := .cells #[.int .i64 a1_0, .int .i64 a1_1, .int .i64 a1_2, .int .i64 a1_3, .int .i64 a1_4] 57 (0, 0)) (kz BK468) hb); replace HB := am (below_step bz hb); (try clear hb); (try clear hb2); (try clear hk); (try clear hi)))
         go_ret3
         exact ⟨ez, bz⟩
        ·
         replace c42 := Bool.eq_false_iff.mpr c42
         subst c42
         have H1 : (some (false, x10_1, 0)) = some (r1, r2, r3) := by rw [if_neg (show ¬ (false = true) by decide)] at H; exact H
         clear H
         have H := H1
         clear H1
         simp only [Option.some.injEq, Prod.mk.injEq] at H
         obtain ⟨rfl, rfl, rfl⟩ := H
         have hnb51 := NB467_468.out
         have hnc51 := NB468_467.out
         obtain ⟨hcz52_0, hcz52_1, hcz52_2, hfz52_0, hfz52_1, hfz52_2⟩ := kc3 BK467.out
         obtain ⟨hcz53_0, hcz53_1, hcz53_2, hcz53_3, hcz53_4, hfz53_0, hfz53_1, hfz53_2, hfz53_3, hfz53_4⟩ := kc5 BK468.out
         go_wp2_with (first | ((with_reducible refine gate_callee (f := 45) rfl ?_); refine goesL_ (some 64) rfl rfl Try.func45 qz rfl #[.agg #[.int .i64 a0_0, .int .i64 a0_1, .slice A0_2 l0_2.length c0_2], .agg #[.int .i64 a1_0, .int .i64 a1_1], .int .i64 a1_4] rfl mz ?_; (with_reducible refine (dancestudioref42_inside.calls a0_0 a0_1 _ _ l0_2 a1_0 a1_1 a1_4 false _ ?side1 ?side2 A41.out).mono ?_); (case side1 => exact cz HR0_2); (case side2 => exact HC0_2.out); rintro e w54 ⟨rfl, hb⟩; refine ⟨_, rfl, ?_⟩; replace BK467 := am (blk_below (o := .cells #[.int .i64 a0_0, .int .i64 a0_1, .slice A0_2 l0_2.length c0_2] 42 (0, 0)) (kz BK467) hb); replace BK468 := am (blk_below (o := .cells #[.int .i64 a1_0, .int .i64 a1_1, .int .i64 a1_2, .int .i64 a1_3, .int .i64 a1_4] 57 (0, 0)) (kz BK468) hb); replace HB := am (below_step bz hb); (try clear hb); (try clear hb2); (try clear hk); (try clear hi)))
         go_ret3
         exact ⟨ez, bz⟩
  ·
   rw [if_neg c6] at H
   have c6b0 : (t471 == 0) = false := beq_eq_false_iff_ne.mpr c6
   have c6b1 : (t471 != 0) = true := bne_iff_ne.mpr c6
   simp only [Option.some.injEq, Prod.mk.injEq] at H
   obtain ⟨rfl, rfl, rfl⟩ := H
   go_enter Try.func33, Try.ntmps33
   go_wp2_with (first | ((with_reducible refine gate_dst (N := 2) rfl ?_); refine box_event yz (N := 2) yz (cs := #[.int .i64 a0_0, .int .i64 a0_1, .slice A0_2 l0_2.length c0_2]) (t := 42) gz ?_; intro gb467 hg w55 hbox hb; have BK467 := am (hbox); have GW467 := gwz (g := gb467) HB hg; have GE467 := GW467; replace HB := am (below_step bz hb); clear hb hbox hg) | ((with_reducible refine gate_dst (N := 3) rfl ?_); refine box_event yz (N := 3) yz (cs := #[.int .i64 a1_0, .int .i64 a1_1, .int .i64 a1_2, .int .i64 a1_3, .int .i64 a1_4]) (t := 57) gz ?_; intro gb468 hg w56 hbox hb; have BK468 := am (hbox); have GW468 := gwz (g := gb468) HB hg; have GE468 := GW468; replace HB := am (below_step bz hb); have NB467_468 := nlt (g' := gb468) BK467 hg; have NB468_467 := ngt (g' := gb468) BK467 hg; replace BK467 := am (blk_below (o := .cells #[.int .i64 a0_0, .int .i64 a0_1, .slice A0_2 l0_2.length c0_2] 42 (0, 0)) (kz BK467) hb); clear hb hbox hg; have hnb57 := NB467_468.out; have hnc57 := NB468_467.out; obtain ⟨hcz58_0, hcz58_1, hcz58_2, hfz58_0, hfz58_1, hfz58_2⟩ := kc3 BK467.out) | ((with_reducible refine gate_callee (f := 32) rfl ?_); refine goesL_ (some 16) rfl rfl Try.func32 qz rfl #[.agg #[.int .i64 a0_0, .int .i64 a0_1, .slice A0_2 l0_2.length c0_2]] rfl mz ?_; (with_reducible refine (dancestudioref42_Check.calls k a0_0 a0_1 _ _ l0_2 t469 _ ?side1 ?side2 A3.out).mono ?_); (case side1 => exact cz HR0_2); (case side2 => exact HC0_2.out); rintro e w59 ⟨rfl, hb⟩; refine ⟨_, rfl, ?_⟩; replace BK467 := am (blk_below (o := .cells #[.int .i64 a0_0, .int .i64 a0_1, .slice A0_2 l0_2.length c0_2] 42 (0, 0)) (kz BK467) hb); replace BK468 := am (blk_below (o := .cells #[.int .i64 a1_0, .int .i64 a1_1, .int .i64 a1_2, .int .i64 a1_3, .int .i64 a1_4] 57 (0, 0)) (kz BK468) hb); replace HB := am (below_step bz hb); (try clear hb); (try clear hb2); (try clear hk); (try clear hi); obtain ⟨hcz60_0, hcz60_1, hcz60_2, hcz60_3, hcz60_4, hfz60_0, hfz60_1, hfz60_2, hfz60_3, hfz60_4⟩ := kc5 BK468.out) | ((with_reducible refine gate_callee (f := 44) rfl ?_); refine goesL_ (some 23) rfl rfl Try.func44 qz rfl #[.agg #[.int .i64 a1_0, .int .i64 a1_1, .int .i64 a1_2, .int .i64 a1_3, .int .i64 a1_4], .agg #[.int .i64 a1_0, .int .i64 a1_1, .int .i64 a1_2, .int .i64 a1_3, .int .i64 a1_4]] rfl mz ?_; (with_reducible refine (dancestudioref03_Touch.calls k a1_0 a1_1 a1_2 a1_3 a1_4 a1_0 a1_1 a1_2 a1_3 a1_4 t470 t471 _ A5.out).mono ?_); rintro e w61 ⟨rfl, hb⟩; refine ⟨_, rfl, ?_⟩; replace BK467 := am (blk_below (o := .cells #[.int .i64 a0_0, .int .i64 a0_1, .slice A0_2 l0_2.length c0_2] 42 (0, 0)) (kz BK467) hb); replace BK468 := am (blk_below (o := .cells #[.int .i64 a1_0, .int .i64 a1_1, .int .i64 a1_2, .int .i64 a1_3, .int .i64 a1_4] 57 (0, 0)) (kz BK468) hb); replace HB := am (below_step bz hb); (try clear hb); (try clear hb2); (try clear hk); (try clear hi)))
   go_ret3
   exact ⟨ez, bz⟩
 ·
  rw [if_neg c4] at H
  have c4b0 : (t469 == 0) = false := beq_eq_false_iff_ne.mpr c4
  have c4b1 : (t469 != 0) = true := bne_iff_ne.mpr c4
  simp only [Option.some.injEq, Prod.mk.injEq] at H
  obtain ⟨rfl, rfl, rfl⟩ := H
  go_enter Try.func33, Try.ntmps33
  go_wp2_with (first | ((with_reducible refine gate_dst (N := 2) rfl ?_); refine box_event yz (N := 2) yz (cs := #[.int .i64 a0_0, .int .i64 a0_1, .slice A0_2 l0_2.length c0_2]) (t := 42) gz ?_; intro gb467 hg w62 hbox hb; have BK467 := am (hbox); have GW467 := gwz (g := gb467) HB hg; have GE467 := GW467; replace HB := am (below_step bz hb); clear hb hbox hg) | ((with_reducible refine gate_dst (N := 3) rfl ?_); refine box_event yz (N := 3) yz (cs := #[.int .i64 a1_0, .int .i64 a1_1, .int .i64 a1_2, .int .i64 a1_3, .int .i64 a1_4]) (t := 57) gz ?_; intro gb468 hg w63 hbox hb; have BK468 := am (hbox); have GW468 := gwz (g := gb468) HB hg; have GE468 := GW468; replace HB := am (below_step bz hb); have NB467_468 := nlt (g' := gb468) BK467 hg; have NB468_467 := ngt (g' := gb468) BK467 hg; replace BK467 := am (blk_below (o := .cells #[.int .i64 a0_0, .int .i64 a0_1, .slice A0_2 l0_2.length c0_2] 42 (0, 0)) (kz BK467) hb); clear hb hbox hg; have hnb64 := NB467_468.out; have hnc64 := NB468_467.out; obtain ⟨hcz65_0, hcz65_1, hcz65_2, hfz65_0, hfz65_1, hfz65_2⟩ := kc3 BK467.out) | ((with_reducible refine gate_callee (f := 32) rfl ?_); refine goesL_ (some 16) rfl rfl Try.func32 qz rfl #[.agg #[.int .i64 a0_0, .int .i64 a0_1, .slice A0_2 l0_2.length c0_2]] rfl mz ?_; (with_reducible refine (dancestudioref42_Check.calls k a0_0 a0_1 _ _ l0_2 t469 _ ?side1 ?side2 A3.out).mono ?_); (case side1 => exact cz HR0_2); (case side2 => exact HC0_2.out); rintro e w66 ⟨rfl, hb⟩; refine ⟨_, rfl, ?_⟩; replace BK467 := am (blk_below (o := .cells #[.int .i64 a0_0, .int .i64 a0_1, .slice A0_2 l0_2.length c0_2] 42 (0, 0)) (kz BK467) hb); replace BK468 := am (blk_below (o := .cells #[.int .i64 a1_0, .int .i64 a1_1, .int .i64 a1_2, .int .i64 a1_3, .int .i64 a1_4] 57 (0, 0)) (kz BK468) hb); replace HB := am (below_step bz hb); (try clear hb); (try clear hb2); (try clear hk); (try clear hi)))
  go_ret3
  exact ⟨ez, bz⟩

end Go.Proofs.Ytmdmajfgpmopbaa.X
