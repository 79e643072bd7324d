-- squeezed
-- written by xprint.py, an own overlay over the kit's print; not trusted: Lean checks it
import Derived.Test.YtmfcgmdecindnaaX0
import Derived.Test.YtmfcgmdecindnaaX23
import Derived.Test.YtmfcgmdecindnaaX26
import Derived.Test.YtmfcgmdecindnaaX37
namespace Go.Proofs.Ytmfcgmdecindnaa.X
open Go.RowKit Go.Proofs.YtmfcgmdecindnaaW.PrintWords Go.Proofs.YtmfcgmdecindnaaW.PrintLast Go.Proofs.YtmfcgmdecindnaaW.PrintMore
attribute [local go_sem] max2_int min2_int max_two min_two max_three min_three max_four min_four   -- for this text's walks alone
set_option linter.unusedVariables false
set_option linter.unusedSimpArgs false

/-! ### dancestudioref42_Clear: function 17 -/
mutual
def dancestudioref42_Clear.l0 : Nat → Int → Int → Int → Int → List (S41) → Int → Int → Int → Int → Int → Option (Bool × Int × Int)
 | 0, _, _, _, _, _, _, _, _, _, _ => none
 | k + 1, x10, x11, x341000, x341001, x341002, x342000, x342001, x342002, x342003, x342004 => if x11 < (x341002.length : Int) then (dancestudioref42_Clear.j1 k x10 x11 (decide (x10 < 0)) x341000 x341001 x341002 x342000 x342001 x342002 x342003 x342004) else (dancestudioref42_Clear.j1 k x10 x11 false x341000 x341001 x341002 x342000 x342001 x342002 x342003 x342004)
def dancestudioref42_Clear.j1 : Nat → Int → Int → Bool → Int → Int → List (S41) → Int → Int → Int → Int → Int → Option (Bool × Int × Int)
 | 0, _, _, _, _, _, _, _, _, _, _, _ => none
 | k + 1, x10, x11, x37, x341000, x341001, x341002, x342000, x342001, x342002, x342003, x342004 => if x37 = true then (if 0 ≤ x11 then (if x11 < (x341002.length : Int) then ((dancestudioref03_Touch.f k x342000 x342001 x342002 x342003 x342004 ((rd_T41 x341002 x11).f0.f0) ((rd_T41 x341002 x11).f0.f1) ((rd_T41 x341002 x11).f0.f0) ((rd_T41 x341002 x11).f0.f1) ((rd_T41 x341002 x11).f1)).bind fun bt347 => (if bt347.1 = true then (dancestudioref42_Clear.l0 k x11 (wrap64 (x11 + 1)) x341000 x341001 x341002 x342000 x342001 x342002 x342003 x342004) else (dancestudioref42_Clear.l0 k x10 (wrap64 (x11 + 1)) x341000 x341001 x341002 x342000 x342001 x342002 x342003 x342004))) else (none)) else (none)) else ((dancestudioref42_inside.f x341000 x341001 x341002 x342000 x342001 x342004).bind fun t349 => (if t349 = true then ((dancestudioref42_inside.f x341000 x341001 x341002 x342002 x342003 x342004).bind fun t350 => (some (t350, x10, 0))) else (some (false, x10, 0))))
end
def dancestudioref42_Clear.f (k : Nat) (a0_0 : Int) (a0_1 : Int) (l0_2 : List (S41)) (a1_0 : Int) (a1_1 : Int) (a1_2 : Int) (a1_3 : Int) (a1_4 : Int) : Option (Bool × Int × Int) := (dancestudioref42_Check.f k a0_0 a0_1 l0_2).bind fun t342 => (if t342 = 0 then ((dancestudioref03_Touch.f k a1_0 a1_1 a1_2 a1_3 a1_4 a1_0 a1_1 a1_2 a1_3 a1_4).bind fun bt343 => (if bt343.2 = 0 then (dancestudioref42_Clear.l0 k (-1) 0 a0_0 a0_1 l0_2 a1_0 a1_1 a1_2 a1_3 a1_4) else (some (false, 0, bt343.2)))) else (some (false, 0, t342)))
theorem dancestudioref42_Clear.mono_l : ∀ k, (∀ y0 y1 y2 y3 y4 y5 y6 y7 y8 y9, LeO (dancestudioref42_Clear.l0 k y0 y1 y2 y3 y4 y5 y6 y7 y8 y9) (dancestudioref42_Clear.l0 (k + 1) y0 y1 y2 y3 y4 y5 y6 y7 y8 y9)) ∧ (∀ y0 y1 y2 y3 y4 y5 y6 y7 y8 y9 y10, LeO (dancestudioref42_Clear.j1 k y0 y1 y2 y3 y4 y5 y6 y7 y8 y9 y10) (dancestudioref42_Clear.j1 (k + 1) y0 y1 y2 y3 y4 y5 y6 y7 y8 y9 y10))
 | 0 => ⟨fun _ _ _ _ _ _ _ _ _ _ r h => by simp [dancestudioref42_Clear.l0] at h, fun _ _ _ _ _ _ _ _ _ _ _ r h => by simp [dancestudioref42_Clear.j1] at h⟩
 | k + 1 => by
  obtain ⟨ih0, ih1⟩ := dancestudioref42_Clear.mono_l k
  refine ⟨?_, ?_⟩
  ·
   intro y0 y1 y2 y3 y4 y5 y6 y7 y8 y9
   unfold dancestudioref42_Clear.l0
   repeat' first
   | (with_reducible exact ih0 _ _ _ _ _ _ _ _ _ _)
   | (with_reducible exact ih1 _ _ _ _ _ _ _ _ _ _ _)
   | (with_reducible exact dancestudioref03_Touch.mono _ _ _ _ _ _ _ _ _ _ _)
   | (with_reducible exact dancestudioref42_Check.mono _ _ _ _)
   | (with_reducible exact LeO.refl _)
   | (with_reducible exact LeO.none _)
   | (with_reducible refine LeO.ite ?_ ?_)
   | (with_reducible refine LeO.bind ?_ (fun _ => ?_))
   | exact ih0 _ _ _ _ _ _ _ _ _ _
   | exact ih1 _ _ _ _ _ _ _ _ _ _ _
   | exact dancestudioref03_Touch.mono _ _ _ _ _ _ _ _ _ _ _
   | exact dancestudioref42_Check.mono _ _ _ _
   | exact LeO.none _
   | refine LeO.ite ?_ ?_
   | refine LeO.bind ?_ (fun _ => ?_)
  ·
   intro y0 y1 y2 y3 y4 y5 y6 y7 y8 y9 y10
   unfold dancestudioref42_Clear.j1
   repeat' first
   | (with_reducible exact ih0 _ _ _ _ _ _ _ _ _ _)
   | (with_reducible exact ih1 _ _ _ _ _ _ _ _ _ _ _)
   | (with_reducible exact dancestudioref03_Touch.mono _ _ _ _ _ _ _ _ _ _ _)
   | (with_reducible exact dancestudioref42_Check.mono _ _ _ _)
   | (with_reducible exact LeO.refl _)
   | (with_reducible exact LeO.none _)
   | (with_reducible refine LeO.ite ?_ ?_)
   | (with_reducible refine LeO.bind ?_ (fun _ => ?_))
   | exact ih0 _ _ _ _ _ _ _ _ _ _
   | exact ih1 _ _ _ _ _ _ _ _ _ _ _
   | exact dancestudioref03_Touch.mono _ _ _ _ _ _ _ _ _ _ _
   | exact dancestudioref42_Check.mono _ _ _ _
   | exact LeO.none _
   | refine LeO.ite ?_ ?_
   | refine LeO.bind ?_ (fun _ => ?_)
theorem dancestudioref42_Clear.mono : ∀ a0 a1 a2 a3 a4 a5 a6 a7 k, LeO (dancestudioref42_Clear.f k a0 a1 a2 a3 a4 a5 a6 a7) (dancestudioref42_Clear.f (k + 1) a0 a1 a2 a3 a4 a5 a6 a7) := by
 intro a0 a1 a2 a3 a4 a5 a6 a7 k
 obtain ⟨ih0, ih1⟩ := dancestudioref42_Clear.mono_l k
 unfold dancestudioref42_Clear.f
 repeat' first
   | (with_reducible exact ih0 _ _ _ _ _ _ _ _ _ _)
   | (with_reducible exact ih1 _ _ _ _ _ _ _ _ _ _ _)
   | (with_reducible exact dancestudioref03_Touch.mono _ _ _ _ _ _ _ _ _ _ _)
   | (with_reducible exact dancestudioref42_Check.mono _ _ _ _)
   | (with_reducible exact LeO.refl _)
   | (with_reducible exact LeO.none _)
   | (with_reducible refine LeO.ite ?_ ?_)
   | (with_reducible refine LeO.bind ?_ (fun _ => ?_))
   | exact ih0 _ _ _ _ _ _ _ _ _ _
   | exact ih1 _ _ _ _ _ _ _ _ _ _ _
   | exact dancestudioref03_Touch.mono _ _ _ _ _ _ _ _ _ _ _
   | exact dancestudioref42_Check.mono _ _ _ _
   | exact LeO.none _
   | refine LeO.ite ?_ ?_
   | refine LeO.bind ?_ (fun _ => ?_)
set_option maxHeartbeats 8000000 in
set_option maxRecDepth 100000 in
theorem dancestudioref42_Clear.calls (k : Nat) (a0_0 : Int) (a0_1 : Int) (A0_2 : Option Addr) (c0_2 : Nat) (l0_2 : List (S41)) (a1_0 : Int) (a1_1 : Int) (a1_2 : Int) (a1_3 : Int) (a1_4 : Int) (r1 : Bool) (r2 : Int) (r3 : Int) (w : World) (hr0_2 : Kd.C k41 w A0_2 l0_2.length l0_2) (hc0_2 : l0_2.length ≤ c0_2) (h : dancestudioref42_Clear.f k a0_0 a0_1 l0_2 a1_0 a1_1 a1_2 a1_3 a1_4 = some (r1, r2, r3)) :
  Calls Try.prog 17 #[.agg #[.int .i64 a0_0, .int .i64 a0_1, .slice A0_2 l0_2.length c0_2], .agg #[.int .i64 a1_0, .int .i64 a1_1, .int .i64 a1_2, .int .i64 a1_3, .int .i64 a1_4]] w fun e w' => e = .returned (.tuple #[.bool r1, .int .i64 r2, .int .i64 r3]) ∧ Below w.heap.size w w' := by
 have hu24 := Try.underlying24
 have hu35 := Try.underlying35
 have hu41 := Try.underlying41
 have hu26 := Try.underlying26
 have HR0_2 := Aside0.mk hr0_2
 have HC0_2 := Aside0.mk hc0_2
 clear hr0_2 hc0_2
 have HB := Aside0.mk (Below.refl w.heap.size w)
 have H : ((dancestudioref42_Check.f k a0_0 a0_1 l0_2).bind fun t342 => (if t342 = 0 then ((dancestudioref03_Touch.f k a1_0 a1_1 a1_2 a1_3 a1_4 a1_0 a1_1 a1_2 a1_3 a1_4).bind fun bt343 => (if bt343.2 = 0 then (dancestudioref42_Clear.l0 k (-1) 0 a0_0 a0_1 l0_2 a1_0 a1_1 a1_2 a1_3 a1_4) else (some (false, 0, bt343.2)))) else (some (false, 0, t342)))) = some (r1, r2, r3) := h
 clear h
 replace H := Option.bind_eq_some_iff.mp H
 obtain ⟨t342, A30, H⟩ := H
 replace H : (if t342 = 0 then ((dancestudioref03_Touch.f k a1_0 a1_1 a1_2 a1_3 a1_4 a1_0 a1_1 a1_2 a1_3 a1_4).bind fun bt343 => (if bt343.2 = 0 then (dancestudioref42_Clear.l0 k (-1) 0 a0_0 a0_1 l0_2 a1_0 a1_1 a1_2 a1_3 a1_4) else (some (false, 0, bt343.2)))) else (some (false, 0, t342))) = some (r1, r2, r3) := H
 have A3 := Aside0.mk A30
 clear A30
 by_cases c4 : t342 = 0
 ·
  rw [if_pos c4] at H
  have c4b0 : (t342 == 0) = true := beq_iff_eq.mpr c4
  have c4b1 : (t342 != 0) = false := bne_eq_false_iff_eq.mpr c4
  clear c4
  replace H := Option.bind_eq_some_iff.mp H
  obtain ⟨⟨t343, t344⟩, A50, H⟩ := H
  replace H : (if t344 = 0 then (dancestudioref42_Clear.l0 k (-1) 0 a0_0 a0_1 l0_2 a1_0 a1_1 a1_2 a1_3 a1_4) else (some (false, 0, t344))) = some (r1, r2, r3) := H
  have A5 := Aside0.mk A50
  clear A50
  by_cases c6 : t344 = 0
  ·
   rw [if_pos c6] at H
   have c6b0 : (t344 == 0) = true := beq_iff_eq.mpr c6
   have c6b1 : (t344 != 0) = false := bne_eq_false_iff_eq.mpr c6
   clear c6
   have H' := Aside0.mk H
   clear H
   go_enter Try.func17, Try.ntmps17
   go_wp2_with (first | ((with_reducible refine gate_dst (N := 2) rfl ?_); refine box_event ?hg (N := 2) ?hd (cs := #[.int .i64 a0_0, .int .i64 a0_1, .slice A0_2 l0_2.length c0_2]) (t := 24) ?hr ?_; (case hd => rfl); (case hg => rfl); (case hr => first | (go_simp; done) | (go_simp; rfl)); intro gb340 hg w7 hbox hb; have BK340 := Aside0.mk (hbox); have GW340 := Aside0.mk ((by rw [hg]; exact (below_size (by repeat with_reducible first | exact HB.out | apply bA | apply bN | apply bD)) : w.heap.size ≤ gb340)); have GE340 := GW340; replace HB := Aside0.mk (below_step (by repeat with_reducible first | exact HB.out | apply bA | apply bN | apply bD) hb); clear hb hbox hg) | ((with_reducible refine gate_dst (N := 3) rfl ?_); refine box_event ?hg (N := 3) ?hd (cs := #[.int .i64 a1_0, .int .i64 a1_1, .int .i64 a1_2, .int .i64 a1_3, .int .i64 a1_4]) (t := 35) ?hr ?_; (case hd => rfl); (case hg => rfl); (case hr => first | (go_simp; done) | (go_simp; rfl)); intro gb341 hg w8 hbox hb; have BK341 := Aside0.mk (hbox); have GW341 := Aside0.mk ((by rw [hg]; exact (below_size (by repeat with_reducible first | exact HB.out | apply bA | apply bN | apply bD | refine bS ?_ GE340.out)) : w.heap.size ≤ gb341)); have GE341 := GW341; replace HB := Aside0.mk (below_step (by repeat with_reducible first | exact HB.out | apply bA | apply bN | apply bD | refine bS ?_ GE340.out) hb); have NB340_341 := Aside0.mk ((by rw [hg]; exact Nat.ne_of_lt (blk_lt (by with_reducible repeat first | exact BK340.out | apply kN | apply kD | apply kA)) : gb340 ≠ gb341)); have NB341_340 := Aside0.mk ((by rw [hg]; exact Nat.ne_of_gt (blk_lt (by with_reducible repeat first | exact BK340.out | apply kN | apply kD | apply kA)) : gb341 ≠ gb340)); replace BK340 := Aside0.mk (blk_below (o := .cells #[.int .i64 a0_0, .int .i64 a0_1, .slice A0_2 l0_2.length c0_2] 24 (0, 0)) (by with_reducible repeat first | exact BK340.out | apply kN | apply kD | apply kA) hb); clear hb hbox hg; have hnb9 := NB340_341.out; have hnc9 := NB341_340.out; obtain ⟨hcz10_0, hcz10_1, hcz10_2, hfz10_0, hfz10_1, hfz10_2⟩ := kc3 BK340.out) | ((with_reducible refine gate_callee (f := 15) rfl ?_); refine goesL_ (some 16) rfl rfl Try.func15 (by kernel_rfl) rfl #[.agg #[.int .i64 a0_0, .int .i64 a0_1, .slice A0_2 l0_2.length c0_2]] rfl (by (try simp only [List.map_toArray, List.map_cons, List.map_nil]); first | done | rfl | (simp only [List.length_drop, List.length_take]; rfl)) ?_; (with_reducible refine (dancestudioref42_Check.calls k a0_0 a0_1 _ _ l0_2 t342 _ ?side1 ?side2 A3.out).mono ?_); (case side1 => repeat (first | exact (Kd.C_below HR0_2.out HB.out) | (with_reducible first | apply cA | apply cN | apply cD))); (case side2 => exact HC0_2.out); rintro e w11 ⟨rfl, hb⟩; refine ⟨_, rfl, ?_⟩; replace BK340 := Aside0.mk (blk_below (o := .cells #[.int .i64 a0_0, .int .i64 a0_1, .slice A0_2 l0_2.length c0_2] 24 (0, 0)) (by with_reducible repeat first | exact BK340.out | apply kN | apply kD | apply kA) hb); replace BK341 := Aside0.mk (blk_below (o := .cells #[.int .i64 a1_0, .int .i64 a1_1, .int .i64 a1_2, .int .i64 a1_3, .int .i64 a1_4] 35 (0, 0)) (by with_reducible repeat first | exact BK341.out | apply kN | apply kD | apply kA) hb); replace HB := Aside0.mk (below_step (by repeat with_reducible first | exact HB.out | apply bA | apply bN | apply bD | refine bS ?_ GE340.out | refine bS ?_ GE341.out) hb); (try clear hb); (try clear hb2); (try clear hk); (try clear hi); obtain ⟨hcz12_0, hcz12_1, hcz12_2, hcz12_3, hcz12_4, hfz12_0, hfz12_1, hfz12_2, hfz12_3, hfz12_4⟩ := kc5 BK341.out) | ((with_reducible refine gate_callee (f := 30) rfl ?_); refine goesL_ (some 23) rfl rfl Try.func30 (by kernel_rfl) rfl #[.agg #[.int .i64 a1_0, .int .i64 a1_1, .int .i64 a1_2, .int .i64 a1_3, .int .i64 a1_4], .agg #[.int .i64 a1_0, .int .i64 a1_1, .int .i64 a1_2, .int .i64 a1_3, .int .i64 a1_4]] rfl (by (try simp only [List.map_toArray, List.map_cons, List.map_nil]); first | done | rfl | (simp only [List.length_drop, List.length_take]; rfl)) ?_; (with_reducible refine (dancestudioref03_Touch.calls k a1_0 a1_1 a1_2 a1_3 a1_4 a1_0 a1_1 a1_2 a1_3 a1_4 t343 t344 _ A5.out).mono ?_); rintro e w13 ⟨rfl, hb⟩; refine ⟨_, rfl, ?_⟩; replace BK340 := Aside0.mk (blk_below (o := .cells #[.int .i64 a0_0, .int .i64 a0_1, .slice A0_2 l0_2.length c0_2] 24 (0, 0)) (by with_reducible repeat first | exact BK340.out | apply kN | apply kD | apply kA) hb); replace BK341 := Aside0.mk (blk_below (o := .cells #[.int .i64 a1_0, .int .i64 a1_1, .int .i64 a1_2, .int .i64 a1_3, .int .i64 a1_4] 35 (0, 0)) (by with_reducible repeat first | exact BK341.out | apply kN | apply kD | apply kA) hb); replace HB := Aside0.mk (below_step (by repeat with_reducible first | exact HB.out | apply bA | apply bN | apply bD | refine bS ?_ GE340.out | refine bS ?_ GE341.out) hb); (try clear hb); (try clear hb2); (try clear hk); (try clear hi)))
   go_loopg [10, 11] k (fun kq v10 v11 w' => ∃ (x10_1 : Int) (x11_1 : Int), v10 = .int .i64 x10_1 ∧ v11 = .int .i64 x11_1 ∧ Aside0 (dancestudioref42_Clear.l0 kq x10_1 x11_1 a0_0 a0_1 l0_2 a1_0 a1_1 a1_2 a1_3 a1_4 = some (r1, r2, r3)) ∧ Aside0 (kq ≤ k) ∧ Aside0 (w'.heap[gb340]? = some (.cells #[.int .i64 a0_0, .int .i64 a0_1, (.slice A0_2 l0_2.length c0_2)] 24 (0, 0))) ∧ Aside0 (w'.heap[gb341]? = some (.cells #[.int .i64 a1_0, .int .i64 a1_1, .int .i64 a1_2, .int .i64 a1_3, .int .i64 a1_4] 35 (0, 0))) ∧ Aside0 (Below w.heap.size w w'))
   case atStart => exact ⟨((-1)), (0), (by first | rfl | (simp; done) | (simp [*]; done)), (by first | rfl | (simp; done) | (simp [*]; done)), H', ⟨Nat.le_refl _⟩, ⟨by (with_reducible repeat (first | refine blk_drewN ?_ _ | refine blk_drew ?_ | refine blk_alloc ?_ _)); exact BK340.out⟩, ⟨by (with_reducible repeat (first | refine blk_drewN ?_ _ | refine blk_drew ?_ | refine blk_alloc ?_ _)); exact BK341.out⟩, ⟨by repeat with_reducible first | exact HB.out | apply bA | apply bN | apply bD | refine bS ?_ GE340.out | refine bS ?_ GE341.out⟩⟩
   case round =>
    clear H'
    try clear c1
    try clear p2
    try clear c3
    try clear c4
    try clear c4b0
    try clear c4b1
    try clear c6
    try clear c6b0
    try clear c6b1
    try clear c9
    try clear hcz10_0
    try clear hcz10_1
    try clear hcz10_2
    try clear hcz12_0
    try clear hcz12_1
    try clear hcz12_2
    try clear hcz12_3
    try clear hcz12_4
    try clear hfz10_0
    try clear hfz10_1
    try clear hfz10_2
    try clear hfz12_0
    try clear hfz12_1
    try clear hfz12_2
    try clear hfz12_3
    try clear hfz12_4
    obtain ⟨x10_1, x11_1, rfl, rfl, HA, HK1, BK340, BK341, HB⟩ := hrel
    cases gk with
    | zero => exact absurd HA.out (by simp [dancestudioref42_Clear.l0])
    | succ k1 =>
     have H := HA.out
     clear HA
     simp only [dancestudioref42_Clear.l0] at H
     have HC14 := Aside0.mk H
     clear H
     go_upto_region 9 with (fail)
     go_cut [37] (fun v37 wc => ∃ (kq : Nat) (x37_13 : Bool), v37 = .bool x37_13 ∧ Aside0 (dancestudioref42_Clear.j1 kq x10_1 x11_1 x37_13 a0_0 a0_1 l0_2 a1_0 a1_1 a1_2 a1_3 a1_4 = some (r1, r2, r3)) ∧ Aside0 (kq ≤ k1) ∧ Aside0 (wc.heap[gb340]? = some (.cells #[.int .i64 a0_0, .int .i64 a0_1, (.slice A0_2 l0_2.length c0_2)] 24 (0, 0))) ∧ Aside0 (wc.heap[gb341]? = some (.cells #[.int .i64 a1_0, .int .i64 a1_1, .int .i64 a1_2, .int .i64 a1_3, .int .i64 a1_4] 35 (0, 0))) ∧ Aside0 (Below w.heap.size w wc))
     case first =>
      have H := HC14.out
      clear HC14
      by_cases c15 : x11_1 < (l0_2.length : Int)
      ·
       rw [if_pos c15] at H
       have c15b0 : decide (x11_1 < (l0_2.length : Int)) = true := decide_eq_true c15
       clear c15
       (first | rw [c15b0] | (simp only [i64_w, i32_w]; rw [c15b0]) | skip)
       have H' := Aside0.mk H
       clear H
       have hnb16 := NB340_341.out
       have hnc16 := NB341_340.out
       have hcz17_0 : wr.cell? ⟨gb340, 0, none⟩ = some (.int .i64 a0_0) := (blk_cell BK340.out 0).trans rfl
       have hcz17_1 : wr.cell? ⟨gb340, 1, none⟩ = some (.int .i64 a0_1) := (blk_cell BK340.out 1).trans rfl
       have hcz17_2 : wr.cell? ⟨gb340, 2, none⟩ = some (.slice A0_2 l0_2.length c0_2) := (blk_cell BK340.out 2).trans rfl
       have hfz17_0 := blk_frozen BK340.out 0
       have hfz17_1 := blk_frozen BK340.out 1
       have hfz17_2 := blk_frozen BK340.out 2
       go_wp2
       go_meet
       case rel => exact ⟨_, (decide (x10_1 < 0)), (by first | rfl | (simp; done) | (simp [*]; done)), H', ⟨by have := HK1.out; first | omega | exact Nat.le_refl _⟩, ⟨by (with_reducible repeat (first | refine blk_drewN ?_ _ | refine blk_drew ?_ | refine blk_alloc ?_ _)); exact BK340.out⟩, ⟨by (with_reducible repeat (first | refine blk_drewN ?_ _ | refine blk_drew ?_ | refine blk_alloc ?_ _)); exact BK341.out⟩, ⟨by repeat with_reducible first | exact HB.out | apply bA | apply bN | apply bD | refine bS ?_ GE340.out | refine bS ?_ GE341.out⟩⟩
      ·
       rw [if_neg c15] at H
       have c15b0 : decide (x11_1 < (l0_2.length : Int)) = false := decide_eq_false c15
       clear c15
       (first | rw [c15b0] | (simp only [i64_w, i32_w]; rw [c15b0]) | skip)
       have H' := Aside0.mk H
       clear H
       have hnb18 := NB340_341.out
       have hnc18 := NB341_340.out
       have hcz19_0 : wr.cell? ⟨gb340, 0, none⟩ = some (.int .i64 a0_0) := (blk_cell BK340.out 0).trans rfl
       have hcz19_1 : wr.cell? ⟨gb340, 1, none⟩ = some (.int .i64 a0_1) := (blk_cell BK340.out 1).trans rfl
       have hcz19_2 : wr.cell? ⟨gb340, 2, none⟩ = some (.slice A0_2 l0_2.length c0_2) := (blk_cell BK340.out 2).trans rfl
       have hfz19_0 := blk_frozen BK340.out 0
       have hfz19_1 := blk_frozen BK340.out 1
       have hfz19_2 := blk_frozen BK340.out 2
       go_wp2
       go_meet
       case rel => exact ⟨_, (false), (by first | rfl | (simp; done) | (simp [*]; done)), H', ⟨by have := HK1.out; first | omega | exact Nat.le_refl _⟩, ⟨by (with_reducible repeat (first | refine blk_drewN ?_ _ | refine blk_drew ?_ | refine blk_alloc ?_ _)); exact BK340.out⟩, ⟨by (with_reducible repeat (first | refine blk_drewN ?_ _ | refine blk_drew ?_ | refine blk_alloc ?_ _)); exact BK341.out⟩, ⟨by repeat with_reducible first | exact HB.out | apply bA | apply bN | apply bD | refine bS ?_ GE340.out | refine bS ?_ GE341.out⟩⟩
     case rest =>
      clear HC14
      try clear c1
      try clear p2
      try clear c3
      try clear c4
      try clear c4b0
      try clear c4b1
      try clear c6
      try clear c6b0
      try clear c6b1
      try clear c9
      try clear c15
      try clear c15b0
      try clear c16
      try clear c17
      try clear c18
      try clear hcz10_0
      try clear hcz10_1
      try clear hcz10_2
      try clear hcz12_0
      try clear hcz12_1
      try clear hcz12_2
      try clear hcz12_3
      try clear hcz12_4
      try clear hcz17_0
      try clear hcz17_1
      try clear hcz17_2
      try clear hcz19_0
      try clear hcz19_1
      try clear hcz19_2
      try clear hfz10_0
      try clear hfz10_1
      try clear hfz10_2
      try clear hfz12_0
      try clear hfz12_1
      try clear hfz12_2
      try clear hfz12_3
      try clear hfz12_4
      try clear hfz17_0
      try clear hfz17_1
      try clear hfz17_2
      try clear hfz19_0
      try clear hfz19_1
      try clear hfz19_2
      try clear p2
      obtain ⟨kq, x37_13, rfl, HA, HJ13, BK340, BK341, HB⟩ := hcut
      cases kq with
      | zero => exact absurd HA.out (by simp [dancestudioref42_Clear.j1])
      | succ kj13 =>
       have H := HA.out
       clear HA
       simp only [dancestudioref42_Clear.j1] at H
       by_cases c20 : x37_13 = true
       ·
        subst c20
        have H1 : (if 0 ≤ x11_1 then (if x11_1 < (l0_2.length : Int) then ((dancestudioref03_Touch.f kj13 a1_0 a1_1 a1_2 a1_3 a1_4 ((rd_T41 l0_2 x11_1).f0.f0) ((rd_T41 l0_2 x11_1).f0.f1) ((rd_T41 l0_2 x11_1).f0.f0) ((rd_T41 l0_2 x11_1).f0.f1) ((rd_T41 l0_2 x11_1).f1)).bind fun bt347 => (if bt347.1 = true then (dancestudioref42_Clear.l0 kj13 x11_1 (wrap64 (x11_1 + 1)) a0_0 a0_1 l0_2 a1_0 a1_1 a1_2 a1_3 a1_4) else (dancestudioref42_Clear.l0 kj13 x10_1 (wrap64 (x11_1 + 1)) a0_0 a0_1 l0_2 a1_0 a1_1 a1_2 a1_3 a1_4))) else (none)) else (none)) = some (r1, r2, r3) := by rw [if_pos rfl] at H; exact H
        clear H
        have H := H1
        clear H1
        by_cases c21 : 0 ≤ x11_1
        ·
         rw [if_pos c21] at H
         have c21b0 : decide (0 ≤ x11_1) = true := decide_eq_true c21
         clear c21
         by_cases c22 : x11_1 < (l0_2.length : Int)
         ·
          rw [if_pos c22] at H
          have c22b0 : decide (x11_1 < (l0_2.length : Int)) = true := decide_eq_true c22
          clear c22
          replace H := Option.bind_eq_some_iff.mp H
          obtain ⟨⟨t347, t348⟩, A230, H⟩ := H
          replace H : (if t347 = true then (dancestudioref42_Clear.l0 kj13 x11_1 (wrap64 (x11_1 + 1)) a0_0 a0_1 l0_2 a1_0 a1_1 a1_2 a1_3 a1_4) else (dancestudioref42_Clear.l0 kj13 x10_1 (wrap64 (x11_1 + 1)) a0_0 a0_1 l0_2 a1_0 a1_1 a1_2 a1_3 a1_4)) = some (r1, r2, r3) := H
          have A23 := Aside0.mk A230
          clear A230
          by_cases c24 : t347 = true
          ·
           subst c24
           have H1 : (dancestudioref42_Clear.l0 kj13 x11_1 (wrap64 (x11_1 + 1)) a0_0 a0_1 l0_2 a1_0 a1_1 a1_2 a1_3 a1_4) = some (r1, r2, r3) := by rw [if_pos rfl] at H; exact H
           clear H
           have H := H1
           clear H1
           have H' := Aside0.mk H
           clear H
           have hnb25 := NB340_341.out
           have hnc25 := NB341_340.out
           have hcz26_0 : wc.cell? ⟨gb340, 0, none⟩ = some (.int .i64 a0_0) := (blk_cell BK340.out 0).trans rfl
           have hcz26_1 : wc.cell? ⟨gb340, 1, none⟩ = some (.int .i64 a0_1) := (blk_cell BK340.out 1).trans rfl
           have hcz26_2 : wc.cell? ⟨gb340, 2, none⟩ = some (.slice A0_2 l0_2.length c0_2) := (blk_cell BK340.out 2).trans rfl
           have hfz26_0 := blk_frozen BK340.out 0
           have hfz26_1 := blk_frozen BK340.out 1
           have hfz26_2 := blk_frozen BK340.out 2
           have p345 : 0 ≤ (x11_1 : Int) := of_decide_eq_true (by first | (with_reducible assumption) | assumption)
           have q345 : x11_1 < (l0_2.length : Int) := of_decide_eq_true (by first | (with_reducible assumption) | assumption)
           obtain ⟨ad345, e345, hx345_0, hx345_1, hx345_2⟩ := at_T41 HR0_2.out x11_1 p345 q345
           cases e345
           replace hx345_0 := (HB.out.cell (World.block_lt_of_cell? w _ hx345_0)).trans hx345_0
           replace hx345_1 := (HB.out.cell (World.block_lt_of_cell? w _ hx345_1)).trans hx345_1
           replace hx345_2 := (HB.out.cell (World.block_lt_of_cell? w _ hx345_2)).trans hx345_2
           replace p345 := eq_true p345
           replace q345 := eq_true q345
           go_wp2_with (first | ((with_reducible refine gate_dst (N := 12) rfl ?_); refine box_event ?hg (N := 12) ?hd (cs := #[.int .i64 0, .int .i64 0, .int .i64 0]) (t := 41) ?hr ?_; (case hd => rfl); (case hg => rfl); (case hr => first | (go_simp; done) | (go_simp; rfl)); intro gb346 hg w27 hbox hb; have BK346 := Aside0.mk (hbox); have GW346 := Aside0.mk ((by rw [hg]; exact (below_size (by repeat with_reducible first | exact HB.out | apply bA | apply bN | apply bD | refine bS ?_ GE340.out | refine bS ?_ GE341.out)) : w.heap.size ≤ gb346)); have GE346 := GW346; replace HB := Aside0.mk (below_step (by repeat with_reducible first | exact HB.out | apply bA | apply bN | apply bD | refine bS ?_ GE340.out | refine bS ?_ GE341.out) hb); have NB340_346 := Aside0.mk ((by rw [hg]; exact Nat.ne_of_lt (blk_lt (by with_reducible repeat first | exact BK340.out | apply kN | apply kD | apply kA)) : gb340 ≠ gb346)); have NB346_340 := Aside0.mk ((by rw [hg]; exact Nat.ne_of_gt (blk_lt (by with_reducible repeat first | exact BK340.out | apply kN | apply kD | apply kA)) : gb346 ≠ gb340)); replace BK340 := Aside0.mk (blk_below (o := .cells #[.int .i64 a0_0, .int .i64 a0_1, .slice (some ad345) l0_2.length c0_2] 24 (0, 0)) (by with_reducible repeat first | exact BK340.out | apply kN | apply kD | apply kA) hb); have NB341_346 := Aside0.mk ((by rw [hg]; exact Nat.ne_of_lt (blk_lt (by with_reducible repeat first | exact BK341.out | apply kN | apply kD | apply kA)) : gb341 ≠ gb346)); have NB346_341 := Aside0.mk ((by rw [hg]; exact Nat.ne_of_gt (blk_lt (by with_reducible repeat first | exact BK341.out | apply kN | apply kD | apply kA)) : gb346 ≠ gb341)); replace BK341 := Aside0.mk (blk_below (o := .cells #[.int .i64 a1_0, .int .i64 a1_1, .int .i64 a1_2, .int .i64 a1_3, .int .i64 a1_4] 35 (0, 0)) (by with_reducible repeat first | exact BK341.out | apply kN | apply kD | apply kA) hb); clear hb hbox hg; have hnb28 := NB346_340.out; have hnc28 := NB340_346.out; have hnb29 := NB346_341.out; have hnc29 := NB341_346.out; obtain ⟨hcz30_0, hcz30_1, hcz30_2, hfz30_0, hfz30_1, hfz30_2⟩ := kc3 BK346.out; obtain ⟨hcz31_0, hcz31_1, hcz31_2, hcz31_3, hcz31_4, hfz31_0, hfz31_1, hfz31_2, hfz31_3, hfz31_4⟩ := kc5 BK341.out) | ((with_reducible refine gate_callee (f := 30) rfl ?_); refine goesL_ (some 54) rfl rfl Try.func30 (by kernel_rfl) rfl #[.agg #[.int .i64 a1_0, .int .i64 a1_1, .int .i64 a1_2, .int .i64 a1_3, .int .i64 a1_4], .agg #[.int .i64 ((rd_T41 l0_2 x11_1).f0.f0), .int .i64 ((rd_T41 l0_2 x11_1).f0.f1), .int .i64 ((rd_T41 l0_2 x11_1).f0.f0), .int .i64 ((rd_T41 l0_2 x11_1).f0.f1), .int .i64 ((rd_T41 l0_2 x11_1).f1)]] rfl (by (try simp only [List.map_toArray, List.map_cons, List.map_nil]); first | done | rfl | (simp only [List.length_drop, List.length_take]; rfl)) ?_; (with_reducible refine (dancestudioref03_Touch.calls kj13 a1_0 a1_1 a1_2 a1_3 a1_4 ((rd_T41 l0_2 x11_1).f0.f0) ((rd_T41 l0_2 x11_1).f0.f1) ((rd_T41 l0_2 x11_1).f0.f0) ((rd_T41 l0_2 x11_1).f0.f1) ((rd_T41 l0_2 x11_1).f1) true t348 _ A23.out).mono ?_); rintro e w32 ⟨rfl, hb⟩; refine ⟨_, rfl, ?_⟩; replace BK340 := Aside0.mk (blk_below (o := .cells #[.int .i64 a0_0, .int .i64 a0_1, .slice (some ad345) l0_2.length c0_2] 24 (0, 0)) (by (with_reducible repeat (first | refine blk_drewN ?_ _ | refine blk_drew ?_ | refine blk_alloc ?_ _)); refine blk_far ?_ NB340_346.out _; (with_reducible repeat (first | refine blk_drewN ?_ _ | refine blk_drew ?_ | refine blk_alloc ?_ _)); refine blk_far ?_ NB340_346.out _; (with_reducible repeat (first | refine blk_drewN ?_ _ | refine blk_drew ?_ | refine blk_alloc ?_ _)); refine blk_far ?_ NB340_346.out _; (with_reducible repeat (first | refine blk_drewN ?_ _ | refine blk_drew ?_ | refine blk_alloc ?_ _)); exact BK340.out) hb); replace BK341 := Aside0.mk (blk_below (o := .cells #[.int .i64 a1_0, .int .i64 a1_1, .int .i64 a1_2, .int .i64 a1_3, .int .i64 a1_4] 35 (0, 0)) (by (with_reducible repeat (first | refine blk_drewN ?_ _ | refine blk_drew ?_ | refine blk_alloc ?_ _)); refine blk_far ?_ NB341_346.out _; (with_reducible repeat (first | refine blk_drewN ?_ _ | refine blk_drew ?_ | refine blk_alloc ?_ _)); refine blk_far ?_ NB341_346.out _; (with_reducible repeat (first | refine blk_drewN ?_ _ | refine blk_drew ?_ | refine blk_alloc ?_ _)); refine blk_far ?_ NB341_346.out _; (with_reducible repeat (first | refine blk_drewN ?_ _ | refine blk_drew ?_ | refine blk_alloc ?_ _)); exact BK341.out) hb); replace BK346 := Aside0.mk (blk_below (o := .cells #[.int .i64 ((rd_T41 l0_2 x11_1).f0.f0), .int .i64 ((rd_T41 l0_2 x11_1).f0.f1), .int .i64 ((rd_T41 l0_2 x11_1).f1)] 41 (0, 0)) (by (with_reducible repeat (first | refine blk_drewN ?_ _ | refine blk_drew ?_ | refine blk_alloc ?_ _)); refine blk_put (cs := #[.int .i64 ((rd_T41 l0_2 x11_1).f0.f0), .int .i64 ((rd_T41 l0_2 x11_1).f0.f1), .int .i64 0]) ?_ 2 _ rfl; (with_reducible repeat (first | refine blk_drewN ?_ _ | refine blk_drew ?_ | refine blk_alloc ?_ _)); refine blk_put (cs := #[.int .i64 ((rd_T41 l0_2 x11_1).f0.f0), .int .i64 0, .int .i64 0]) ?_ 1 _ rfl; (with_reducible repeat (first | refine blk_drewN ?_ _ | refine blk_drew ?_ | refine blk_alloc ?_ _)); refine blk_put (cs := #[.int .i64 0, .int .i64 0, .int .i64 0]) ?_ 0 _ rfl; (with_reducible repeat (first | refine blk_drewN ?_ _ | refine blk_drew ?_ | refine blk_alloc ?_ _)); exact BK346.out) hb); replace HB := Aside0.mk (below_step (by repeat with_reducible first | exact HB.out | apply bA | apply bN | apply bD | refine bS ?_ GE340.out | refine bS ?_ GE341.out | refine bS ?_ GE346.out) hb); (try clear hb); (try clear hb2); (try clear hk); (try clear hi)))
           go_roundg kj13
           case measure => have := HK1.out; have := HJ13.out; omega
           case rel => exact ⟨(x11_1), (wrap64 (x11_1 + 1)), (by first | rfl | (simp; done) | (simp [*]; done)), (by first | rfl | (simp; done) | (simp [*]; done)), H', ⟨by have := HK1.out; have := HJ13.out; omega⟩, ⟨by (with_reducible repeat (first | refine blk_drewN ?_ _ | refine blk_drew ?_ | refine blk_alloc ?_ _)); exact BK340.out⟩, ⟨by (with_reducible repeat (first | refine blk_drewN ?_ _ | refine blk_drew ?_ | refine blk_alloc ?_ _)); exact BK341.out⟩, ⟨by repeat with_reducible first | exact HB.out | apply bA | apply bN | apply bD | refine bS ?_ GE340.out | refine bS ?_ GE341.out | refine bS ?_ GE346.out⟩⟩
          ·
           replace c24 := Bool.eq_false_iff.mpr c24
           subst c24
           have H1 : (dancestudioref42_Clear.l0 kj13 x10_1 (wrap64 (x11_1 + 1)) a0_0 a0_1 l0_2 a1_0 a1_1 a1_2 a1_3 a1_4) = some (r1, r2, r3) := by rw [if_neg (show ¬ (false = true) by decide)] at H; exact H
           clear H
           have H := H1
           clear H1
           have H' := Aside0.mk H
           clear H
           have hnb33 := NB340_341.out
           have hnc33 := NB341_340.out
           have hcz34_0 : wc.cell? ⟨gb340, 0, none⟩ = some (.int .i64 a0_0) := (blk_cell BK340.out 0).trans rfl
           have hcz34_1 : wc.cell? ⟨gb340, 1, none⟩ = some (.int .i64 a0_1) := (blk_cell BK340.out 1).trans rfl
           have hcz34_2 : wc.cell? ⟨gb340, 2, none⟩ = some (.slice A0_2 l0_2.length c0_2) := (blk_cell BK340.out 2).trans rfl
           have hfz34_0 := blk_frozen BK340.out 0
           have hfz34_1 := blk_frozen BK340.out 1
           have hfz34_2 := blk_frozen BK340.out 2
           have p345 : 0 ≤ (x11_1 : Int) := of_decide_eq_true (by first | (with_reducible assumption) | assumption)
           have q345 : x11_1 < (l0_2.length : Int) := of_decide_eq_true (by first | (with_reducible assumption) | assumption)
           obtain ⟨ad345, e345, hx345_0, hx345_1, hx345_2⟩ := at_T41 HR0_2.out x11_1 p345 q345
           cases e345
           replace hx345_0 := (HB.out.cell (World.block_lt_of_cell? w _ hx345_0)).trans hx345_0
           replace hx345_1 := (HB.out.cell (World.block_lt_of_cell? w _ hx345_1)).trans hx345_1
           replace hx345_2 := (HB.out.cell (World.block_lt_of_cell? w _ hx345_2)).trans hx345_2
           replace p345 := eq_true p345
           replace q345 := eq_true q345
           go_wp2_with (first | ((with_reducible refine gate_dst (N := 12) rfl ?_); refine box_event ?hg (N := 12) ?hd (cs := #[.int .i64 0, .int .i64 0, .int .i64 0]) (t := 41) ?hr ?_; (case hd => rfl); (case hg => rfl); (case hr => first | (go_simp; done) | (go_simp; rfl)); intro gb346 hg w35 hbox hb; have BK346 := Aside0.mk (hbox); have GW346 := Aside0.mk ((by rw [hg]; exact (below_size (by repeat with_reducible first | exact HB.out | apply bA | apply bN | apply bD | refine bS ?_ GE340.out | refine bS ?_ GE341.out)) : w.heap.size ≤ gb346)); have GE346 := GW346; replace HB := Aside0.mk (below_step (by repeat with_reducible first | exact HB.out | apply bA | apply bN | apply bD | refine bS ?_ GE340.out | refine bS ?_ GE341.out) hb); have NB340_346 := Aside0.mk ((by rw [hg]; exact Nat.ne_of_lt (blk_lt (by with_reducible repeat first | exact BK340.out | apply kN | apply kD | apply kA)) : gb340 ≠ gb346)); have NB346_340 := Aside0.mk ((by rw [hg]; exact Nat.ne_of_gt (blk_lt (by with_reducible repeat first | exact BK340.out | apply kN | apply kD | apply kA)) : gb346 ≠ gb340)); replace BK340 := Aside0.mk (blk_below (o := .cells #[.int .i64 a0_0, .int .i64 a0_1, .slice (some ad345) l0_2.length c0_2] 24 (0, 0)) (by with_reducible repeat first | exact BK340.out | apply kN | apply kD | apply kA) hb); have NB341_346 := Aside0.mk ((by rw [hg]; exact Nat.ne_of_lt (blk_lt (by with_reducible repeat first | exact BK341.out | apply kN | apply kD | apply kA)) : gb341 ≠ gb346)); have NB346_341 := Aside0.mk ((by rw [hg]; exact Nat.ne_of_gt (blk_lt (by with_reducible repeat first | exact BK341.out | apply kN | apply kD | apply kA)) : gb346 ≠ gb341)); replace BK341 := Aside0.mk (blk_below (o := .cells #[.int .i64 a1_0, .int .i64 a1_1, .int .i64 a1_2, .int .i64 a1_3, .int .i64 a1_4] 35 (0, 0)) (by with_reducible repeat first | exact BK341.out | apply kN | apply kD | apply kA) hb); clear hb hbox hg; have hnb36 := NB346_340.out; have hnc36 := NB340_346.out; have hnb37 := NB346_341.out; have hnc37 := NB341_346.out; obtain ⟨hcz38_0, hcz38_1, hcz38_2, hfz38_0, hfz38_1, hfz38_2⟩ := kc3 BK346.out; obtain ⟨hcz39_0, hcz39_1, hcz39_2, hcz39_3, hcz39_4, hfz39_0, hfz39_1, hfz39_2, hfz39_3, hfz39_4⟩ := kc5 BK341.out) | ((with_reducible refine gate_callee (f := 30) rfl ?_); refine goesL_ (some 54) rfl rfl Try.func30 (by kernel_rfl) rfl #[.agg #[.int .i64 a1_0, .int .i64 a1_1, .int .i64 a1_2, .int .i64 a1_3, .int .i64 a1_4], .agg #[.int .i64 ((rd_T41 l0_2 x11_1).f0.f0), .int .i64 ((rd_T41 l0_2 x11_1).f0.f1), .int .i64 ((rd_T41 l0_2 x11_1).f0.f0), .int .i64 ((rd_T41 l0_2 x11_1).f0.f1), .int .i64 ((rd_T41 l0_2 x11_1).f1)]] rfl (by (try simp only [List.map_toArray, List.map_cons, List.map_nil]); first | done | rfl | (simp only [List.length_drop, List.length_take]; rfl)) ?_; (with_reducible refine (dancestudioref03_Touch.calls kj13 a1_0 a1_1 a1_2 a1_3 a1_4 ((rd_T41 l0_2 x11_1).f0.f0) ((rd_T41 l0_2 x11_1).f0.f1) ((rd_T41 l0_2 x11_1).f0.f0) ((rd_T41 l0_2 x11_1).f0.f1) ((rd_T41 l0_2 x11_1).f1) false t348 _ A23.out).mono ?_); rintro e w40 ⟨rfl, hb⟩; refine ⟨_, rfl, ?_⟩; replace BK340 := Aside0.mk (blk_below (o := .cells #[.int .i64 a0_0, .int .i64 a0_1, .slice (some ad345) l0_2.length c0_2] 24 (0, 0)) (by (with_reducible repeat (first | refine blk_drewN ?_ _ | refine blk_drew ?_ | refine blk_alloc ?_ _)); refine blk_far ?_ NB340_346.out _; (with_reducible repeat (first | refine blk_drewN ?_ _ | refine blk_drew ?_ | refine blk_alloc ?_ _)); refine blk_far ?_ NB340_346.out _; (with_reducible repeat (first | refine blk_drewN ?_ _ | refine blk_drew ?_ | refine blk_alloc ?_ _)); refine blk_far ?_ NB340_346.out _; (with_reducible repeat (first | refine blk_drewN ?_ _ | refine blk_drew ?_ | refine blk_alloc ?_ _)); exact BK340.out) hb); replace BK341 := Aside0.mk (blk_below (o := .cells #[.int .i64 a1_0, .int .i64 a1_1, .int .i64 a1_2, .int .i64 a1_3, .int .i64 a1_4] 35 (0, 0)) (by (with_reducible repeat (first | refine blk_drewN ?_ _ | refine blk_drew ?_ | refine blk_alloc ?_ _)); refine blk_far ?_ NB341_346.out _; (with_reducible repeat (first | refine blk_drewN ?_ _ | refine blk_drew ?_ | refine blk_alloc ?_ _)); refine blk_far ?_ NB341_346.out _; (with_reducible repeat (first | refine blk_drewN ?_ _ | refine blk_drew ?_ | refine blk_alloc ?_ _)); refine blk_far ?_ NB341_346.out _; (with_reducible repeat (first | refine blk_drewN ?_ _ | refine blk_drew ?_ | refine blk_alloc ?_ _)); exact BK341.out) hb); replace BK346 := Aside0.mk (blk_below (o := .cells #[.int .i64 ((rd_T41 l0_2 x11_1).f0.f0), .int .i64 ((rd_T41 l0_2 x11_1).f0.f1), .int .i64 ((rd_T41 l0_2 x11_1).f1)] 41 (0, 0)) (by (with_reducible repeat (first | refine blk_drewN ?_ _ | refine blk_drew ?_ | refine blk_alloc ?_ _)); refine blk_put (cs := #[.int .i64 ((rd_T41 l0_2 x11_1).f0.f0), .int .i64 ((rd_T41 l0_2 x11_1).f0.f1), .int .i64 0]) ?_ 2 _ rfl; (with_reducible repeat (first | refine blk_drewN ?_ _ | refine blk_drew ?_ | refine blk_alloc ?_ _)); refine blk_put (cs := #[.int .i64 ((rd_T41 l0_2 x11_1).f0.f0), .int .i64 0, .int .i64 0]) ?_ 1 _ rfl; (with_reducible repeat (first | refine blk_drewN ?_ _ | refine blk_drew ?_ | refine blk_alloc ?_ _)); refine blk_put (cs := #[.int .i64 0, .int .i64 0, .int .i64 0]) ?_ 0 _ rfl; (with_reducible repeat (first | refine blk_drewN ?_ _ | refine blk_drew ?_ | refine blk_alloc ?_ _)); exact BK346.out) hb); replace HB := Aside0.mk (below_step (by repeat with_reducible first | exact HB.out | apply bA | apply bN | apply bD | refine bS ?_ GE340.out | refine bS ?_ GE341.out | refine bS ?_ GE346.out) hb); (try clear hb); (try clear hb2); (try clear hk); (try clear hi)))
           go_roundg kj13
           case measure => have := HK1.out; have := HJ13.out; omega
           case rel => exact ⟨(x10_1), (wrap64 (x11_1 + 1)), (by first | rfl | (simp; done) | (simp [*]; done)), (by first | rfl | (simp; done) | (simp [*]; done)), H', ⟨by have := HK1.out; have := HJ13.out; omega⟩, ⟨by (with_reducible repeat (first | refine blk_drewN ?_ _ | refine blk_drew ?_ | refine blk_alloc ?_ _)); exact BK340.out⟩, ⟨by (with_reducible repeat (first | refine blk_drewN ?_ _ | refine blk_drew ?_ | refine blk_alloc ?_ _)); exact BK341.out⟩, ⟨by repeat with_reducible first | exact HB.out | apply bA | apply bN | apply bD | refine bS ?_ GE340.out | refine bS ?_ GE341.out | refine bS ?_ GE346.out⟩⟩
         ·
          rw [if_neg c22] at H
          exact absurd H (by simp)
        ·
         rw [if_neg c21] at H
         exact absurd H (by simp)
       ·
        replace c20 := Bool.eq_false_iff.mpr c20
        subst c20
        have H1 : ((dancestudioref42_inside.f a0_0 a0_1 l0_2 a1_0 a1_1 a1_4).bind fun t349 => (if t349 = true then ((dancestudioref42_inside.f a0_0 a0_1 l0_2 a1_2 a1_3 a1_4).bind fun t350 => (some (t350, x10_1, 0))) else (some (false, x10_1, 0)))) = some (r1, r2, r3) := by rw [if_neg (show ¬ (false = true) by decide)] at H; exact H
        clear H
        have H := H1
        clear H1
        replace H := Option.bind_eq_some_iff.mp H
        obtain ⟨t349, A410, H⟩ := H
        replace H : (if t349 = true then ((dancestudioref42_inside.f a0_0 a0_1 l0_2 a1_2 a1_3 a1_4).bind fun t350 => (some (t350, x10_1, 0))) else (some (false, x10_1, 0))) = some (r1, r2, r3) := H
        have A41 := Aside0.mk A410
        clear A410
        by_cases c42 : t349 = true
        ·
         subst c42
         have H1 : ((dancestudioref42_inside.f a0_0 a0_1 l0_2 a1_2 a1_3 a1_4).bind fun t350 => (some (t350, x10_1, 0))) = some (r1, r2, r3) := by rw [if_pos rfl] at H; exact H
         clear H
         have H := H1
         clear H1
         replace H := Option.bind_eq_some_iff.mp H
         obtain ⟨t350, A430, H⟩ := H
         replace H : (some (t350, x10_1, 0)) = some (r1, r2, r3) := H
         have A43 := Aside0.mk A430
         clear A430
         simp only [Option.some.injEq, Prod.mk.injEq] at H
         obtain ⟨rfl, rfl, rfl⟩ := H
         have hnb44 := NB340_341.out
         have hnc44 := NB341_340.out
         have hcz45_0 : wc.cell? ⟨gb340, 0, none⟩ = some (.int .i64 a0_0) := (blk_cell BK340.out 0).trans rfl
         have hcz45_1 : wc.cell? ⟨gb340, 1, none⟩ = some (.int .i64 a0_1) := (blk_cell BK340.out 1).trans rfl
         have hcz45_2 : wc.cell? ⟨gb340, 2, none⟩ = some (.slice A0_2 l0_2.length c0_2) := (blk_cell BK340.out 2).trans rfl
         have hfz45_0 := blk_frozen BK340.out 0
         have hfz45_1 := blk_frozen BK340.out 1
         have hfz45_2 := blk_frozen BK340.out 2
         have hcz46_0 : wc.cell? ⟨gb341, 0, none⟩ = some (.int .i64 a1_0) := (blk_cell BK341.out 0).trans rfl
         have hcz46_1 : wc.cell? ⟨gb341, 1, none⟩ = some (.int .i64 a1_1) := (blk_cell BK341.out 1).trans rfl
         have hcz46_2 : wc.cell? ⟨gb341, 2, none⟩ = some (.int .i64 a1_2) := (blk_cell BK341.out 2).trans rfl
         have hcz46_3 : wc.cell? ⟨gb341, 3, none⟩ = some (.int .i64 a1_3) := (blk_cell BK341.out 3).trans rfl
         have hcz46_4 : wc.cell? ⟨gb341, 4, none⟩ = some (.int .i64 a1_4) := (blk_cell BK341.out 4).trans rfl
         have hfz46_0 := blk_frozen BK341.out 0
         have hfz46_1 := blk_frozen BK341.out 1
         have hfz46_2 := blk_frozen BK341.out 2
         have hfz46_3 := blk_frozen BK341.out 3
         have hfz46_4 := blk_frozen BK341.out 4
         go_wp2_with (first | ((with_reducible refine gate_callee (f := 27) rfl ?_); refine goesL_ (some 64) rfl rfl Try.func27 (by kernel_rfl) rfl #[.agg #[.int .i64 a0_0, .int .i64 a0_1, .slice A0_2 l0_2.length c0_2], .agg #[.int .i64 a1_0, .int .i64 a1_1], .int .i64 a1_4] rfl (by (try simp only [List.map_toArray, List.map_cons, List.map_nil]); first | done | rfl | (simp only [List.length_drop, List.length_take]; rfl)) ?_; (with_reducible refine (dancestudioref42_inside.calls a0_0 a0_1 _ _ l0_2 a1_0 a1_1 a1_4 true _ ?side1 ?side2 A41.out).mono ?_); (case side1 => repeat (first | exact (Kd.C_below HR0_2.out HB.out) | (with_reducible first | apply cA | apply cN | apply cD))); (case side2 => exact HC0_2.out); rintro e w47 ⟨rfl, hb⟩; refine ⟨_, rfl, ?_⟩; replace BK340 := Aside0.mk (blk_below (o := .cells #[.int .i64 a0_0, .int .i64 a0_1, .slice A0_2 l0_2.length c0_2] 24 (0, 0)) (by with_reducible repeat first | exact BK340.out | apply kN | apply kD | apply kA) hb); replace BK341 := Aside0.mk (blk_below (o := .cells #[.int .i64 a1_0, .int .i64 a1_1, .int .i64 a1_2, .int .i64 a1_3, .int .i64 a1_4] 35 (0, 0)) (by with_reducible repeat first | exact BK341.out | apply kN | apply kD | apply kA) hb); replace HB := Aside0.mk (below_step (by repeat with_reducible first | exact HB.out | apply bA | apply bN | apply bD | refine bS ?_ GE340.out | refine bS ?_ GE341.out) hb); (try clear hb); (try clear hb2); (try clear hk); (try clear hi); obtain ⟨hcz48_0, hcz48_1, hcz48_2, hfz48_0, hfz48_1, hfz48_2⟩ := kc3 BK340.out; obtain ⟨hcz49_0, hcz49_1, hcz49_2, hcz49_3, hcz49_4, hfz49_0, hfz49_1, hfz49_2, hfz49_3, hfz49_4⟩ := kc5 BK341.out) | (go_at_call 27; (with_reducible refine (dancestudioref42_inside.calls a0_0 a0_1 _ _ l0_2 a1_2 a1_3 a1_4 t350 _ ?side1 ?side2 A43.out).mono ?_); (case side1 => repeat (first | exact (Kd.C_below HR0_2.out HB.out) | (with_reducible first | apply cA | apply cN | apply cD))); (case side2 => exact HC0_2.out); rintro e w50 ⟨rfl, hb⟩; replace BK340 := Aside0.mk (blk_below (o := .cells #[.int .i64 a0_0, .int .i64 a0_1, .slice A0_2 l0_2.length c0_2] 24 (0, 0)) (by with_reducible repeat first | exact BK340.out | apply kN | apply kD | apply kA) hb); replace BK341 := Aside0.mk (blk_below (o := .cells #[.int .i64 a1_0, .int .i64 a1_1, .int .i64 a1_2, .int .i64 a1_3, .int .i64 a1_4] 35 (0, 0)) (by with_reducible repeat first | exact BK341.out | apply kN | apply kD | apply kA) hb); replace HB := Aside0.mk (below_step (by repeat with_reducible first | exact HB.out | apply bA | apply bN | apply bD | refine bS ?_ GE340.out | refine bS ?_ GE341.out) hb); (try clear hb); (try clear hb2); (try clear hk); (try clear hi)))
         go_ret3
         exact ⟨by first | rfl | (simp [errW_none, errW_some] <;> rfl) | (simp [*, errW_none, errW_some] <;> rfl), by repeat with_reducible first | exact HB.out | apply bA | apply bN | apply bD | refine bS ?_ GE340.out | refine bS ?_ GE341.out⟩
        ·
         replace c42 := Bool.eq_false_iff.mpr c42
         subst c42
         have H1 : (some (false, x10_1, 0)) = some (r1, r2, r3) := by rw [if_neg (show ¬ (false = true) by decide)] at H; exact H
         clear H
         have H := H1
         clear H1
         simp only [Option.some.injEq, Prod.mk.injEq] at H
         obtain ⟨rfl, rfl, rfl⟩ := H
         have hnb51 := NB340_341.out
         have hnc51 := NB341_340.out
         have hcz52_0 : wc.cell? ⟨gb340, 0, none⟩ = some (.int .i64 a0_0) := (blk_cell BK340.out 0).trans rfl
         have hcz52_1 : wc.cell? ⟨gb340, 1, none⟩ = some (.int .i64 a0_1) := (blk_cell BK340.out 1).trans rfl
         have hcz52_2 : wc.cell? ⟨gb340, 2, none⟩ = some (.slice A0_2 l0_2.length c0_2) := (blk_cell BK340.out 2).trans rfl
         have hfz52_0 := blk_frozen BK340.out 0
         have hfz52_1 := blk_frozen BK340.out 1
         have hfz52_2 := blk_frozen BK340.out 2
         have hcz53_0 : wc.cell? ⟨gb341, 0, none⟩ = some (.int .i64 a1_0) := (blk_cell BK341.out 0).trans rfl
         have hcz53_1 : wc.cell? ⟨gb341, 1, none⟩ = some (.int .i64 a1_1) := (blk_cell BK341.out 1).trans rfl
         have hcz53_2 : wc.cell? ⟨gb341, 2, none⟩ = some (.int .i64 a1_2) := (blk_cell BK341.out 2).trans rfl
         have hcz53_3 : wc.cell? ⟨gb341, 3, none⟩ = some (.int .i64 a1_3) := (blk_cell BK341.out 3).trans rfl
         have hcz53_4 : wc.cell? ⟨gb341, 4, none⟩ = some (.int .i64 a1_4) := (blk_cell BK341.out 4).trans rfl
         have hfz53_0 := blk_frozen BK341.out 0
         have hfz53_1 := blk_frozen BK341.out 1
         have hfz53_2 := blk_frozen BK341.out 2
         have hfz53_3 := blk_frozen BK341.out 3
         have hfz53_4 := blk_frozen BK341.out 4
         go_wp2_with (first | ((with_reducible refine gate_callee (f := 27) rfl ?_); refine goesL_ (some 64) rfl rfl Try.func27 (by kernel_rfl) rfl #[.agg #[.int .i64 a0_0, .int .i64 a0_1, .slice A0_2 l0_2.length c0_2], .agg #[.int .i64 a1_0, .int .i64 a1_1], .int .i64 a1_4] rfl (by (try simp only [List.map_toArray, List.map_cons, List.map_nil]); first | done | rfl | (simp only [List.length_drop, List.length_take]; rfl)) ?_; (with_reducible refine (dancestudioref42_inside.calls a0_0 a0_1 _ _ l0_2 a1_0 a1_1 a1_4 false _ ?side1 ?side2 A41.out).mono ?_); (case side1 => repeat (first | exact (Kd.C_below HR0_2.out HB.out) | (with_reducible first | apply cA | apply cN | apply cD))); (case side2 => exact HC0_2.out); rintro e w54 ⟨rfl, hb⟩; refine ⟨_, rfl, ?_⟩; replace BK340 := Aside0.mk (blk_below (o := .cells #[.int .i64 a0_0, .int .i64 a0_1, .slice A0_2 l0_2.length c0_2] 24 (0, 0)) (by with_reducible repeat first | exact BK340.out | apply kN | apply kD | apply kA) hb); replace BK341 := Aside0.mk (blk_below (o := .cells #[.int .i64 a1_0, .int .i64 a1_1, .int .i64 a1_2, .int .i64 a1_3, .int .i64 a1_4] 35 (0, 0)) (by with_reducible repeat first | exact BK341.out | apply kN | apply kD | apply kA) hb); replace HB := Aside0.mk (below_step (by repeat with_reducible first | exact HB.out | apply bA | apply bN | apply bD | refine bS ?_ GE340.out | refine bS ?_ GE341.out) hb); (try clear hb); (try clear hb2); (try clear hk); (try clear hi)))
         go_ret3
         exact ⟨by first | rfl | (simp [errW_none, errW_some] <;> rfl) | (simp [*, errW_none, errW_some] <;> rfl), by repeat with_reducible first | exact HB.out | apply bA | apply bN | apply bD | refine bS ?_ GE340.out | refine bS ?_ GE341.out⟩
  ·
   rw [if_neg c6] at H
   have c6b0 : (t344 == 0) = false := beq_eq_false_iff_ne.mpr c6
   have c6b1 : (t344 != 0) = true := bne_iff_ne.mpr c6
   simp only [Option.some.injEq, Prod.mk.injEq] at H
   obtain ⟨rfl, rfl, rfl⟩ := H
   go_enter Try.func17, Try.ntmps17
   go_wp2_with (first | ((with_reducible refine gate_dst (N := 2) rfl ?_); refine box_event ?hg (N := 2) ?hd (cs := #[.int .i64 a0_0, .int .i64 a0_1, .slice A0_2 l0_2.length c0_2]) (t := 24) ?hr ?_; (case hd => rfl); (case hg => rfl); (case hr => first | (go_simp; done) | (go_simp; rfl)); intro gb340 hg w55 hbox hb; have BK340 := Aside0.mk (hbox); have GW340 := Aside0.mk ((by rw [hg]; exact (below_size (by repeat with_reducible first | exact HB.out | apply bA | apply bN | apply bD)) : w.heap.size ≤ gb340)); have GE340 := GW340; replace HB := Aside0.mk (below_step (by repeat with_reducible first | exact HB.out | apply bA | apply bN | apply bD) hb); clear hb hbox hg) | ((with_reducible refine gate_dst (N := 3) rfl ?_); refine box_event ?hg (N := 3) ?hd (cs := #[.int .i64 a1_0, .int .i64 a1_1, .int .i64 a1_2, .int .i64 a1_3, .int .i64 a1_4]) (t := 35) ?hr ?_; (case hd => rfl); (case hg => rfl); (case hr => first | (go_simp; done) | (go_simp; rfl)); intro gb341 hg w56 hbox hb; have BK341 := Aside0.mk (hbox); have GW341 := Aside0.mk ((by rw [hg]; exact (below_size (by repeat with_reducible first | exact HB.out | apply bA | apply bN | apply bD | refine bS ?_ GE340.out)) : w.heap.size ≤ gb341)); have GE341 := GW341; replace HB := Aside0.mk (below_step (by repeat with_reducible first | exact HB.out | apply bA | apply bN | apply bD | refine bS ?_ GE340.out) hb); have NB340_341 := Aside0.mk ((by rw [hg]; exact Nat.ne_of_lt (blk_lt (by with_reducible repeat first | exact BK340.out | apply kN | apply kD | apply kA)) : gb340 ≠ gb341)); have NB341_340 := Aside0.mk ((by rw [hg]; exact Nat.ne_of_gt (blk_lt (by with_reducible repeat first | exact BK340.out | apply kN | apply kD | apply kA)) : gb341 ≠ gb340)); replace BK340 := Aside0.mk (blk_below (o := .cells #[.int .i64 a0_0, .int .i64 a0_1, .slice A0_2 l0_2.length c0_2] 24 (0, 0)) (by with_reducible repeat first | exact BK340.out | apply kN | apply kD | apply kA) hb); clear hb hbox hg; have hnb57 := NB340_341.out; have hnc57 := NB341_340.out; obtain ⟨hcz58_0, hcz58_1, hcz58_2, hfz58_0, hfz58_1, hfz58_2⟩ := kc3 BK340.out) | ((with_reducible refine gate_callee (f := 15) rfl ?_); refine goesL_ (some 16) rfl rfl Try.func15 (by kernel_rfl) rfl #[.agg #[.int .i64 a0_0, .int .i64 a0_1, .slice A0_2 l0_2.length c0_2]] rfl (by (try simp only [List.map_toArray, List.map_cons, List.map_nil]); first | done | rfl | (simp only [List.length_drop, List.length_take]; rfl)) ?_; (with_reducible refine (dancestudioref42_Check.calls k a0_0 a0_1 _ _ l0_2 t342 _ ?side1 ?side2 A3.out).mono ?_); (case side1 => repeat (first | exact (Kd.C_below HR0_2.out HB.out) | (with_reducible first | apply cA | apply cN | apply cD))); (case side2 => exact HC0_2.out); rintro e w59 ⟨rfl, hb⟩; refine ⟨_, rfl, ?_⟩; replace BK340 := Aside0.mk (blk_below (o := .cells #[.int .i64 a0_0, .int .i64 a0_1, .slice A0_2 l0_2.length c0_2] 24 (0, 0)) (by with_reducible repeat first | exact BK340.out | apply kN | apply kD | apply kA) hb); replace BK341 := Aside0.mk (blk_below (o := .cells #[.int .i64 a1_0, .int .i64 a1_1, .int .i64 a1_2, .int .i64 a1_3, .int .i64 a1_4] 35 (0, 0)) (by with_reducible repeat first | exact BK341.out | apply kN | apply kD | apply kA) hb); replace HB := Aside0.mk (below_step (by repeat with_reducible first | exact HB.out | apply bA | apply bN | apply bD | refine bS ?_ GE340.out | refine bS ?_ GE341.out) hb); (try clear hb); (try clear hb2); (try clear hk); (try clear hi); obtain ⟨hcz60_0, hcz60_1, hcz60_2, hcz60_3, hcz60_4, hfz60_0, hfz60_1, hfz60_2, hfz60_3, hfz60_4⟩ := kc5 BK341.out) | ((with_reducible refine gate_callee (f := 30) rfl ?_); refine goesL_ (some 23) rfl rfl Try.func30 (by kernel_rfl) rfl #[.agg #[.int .i64 a1_0, .int .i64 a1_1, .int .i64 a1_2, .int .i64 a1_3, .int .i64 a1_4], .agg #[.int .i64 a1_0, .int .i64 a1_1, .int .i64 a1_2, .int .i64 a1_3, .int .i64 a1_4]] rfl (by (try simp only [List.map_toArray, List.map_cons, List.map_nil]); first | done | rfl | (simp only [List.length_drop, List.length_take]; rfl)) ?_; (with_reducible refine (dancestudioref03_Touch.calls k a1_0 a1_1 a1_2 a1_3 a1_4 a1_0 a1_1 a1_2 a1_3 a1_4 t343 t344 _ A5.out).mono ?_); rintro e w61 ⟨rfl, hb⟩; refine ⟨_, rfl, ?_⟩; replace BK340 := Aside0.mk (blk_below (o := .cells #[.int .i64 a0_0, .int .i64 a0_1, .slice A0_2 l0_2.length c0_2] 24 (0, 0)) (by with_reducible repeat first | exact BK340.out | apply kN | apply kD | apply kA) hb); replace BK341 := Aside0.mk (blk_below (o := .cells #[.int .i64 a1_0, .int .i64 a1_1, .int .i64 a1_2, .int .i64 a1_3, .int .i64 a1_4] 35 (0, 0)) (by with_reducible repeat first | exact BK341.out | apply kN | apply kD | apply kA) hb); replace HB := Aside0.mk (below_step (by repeat with_reducible first | exact HB.out | apply bA | apply bN | apply bD | refine bS ?_ GE340.out | refine bS ?_ GE341.out) hb); (try clear hb); (try clear hb2); (try clear hk); (try clear hi)))
   go_ret3
   exact ⟨by first | rfl | (simp [errW_none, errW_some] <;> rfl) | (simp [*, errW_none, errW_some] <;> rfl), by repeat with_reducible first | exact HB.out | apply bA | apply bN | apply bD | refine bS ?_ GE340.out | refine bS ?_ GE341.out⟩
 ·
  rw [if_neg c4] at H
  have c4b0 : (t342 == 0) = false := beq_eq_false_iff_ne.mpr c4
  have c4b1 : (t342 != 0) = true := bne_iff_ne.mpr c4
  simp only [Option.some.injEq, Prod.mk.injEq] at H
  obtain ⟨rfl, rfl, rfl⟩ := H
  go_enter Try.func17, Try.ntmps17
  go_wp2_with (first | ((with_reducible refine gate_dst (N := 2) rfl ?_); refine box_event ?hg (N := 2) ?hd (cs := #[.int .i64 a0_0, .int .i64 a0_1, .slice A0_2 l0_2.length c0_2]) (t := 24) ?hr ?_; (case hd => rfl); (case hg => rfl); (case hr => first | (go_simp; done) | (go_simp; rfl)); intro gb340 hg w62 hbox hb; have BK340 := Aside0.mk (hbox); have GW340 := Aside0.mk ((by rw [hg]; exact (below_size (by repeat with_reducible first | exact HB.out | apply bA | apply bN | apply bD)) : w.heap.size ≤ gb340)); have GE340 := GW340; replace HB := Aside0.mk (below_step (by repeat with_reducible first | exact HB.out | apply bA | apply bN | apply bD) hb); clear hb hbox hg) | ((with_reducible refine gate_dst (N := 3) rfl ?_); refine box_event ?hg (N := 3) ?hd (cs := #[.int .i64 a1_0, .int .i64 a1_1, .int .i64 a1_2, .int .i64 a1_3, .int .i64 a1_4]) (t := 35) ?hr ?_; (case hd => rfl); (case hg => rfl); (case hr => first | (go_simp; done) | (go_simp; rfl)); intro gb341 hg w63 hbox hb; have BK341 := Aside0.mk (hbox); have GW341 := Aside0.mk ((by rw [hg]; exact (below_size (by repeat with_reducible first | exact HB.out | apply bA | apply bN | apply bD | refine bS ?_ GE340.out)) : w.heap.size ≤ gb341)); have GE341 := GW341; replace HB := Aside0.mk (below_step (by repeat with_reducible first | exact HB.out | apply bA | apply bN | apply bD | refine bS ?_ GE340.out) hb); have NB340_341 := Aside0.mk ((by rw [hg]; exact Nat.ne_of_lt (blk_lt (by with_reducible repeat first | exact BK340.out | apply kN | apply kD | apply kA)) : gb340 ≠ gb341)); have NB341_340 := Aside0.mk ((by rw [hg]; exact Nat.ne_of_gt (blk_lt (by with_reducible repeat first | exact BK340.out | apply kN | apply kD | apply kA)) : gb341 ≠ gb340)); replace BK340 := Aside0.mk (blk_below (o := .cells #[.int .i64 a0_0, .int .i64 a0_1, .slice A0_2 l0_2.length c0_2] 24 (0, 0)) (by with_reducible repeat first | exact BK340.out | apply kN | apply kD | apply kA) hb); clear hb hbox hg; have hnb64 := NB340_341.out; have hnc64 := NB341_340.out; obtain ⟨hcz65_0, hcz65_1, hcz65_2, hfz65_0, hfz65_1, hfz65_2⟩ := kc3 BK340.out) | ((with_reducible refine gate_callee (f := 15) rfl ?_); refine goesL_ (some 16) rfl rfl Try.func15 (by kernel_rfl) rfl #[.agg #[.int .i64 a0_0, .int .i64 a0_1, .slice A0_2 l0_2.length c0_2]] rfl (by (try simp only [List.map_toArray, List.map_cons, List.map_nil]); first | done | rfl | (simp only [List.length_drop, List.length_take]; rfl)) ?_; (with_reducible refine (dancestudioref42_Check.calls k a0_0 a0_1 _ _ l0_2 t342 _ ?side1 ?side2 A3.out).mono ?_); (case side1 => repeat (first | exact (Kd.C_below HR0_2.out HB.out) | (with_reducible first | apply cA | apply cN | apply cD))); (case side2 => exact HC0_2.out); rintro e w66 ⟨rfl, hb⟩; refine ⟨_, rfl, ?_⟩; replace BK340 := Aside0.mk (blk_below (o := .cells #[.int .i64 a0_0, .int .i64 a0_1, .slice A0_2 l0_2.length c0_2] 24 (0, 0)) (by with_reducible repeat first | exact BK340.out | apply kN | apply kD | apply kA) hb); replace BK341 := Aside0.mk (blk_below (o := .cells #[.int .i64 a1_0, .int .i64 a1_1, .int .i64 a1_2, .int .i64 a1_3, .int .i64 a1_4] 35 (0, 0)) (by with_reducible repeat first | exact BK341.out | apply kN | apply kD | apply kA) hb); replace HB := Aside0.mk (below_step (by repeat with_reducible first | exact HB.out | apply bA | apply bN | apply bD | refine bS ?_ GE340.out | refine bS ?_ GE341.out) hb); (try clear hb); (try clear hb2); (try clear hk); (try clear hi)))
  go_ret3
  exact ⟨by first | rfl | (simp [errW_none, errW_some] <;> rfl) | (simp [*, errW_none, errW_some] <;> rfl), by repeat with_reducible first | exact HB.out | apply bA | apply bN | apply bD | refine bS ?_ GE340.out | refine bS ?_ GE341.out⟩

end Go.Proofs.Ytmfcgmdecindnaa.X
