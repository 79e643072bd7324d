import Derived.Test.YteflngoiebgdaaaX0
import Derived.Test.YteflngoiebgdaaaCMeetscX39
namespace Go.Proofs.Yteflngoiebgdaaa.X
open Go.RowKit YteflngoiebgdaaaW.PrintWords YteflngoiebgdaaaW.PrintLast YteflngoiebgdaaaW.PrintMore
attribute [local go_sem] max2_int min2_int max_two min_two max_three min_three max_four min_four
set_option linter.unusedVariables false
set_option linter.unusedSimpArgs false

/-! ### dancestudioref29_Check: function 28 -/
mutual
def dancestudioref29_Check.j0 : Nat → Bool → List (S54) → List Int → Option (Int)
 | 0, _, _, _ => none
 | k + 1, x25, x356000, x356001 => if x25 = true then (some 2) else (dancestudioref29_Check.l0 k 0 x356000 x356001)
def dancestudioref29_Check.l0 : Nat → Int → List (S54) → List Int → Option (Int)
 | 0, _, _, _ => none
 | k + 1, x3, x356000, x356001 => if x3 < (x356000.length : Int) then (if 0 ≤ x3 then ((dancestudioref19_Valid.f k ((rd_T54 x356000 x3).f0.f0) ((rd_T54 x356000 x3).f0.f1) ((rd_T54 x356000 x3).f1) ((rd_T54 x356000 x3).f2) ((rd_T54 x356000 x3).f3.f0.f0) ((rd_T54 x356000 x3).f3.f0.f1) ((rd_T54 x356000 x3).f3.f0.f2) ((rd_T54 x356000 x3).f3.f1.f0) ((rd_T54 x356000 x3).f3.f1.f1) ((rd_T54 x356000 x3).f3.f1.f2) ((rd_T54 x356000 x3).f3.f2.f0) ((rd_T54 x356000 x3).f3.f2.f1) ((rd_T54 x356000 x3).f3.f2.f2) ((rd_T54 x356000 x3).f3.f3.f0) ((rd_T54 x356000 x3).f3.f3.f1) ((rd_T54 x356000 x3).f3.f3.f2) ((rd_T54 x356000 x3).f3.f4.f0) ((rd_T54 x356000 x3).f3.f4.f1) ((rd_T54 x356000 x3).f3.f4.f2) ((rd_T54 x356000 x3).f3.f5.f0) ((rd_T54 x356000 x3).f3.f5.f1) ((rd_T54 x356000 x3).f3.f5.f2)).bind fun t357 => (if t357 = 0 then (dancestudioref29_Check.l0 k (wrap64 (x3 + 1)) x356000 x356001) else (some t357))) else (none)) else (dancestudioref29_Check.l1 k 0 x356000 x356001)
def dancestudioref29_Check.l1 : Nat → Int → List (S54) → List Int → Option (Int)
 | 0, _, _, _ => none
 | k + 1, x5, x356000, x356001 => if x5 < (x356001.length : Int) then (if 0 ≤ x5 then (if (rd x356001 x5) < 0 then (some 1) else (if (rd x356001 x5) > 3 then (some 1) else (dancestudioref29_Check.l1 k (wrap64 (x5 + 1)) x356000 x356001))) else (none)) else (some 0)
end
def dancestudioref29_Check.f (k : Nat) (l0_0 : List (S54)) (l0_1 : List Int) : Option (Int) := if (l0_0.length : Int) = (wrap64 ((l0_1.length : Int) + 1)) then (if (l0_1.length : Int) < 1 then (dancestudioref29_Check.j0 k true l0_0 l0_1) else (dancestudioref29_Check.j0 k (decide ((l0_1.length : Int) > 8192)) l0_0 l0_1)) else (dancestudioref29_Check.j0 k true l0_0 l0_1)
theorem dancestudioref29_Check.mono_l : ∀ k, (∀ y0 y1 y2, LeO (dancestudioref29_Check.j0 k y0 y1 y2) (dancestudioref29_Check.j0 (k + 1) y0 y1 y2)) ∧ (∀ y0 y1 y2, LeO (dancestudioref29_Check.l0 k y0 y1 y2) (dancestudioref29_Check.l0 (k + 1) y0 y1 y2)) ∧ (∀ y0 y1 y2, LeO (dancestudioref29_Check.l1 k y0 y1 y2) (dancestudioref29_Check.l1 (k + 1) y0 y1 y2))
 | 0 => ⟨fun _ _ _ r h => by simp [dancestudioref29_Check.j0] at h, fun _ _ _ r h => by simp [dancestudioref29_Check.l0] at h, fun _ _ _ r h => by simp [dancestudioref29_Check.l1] at h⟩
 | k + 1 => by
  obtain ⟨ih0, ih1, ih2⟩ := dancestudioref29_Check.mono_l k
  refine ⟨?_, ?_, ?_⟩
  ·
   intro y0 y1 y2
   unfold dancestudioref29_Check.j0
   repeat' first
   | (with_reducible exact ih0 _ _ _)
   | (with_reducible exact ih1 _ _ _)
   | (with_reducible exact ih2 _ _ _)
   | (with_reducible exact dancestudioref19_Valid.mono _ _ _ _ _ _ _ _ _ _ _ _ _ _ _ _ _ _ _ _ _ _ _)
   | (with_reducible exact LeO.refl _)
   | (with_reducible exact LeO.none _)
   | (with_reducible refine LeO.ite ?_ ?_)
   | (with_reducible refine LeO.bind ?_ (fun _ => ?_))
   | exact ih0 _ _ _
   | exact ih1 _ _ _
   | exact ih2 _ _ _
   | exact dancestudioref19_Valid.mono _ _ _ _ _ _ _ _ _ _ _ _ _ _ _ _ _ _ _ _ _ _ _
   | exact LeO.none _
   | refine LeO.ite ?_ ?_
   | refine LeO.bind ?_ (fun _ => ?_)
  ·
   intro y0 y1 y2
   unfold dancestudioref29_Check.l0
   repeat' first
   | (with_reducible exact ih0 _ _ _)
   | (with_reducible exact ih1 _ _ _)
   | (with_reducible exact ih2 _ _ _)
   | (with_reducible exact dancestudioref19_Valid.mono _ _ _ _ _ _ _ _ _ _ _ _ _ _ _ _ _ _ _ _ _ _ _)
   | (with_reducible exact LeO.refl _)
   | (with_reducible exact LeO.none _)
   | (with_reducible refine LeO.ite ?_ ?_)
   | (with_reducible refine LeO.bind ?_ (fun _ => ?_))
   | exact ih0 _ _ _
   | exact ih1 _ _ _
   | exact ih2 _ _ _
   | exact dancestudioref19_Valid.mono _ _ _ _ _ _ _ _ _ _ _ _ _ _ _ _ _ _ _ _ _ _ _
   | exact LeO.none _
   | refine LeO.ite ?_ ?_
   | refine LeO.bind ?_ (fun _ => ?_)
  ·
   intro y0 y1 y2
   unfold dancestudioref29_Check.l1
   repeat' first
   | (with_reducible exact ih0 _ _ _)
   | (with_reducible exact ih1 _ _ _)
   | (with_reducible exact ih2 _ _ _)
   | (with_reducible exact dancestudioref19_Valid.mono _ _ _ _ _ _ _ _ _ _ _ _ _ _ _ _ _ _ _ _ _ _ _)
   | (with_reducible exact LeO.refl _)
   | (with_reducible exact LeO.none _)
   | (with_reducible refine LeO.ite ?_ ?_)
   | (with_reducible refine LeO.bind ?_ (fun _ => ?_))
   | exact ih0 _ _ _
   | exact ih1 _ _ _
   | exact ih2 _ _ _
   | exact dancestudioref19_Valid.mono _ _ _ _ _ _ _ _ _ _ _ _ _ _ _ _ _ _ _ _ _ _ _
   | exact LeO.none _
   | refine LeO.ite ?_ ?_
   | refine LeO.bind ?_ (fun _ => ?_)
theorem dancestudioref29_Check.mono : ∀ a0 a1 k, LeO (dancestudioref29_Check.f k a0 a1) (dancestudioref29_Check.f (k + 1) a0 a1) := by
 intro a0 a1 k
 obtain ⟨ih0, ih1, ih2⟩ := dancestudioref29_Check.mono_l k
 unfold dancestudioref29_Check.f
 repeat' first
   | (with_reducible exact ih0 _ _ _)
   | (with_reducible exact ih1 _ _ _)
   | (with_reducible exact ih2 _ _ _)
   | (with_reducible exact dancestudioref19_Valid.mono _ _ _ _ _ _ _ _ _ _ _ _ _ _ _ _ _ _ _ _ _ _ _)
   | (with_reducible exact LeO.refl _)
   | (with_reducible exact LeO.none _)
   | (with_reducible refine LeO.ite ?_ ?_)
   | (with_reducible refine LeO.bind ?_ (fun _ => ?_))
   | exact ih0 _ _ _
   | exact ih1 _ _ _
   | exact ih2 _ _ _
   | exact dancestudioref19_Valid.mono _ _ _ _ _ _ _ _ _ _ _ _ _ _ _ _ _ _ _ _ _ _ _
   | exact LeO.none _
   | refine LeO.ite ?_ ?_
   | refine LeO.bind ?_ (fun _ => ?_)
set_option maxHeartbeats 8000000 in
set_option maxRecDepth 100000 in
theorem dancestudioref29_Check.calls (k : Nat) (A0_0 : Option Addr) (c0_0 : Nat) (l0_0 : List (S54)) (A0_1 : Option Addr) (c0_1 : Nat) (l0_1 : List Int) (r : Int) (w : World) (hr0_0 : Kd.C k54 w A0_0 l0_0.length l0_0) (hc0_0 : l0_0.length ≤ c0_0) (hr0_1 : Kd.C (Kd.int .i64) w A0_1 l0_1.length l0_1) (hc0_1 : l0_1.length ≤ c0_1) (h : dancestudioref29_Check.f k l0_0 l0_1 = some r) :
  Calls Try.prog 28 #[.agg #[.slice A0_0 l0_0.length c0_0, .slice A0_1 l0_1.length c0_1]] w fun e w' => e = .returned (.int .i64 r) ∧ Below w.heap.size w w' := by
 have hu43 := Try.underlying43
 have hu54 := Try.underlying54
 have HR0_0 := am hr0_0
 have HC0_0 := am hc0_0
 clear hr0_0 hc0_0
 have HR0_1 := am hr0_1
 have HC0_1 := am hc0_1
 clear hr0_1 hc0_1
 have HB := am (Below.refl w.heap.size w)
 have H : (if (l0_0.length : Int) = (wrap64 ((l0_1.length : Int) + 1)) then (if (l0_1.length : Int) < 1 then (dancestudioref29_Check.j0 k true l0_0 l0_1) else (dancestudioref29_Check.j0 k (decide ((l0_1.length : Int) > 8192)) l0_0 l0_1)) else (dancestudioref29_Check.j0 k true l0_0 l0_1)) = some r := h
 clear h
 have HC2 := am H
 clear H
 go_enter Try.func28, Try.ntmps28
 go_upto_region 1 with (first | ((with_reducible refine gate_dst (N := 1) rfl ?_); refine box_event yz (N := 1) yz (cs := #[.slice A0_0 l0_0.length c0_0, .slice A0_1 l0_1.length c0_1]) (t := 43) gz ?_; intro gb355 hg w3 hbox hb; have BK355 := am (hbox); have GW355 := gwz (g := gb355) HB hg; have GE355 := GW355; replace HB := am (below_step bz hb); clear hb hbox hg))
 (try simp only [Act.put, List.setIfInBounds_toArray, List.set_cons_zero, List.set_cons_succ])
 go_cut [25] (fun v25 wc => ∃ (kq : Nat) (x25_1 : Bool), v25 = .bool x25_1 ∧ Aside0 (dancestudioref29_Check.j0 kq x25_1 l0_0 l0_1 = some r) ∧ Aside0 (kq ≤ k) ∧ Aside0 (wc.heap[gb355]? = some (.cells #[(.slice A0_0 l0_0.length c0_0), (.slice A0_1 l0_1.length c0_1)] 43 (0, 0))) ∧ Aside0 (Below w.heap.size w wc))
 case first =>
  have H := HC2.out
  clear HC2
  by_cases c4 : (l0_0.length : Int) = (wrap64 ((l0_1.length : Int) + 1))
  ·
   rw [if_pos c4] at H
   have c4b0 : ((l0_0.length : Int) == (wrap64 ((l0_1.length : Int) + 1))) = true := beq_iff_eq.mpr c4
   have c4b1 : ((l0_0.length : Int) != (wrap64 ((l0_1.length : Int) + 1))) = false := bne_eq_false_iff_eq.mpr c4
   clear c4
   (first | rw [c4b0] | (simp only [i64_w, i32_w]; rw [c4b0]) | skip)
   by_cases c5 : (l0_1.length : Int) < 1
   ·
    rw [if_pos c5] at H
    have c5b0 := decide_eq_true c5
    have c5b1 : decide (l0_1.length < 1) = true := decide_eq_true (by omega)
    clear c5
    have H' := am H
    clear H
    obtain ⟨hcz6_0, hcz6_1, hfz6_0, hfz6_1⟩ := kc2 BK355.out
    go_wp2
    go_meet
    case rel => exact ⟨_, (true), sz, H', ⟨by first | omega | exact Nat.le_refl _⟩, ⟨kz BK355⟩, ⟨bz⟩⟩
   ·
    rw [if_neg c5] at H
    have c5b0 := decide_eq_false c5
    have c5b1 : decide (l0_1.length < 1) = false := decide_eq_false (by omega)
    clear c5
    have H' := am H
    clear H
    obtain ⟨hcz7_0, hcz7_1, hfz7_0, hfz7_1⟩ := kc2 BK355.out
    go_wp2
    go_meet
    case rel => exact ⟨_, (decide ((l0_1.length : Int) > 8192)), sz, H', ⟨by first | omega | exact Nat.le_refl _⟩, ⟨kz BK355⟩, ⟨bz⟩⟩
  ·
   rw [if_neg c4] at H
   have c4b0 : ((l0_0.length : Int) == (wrap64 ((l0_1.length : Int) + 1))) = false := beq_eq_false_iff_ne.mpr c4
   have c4b1 : ((l0_0.length : Int) != (wrap64 ((l0_1.length : Int) + 1))) = true := bne_iff_ne.mpr c4
   (first | rw [c4b0] | (simp only [i64_w, i32_w]; rw [c4b0]) | skip)
   have H' := am H
   clear H
   obtain ⟨hcz8_0, hcz8_1, hfz8_0, hfz8_1⟩ := kc2 BK355.out
   go_wp2
   go_meet
   case rel => exact ⟨_, (true), sz, H', ⟨by first | omega | exact Nat.le_refl _⟩, ⟨kz BK355⟩, ⟨bz⟩⟩
 case rest =>
  clear HC2
  try clear c2
  try clear p2
  try clear c4
  try clear c4b0
  try clear c4b1
  try clear c5
  try clear c5b0
  try clear c5b1
  try clear p6
  try clear hcz6_0
  try clear hcz6_1
  try clear hcz7_0
  try clear hcz7_1
  try clear hcz8_0
  try clear hcz8_1
  try clear hfz6_0
  try clear hfz6_1
  try clear hfz7_0
  try clear hfz7_1
  try clear hfz8_0
  try clear hfz8_1
  obtain ⟨kq, x25_1, rfl, HA, HJ1, BK355, HB⟩ := hcut
  cases kq with
  | zero => exact absurd HA.out (by simp [dancestudioref29_Check.j0])
  | succ kj1 =>
   have H := HA.out
   clear HA
   simp only [dancestudioref29_Check.j0] at H
   by_cases c9 : x25_1 = true
   ·
    subst c9
    have H1 : (some 2) = some r := by rw [if_pos rfl] at H; exact H
    clear H
    have H := H1
    clear H1
    obtain rfl := Option.some.inj H
    go_wp2
    go_ret
    exact ⟨ez, bz⟩
   ·
    replace c9 := Bool.eq_false_iff.mpr c9
    subst c9
    have H1 : (dancestudioref29_Check.l0 kj1 0 l0_0 l0_1) = some r := by rw [if_neg (show ¬ (false = true) by decide)] at H; exact H
    clear H
    have H := H1
    clear H1
    have H' := am H
    clear H
    go_wp2
    go_loopg [3] kj1 (fun kq v3 w' => ∃ (x3_2 : Int), v3 = .int .i64 x3_2 ∧ Aside0 (dancestudioref29_Check.l0 kq x3_2 l0_0 l0_1 = some r) ∧ Aside0 (kq ≤ kj1) ∧ Aside0 (w'.heap[gb355]? = some (.cells #[(.slice A0_0 l0_0.length c0_0), (.slice A0_1 l0_1.length c0_1)] 43 (0, 0))) ∧ Aside0 (Below w.heap.size w w'))
    case atStart => exact ⟨(0), sz, H', ⟨Nat.le_refl _⟩, ⟨kz BK355⟩, ⟨bz⟩⟩
    case round =>
     clear H'
     try clear c2
     try clear p2
     try clear c4
     try clear c4b0
     try clear c4b1
     try clear c5
     try clear c5b0
     try clear c5b1
     try clear p6
     try clear c9
     try clear hcz6_0
     try clear hcz6_1
     try clear hcz7_0
     try clear hcz7_1
     try clear hcz8_0
     try clear hcz8_1
     try clear hfz6_0
     try clear hfz6_1
     try clear hfz7_0
     try clear hfz7_1
     try clear hfz8_0
     try clear hfz8_1
     try clear p2
     try clear p6
     obtain ⟨x3_2, rfl, HA, HK2, BK355, HB⟩ := hrel
     cases gk with
     | zero => exact absurd HA.out (by simp [dancestudioref29_Check.l0])
     | succ k2 =>
      have H := HA.out
      clear HA
      simp only [dancestudioref29_Check.l0] at H
      by_cases c10 : x3_2 < (l0_0.length : Int)
      ·
       rw [if_pos c10] at H
       have c10b0 := decide_eq_true c10
       clear c10
       by_cases c11 : 0 ≤ x3_2; rotate_left
       · rw [if_neg c11] at H; exact absurd H (by simp)
       rw [if_pos c11] at H
       have c11b0 := decide_eq_true c11
       clear c11
       replace H := Option.bind_eq_some_iff.mp H
       obtain ⟨t357, A120, H⟩ := H
       replace H : (if t357 = 0 then (dancestudioref29_Check.l0 k2 (wrap64 (x3_2 + 1)) l0_0 l0_1) else (some t357)) = some r := H
       have A12 := am A120
       clear A120
       by_cases c13 : t357 = 0
       case' pos =>
        rw [if_pos c13] at H
        have c13b0 : (t357 == 0) = true := beq_iff_eq.mpr c13
        have c13b1 : (t357 != 0) = false := bne_eq_false_iff_eq.mpr c13
        clear c13
        have H' := am H
        clear H
        have tw1a : True := trivial
       case' neg =>
        rw [if_neg c13] at H
        have c13b0 : (t357 == 0) = false := beq_eq_false_iff_ne.mpr c13
        have c13b1 : (t357 != 0) = true := bne_iff_ne.mpr c13
        obtain rfl := Option.some.inj H
        have tw1b : True := trivial
       all_goals
        obtain ⟨hcz14_0, hcz14_1, hfz14_0, hfz14_1⟩ := kc2 BK355.out
        have p356 : 0 ≤ (x3_2 : Int) := az
        have q356 : x3_2 < (l0_0.length : Int) := az
        obtain ⟨ad356, ce356, e356, hK356, hW356⟩ := Kd.C_rowAt (HR0_0.out) (z54) x3_2 p356 q356
        obtain rfl := k54_open (show k54.K _ (rd_T54 l0_0 x3_2) _ from hK356)
        clear hK356
        replace hW356 := RowAt.below hW356 HB.out
        cases e356
        have HW356 := am hW356
        clear hW356
        replace p356 := eq_true p356
        replace q356 := eq_true q356
        go_wp2_with (first | ((with_reducible refine gate_dst (N := 37) rfl ?_); refine' load_big ?h0 54 (.tmp 36) ?ho _ ?hx _ _ ?hc Try.underlying54 ?hd ?hi ?_; (case h0 => rfl); (case ho => rfl); (case hx => first | rfl | (go_simp; rfl)); (case hc => first | exact HW356.out | (simpa only [add_plain] using HW356.out) | (simpa only [Addr.add, Nat.zero_add] using HW356.out)); (case hd => rfl); (case hi => rfl)) | ((with_reducible refine gate_callee (f := 48) rfl ?_); refine goesL_ (some 38) rfl rfl Try.func48 qz rfl #[.agg #[.int .i64 ((rd_T54 l0_0 x3_2).f0.f0), .int .i64 ((rd_T54 l0_0 x3_2).f0.f1), .int .i64 ((rd_T54 l0_0 x3_2).f1), .int .i64 ((rd_T54 l0_0 x3_2).f2), .int .i64 ((rd_T54 l0_0 x3_2).f3.f0.f0), .int .i64 ((rd_T54 l0_0 x3_2).f3.f0.f1), .int .i64 ((rd_T54 l0_0 x3_2).f3.f0.f2), .int .i64 ((rd_T54 l0_0 x3_2).f3.f1.f0), .int .i64 ((rd_T54 l0_0 x3_2).f3.f1.f1), .int .i64 ((rd_T54 l0_0 x3_2).f3.f1.f2), .int .i64 ((rd_T54 l0_0 x3_2).f3.f2.f0), .int .i64 ((rd_T54 l0_0 x3_2).f3.f2.f1), .int .i64 ((rd_T54 l0_0 x3_2).f3.f2.f2), .int .i64 ((rd_T54 l0_0 x3_2).f3.f3.f0), .int .i64 ((rd_T54 l0_0 x3_2).f3.f3.f1), .int .i64 ((rd_T54 l0_0 x3_2).f3.f3.f2), .int .i64 ((rd_T54 l0_0 x3_2).f3.f4.f0), .int .i64 ((rd_T54 l0_0 x3_2).f3.f4.f1), .int .i64 ((rd_T54 l0_0 x3_2).f3.f4.f2), .int .i64 ((rd_T54 l0_0 x3_2).f3.f5.f0), .int .i64 ((rd_T54 l0_0 x3_2).f3.f5.f1), .int .i64 ((rd_T54 l0_0 x3_2).f3.f5.f2)]] rfl mz ?_; (with_reducible refine (dancestudioref19_Valid.calls k2 ((rd_T54 l0_0 x3_2).f0.f0) ((rd_T54 l0_0 x3_2).f0.f1) ((rd_T54 l0_0 x3_2).f1) ((rd_T54 l0_0 x3_2).f2) ((rd_T54 l0_0 x3_2).f3.f0.f0) ((rd_T54 l0_0 x3_2).f3.f0.f1) ((rd_T54 l0_0 x3_2).f3.f0.f2) ((rd_T54 l0_0 x3_2).f3.f1.f0) ((rd_T54 l0_0 x3_2).f3.f1.f1) ((rd_T54 l0_0 x3_2).f3.f1.f2) ((rd_T54 l0_0 x3_2).f3.f2.f0) ((rd_T54 l0_0 x3_2).f3.f2.f1) ((rd_T54 l0_0 x3_2).f3.f2.f2) ((rd_T54 l0_0 x3_2).f3.f3.f0) ((rd_T54 l0_0 x3_2).f3.f3.f1) ((rd_T54 l0_0 x3_2).f3.f3.f2) ((rd_T54 l0_0 x3_2).f3.f4.f0) ((rd_T54 l0_0 x3_2).f3.f4.f1) ((rd_T54 l0_0 x3_2).f3.f4.f2) ((rd_T54 l0_0 x3_2).f3.f5.f0) ((rd_T54 l0_0 x3_2).f3.f5.f1) ((rd_T54 l0_0 x3_2).f3.f5.f2) t357 _ A12.out).mono ?_); rintro e w15 ⟨rfl, hb⟩; refine ⟨_, rfl, ?_⟩; replace BK355 := am (blk_below (o := .cells #[.slice (some ad356) l0_0.length c0_0, .slice A0_1 l0_1.length c0_1] 43 (0, 0)) (kz BK355) hb); replace HB := am (below_step bz hb); (try clear hb); (try clear hb2); (try clear hk); (try clear hi)))
        first
        | (have _ := tw1a
           go_roundg k2
           case measure => have := HJ1.out; have := HK2.out; omega
           case rel => exact ⟨(wrap64 (x3_2 + 1)), sz, H', ⟨by have := HJ1.out; have := HK2.out; omega⟩, ⟨kz BK355⟩, ⟨bz⟩⟩)
        | (have _ := tw1b
           go_ret
           exact ⟨ez, bz⟩)
      ·
       rw [if_neg c10] at H
       have c10b0 := decide_eq_false c10
       clear c10
       have H' := am H
       clear H
       obtain ⟨hcz18_0, hcz18_1, hfz18_0, hfz18_1⟩ := kc2 BK355.out
       go_wp2
       go_loopg [5] k2 (fun kq v5 w' => ∃ (x5_3 : Int), v5 = .int .i64 x5_3 ∧ Aside0 (dancestudioref29_Check.l1 kq x5_3 l0_0 l0_1 = some r) ∧ Aside0 (kq ≤ k2) ∧ Aside0 (w'.heap[gb355]? = some (.cells #[(.slice A0_0 l0_0.length c0_0), (.slice A0_1 l0_1.length c0_1)] 43 (0, 0))) ∧ Aside0 (Below w.heap.size w w'))
       case atStart => exact ⟨(0), sz, H', ⟨Nat.le_refl _⟩, ⟨kz BK355⟩, ⟨bz⟩⟩
       case round =>
        clear H'
        try clear c1
        try clear c2
        try clear p2
        try clear p3
        try clear q3
        try clear c4
        try clear c4b0
        try clear c4b1
        try clear c5
        try clear c5b0
        try clear c5b1
        try clear p6
        try clear c9
        try clear c10
        try clear c10b0
        try clear c11
        try clear c11b0
        try clear c13
        try clear c13b0
        try clear c13b1
        try clear hcz14_0
        try clear hcz14_1
        try clear hcz16_0
        try clear hcz16_1
        try clear hcz18_0
        try clear hcz18_1
        try clear hcz6_0
        try clear hcz6_1
        try clear hcz7_0
        try clear hcz7_1
        try clear hcz8_0
        try clear hcz8_1
        try clear hfz14_0
        try clear hfz14_1
        try clear hfz16_0
        try clear hfz16_1
        try clear hfz18_0
        try clear hfz18_1
        try clear hfz6_0
        try clear hfz6_1
        try clear hfz7_0
        try clear hfz7_1
        try clear hfz8_0
        try clear hfz8_1
        try clear p2
        try clear p356
        try clear p6
        try clear q356
        obtain ⟨x5_3, rfl, HA, HK3, BK355, HB⟩ := hrel
        cases gk with
        | zero => exact absurd HA.out (by simp [dancestudioref29_Check.l1])
        | succ k3 =>
         have H := HA.out
         clear HA
         simp only [dancestudioref29_Check.l1] at H
         by_cases c19 : x5_3 < (l0_1.length : Int)
         ·
          rw [if_pos c19] at H
          have c19b0 := decide_eq_true c19
          clear c19
          by_cases c20 : 0 ≤ x5_3; rotate_left
          · rw [if_neg c20] at H; exact absurd H (by simp)
          rw [if_pos c20] at H
          have c20b0 := decide_eq_true c20
          clear c20
          by_cases c21 : (rd l0_1 x5_3) < 0
          ·
           rw [if_pos c21] at H
           have c21b0 := decide_eq_true c21
           clear c21
           obtain rfl := Option.some.inj H
           obtain ⟨hcz22_0, hcz22_1, hfz22_0, hfz22_1⟩ := kc2 BK355.out
           have p358 : 0 ≤ (x5_3 : Int) := az
           have q358 : x5_3 < (l0_1.length : Int) := az
           obtain ⟨ad358, e358, hx358_0⟩ := Kd.at_int HR0_1.out x5_3 p358 q358
           cases e358
           replace hx358_0 := cb HB.out hx358_0
           replace p358 := eq_true p358
           replace q358 := eq_true q358
           go_wp2
           go_ret
           exact ⟨ez, bz⟩
          ·
           rw [if_neg c21] at H
           have c21b0 := decide_eq_false c21
           clear c21
           by_cases c23 : (rd l0_1 x5_3) > 3
           ·
            rw [if_pos c23] at H
            have c23b0 := decide_eq_true c23
            clear c23
            obtain rfl := Option.some.inj H
            obtain ⟨hcz24_0, hcz24_1, hfz24_0, hfz24_1⟩ := kc2 BK355.out
            have p358 : 0 ≤ (x5_3 : Int) := az
            have q358 : x5_3 < (l0_1.length : Int) := az
            obtain ⟨ad358, e358, hx358_0⟩ := Kd.at_int HR0_1.out x5_3 p358 q358
            cases e358
            replace hx358_0 := cb HB.out hx358_0
            replace p358 := eq_true p358
            replace q358 := eq_true q358
            have p359 : 0 ≤ (x5_3 : Int) := az
            have q359 : x5_3 < (l0_1.length : Int) := az
            obtain ⟨ad359, e359, hx359_0⟩ := Kd.at_int HR0_1.out x5_3 p359 q359
            obtain rfl : ad358 = ad359 := (by injection e359)
            replace hx359_0 := cb HB.out hx359_0
            replace p359 := eq_true p359
            replace q359 := eq_true q359
            go_wp2
            go_ret
            exact ⟨ez, bz⟩
           ·
            rw [if_neg c23] at H
            have c23b0 := decide_eq_false c23
            clear c23
            have H' := am H
            clear H
            obtain ⟨hcz25_0, hcz25_1, hfz25_0, hfz25_1⟩ := kc2 BK355.out
            have p358 : 0 ≤ (x5_3 : Int) := az
            have q358 : x5_3 < (l0_1.length : Int) := az
            obtain ⟨ad358, e358, hx358_0⟩ := Kd.at_int HR0_1.out x5_3 p358 q358
            cases e358
            replace hx358_0 := cb HB.out hx358_0
            replace p358 := eq_true p358
            replace q358 := eq_true q358
            have p359 : 0 ≤ (x5_3 : Int) := az
            have q359 : x5_3 < (l0_1.length : Int) := az
            obtain ⟨ad359, e359, hx359_0⟩ := Kd.at_int HR0_1.out x5_3 p359 q359
            obtain rfl : ad358 = ad359 := (by injection e359)
            replace hx359_0 := cb HB.out hx359_0
            replace p359 := eq_true p359
            replace q359 := eq_true q359
            go_wp2
            go_roundg k3
            case measure => have := HJ1.out; have := HK2.out; have := HK3.out; omega
            case rel => exact ⟨(wrap64 (x5_3 + 1)), sz, H', ⟨by have := HJ1.out; have := HK2.out; have := HK3.out; omega⟩, ⟨kz BK355⟩, ⟨bz⟩⟩
         ·
          rw [if_neg c19] at H
          have c19b0 := decide_eq_false c19
          clear c19
          obtain rfl := Option.some.inj H
          obtain ⟨hcz26_0, hcz26_1, hfz26_0, hfz26_1⟩ := kc2 BK355.out
          go_wp2
          go_ret
          exact ⟨ez, bz⟩

end Go.Proofs.Yteflngoiebgdaaa.X
