import Derived.Test.YteflngoiebgdaaaX0
import Derived.Test.YteflngoiebgdaaaX7
namespace Go.Proofs.Yteflngoiebgdaaa.X
open Go.RowKit YteflngoiebgdaaaW.PrintWords YteflngoiebgdaaaW.PrintLast YteflngoiebgdaaaW.PrintMore
attribute [local go_sem] max2_int min2_int max_two min_two max_three min_three max_four min_four
set_option linter.unusedVariables false
set_option linter.unusedSimpArgs false

/-! ### movement_Check: function 29 -/
mutual
def movement_Check.j0 : Nat → Bool → List (S54) → List Int → Option (Int)
 | 0, _, _, _ => none
 | k + 1, x27, x109000, x109001 => if x27 = true then (some 2) else (movement_Check.l0 k x109000 (x109000.length : Int) 0 x109000 x109001)
def movement_Check.l0 : Nat → List (S54) → Int → Int → List (S54) → List Int → Option (Int)
 | 0, _, _, _, _, _ => none
 | k + 1, x29, x30, x31, x109000, x109001 => if x31 < x30 then (if 0 ≤ x31 then (if x31 < (x29.length : Int) then ((posture_Valid.f k ((rd_T54 x29 x31).f0.f0) ((rd_T54 x29 x31).f0.f1) ((rd_T54 x29 x31).f1) ((rd_T54 x29 x31).f2) ((rd_T54 x29 x31).f3.f0.f0) ((rd_T54 x29 x31).f3.f0.f1) ((rd_T54 x29 x31).f3.f0.f2) ((rd_T54 x29 x31).f3.f1.f0) ((rd_T54 x29 x31).f3.f1.f1) ((rd_T54 x29 x31).f3.f1.f2) ((rd_T54 x29 x31).f3.f2.f0) ((rd_T54 x29 x31).f3.f2.f1) ((rd_T54 x29 x31).f3.f2.f2) ((rd_T54 x29 x31).f3.f3.f0) ((rd_T54 x29 x31).f3.f3.f1) ((rd_T54 x29 x31).f3.f3.f2) ((rd_T54 x29 x31).f3.f4.f0) ((rd_T54 x29 x31).f3.f4.f1) ((rd_T54 x29 x31).f3.f4.f2) ((rd_T54 x29 x31).f3.f5.f0) ((rd_T54 x29 x31).f3.f5.f1) ((rd_T54 x29 x31).f3.f5.f2)).bind fun t111 => (if t111 = 0 then (movement_Check.l0 k x29 x30 (wrap64 (x31 + 1)) x109000 x109001) else (some t111))) else (none)) else (none)) else (movement_Check.l1 k x109001 (x109001.length : Int) 0)
def movement_Check.l1 : Nat → List Int → Int → Int → Option (Int)
 | 0, _, _, _ => none
 | k + 1, x42, x43, x44 => if x44 < x43 then (if 0 ≤ x44 then (if x44 < (x42.length : Int) then (if (rd x42 x44) < 0 then (some 1) else (if (rd x42 x44) > 3 then (some 1) else (movement_Check.l1 k x42 x43 (wrap64 (x44 + 1))))) else (none)) else (none)) else (some 0)
end
def movement_Check.f (k : Nat) (l0_0 : List (S54)) (l0_1 : List Int) : Option (Int) := if (l0_1.length : Int) < 1 then (movement_Check.j0 k true l0_0 l0_1) else (if (l0_1.length : Int) > 8192 then (movement_Check.j0 k true l0_0 l0_1) else (movement_Check.j0 k ((l0_0.length : Int) != (wrap64 ((l0_1.length : Int) + 1))) l0_0 l0_1))
theorem movement_Check.mono_l : ∀ k, (∀ y0 y1 y2, LeO (movement_Check.j0 k y0 y1 y2) (movement_Check.j0 (k + 1) y0 y1 y2)) ∧ (∀ y0 y1 y2 y3 y4, LeO (movement_Check.l0 k y0 y1 y2 y3 y4) (movement_Check.l0 (k + 1) y0 y1 y2 y3 y4)) ∧ (∀ y0 y1 y2, LeO (movement_Check.l1 k y0 y1 y2) (movement_Check.l1 (k + 1) y0 y1 y2))
 | 0 => ⟨fun _ _ _ r h => by simp [movement_Check.j0] at h, fun _ _ _ _ _ r h => by simp [movement_Check.l0] at h, fun _ _ _ r h => by simp [movement_Check.l1] at h⟩
 | k + 1 => by
  obtain ⟨ih0, ih1, ih2⟩ := movement_Check.mono_l k
  refine ⟨?_, ?_, ?_⟩
  ·
   intro y0 y1 y2
   unfold movement_Check.j0
   repeat' first
   | (with_reducible exact ih0 _ _ _)
   | (with_reducible exact ih1 _ _ _ _ _)
   | (with_reducible exact ih2 _ _ _)
   | (with_reducible exact posture_Valid.mono _ _ _ _ _ _ _ _ _ _ _ _ _ _ _ _ _ _ _ _ _ _ _)
   | (with_reducible exact LeO.refl _)
   | (with_reducible exact LeO.none _)
   | (with_reducible refine LeO.ite ?_ ?_)
   | (with_reducible refine LeO.bind ?_ (fun _ => ?_))
   | exact ih0 _ _ _
   | exact ih1 _ _ _ _ _
   | exact ih2 _ _ _
   | exact posture_Valid.mono _ _ _ _ _ _ _ _ _ _ _ _ _ _ _ _ _ _ _ _ _ _ _
   | exact LeO.none _
   | refine LeO.ite ?_ ?_
   | refine LeO.bind ?_ (fun _ => ?_)
  ·
   intro y0 y1 y2 y3 y4
   unfold movement_Check.l0
   repeat' first
   | (with_reducible exact ih0 _ _ _)
   | (with_reducible exact ih1 _ _ _ _ _)
   | (with_reducible exact ih2 _ _ _)
   | (with_reducible exact posture_Valid.mono _ _ _ _ _ _ _ _ _ _ _ _ _ _ _ _ _ _ _ _ _ _ _)
   | (with_reducible exact LeO.refl _)
   | (with_reducible exact LeO.none _)
   | (with_reducible refine LeO.ite ?_ ?_)
   | (with_reducible refine LeO.bind ?_ (fun _ => ?_))
   | exact ih0 _ _ _
   | exact ih1 _ _ _ _ _
   | exact ih2 _ _ _
   | exact posture_Valid.mono _ _ _ _ _ _ _ _ _ _ _ _ _ _ _ _ _ _ _ _ _ _ _
   | exact LeO.none _
   | refine LeO.ite ?_ ?_
   | refine LeO.bind ?_ (fun _ => ?_)
  ·
   intro y0 y1 y2
   unfold movement_Check.l1
   repeat' first
   | (with_reducible exact ih0 _ _ _)
   | (with_reducible exact ih1 _ _ _ _ _)
   | (with_reducible exact ih2 _ _ _)
   | (with_reducible exact posture_Valid.mono _ _ _ _ _ _ _ _ _ _ _ _ _ _ _ _ _ _ _ _ _ _ _)
   | (with_reducible exact LeO.refl _)
   | (with_reducible exact LeO.none _)
   | (with_reducible refine LeO.ite ?_ ?_)
   | (with_reducible refine LeO.bind ?_ (fun _ => ?_))
   | exact ih0 _ _ _
   | exact ih1 _ _ _ _ _
   | exact ih2 _ _ _
   | exact posture_Valid.mono _ _ _ _ _ _ _ _ _ _ _ _ _ _ _ _ _ _ _ _ _ _ _
   | exact LeO.none _
   | refine LeO.ite ?_ ?_
   | refine LeO.bind ?_ (fun _ => ?_)
theorem movement_Check.mono : ∀ a0 a1 k, LeO (movement_Check.f k a0 a1) (movement_Check.f (k + 1) a0 a1) := by
 intro a0 a1 k
 obtain ⟨ih0, ih1, ih2⟩ := movement_Check.mono_l k
 unfold movement_Check.f
 repeat' first
   | (with_reducible exact ih0 _ _ _)
   | (with_reducible exact ih1 _ _ _ _ _)
   | (with_reducible exact ih2 _ _ _)
   | (with_reducible exact posture_Valid.mono _ _ _ _ _ _ _ _ _ _ _ _ _ _ _ _ _ _ _ _ _ _ _)
   | (with_reducible exact LeO.refl _)
   | (with_reducible exact LeO.none _)
   | (with_reducible refine LeO.ite ?_ ?_)
   | (with_reducible refine LeO.bind ?_ (fun _ => ?_))
   | exact ih0 _ _ _
   | exact ih1 _ _ _ _ _
   | exact ih2 _ _ _
   | exact posture_Valid.mono _ _ _ _ _ _ _ _ _ _ _ _ _ _ _ _ _ _ _ _ _ _ _
   | exact LeO.none _
   | refine LeO.ite ?_ ?_
   | refine LeO.bind ?_ (fun _ => ?_)
set_option maxHeartbeats 8000000 in
set_option maxRecDepth 100000 in
theorem movement_Check.calls (k : Nat) (A0_0 : Option Addr) (c0_0 : Nat) (l0_0 : List (S54)) (A0_1 : Option Addr) (c0_1 : Nat) (l0_1 : List Int) (r : Int) (w : World) (hr0_0 : Kd.C k54 w A0_0 l0_0.length l0_0) (hc0_0 : l0_0.length ≤ c0_0) (hr0_1 : Kd.C (Kd.int .i64) w A0_1 l0_1.length l0_1) (hc0_1 : l0_1.length ≤ c0_1) (h : movement_Check.f k l0_0 l0_1 = some r) :
  Calls Try.prog 29 #[.agg #[.slice A0_0 l0_0.length c0_0, .slice A0_1 l0_1.length c0_1]] w fun e w' => e = .returned (.int .i64 r) ∧ Below w.heap.size w w' := by
 have hu43 := Try.underlying43
 have hu54 := Try.underlying54
 have HR0_0 := am hr0_0
 have HC0_0 := am hc0_0
 clear hr0_0 hc0_0
 have HR0_1 := am hr0_1
 have HC0_1 := am hc0_1
 clear hr0_1 hc0_1
 have HB := am (Below.refl w.heap.size w)
 have H : (if (l0_1.length : Int) < 1 then (movement_Check.j0 k true l0_0 l0_1) else (if (l0_1.length : Int) > 8192 then (movement_Check.j0 k true l0_0 l0_1) else (movement_Check.j0 k ((l0_0.length : Int) != (wrap64 ((l0_1.length : Int) + 1))) l0_0 l0_1))) = some r := h
 clear h
 have HC2 := am H
 clear H
 go_enter Try.func29, Try.ntmps29
 go_upto_region 1 with (first | ((with_reducible refine gate_dst (N := 1) rfl ?_); refine box_event yz (N := 1) yz (cs := #[.slice A0_0 l0_0.length c0_0, .slice A0_1 l0_1.length c0_1]) (t := 43) gz ?_; intro gb108 hg w3 hbox hb; have BK108 := am (hbox); have GW108 := gwz (g := gb108) HB hg; have GE108 := GW108; replace HB := am (below_step bz hb); clear hb hbox hg))
 (try simp only [Act.put, List.setIfInBounds_toArray, List.set_cons_zero, List.set_cons_succ])
 go_cut [27] (fun v27 wc => ∃ (kq : Nat) (x27_1 : Bool), v27 = .bool x27_1 ∧ Aside0 (movement_Check.j0 kq x27_1 l0_0 l0_1 = some r) ∧ Aside0 (kq ≤ k) ∧ Aside0 (wc.heap[gb108]? = some (.cells #[(.slice A0_0 l0_0.length c0_0), (.slice A0_1 l0_1.length c0_1)] 43 (0, 0))) ∧ Aside0 (Below w.heap.size w wc))
 case first =>
  have H := HC2.out
  clear HC2
  by_cases c4 : (l0_1.length : Int) < 1
  ·
   rw [if_pos c4] at H
   have c4b0 := decide_eq_true c4
   have c4b1 : decide (l0_1.length < 1) = true := decide_eq_true (by omega)
   clear c4
   (first | rw [c4b0] | (simp only [i64_w, i32_w]; rw [c4b0]) | skip)
   have H' := am H
   clear H
   obtain ⟨hcz5_0, hcz5_1, hfz5_0, hfz5_1⟩ := kc2 BK108.out
   go_wp2
   go_meet
   case rel => exact ⟨_, (true), sz, H', ⟨by first | omega | exact Nat.le_refl _⟩, ⟨kz BK108⟩, ⟨bz⟩⟩
  ·
   rw [if_neg c4] at H
   have c4b0 := decide_eq_false c4
   have c4b1 : decide (l0_1.length < 1) = false := decide_eq_false (by omega)
   clear c4
   (first | rw [c4b0] | (simp only [i64_w, i32_w]; rw [c4b0]) | skip)
   by_cases c6 : (l0_1.length : Int) > 8192
   ·
    rw [if_pos c6] at H
    have c6b0 := decide_eq_true c6
    have c6b1 : decide (8192 < l0_1.length) = true := decide_eq_true (by omega)
    clear c6
    have H' := am H
    clear H
    obtain ⟨hcz7_0, hcz7_1, hfz7_0, hfz7_1⟩ := kc2 BK108.out
    go_wp2
    go_meet
    case rel => exact ⟨_, (true), sz, H', ⟨by first | omega | exact Nat.le_refl _⟩, ⟨kz BK108⟩, ⟨bz⟩⟩
   ·
    rw [if_neg c6] at H
    have c6b0 := decide_eq_false c6
    have c6b1 : decide (8192 < l0_1.length) = false := decide_eq_false (by omega)
    clear c6
    have H' := am H
    clear H
    obtain ⟨hcz8_0, hcz8_1, hfz8_0, hfz8_1⟩ := kc2 BK108.out
    go_wp2
    go_meet
    case rel => exact ⟨_, (((l0_0.length : Int) != (wrap64 ((l0_1.length : Int) + 1)))), sz, H', ⟨by first | omega | exact Nat.le_refl _⟩, ⟨kz BK108⟩, ⟨bz⟩⟩
 case rest =>
  clear HC2
  try clear c2
  try clear p2
  try clear c4
  try clear c4b0
  try clear c4b1
  try clear c6
  try clear c6b0
  try clear c6b1
  try clear p6
  try clear hcz5_0
  try clear hcz5_1
  try clear hcz7_0
  try clear hcz7_1
  try clear hcz8_0
  try clear hcz8_1
  try clear hfz5_0
  try clear hfz5_1
  try clear hfz7_0
  try clear hfz7_1
  try clear hfz8_0
  try clear hfz8_1
  obtain ⟨kq, x27_1, rfl, HA, HJ1, BK108, HB⟩ := hcut
  cases kq with
  | zero => exact absurd HA.out (by simp [movement_Check.j0])
  | succ kj1 =>
   have H := HA.out
   clear HA
   simp only [movement_Check.j0] at H
   by_cases c9 : x27_1 = true
   ·
    subst c9
    have H1 : (some 2) = some r := by rw [if_pos rfl] at H; exact H
    clear H
    have H := H1
    clear H1
    obtain rfl := Option.some.inj H
    go_wp2
    go_ret
    exact ⟨ez, bz⟩
   ·
    replace c9 := Bool.eq_false_iff.mpr c9
    subst c9
    have H1 : (movement_Check.l0 kj1 l0_0 (l0_0.length : Int) 0 l0_0 l0_1) = some r := by rw [if_neg (show ¬ (false = true) by decide)] at H; exact H
    clear H
    have H := H1
    clear H1
    have H' := am H
    clear H
    obtain ⟨hcz10_0, hcz10_1, hfz10_0, hfz10_1⟩ := kc2 BK108.out
    go_wp2
    go_loopg [31] kj1 (fun kq v31 w' => ∃ (x31_2 : Int), v31 = .int .i64 x31_2 ∧ Aside0 (movement_Check.l0 kq l0_0 (l0_0.length : Int) x31_2 l0_0 l0_1 = some r) ∧ Aside0 (kq ≤ kj1) ∧ Aside0 (w'.heap[gb108]? = some (.cells #[(.slice A0_0 l0_0.length c0_0), (.slice A0_1 l0_1.length c0_1)] 43 (0, 0))) ∧ Aside0 (Below w.heap.size w w'))
    case atStart => exact ⟨(0), sz, H', ⟨Nat.le_refl _⟩, ⟨kz BK108⟩, ⟨bz⟩⟩
    case round =>
     clear H'
     try clear c2
     try clear p2
     try clear c4
     try clear c4b0
     try clear c4b1
     try clear c6
     try clear c6b0
     try clear c6b1
     try clear p6
     try clear c9
     try clear hcz10_0
     try clear hcz10_1
     try clear hcz5_0
     try clear hcz5_1
     try clear hcz7_0
     try clear hcz7_1
     try clear hcz8_0
     try clear hcz8_1
     try clear hfz10_0
     try clear hfz10_1
     try clear hfz5_0
     try clear hfz5_1
     try clear hfz7_0
     try clear hfz7_1
     try clear hfz8_0
     try clear hfz8_1
     try clear p2
     try clear p6
     obtain ⟨x31_2, rfl, HA, HK2, BK108, HB⟩ := hrel
     cases gk with
     | zero => exact absurd HA.out (by simp [movement_Check.l0])
     | succ k2 =>
      have H := HA.out
      clear HA
      simp only [movement_Check.l0] at H
      by_cases c11 : x31_2 < (l0_0.length : Int)
      ·
       rw [if_pos c11] at H
       have c11b0 := decide_eq_true c11
       clear c11
       by_cases c12 : 0 ≤ x31_2; rotate_left
       · rw [if_neg c12] at H; exact absurd H (by simp)
       rw [if_pos c12] at H
       have c12b0 := decide_eq_true c12
       clear c12
       by_cases c13 : x31_2 < (l0_0.length : Int); rotate_left
       · rw [if_neg c13] at H; exact absurd H (by simp)
       rw [if_pos c13] at H
       have c13b0 := decide_eq_true c13
       clear c13
       replace H := Option.bind_eq_some_iff.mp H
       obtain ⟨t111, A140, H⟩ := H
       replace H : (if t111 = 0 then (movement_Check.l0 k2 l0_0 (l0_0.length : Int) (wrap64 (x31_2 + 1)) l0_0 l0_1) else (some t111)) = some r := H
       have A14 := am A140
       clear A140
       by_cases c15 : t111 = 0
       case' pos =>
        rw [if_pos c15] at H
        have c15b0 : (t111 == 0) = true := beq_iff_eq.mpr c15
        have c15b1 : (t111 != 0) = false := bne_eq_false_iff_eq.mpr c15
        clear c15
        have H' := am H
        clear H
        have tw1a : True := trivial
       case' neg =>
        rw [if_neg c15] at H
        have c15b0 : (t111 == 0) = false := beq_eq_false_iff_ne.mpr c15
        have c15b1 : (t111 != 0) = true := bne_iff_ne.mpr c15
        obtain rfl := Option.some.inj H
        have tw1b : True := trivial
       all_goals
        have p109 : 0 ≤ (x31_2 : Int) := az
        have q109 : x31_2 < (l0_0.length : Int) := az
        obtain ⟨ad109, ce109, e109, hK109, hW109⟩ := Kd.C_rowAt (HR0_0.out) (z54) x31_2 p109 q109
        obtain rfl := k54_open (show k54.K _ (rd_T54 l0_0 x31_2) _ from hK109)
        clear hK109
        replace hW109 := RowAt.below hW109 HB.out
        cases e109
        have HW109 := am hW109
        clear hW109
        replace p109 := eq_true p109
        replace q109 := eq_true q109
        go_wp2_with (first | ((with_reducible refine gate_dst (N := 34) rfl ?_); refine' load_big ?h0 54 (.tmp 33) ?ho _ ?hx _ _ ?hc Try.underlying54 ?hd ?hi ?_; (case h0 => rfl); (case ho => rfl); (case hx => first | rfl | (go_simp; rfl)); (case hc => first | exact HW109.out | (simpa only [add_plain] using HW109.out) | (simpa only [Addr.add, Nat.zero_add] using HW109.out)); (case hd => rfl); (case hi => rfl)) | ((with_reducible refine gate_dst (N := 4) rfl ?_); refine box_event yz (N := 4) yz (cs := #[.int .i64 0, .int .i64 0, .int .i64 0, .int .i64 0, .int .i64 0, .int .i64 0, .int .i64 0, .int .i64 0, .int .i64 0, .int .i64 0, .int .i64 0, .int .i64 0, .int .i64 0, .int .i64 0, .int .i64 0, .int .i64 0, .int .i64 0, .int .i64 0, .int .i64 0, .int .i64 0, .int .i64 0, .int .i64 0]) (t := 54) gz ?_; intro gb110 hg_ w16 hbox_ hb_; have HA110 := am (And.intro hbox_ (And.intro hb_ hg_)); clear hbox_ hb_ hg_) | ((with_reducible refine row_gate (t := 54) (p := 4) rfl ?_); refine row_event ?h0 54 (.tmp 4) (.tmp 34) ?ho ?hd gb110 #[.int .i64 ((rd_T54 l0_0 x31_2).f0.f0), .int .i64 ((rd_T54 l0_0 x31_2).f0.f1), .int .i64 ((rd_T54 l0_0 x31_2).f1), .int .i64 ((rd_T54 l0_0 x31_2).f2), .int .i64 ((rd_T54 l0_0 x31_2).f3.f0.f0), .int .i64 ((rd_T54 l0_0 x31_2).f3.f0.f1), .int .i64 ((rd_T54 l0_0 x31_2).f3.f0.f2), .int .i64 ((rd_T54 l0_0 x31_2).f3.f1.f0), .int .i64 ((rd_T54 l0_0 x31_2).f3.f1.f1), .int .i64 ((rd_T54 l0_0 x31_2).f3.f1.f2), .int .i64 ((rd_T54 l0_0 x31_2).f3.f2.f0), .int .i64 ((rd_T54 l0_0 x31_2).f3.f2.f1), .int .i64 ((rd_T54 l0_0 x31_2).f3.f2.f2), .int .i64 ((rd_T54 l0_0 x31_2).f3.f3.f0), .int .i64 ((rd_T54 l0_0 x31_2).f3.f3.f1), .int .i64 ((rd_T54 l0_0 x31_2).f3.f3.f2), .int .i64 ((rd_T54 l0_0 x31_2).f3.f4.f0), .int .i64 ((rd_T54 l0_0 x31_2).f3.f4.f1), .int .i64 ((rd_T54 l0_0 x31_2).f3.f4.f2), .int .i64 ((rd_T54 l0_0 x31_2).f3.f5.f0), .int .i64 ((rd_T54 l0_0 x31_2).f3.f5.f1), .int .i64 ((rd_T54 l0_0 x31_2).f3.f5.f2)] ?hx ?hy _ _ HA110.out.1 ?hi ?hs ?h1 ?_; (case h0 => rfl); (case ho => rfl); (case hd => rfl); (case hx => first | rfl | (go_simp; rfl)); (case hy => first | rfl | (go_simp; rfl)); (case hi => rfl); (case hs => rfl); (case h1 => simp [Value.oneCell']); intro w17 hbox ho_ hb_; have hg := HA110.out.2.2; have hb := hb_ _ _ HA110.out.2.1 (Nat.le_of_eq hg.symm); clear ho_ hb_; have BK110 := am (hbox); have GW110 := gwz (g := gb110) HB hg; have GE110 := GW110; replace HB := am (below_step bz hb); have NB108_110 := nlt (g' := gb110) BK108 hg; have NB110_108 := ngt (g' := gb110) BK108 hg; replace BK108 := am (blk_below (o := .cells #[.slice (some ad109) l0_0.length c0_0, .slice A0_1 l0_1.length c0_1] 43 (0, 0)) (kz BK108) hb); clear hb hbox hg) | ((with_reducible refine gate_dst (N := 35) rfl ?_); refine load_big ?h0 54 (.tmp 4) ?ho ⟨gb110, 0, none⟩ ?hx [.int .i64 ((rd_T54 l0_0 x31_2).f0.f0), .int .i64 ((rd_T54 l0_0 x31_2).f0.f1), .int .i64 ((rd_T54 l0_0 x31_2).f1), .int .i64 ((rd_T54 l0_0 x31_2).f2), .int .i64 ((rd_T54 l0_0 x31_2).f3.f0.f0), .int .i64 ((rd_T54 l0_0 x31_2).f3.f0.f1), .int .i64 ((rd_T54 l0_0 x31_2).f3.f0.f2), .int .i64 ((rd_T54 l0_0 x31_2).f3.f1.f0), .int .i64 ((rd_T54 l0_0 x31_2).f3.f1.f1), .int .i64 ((rd_T54 l0_0 x31_2).f3.f1.f2), .int .i64 ((rd_T54 l0_0 x31_2).f3.f2.f0), .int .i64 ((rd_T54 l0_0 x31_2).f3.f2.f1), .int .i64 ((rd_T54 l0_0 x31_2).f3.f2.f2), .int .i64 ((rd_T54 l0_0 x31_2).f3.f3.f0), .int .i64 ((rd_T54 l0_0 x31_2).f3.f3.f1), .int .i64 ((rd_T54 l0_0 x31_2).f3.f3.f2), .int .i64 ((rd_T54 l0_0 x31_2).f3.f4.f0), .int .i64 ((rd_T54 l0_0 x31_2).f3.f4.f1), .int .i64 ((rd_T54 l0_0 x31_2).f3.f4.f2), .int .i64 ((rd_T54 l0_0 x31_2).f3.f5.f0), .int .i64 ((rd_T54 l0_0 x31_2).f3.f5.f1), .int .i64 ((rd_T54 l0_0 x31_2).f3.f5.f2)] _ ?hc Try.underlying54 ?hd ?hi ?_; (case h0 => rfl); (case ho => rfl); (case hx => first | rfl | (go_simp; rfl)); (case hc => exact RowAt.of_block (cs := #[.int .i64 ((rd_T54 l0_0 x31_2).f0.f0), .int .i64 ((rd_T54 l0_0 x31_2).f0.f1), .int .i64 ((rd_T54 l0_0 x31_2).f1), .int .i64 ((rd_T54 l0_0 x31_2).f2), .int .i64 ((rd_T54 l0_0 x31_2).f3.f0.f0), .int .i64 ((rd_T54 l0_0 x31_2).f3.f0.f1), .int .i64 ((rd_T54 l0_0 x31_2).f3.f0.f2), .int .i64 ((rd_T54 l0_0 x31_2).f3.f1.f0), .int .i64 ((rd_T54 l0_0 x31_2).f3.f1.f1), .int .i64 ((rd_T54 l0_0 x31_2).f3.f1.f2), .int .i64 ((rd_T54 l0_0 x31_2).f3.f2.f0), .int .i64 ((rd_T54 l0_0 x31_2).f3.f2.f1), .int .i64 ((rd_T54 l0_0 x31_2).f3.f2.f2), .int .i64 ((rd_T54 l0_0 x31_2).f3.f3.f0), .int .i64 ((rd_T54 l0_0 x31_2).f3.f3.f1), .int .i64 ((rd_T54 l0_0 x31_2).f3.f3.f2), .int .i64 ((rd_T54 l0_0 x31_2).f3.f4.f0), .int .i64 ((rd_T54 l0_0 x31_2).f3.f4.f1), .int .i64 ((rd_T54 l0_0 x31_2).f3.f4.f2), .int .i64 ((rd_T54 l0_0 x31_2).f3.f5.f0), .int .i64 ((rd_T54 l0_0 x31_2).f3.f5.f1), .int .i64 ((rd_T54 l0_0 x31_2).f3.f5.f2)]) (kz BK110) rfl); (case hd => rfl); (case hi => rfl)) | ((with_reducible refine gate_callee (f := 49) rfl ?_); refine goesL_ (some 36) rfl rfl Try.func49 qz rfl #[.agg #[.int .i64 ((rd_T54 l0_0 x31_2).f0.f0), .int .i64 ((rd_T54 l0_0 x31_2).f0.f1), .int .i64 ((rd_T54 l0_0 x31_2).f1), .int .i64 ((rd_T54 l0_0 x31_2).f2), .int .i64 ((rd_T54 l0_0 x31_2).f3.f0.f0), .int .i64 ((rd_T54 l0_0 x31_2).f3.f0.f1), .int .i64 ((rd_T54 l0_0 x31_2).f3.f0.f2), .int .i64 ((rd_T54 l0_0 x31_2).f3.f1.f0), .int .i64 ((rd_T54 l0_0 x31_2).f3.f1.f1), .int .i64 ((rd_T54 l0_0 x31_2).f3.f1.f2), .int .i64 ((rd_T54 l0_0 x31_2).f3.f2.f0), .int .i64 ((rd_T54 l0_0 x31_2).f3.f2.f1), .int .i64 ((rd_T54 l0_0 x31_2).f3.f2.f2), .int .i64 ((rd_T54 l0_0 x31_2).f3.f3.f0), .int .i64 ((rd_T54 l0_0 x31_2).f3.f3.f1), .int .i64 ((rd_T54 l0_0 x31_2).f3.f3.f2), .int .i64 ((rd_T54 l0_0 x31_2).f3.f4.f0), .int .i64 ((rd_T54 l0_0 x31_2).f3.f4.f1), .int .i64 ((rd_T54 l0_0 x31_2).f3.f4.f2), .int .i64 ((rd_T54 l0_0 x31_2).f3.f5.f0), .int .i64 ((rd_T54 l0_0 x31_2).f3.f5.f1), .int .i64 ((rd_T54 l0_0 x31_2).f3.f5.f2)]] rfl mz ?_; (with_reducible refine (posture_Valid.calls k2 ((rd_T54 l0_0 x31_2).f0.f0) ((rd_T54 l0_0 x31_2).f0.f1) ((rd_T54 l0_0 x31_2).f1) ((rd_T54 l0_0 x31_2).f2) ((rd_T54 l0_0 x31_2).f3.f0.f0) ((rd_T54 l0_0 x31_2).f3.f0.f1) ((rd_T54 l0_0 x31_2).f3.f0.f2) ((rd_T54 l0_0 x31_2).f3.f1.f0) ((rd_T54 l0_0 x31_2).f3.f1.f1) ((rd_T54 l0_0 x31_2).f3.f1.f2) ((rd_T54 l0_0 x31_2).f3.f2.f0) ((rd_T54 l0_0 x31_2).f3.f2.f1) ((rd_T54 l0_0 x31_2).f3.f2.f2) ((rd_T54 l0_0 x31_2).f3.f3.f0) ((rd_T54 l0_0 x31_2).f3.f3.f1) ((rd_T54 l0_0 x31_2).f3.f3.f2) ((rd_T54 l0_0 x31_2).f3.f4.f0) ((rd_T54 l0_0 x31_2).f3.f4.f1) ((rd_T54 l0_0 x31_2).f3.f4.f2) ((rd_T54 l0_0 x31_2).f3.f5.f0) ((rd_T54 l0_0 x31_2).f3.f5.f1) ((rd_T54 l0_0 x31_2).f3.f5.f2) t111 _ A14.out).mono ?_); rintro e w18 ⟨rfl, hb⟩; refine ⟨_, rfl, ?_⟩; replace BK108 := am (blk_below (o := .cells #[.slice (some ad109) l0_0.length c0_0, .slice A0_1 l0_1.length c0_1] 43 (0, 0)) (kz BK108) hb); replace BK110 := am (blk_below (o := .cells #[.int .i64 ((rd_T54 l0_0 x31_2).f0.f0), .int .i64 ((rd_T54 l0_0 x31_2).f0.f1), .int .i64 ((rd_T54 l0_0 x31_2).f1), .int .i64 ((rd_T54 l0_0 x31_2).f2), .int .i64 ((rd_T54 l0_0 x31_2).f3.f0.f0), .int .i64 ((rd_T54 l0_0 x31_2).f3.f0.f1), .int .i64 ((rd_T54 l0_0 x31_2).f3.f0.f2), .int .i64 ((rd_T54 l0_0 x31_2).f3.f1.f0), .int .i64 ((rd_T54 l0_0 x31_2).f3.f1.f1), .int .i64 ((rd_T54 l0_0 x31_2).f3.f1.f2), .int .i64 ((rd_T54 l0_0 x31_2).f3.f2.f0), .int .i64 ((rd_T54 l0_0 x31_2).f3.f2.f1), .int .i64 ((rd_T54 l0_0 x31_2).f3.f2.f2), .int .i64 ((rd_T54 l0_0 x31_2).f3.f3.f0), .int .i64 ((rd_T54 l0_0 x31_2).f3.f3.f1), .int .i64 ((rd_T54 l0_0 x31_2).f3.f3.f2), .int .i64 ((rd_T54 l0_0 x31_2).f3.f4.f0), .int .i64 ((rd_T54 l0_0 x31_2).f3.f4.f1), .int .i64 ((rd_T54 l0_0 x31_2).f3.f4.f2), .int .i64 ((rd_T54 l0_0 x31_2).f3.f5.f0), .int .i64 ((rd_T54 l0_0 x31_2).f3.f5.f1), .int .i64 ((rd_T54 l0_0 x31_2).f3.f5.f2)] 54 (0, 0)) (kz BK110) hb); replace HB := am (below_step bz hb); (try clear hb); (try clear hb2); (try clear hk); (try clear hi)))
        first
        | (have _ := tw1a
           go_roundg k2
           case measure => have := HJ1.out; have := HK2.out; omega
           case rel => exact ⟨(wrap64 (x31_2 + 1)), sz, H', ⟨by have := HJ1.out; have := HK2.out; omega⟩, ⟨kz BK108⟩, ⟨bz⟩⟩)
        | (have _ := tw1b
           go_ret
           exact ⟨ez, bz⟩)
      ·
       rw [if_neg c11] at H
       have c11b0 := decide_eq_false c11
       clear c11
       have H' := am H
       clear H
       obtain ⟨hcz22_0, hcz22_1, hfz22_0, hfz22_1⟩ := kc2 BK108.out
       go_wp2
       go_loopg [44] k2 (fun kq v44 w' => ∃ (x44_3 : Int), v44 = .int .i64 x44_3 ∧ Aside0 (movement_Check.l1 kq l0_1 (l0_1.length : Int) x44_3 = some r) ∧ Aside0 (kq ≤ k2) ∧ Aside0 (w'.heap[gb108]? = some (.cells #[(.slice A0_0 l0_0.length c0_0), (.slice A0_1 l0_1.length c0_1)] 43 (0, 0))) ∧ Aside0 (Below w.heap.size w w'))
       case atStart => exact ⟨(0), sz, H', ⟨Nat.le_refl _⟩, ⟨kz BK108⟩, ⟨bz⟩⟩
       case round =>
        clear H'
        try clear c1
        try clear p1
        try clear q1
        try clear c2
        try clear p2
        try clear c4
        try clear c4b0
        try clear c4b1
        try clear c6
        try clear c6b0
        try clear c6b1
        try clear p6
        try clear c9
        try clear p10
        try clear q10
        try clear c11
        try clear c11b0
        try clear c12
        try clear c12b0
        try clear c13
        try clear c13b0
        try clear c15
        try clear c15b0
        try clear c15b1
        try clear hcz10_0
        try clear hcz10_1
        try clear hcz22_0
        try clear hcz22_1
        try clear hcz5_0
        try clear hcz5_1
        try clear hcz7_0
        try clear hcz7_1
        try clear hcz8_0
        try clear hcz8_1
        try clear hfz10_0
        try clear hfz10_1
        try clear hfz22_0
        try clear hfz22_1
        try clear hfz5_0
        try clear hfz5_1
        try clear hfz7_0
        try clear hfz7_1
        try clear hfz8_0
        try clear hfz8_1
        try clear p109
        try clear p2
        try clear p6
        try clear q109
        obtain ⟨x44_3, rfl, HA, HK3, BK108, HB⟩ := hrel
        cases gk with
        | zero => exact absurd HA.out (by simp [movement_Check.l1])
        | succ k3 =>
         have H := HA.out
         clear HA
         simp only [movement_Check.l1] at H
         by_cases c23 : x44_3 < (l0_1.length : Int)
         ·
          rw [if_pos c23] at H
          have c23b0 := decide_eq_true c23
          clear c23
          by_cases c24 : 0 ≤ x44_3; rotate_left
          · rw [if_neg c24] at H; exact absurd H (by simp)
          rw [if_pos c24] at H
          have c24b0 := decide_eq_true c24
          clear c24
          by_cases c25 : x44_3 < (l0_1.length : Int); rotate_left
          · rw [if_neg c25] at H; exact absurd H (by simp)
          rw [if_pos c25] at H
          have c25b0 := decide_eq_true c25
          clear c25
          by_cases c26 : (rd l0_1 x44_3) < 0
          ·
           rw [if_pos c26] at H
           have c26b0 := decide_eq_true c26
           clear c26
           obtain rfl := Option.some.inj H
           have p112 : 0 ≤ (x44_3 : Int) := az
           have q112 : x44_3 < (l0_1.length : Int) := az
           obtain ⟨ad112, e112, hx112_0⟩ := Kd.at_int HR0_1.out x44_3 p112 q112
           cases e112
           replace hx112_0 := cb HB.out hx112_0
           replace p112 := eq_true p112
           replace q112 := eq_true q112
           go_wp2
           go_ret
           exact ⟨ez, bz⟩
          ·
           rw [if_neg c26] at H
           have c26b0 := decide_eq_false c26
           clear c26
           by_cases c27 : (rd l0_1 x44_3) > 3
           ·
            rw [if_pos c27] at H
            have c27b0 := decide_eq_true c27
            clear c27
            obtain rfl := Option.some.inj H
            have p112 : 0 ≤ (x44_3 : Int) := az
            have q112 : x44_3 < (l0_1.length : Int) := az
            obtain ⟨ad112, e112, hx112_0⟩ := Kd.at_int HR0_1.out x44_3 p112 q112
            cases e112
            replace hx112_0 := cb HB.out hx112_0
            replace p112 := eq_true p112
            replace q112 := eq_true q112
            go_wp2
            go_ret
            exact ⟨ez, bz⟩
           ·
            rw [if_neg c27] at H
            have c27b0 := decide_eq_false c27
            clear c27
            have H' := am H
            clear H
            have p112 : 0 ≤ (x44_3 : Int) := az
            have q112 : x44_3 < (l0_1.length : Int) := az
            obtain ⟨ad112, e112, hx112_0⟩ := Kd.at_int HR0_1.out x44_3 p112 q112
            cases e112
            replace hx112_0 := cb HB.out hx112_0
            replace p112 := eq_true p112
            replace q112 := eq_true q112
            go_wp2
            go_roundg k3
            case measure => have := HJ1.out; have := HK2.out; have := HK3.out; omega
            case rel => exact ⟨(wrap64 (x44_3 + 1)), sz, H', ⟨by have := HJ1.out; have := HK2.out; have := HK3.out; omega⟩, ⟨kz BK108⟩, ⟨bz⟩⟩
         ·
          rw [if_neg c23] at H
          have c23b0 := decide_eq_false c23
          clear c23
          obtain rfl := Option.some.inj H
          go_wp2
          go_ret
          exact ⟨ez, bz⟩

end Go.Proofs.Yteflngoiebgdaaa.X
