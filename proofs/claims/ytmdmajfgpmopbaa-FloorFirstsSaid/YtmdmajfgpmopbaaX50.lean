import Derived.Test.YtmdmajfgpmopbaaX0
import Derived.Test.YtmdmajfgpmopbaaX49
namespace Go.Proofs.Ytmdmajfgpmopbaa.X
open Go.RowKit YtmdmajfgpmopbaaW.PrintWords YtmdmajfgpmopbaaW.PrintLast YtmdmajfgpmopbaaW.PrintMore
attribute [local go_sem] max2_int min2_int max_two min_two max_three min_three max_four min_four
set_option linter.unusedVariables false
set_option linter.unusedSimpArgs false

/-! ### dancestudioref42_Check: function 32 -/
mutual
def dancestudioref42_Check.j0 : Nat → Bool → Int → Int → List (S64) → Option (Int)
 | 0, _, _, _, _ => none
 | k + 1, x27, x420000, x420001, x420002 => if x27 = true then (some 29) else (if (x420002.length : Int) > 16 then (some 3) else (dancestudioref42_Check.l0 k 0 x420000 x420001 x420002))
def dancestudioref42_Check.l0 : Nat → Int → Int → Int → List (S64) → Option (Int)
 | 0, _, _, _, _ => none
 | k + 1, x3, x420000, x420001, x420002 => if x3 < (x420002.length : Int) then (if 0 ≤ x3 then ((dancestudioref42_on.f x420000 x420001 x420002 ((rd_T64 x420002 x3).f0.f0) ((rd_T64 x420002 x3).f0.f1)).bind fun t421 => (if t421 = true then (if ((rd_T64 x420002 x3).f1) < 1 then (some 29) else (if ((rd_T64 x420002 x3).f1) > 32768 then (some 29) else (dancestudioref42_Check.l0 k (wrap64 (x3 + 1)) x420000 x420001 x420002))) else (some 29))) else (none)) else (some 0)
end
def dancestudioref42_Check.f (k : Nat) (a0_0 a0_1 : Int) (l0_2 : List (S64)) : Option (Int) := if a0_0 < 2 then (dancestudioref42_Check.j0 k true a0_0 a0_1 l0_2) else (if a0_0 > 65536 then (dancestudioref42_Check.j0 k true a0_0 a0_1 l0_2) else (if (Int.tmod a0_0 2) = 0 then (if a0_1 < 1 then (dancestudioref42_Check.j0 k true a0_0 a0_1 l0_2) else (dancestudioref42_Check.j0 k (decide (a0_1 > 32768)) a0_0 a0_1 l0_2)) else (dancestudioref42_Check.j0 k true a0_0 a0_1 l0_2)))
theorem dancestudioref42_Check.mono_l : ∀ k, (∀ y0 y1 y2 y3, LeO (dancestudioref42_Check.j0 k y0 y1 y2 y3) (dancestudioref42_Check.j0 (k + 1) y0 y1 y2 y3)) ∧ (∀ y0 y1 y2 y3, LeO (dancestudioref42_Check.l0 k y0 y1 y2 y3) (dancestudioref42_Check.l0 (k + 1) y0 y1 y2 y3))
 | 0 => ⟨fun _ _ _ _ r h => by simp [dancestudioref42_Check.j0] at h, fun _ _ _ _ r h => by simp [dancestudioref42_Check.l0] at h⟩
 | k + 1 => by
  obtain ⟨ih0, ih1⟩ := dancestudioref42_Check.mono_l k
  refine ⟨?_, ?_⟩
  ·
   intro y0 y1 y2 y3
   unfold dancestudioref42_Check.j0
   repeat' first
   | (with_reducible exact ih0 _ _ _ _)
   | (with_reducible exact ih1 _ _ _ _)
   | (with_reducible exact LeO.refl _)
   | (with_reducible exact LeO.none _)
   | (with_reducible refine LeO.ite ?_ ?_)
   | (with_reducible refine LeO.bind ?_ (fun _ => ?_))
   | exact ih0 _ _ _ _
   | exact ih1 _ _ _ _
   | exact LeO.none _
   | refine LeO.ite ?_ ?_
   | refine LeO.bind ?_ (fun _ => ?_)
  ·
   intro y0 y1 y2 y3
   unfold dancestudioref42_Check.l0
   repeat' first
   | (with_reducible exact ih0 _ _ _ _)
   | (with_reducible exact ih1 _ _ _ _)
   | (with_reducible exact LeO.refl _)
   | (with_reducible exact LeO.none _)
   | (with_reducible refine LeO.ite ?_ ?_)
   | (with_reducible refine LeO.bind ?_ (fun _ => ?_))
   | exact ih0 _ _ _ _
   | exact ih1 _ _ _ _
   | exact LeO.none _
   | refine LeO.ite ?_ ?_
   | refine LeO.bind ?_ (fun _ => ?_)
theorem dancestudioref42_Check.mono : ∀ a0 a1 a2 k, LeO (dancestudioref42_Check.f k a0 a1 a2) (dancestudioref42_Check.f (k + 1) a0 a1 a2) := by
 intro a0 a1 a2 k
 obtain ⟨ih0, ih1⟩ := dancestudioref42_Check.mono_l k
 unfold dancestudioref42_Check.f
 repeat' first
   | (with_reducible exact ih0 _ _ _ _)
   | (with_reducible exact ih1 _ _ _ _)
   | (with_reducible exact LeO.refl _)
   | (with_reducible exact LeO.none _)
   | (with_reducible refine LeO.ite ?_ ?_)
   | (with_reducible refine LeO.bind ?_ (fun _ => ?_))
   | exact ih0 _ _ _ _
   | exact ih1 _ _ _ _
   | exact LeO.none _
   | refine LeO.ite ?_ ?_
   | refine LeO.bind ?_ (fun _ => ?_)
def dancestudioref42_Check.T8 : Bool × List (List Nat × List Nat) := (true, [([], []), ([], []), ([1], [1]), ([], []), ([2, 3], [2, 3]), ([4], [4]), ([5], [5]), ([0, 6], [0, 6]), ([7], [7]), ([8, 7], [8]), ([9], [9]), ([10, 9], [9, 10]), ([9], [9]), ([11, 12, 9], [9, 11, 12]), ([13, 9], [9, 13]), ([14, 9], [9, 14]), ([15, 9], [9, 15]), ([9, 16], [9, 16]), ([17, 9], [17]), ([18], [18]), ([19, 18], [18, 19]), ([18], [18]), ([20, 21, 18], [18, 20, 21]), ([22, 18], [18, 22]), ([23, 18], [18, 23]), ([24, 18], [18, 24]), ([18, 25], [18, 25])])
def dancestudioref42_Check.B8 : List Nat := [0, 0, 2, 0, 14, 30, 62, 127, 255, 511, 1023, 2047, 1023, 8191, 16383, 32767, 65535, 131071, 262143, 524287, 1048575, 524287, 4194303, 8388607, 16777215, 33554431, 67108863]
theorem dancestudioref42_Check.tab8 : rtab .any (opsOf Try.f32 8) = dancestudioref42_Check.T8 := by kernel_rfl
theorem dancestudioref42_Check.bits8 : waitsOk dancestudioref42_Check.T8.2 dancestudioref42_Check.B8 = true := by kernel_rfl
set_option maxHeartbeats 8000000 in
set_option maxRecDepth 100000 in
theorem dancestudioref42_Check.calls (k : Nat) (a0_0 a0_1 : Int) (A0_2 : Option Addr) (c0_2 : Nat) (l0_2 : List (S64)) (r : Int) (w : World) (hr0_2 : Kd.C k64 w A0_2 l0_2.length l0_2) (hc0_2 : l0_2.length ≤ c0_2) (h : dancestudioref42_Check.f k a0_0 a0_1 l0_2 = some r) :
  Calls Try.prog 32 #[.agg #[.int .i64 a0_0, .int .i64 a0_1, .slice A0_2 l0_2.length c0_2]] w fun e w' => e = .returned (.int .i64 r) ∧ Below w.heap.size w w' := by
 have hu42 := Try.underlying42
 have hu35 := Try.underlying35
 have HR0_2 := am hr0_2
 have HC0_2 := am hc0_2
 clear hr0_2 hc0_2
 have HB := am (Below.refl w.heap.size w)
 have H : (if a0_0 < 2 then (dancestudioref42_Check.j0 k true a0_0 a0_1 l0_2) else (if a0_0 > 65536 then (dancestudioref42_Check.j0 k true a0_0 a0_1 l0_2) else (if (Int.tmod a0_0 2) = 0 then (if a0_1 < 1 then (dancestudioref42_Check.j0 k true a0_0 a0_1 l0_2) else (dancestudioref42_Check.j0 k (decide (a0_1 > 32768)) a0_0 a0_1 l0_2)) else (dancestudioref42_Check.j0 k true a0_0 a0_1 l0_2)))) = some r := h
 clear h
 have HC2 := am H
 clear H
 go_enter Try.func32, Try.ntmps32
 go_upto_region 1 with (first | ((with_reducible refine gate_dst (N := 1) rfl ?_); refine box_event yz (N := 1) yz (cs := #[.int .i64 a0_0, .int .i64 a0_1, .slice A0_2 l0_2.length c0_2]) (t := 42) gz ?_; intro gb419 hg w3 hbox hb; have BK419 := am (hbox); have GW419 := gwz (g := gb419) HB hg; have GE419 := GW419; replace HB := am (below_step bz hb); clear hb hbox hg))
 (try simp only [Act.put, List.setIfInBounds_toArray, List.set_cons_zero, List.set_cons_succ])
 go_cut [27] (fun v27 wc => ∃ (kq : Nat) (x27_1 : Bool), v27 = .bool x27_1 ∧ Aside0 (dancestudioref42_Check.j0 kq x27_1 a0_0 a0_1 l0_2 = some r) ∧ Aside0 (kq ≤ k) ∧ Aside0 (wc.heap[gb419]? = some (.cells #[.int .i64 a0_0, .int .i64 a0_1, (.slice A0_2 l0_2.length c0_2)] 42 (0, 0))) ∧ Aside0 (Below w.heap.size w wc))
 case first =>
  have H := HC2.out
  clear HC2
  by_cases c4 : a0_0 < 2
  ·
   rw [if_pos c4] at H
   have c4b0 := decide_eq_true c4
   clear c4
   (first | rw [c4b0] | (simp only [i64_w, i32_w]; rw [c4b0]) | skip)
   have H' := am H
   clear H
   obtain ⟨hcz5_0, hcz5_1, hcz5_2, hfz5_0, hfz5_1, hfz5_2⟩ := kc3 BK419.out
   go_wp2
   go_meet
   case rel => exact ⟨_, (true), sz, H', ⟨by first | omega | exact Nat.le_refl _⟩, ⟨kz BK419⟩, ⟨bz⟩⟩
  ·
   rw [if_neg c4] at H
   have c4b0 := decide_eq_false c4
   clear c4
   (first | rw [c4b0] | (simp only [i64_w, i32_w]; rw [c4b0]) | skip)
   by_cases c6 : a0_0 > 65536
   ·
    rw [if_pos c6] at H
    have c6b0 := decide_eq_true c6
    clear c6
    have H' := am H
    clear H
    obtain ⟨hcz7_0, hcz7_1, hcz7_2, hfz7_0, hfz7_1, hfz7_2⟩ := kc3 BK419.out
    go_wp2
    go_meet
    case rel => exact ⟨_, (true), sz, H', ⟨by first | omega | exact Nat.le_refl _⟩, ⟨kz BK419⟩, ⟨bz⟩⟩
   ·
    rw [if_neg c6] at H
    have c6b0 := decide_eq_false c6
    clear c6
    by_cases c8 : (Int.tmod a0_0 2) = 0
    ·
     rw [if_pos c8] at H
     have c8b0 : ((Int.tmod a0_0 2) == 0) = true := beq_iff_eq.mpr c8
     have c8b1 : ((Int.tmod a0_0 2) != 0) = false := bne_eq_false_iff_eq.mpr c8
     clear c8
     by_cases c9 : a0_1 < 1
     ·
      rw [if_pos c9] at H
      have c9b0 := decide_eq_true c9
      clear c9
      have H' := am H
      clear H
      obtain ⟨hcz10_0, hcz10_1, hcz10_2, hfz10_0, hfz10_1, hfz10_2⟩ := kc3 BK419.out
      go_wp2
      go_meet
      case rel => exact ⟨_, (true), sz, H', ⟨by first | omega | exact Nat.le_refl _⟩, ⟨kz BK419⟩, ⟨bz⟩⟩
     ·
      rw [if_neg c9] at H
      have c9b0 := decide_eq_false c9
      clear c9
      have H' := am H
      clear H
      obtain ⟨hcz11_0, hcz11_1, hcz11_2, hfz11_0, hfz11_1, hfz11_2⟩ := kc3 BK419.out
      go_wp2
      go_meet
      case rel => exact ⟨_, (decide (a0_1 > 32768)), sz, H', ⟨by first | omega | exact Nat.le_refl _⟩, ⟨kz BK419⟩, ⟨bz⟩⟩
    ·
     rw [if_neg c8] at H
     have c8b0 : ((Int.tmod a0_0 2) == 0) = false := beq_eq_false_iff_ne.mpr c8
     have c8b1 : ((Int.tmod a0_0 2) != 0) = true := bne_iff_ne.mpr c8
     have H' := am H
     clear H
     obtain ⟨hcz12_0, hcz12_1, hcz12_2, hfz12_0, hfz12_1, hfz12_2⟩ := kc3 BK419.out
     go_wp2
     go_meet
     case rel => exact ⟨_, (true), sz, H', ⟨by first | omega | exact Nat.le_refl _⟩, ⟨kz BK419⟩, ⟨bz⟩⟩
 case rest =>
  clear HC2
  try clear p2
  try clear c3
  try clear c4
  try clear c4b0
  try clear c6
  try clear c6b0
  try clear c8
  try clear c8b0
  try clear c8b1
  try clear c9
  try clear c9b0
  try clear hcz10_0
  try clear hcz10_1
  try clear hcz10_2
  try clear hcz11_0
  try clear hcz11_1
  try clear hcz11_2
  try clear hcz12_0
  try clear hcz12_1
  try clear hcz12_2
  try clear hcz5_0
  try clear hcz5_1
  try clear hcz5_2
  try clear hcz7_0
  try clear hcz7_1
  try clear hcz7_2
  try clear hfz10_0
  try clear hfz10_1
  try clear hfz10_2
  try clear hfz11_0
  try clear hfz11_1
  try clear hfz11_2
  try clear hfz12_0
  try clear hfz12_1
  try clear hfz12_2
  try clear hfz5_0
  try clear hfz5_1
  try clear hfz5_2
  try clear hfz7_0
  try clear hfz7_1
  try clear hfz7_2
  obtain ⟨kq, x27_1, rfl, HA, HJ1, BK419, HB⟩ := hcut
  cases kq with
  | zero => exact absurd HA.out (by simp [dancestudioref42_Check.j0])
  | succ kj1 =>
   have H := HA.out
   clear HA
   simp only [dancestudioref42_Check.j0] at H
   by_cases c13 : x27_1 = true
   ·
    subst c13
    have H1 : (some 29) = some r := by rw [if_pos rfl] at H; exact H
    clear H
    have H := H1
    clear H1
    obtain rfl := Option.some.inj H
    go_wp2
    go_ret
    exact ⟨ez, bz⟩
   ·
    replace c13 := Bool.eq_false_iff.mpr c13
    subst c13
    have H1 : (if (l0_2.length : Int) > 16 then (some 3) else (dancestudioref42_Check.l0 kj1 0 a0_0 a0_1 l0_2)) = some r := by rw [if_neg (show ¬ (false = true) by decide)] at H; exact H
    clear H
    have H := H1
    clear H1
    by_cases c14 : (l0_2.length : Int) > 16
    ·
     rw [if_pos c14] at H
     have c14b0 := decide_eq_true c14
     have c14b1 : decide (16 < l0_2.length) = true := decide_eq_true (by omega)
     clear c14
     obtain rfl := Option.some.inj H
     obtain ⟨hcz15_0, hcz15_1, hcz15_2, hfz15_0, hfz15_1, hfz15_2⟩ := kc3 BK419.out
     go_wp2
     go_ret
     exact ⟨ez, bz⟩
    ·
     rw [if_neg c14] at H
     have c14b0 := decide_eq_false c14
     have c14b1 : decide (16 < l0_2.length) = false := decide_eq_false (by omega)
     clear c14
     have H' := am H
     clear H
     obtain ⟨hcz16_0, hcz16_1, hcz16_2, hfz16_0, hfz16_1, hfz16_2⟩ := kc3 BK419.out
     go_wp2
     go_loopg [3] kj1 (fun kq v3 w' => ∃ (x3_2 : Int), v3 = .int .i64 x3_2 ∧ Aside0 (dancestudioref42_Check.l0 kq x3_2 a0_0 a0_1 l0_2 = some r) ∧ Aside0 (kq ≤ kj1) ∧ Aside0 (w'.heap[gb419]? = some (.cells #[.int .i64 a0_0, .int .i64 a0_1, (.slice A0_2 l0_2.length c0_2)] 42 (0, 0))) ∧ Aside0 (Below w.heap.size w w'))
     case atStart => exact ⟨(0), sz, H', ⟨Nat.le_refl _⟩, ⟨kz BK419⟩, ⟨bz⟩⟩
     case round =>
      clear H'
      try clear c1
      try clear p2
      try clear c3
      try clear c4
      try clear c4b0
      try clear c6
      try clear c6b0
      try clear c8
      try clear c8b0
      try clear c8b1
      try clear c9
      try clear c9b0
      try clear c13
      try clear c14
      try clear c14b0
      try clear c14b1
      try clear hcz10_0
      try clear hcz10_1
      try clear hcz10_2
      try clear hcz11_0
      try clear hcz11_1
      try clear hcz11_2
      try clear hcz12_0
      try clear hcz12_1
      try clear hcz12_2
      try clear hcz15_0
      try clear hcz15_1
      try clear hcz15_2
      try clear hcz16_0
      try clear hcz16_1
      try clear hcz16_2
      try clear hcz5_0
      try clear hcz5_1
      try clear hcz5_2
      try clear hcz7_0
      try clear hcz7_1
      try clear hcz7_2
      try clear hfz10_0
      try clear hfz10_1
      try clear hfz10_2
      try clear hfz11_0
      try clear hfz11_1
      try clear hfz11_2
      try clear hfz12_0
      try clear hfz12_1
      try clear hfz12_2
      try clear hfz15_0
      try clear hfz15_1
      try clear hfz15_2
      try clear hfz16_0
      try clear hfz16_1
      try clear hfz16_2
      try clear hfz5_0
      try clear hfz5_1
      try clear hfz5_2
      try clear hfz7_0
      try clear hfz7_1
      try clear hfz7_2
      try clear p2
      obtain ⟨x3_2, rfl, HA, HK2, BK419, HB⟩ := hrel
      cases gk with
      | zero => exact absurd HA.out (by simp [dancestudioref42_Check.l0])
      | succ k2 =>
       have H := HA.out
       clear HA
       simp only [dancestudioref42_Check.l0] at H
       by_cases c17 : x3_2 < (l0_2.length : Int)
       ·
        rw [if_pos c17] at H
        have c17b0 := decide_eq_true c17
        clear c17
        by_cases c18 : 0 ≤ x3_2; rotate_left
        · rw [if_neg c18] at H; exact absurd H (by simp)
        rw [if_pos c18] at H
        have c18b0 := decide_eq_true c18
        clear c18
        replace H := Option.bind_eq_some_iff.mp H
        obtain ⟨t421, A190, H⟩ := H
        replace H : (if t421 = true then (if ((rd_T64 l0_2 x3_2).f1) < 1 then (some 29) else (if ((rd_T64 l0_2 x3_2).f1) > 32768 then (some 29) else (dancestudioref42_Check.l0 k2 (wrap64 (x3_2 + 1)) a0_0 a0_1 l0_2))) else (some 29)) = some r := H
        have A19 := am A190
        clear A190
        by_cases c20 : t421 = true
        ·
         subst c20
         have H1 : (if ((rd_T64 l0_2 x3_2).f1) < 1 then (some 29) else (if ((rd_T64 l0_2 x3_2).f1) > 32768 then (some 29) else (dancestudioref42_Check.l0 k2 (wrap64 (x3_2 + 1)) a0_0 a0_1 l0_2))) = some r := by rw [if_pos rfl] at H; exact H
         clear H
         have H := H1
         clear H1
         by_cases c21 : ((rd_T64 l0_2 x3_2).f1) < 1
         ·
          rw [if_pos c21] at H
          have c21b0 := decide_eq_true c21
          clear c21
          obtain rfl := Option.some.inj H
          obtain ⟨hcz22_0, hcz22_1, hcz22_2, hfz22_0, hfz22_1, hfz22_2⟩ := kc3 BK419.out
          try go_wp2
          have n0_ := am (blk_drew BK419.out)
          have n1_ := am (below_drew1 HB.out)
          clear BK419
          clear HB
          have BK419 := n0_
          have HB := n1_
          clear n0_ n1_
          have p420 : 0 ≤ (x3_2 : Int) := az
          have q420 : x3_2 < (l0_2.length : Int) := az
          obtain ⟨ad420, e420, hx420_0, hx420_1, hx420_2⟩ := at_T64 HR0_2.out x3_2 p420 q420
          have hw420_2 := hx420_2
          have hw420_1 := hx420_1
          have hw420_0 := hx420_0
          cases e420
          replace hx420_0 := cb HB.out hx420_0
          replace hx420_1 := cb HB.out hx420_1
          replace hx420_2 := cb HB.out hx420_2
          replace p420 := eq_true p420
          replace q420 := eq_true q420
          have p422 : 0 ≤ (x3_2 : Int) := az
          have q422 : x3_2 < (l0_2.length : Int) := az
          obtain ⟨ad422, e422, hx422_0, hx422_1, hx422_2⟩ := at_T64 HR0_2.out x3_2 p422 q422
          have hw422_2 := hx422_2
          have hw422_1 := hx422_1
          have hw422_0 := hx422_0
          obtain rfl : ad420 = ad422 := (by injection e422)
          replace hx422_0 := cb HB.out hx422_0
          replace hx422_1 := cb HB.out hx422_1
          replace hx422_2 := cb HB.out hx422_2
          replace p422 := eq_true p422
          replace q422 := eq_true q422
          refine start_ (n := 27) (S := fun w' => w'.cell? ⟨gb419, 0, none⟩ = some (.int .i64 a0_0) ∧ w'.cell? ⟨gb419, 1, none⟩ = some (.int .i64 a0_1) ∧ w'.cell? ⟨gb419, 2, none⟩ = some (.slice (some ad420) l0_2.length c0_2) ∧ w'.cell? (ad420.add ((x3_2).toNat * 3)) = some (.int .i64 ((rd_T64 l0_2 x3_2).f0.f0)) ∧ w'.cell? ⟨(ad420.add ((x3_2).toNat * 3)).block, (ad420.add ((x3_2).toNat * 3)).off + 1, none⟩ = some (.int .i64 ((rd_T64 l0_2 x3_2).f0.f1)) ∧ w'.cell? ⟨(ad420.add ((x3_2).toNat * 3)).block, (ad420.add ((x3_2).toNat * 3)).off + 2, none⟩ = some (.int .i64 ((rd_T64 l0_2 x3_2).f1)) ∧ w'.cell? (ad420.add ((x3_2).toNat * 3)) = some (.int .i64 ((rd_T64 l0_2 x3_2).f0.f0)) ∧ w'.cell? ⟨(ad420.add ((x3_2).toNat * 3)).block, (ad420.add ((x3_2).toNat * 3)).off + 1, none⟩ = some (.int .i64 ((rd_T64 l0_2 x3_2).f0.f1)) ∧ w'.cell? ⟨(ad420.add ((x3_2).toNat * 3)).block, (ad420.add ((x3_2).toNat * 3)).off + 2, none⟩ = some (.int .i64 ((rd_T64 l0_2 x3_2).f1))) (ds := []) (bm 27 0) qz rfl rfl ⟨(blk_cell BK419.out 0).trans rfl, (blk_cell BK419.out 1).trans rfl, (blk_cell BK419.out 2).trans rfl, (cb HB.out hw420_0), (cb HB.out hw420_1), (cb HB.out hw420_2), (cb HB.out hw422_0), (cb HB.out hw422_1), (cb HB.out hw422_2)⟩ (fun hHeld => ?_); refine with_tabW dancestudioref42_Check.tab8 dancestudioref42_Check.bits8 (fun HT_ HW_ => ?_)
          generalize wr.drew = w23 at BK419 HB hx420_0 hx420_1 hx420_2 hx422_0 hx422_1 hx422_2 hHeld ⊢
          refine pa (i := 1) (N := some 40) (bm 27 2) HT_ ?_
          refine pa (i := 3) (N := some 42) (bm 27 10) HT_ ?_
          refine take_ (i := 0) (N := some 39) (v := ?_) (a' := ?_) (bm 27 11) rfl rfl (take_ofW HT_.out HW_.out qz) iz (Or.inl ⟨by rfl, ?_⟩) hHeld ?_ ?_
          rotate_left
          ·
           rintro w' ⟨s0, s1, s2, s3, s4, s5, s6, s7, s8⟩
           go_simp
           with_reducible rfl
          rotate_left
          ·
           simp only [Act.put, aS, lZ, lS, i64_w, i32_w]
           rfl
          refine take_ (i := 2) (N := some 41) (v := ?_) (a' := ?_) (bm 27 15) rfl rfl (take_ofW HT_.out HW_.out qz) iz (Or.inl ⟨by rfl, ?_⟩) hHeld ?_ ?_
          rotate_left
          ·
           rintro w' ⟨s0, s1, s2, s3, s4, s5, s6, s7, s8⟩
           go_simp
           with_reducible rfl
          rotate_left
          ·
           simp only [Act.put, aS, lZ, lS, i64_w, i32_w]
           rfl
          refine pa (i := 4) (N := some 43) (bm 27 31) HT_ ?_
          refine pa (i := 5) (N := some 44) (bm 27 63) HT_ ?_
          refine take_ (i := 6) (N := some 45) (v := ?_) (a' := ?_) (bm 27 127) rfl rfl (take_ofW HT_.out HW_.out qz) iz (Or.inl ⟨by rfl, ?_⟩) hHeld ?_ ?_
          rotate_left
          ·
           rintro w' ⟨s0, s1, s2, s3, s4, s5, s6, s7, s8⟩
           go_simp
           with_reducible rfl
          rotate_left
          ·
           simp only [Act.put, aS, lZ, lS, i64_w, i32_w]
           rfl
          refine one_ (i := 7) (N := some 46) (bm 27 255) rfl rfl (one_of HT_.out qz) (by decide) (fun K hK => ?_)
          refine goes_ Try.func43 qz rfl #[.agg #[.int .i64 a0_0, .int .i64 a0_1, .slice (some ad420) l0_2.length c0_2], .agg #[.int .i64 ((rd_T64 l0_2 x3_2).f0.f0), .int .i64 ((rd_T64 l0_2 x3_2).f0.f1)]] (by rfl) rfl rfl mz ?_
          with_reducible refine (dancestudioref42_on.calls a0_0 a0_1 _ _ l0_2 ((rd_T64 l0_2 x3_2).f0.f0) ((rd_T64 l0_2 x3_2).f0.f1) true _ ?side1 ?side2 A19.out).mono ?_
          (case side1 => exact cz HR0_2)
          (case side2 => exact HC0_2.out)
          rintro e w24 ⟨rfl, hb⟩
          refine ⟨_, rfl, ?_⟩
          have n0_ := am (blk_below (o := .cells #[.int .i64 a0_0, .int .i64 a0_1, .slice (some ad420) l0_2.length c0_2] 42 (0, 0)) (kz BK419) hb)
          have n1_ := am (below_step bz hb)
          clear BK419
          clear HB
          have BK419 := n0_
          have HB := n1_
          clear n0_ n1_
          (try clear hb)
          (try clear hb2)
          (try clear hk)
          (try clear hi)
          refine hK.out _ _ ⟨(blk_cell BK419.out 0).trans rfl, (blk_cell BK419.out 1).trans rfl, (blk_cell BK419.out 2).trans rfl, (cb HB.out hw420_0), (cb HB.out hw420_1), (cb HB.out hw420_2), (cb HB.out hw422_0), (cb HB.out hw422_1), (cb HB.out hw422_2)⟩ (fun hHeld => ?_)
          clear hK K
          refine norm_ (a' := ?_) ?_ ?_
          rotate_left
          ·
           show Act.put _ (some 46) _ = _
           simp only [Act.put, aS, lZ, lS, i64_w, i32_w]
           rfl
          refine pa (i := 8) (N := some 47) (bm 27 511) HT_ ?_
          refine pa (i := 9) (N := some 48) (bm 27 1023) HT_ ?_
          refine pa (i := 10) (N := some 49) (bm 27 2047) HT_ ?_
          refine pa (i := 12) (N := some 51) (bm 27 6143) HT_ ?_
          refine take_ (i := 11) (N := some 50) (v := ?_) (a' := ?_) (bm 27 8191) rfl rfl (take_ofW HT_.out HW_.out qz) iz (Or.inl ⟨by rfl, ?_⟩) hHeld ?_ ?_
          rotate_left
          ·
           rintro w' ⟨s0, s1, s2, s3, s4, s5, s6, s7, s8⟩
           go_simp
           with_reducible rfl
          rotate_left
          ·
           simp only [Act.put, aS, lZ, lS, i64_w, i32_w]
           rfl
          refine pa (i := 13) (N := some 52) (bm 27 16383) HT_ ?_
          refine pa (i := 14) (N := some 53) (bm 27 32767) HT_ ?_
          refine take_ (i := 15) (N := some 54) (v := ?_) (a' := ?_) (bm 27 65535) rfl rfl (take_ofW HT_.out HW_.out qz) iz (Or.inl ⟨by rfl, ?_⟩) hHeld ?_ ?_
          rotate_left
          ·
           rintro w' ⟨s0, s1, s2, s3, s4, s5, s6, s7, s8⟩
           go_simp
           with_reducible rfl
          rotate_left
          ·
           simp only [Act.put, aS, lZ, lS, i64_w, i32_w]
           rfl
          refine pa (i := 16) (N := some 55) (bm 27 131071) HT_ ?_
          refine pa (i := 17) (N := some 56) (bm 27 262143) HT_ ?_
          refine pa (i := 18) (N := some 57) (bm 27 524287) HT_ ?_
          refine pu (i := 19) (N := some 58) (bm 27 1048575) HT_ ?_
          refine pu (i := 20) (N := some 59) (bm 27 2097151) HT_ ?_
          refine pu (i := 21) (N := some 60) (bm 27 4194303) HT_ ?_
          refine pu (i := 22) (N := some 61) (bm 27 8388607) HT_ ?_
          refine pu (i := 23) (N := some 62) (bm 27 16777215) HT_ ?_
          refine pu (i := 24) (N := some 63) (bm 27 33554431) HT_ ?_
          refine pu (i := 25) (N := some 64) (bm 27 67108863) HT_ ?_
          refine pa (i := 26) (N := some 65) (bm 27 134217727) HT_ ?_
          refine done_ (done_of HT_.out qz) ?_
          try go_wp2
          go_ret
          exact ⟨ez, bz⟩
         ·
          rw [if_neg c21] at H
          have c21b0 := decide_eq_false c21
          clear c21
          by_cases c25 : ((rd_T64 l0_2 x3_2).f1) > 32768
          ·
           rw [if_pos c25] at H
           have c25b0 := decide_eq_true c25
           clear c25
           obtain rfl := Option.some.inj H
           obtain ⟨hcz26_0, hcz26_1, hcz26_2, hfz26_0, hfz26_1, hfz26_2⟩ := kc3 BK419.out
           try go_wp2
           have n0_ := am (blk_drew BK419.out)
           have n1_ := am (below_drew1 HB.out)
           clear BK419
           clear HB
           have BK419 := n0_
           have HB := n1_
           clear n0_ n1_
           have p420 : 0 ≤ (x3_2 : Int) := az
           have q420 : x3_2 < (l0_2.length : Int) := az
           obtain ⟨ad420, e420, hx420_0, hx420_1, hx420_2⟩ := at_T64 HR0_2.out x3_2 p420 q420
           have hw420_2 := hx420_2
           have hw420_1 := hx420_1
           have hw420_0 := hx420_0
           cases e420
           replace hx420_0 := cb HB.out hx420_0
           replace hx420_1 := cb HB.out hx420_1
           replace hx420_2 := cb HB.out hx420_2
           replace p420 := eq_true p420
           replace q420 := eq_true q420
           have p422 : 0 ≤ (x3_2 : Int) := az
           have q422 : x3_2 < (l0_2.length : Int) := az
           obtain ⟨ad422, e422, hx422_0, hx422_1, hx422_2⟩ := at_T64 HR0_2.out x3_2 p422 q422
           have hw422_2 := hx422_2
           have hw422_1 := hx422_1
           have hw422_0 := hx422_0
           obtain rfl : ad420 = ad422 := (by injection e422)
           replace hx422_0 := cb HB.out hx422_0
           replace hx422_1 := cb HB.out hx422_1
           replace hx422_2 := cb HB.out hx422_2
           replace p422 := eq_true p422
           replace q422 := eq_true q422
           have p423 : 0 ≤ (x3_2 : Int) := az
           have q423 : x3_2 < (l0_2.length : Int) := az
           obtain ⟨ad423, e423, hx423_0, hx423_1, hx423_2⟩ := at_T64 HR0_2.out x3_2 p423 q423
           have hw423_2 := hx423_2
           have hw423_1 := hx423_1
           have hw423_0 := hx423_0
           obtain rfl : ad420 = ad423 := (by injection e423)
           replace hx423_0 := cb HB.out hx423_0
           replace hx423_1 := cb HB.out hx423_1
           replace hx423_2 := cb HB.out hx423_2
           replace p423 := eq_true p423
           replace q423 := eq_true q423
           refine start_ (n := 27) (S := fun w' => w'.cell? ⟨gb419, 0, none⟩ = some (.int .i64 a0_0) ∧ w'.cell? ⟨gb419, 1, none⟩ = some (.int .i64 a0_1) ∧ w'.cell? ⟨gb419, 2, none⟩ = some (.slice (some ad420) l0_2.length c0_2) ∧ w'.cell? (ad420.add ((x3_2).toNat * 3)) = some (.int .i64 ((rd_T64 l0_2 x3_2).f0.f0)) ∧ w'.cell? ⟨(ad420.add ((x3_2).toNat * 3)).block, (ad420.add ((x3_2).toNat * 3)).off + 1, none⟩ = some (.int .i64 ((rd_T64 l0_2 x3_2).f0.f1)) ∧ w'.cell? ⟨(ad420.add ((x3_2).toNat * 3)).block, (ad420.add ((x3_2).toNat * 3)).off + 2, none⟩ = some (.int .i64 ((rd_T64 l0_2 x3_2).f1)) ∧ w'.cell? (ad420.add ((x3_2).toNat * 3)) = some (.int .i64 ((rd_T64 l0_2 x3_2).f0.f0)) ∧ w'.cell? ⟨(ad420.add ((x3_2).toNat * 3)).block, (ad420.add ((x3_2).toNat * 3)).off + 1, none⟩ = some (.int .i64 ((rd_T64 l0_2 x3_2).f0.f1)) ∧ w'.cell? ⟨(ad420.add ((x3_2).toNat * 3)).block, (ad420.add ((x3_2).toNat * 3)).off + 2, none⟩ = some (.int .i64 ((rd_T64 l0_2 x3_2).f1)) ∧ w'.cell? (ad420.add ((x3_2).toNat * 3)) = some (.int .i64 ((rd_T64 l0_2 x3_2).f0.f0)) ∧ w'.cell? ⟨(ad420.add ((x3_2).toNat * 3)).block, (ad420.add ((x3_2).toNat * 3)).off + 1, none⟩ = some (.int .i64 ((rd_T64 l0_2 x3_2).f0.f1)) ∧ w'.cell? ⟨(ad420.add ((x3_2).toNat * 3)).block, (ad420.add ((x3_2).toNat * 3)).off + 2, none⟩ = some (.int .i64 ((rd_T64 l0_2 x3_2).f1))) (ds := []) (bm 27 0) qz rfl rfl ⟨(blk_cell BK419.out 0).trans rfl, (blk_cell BK419.out 1).trans rfl, (blk_cell BK419.out 2).trans rfl, (cb HB.out hw420_0), (cb HB.out hw420_1), (cb HB.out hw420_2), (cb HB.out hw422_0), (cb HB.out hw422_1), (cb HB.out hw422_2), (cb HB.out hw423_0), (cb HB.out hw423_1), (cb HB.out hw423_2)⟩ (fun hHeld => ?_); refine with_tabW dancestudioref42_Check.tab8 dancestudioref42_Check.bits8 (fun HT_ HW_ => ?_)
           generalize wr.drew = w27 at BK419 HB hx420_0 hx420_1 hx420_2 hx422_0 hx422_1 hx422_2 hx423_0 hx423_1 hx423_2 hHeld ⊢
           refine pa (i := 1) (N := some 40) (bm 27 2) HT_ ?_
           refine pa (i := 3) (N := some 42) (bm 27 10) HT_ ?_
           refine take_ (i := 0) (N := some 39) (v := ?_) (a' := ?_) (bm 27 11) rfl rfl (take_ofW HT_.out HW_.out qz) iz (Or.inl ⟨by rfl, ?_⟩) hHeld ?_ ?_
           rotate_left
           ·
            rintro w' ⟨s0, s1, s2, s3, s4, s5, s6, s7, s8, s9, s10, s11⟩
            go_simp
            with_reducible rfl
           rotate_left
           ·
            simp only [Act.put, aS, lZ, lS, i64_w, i32_w]
            rfl
           refine take_ (i := 2) (N := some 41) (v := ?_) (a' := ?_) (bm 27 15) rfl rfl (take_ofW HT_.out HW_.out qz) iz (Or.inl ⟨by rfl, ?_⟩) hHeld ?_ ?_
           rotate_left
           ·
            rintro w' ⟨s0, s1, s2, s3, s4, s5, s6, s7, s8, s9, s10, s11⟩
            go_simp
            with_reducible rfl
           rotate_left
           ·
            simp only [Act.put, aS, lZ, lS, i64_w, i32_w]
            rfl
           refine pa (i := 4) (N := some 43) (bm 27 31) HT_ ?_
           refine pa (i := 5) (N := some 44) (bm 27 63) HT_ ?_
           refine take_ (i := 6) (N := some 45) (v := ?_) (a' := ?_) (bm 27 127) rfl rfl (take_ofW HT_.out HW_.out qz) iz (Or.inl ⟨by rfl, ?_⟩) hHeld ?_ ?_
           rotate_left
           ·
            rintro w' ⟨s0, s1, s2, s3, s4, s5, s6, s7, s8, s9, s10, s11⟩
            go_simp
            with_reducible rfl
           rotate_left
           ·
            simp only [Act.put, aS, lZ, lS, i64_w, i32_w]
            rfl
           refine one_ (i := 7) (N := some 46) (bm 27 255) rfl rfl (one_of HT_.out qz) (by decide) (fun K hK => ?_)
           refine goes_ Try.func43 qz rfl #[.agg #[.int .i64 a0_0, .int .i64 a0_1, .slice (some ad420) l0_2.length c0_2], .agg #[.int .i64 ((rd_T64 l0_2 x3_2).f0.f0), .int .i64 ((rd_T64 l0_2 x3_2).f0.f1)]] (by rfl) rfl rfl mz ?_
           with_reducible refine (dancestudioref42_on.calls a0_0 a0_1 _ _ l0_2 ((rd_T64 l0_2 x3_2).f0.f0) ((rd_T64 l0_2 x3_2).f0.f1) true _ ?side1 ?side2 A19.out).mono ?_
           (case side1 => exact cz HR0_2)
           (case side2 => exact HC0_2.out)
           rintro e w28 ⟨rfl, hb⟩
           refine ⟨_, rfl, ?_⟩
           have n0_ := am (blk_below (o := .cells #[.int .i64 a0_0, .int .i64 a0_1, .slice (some ad420) l0_2.length c0_2] 42 (0, 0)) (kz BK419) hb)
           have n1_ := am (below_step bz hb)
           clear BK419
           clear HB
           have BK419 := n0_
           have HB := n1_
           clear n0_ n1_
           (try clear hb)
           (try clear hb2)
           (try clear hk)
           (try clear hi)
           refine hK.out _ _ ⟨(blk_cell BK419.out 0).trans rfl, (blk_cell BK419.out 1).trans rfl, (blk_cell BK419.out 2).trans rfl, (cb HB.out hw420_0), (cb HB.out hw420_1), (cb HB.out hw420_2), (cb HB.out hw422_0), (cb HB.out hw422_1), (cb HB.out hw422_2), (cb HB.out hw423_0), (cb HB.out hw423_1), (cb HB.out hw423_2)⟩ (fun hHeld => ?_)
           clear hK K
           refine norm_ (a' := ?_) ?_ ?_
           rotate_left
           ·
            show Act.put _ (some 46) _ = _
            simp only [Act.put, aS, lZ, lS, i64_w, i32_w]
            rfl
           refine pa (i := 8) (N := some 47) (bm 27 511) HT_ ?_
           refine pa (i := 9) (N := some 48) (bm 27 1023) HT_ ?_
           refine pa (i := 10) (N := some 49) (bm 27 2047) HT_ ?_
           refine pa (i := 12) (N := some 51) (bm 27 6143) HT_ ?_
           refine take_ (i := 11) (N := some 50) (v := ?_) (a' := ?_) (bm 27 8191) rfl rfl (take_ofW HT_.out HW_.out qz) iz (Or.inl ⟨by rfl, ?_⟩) hHeld ?_ ?_
           rotate_left
           ·
            rintro w' ⟨s0, s1, s2, s3, s4, s5, s6, s7, s8, s9, s10, s11⟩
            go_simp
            with_reducible rfl
           rotate_left
           ·
            simp only [Act.put, aS, lZ, lS, i64_w, i32_w]
            rfl
           refine pa (i := 13) (N := some 52) (bm 27 16383) HT_ ?_
           refine pa (i := 14) (N := some 53) (bm 27 32767) HT_ ?_
           refine take_ (i := 15) (N := some 54) (v := ?_) (a' := ?_) (bm 27 65535) rfl rfl (take_ofW HT_.out HW_.out qz) iz (Or.inl ⟨by rfl, ?_⟩) hHeld ?_ ?_
           rotate_left
           ·
            rintro w' ⟨s0, s1, s2, s3, s4, s5, s6, s7, s8, s9, s10, s11⟩
            go_simp
            with_reducible rfl
           rotate_left
           ·
            simp only [Act.put, aS, lZ, lS, i64_w, i32_w]
            rfl
           refine pa (i := 16) (N := some 55) (bm 27 131071) HT_ ?_
           refine pa (i := 17) (N := some 56) (bm 27 262143) HT_ ?_
           refine pa (i := 18) (N := some 57) (bm 27 524287) HT_ ?_
           refine pa (i := 19) (N := some 58) (bm 27 1048575) HT_ ?_
           refine pa (i := 21) (N := some 60) (bm 27 3145727) HT_ ?_
           refine take_ (i := 20) (N := some 59) (v := ?_) (a' := ?_) (bm 27 4194303) rfl rfl (take_ofW HT_.out HW_.out qz) iz (Or.inl ⟨by rfl, ?_⟩) hHeld ?_ ?_
           rotate_left
           ·
            rintro w' ⟨s0, s1, s2, s3, s4, s5, s6, s7, s8, s9, s10, s11⟩
            go_simp
            with_reducible rfl
           rotate_left
           ·
            simp only [Act.put, aS, lZ, lS, i64_w, i32_w]
            rfl
           refine pa (i := 22) (N := some 61) (bm 27 8388607) HT_ ?_
           refine pa (i := 23) (N := some 62) (bm 27 16777215) HT_ ?_
           refine take_ (i := 24) (N := some 63) (v := ?_) (a' := ?_) (bm 27 33554431) rfl rfl (take_ofW HT_.out HW_.out qz) iz (Or.inl ⟨by rfl, ?_⟩) hHeld ?_ ?_
           rotate_left
           ·
            rintro w' ⟨s0, s1, s2, s3, s4, s5, s6, s7, s8, s9, s10, s11⟩
            go_simp
            with_reducible rfl
           rotate_left
           ·
            simp only [Act.put, aS, lZ, lS, i64_w, i32_w]
            rfl
           refine pa (i := 25) (N := some 64) (bm 27 67108863) HT_ ?_
           refine pa (i := 26) (N := some 65) (bm 27 134217727) HT_ ?_
           refine done_ (done_of HT_.out qz) ?_
           try go_wp2
           go_ret
           exact ⟨ez, bz⟩
          ·
           rw [if_neg c25] at H
           have c25b0 := decide_eq_false c25
           clear c25
           have H' := am H
           clear H
           obtain ⟨hcz29_0, hcz29_1, hcz29_2, hfz29_0, hfz29_1, hfz29_2⟩ := kc3 BK419.out
           try go_wp2
           have n0_ := am (blk_drew BK419.out)
           have n1_ := am (below_drew1 HB.out)
           clear BK419
           clear HB
           have BK419 := n0_
           have HB := n1_
           clear n0_ n1_
           have p420 : 0 ≤ (x3_2 : Int) := az
           have q420 : x3_2 < (l0_2.length : Int) := az
           obtain ⟨ad420, e420, hx420_0, hx420_1, hx420_2⟩ := at_T64 HR0_2.out x3_2 p420 q420
           have hw420_2 := hx420_2
           have hw420_1 := hx420_1
           have hw420_0 := hx420_0
           cases e420
           replace hx420_0 := cb HB.out hx420_0
           replace hx420_1 := cb HB.out hx420_1
           replace hx420_2 := cb HB.out hx420_2
           replace p420 := eq_true p420
           replace q420 := eq_true q420
           have p422 : 0 ≤ (x3_2 : Int) := az
           have q422 : x3_2 < (l0_2.length : Int) := az
           obtain ⟨ad422, e422, hx422_0, hx422_1, hx422_2⟩ := at_T64 HR0_2.out x3_2 p422 q422
           have hw422_2 := hx422_2
           have hw422_1 := hx422_1
           have hw422_0 := hx422_0
           obtain rfl : ad420 = ad422 := (by injection e422)
           replace hx422_0 := cb HB.out hx422_0
           replace hx422_1 := cb HB.out hx422_1
           replace hx422_2 := cb HB.out hx422_2
           replace p422 := eq_true p422
           replace q422 := eq_true q422
           have p423 : 0 ≤ (x3_2 : Int) := az
           have q423 : x3_2 < (l0_2.length : Int) := az
           obtain ⟨ad423, e423, hx423_0, hx423_1, hx423_2⟩ := at_T64 HR0_2.out x3_2 p423 q423
           have hw423_2 := hx423_2
           have hw423_1 := hx423_1
           have hw423_0 := hx423_0
           obtain rfl : ad420 = ad423 := (by injection e423)
           replace hx423_0 := cb HB.out hx423_0
           replace hx423_1 := cb HB.out hx423_1
           replace hx423_2 := cb HB.out hx423_2
           replace p423 := eq_true p423
           replace q423 := eq_true q423
           refine start_ (n := 27) (S := fun w' => w'.cell? ⟨gb419, 0, none⟩ = some (.int .i64 a0_0) ∧ w'.cell? ⟨gb419, 1, none⟩ = some (.int .i64 a0_1) ∧ w'.cell? ⟨gb419, 2, none⟩ = some (.slice (some ad420) l0_2.length c0_2) ∧ w'.cell? (ad420.add ((x3_2).toNat * 3)) = some (.int .i64 ((rd_T64 l0_2 x3_2).f0.f0)) ∧ w'.cell? ⟨(ad420.add ((x3_2).toNat * 3)).block, (ad420.add ((x3_2).toNat * 3)).off + 1, none⟩ = some (.int .i64 ((rd_T64 l0_2 x3_2).f0.f1)) ∧ w'.cell? ⟨(ad420.add ((x3_2).toNat * 3)).block, (ad420.add ((x3_2).toNat * 3)).off + 2, none⟩ = some (.int .i64 ((rd_T64 l0_2 x3_2).f1)) ∧ w'.cell? (ad420.add ((x3_2).toNat * 3)) = some (.int .i64 ((rd_T64 l0_2 x3_2).f0.f0)) ∧ w'.cell? ⟨(ad420.add ((x3_2).toNat * 3)).block, (ad420.add ((x3_2).toNat * 3)).off + 1, none⟩ = some (.int .i64 ((rd_T64 l0_2 x3_2).f0.f1)) ∧ w'.cell? ⟨(ad420.add ((x3_2).toNat * 3)).block, (ad420.add ((x3_2).toNat * 3)).off + 2, none⟩ = some (.int .i64 ((rd_T64 l0_2 x3_2).f1)) ∧ w'.cell? (ad420.add ((x3_2).toNat * 3)) = some (.int .i64 ((rd_T64 l0_2 x3_2).f0.f0)) ∧ w'.cell? ⟨(ad420.add ((x3_2).toNat * 3)).block, (ad420.add ((x3_2).toNat * 3)).off + 1, none⟩ = some (.int .i64 ((rd_T64 l0_2 x3_2).f0.f1)) ∧ w'.cell? ⟨(ad420.add ((x3_2).toNat * 3)).block, (ad420.add ((x3_2).toNat * 3)).off + 2, none⟩ = some (.int .i64 ((rd_T64 l0_2 x3_2).f1))) (ds := []) (bm 27 0) qz rfl rfl ⟨(blk_cell BK419.out 0).trans rfl, (blk_cell BK419.out 1).trans rfl, (blk_cell BK419.out 2).trans rfl, (cb HB.out hw420_0), (cb HB.out hw420_1), (cb HB.out hw420_2), (cb HB.out hw422_0), (cb HB.out hw422_1), (cb HB.out hw422_2), (cb HB.out hw423_0), (cb HB.out hw423_1), (cb HB.out hw423_2)⟩ (fun hHeld => ?_); refine with_tabW dancestudioref42_Check.tab8 dancestudioref42_Check.bits8 (fun HT_ HW_ => ?_)
           generalize wr.drew = w30 at BK419 HB hx420_0 hx420_1 hx420_2 hx422_0 hx422_1 hx422_2 hx423_0 hx423_1 hx423_2 hHeld ⊢
           refine pa (i := 1) (N := some 40) (bm 27 2) HT_ ?_
           refine pa (i := 3) (N := some 42) (bm 27 10) HT_ ?_
           refine take_ (i := 0) (N := some 39) (v := ?_) (a' := ?_) (bm 27 11) rfl rfl (take_ofW HT_.out HW_.out qz) iz (Or.inl ⟨by rfl, ?_⟩) hHeld ?_ ?_
           rotate_left
           ·
            rintro w' ⟨s0, s1, s2, s3, s4, s5, s6, s7, s8, s9, s10, s11⟩
            go_simp
            with_reducible rfl
           rotate_left
           ·
            simp only [Act.put, aS, lZ, lS, i64_w, i32_w]
            rfl
           refine take_ (i := 2) (N := some 41) (v := ?_) (a' := ?_) (bm 27 15) rfl rfl (take_ofW HT_.out HW_.out qz) iz (Or.inl ⟨by rfl, ?_⟩) hHeld ?_ ?_
           rotate_left
           ·
            rintro w' ⟨s0, s1, s2, s3, s4, s5, s6, s7, s8, s9, s10, s11⟩
            go_simp
            with_reducible rfl
           rotate_left
           ·
            simp only [Act.put, aS, lZ, lS, i64_w, i32_w]
            rfl
           refine pa (i := 4) (N := some 43) (bm 27 31) HT_ ?_
           refine pa (i := 5) (N := some 44) (bm 27 63) HT_ ?_
           refine take_ (i := 6) (N := some 45) (v := ?_) (a' := ?_) (bm 27 127) rfl rfl (take_ofW HT_.out HW_.out qz) iz (Or.inl ⟨by rfl, ?_⟩) hHeld ?_ ?_
           rotate_left
           ·
            rintro w' ⟨s0, s1, s2, s3, s4, s5, s6, s7, s8, s9, s10, s11⟩
            go_simp
            with_reducible rfl
           rotate_left
           ·
            simp only [Act.put, aS, lZ, lS, i64_w, i32_w]
            rfl
           refine one_ (i := 7) (N := some 46) (bm 27 255) rfl rfl (one_of HT_.out qz) (by decide) (fun K hK => ?_)
           refine goes_ Try.func43 qz rfl #[.agg #[.int .i64 a0_0, .int .i64 a0_1, .slice (some ad420) l0_2.length c0_2], .agg #[.int .i64 ((rd_T64 l0_2 x3_2).f0.f0), .int .i64 ((rd_T64 l0_2 x3_2).f0.f1)]] (by rfl) rfl rfl mz ?_
           with_reducible refine (dancestudioref42_on.calls a0_0 a0_1 _ _ l0_2 ((rd_T64 l0_2 x3_2).f0.f0) ((rd_T64 l0_2 x3_2).f0.f1) true _ ?side1 ?side2 A19.out).mono ?_
           (case side1 => exact cz HR0_2)
           (case side2 => exact HC0_2.out)
           rintro e w31 ⟨rfl, hb⟩
           refine ⟨_, rfl, ?_⟩
           have n0_ := am (blk_below (o := .cells #[.int .i64 a0_0, .int .i64 a0_1, .slice (some ad420) l0_2.length c0_2] 42 (0, 0)) (kz BK419) hb)
           have n1_ := am (below_step bz hb)
           clear BK419
           clear HB
           have BK419 := n0_
           have HB := n1_
           clear n0_ n1_
           (try clear hb)
           (try clear hb2)
           (try clear hk)
           (try clear hi)
           refine hK.out _ _ ⟨(blk_cell BK419.out 0).trans rfl, (blk_cell BK419.out 1).trans rfl, (blk_cell BK419.out 2).trans rfl, (cb HB.out hw420_0), (cb HB.out hw420_1), (cb HB.out hw420_2), (cb HB.out hw422_0), (cb HB.out hw422_1), (cb HB.out hw422_2), (cb HB.out hw423_0), (cb HB.out hw423_1), (cb HB.out hw423_2)⟩ (fun hHeld => ?_)
           clear hK K
           refine norm_ (a' := ?_) ?_ ?_
           rotate_left
           ·
            show Act.put _ (some 46) _ = _
            simp only [Act.put, aS, lZ, lS, i64_w, i32_w]
            rfl
           refine pa (i := 8) (N := some 47) (bm 27 511) HT_ ?_
           refine pa (i := 9) (N := some 48) (bm 27 1023) HT_ ?_
           refine pa (i := 10) (N := some 49) (bm 27 2047) HT_ ?_
           refine pa (i := 12) (N := some 51) (bm 27 6143) HT_ ?_
           refine take_ (i := 11) (N := some 50) (v := ?_) (a' := ?_) (bm 27 8191) rfl rfl (take_ofW HT_.out HW_.out qz) iz (Or.inl ⟨by rfl, ?_⟩) hHeld ?_ ?_
           rotate_left
           ·
            rintro w' ⟨s0, s1, s2, s3, s4, s5, s6, s7, s8, s9, s10, s11⟩
            go_simp
            with_reducible rfl
           rotate_left
           ·
            simp only [Act.put, aS, lZ, lS, i64_w, i32_w]
            rfl
           refine pa (i := 13) (N := some 52) (bm 27 16383) HT_ ?_
           refine pa (i := 14) (N := some 53) (bm 27 32767) HT_ ?_
           refine take_ (i := 15) (N := some 54) (v := ?_) (a' := ?_) (bm 27 65535) rfl rfl (take_ofW HT_.out HW_.out qz) iz (Or.inl ⟨by rfl, ?_⟩) hHeld ?_ ?_
           rotate_left
           ·
            rintro w' ⟨s0, s1, s2, s3, s4, s5, s6, s7, s8, s9, s10, s11⟩
            go_simp
            with_reducible rfl
           rotate_left
           ·
            simp only [Act.put, aS, lZ, lS, i64_w, i32_w]
            rfl
           refine pa (i := 16) (N := some 55) (bm 27 131071) HT_ ?_
           refine pa (i := 17) (N := some 56) (bm 27 262143) HT_ ?_
           refine pa (i := 18) (N := some 57) (bm 27 524287) HT_ ?_
           refine pa (i := 19) (N := some 58) (bm 27 1048575) HT_ ?_
           refine pa (i := 21) (N := some 60) (bm 27 3145727) HT_ ?_
           refine take_ (i := 20) (N := some 59) (v := ?_) (a' := ?_) (bm 27 4194303) rfl rfl (take_ofW HT_.out HW_.out qz) iz (Or.inl ⟨by rfl, ?_⟩) hHeld ?_ ?_
           rotate_left
           ·
            rintro w' ⟨s0, s1, s2, s3, s4, s5, s6, s7, s8, s9, s10, s11⟩
            go_simp
            with_reducible rfl
           rotate_left
           ·
            simp only [Act.put, aS, lZ, lS, i64_w, i32_w]
            rfl
           refine pa (i := 22) (N := some 61) (bm 27 8388607) HT_ ?_
           refine pa (i := 23) (N := some 62) (bm 27 16777215) HT_ ?_
           refine take_ (i := 24) (N := some 63) (v := ?_) (a' := ?_) (bm 27 33554431) rfl rfl (take_ofW HT_.out HW_.out qz) iz (Or.inl ⟨by rfl, ?_⟩) hHeld ?_ ?_
           rotate_left
           ·
            rintro w' ⟨s0, s1, s2, s3, s4, s5, s6, s7, s8, s9, s10, s11⟩
            go_simp
            with_reducible rfl
           rotate_left
           ·
            simp only [Act.put, aS, lZ, lS, i64_w, i32_w]
            rfl
           refine pa (i := 25) (N := some 64) (bm 27 67108863) HT_ ?_
           refine pa (i := 26) (N := some 65) (bm 27 134217727) HT_ ?_
           refine done_ (done_of HT_.out qz) ?_
           try go_wp2
           go_roundg k2
           case measure => have := HJ1.out; have := HK2.out; omega
           case rel => exact ⟨(wrap64 (x3_2 + 1)), sz, H', ⟨by have := HJ1.out; have := HK2.out; omega⟩, ⟨kz BK419⟩, ⟨bz⟩⟩
        ·
         replace c20 := Bool.eq_false_iff.mpr c20
         subst c20
         have H1 : (some 29) = some r := by rw [if_neg (show ¬ (false = true) by decide)] at H; exact H
         clear H
         have H := H1
         clear H1
         obtain rfl := Option.some.inj H
         obtain ⟨hcz32_0, hcz32_1, hcz32_2, hfz32_0, hfz32_1, hfz32_2⟩ := kc3 BK419.out
         try go_wp2
         have n0_ := am (blk_drew BK419.out)
         have n1_ := am (below_drew1 HB.out)
         clear BK419
         clear HB
         have BK419 := n0_
         have HB := n1_
         clear n0_ n1_
         have p420 : 0 ≤ (x3_2 : Int) := az
         have q420 : x3_2 < (l0_2.length : Int) := az
         obtain ⟨ad420, e420, hx420_0, hx420_1, hx420_2⟩ := at_T64 HR0_2.out x3_2 p420 q420
         have hw420_2 := hx420_2
         have hw420_1 := hx420_1
         have hw420_0 := hx420_0
         cases e420
         replace hx420_0 := cb HB.out hx420_0
         replace hx420_1 := cb HB.out hx420_1
         replace hx420_2 := cb HB.out hx420_2
         replace p420 := eq_true p420
         replace q420 := eq_true q420
         refine start_ (n := 27) (S := fun w' => w'.cell? ⟨gb419, 0, none⟩ = some (.int .i64 a0_0) ∧ w'.cell? ⟨gb419, 1, none⟩ = some (.int .i64 a0_1) ∧ w'.cell? ⟨gb419, 2, none⟩ = some (.slice (some ad420) l0_2.length c0_2) ∧ w'.cell? (ad420.add ((x3_2).toNat * 3)) = some (.int .i64 ((rd_T64 l0_2 x3_2).f0.f0)) ∧ w'.cell? ⟨(ad420.add ((x3_2).toNat * 3)).block, (ad420.add ((x3_2).toNat * 3)).off + 1, none⟩ = some (.int .i64 ((rd_T64 l0_2 x3_2).f0.f1)) ∧ w'.cell? ⟨(ad420.add ((x3_2).toNat * 3)).block, (ad420.add ((x3_2).toNat * 3)).off + 2, none⟩ = some (.int .i64 ((rd_T64 l0_2 x3_2).f1))) (ds := []) (bm 27 0) qz rfl rfl ⟨(blk_cell BK419.out 0).trans rfl, (blk_cell BK419.out 1).trans rfl, (blk_cell BK419.out 2).trans rfl, (cb HB.out hw420_0), (cb HB.out hw420_1), (cb HB.out hw420_2)⟩ (fun hHeld => ?_); refine with_tabW dancestudioref42_Check.tab8 dancestudioref42_Check.bits8 (fun HT_ HW_ => ?_)
         generalize wr.drew = w33 at BK419 HB hx420_0 hx420_1 hx420_2 hHeld ⊢
         refine pa (i := 1) (N := some 40) (bm 27 2) HT_ ?_
         refine pa (i := 3) (N := some 42) (bm 27 10) HT_ ?_
         refine take_ (i := 0) (N := some 39) (v := ?_) (a' := ?_) (bm 27 11) rfl rfl (take_ofW HT_.out HW_.out qz) iz (Or.inl ⟨by rfl, ?_⟩) hHeld ?_ ?_
         rotate_left
         ·
          rintro w' ⟨s0, s1, s2, s3, s4, s5⟩
          go_simp
          with_reducible rfl
         rotate_left
         ·
          simp only [Act.put, aS, lZ, lS, i64_w, i32_w]
          rfl
         refine take_ (i := 2) (N := some 41) (v := ?_) (a' := ?_) (bm 27 15) rfl rfl (take_ofW HT_.out HW_.out qz) iz (Or.inl ⟨by rfl, ?_⟩) hHeld ?_ ?_
         rotate_left
         ·
          rintro w' ⟨s0, s1, s2, s3, s4, s5⟩
          go_simp
          with_reducible rfl
         rotate_left
         ·
          simp only [Act.put, aS, lZ, lS, i64_w, i32_w]
          rfl
         refine pa (i := 4) (N := some 43) (bm 27 31) HT_ ?_
         refine pa (i := 5) (N := some 44) (bm 27 63) HT_ ?_
         refine take_ (i := 6) (N := some 45) (v := ?_) (a' := ?_) (bm 27 127) rfl rfl (take_ofW HT_.out HW_.out qz) iz (Or.inl ⟨by rfl, ?_⟩) hHeld ?_ ?_
         rotate_left
         ·
          rintro w' ⟨s0, s1, s2, s3, s4, s5⟩
          go_simp
          with_reducible rfl
         rotate_left
         ·
          simp only [Act.put, aS, lZ, lS, i64_w, i32_w]
          rfl
         refine one_ (i := 7) (N := some 46) (bm 27 255) rfl rfl (one_of HT_.out qz) (by decide) (fun K hK => ?_)
         refine goes_ Try.func43 qz rfl #[.agg #[.int .i64 a0_0, .int .i64 a0_1, .slice (some ad420) l0_2.length c0_2], .agg #[.int .i64 ((rd_T64 l0_2 x3_2).f0.f0), .int .i64 ((rd_T64 l0_2 x3_2).f0.f1)]] (by rfl) rfl rfl mz ?_
         with_reducible refine (dancestudioref42_on.calls a0_0 a0_1 _ _ l0_2 ((rd_T64 l0_2 x3_2).f0.f0) ((rd_T64 l0_2 x3_2).f0.f1) false _ ?side1 ?side2 A19.out).mono ?_
         (case side1 => exact cz HR0_2)
         (case side2 => exact HC0_2.out)
         rintro e w34 ⟨rfl, hb⟩
         refine ⟨_, rfl, ?_⟩
         have n0_ := am (blk_below (o := .cells #[.int .i64 a0_0, .int .i64 a0_1, .slice (some ad420) l0_2.length c0_2] 42 (0, 0)) (kz BK419) hb)
         have n1_ := am (below_step bz hb)
         clear BK419
         clear HB
         have BK419 := n0_
         have HB := n1_
         clear n0_ n1_
         (try clear hb)
         (try clear hb2)
         (try clear hk)
         (try clear hi)
         refine hK.out _ _ ⟨(blk_cell BK419.out 0).trans rfl, (blk_cell BK419.out 1).trans rfl, (blk_cell BK419.out 2).trans rfl, (cb HB.out hw420_0), (cb HB.out hw420_1), (cb HB.out hw420_2)⟩ (fun hHeld => ?_)
         clear hK K
         refine norm_ (a' := ?_) ?_ ?_
         rotate_left
         ·
          show Act.put _ (some 46) _ = _
          simp only [Act.put, aS, lZ, lS, i64_w, i32_w]
          rfl
         refine pa (i := 8) (N := some 47) (bm 27 511) HT_ ?_
         refine pa (i := 9) (N := some 48) (bm 27 1023) HT_ ?_
         refine pu (i := 10) (N := some 49) (bm 27 2047) HT_ ?_
         refine pu (i := 11) (N := some 50) (bm 27 4095) HT_ ?_
         refine pu (i := 12) (N := some 51) (bm 27 8191) HT_ ?_
         refine pu (i := 13) (N := some 52) (bm 27 16383) HT_ ?_
         refine pu (i := 14) (N := some 53) (bm 27 32767) HT_ ?_
         refine pu (i := 15) (N := some 54) (bm 27 65535) HT_ ?_
         refine pu (i := 16) (N := some 55) (bm 27 131071) HT_ ?_
         refine pa (i := 17) (N := some 56) (bm 27 262143) HT_ ?_
         refine pa (i := 18) (N := some 57) (bm 27 524287) HT_ ?_
         refine pu (i := 19) (N := some 58) (bm 27 1048575) HT_ ?_
         refine pu (i := 20) (N := some 59) (bm 27 2097151) HT_ ?_
         refine pu (i := 21) (N := some 60) (bm 27 4194303) HT_ ?_
         refine pu (i := 22) (N := some 61) (bm 27 8388607) HT_ ?_
         refine pu (i := 23) (N := some 62) (bm 27 16777215) HT_ ?_
         refine pu (i := 24) (N := some 63) (bm 27 33554431) HT_ ?_
         refine pu (i := 25) (N := some 64) (bm 27 67108863) HT_ ?_
         refine pa (i := 26) (N := some 65) (bm 27 134217727) HT_ ?_
         refine done_ (done_of HT_.out qz) ?_
         try go_wp2
         go_ret
         exact ⟨ez, bz⟩
       ·
        rw [if_neg c17] at H
        have c17b0 := decide_eq_false c17
        clear c17
        obtain rfl := Option.some.inj H
        obtain ⟨hcz35_0, hcz35_1, hcz35_2, hfz35_0, hfz35_1, hfz35_2⟩ := kc3 BK419.out
        go_wp2
        go_ret
        exact ⟨ez, bz⟩

end Go.Proofs.Ytmdmajfgpmopbaa.X
