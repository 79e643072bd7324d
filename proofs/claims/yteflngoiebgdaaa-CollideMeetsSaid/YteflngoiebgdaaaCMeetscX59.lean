import Derived.Test.YteflngoiebgdaaaX0
import Derived.Test.YteflngoiebgdaaaCMeetscX41
import Derived.Test.YteflngoiebgdaaaCMeets43
import Derived.Test.YteflngoiebgdaaaCMeetscX58
namespace Go.Proofs.Yteflngoiebgdaaa.X
open Go.RowKit YteflngoiebgdaaaW.PrintWords YteflngoiebgdaaaW.PrintLast YteflngoiebgdaaaW.PrintMore
attribute [local go_sem] max2_int min2_int max_two min_two max_three min_three max_four min_four
set_option linter.unusedVariables false
set_option linter.unusedSimpArgs false

/-! ### dancestudioref44_First: function 18 -/
mutual
def dancestudioref44_First.l0 : Nat → List (S43) → List Int → List (S62) → Int → Option (Int × Int × Int × Int)
 | 0, _, _, _, _ => none
 | k + 1, x0, x1, x2, x9 => (dancestudioref44_length.f x0).bind fun t519 => (if x9 < t519 then (dancestudioref44_First.l1 k x0 x1 x2 x9 0) else (some ((-1), 0, 0, 0)))
def dancestudioref44_First.l1 : Nat → List (S43) → List Int → List (S62) → Int → Int → Option (Int × Int × Int × Int)
 | 0, _, _, _, _, _ => none
 | k + 1, x0, x1, x2, x9, x10 => if x10 < (x0.length : Int) then (dancestudioref44_First.l2 k x0 x1 x2 x9 x10 (wrap64 (x10 + 1))) else (dancestudioref44_First.l0 k x0 x1 x2 (wrap64 (x9 + 1)))
def dancestudioref44_First.l2 : Nat → List (S43) → List Int → List (S62) → Int → Int → Int → Option (Int × Int × Int × Int)
 | 0, _, _, _, _, _, _ => none
 | k + 1, x0, x1, x2, x9, x10, x11 => if x11 < (x0.length : Int) then ((dancestudioref44_meet.f k x0 x1 x2 x10 x11 x9).bind fun t520 => (if t520 = true then (some (x9, x10, x11, 0)) else (dancestudioref44_First.l2 k x0 x1 x2 x9 x10 (wrap64 (x11 + 1))))) else (dancestudioref44_First.l1 k x0 x1 x2 x9 (wrap64 (x10 + 1)))
end
def dancestudioref44_First.f (k : Nat) (l0 : List (S43)) (l1 : List Int) (l2 : List (S62)) : Option (Int × Int × Int × Int) := (dancestudioref44_Check.f k l0 l1 l2).bind fun t518 => (if t518 = 0 then (dancestudioref44_First.l0 k l0 l1 l2 0) else (some (0, 0, 0, t518)))
theorem dancestudioref44_First.mono_l : ∀ k, (∀ y0 y1 y2 y3, LeO (dancestudioref44_First.l0 k y0 y1 y2 y3) (dancestudioref44_First.l0 (k + 1) y0 y1 y2 y3)) ∧ (∀ y0 y1 y2 y3 y4, LeO (dancestudioref44_First.l1 k y0 y1 y2 y3 y4) (dancestudioref44_First.l1 (k + 1) y0 y1 y2 y3 y4)) ∧ (∀ y0 y1 y2 y3 y4 y5, LeO (dancestudioref44_First.l2 k y0 y1 y2 y3 y4 y5) (dancestudioref44_First.l2 (k + 1) y0 y1 y2 y3 y4 y5))
 | 0 => ⟨fun _ _ _ _ r h => by simp [dancestudioref44_First.l0] at h, fun _ _ _ _ _ r h => by simp [dancestudioref44_First.l1] at h, fun _ _ _ _ _ _ r h => by simp [dancestudioref44_First.l2] at h⟩
 | k + 1 => by
  obtain ⟨ih0, ih1, ih2⟩ := dancestudioref44_First.mono_l k
  refine ⟨?_, ?_, ?_⟩
  ·
   intro y0 y1 y2 y3
   unfold dancestudioref44_First.l0
   repeat' first
   | (with_reducible exact ih0 _ _ _ _)
   | (with_reducible exact ih1 _ _ _ _ _)
   | (with_reducible exact ih2 _ _ _ _ _ _)
   | (with_reducible exact dancestudioref44_Check.mono _ _ _ _)
   | (with_reducible exact dancestudioref44_meet.mono _ _ _ _ _ _ _)
   | (with_reducible exact LeO.refl _)
   | (with_reducible exact LeO.none _)
   | (with_reducible refine LeO.ite ?_ ?_)
   | (with_reducible refine LeO.bind ?_ (fun _ => ?_))
   | exact ih0 _ _ _ _
   | exact ih1 _ _ _ _ _
   | exact ih2 _ _ _ _ _ _
   | exact dancestudioref44_Check.mono _ _ _ _
   | exact dancestudioref44_meet.mono _ _ _ _ _ _ _
   | exact LeO.none _
   | refine LeO.ite ?_ ?_
   | refine LeO.bind ?_ (fun _ => ?_)
  ·
   intro y0 y1 y2 y3 y4
   unfold dancestudioref44_First.l1
   repeat' first
   | (with_reducible exact ih0 _ _ _ _)
   | (with_reducible exact ih1 _ _ _ _ _)
   | (with_reducible exact ih2 _ _ _ _ _ _)
   | (with_reducible exact dancestudioref44_Check.mono _ _ _ _)
   | (with_reducible exact dancestudioref44_meet.mono _ _ _ _ _ _ _)
   | (with_reducible exact LeO.refl _)
   | (with_reducible exact LeO.none _)
   | (with_reducible refine LeO.ite ?_ ?_)
   | (with_reducible refine LeO.bind ?_ (fun _ => ?_))
   | exact ih0 _ _ _ _
   | exact ih1 _ _ _ _ _
   | exact ih2 _ _ _ _ _ _
   | exact dancestudioref44_Check.mono _ _ _ _
   | exact dancestudioref44_meet.mono _ _ _ _ _ _ _
   | exact LeO.none _
   | refine LeO.ite ?_ ?_
   | refine LeO.bind ?_ (fun _ => ?_)
  ·
   intro y0 y1 y2 y3 y4 y5
   unfold dancestudioref44_First.l2
   repeat' first
   | (with_reducible exact ih0 _ _ _ _)
   | (with_reducible exact ih1 _ _ _ _ _)
   | (with_reducible exact ih2 _ _ _ _ _ _)
   | (with_reducible exact dancestudioref44_Check.mono _ _ _ _)
   | (with_reducible exact dancestudioref44_meet.mono _ _ _ _ _ _ _)
   | (with_reducible exact LeO.refl _)
   | (with_reducible exact LeO.none _)
   | (with_reducible refine LeO.ite ?_ ?_)
   | (with_reducible refine LeO.bind ?_ (fun _ => ?_))
   | exact ih0 _ _ _ _
   | exact ih1 _ _ _ _ _
   | exact ih2 _ _ _ _ _ _
   | exact dancestudioref44_Check.mono _ _ _ _
   | exact dancestudioref44_meet.mono _ _ _ _ _ _ _
   | exact LeO.none _
   | refine LeO.ite ?_ ?_
   | refine LeO.bind ?_ (fun _ => ?_)
theorem dancestudioref44_First.mono : ∀ a0 a1 a2 k, LeO (dancestudioref44_First.f k a0 a1 a2) (dancestudioref44_First.f (k + 1) a0 a1 a2) := by
 intro a0 a1 a2 k
 obtain ⟨ih0, ih1, ih2⟩ := dancestudioref44_First.mono_l k
 unfold dancestudioref44_First.f
 repeat' first
   | (with_reducible exact ih0 _ _ _ _)
   | (with_reducible exact ih1 _ _ _ _ _)
   | (with_reducible exact ih2 _ _ _ _ _ _)
   | (with_reducible exact dancestudioref44_Check.mono _ _ _ _)
   | (with_reducible exact dancestudioref44_meet.mono _ _ _ _ _ _ _)
   | (with_reducible exact LeO.refl _)
   | (with_reducible exact LeO.none _)
   | (with_reducible refine LeO.ite ?_ ?_)
   | (with_reducible refine LeO.bind ?_ (fun _ => ?_))
   | exact ih0 _ _ _ _
   | exact ih1 _ _ _ _ _
   | exact ih2 _ _ _ _ _ _
   | exact dancestudioref44_Check.mono _ _ _ _
   | exact dancestudioref44_meet.mono _ _ _ _ _ _ _
   | exact LeO.none _
   | refine LeO.ite ?_ ?_
   | refine LeO.bind ?_ (fun _ => ?_)
set_option maxHeartbeats 8000000 in
set_option maxRecDepth 100000 in
theorem dancestudioref44_First.calls (k : Nat) (A0 : Option Addr) (c0 : Nat) (l0 : List (S43)) (A1 : Option Addr) (c1 : Nat) (l1 : List Int) (A2 : Option Addr) (c2 : Nat) (l2 : List (S62)) (r1 r2 r3 r4 : Int) (w : World) (hr0 : Kd.C k43 w A0 l0.length l0) (hc0 : l0.length ≤ c0) (hr1 : Kd.C (Kd.int .i64) w A1 l1.length l1) (hc1 : l1.length ≤ c1) (hr2 : Kd.C k62 w A2 l2.length l2) (hc2 : l2.length ≤ c2) (h : dancestudioref44_First.f k l0 l1 l2 = some (r1, r2, r3, r4)) :
  Calls Try.prog 18 #[.slice A0 l0.length c0, .slice A1 l1.length c1, .slice A2 l2.length c2] w fun e w' => e = .returned (.tuple #[.agg #[.int .i64 r1, .int .i64 r2, .int .i64 r3], .int .i64 r4]) ∧ Below w.heap.size w w' := by
 have hu30 := Try.underlying30
 have HR0 := am hr0
 have HC0 := am hc0
 clear hr0 hc0
 have HR1 := am hr1
 have HC1 := am hc1
 clear hr1 hc1
 have HR2 := am hr2
 have HC2 := am hc2
 clear hr2 hc2
 have HB := am (Below.refl w.heap.size w)
 have H : ((dancestudioref44_Check.f k l0 l1 l2).bind fun t518 => (if t518 = 0 then (dancestudioref44_First.l0 k l0 l1 l2 0) else (some (0, 0, 0, t518)))) = some (r1, r2, r3, r4) := h
 clear h
 replace H := Option.bind_eq_some_iff.mp H
 obtain ⟨t518, A40, H⟩ := H
 replace H : (if t518 = 0 then (dancestudioref44_First.l0 k l0 l1 l2 0) else (some (0, 0, 0, t518))) = some (r1, r2, r3, r4) := H
 have A4 := am A40
 clear A40
 by_cases c5 : t518 = 0
 ·
  rw [if_pos c5] at H
  have c5b0 : (t518 == 0) = true := beq_iff_eq.mpr c5
  have c5b1 : (t518 != 0) = false := bne_eq_false_iff_eq.mpr c5
  clear c5
  have H' := am H
  clear H
  go_enter Try.func18, Try.ntmps18
  go_wp2_with (first | ((with_reducible refine gate_dst (N := 6) rfl ?_); refine box_event yz (N := 6) yz (cs := #[.int .i64 0, .int .i64 0, .int .i64 0]) (t := 30) gz ?_; intro gb517 hg w6 hbox hb; have BK517 := am (hbox); have GW517 := gwz (g := gb517) HB hg; have GE517 := GW517; replace HB := am (below_step bz hb); clear hb hbox hg) | ((with_reducible refine gate_callee (f := 13) rfl ?_); refine goesL_ (some 15) rfl rfl Try.func13 qz rfl #[.slice A0 l0.length c0, .slice A1 l1.length c1, .slice A2 l2.length c2] rfl mz ?_; (with_reducible refine (dancestudioref44_Check.calls k _ _ l0 _ _ l1 _ _ l2 t518 _ ?side1 ?side2 ?side3 ?side4 ?side5 ?side6 A4.out).mono ?_); (case side1 => exact cz HR0); (case side2 => exact HC0.out); (case side3 => exact cz HR1); (case side4 => exact HC1.out); (case side5 => exact cz HR2); (case side6 => exact HC2.out); rintro e w7 ⟨rfl, hb⟩; refine ⟨_, rfl, ?_⟩; replace BK517 := am (blk_below (o := .cells #[.int .i64 0, .int .i64 0, .int .i64 0] 30 (0, 0)) (kz BK517) hb); replace HB := am (below_step bz hb); (try clear hb); (try clear hb2); (try clear hk); (try clear hi)))
  go_loopg [9] k (fun kq v9 w' => ∃ (x9_1 x518000_1 x518001_1 x518002_1 : Int), v9 = .int .i64 x9_1 ∧ Aside0 (dancestudioref44_First.l0 kq l0 l1 l2 x9_1 = some (r1, r2, r3, r4)) ∧ Aside0 (kq ≤ k) ∧ Aside0 (w'.heap[gb517]? = some (.cells #[.int .i64 x518000_1, .int .i64 x518001_1, .int .i64 x518002_1] 30 (0, 0))) ∧ Aside0 (Below w.heap.size w w'))
  case atStart => exact ⟨(0), (0), (0), (0), sz, H', ⟨Nat.le_refl _⟩, ⟨kz BK517⟩, ⟨bz⟩⟩
  case round =>
   clear H'
   try clear c1
   try clear c2
   try clear p2
   try clear c5
   try clear c5b0
   try clear c5b1
   obtain ⟨x9_1, x518000_1, x518001_1, x518002_1, rfl, HA, HK1, BK517, HB⟩ := hrel
   cases gk with
   | zero => exact absurd HA.out (by simp [dancestudioref44_First.l0])
   | succ k1 =>
    have H := HA.out
    clear HA
    simp only [dancestudioref44_First.l0] at H
    replace H := Option.bind_eq_some_iff.mp H
    obtain ⟨t519, A80, H⟩ := H
    replace H : (if x9_1 < t519 then (dancestudioref44_First.l1 k1 l0 l1 l2 x9_1 0) else (some ((-1), 0, 0, 0))) = some (r1, r2, r3, r4) := H
    have A8 := am A80
    clear A80
    by_cases c9 : x9_1 < t519
    ·
     rw [if_pos c9] at H
     have c9b0 := decide_eq_true c9
     clear c9
     have H' := am H
     clear H
     go_wp2_with (first | ((with_reducible refine gate_callee (f := 34) rfl ?_); refine goesL_ (some 22) rfl rfl Try.func34 qz rfl #[.slice A0 l0.length c0] rfl mz ?_; (with_reducible refine (dancestudioref44_length.calls _ _ l0 t519 _ ?side1 ?side2 A8.out).mono ?_); (case side1 => exact cz HR0); (case side2 => exact HC0.out); rintro e w' ⟨rfl, ⟨nd, rfl⟩⟩; refine ⟨_, rfl, ?_⟩))
     go_loopg [10] k1 (fun kq v10 w' => ∃ (x10_2 x518000_2 x518001_2 x518002_2 : Int), v10 = .int .i64 x10_2 ∧ Aside0 (dancestudioref44_First.l1 kq l0 l1 l2 x9_1 x10_2 = some (r1, r2, r3, r4)) ∧ Aside0 (kq ≤ k1) ∧ Aside0 (w'.heap[gb517]? = some (.cells #[.int .i64 x518000_2, .int .i64 x518001_2, .int .i64 x518002_2] 30 (0, 0))) ∧ Aside0 (Below w.heap.size w w'))
     case atStart => exact ⟨(0), (x518000_1), (x518001_1), (x518002_1), sz, H', ⟨Nat.le_refl _⟩, ⟨kz BK517⟩, ⟨bz⟩⟩
     case round =>
      clear H'
      try clear c1
      try clear c2
      try clear p2
      try clear c3
      try clear c5
      try clear c5b0
      try clear c5b1
      try clear c9
      try clear c9b0
      try clear p2
      obtain ⟨x10_2, x518000_2, x518001_2, x518002_2, rfl, HA, HK2, BK517, HB⟩ := hrel
      cases gk with
      | zero => exact absurd HA.out (by simp [dancestudioref44_First.l1])
      | succ k2 =>
       have H := HA.out
       clear HA
       simp only [dancestudioref44_First.l1] at H
       by_cases c10 : x10_2 < (l0.length : Int)
       ·
        rw [if_pos c10] at H
        have c10b0 := decide_eq_true c10
        clear c10
        have H' := am H
        clear H
        go_wp2
        go_loopg [11] k2 (fun kq v11 w' => ∃ (x11_3 x518000_3 x518001_3 x518002_3 : Int), v11 = .int .i64 x11_3 ∧ Aside0 (dancestudioref44_First.l2 kq l0 l1 l2 x9_1 x10_2 x11_3 = some (r1, r2, r3, r4)) ∧ Aside0 (kq ≤ k2) ∧ Aside0 (w'.heap[gb517]? = some (.cells #[.int .i64 x518000_3, .int .i64 x518001_3, .int .i64 x518002_3] 30 (0, 0))) ∧ Aside0 (Below w.heap.size w w'))
        case atStart => exact ⟨(wrap64 (x10_2 + 1)), (x518000_2), (x518001_2), (x518002_2), sz, H', ⟨Nat.le_refl _⟩, ⟨kz BK517⟩, ⟨bz⟩⟩
        case round =>
         clear H'
         try clear c1
         try clear c2
         try clear p2
         try clear c3
         try clear c5
         try clear c5b0
         try clear c5b1
         try clear p6
         try clear c9
         try clear c9b0
         try clear c10
         try clear c10b0
         try clear p2
         obtain ⟨x11_3, x518000_3, x518001_3, x518002_3, rfl, HA, HK3, BK517, HB⟩ := hrel
         cases gk with
         | zero => exact absurd HA.out (by simp [dancestudioref44_First.l2])
         | succ k3 =>
          have H := HA.out
          clear HA
          simp only [dancestudioref44_First.l2] at H
          by_cases c11 : x11_3 < (l0.length : Int)
          ·
           rw [if_pos c11] at H
           have c11b0 := decide_eq_true c11
           clear c11
           replace H := Option.bind_eq_some_iff.mp H
           obtain ⟨t520, A120, H⟩ := H
           replace H : (if t520 = true then (some (x9_1, x10_2, x11_3, 0)) else (dancestudioref44_First.l2 k3 l0 l1 l2 x9_1 x10_2 (wrap64 (x11_3 + 1)))) = some (r1, r2, r3, r4) := H
           have A12 := am A120
           clear A120
           by_cases c13 : t520 = true
           ·
            subst c13
            have H1 : (some (x9_1, x10_2, x11_3, 0)) = some (r1, r2, r3, r4) := by rw [if_pos rfl] at H; exact H
            clear H
            have H := H1
            clear H1
            simp only [Option.some.injEq, Prod.mk.injEq] at H
            obtain ⟨rfl, rfl, rfl, rfl⟩ := H
            go_wp2_with (first | ((with_reducible refine gate_callee (f := 35) rfl ?_); refine goesL_ (some 46) rfl rfl Try.func35 qz rfl #[.slice A0 l0.length c0, .slice A1 l1.length c1, .slice A2 l2.length c2, .int .i64 x10_2, .int .i64 x11_3, .int .i64 x9_1] rfl mz ?_; (with_reducible refine (dancestudioref44_meet.calls k3 _ _ l0 _ _ l1 _ _ l2 x10_2 x11_3 x9_1 true _ ?side1 ?side2 ?side3 ?side4 ?side5 ?side6 A12.out).mono ?_); (case side1 => exact cz HR0); (case side2 => exact HC0.out); (case side3 => exact cz HR1); (case side4 => exact HC1.out); (case side5 => exact cz HR2); (case side6 => exact HC2.out); rintro e w14 ⟨rfl, hb⟩; refine ⟨_, rfl, ?_⟩; replace BK517 := am (blk_below (o := .cells #[.int .i64 x518000_3, .int .i64 x518001_3, .int .i64 x518002_3] 30 (0, 0)) (kz BK517) hb); replace HB := am (below_step bz hb); (try clear hb); (try clear hb2); (try clear hk); (try clear hi); obtain ⟨hcz15_0, hcz15_1, hcz15_2, hfz15_0, hfz15_1, hfz15_2⟩ := kc3 BK517.out))
            refine bodyPost_ret (results_ct rfl _ _ gb517 30 #[.int .i64 x9_1, .int .i64 x10_2, .int .i64 x11_3] (0, 0) _ rfl (by (with_reducible repeat first | apply kN | apply kD | apply kA); refine blk_put (cs := #[.int .i64 x9_1, .int .i64 x10_2, .int .i64 x518002_3]) ?_ 2 _ rfl; (with_reducible repeat first | apply kN | apply kD | apply kA); refine blk_put (cs := #[.int .i64 x9_1, .int .i64 x518001_3, .int .i64 x518002_3]) ?_ 1 _ rfl; (with_reducible repeat first | apply kN | apply kD | apply kA); refine blk_put (cs := #[.int .i64 x518000_3, .int .i64 x518001_3, .int .i64 x518002_3]) ?_ 0 _ rfl; (with_reducible repeat first | apply kN | apply kD | apply kA); exact BK517.out) Try.underlying30 rfl qz) rfl ?_
            exact ⟨ez, bz⟩
           ·
            replace c13 := Bool.eq_false_iff.mpr c13
            subst c13
            have H1 : (dancestudioref44_First.l2 k3 l0 l1 l2 x9_1 x10_2 (wrap64 (x11_3 + 1))) = some (r1, r2, r3, r4) := by rw [if_neg (show ¬ (false = true) by decide)] at H; exact H
            clear H
            have H := H1
            clear H1
            have H' := am H
            clear H
            go_wp2_with (first | ((with_reducible refine gate_callee (f := 35) rfl ?_); refine goesL_ (some 46) rfl rfl Try.func35 qz rfl #[.slice A0 l0.length c0, .slice A1 l1.length c1, .slice A2 l2.length c2, .int .i64 x10_2, .int .i64 x11_3, .int .i64 x9_1] rfl mz ?_; (with_reducible refine (dancestudioref44_meet.calls k3 _ _ l0 _ _ l1 _ _ l2 x10_2 x11_3 x9_1 false _ ?side1 ?side2 ?side3 ?side4 ?side5 ?side6 A12.out).mono ?_); (case side1 => exact cz HR0); (case side2 => exact HC0.out); (case side3 => exact cz HR1); (case side4 => exact HC1.out); (case side5 => exact cz HR2); (case side6 => exact HC2.out); rintro e w16 ⟨rfl, hb⟩; refine ⟨_, rfl, ?_⟩; replace BK517 := am (blk_below (o := .cells #[.int .i64 x518000_3, .int .i64 x518001_3, .int .i64 x518002_3] 30 (0, 0)) (kz BK517) hb); replace HB := am (below_step bz hb); (try clear hb); (try clear hb2); (try clear hk); (try clear hi)))
            go_roundg k3
            case measure => have := HK1.out; have := HK2.out; have := HK3.out; omega
            case rel => exact ⟨(wrap64 (x11_3 + 1)), (x518000_3), (x518001_3), (x518002_3), sz, H', ⟨by have := HK1.out; have := HK2.out; have := HK3.out; omega⟩, ⟨kz BK517⟩, ⟨bz⟩⟩
          ·
           rw [if_neg c11] at H
           have c11b0 := decide_eq_false c11
           clear c11
           have H' := am H
           clear H
           go_wp2
           go_roundg k3
           case measure => have := HK1.out; have := HK2.out; have := HK3.out; omega
           case rel => exact ⟨(wrap64 (x10_2 + 1)), (x518000_3), (x518001_3), (x518002_3), sz, H', ⟨by have := HK1.out; have := HK2.out; have := HK3.out; omega⟩, ⟨kz BK517⟩, ⟨bz⟩⟩
       ·
        rw [if_neg c10] at H
        have c10b0 := decide_eq_false c10
        clear c10
        have H' := am H
        clear H
        go_wp2
        go_roundg k2
        case measure => have := HK1.out; have := HK2.out; omega
        case rel => exact ⟨(wrap64 (x9_1 + 1)), (x518000_2), (x518001_2), (x518002_2), sz, H', ⟨by have := HK1.out; have := HK2.out; omega⟩, ⟨kz BK517⟩, ⟨bz⟩⟩
    ·
     rw [if_neg c9] at H
     have c9b0 := decide_eq_false c9
     clear c9
     simp only [Option.some.injEq, Prod.mk.injEq] at H
     obtain ⟨rfl, rfl, rfl, rfl⟩ := H
     go_wp2_with (first | ((with_reducible refine gate_callee (f := 34) rfl ?_); refine goesL_ (some 22) rfl rfl Try.func34 qz rfl #[.slice A0 l0.length c0] rfl mz ?_; (with_reducible refine (dancestudioref44_length.calls _ _ l0 t519 _ ?side1 ?side2 A8.out).mono ?_); (case side1 => exact cz HR0); (case side2 => exact HC0.out); rintro e w' ⟨rfl, ⟨nd, rfl⟩⟩; refine ⟨_, rfl, ?_⟩; (try (rw [drewN_self wr]; (repeat rw [World.drewN_drewN]); generalize hq_ : World.drewN wr _ = wr; have n0_ : Aside0 (wr.heap[gb517]? = some (.cells #[.int .i64 x518000_1, .int .i64 x518001_1, .int .i64 x518002_1] 30 (0, 0))) := ⟨by rw [← hq_]; exact (kz BK517)⟩; have n1_ : Aside0 (Below w.heap.size w wr) := ⟨by rw [← hq_]; exact bz⟩; clear BK517 HB hq_; have BK517 := n0_; have HB := n1_; clear n0_ n1_)); obtain ⟨hcz17_0, hcz17_1, hcz17_2, hfz17_0, hfz17_1, hfz17_2⟩ := kc3 BK517.out))
     refine bodyPost_ret (results_ct rfl _ _ gb517 30 #[.int .i64 (-1), .int .i64 0, .int .i64 0] (0, 0) _ rfl (by (with_reducible repeat first | apply kN | apply kD | apply kA); refine blk_put (cs := #[.int .i64 (-1), .int .i64 0, .int .i64 x518002_1]) ?_ 2 _ rfl; (with_reducible repeat first | apply kN | apply kD | apply kA); refine blk_put (cs := #[.int .i64 (-1), .int .i64 x518001_1, .int .i64 x518002_1]) ?_ 1 _ rfl; (with_reducible repeat first | apply kN | apply kD | apply kA); refine blk_put (cs := #[.int .i64 x518000_1, .int .i64 x518001_1, .int .i64 x518002_1]) ?_ 0 _ rfl; (with_reducible repeat first | apply kN | apply kD | apply kA); exact BK517.out) Try.underlying30 rfl qz) rfl ?_
     exact ⟨ez, bz⟩
 ·
  rw [if_neg c5] at H
  have c5b0 : (t518 == 0) = false := beq_eq_false_iff_ne.mpr c5
  have c5b1 : (t518 != 0) = true := bne_iff_ne.mpr c5
  simp only [Option.some.injEq, Prod.mk.injEq] at H
  obtain ⟨rfl, rfl, rfl, rfl⟩ := H
  go_enter Try.func18, Try.ntmps18
  go_wp2_with (first | ((with_reducible refine gate_dst (N := 6) rfl ?_); refine box_event yz (N := 6) yz (cs := #[.int .i64 0, .int .i64 0, .int .i64 0]) (t := 30) gz ?_; intro gb517 hg w18 hbox hb; have BK517 := am (hbox); have GW517 := gwz (g := gb517) HB hg; have GE517 := GW517; replace HB := am (below_step bz hb); clear hb hbox hg) | ((with_reducible refine gate_callee (f := 13) rfl ?_); refine goesL_ (some 15) rfl rfl Try.func13 qz rfl #[.slice A0 l0.length c0, .slice A1 l1.length c1, .slice A2 l2.length c2] rfl mz ?_; (with_reducible refine (dancestudioref44_Check.calls k _ _ l0 _ _ l1 _ _ l2 t518 _ ?side1 ?side2 ?side3 ?side4 ?side5 ?side6 A4.out).mono ?_); (case side1 => exact cz HR0); (case side2 => exact HC0.out); (case side3 => exact cz HR1); (case side4 => exact HC1.out); (case side5 => exact cz HR2); (case side6 => exact HC2.out); rintro e w19 ⟨rfl, hb⟩; refine ⟨_, rfl, ?_⟩; replace BK517 := am (blk_below (o := .cells #[.int .i64 0, .int .i64 0, .int .i64 0] 30 (0, 0)) (kz BK517) hb); replace HB := am (below_step bz hb); (try clear hb); (try clear hb2); (try clear hk); (try clear hi); obtain ⟨hcz20_0, hcz20_1, hcz20_2, hfz20_0, hfz20_1, hfz20_2⟩ := kc3 BK517.out))
  refine bodyPost_ret (results_ct rfl _ _ gb517 30 #[.int .i64 0, .int .i64 0, .int .i64 0] (0, 0) _ rfl (by (with_reducible repeat first | apply kN | apply kD | apply kA); refine blk_put (cs := #[.int .i64 0, .int .i64 0, .int .i64 0]) ?_ 2 _ rfl; (with_reducible repeat first | apply kN | apply kD | apply kA); refine blk_put (cs := #[.int .i64 0, .int .i64 0, .int .i64 0]) ?_ 1 _ rfl; (with_reducible repeat first | apply kN | apply kD | apply kA); refine blk_put (cs := #[.int .i64 0, .int .i64 0, .int .i64 0]) ?_ 0 _ rfl; (with_reducible repeat first | apply kN | apply kD | apply kA); exact BK517.out) Try.underlying30 rfl qz) rfl ?_
  exact ⟨ez, bz⟩

end Go.Proofs.Yteflngoiebgdaaa.X
