import Derived.Test.YteflngoiebgdaaaCRoomcX0
import Derived.Test.YteflngoiebgdaaaCRoomcX41
import Derived.Test.YteflngoiebgdaaaCRoom41
import Derived.Test.YteflngoiebgdaaaCRoomcX62
namespace Go.Proofs.Yteflngoiebgdaaa.X
open Go.RowKit YteflngoiebgdaaaW.PrintWords YteflngoiebgdaaaW.PrintLast YteflngoiebgdaaaW.PrintMore
attribute [local go_sem] max2_int min2_int max_two min_two max_three min_three max_four min_four
set_option linter.unusedVariables false
set_option linter.unusedSimpArgs false

/-! ### dancestudioref44_Room: function 21 -/
mutual
def dancestudioref44_Room.j0 : Nat → List (S43) → Int → Bool → Option (Int × Int)
 | 0, _, _, _ => none
 | k + 1, x0, x3, x33 => if x33 = true then (some (0, 1)) else (dancestudioref44_Room.l0 k x0 x3 (-1) 0)
def dancestudioref44_Room.l0 : Nat → List (S43) → Int → Int → Int → Option (Int × Int)
 | 0, _, _, _, _ => none
 | k + 1, x0, x3, x11, x12 => if x12 < (x0.length : Int) then (dancestudioref44_Room.l1 k x0 x3 x11 x12 (wrap64 (x12 + 1))) else (some (x11, 0))
def dancestudioref44_Room.l1 : Nat → List (S43) → Int → Int → Int → Int → Option (Int × Int)
 | 0, _, _, _, _, _ => none
 | k + 1, x0, x3, x11, x12, x13 => if x13 < (x0.length : Int) then (if 0 ≤ x12 then (if x12 < (x0.length : Int) then (if 0 ≤ x3 then (if x3 < (((rd_T43 x0 x12).f0).length : Int) then (if 0 ≤ x13 then (if x3 < (((rd_T43 x0 x13).f0).length : Int) then ((dancestudioref03_Dist2.f ((rd_T54 ((rd_T43 x0 x12).f0) x3).f0.f0) ((rd_T54 ((rd_T43 x0 x12).f0) x3).f0.f1) ((rd_T54 ((rd_T43 x0 x13).f0) x3).f0.f0) ((rd_T54 ((rd_T43 x0 x13).f0) x3).f0.f1)).bind fun bt580 => (if x11 < 0 then (dancestudioref44_Room.l1 k x0 x3 bt580.1 x12 (wrap64 (x13 + 1))) else (if bt580.1 < x11 then (dancestudioref44_Room.l1 k x0 x3 bt580.1 x12 (wrap64 (x13 + 1))) else (dancestudioref44_Room.l1 k x0 x3 x11 x12 (wrap64 (x13 + 1)))))) else (none)) else (none)) else (none)) else (none)) else (none)) else (none)) else (dancestudioref44_Room.l0 k x0 x3 x11 (wrap64 (x12 + 1)))
end
def dancestudioref44_Room.f (k : Nat) (l0 : List (S43)) (l1 : List Int) (l2 : List (S62)) (a3 : Int) : Option (Int × Int) := (dancestudioref44_Check.f k l0 l1 l2).bind fun t574 => (if t574 = 0 then (if (l0.length : Int) < 2 then (some (0, 6)) else (if a3 < 0 then (dancestudioref44_Room.j0 k l0 a3 true) else ((dancestudioref44_length.f l0).bind fun t575 => (dancestudioref44_Room.j0 k l0 a3 (decide (a3 > t575)))))) else (some (0, t574)))
theorem dancestudioref44_Room.mono_l : ∀ k, (∀ y0 y1 y2, LeO (dancestudioref44_Room.j0 k y0 y1 y2) (dancestudioref44_Room.j0 (k + 1) y0 y1 y2)) ∧ (∀ y0 y1 y2 y3, LeO (dancestudioref44_Room.l0 k y0 y1 y2 y3) (dancestudioref44_Room.l0 (k + 1) y0 y1 y2 y3)) ∧ (∀ y0 y1 y2 y3 y4, LeO (dancestudioref44_Room.l1 k y0 y1 y2 y3 y4) (dancestudioref44_Room.l1 (k + 1) y0 y1 y2 y3 y4))
 | 0 => ⟨fun _ _ _ r h => by simp [dancestudioref44_Room.j0] at h, fun _ _ _ _ r h => by simp [dancestudioref44_Room.l0] at h, fun _ _ _ _ _ r h => by simp [dancestudioref44_Room.l1] at h⟩
 | k + 1 => by
  obtain ⟨ih0, ih1, ih2⟩ := dancestudioref44_Room.mono_l k
  refine ⟨?_, ?_, ?_⟩
  ·
   intro y0 y1 y2
   unfold dancestudioref44_Room.j0
   repeat' first
   | (with_reducible exact ih0 _ _ _)
   | (with_reducible exact ih1 _ _ _ _)
   | (with_reducible exact ih2 _ _ _ _ _)
   | (with_reducible exact dancestudioref44_Check.mono _ _ _ _)
   | (with_reducible exact LeO.refl _)
   | (with_reducible exact LeO.none _)
   | (with_reducible refine LeO.ite ?_ ?_)
   | (with_reducible refine LeO.bind ?_ (fun _ => ?_))
   | exact ih0 _ _ _
   | exact ih1 _ _ _ _
   | exact ih2 _ _ _ _ _
   | exact dancestudioref44_Check.mono _ _ _ _
   | exact LeO.none _
   | refine LeO.ite ?_ ?_
   | refine LeO.bind ?_ (fun _ => ?_)
  ·
   intro y0 y1 y2 y3
   unfold dancestudioref44_Room.l0
   repeat' first
   | (with_reducible exact ih0 _ _ _)
   | (with_reducible exact ih1 _ _ _ _)
   | (with_reducible exact ih2 _ _ _ _ _)
   | (with_reducible exact dancestudioref44_Check.mono _ _ _ _)
   | (with_reducible exact LeO.refl _)
   | (with_reducible exact LeO.none _)
   | (with_reducible refine LeO.ite ?_ ?_)
   | (with_reducible refine LeO.bind ?_ (fun _ => ?_))
   | exact ih0 _ _ _
   | exact ih1 _ _ _ _
   | exact ih2 _ _ _ _ _
   | exact dancestudioref44_Check.mono _ _ _ _
   | exact LeO.none _
   | refine LeO.ite ?_ ?_
   | refine LeO.bind ?_ (fun _ => ?_)
  ·
   intro y0 y1 y2 y3 y4
   unfold dancestudioref44_Room.l1
   repeat' first
   | (with_reducible exact ih0 _ _ _)
   | (with_reducible exact ih1 _ _ _ _)
   | (with_reducible exact ih2 _ _ _ _ _)
   | (with_reducible exact dancestudioref44_Check.mono _ _ _ _)
   | (with_reducible exact LeO.refl _)
   | (with_reducible exact LeO.none _)
   | (with_reducible refine LeO.ite ?_ ?_)
   | (with_reducible refine LeO.bind ?_ (fun _ => ?_))
   | exact ih0 _ _ _
   | exact ih1 _ _ _ _
   | exact ih2 _ _ _ _ _
   | exact dancestudioref44_Check.mono _ _ _ _
   | exact LeO.none _
   | refine LeO.ite ?_ ?_
   | refine LeO.bind ?_ (fun _ => ?_)
theorem dancestudioref44_Room.mono : ∀ a0 a1 a2 a3 k, LeO (dancestudioref44_Room.f k a0 a1 a2 a3) (dancestudioref44_Room.f (k + 1) a0 a1 a2 a3) := by
 intro a0 a1 a2 a3 k
 obtain ⟨ih0, ih1, ih2⟩ := dancestudioref44_Room.mono_l k
 unfold dancestudioref44_Room.f
 repeat' first
   | (with_reducible exact ih0 _ _ _)
   | (with_reducible exact ih1 _ _ _ _)
   | (with_reducible exact ih2 _ _ _ _ _)
   | (with_reducible exact dancestudioref44_Check.mono _ _ _ _)
   | (with_reducible exact LeO.refl _)
   | (with_reducible exact LeO.none _)
   | (with_reducible refine LeO.ite ?_ ?_)
   | (with_reducible refine LeO.bind ?_ (fun _ => ?_))
   | exact ih0 _ _ _
   | exact ih1 _ _ _ _
   | exact ih2 _ _ _ _ _
   | exact dancestudioref44_Check.mono _ _ _ _
   | exact LeO.none _
   | refine LeO.ite ?_ ?_
   | refine LeO.bind ?_ (fun _ => ?_)
def dancestudioref44_Room.T15 : Bool × List (List Nat × List Nat) := (true, [([], []), ([], []), ([0, 1], [0, 1]), ([2], [2]), ([3], [3]), ([], []), ([4, 5], [4, 5]), ([6], [6]), ([7], [7]), ([], []), ([], []), ([9, 10], [9, 10]), ([11], [11]), ([12], [12]), ([], []), ([13, 14], [13, 14]), ([15], [15]), ([16], [16]), ([8, 17], [8, 17]), ([18], [18]), ([19], [19]), ([19], [19]), ([20, 18, 0, 1, 2, 3, 4, 5, 6, 7, 8, 9, 10, 11, 12, 13, 14, 15, 16, 17, 18, 19, 20], [20]), ([21, 22, 0, 1, 2, 3, 4, 5, 6, 7, 8, 9, 10, 11, 12, 13, 14, 15, 16, 17, 18, 19, 20, 21, 22], [21])])
def dancestudioref44_Room.B15 : List Nat := [0, 0, 3, 7, 15, 0, 63, 127, 255, 0, 0, 1536, 3584, 7680, 0, 32256, 65024, 130560, 262143, 524287, 1048575, 1048575, 2097151, 8388607]
theorem dancestudioref44_Room.tab15 : rtab .any (opsOf Try.f21 15) = dancestudioref44_Room.T15 := by kernel_rfl
theorem dancestudioref44_Room.bits15 : waitsOk dancestudioref44_Room.T15.2 dancestudioref44_Room.B15 = true := by kernel_rfl
set_option maxHeartbeats 8000000 in
set_option maxRecDepth 100000 in
theorem dancestudioref44_Room.calls (k : Nat) (A0 : Option Addr) (c0 : Nat) (l0 : List (S43)) (A1 : Option Addr) (c1 : Nat) (l1 : List Int) (A2 : Option Addr) (c2 : Nat) (l2 : List (S62)) (a3 r1 r2 : Int) (w : World) (hr0 : Kd.C k43 w A0 l0.length l0) (hc0 : l0.length ≤ c0) (hr1 : Kd.C (Kd.int .i64) w A1 l1.length l1) (hc1 : l1.length ≤ c1) (hr2 : Kd.C k62 w A2 l2.length l2) (hc2 : l2.length ≤ c2) (h : dancestudioref44_Room.f k l0 l1 l2 a3 = some (r1, r2)) :
  Calls Try.prog 21 #[.slice A0 l0.length c0, .slice A1 l1.length c1, .slice A2 l2.length c2, .int .i64 a3] w fun e w' => e = .returned (.tuple #[.int .i64 r1, .int .i64 r2]) ∧ Below w.heap.size w w' := by
 have hu49 := Try.underlying49
 have HR0 := am hr0
 have HC0 := am hc0
 clear hr0 hc0
 have HR1 := am hr1
 have HC1 := am hc1
 clear hr1 hc1
 have HR2 := am hr2
 have HC2 := am hc2
 clear hr2 hc2
 have HB := am (Below.refl w.heap.size w)
 have H : ((dancestudioref44_Check.f k l0 l1 l2).bind fun t574 => (if t574 = 0 then (if (l0.length : Int) < 2 then (some (0, 6)) else (if a3 < 0 then (dancestudioref44_Room.j0 k l0 a3 true) else ((dancestudioref44_length.f l0).bind fun t575 => (dancestudioref44_Room.j0 k l0 a3 (decide (a3 > t575)))))) else (some (0, t574)))) = some (r1, r2) := h
 clear h
 replace H := Option.bind_eq_some_iff.mp H
 obtain ⟨t574, A50, H⟩ := H
 replace H : (if t574 = 0 then (if (l0.length : Int) < 2 then (some (0, 6)) else (if a3 < 0 then (dancestudioref44_Room.j0 k l0 a3 true) else ((dancestudioref44_length.f l0).bind fun t575 => (dancestudioref44_Room.j0 k l0 a3 (decide (a3 > t575)))))) else (some (0, t574))) = some (r1, r2) := H
 have A5 := am A50
 clear A50
 by_cases c6 : t574 = 0
 ·
  rw [if_pos c6] at H
  have c6b0 : (t574 == 0) = true := beq_iff_eq.mpr c6
  have c6b1 : (t574 != 0) = false := bne_eq_false_iff_eq.mpr c6
  clear c6
  by_cases c7 : (l0.length : Int) < 2
  ·
   rw [if_pos c7] at H
   have c7b0 := decide_eq_true c7
   have c7b1 : decide (l0.length < 2) = true := decide_eq_true (by omega)
   clear c7
   simp only [Option.some.injEq, Prod.mk.injEq] at H
   obtain ⟨rfl, rfl⟩ := H
   go_enter Try.func21, Try.ntmps21
   go_wp2_with (first | ((with_reducible refine gate_callee (f := 13) rfl ?_); refine goesL_ (some 19) rfl rfl Try.func13 qz rfl #[.slice A0 l0.length c0, .slice A1 l1.length c1, .slice A2 l2.length c2] rfl mz ?_; (with_reducible refine (dancestudioref44_Check.calls k _ _ l0 _ _ l1 _ _ l2 t574 _ ?side1 ?side2 ?side3 ?side4 ?side5 ?side6 A5.out).mono ?_); (case side1 => repeat (first | exact HR0.out | (with_reducible first | apply cA | apply cN | apply cD))); (case side2 => exact HC0.out); (case side3 => repeat (first | exact HR1.out | (with_reducible first | apply cA | apply cN | apply cD))); (case side4 => exact HC1.out); (case side5 => repeat (first | exact HR2.out | (with_reducible first | apply cA | apply cN | apply cD))); (case side6 => exact HC2.out); rintro e w8 ⟨rfl, hb⟩; refine ⟨_, rfl, ?_⟩; replace HB := am (below_step bz hb); (try clear hb); (try clear hb2); (try clear hk); (try clear hi)))
   go_ret2
   exact ⟨ez, bz⟩
  ·
   rw [if_neg c7] at H
   have c7b0 := decide_eq_false c7
   have c7b1 : decide (l0.length < 2) = false := decide_eq_false (by omega)
   clear c7
   have HC9 := am H
   clear H
   go_enter Try.func21, Try.ntmps21
   go_upto_region 6 with (first | ((with_reducible refine gate_callee (f := 13) rfl ?_); refine goesL_ (some 19) rfl rfl Try.func13 qz rfl #[.slice A0 l0.length c0, .slice A1 l1.length c1, .slice A2 l2.length c2] rfl mz ?_; (with_reducible refine (dancestudioref44_Check.calls k _ _ l0 _ _ l1 _ _ l2 t574 _ ?side1 ?side2 ?side3 ?side4 ?side5 ?side6 A5.out).mono ?_); (case side1 => repeat (first | exact HR0.out | (with_reducible first | apply cA | apply cN | apply cD))); (case side2 => exact HC0.out); (case side3 => repeat (first | exact HR1.out | (with_reducible first | apply cA | apply cN | apply cD))); (case side4 => exact HC1.out); (case side5 => repeat (first | exact HR2.out | (with_reducible first | apply cA | apply cN | apply cD))); (case side6 => exact HC2.out); rintro e w10 ⟨rfl, hb⟩; refine ⟨_, rfl, ?_⟩; replace HB := am (below_step bz hb); (try clear hb); (try clear hb2); (try clear hk); (try clear hi)))
   (try simp only [Act.put, List.setIfInBounds_toArray, List.set_cons_zero, List.set_cons_succ])
   go_cut [33] (fun v33 wc => ∃ (kq : Nat) (x33_8 : Bool), v33 = .bool x33_8 ∧ Aside0 (dancestudioref44_Room.j0 kq l0 a3 x33_8 = some (r1, r2)) ∧ Aside0 (kq ≤ k) ∧ Aside0 (Below w.heap.size w wc))
   case first =>
    have H := HC9.out
    clear HC9
    by_cases c11 : a3 < 0
    ·
     rw [if_pos c11] at H
     have c11b0 := decide_eq_true c11
     clear c11
     (first | rw [c11b0] | (simp only [i64_w, i32_w]; rw [c11b0]) | skip)
     have H' := am H
     clear H
     go_wp2
     go_meet
     case rel => exact ⟨_, (true), sz, H', ⟨by first | omega | exact Nat.le_refl _⟩, ⟨bz⟩⟩
    ·
     rw [if_neg c11] at H
     have c11b0 := decide_eq_false c11
     clear c11
     (first | rw [c11b0] | (simp only [i64_w, i32_w]; rw [c11b0]) | skip)
     replace H := Option.bind_eq_some_iff.mp H
     obtain ⟨t575, A120, H⟩ := H
     replace H : (dancestudioref44_Room.j0 k l0 a3 (decide (a3 > t575))) = some (r1, r2) := H
     have A12 := am A120
     clear A120
     have H' := am H
     clear H
     go_wp2_with (first | (go_at_call 34; (with_reducible refine (dancestudioref44_length.calls _ _ l0 t575 _ ?side1 ?side2 A12.out).mono ?_); (case side1 => exact cz HR0); (case side2 => exact HC0.out); rintro e w' ⟨rfl, ⟨nd, rfl⟩⟩))
     go_meet
     case rel => exact ⟨_, (decide (a3 > t575)), sz, H', ⟨by first | omega | exact Nat.le_refl _⟩, ⟨bz⟩⟩
   case rest =>
    clear HC9
    try clear c1
    try clear c2
    try clear p2
    try clear c6
    try clear c6b0
    try clear c6b1
    try clear c7
    try clear c7b0
    try clear c7b1
    try clear c11
    try clear c11b0
    obtain ⟨kq, x33_8, rfl, HA, HJ8, HB⟩ := hcut
    cases kq with
    | zero => exact absurd HA.out (by simp [dancestudioref44_Room.j0])
    | succ kj8 =>
     have H := HA.out
     clear HA
     simp only [dancestudioref44_Room.j0] at H
     by_cases c13 : x33_8 = true
     ·
      subst c13
      have H1 : (some (0, 1)) = some (r1, r2) := by rw [if_pos rfl] at H; exact H
      clear H
      have H := H1
      clear H1
      simp only [Option.some.injEq, Prod.mk.injEq] at H
      obtain ⟨rfl, rfl⟩ := H
      go_wp2
      go_ret2
      exact ⟨ez, bz⟩
     ·
      replace c13 := Bool.eq_false_iff.mpr c13
      subst c13
      have H1 : (dancestudioref44_Room.l0 kj8 l0 a3 (-1) 0) = some (r1, r2) := by rw [if_neg (show ¬ (false = true) by decide)] at H; exact H
      clear H
      have H := H1
      clear H1
      have H' := am H
      clear H
      go_wp2
      go_loopg [11, 12] kj8 (fun kq v11 v12 w' => ∃ (x11_2 x12_2 : Int), v11 = .int .i64 x11_2 ∧ v12 = .int .i64 x12_2 ∧ Aside0 (dancestudioref44_Room.l0 kq l0 a3 x11_2 x12_2 = some (r1, r2)) ∧ Aside0 (kq ≤ kj8) ∧ Aside0 (Below w.heap.size w w'))
      case atStart => exact ⟨((-1)), (0), sz, sz, H', ⟨Nat.le_refl _⟩, ⟨bz⟩⟩
      case round =>
       clear H'
       try clear c1
       try clear c2
       try clear p2
       try clear c6
       try clear c6b0
       try clear c6b1
       try clear c7
       try clear c7b0
       try clear c7b1
       try clear c11
       try clear c11b0
       try clear c13
       try clear p2
       obtain ⟨x11_2, x12_2, rfl, rfl, HA, HK2, HB⟩ := hrel
       cases gk with
       | zero => exact absurd HA.out (by simp [dancestudioref44_Room.l0])
       | succ k2 =>
        have H := HA.out
        clear HA
        simp only [dancestudioref44_Room.l0] at H
        by_cases c14 : x12_2 < (l0.length : Int)
        ·
         rw [if_pos c14] at H
         have c14b0 := decide_eq_true c14
         clear c14
         have H' := am H
         clear H
         go_wp2
         go_loopg [11, 13] k2 (fun kq v11 v13 w' => ∃ (x11_3 x13_3 : Int), v11 = .int .i64 x11_3 ∧ v13 = .int .i64 x13_3 ∧ Aside0 (dancestudioref44_Room.l1 kq l0 a3 x11_3 x12_2 x13_3 = some (r1, r2)) ∧ Aside0 (kq ≤ k2) ∧ Aside0 (Below w.heap.size w w'))
         case atStart => exact ⟨(x11_2), (wrap64 (x12_2 + 1)), sz, sz, H', ⟨Nat.le_refl _⟩, ⟨bz⟩⟩
         case round =>
          clear H'
          try clear c1
          try clear c2
          try clear p2
          try clear c6
          try clear c6b0
          try clear c6b1
          try clear p6
          try clear c7
          try clear c7b0
          try clear c7b1
          try clear c11
          try clear c11b0
          try clear c13
          try clear c14
          try clear c14b0
          try clear p2
          obtain ⟨x11_3, x13_3, rfl, rfl, HA, HK3, HB⟩ := hrel
          cases gk with
          | zero => exact absurd HA.out (by simp [dancestudioref44_Room.l1])
          | succ k3 =>
           have H := HA.out
           clear HA
           simp only [dancestudioref44_Room.l1] at H
           by_cases c15 : x13_3 < (l0.length : Int)
           ·
            rw [if_pos c15] at H
            have c15b0 := decide_eq_true c15
            clear c15
            by_cases c16 : 0 ≤ x12_2; rotate_left
            · rw [if_neg c16] at H; exact absurd H (by simp)
            rw [if_pos c16] at H
            have c16b0 := decide_eq_true c16
            clear c16
            by_cases c17 : x12_2 < (l0.length : Int); rotate_left
            · rw [if_neg c17] at H; exact absurd H (by simp)
            rw [if_pos c17] at H
            have c17b0 := decide_eq_true c17
            clear c17
            by_cases c18 : 0 ≤ a3; rotate_left
            · rw [if_neg c18] at H; exact absurd H (by simp)
            rw [if_pos c18] at H
            have c18b0 := decide_eq_true c18
            clear c18
            by_cases c19 : a3 < (((rd_T43 l0 x12_2).f0).length : Int); rotate_left
            · rw [if_neg c19] at H; exact absurd H (by simp)
            rw [if_pos c19] at H
            have c19b0 := decide_eq_true c19
            clear c19
            by_cases c20 : 0 ≤ x13_3; rotate_left
            · rw [if_neg c20] at H; exact absurd H (by simp)
            rw [if_pos c20] at H
            have c20b0 := decide_eq_true c20
            clear c20
            by_cases c21 : a3 < (((rd_T43 l0 x13_3).f0).length : Int); rotate_left
            · rw [if_neg c21] at H; exact absurd H (by simp)
            rw [if_pos c21] at H
            have c21b0 := decide_eq_true c21
            clear c21
            replace H := Option.bind_eq_some_iff.mp H
            obtain ⟨⟨t580, t581⟩, A220, H⟩ := H
            replace H : (if x11_3 < 0 then (dancestudioref44_Room.l1 k3 l0 a3 t580 x12_2 (wrap64 (x13_3 + 1))) else (if t580 < x11_3 then (dancestudioref44_Room.l1 k3 l0 a3 t580 x12_2 (wrap64 (x13_3 + 1))) else (dancestudioref44_Room.l1 k3 l0 a3 x11_3 x12_2 (wrap64 (x13_3 + 1))))) = some (r1, r2) := H
            have A22 := am A220
            clear A220
            by_cases c23 : x11_3 < 0
            ·
             rw [if_pos c23] at H
             have c23b0 := decide_eq_true c23
             clear c23
             have H' := am H
             clear H
             try go_wp2
             have n0_ := am (below_drew1 HB.out)
             clear HB
             have HB := n0_
             clear n0_
             have p576 : 0 ≤ (x12_2 : Int) := az
             have q576 : x12_2 < (l0.length : Int) := az
             obtain ⟨ad576, A576_0, c576_0, A576_1, c576_1, e576, hx576_0, hx576_1, hl576_0, hi576_0, hl576_1, hi576_1⟩ := at_T43 HR0.out x12_2 p576 q576
             have hw576_1 := hx576_1
             have hw576_0 := hx576_0
             cases e576
             replace hx576_0 := cb HB.out hx576_0
             replace hx576_1 := cb HB.out hx576_1
             have HR576_0 := am hi576_0
             have HC576_0 := am hl576_0
             clear hi576_0 hl576_0
             have HR576_1 := am hi576_1
             have HC576_1 := am hl576_1
             clear hi576_1 hl576_1
             replace p576 := eq_true p576
             replace q576 := eq_true q576
             have p577 : 0 ≤ (a3 : Int) := az
             have q577 : a3 < (((rd_T43 l0 x12_2).f0).length : Int) := az
             obtain ⟨ad577, e577, hx577_0, hx577_1, _, _, _, _, _, _, _, _, _, _, _, _, _, _, _, _, _, _, _, _⟩ := at_T54 HR576_0.out a3 p577 q577
             have hw577_1 := hx577_1
             have hw577_0 := hx577_0
             cases e577
             replace hx577_0 := cb HB.out hx577_0
             replace hx577_1 := cb HB.out hx577_1
             replace p577 := eq_true p577
             replace q577 := eq_true q577
             have p578 : 0 ≤ (x13_3 : Int) := az
             have q578 : x13_3 < (l0.length : Int) := az
             obtain ⟨ad578, A578_0, c578_0, A578_1, c578_1, e578, hx578_0, hx578_1, hl578_0, hi578_0, hl578_1, hi578_1⟩ := at_T43 HR0.out x13_3 p578 q578
             have hw578_1 := hx578_1
             have hw578_0 := hx578_0
             obtain rfl : ad576 = ad578 := (by injection e578)
             replace hx578_0 := cb HB.out hx578_0
             replace hx578_1 := cb HB.out hx578_1
             have HR578_0 := am hi578_0
             have HC578_0 := am hl578_0
             clear hi578_0 hl578_0
             have HR578_1 := am hi578_1
             have HC578_1 := am hl578_1
             clear hi578_1 hl578_1
             replace p578 := eq_true p578
             replace q578 := eq_true q578
             have p579 : 0 ≤ (a3 : Int) := az
             have q579 : a3 < (((rd_T43 l0 x13_3).f0).length : Int) := az
             obtain ⟨ad579, e579, hx579_0, hx579_1, _, _, _, _, _, _, _, _, _, _, _, _, _, _, _, _, _, _, _, _⟩ := at_T54 HR578_0.out a3 p579 q579
             have hw579_1 := hx579_1
             have hw579_0 := hx579_0
             cases e579
             replace hx579_0 := cb HB.out hx579_0
             replace hx579_1 := cb HB.out hx579_1
             replace p579 := eq_true p579
             replace q579 := eq_true q579
             refine start_ (n := 24) (S := fun w' => w'.cell? (ad576.add ((x12_2).toNat * 2)) = some (.slice (some ad577) ((rd_T43 l0 x12_2).f0).length c576_0) ∧ w'.cell? ⟨(ad576.add ((x12_2).toNat * 2)).block, (ad576.add ((x12_2).toNat * 2)).off + 1, none⟩ = some (.slice A576_1 ((rd_T43 l0 x12_2).f1).length c576_1) ∧ w'.cell? (ad577.add ((a3).toNat * 22)) = some (.int .i64 ((rd_T54 ((rd_T43 l0 x12_2).f0) a3).f0.f0)) ∧ w'.cell? ⟨(ad577.add ((a3).toNat * 22)).block, (ad577.add ((a3).toNat * 22)).off + 1, none⟩ = some (.int .i64 ((rd_T54 ((rd_T43 l0 x12_2).f0) a3).f0.f1)) ∧ w'.cell? (ad576.add ((x13_3).toNat * 2)) = some (.slice (some ad579) ((rd_T43 l0 x13_3).f0).length c578_0) ∧ w'.cell? ⟨(ad576.add ((x13_3).toNat * 2)).block, (ad576.add ((x13_3).toNat * 2)).off + 1, none⟩ = some (.slice A578_1 ((rd_T43 l0 x13_3).f1).length c578_1) ∧ w'.cell? (ad579.add ((a3).toNat * 22)) = some (.int .i64 ((rd_T54 ((rd_T43 l0 x13_3).f0) a3).f0.f0)) ∧ w'.cell? ⟨(ad579.add ((a3).toNat * 22)).block, (ad579.add ((a3).toNat * 22)).off + 1, none⟩ = some (.int .i64 ((rd_T54 ((rd_T43 l0 x13_3).f0) a3).f0.f1))) (ds := []) (bm 24 0) qz rfl rfl ⟨(cb HB.out hw576_0), (cb HB.out hw576_1), (cb HB.out hw577_0), (cb HB.out hw577_1), (cb HB.out hw578_0), (cb HB.out hw578_1), (cb HB.out hw579_0), (cb HB.out hw579_1)⟩ (fun hHeld => ?_); refine with_tabW dancestudioref44_Room.tab15 dancestudioref44_Room.bits15 (fun HT_ HW_ => ?_)
             generalize wr.drew = w24 at HB HR576_0 HR576_1 HR578_0 HR578_1 hx576_0 hx576_1 hx577_0 hx577_1 hx578_0 hx578_1 hx579_0 hx579_1 hHeld ⊢
             refine pa (i := 0) (N := some 49) (bm 24 1) HT_ ?_
             refine pa (i := 1) (N := some 50) (bm 24 3) HT_ ?_
             refine pa (i := 2) (N := some 51) (bm 24 7) HT_ ?_
             refine pa (i := 3) (N := some 52) (bm 24 15) HT_ ?_
             refine pa (i := 5) (N := some 54) (bm 24 47) HT_ ?_
             refine pa (i := 9) (N := some 58) (bm 24 559) HT_ ?_
             refine pa (i := 10) (N := some 59) (bm 24 1583) HT_ ?_
             refine pa (i := 11) (N := some 60) (bm 24 3631) HT_ ?_
             refine pa (i := 12) (N := some 61) (bm 24 7727) HT_ ?_
             refine pa (i := 14) (N := some 63) (bm 24 24111) HT_ ?_
             refine take_ (i := 4) (N := some 53) (v := ?_) (a' := ?_) (bm 24 24127) rfl rfl (take_ofW HT_.out HW_.out qz) iz (Or.inl ⟨by rfl, ?_⟩) hHeld ?_ ?_
             rotate_left
             ·
              rintro w' ⟨s0, s1, s2, s3, s4, s5, s6, s7⟩
              go_simp
              with_reducible rfl
             rotate_left
             ·
              simp only [Act.put, aS, lZ, lS, i64_w, i32_w]
              rfl
             refine pa (i := 6) (N := some 55) (bm 24 24191) HT_ ?_
             refine pa (i := 7) (N := some 56) (bm 24 24319) HT_ ?_
             refine take_ (i := 8) (N := some 57) (v := ?_) (a' := ?_) (bm 24 24575) rfl rfl (take_ofW HT_.out HW_.out qz) iz (Or.inl ⟨by rfl, ?_⟩) hHeld ?_ ?_
             rotate_left
             ·
              rintro w' ⟨s0, s1, s2, s3, s4, s5, s6, s7⟩
              go_simp
              with_reducible rfl
             rotate_left
             ·
              simp only [Act.put, aS, lZ, lS, i64_w, i32_w]
              rfl
             refine take_ (i := 13) (N := some 62) (v := ?_) (a' := ?_) (bm 24 32767) rfl rfl (take_ofW HT_.out HW_.out qz) iz (Or.inl ⟨by rfl, ?_⟩) hHeld ?_ ?_
             rotate_left
             ·
              rintro w' ⟨s0, s1, s2, s3, s4, s5, s6, s7⟩
              go_simp
              with_reducible rfl
             rotate_left
             ·
              simp only [Act.put, aS, lZ, lS, i64_w, i32_w]
              rfl
             refine pa (i := 15) (N := some 64) (bm 24 65535) HT_ ?_
             refine pa (i := 16) (N := some 65) (bm 24 131071) HT_ ?_
             refine take_ (i := 17) (N := some 66) (v := ?_) (a' := ?_) (bm 24 262143) rfl rfl (take_ofW HT_.out HW_.out qz) iz (Or.inl ⟨by rfl, ?_⟩) hHeld ?_ ?_
             rotate_left
             ·
              rintro w' ⟨s0, s1, s2, s3, s4, s5, s6, s7⟩
              go_simp
              with_reducible rfl
             rotate_left
             ·
              simp only [Act.put, aS, lZ, lS, i64_w, i32_w]
              rfl
             refine one_ (i := 18) (N := some 67) (bm 24 524287) rfl rfl (one_of HT_.out qz) (by decide) (fun K hK => ?_)
             refine goes_ Try.func36 qz rfl #[.agg #[.int .i64 ((rd_T54 ((rd_T43 l0 x12_2).f0) a3).f0.f0), .int .i64 ((rd_T54 ((rd_T43 l0 x12_2).f0) a3).f0.f1)], .agg #[.int .i64 ((rd_T54 ((rd_T43 l0 x13_3).f0) a3).f0.f0), .int .i64 ((rd_T54 ((rd_T43 l0 x13_3).f0) a3).f0.f1)]] (by rfl) rfl rfl mz ?_
             with_reducible refine (dancestudioref03_Dist2.calls ((rd_T54 ((rd_T43 l0 x12_2).f0) a3).f0.f0) ((rd_T54 ((rd_T43 l0 x12_2).f0) a3).f0.f1) ((rd_T54 ((rd_T43 l0 x13_3).f0) a3).f0.f0) ((rd_T54 ((rd_T43 l0 x13_3).f0) a3).f0.f1) t580 t581 _ A22.out).mono ?_
             rintro e w25 ⟨rfl, hb⟩
             refine ⟨_, rfl, ?_⟩
             have n0_ := am (below_step bz hb)
             clear HB
             have HB := n0_
             clear n0_
             (try clear hb)
             (try clear hb2)
             (try clear hk)
             (try clear hi)
             refine hK.out _ _ ⟨(cb HB.out hw576_0), (cb HB.out hw576_1), (cb HB.out hw577_0), (cb HB.out hw577_1), (cb HB.out hw578_0), (cb HB.out hw578_1), (cb HB.out hw579_0), (cb HB.out hw579_1)⟩ (fun hHeld => ?_)
             clear hK K
             refine norm_ (a' := ?_) ?_ ?_
             rotate_left
             ·
              show Act.put _ (some 67) _ = _
              simp only [Act.put, aS, lZ, lS, i64_w, i32_w]
              rfl
             refine pa (i := 19) (N := some 48) (bm 24 1048575) HT_ ?_
             refine pa (i := 20) (N := some 68) (bm 24 2097151) HT_ ?_
             refine pa (i := 21) (N := some 69) (bm 24 4194303) HT_ ?_
             refine pa (i := 22) (N := some 14) (bm 24 8388607) HT_ ?_
             refine pa (i := 23) (N := some 15) (bm 24 16777215) HT_ ?_
             refine done_ (done_of HT_.out qz) ?_
             try go_wp2
             go_roundg k3
             case measure => have := HJ8.out; have := HK2.out; have := HK3.out; omega
             case rel => exact ⟨(t580), (wrap64 (x13_3 + 1)), sz, sz, H', ⟨by have := HJ8.out; have := HK2.out; have := HK3.out; omega⟩, ⟨bz⟩⟩
            ·
             rw [if_neg c23] at H
             have c23b0 := decide_eq_false c23
             clear c23
             by_cases c26 : t580 < x11_3
             case' pos =>
              rw [if_pos c26] at H
              have c26b0 := decide_eq_true c26
              have tw1a : True := trivial
             case' neg =>
              rw [if_neg c26] at H
              have c26b0 := decide_eq_false c26
              have tw1b : True := trivial
             all_goals
              clear c26
              have H' := am H
              clear H
              try go_wp2
              have n0_ := am (below_drew1 HB.out)
              clear HB
              have HB := n0_
              clear n0_
              have p576 : 0 ≤ (x12_2 : Int) := az
              have q576 : x12_2 < (l0.length : Int) := az
              obtain ⟨ad576, A576_0, c576_0, A576_1, c576_1, e576, hx576_0, hx576_1, hl576_0, hi576_0, hl576_1, hi576_1⟩ := at_T43 HR0.out x12_2 p576 q576
              have hw576_1 := hx576_1
              have hw576_0 := hx576_0
              cases e576
              replace hx576_0 := cb HB.out hx576_0
              replace hx576_1 := cb HB.out hx576_1
              have HR576_0 := am hi576_0
              have HC576_0 := am hl576_0
              clear hi576_0 hl576_0
              have HR576_1 := am hi576_1
              have HC576_1 := am hl576_1
              clear hi576_1 hl576_1
              replace p576 := eq_true p576
              replace q576 := eq_true q576
              have p577 : 0 ≤ (a3 : Int) := az
              have q577 : a3 < (((rd_T43 l0 x12_2).f0).length : Int) := az
              obtain ⟨ad577, e577, hx577_0, hx577_1, _, _, _, _, _, _, _, _, _, _, _, _, _, _, _, _, _, _, _, _⟩ := at_T54 HR576_0.out a3 p577 q577
              have hw577_1 := hx577_1
              have hw577_0 := hx577_0
              cases e577
              replace hx577_0 := cb HB.out hx577_0
              replace hx577_1 := cb HB.out hx577_1
              replace p577 := eq_true p577
              replace q577 := eq_true q577
              have p578 : 0 ≤ (x13_3 : Int) := az
              have q578 : x13_3 < (l0.length : Int) := az
              obtain ⟨ad578, A578_0, c578_0, A578_1, c578_1, e578, hx578_0, hx578_1, hl578_0, hi578_0, hl578_1, hi578_1⟩ := at_T43 HR0.out x13_3 p578 q578
              have hw578_1 := hx578_1
              have hw578_0 := hx578_0
              obtain rfl : ad576 = ad578 := (by injection e578)
              replace hx578_0 := cb HB.out hx578_0
              replace hx578_1 := cb HB.out hx578_1
              have HR578_0 := am hi578_0
              have HC578_0 := am hl578_0
              clear hi578_0 hl578_0
              have HR578_1 := am hi578_1
              have HC578_1 := am hl578_1
              clear hi578_1 hl578_1
              replace p578 := eq_true p578
              replace q578 := eq_true q578
              have p579 : 0 ≤ (a3 : Int) := az
              have q579 : a3 < (((rd_T43 l0 x13_3).f0).length : Int) := az
              obtain ⟨ad579, e579, hx579_0, hx579_1, _, _, _, _, _, _, _, _, _, _, _, _, _, _, _, _, _, _, _, _⟩ := at_T54 HR578_0.out a3 p579 q579
              have hw579_1 := hx579_1
              have hw579_0 := hx579_0
              cases e579
              replace hx579_0 := cb HB.out hx579_0
              replace hx579_1 := cb HB.out hx579_1
              replace p579 := eq_true p579
              replace q579 := eq_true q579
              refine start_ (n := 24) (S := fun w' => w'.cell? (ad576.add ((x12_2).toNat * 2)) = some (.slice (some ad577) ((rd_T43 l0 x12_2).f0).length c576_0) ∧ w'.cell? ⟨(ad576.add ((x12_2).toNat * 2)).block, (ad576.add ((x12_2).toNat * 2)).off + 1, none⟩ = some (.slice A576_1 ((rd_T43 l0 x12_2).f1).length c576_1) ∧ w'.cell? (ad577.add ((a3).toNat * 22)) = some (.int .i64 ((rd_T54 ((rd_T43 l0 x12_2).f0) a3).f0.f0)) ∧ w'.cell? ⟨(ad577.add ((a3).toNat * 22)).block, (ad577.add ((a3).toNat * 22)).off + 1, none⟩ = some (.int .i64 ((rd_T54 ((rd_T43 l0 x12_2).f0) a3).f0.f1)) ∧ w'.cell? (ad576.add ((x13_3).toNat * 2)) = some (.slice (some ad579) ((rd_T43 l0 x13_3).f0).length c578_0) ∧ w'.cell? ⟨(ad576.add ((x13_3).toNat * 2)).block, (ad576.add ((x13_3).toNat * 2)).off + 1, none⟩ = some (.slice A578_1 ((rd_T43 l0 x13_3).f1).length c578_1) ∧ w'.cell? (ad579.add ((a3).toNat * 22)) = some (.int .i64 ((rd_T54 ((rd_T43 l0 x13_3).f0) a3).f0.f0)) ∧ w'.cell? ⟨(ad579.add ((a3).toNat * 22)).block, (ad579.add ((a3).toNat * 22)).off + 1, none⟩ = some (.int .i64 ((rd_T54 ((rd_T43 l0 x13_3).f0) a3).f0.f1))) (ds := []) (bm 24 0) qz rfl rfl ⟨(cb HB.out hw576_0), (cb HB.out hw576_1), (cb HB.out hw577_0), (cb HB.out hw577_1), (cb HB.out hw578_0), (cb HB.out hw578_1), (cb HB.out hw579_0), (cb HB.out hw579_1)⟩ (fun hHeld => ?_); refine with_tabW dancestudioref44_Room.tab15 dancestudioref44_Room.bits15 (fun HT_ HW_ => ?_)
              generalize wr.drew = w27 at HB HR576_0 HR576_1 HR578_0 HR578_1 hx576_0 hx576_1 hx577_0 hx577_1 hx578_0 hx578_1 hx579_0 hx579_1 hHeld ⊢
              refine pa (i := 0) (N := some 49) (bm 24 1) HT_ ?_
              refine pa (i := 1) (N := some 50) (bm 24 3) HT_ ?_
              refine pa (i := 2) (N := some 51) (bm 24 7) HT_ ?_
              refine pa (i := 3) (N := some 52) (bm 24 15) HT_ ?_
              refine pa (i := 5) (N := some 54) (bm 24 47) HT_ ?_
              refine pa (i := 9) (N := some 58) (bm 24 559) HT_ ?_
              refine pa (i := 10) (N := some 59) (bm 24 1583) HT_ ?_
              refine pa (i := 11) (N := some 60) (bm 24 3631) HT_ ?_
              refine pa (i := 12) (N := some 61) (bm 24 7727) HT_ ?_
              refine pa (i := 14) (N := some 63) (bm 24 24111) HT_ ?_
              refine take_ (i := 4) (N := some 53) (v := ?_) (a' := ?_) (bm 24 24127) rfl rfl (take_ofW HT_.out HW_.out qz) iz (Or.inl ⟨by rfl, ?_⟩) hHeld ?_ ?_
              rotate_left
              ·
               rintro w' ⟨s0, s1, s2, s3, s4, s5, s6, s7⟩
               go_simp
               with_reducible rfl
              rotate_left
              ·
               simp only [Act.put, aS, lZ, lS, i64_w, i32_w]
               rfl
              refine pa (i := 6) (N := some 55) (bm 24 24191) HT_ ?_
              refine pa (i := 7) (N := some 56) (bm 24 24319) HT_ ?_
              refine take_ (i := 8) (N := some 57) (v := ?_) (a' := ?_) (bm 24 24575) rfl rfl (take_ofW HT_.out HW_.out qz) iz (Or.inl ⟨by rfl, ?_⟩) hHeld ?_ ?_
              rotate_left
              ·
               rintro w' ⟨s0, s1, s2, s3, s4, s5, s6, s7⟩
               go_simp
               with_reducible rfl
              rotate_left
              ·
               simp only [Act.put, aS, lZ, lS, i64_w, i32_w]
               rfl
              refine take_ (i := 13) (N := some 62) (v := ?_) (a' := ?_) (bm 24 32767) rfl rfl (take_ofW HT_.out HW_.out qz) iz (Or.inl ⟨by rfl, ?_⟩) hHeld ?_ ?_
              rotate_left
              ·
               rintro w' ⟨s0, s1, s2, s3, s4, s5, s6, s7⟩
               go_simp
               with_reducible rfl
              rotate_left
              ·
               simp only [Act.put, aS, lZ, lS, i64_w, i32_w]
               rfl
              refine pa (i := 15) (N := some 64) (bm 24 65535) HT_ ?_
              refine pa (i := 16) (N := some 65) (bm 24 131071) HT_ ?_
              refine take_ (i := 17) (N := some 66) (v := ?_) (a' := ?_) (bm 24 262143) rfl rfl (take_ofW HT_.out HW_.out qz) iz (Or.inl ⟨by rfl, ?_⟩) hHeld ?_ ?_
              rotate_left
              ·
               rintro w' ⟨s0, s1, s2, s3, s4, s5, s6, s7⟩
               go_simp
               with_reducible rfl
              rotate_left
              ·
               simp only [Act.put, aS, lZ, lS, i64_w, i32_w]
               rfl
              refine one_ (i := 18) (N := some 67) (bm 24 524287) rfl rfl (one_of HT_.out qz) (by decide) (fun K hK => ?_)
              refine goes_ Try.func36 qz rfl #[.agg #[.int .i64 ((rd_T54 ((rd_T43 l0 x12_2).f0) a3).f0.f0), .int .i64 ((rd_T54 ((rd_T43 l0 x12_2).f0) a3).f0.f1)], .agg #[.int .i64 ((rd_T54 ((rd_T43 l0 x13_3).f0) a3).f0.f0), .int .i64 ((rd_T54 ((rd_T43 l0 x13_3).f0) a3).f0.f1)]] (by rfl) rfl rfl mz ?_
              with_reducible refine (dancestudioref03_Dist2.calls ((rd_T54 ((rd_T43 l0 x12_2).f0) a3).f0.f0) ((rd_T54 ((rd_T43 l0 x12_2).f0) a3).f0.f1) ((rd_T54 ((rd_T43 l0 x13_3).f0) a3).f0.f0) ((rd_T54 ((rd_T43 l0 x13_3).f0) a3).f0.f1) t580 t581 _ A22.out).mono ?_
              rintro e w28 ⟨rfl, hb⟩
              refine ⟨_, rfl, ?_⟩
              have n0_ := am (below_step bz hb)
              clear HB
              have HB := n0_
              clear n0_
              (try clear hb)
              (try clear hb2)
              (try clear hk)
              (try clear hi)
              refine hK.out _ _ ⟨(cb HB.out hw576_0), (cb HB.out hw576_1), (cb HB.out hw577_0), (cb HB.out hw577_1), (cb HB.out hw578_0), (cb HB.out hw578_1), (cb HB.out hw579_0), (cb HB.out hw579_1)⟩ (fun hHeld => ?_)
              clear hK K
              refine norm_ (a' := ?_) ?_ ?_
              rotate_left
              ·
               show Act.put _ (some 67) _ = _
               simp only [Act.put, aS, lZ, lS, i64_w, i32_w]
               rfl
              refine pa (i := 19) (N := some 48) (bm 24 1048575) HT_ ?_
              refine pa (i := 20) (N := some 68) (bm 24 2097151) HT_ ?_
              refine pa (i := 21) (N := some 69) (bm 24 4194303) HT_ ?_
              refine pa (i := 22) (N := some 14) (bm 24 8388607) HT_ ?_
              refine pa (i := 23) (N := some 15) (bm 24 16777215) HT_ ?_
              refine done_ (done_of HT_.out qz) ?_
              try go_wp2
              go_roundg k3
              case measure => have := HJ8.out; have := HK2.out; have := HK3.out; omega
              first
              | (have _ := tw1a
                 case rel => exact ⟨(t580), (wrap64 (x13_3 + 1)), sz, sz, H', ⟨by have := HJ8.out; have := HK2.out; have := HK3.out; omega⟩, ⟨bz⟩⟩)
              | (have _ := tw1b
                 case rel => exact ⟨(x11_3), (wrap64 (x13_3 + 1)), sz, sz, H', ⟨by have := HJ8.out; have := HK2.out; have := HK3.out; omega⟩, ⟨bz⟩⟩)
           ·
            rw [if_neg c15] at H
            have c15b0 := decide_eq_false c15
            clear c15
            have H' := am H
            clear H
            go_wp2
            go_roundg k3
            case measure => have := HJ8.out; have := HK2.out; have := HK3.out; omega
            case rel => exact ⟨(x11_3), (wrap64 (x12_2 + 1)), sz, sz, H', ⟨by have := HJ8.out; have := HK2.out; have := HK3.out; omega⟩, ⟨bz⟩⟩
        ·
         rw [if_neg c14] at H
         have c14b0 := decide_eq_false c14
         clear c14
         simp only [Option.some.injEq, Prod.mk.injEq] at H
         obtain ⟨rfl, rfl⟩ := H
         go_wp2
         go_ret2
         exact ⟨ez, bz⟩
 ·
  rw [if_neg c6] at H
  have c6b0 : (t574 == 0) = false := beq_eq_false_iff_ne.mpr c6
  have c6b1 : (t574 != 0) = true := bne_iff_ne.mpr c6
  simp only [Option.some.injEq, Prod.mk.injEq] at H
  obtain ⟨rfl, rfl⟩ := H
  go_enter Try.func21, Try.ntmps21
  go_wp2_with (first | ((with_reducible refine gate_callee (f := 13) rfl ?_); refine goesL_ (some 19) rfl rfl Try.func13 qz rfl #[.slice A0 l0.length c0, .slice A1 l1.length c1, .slice A2 l2.length c2] rfl mz ?_; (with_reducible refine (dancestudioref44_Check.calls k _ _ l0 _ _ l1 _ _ l2 t574 _ ?side1 ?side2 ?side3 ?side4 ?side5 ?side6 A5.out).mono ?_); (case side1 => repeat (first | exact HR0.out | (with_reducible first | apply cA | apply cN | apply cD))); (case side2 => exact HC0.out); (case side3 => repeat (first | exact HR1.out | (with_reducible first | apply cA | apply cN | apply cD))); (case side4 => exact HC1.out); (case side5 => repeat (first | exact HR2.out | (with_reducible first | apply cA | apply cN | apply cD))); (case side6 => exact HC2.out); rintro e w31 ⟨rfl, hb⟩; refine ⟨_, rfl, ?_⟩; replace HB := am (below_step bz hb); (try clear hb); (try clear hb2); (try clear hk); (try clear hi)))
  go_ret2
  exact ⟨ez, bz⟩

end Go.Proofs.Yteflngoiebgdaaa.X
