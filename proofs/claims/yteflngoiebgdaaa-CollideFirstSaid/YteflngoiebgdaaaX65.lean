import Derived.Test.YteflngoiebgdaaaX0
import Derived.Test.YteflngoiebgdaaaX22
namespace Go.Proofs.Yteflngoiebgdaaa.X
open Go.RowKit YteflngoiebgdaaaW.PrintWords YteflngoiebgdaaaW.PrintLast YteflngoiebgdaaaW.PrintMore
attribute [local go_sem] max2_int min2_int max_two min_two max_three min_three max_four min_four
set_option linter.unusedVariables false
set_option linter.unusedSimpArgs false

/-! ### dancestudiolaw44_near: function 22 -/
def dancestudiolaw44_near.f (k : Nat) (l0 : List (S43)) (l1 : List Int) (a2 a3 a4 : Int) (a5 : Bool) : Option (Bool) := if 0 ≤ a2 then (if a2 < (l1.length : Int) then (if 0 ≤ a3 then (if a3 < (l1.length : Int) then (if a5 = true then (if a2 < (l0.length : Int) then (if 0 ≤ a4 then (if a4 < (((rd_T43 l0 a2).f0).length : Int) then (if 0 ≤ (wrap64 (a4 + 1)) then (if (wrap64 (a4 + 1)) < (((rd_T43 l0 a2).f0).length : Int) then (if a3 < (l0.length : Int) then (if a4 < (((rd_T43 l0 a3).f0).length : Int) then (if (wrap64 (a4 + 1)) < (((rd_T43 l0 a3).f0).length : Int) then ((geom_Touch.f k ((rd_T54 ((rd_T43 l0 a2).f0) a4).f0.f0) ((rd_T54 ((rd_T43 l0 a2).f0) a4).f0.f1) ((rd_T54 ((rd_T43 l0 a2).f0) (wrap64 (a4 + 1))).f0.f0) ((rd_T54 ((rd_T43 l0 a2).f0) (wrap64 (a4 + 1))).f0.f1) (wrap64 (Int.tdiv (rd l1 a2) 2)) ((rd_T54 ((rd_T43 l0 a3).f0) a4).f0.f0) ((rd_T54 ((rd_T43 l0 a3).f0) a4).f0.f1) ((rd_T54 ((rd_T43 l0 a3).f0) (wrap64 (a4 + 1))).f0.f0) ((rd_T54 ((rd_T43 l0 a3).f0) (wrap64 (a4 + 1))).f0.f1) (wrap64 (Int.tdiv (rd l1 a3) 2))).bind fun bt601 => (if bt601.1 = true then (some (bt601.2 == 0)) else (some false))) else (none)) else (none)) else (none)) else (none)) else (none)) else (none)) else (none)) else (none)) else (if a2 < (l0.length : Int) then (if 0 ≤ a4 then (if a4 < (((rd_T43 l0 a2).f0).length : Int) then (if 0 ≤ (wrap64 (a4 + 1)) then (if (wrap64 (a4 + 1)) < (((rd_T43 l0 a2).f0).length : Int) then (if a3 < (l0.length : Int) then (if a4 < (((rd_T43 l0 a3).f0).length : Int) then (if (wrap64 (a4 + 1)) < (((rd_T43 l0 a3).f0).length : Int) then ((geom_Touch.f k ((rd_T54 ((rd_T43 l0 a2).f0) a4).f0.f0) ((rd_T54 ((rd_T43 l0 a2).f0) a4).f0.f1) ((rd_T54 ((rd_T43 l0 a2).f0) (wrap64 (a4 + 1))).f0.f0) ((rd_T54 ((rd_T43 l0 a2).f0) (wrap64 (a4 + 1))).f0.f1) (rd l1 a2) ((rd_T54 ((rd_T43 l0 a3).f0) a4).f0.f0) ((rd_T54 ((rd_T43 l0 a3).f0) a4).f0.f1) ((rd_T54 ((rd_T43 l0 a3).f0) (wrap64 (a4 + 1))).f0.f0) ((rd_T54 ((rd_T43 l0 a3).f0) (wrap64 (a4 + 1))).f0.f1) (rd l1 a3)).bind fun bt613 => (if bt613.1 = true then (some (bt613.2 == 0)) else (some false))) else (none)) else (none)) else (none)) else (none)) else (none)) else (none)) else (none)) else (none))) else (none)) else (none)) else (none)) else (none)
theorem dancestudiolaw44_near.mono : ∀ a0 a1 a2 a3 a4 a5 k, LeO (dancestudiolaw44_near.f k a0 a1 a2 a3 a4 a5) (dancestudiolaw44_near.f (k + 1) a0 a1 a2 a3 a4 a5) := by
 intro a0 a1 a2 a3 a4 a5 k
 unfold dancestudiolaw44_near.f
 repeat' first
   | (with_reducible exact geom_Touch.mono _ _ _ _ _ _ _ _ _ _ _)
   | (with_reducible exact LeO.refl _)
   | (with_reducible exact LeO.none _)
   | (with_reducible refine LeO.ite ?_ ?_)
   | (with_reducible refine LeO.bind ?_ (fun _ => ?_))
   | exact geom_Touch.mono _ _ _ _ _ _ _ _ _ _ _
   | exact LeO.none _
   | refine LeO.ite ?_ ?_
   | refine LeO.bind ?_ (fun _ => ?_)
def dancestudiolaw44_near.T1 : Bool × List (List Nat × List Nat) := (true, [([], []), ([], []), ([0, 1], [0, 1]), ([2], [2]), ([], []), ([], []), ([4, 5], [4, 5]), ([6], [6]), ([3, 0, 1, 2, 3], [3]), ([7, 8, 0, 1, 2, 3, 4, 5, 6, 7, 8], [7])])
def dancestudiolaw44_near.B1 : List Nat := [0, 0, 3, 7, 0, 0, 48, 112, 15, 511]
theorem dancestudiolaw44_near.tab1 : rtab .any (opsOf Try.f22 1) = dancestudiolaw44_near.T1 := by kernel_rfl
theorem dancestudiolaw44_near.bits1 : waitsOk dancestudiolaw44_near.T1.2 dancestudiolaw44_near.B1 = true := by kernel_rfl
def dancestudiolaw44_near.T4 : Bool × List (List Nat × List Nat) := (true, [([], []), ([], []), ([0, 1], [0, 1]), ([2], [2]), ([3], [3]), ([], []), ([4, 5], [4, 5]), ([6], [6]), ([7], [7]), ([], []), ([], []), ([9, 10], [9, 10]), ([11], [11]), ([12], [12]), ([], []), ([14], [14]), ([13, 15], [13, 15]), ([16], [16]), ([17], [17]), ([], []), ([8, 18, 19], [8, 18, 19]), ([], []), ([21, 20, 0, 1, 2, 3, 4, 5, 6, 7, 8, 9, 10, 11, 12, 13, 14, 15, 16, 17, 18, 19, 20, 21], [20, 21])])
def dancestudiolaw44_near.B4 : List Nat := [0, 0, 3, 7, 15, 0, 63, 127, 255, 0, 0, 1536, 3584, 7680, 0, 16384, 65024, 130560, 261632, 0, 1048575, 0, 4194303]
theorem dancestudiolaw44_near.tab4 : rtab .any (opsOf Try.f22 4) = dancestudiolaw44_near.T4 := by kernel_rfl
theorem dancestudiolaw44_near.bits4 : waitsOk dancestudiolaw44_near.T4.2 dancestudiolaw44_near.B4 = true := by kernel_rfl
def dancestudiolaw44_near.T5 : Bool × List (List Nat × List Nat) := (true, [([], []), ([], []), ([0, 1], [0, 1]), ([2], [2]), ([3], [3]), ([], []), ([4, 5], [4, 5]), ([6], [6]), ([7], [7]), ([], []), ([], []), ([9, 10], [9, 10]), ([11], [11]), ([12], [12]), ([], []), ([14], [14]), ([13, 15], [13, 15]), ([16], [16]), ([17], [17]), ([], []), ([8, 18, 19], [8, 18, 19]), ([], []), ([21, 20, 0, 1, 2, 3, 4, 5, 6, 7, 8, 9, 10, 11, 12, 13, 14, 15, 16, 17, 18, 19, 20, 21], [20, 21])])
def dancestudiolaw44_near.B5 : List Nat := [0, 0, 3, 7, 15, 0, 63, 127, 255, 0, 0, 1536, 3584, 7680, 0, 16384, 65024, 130560, 261632, 0, 1048575, 0, 4194303]
theorem dancestudiolaw44_near.tab5 : rtab .any (opsOf Try.f22 5) = dancestudiolaw44_near.T5 := by kernel_rfl
theorem dancestudiolaw44_near.bits5 : waitsOk dancestudiolaw44_near.T5.2 dancestudiolaw44_near.B5 = true := by kernel_rfl
set_option maxHeartbeats 8000000 in
set_option maxRecDepth 100000 in
theorem dancestudiolaw44_near.calls (k : Nat) (A0 : Option Addr) (c0 : Nat) (l0 : List (S43)) (A1 : Option Addr) (c1 : Nat) (l1 : List Int) (a2 a3 a4 : Int) (a5 : Bool) (r : Bool) (w : World) (hr0 : Kd.C k43 w A0 l0.length l0) (hc0 : l0.length ≤ c0) (hr1 : Kd.C (Kd.int .i64) w A1 l1.length l1) (hc1 : l1.length ≤ c1) (h : dancestudiolaw44_near.f k l0 l1 a2 a3 a4 a5 = some r) :
  Calls Try.prog 22 #[.slice A0 l0.length c0, .slice A1 l1.length c1, .int .i64 a2, .int .i64 a3, .int .i64 a4, .bool a5] w fun e w' => e = .returned (.bool r) ∧ Below w.heap.size w w' := by
 have hu49 := Try.underlying49
 have hu72 := Try.underlying72
 have HR0 := am hr0
 have HC0 := am hc0
 clear hr0 hc0
 have HR1 := am hr1
 have HC1 := am hc1
 clear hr1 hc1
 have HB := am (Below.refl w.heap.size w)
 have H : (if 0 ≤ a2 then (if a2 < (l1.length : Int) then (if 0 ≤ a3 then (if a3 < (l1.length : Int) then (if a5 = true then (if a2 < (l0.length : Int) then (if 0 ≤ a4 then (if a4 < (((rd_T43 l0 a2).f0).length : Int) then (if 0 ≤ (wrap64 (a4 + 1)) then (if (wrap64 (a4 + 1)) < (((rd_T43 l0 a2).f0).length : Int) then (if a3 < (l0.length : Int) then (if a4 < (((rd_T43 l0 a3).f0).length : Int) then (if (wrap64 (a4 + 1)) < (((rd_T43 l0 a3).f0).length : Int) then ((geom_Touch.f k ((rd_T54 ((rd_T43 l0 a2).f0) a4).f0.f0) ((rd_T54 ((rd_T43 l0 a2).f0) a4).f0.f1) ((rd_T54 ((rd_T43 l0 a2).f0) (wrap64 (a4 + 1))).f0.f0) ((rd_T54 ((rd_T43 l0 a2).f0) (wrap64 (a4 + 1))).f0.f1) (wrap64 (Int.tdiv (rd l1 a2) 2)) ((rd_T54 ((rd_T43 l0 a3).f0) a4).f0.f0) ((rd_T54 ((rd_T43 l0 a3).f0) a4).f0.f1) ((rd_T54 ((rd_T43 l0 a3).f0) (wrap64 (a4 + 1))).f0.f0) ((rd_T54 ((rd_T43 l0 a3).f0) (wrap64 (a4 + 1))).f0.f1) (wrap64 (Int.tdiv (rd l1 a3) 2))).bind fun bt601 => (if bt601.1 = true then (some (bt601.2 == 0)) else (some false))) else (none)) else (none)) else (none)) else (none)) else (none)) else (none)) else (none)) else (none)) else (if a2 < (l0.length : Int) then (if 0 ≤ a4 then (if a4 < (((rd_T43 l0 a2).f0).length : Int) then (if 0 ≤ (wrap64 (a4 + 1)) then (if (wrap64 (a4 + 1)) < (((rd_T43 l0 a2).f0).length : Int) then (if a3 < (l0.length : Int) then (if a4 < (((rd_T43 l0 a3).f0).length : Int) then (if (wrap64 (a4 + 1)) < (((rd_T43 l0 a3).f0).length : Int) then ((geom_Touch.f k ((rd_T54 ((rd_T43 l0 a2).f0) a4).f0.f0) ((rd_T54 ((rd_T43 l0 a2).f0) a4).f0.f1) ((rd_T54 ((rd_T43 l0 a2).f0) (wrap64 (a4 + 1))).f0.f0) ((rd_T54 ((rd_T43 l0 a2).f0) (wrap64 (a4 + 1))).f0.f1) (rd l1 a2) ((rd_T54 ((rd_T43 l0 a3).f0) a4).f0.f0) ((rd_T54 ((rd_T43 l0 a3).f0) a4).f0.f1) ((rd_T54 ((rd_T43 l0 a3).f0) (wrap64 (a4 + 1))).f0.f0) ((rd_T54 ((rd_T43 l0 a3).f0) (wrap64 (a4 + 1))).f0.f1) (rd l1 a3)).bind fun bt613 => (if bt613.1 = true then (some (bt613.2 == 0)) else (some false))) else (none)) else (none)) else (none)) else (none)) else (none)) else (none)) else (none)) else (none))) else (none)) else (none)) else (none)) else (none)) = some r := h
 clear h
 by_cases c7 : 0 ≤ a2
 ·
  rw [if_pos c7] at H
  have c7b0 := decide_eq_true c7
  clear c7
  by_cases c8 : a2 < (l1.length : Int); rotate_left
  · rw [if_neg c8] at H; exact absurd H (by simp)
  rw [if_pos c8] at H
  have c8b0 := decide_eq_true c8
  clear c8
  by_cases c9 : 0 ≤ a3; rotate_left
  · rw [if_neg c9] at H; exact absurd H (by simp)
  rw [if_pos c9] at H
  have c9b0 := decide_eq_true c9
  clear c9
  by_cases c10 : a3 < (l1.length : Int); rotate_left
  · rw [if_neg c10] at H; exact absurd H (by simp)
  rw [if_pos c10] at H
  have c10b0 := decide_eq_true c10
  clear c10
  by_cases c11 : a5 = true
  ·
   subst c11
   have H1 : (if a2 < (l0.length : Int) then (if 0 ≤ a4 then (if a4 < (((rd_T43 l0 a2).f0).length : Int) then (if 0 ≤ (wrap64 (a4 + 1)) then (if (wrap64 (a4 + 1)) < (((rd_T43 l0 a2).f0).length : Int) then (if a3 < (l0.length : Int) then (if a4 < (((rd_T43 l0 a3).f0).length : Int) then (if (wrap64 (a4 + 1)) < (((rd_T43 l0 a3).f0).length : Int) then ((geom_Touch.f k ((rd_T54 ((rd_T43 l0 a2).f0) a4).f0.f0) ((rd_T54 ((rd_T43 l0 a2).f0) a4).f0.f1) ((rd_T54 ((rd_T43 l0 a2).f0) (wrap64 (a4 + 1))).f0.f0) ((rd_T54 ((rd_T43 l0 a2).f0) (wrap64 (a4 + 1))).f0.f1) (wrap64 (Int.tdiv (rd l1 a2) 2)) ((rd_T54 ((rd_T43 l0 a3).f0) a4).f0.f0) ((rd_T54 ((rd_T43 l0 a3).f0) a4).f0.f1) ((rd_T54 ((rd_T43 l0 a3).f0) (wrap64 (a4 + 1))).f0.f0) ((rd_T54 ((rd_T43 l0 a3).f0) (wrap64 (a4 + 1))).f0.f1) (wrap64 (Int.tdiv (rd l1 a3) 2))).bind fun bt601 => (if bt601.1 = true then (some (bt601.2 == 0)) else (some false))) else (none)) else (none)) else (none)) else (none)) else (none)) else (none)) else (none)) else (none)) = some r := by rw [if_pos rfl] at H; exact H
   clear H
   have H := H1
   clear H1
   by_cases c12 : a2 < (l0.length : Int); rotate_left
   · rw [if_neg c12] at H; exact absurd H (by simp)
   rw [if_pos c12] at H
   have c12b0 := decide_eq_true c12
   clear c12
   by_cases c13 : 0 ≤ a4; rotate_left
   · rw [if_neg c13] at H; exact absurd H (by simp)
   rw [if_pos c13] at H
   have c13b0 := decide_eq_true c13
   clear c13
   by_cases c14 : a4 < (((rd_T43 l0 a2).f0).length : Int); rotate_left
   · rw [if_neg c14] at H; exact absurd H (by simp)
   rw [if_pos c14] at H
   have c14b0 := decide_eq_true c14
   clear c14
   obtain ⟨ji15, hji15⟩ : ∃ j_ : Int, (wrap64 (a4 + 1)) = j_ := ⟨_, rfl⟩
   replace H : (if 0 ≤ (ji15) then (if (ji15) < (((rd_T43 l0 a2).f0).length : Int) then (if a3 < (l0.length : Int) then (if a4 < (((rd_T43 l0 a3).f0).length : Int) then (if (ji15) < (((rd_T43 l0 a3).f0).length : Int) then ((geom_Touch.f k ((rd_T54 ((rd_T43 l0 a2).f0) a4).f0.f0) ((rd_T54 ((rd_T43 l0 a2).f0) a4).f0.f1) ((rd_T54 ((rd_T43 l0 a2).f0) (ji15)).f0.f0) ((rd_T54 ((rd_T43 l0 a2).f0) (ji15)).f0.f1) (wrap64 (Int.tdiv (rd l1 a2) 2)) ((rd_T54 ((rd_T43 l0 a3).f0) a4).f0.f0) ((rd_T54 ((rd_T43 l0 a3).f0) a4).f0.f1) ((rd_T54 ((rd_T43 l0 a3).f0) (ji15)).f0.f0) ((rd_T54 ((rd_T43 l0 a3).f0) (ji15)).f0.f1) (wrap64 (Int.tdiv (rd l1 a3) 2))).bind fun bt601 => (if bt601.1 = true then (some (bt601.2 == 0)) else (some false))) else (none)) else (none)) else (none)) else (none)) else (none)) = some r := by first | (rw [hji15] at H; exact H) | (simp only [hji15] at H ⊢; exact H)
   have hji15w : (IntKind.i64.wrap (a4 + 1)) = ji15 := (i64_w _).trans hji15
   by_cases c16 : 0 ≤ (ji15); rotate_left
   · rw [if_neg c16] at H; exact absurd H (by simp)
   rw [if_pos c16] at H
   have c16b0 := decide_eq_true c16
   clear c16
   by_cases c17 : (ji15) < (((rd_T43 l0 a2).f0).length : Int); rotate_left
   · rw [if_neg c17] at H; exact absurd H (by simp)
   rw [if_pos c17] at H
   have c17b0 := decide_eq_true c17
   clear c17
   by_cases c18 : a3 < (l0.length : Int); rotate_left
   · rw [if_neg c18] at H; exact absurd H (by simp)
   rw [if_pos c18] at H
   have c18b0 := decide_eq_true c18
   clear c18
   by_cases c19 : a4 < (((rd_T43 l0 a3).f0).length : Int); rotate_left
   · rw [if_neg c19] at H; exact absurd H (by simp)
   rw [if_pos c19] at H
   have c19b0 := decide_eq_true c19
   clear c19
   by_cases c20 : (ji15) < (((rd_T43 l0 a3).f0).length : Int); rotate_left
   · rw [if_neg c20] at H; exact absurd H (by simp)
   rw [if_pos c20] at H
   have c20b0 := decide_eq_true c20
   clear c20
   replace H := Option.bind_eq_some_iff.mp H
   obtain ⟨⟨t601, t602⟩, A210, H⟩ := H
   replace H : (if t601 = true then (some (t602 == 0)) else (some false)) = some r := H
   have A21 := am A210
   clear A210
   by_cases c22 : t601 = true
   case' pos =>
    subst c22
    have H1 : (some (t602 == 0)) = some r := by rw [if_pos rfl] at H; exact H
    have tw1a : True := trivial
   case' neg =>
    replace c22 := Bool.eq_false_iff.mpr c22
    subst c22
    have H1 : (some false) = some r := by rw [if_neg (show ¬ (false = true) by decide)] at H; exact H
    have tw1b : True := trivial
   all_goals
    clear H
    have H := H1
    clear H1
    obtain rfl := Option.some.inj H
    go_enter Try.func22, Try.ntmps22
    try go_wp2
    have n0_ := am (below_drew1 HB.out)
    clear HB
    have HB := n0_
    clear n0_
    have p589 : 0 ≤ (a2 : Int) := az
    have q589 : a2 < (l1.length : Int) := az
    obtain ⟨ad589, e589, hx589_0⟩ := Kd.at_int HR1.out a2 p589 q589
    have hw589_0 := hx589_0
    cases e589
    replace hx589_0 := cb HB.out hx589_0
    replace p589 := eq_true p589
    replace q589 := eq_true q589
    have p590 : 0 ≤ (a3 : Int) := az
    have q590 : a3 < (l1.length : Int) := az
    obtain ⟨ad590, e590, hx590_0⟩ := Kd.at_int HR1.out a3 p590 q590
    have hw590_0 := hx590_0
    obtain rfl : ad589 = ad590 := (by injection e590)
    replace hx590_0 := cb HB.out hx590_0
    replace p590 := eq_true p590
    replace q590 := eq_true q590
    refine start_ (n := 10) (S := fun w' => w'.cell? (ad589.add (a2).toNat) = some (.int .i64 (rd l1 a2)) ∧ w'.cell? (ad589.add (a3).toNat) = some (.int .i64 (rd l1 a3))) (ds := []) (bm 10 0) qz rfl rfl ⟨(cb HB.out hw589_0), (cb HB.out hw590_0)⟩ (fun hHeld => ?_); refine with_tabW dancestudiolaw44_near.tab1 dancestudiolaw44_near.bits1 (fun HT_ HW_ => ?_)
    generalize w.drew = w23 at HB hx589_0 hx590_0 hHeld ⊢
    refine pa (i := 0) (N := some 19) (bm 10 1) HT_ ?_
    refine pa (i := 1) (N := some 20) (bm 10 3) HT_ ?_
    refine pa (i := 2) (N := some 21) (bm 10 7) HT_ ?_
    refine pa (i := 4) (N := some 23) (bm 10 23) HT_ ?_
    refine pa (i := 5) (N := some 24) (bm 10 55) HT_ ?_
    refine pa (i := 6) (N := some 25) (bm 10 119) HT_ ?_
    refine take_ (i := 3) (N := some 22) (v := ?_) (a' := ?_) (bm 10 127) rfl rfl (take_ofW HT_.out HW_.out qz) iz (Or.inl ⟨by rfl, ?_⟩) hHeld ?_ ?_
    rotate_left
    ·
     rintro w' ⟨s0, s1⟩
     go_simp
     with_reducible rfl
    rotate_left
    ·
     simp only [Act.put, aS, lZ, lS, i64_w, i32_w]
     rfl
    refine pa (i := 8) (N := some 13) (bm 10 383) HT_ ?_
    refine take_ (i := 7) (N := some 26) (v := ?_) (a' := ?_) (bm 10 511) rfl rfl (take_ofW HT_.out HW_.out qz) iz (Or.inl ⟨by rfl, ?_⟩) hHeld ?_ ?_
    rotate_left
    ·
     rintro w' ⟨s0, s1⟩
     go_simp
     with_reducible rfl
    rotate_left
    ·
     simp only [Act.put, aS, lZ, lS, i64_w, i32_w]
     rfl
    refine pa (i := 9) (N := some 14) (bm 10 1023) HT_ ?_
    refine done_ (done_of HT_.out qz) ?_
    try go_wp2
    have n0_ := am (below_drew1 HB.out)
    clear HB
    have HB := n0_
    clear n0_
    have p591 : 0 ≤ (a2 : Int) := az
    have q591 : a2 < (l0.length : Int) := az
    obtain ⟨ad591, A591_0, c591_0, A591_1, c591_1, e591, hx591_0, hx591_1, hl591_0, hi591_0, hl591_1, hi591_1⟩ := at_T43 HR0.out a2 p591 q591
    have hw591_1 := hx591_1
    have hw591_0 := hx591_0
    cases e591
    replace hx591_0 := cb HB.out hx591_0
    replace hx591_1 := cb HB.out hx591_1
    have HR591_0 := am hi591_0
    have HC591_0 := am hl591_0
    clear hi591_0 hl591_0
    have HR591_1 := am hi591_1
    have HC591_1 := am hl591_1
    clear hi591_1 hl591_1
    replace p591 := eq_true p591
    replace q591 := eq_true q591
    have p592 : 0 ≤ (a4 : Int) := az
    have q592 : a4 < (((rd_T43 l0 a2).f0).length : Int) := az
    obtain ⟨ad592, e592, hx592_0, hx592_1, _, _, _, _, _, _, _, _, _, _, _, _, _, _, _, _, _, _, _, _⟩ := at_T54 HR591_0.out a4 p592 q592
    have hw592_1 := hx592_1
    have hw592_0 := hx592_0
    cases e592
    replace hx592_0 := cb HB.out hx592_0
    replace hx592_1 := cb HB.out hx592_1
    replace p592 := eq_true p592
    replace q592 := eq_true q592
    have p593 : 0 ≤ (a2 : Int) := az
    have q593 : a2 < (l0.length : Int) := az
    obtain ⟨ad593, A593_0, c593_0, A593_1, c593_1, e593, hx593_0, hx593_1, hl593_0, hi593_0, hl593_1, hi593_1⟩ := at_T43 HR0.out a2 p593 q593
    have hw593_1 := hx593_1
    have hw593_0 := hx593_0
    obtain rfl : ad591 = ad593 := (by injection e593)
    replace hx593_0 := cb HB.out hx593_0
    replace hx593_1 := cb HB.out hx593_1
    have HR593_0 := am hi593_0
    have HC593_0 := am hl593_0
    clear hi593_0 hl593_0
    have HR593_1 := am hi593_1
    have HC593_1 := am hl593_1
    clear hi593_1 hl593_1
    replace p593 := eq_true p593
    replace q593 := eq_true q593
    have ea_ := Option.some.inj (hx591_0.symm.trans hx593_0)
    injection ea_ with ea_ en_ ec_
    subst ea_
    subst ec_
    clear en_
    have ea_ := Option.some.inj (hx591_1.symm.trans hx593_1)
    injection ea_ with ea_ en_ ec_
    subst ea_
    subst ec_
    clear en_
    have p594 : 0 ≤ ((ji15) : Int) := az
    have q594 : (ji15) < (((rd_T43 l0 a2).f0).length : Int) := az
    obtain ⟨ad594, e594, hx594_0, hx594_1, _, _, _, _, _, _, _, _, _, _, _, _, _, _, _, _, _, _, _, _⟩ := at_T54 HR593_0.out (ji15) p594 q594
    have hw594_1 := hx594_1
    have hw594_0 := hx594_0
    cases e594
    replace hx594_0 := cb HB.out hx594_0
    replace hx594_1 := cb HB.out hx594_1
    replace p594 := eq_true p594
    replace q594 := eq_true q594
    refine start_ (n := 23) (S := fun w' => w'.cell? (ad591.add ((a2).toNat * 2)) = some (.slice (some ad592) ((rd_T43 l0 a2).f0).length c591_0) ∧ w'.cell? ⟨(ad591.add ((a2).toNat * 2)).block, (ad591.add ((a2).toNat * 2)).off + 1, none⟩ = some (.slice A591_1 ((rd_T43 l0 a2).f1).length c591_1) ∧ w'.cell? (ad592.add ((a4).toNat * 22)) = some (.int .i64 ((rd_T54 ((rd_T43 l0 a2).f0) a4).f0.f0)) ∧ w'.cell? ⟨(ad592.add ((a4).toNat * 22)).block, (ad592.add ((a4).toNat * 22)).off + 1, none⟩ = some (.int .i64 ((rd_T54 ((rd_T43 l0 a2).f0) a4).f0.f1)) ∧ w'.cell? (ad591.add ((a2).toNat * 2)) = some (.slice (some ad592) ((rd_T43 l0 a2).f0).length c591_0) ∧ w'.cell? ⟨(ad591.add ((a2).toNat * 2)).block, (ad591.add ((a2).toNat * 2)).off + 1, none⟩ = some (.slice A591_1 ((rd_T43 l0 a2).f1).length c591_1) ∧ w'.cell? (ad592.add (((ji15)).toNat * 22)) = some (.int .i64 ((rd_T54 ((rd_T43 l0 a2).f0) (ji15)).f0.f0)) ∧ w'.cell? ⟨(ad592.add (((ji15)).toNat * 22)).block, (ad592.add (((ji15)).toNat * 22)).off + 1, none⟩ = some (.int .i64 ((rd_T54 ((rd_T43 l0 a2).f0) (ji15)).f0.f1))) (ds := []) (bm 23 0) qz rfl rfl ⟨(cb HB.out hw591_0), (cb HB.out hw591_1), (cb HB.out hw592_0), (cb HB.out hw592_1), (cb HB.out hw593_0), (cb HB.out hw593_1), (cb HB.out hw594_0), (cb HB.out hw594_1)⟩ (fun hHeld => ?_); refine with_tabW dancestudiolaw44_near.tab4 dancestudiolaw44_near.bits4 (fun HT_ HW_ => ?_)
    generalize w23.drew = w24 at HB HR591_0 HR591_1 HR593_0 HR593_1 hx591_0 hx591_1 hx592_0 hx592_1 hx593_0 hx593_1 hx594_0 hx594_1 hHeld ⊢
    refine pa (i := 0) (N := some 32) (bm 23 1) HT_ ?_
    refine pa (i := 1) (N := some 33) (bm 23 3) HT_ ?_
    refine pa (i := 2) (N := some 34) (bm 23 7) HT_ ?_
    refine pa (i := 3) (N := some 35) (bm 23 15) HT_ ?_
    refine pa (i := 5) (N := some 37) (bm 23 47) HT_ ?_
    refine pa (i := 9) (N := some 41) (bm 23 559) HT_ ?_
    refine pa (i := 10) (N := some 42) (bm 23 1583) HT_ ?_
    refine pa (i := 11) (N := some 43) (bm 23 3631) HT_ ?_
    refine pa (i := 12) (N := some 44) (bm 23 7727) HT_ ?_
    refine pa (i := 14) (N := some 46) (bm 23 24111) HT_ ?_
    refine pa (i := 15) (N := some 47) (bm 23 56879) HT_ ?_
    refine pa (i := 19) (N := some 51) (bm 23 581167) HT_ ?_
    refine take_ (i := 4) (N := some 36) (v := ?_) (a' := ?_) (bm 23 581183) rfl rfl (take_ofW HT_.out HW_.out qz) iz (Or.inl ⟨by rfl, ?_⟩) hHeld ?_ ?_
    rotate_left
    ·
     rintro w' ⟨s0, s1, s2, s3, s4, s5, s6, s7⟩
     go_simp
     with_reducible rfl
    rotate_left
    ·
     simp only [Act.put, aS, lZ, lS, i64_w, i32_w]
     rfl
    refine pa (i := 6) (N := some 38) (bm 23 581247) HT_ ?_
    refine pa (i := 7) (N := some 39) (bm 23 581375) HT_ ?_
    refine take_ (i := 8) (N := some 40) (v := ?_) (a' := ?_) (bm 23 581631) rfl rfl (take_ofW HT_.out HW_.out qz) iz (Or.inl ⟨by rfl, ?_⟩) hHeld ?_ ?_
    rotate_left
    ·
     rintro w' ⟨s0, s1, s2, s3, s4, s5, s6, s7⟩
     go_simp
     with_reducible rfl
    rotate_left
    ·
     simp only [Act.put, aS, lZ, lS, i64_w, i32_w]
     rfl
    refine take_ (i := 13) (N := some 45) (v := ?_) (a' := ?_) (bm 23 589823) rfl rfl (take_ofW HT_.out HW_.out qz) iz (Or.inl ⟨by rfl, ?_⟩) hHeld ?_ ?_
    rotate_left
    ·
     rintro w' ⟨s0, s1, s2, s3, s4, s5, s6, s7⟩
     go_simp
     with_reducible rfl
    rotate_left
    ·
     simp only [Act.put, aS, lZ, lS, i64_w, i32_w]
     rfl
    refine pa (i := 16) (N := some 48) (bm 23 655359) HT_ ?_
    refine pa (i := 17) (N := some 49) (bm 23 786431) HT_ ?_
    refine take_ (i := 18) (N := some 50) (v := ?_) (a' := ?_) (bm 23 1048575) rfl rfl (take_ofW HT_.out HW_.out qz) iz (Or.inl ⟨by rfl, ?_⟩) hHeld ?_ ?_
    rotate_left
    ·
     rintro w' ⟨s0, s1, s2, s3, s4, s5, s6, s7⟩
     go_simp
     with_reducible rfl
    rotate_left
    ·
     simp only [Act.put, aS, lZ, lS, i64_w, i32_w]
     rfl
    refine pa (i := 20) (N := some 52) (bm 23 2097151) HT_ ?_
    refine one_ (i := 21) (N := some 15) (bm 23 4194303) rfl rfl (one_of HT_.out qz) (by decide) (fun K hK => ?_)
    refine box_step ?hg (N := 15) ?hd (cs := #[.int .i64 0, .int .i64 0, .int .i64 0, .int .i64 0, .int .i64 0]) (t := 72) ?hr ?_; (case hd => rfl); (case hg => rfl); (case hr => first | (go_simp; done) | (go_simp; rfl))
    intro gb595 hg w25 hbox hb
    have n0_ := am (below_step bz hb)
    have n1_ := am (hbox)
    have n2_ := gwz (g := gb595) HB hg
    have n3_ := gwz (g := gb595) HB hg
    clear HB
    have HB := n0_
    have BK595 := n1_
    have GW595 := n2_
    have GE595 := n3_
    clear n0_ n1_ n2_ n3_
    clear hb hbox hg
    refine hK.out _ _ ⟨(cb HB.out hw591_0), (cb HB.out hw591_1), (cb HB.out hw592_0), (cb HB.out hw592_1), (cb HB.out hw593_0), (cb HB.out hw593_1), (cb HB.out hw594_0), (cb HB.out hw594_1)⟩ (fun hHeld => ?_)
    clear hK K
    refine norm_ (a' := ?_) ?_ ?_
    rotate_left
    ·
     show Act.put _ (some 15) _ = _
     simp only [Act.put, aS, lZ, lS, i64_w, i32_w]
     rfl
    refine one_ (i := 22) (N := none) (bm 23 8388607) rfl rfl (one_of HT_.out qz) (by decide) (fun K hK => ?_)
    have hs26 : w25.cell? ⟨gb595, 0, none⟩ = some (.int .i64 0) := (blk_cell BK595.out 0).trans rfl
    have hfs26 := blk_frozen BK595.out 0
    have hs27 : w25.cell? ⟨gb595, 1, none⟩ = some (.int .i64 0) := (blk_cell BK595.out 1).trans rfl
    have hfs27 := blk_frozen BK595.out 1
    have hs28 : w25.cell? ⟨gb595, 2, none⟩ = some (.int .i64 0) := (blk_cell BK595.out 2).trans rfl
    have hfs28 := blk_frozen BK595.out 2
    have hs29 : w25.cell? ⟨gb595, 3, none⟩ = some (.int .i64 0) := (blk_cell BK595.out 3).trans rfl
    have hfs29 := blk_frozen BK595.out 3
    have hs30 : w25.cell? ⟨gb595, 4, none⟩ = some (.int .i64 0) := (blk_cell BK595.out 4).trans rfl
    have hfs30 := blk_frozen BK595.out 4
    refine skip_ (w1 := ?_) (by rfl) rfl ?_ ?_
    rotate_left
    ·
     go_simp
     rfl
    refine hK.out _ _ ⟨((cell_far (p := ⟨gb595, _, none⟩) (by first | exact nb hw591_0 GW595.out | exact nc hw591_0 GW595.out | exact nd hw591_0 GW595.out) _).trans (((cell_far (p := ⟨gb595, _, none⟩) (by first | exact nb hw591_0 GW595.out | exact nc hw591_0 GW595.out | exact nd hw591_0 GW595.out) _).trans (((cell_far (p := ⟨gb595, _, none⟩) (by first | exact nb hw591_0 GW595.out | exact nc hw591_0 GW595.out | exact nd hw591_0 GW595.out) _).trans (((cell_far (p := ⟨gb595, _, none⟩) (by first | exact nb hw591_0 GW595.out | exact nc hw591_0 GW595.out | exact nd hw591_0 GW595.out) _).trans (((cell_far (p := ⟨gb595, _, none⟩) (by first | exact nb hw591_0 GW595.out | exact nc hw591_0 GW595.out | exact nd hw591_0 GW595.out) _).trans (hHeld.1)))))))))), ((cell_far (p := ⟨gb595, _, none⟩) (by first | exact nb hw591_1 GW595.out | exact nc hw591_1 GW595.out | exact nd hw591_1 GW595.out) _).trans (((cell_far (p := ⟨gb595, _, none⟩) (by first | exact nb hw591_1 GW595.out | exact nc hw591_1 GW595.out | exact nd hw591_1 GW595.out) _).trans (((cell_far (p := ⟨gb595, _, none⟩) (by first | exact nb hw591_1 GW595.out | exact nc hw591_1 GW595.out | exact nd hw591_1 GW595.out) _).trans (((cell_far (p := ⟨gb595, _, none⟩) (by first | exact nb hw591_1 GW595.out | exact nc hw591_1 GW595.out | exact nd hw591_1 GW595.out) _).trans (((cell_far (p := ⟨gb595, _, none⟩) (by first | exact nb hw591_1 GW595.out | exact nc hw591_1 GW595.out | exact nd hw591_1 GW595.out) _).trans (hHeld.2.1)))))))))), ((cell_far (p := ⟨gb595, _, none⟩) (by first | exact nb hw592_0 GW595.out | exact nc hw592_0 GW595.out | exact nd hw592_0 GW595.out) _).trans (((cell_far (p := ⟨gb595, _, none⟩) (by first | exact nb hw592_0 GW595.out | exact nc hw592_0 GW595.out | exact nd hw592_0 GW595.out) _).trans (((cell_far (p := ⟨gb595, _, none⟩) (by first | exact nb hw592_0 GW595.out | exact nc hw592_0 GW595.out | exact nd hw592_0 GW595.out) _).trans (((cell_far (p := ⟨gb595, _, none⟩) (by first | exact nb hw592_0 GW595.out | exact nc hw592_0 GW595.out | exact nd hw592_0 GW595.out) _).trans (((cell_far (p := ⟨gb595, _, none⟩) (by first | exact nb hw592_0 GW595.out | exact nc hw592_0 GW595.out | exact nd hw592_0 GW595.out) _).trans (hHeld.2.2.1)))))))))), ((cell_far (p := ⟨gb595, _, none⟩) (by first | exact nb hw592_1 GW595.out | exact nc hw592_1 GW595.out | exact nd hw592_1 GW595.out) _).trans (((cell_far (p := ⟨gb595, _, none⟩) (by first | exact nb hw592_1 GW595.out | exact nc hw592_1 GW595.out | exact nd hw592_1 GW595.out) _).trans (((cell_far (p := ⟨gb595, _, none⟩) (by first | exact nb hw592_1 GW595.out | exact nc hw592_1 GW595.out | exact nd hw592_1 GW595.out) _).trans (((cell_far (p := ⟨gb595, _, none⟩) (by first | exact nb hw592_1 GW595.out | exact nc hw592_1 GW595.out | exact nd hw592_1 GW595.out) _).trans (((cell_far (p := ⟨gb595, _, none⟩) (by first | exact nb hw592_1 GW595.out | exact nc hw592_1 GW595.out | exact nd hw592_1 GW595.out) _).trans (hHeld.2.2.2.1)))))))))), ((cell_far (p := ⟨gb595, _, none⟩) (by first | exact nb hw593_0 GW595.out | exact nc hw593_0 GW595.out | exact nd hw593_0 GW595.out) _).trans (((cell_far (p := ⟨gb595, _, none⟩) (by first | exact nb hw593_0 GW595.out | exact nc hw593_0 GW595.out | exact nd hw593_0 GW595.out) _).trans (((cell_far (p := ⟨gb595, _, none⟩) (by first | exact nb hw593_0 GW595.out | exact nc hw593_0 GW595.out | exact nd hw593_0 GW595.out) _).trans (((cell_far (p := ⟨gb595, _, none⟩) (by first | exact nb hw593_0 GW595.out | exact nc hw593_0 GW595.out | exact nd hw593_0 GW595.out) _).trans (((cell_far (p := ⟨gb595, _, none⟩) (by first | exact nb hw593_0 GW595.out | exact nc hw593_0 GW595.out | exact nd hw593_0 GW595.out) _).trans (hHeld.2.2.2.2.1)))))))))), ((cell_far (p := ⟨gb595, _, none⟩) (by first | exact nb hw593_1 GW595.out | exact nc hw593_1 GW595.out | exact nd hw593_1 GW595.out) _).trans (((cell_far (p := ⟨gb595, _, none⟩) (by first | exact nb hw593_1 GW595.out | exact nc hw593_1 GW595.out | exact nd hw593_1 GW595.out) _).trans (((cell_far (p := ⟨gb595, _, none⟩) (by first | exact nb hw593_1 GW595.out | exact nc hw593_1 GW595.out | exact nd hw593_1 GW595.out) _).trans (((cell_far (p := ⟨gb595, _, none⟩) (by first | exact nb hw593_1 GW595.out | exact nc hw593_1 GW595.out | exact nd hw593_1 GW595.out) _).trans (((cell_far (p := ⟨gb595, _, none⟩) (by first | exact nb hw593_1 GW595.out | exact nc hw593_1 GW595.out | exact nd hw593_1 GW595.out) _).trans (hHeld.2.2.2.2.2.1)))))))))), ((cell_far (p := ⟨gb595, _, none⟩) (by first | exact nb hw594_0 GW595.out | exact nc hw594_0 GW595.out | exact nd hw594_0 GW595.out) _).trans (((cell_far (p := ⟨gb595, _, none⟩) (by first | exact nb hw594_0 GW595.out | exact nc hw594_0 GW595.out | exact nd hw594_0 GW595.out) _).trans (((cell_far (p := ⟨gb595, _, none⟩) (by first | exact nb hw594_0 GW595.out | exact nc hw594_0 GW595.out | exact nd hw594_0 GW595.out) _).trans (((cell_far (p := ⟨gb595, _, none⟩) (by first | exact nb hw594_0 GW595.out | exact nc hw594_0 GW595.out | exact nd hw594_0 GW595.out) _).trans (((cell_far (p := ⟨gb595, _, none⟩) (by first | exact nb hw594_0 GW595.out | exact nc hw594_0 GW595.out | exact nd hw594_0 GW595.out) _).trans (hHeld.2.2.2.2.2.2.1)))))))))), ((cell_far (p := ⟨gb595, _, none⟩) (by first | exact nb hw594_1 GW595.out | exact nc hw594_1 GW595.out | exact nd hw594_1 GW595.out) _).trans (((cell_far (p := ⟨gb595, _, none⟩) (by first | exact nb hw594_1 GW595.out | exact nc hw594_1 GW595.out | exact nd hw594_1 GW595.out) _).trans (((cell_far (p := ⟨gb595, _, none⟩) (by first | exact nb hw594_1 GW595.out | exact nc hw594_1 GW595.out | exact nd hw594_1 GW595.out) _).trans (((cell_far (p := ⟨gb595, _, none⟩) (by first | exact nb hw594_1 GW595.out | exact nc hw594_1 GW595.out | exact nd hw594_1 GW595.out) _).trans (((cell_far (p := ⟨gb595, _, none⟩) (by first | exact nb hw594_1 GW595.out | exact nc hw594_1 GW595.out | exact nd hw594_1 GW595.out) _).trans (hHeld.2.2.2.2.2.2.2))))))))))⟩ (fun hHeld => ?_)
    clear hK K
    refine done_ (done_of HT_.out qz) ?_
    try go_wp2
    have n0_ : Aside0 ((((((w25.setCell ⟨gb595, 0, none⟩ (.int .i64 ((rd_T54 ((rd_T43 l0 a2).f0) a4).f0.f0))).setCell ⟨gb595, 1, none⟩ (.int .i64 ((rd_T54 ((rd_T43 l0 a2).f0) a4).f0.f1))).setCell ⟨gb595, 2, none⟩ (.int .i64 ((rd_T54 ((rd_T43 l0 a2).f0) (ji15)).f0.f0))).setCell ⟨gb595, 3, none⟩ (.int .i64 ((rd_T54 ((rd_T43 l0 a2).f0) (ji15)).f0.f1))).setCell ⟨gb595, 4, none⟩ (.int .i64 (wrap64 (Int.tdiv (rd l1 a2) 2)))).heap[gb595]? = some (.cells #[.int .i64 ((rd_T54 ((rd_T43 l0 a2).f0) a4).f0.f0), .int .i64 ((rd_T54 ((rd_T43 l0 a2).f0) a4).f0.f1), .int .i64 ((rd_T54 ((rd_T43 l0 a2).f0) (ji15)).f0.f0), .int .i64 ((rd_T54 ((rd_T43 l0 a2).f0) (ji15)).f0.f1), .int .i64 (wrap64 (Int.tdiv (rd l1 a2) 2))] 72 (0, 0))) := ⟨by (with_reducible repeat first | apply kN | apply kD | apply kA); refine blk_put (cs := #[.int .i64 ((rd_T54 ((rd_T43 l0 a2).f0) a4).f0.f0), .int .i64 ((rd_T54 ((rd_T43 l0 a2).f0) a4).f0.f1), .int .i64 ((rd_T54 ((rd_T43 l0 a2).f0) (ji15)).f0.f0), .int .i64 ((rd_T54 ((rd_T43 l0 a2).f0) (ji15)).f0.f1), .int .i64 0]) ?_ 4 _ rfl; (with_reducible repeat first | apply kN | apply kD | apply kA); refine blk_put (cs := #[.int .i64 ((rd_T54 ((rd_T43 l0 a2).f0) a4).f0.f0), .int .i64 ((rd_T54 ((rd_T43 l0 a2).f0) a4).f0.f1), .int .i64 ((rd_T54 ((rd_T43 l0 a2).f0) (ji15)).f0.f0), .int .i64 0, .int .i64 0]) ?_ 3 _ rfl; (with_reducible repeat first | apply kN | apply kD | apply kA); refine blk_put (cs := #[.int .i64 ((rd_T54 ((rd_T43 l0 a2).f0) a4).f0.f0), .int .i64 ((rd_T54 ((rd_T43 l0 a2).f0) a4).f0.f1), .int .i64 0, .int .i64 0, .int .i64 0]) ?_ 2 _ rfl; (with_reducible repeat first | apply kN | apply kD | apply kA); refine blk_put (cs := #[.int .i64 ((rd_T54 ((rd_T43 l0 a2).f0) a4).f0.f0), .int .i64 0, .int .i64 0, .int .i64 0, .int .i64 0]) ?_ 1 _ rfl; (with_reducible repeat first | apply kN | apply kD | apply kA); refine blk_put (cs := #[.int .i64 0, .int .i64 0, .int .i64 0, .int .i64 0, .int .i64 0]) ?_ 0 _ rfl; (with_reducible repeat first | apply kN | apply kD | apply kA); exact BK595.out⟩
    have n1_ : Aside0 (Below w.heap.size w (((((w25.setCell ⟨gb595, 0, none⟩ (.int .i64 ((rd_T54 ((rd_T43 l0 a2).f0) a4).f0.f0))).setCell ⟨gb595, 1, none⟩ (.int .i64 ((rd_T54 ((rd_T43 l0 a2).f0) a4).f0.f1))).setCell ⟨gb595, 2, none⟩ (.int .i64 ((rd_T54 ((rd_T43 l0 a2).f0) (ji15)).f0.f0))).setCell ⟨gb595, 3, none⟩ (.int .i64 ((rd_T54 ((rd_T43 l0 a2).f0) (ji15)).f0.f1))).setCell ⟨gb595, 4, none⟩ (.int .i64 (wrap64 (Int.tdiv (rd l1 a2) 2))))) := ⟨bz⟩
    (try clear BK595)
    (try clear HB)
    generalize (((((w25.setCell ⟨gb595, 0, none⟩ (.int .i64 ((rd_T54 ((rd_T43 l0 a2).f0) a4).f0.f0))).setCell ⟨gb595, 1, none⟩ (.int .i64 ((rd_T54 ((rd_T43 l0 a2).f0) a4).f0.f1))).setCell ⟨gb595, 2, none⟩ (.int .i64 ((rd_T54 ((rd_T43 l0 a2).f0) (ji15)).f0.f0))).setCell ⟨gb595, 3, none⟩ (.int .i64 ((rd_T54 ((rd_T43 l0 a2).f0) (ji15)).f0.f1))).setCell ⟨gb595, 4, none⟩ (.int .i64 (wrap64 (Int.tdiv (rd l1 a2) 2)))) = w31 at n0_ n1_ ⊢
    have BK595 := n0_
    have HB := n1_
    clear n0_ n1_
    have n0_ := am (blk_drew BK595.out)
    have n1_ := am (below_drew1 HB.out)
    clear BK595
    clear HB
    have BK595 := n0_
    have HB := n1_
    clear n0_ n1_
    have p596 : 0 ≤ (a3 : Int) := az
    have q596 : a3 < (l0.length : Int) := az
    obtain ⟨ad596, A596_0, c596_0, A596_1, c596_1, e596, hx596_0, hx596_1, hl596_0, hi596_0, hl596_1, hi596_1⟩ := at_T43 HR0.out a3 p596 q596
    have hw596_1 := hx596_1
    have hw596_0 := hx596_0
    obtain rfl : ad591 = ad596 := (by injection e596)
    replace hx596_0 := cb HB.out hx596_0
    replace hx596_1 := cb HB.out hx596_1
    have HR596_0 := am hi596_0
    have HC596_0 := am hl596_0
    clear hi596_0 hl596_0
    have HR596_1 := am hi596_1
    have HC596_1 := am hl596_1
    clear hi596_1 hl596_1
    replace p596 := eq_true p596
    replace q596 := eq_true q596
    have p597 : 0 ≤ (a4 : Int) := az
    have q597 : a4 < (((rd_T43 l0 a3).f0).length : Int) := az
    obtain ⟨ad597, e597, hx597_0, hx597_1, _, _, _, _, _, _, _, _, _, _, _, _, _, _, _, _, _, _, _, _⟩ := at_T54 HR596_0.out a4 p597 q597
    have hw597_1 := hx597_1
    have hw597_0 := hx597_0
    cases e597
    replace hx597_0 := cb HB.out hx597_0
    replace hx597_1 := cb HB.out hx597_1
    replace p597 := eq_true p597
    replace q597 := eq_true q597
    have p598 : 0 ≤ (a3 : Int) := az
    have q598 : a3 < (l0.length : Int) := az
    obtain ⟨ad598, A598_0, c598_0, A598_1, c598_1, e598, hx598_0, hx598_1, hl598_0, hi598_0, hl598_1, hi598_1⟩ := at_T43 HR0.out a3 p598 q598
    have hw598_1 := hx598_1
    have hw598_0 := hx598_0
    obtain rfl : ad591 = ad598 := (by injection e598)
    replace hx598_0 := cb HB.out hx598_0
    replace hx598_1 := cb HB.out hx598_1
    have HR598_0 := am hi598_0
    have HC598_0 := am hl598_0
    clear hi598_0 hl598_0
    have HR598_1 := am hi598_1
    have HC598_1 := am hl598_1
    clear hi598_1 hl598_1
    replace p598 := eq_true p598
    replace q598 := eq_true q598
    have ea_ := Option.some.inj (hx596_0.symm.trans hx598_0)
    injection ea_ with ea_ en_ ec_
    subst ea_
    subst ec_
    clear en_
    have ea_ := Option.some.inj (hx596_1.symm.trans hx598_1)
    injection ea_ with ea_ en_ ec_
    subst ea_
    subst ec_
    clear en_
    have p599 : 0 ≤ ((ji15) : Int) := az
    have q599 : (ji15) < (((rd_T43 l0 a3).f0).length : Int) := az
    obtain ⟨ad599, e599, hx599_0, hx599_1, _, _, _, _, _, _, _, _, _, _, _, _, _, _, _, _, _, _, _, _⟩ := at_T54 HR598_0.out (ji15) p599 q599
    have hw599_1 := hx599_1
    have hw599_0 := hx599_0
    cases e599
    replace hx599_0 := cb HB.out hx599_0
    replace hx599_1 := cb HB.out hx599_1
    replace p599 := eq_true p599
    replace q599 := eq_true q599
    refine start_ (n := 23) (S := fun w' => w'.cell? (ad591.add ((a3).toNat * 2)) = some (.slice (some ad597) ((rd_T43 l0 a3).f0).length c596_0) ∧ w'.cell? ⟨(ad591.add ((a3).toNat * 2)).block, (ad591.add ((a3).toNat * 2)).off + 1, none⟩ = some (.slice A596_1 ((rd_T43 l0 a3).f1).length c596_1) ∧ w'.cell? (ad597.add ((a4).toNat * 22)) = some (.int .i64 ((rd_T54 ((rd_T43 l0 a3).f0) a4).f0.f0)) ∧ w'.cell? ⟨(ad597.add ((a4).toNat * 22)).block, (ad597.add ((a4).toNat * 22)).off + 1, none⟩ = some (.int .i64 ((rd_T54 ((rd_T43 l0 a3).f0) a4).f0.f1)) ∧ w'.cell? (ad591.add ((a3).toNat * 2)) = some (.slice (some ad597) ((rd_T43 l0 a3).f0).length c596_0) ∧ w'.cell? ⟨(ad591.add ((a3).toNat * 2)).block, (ad591.add ((a3).toNat * 2)).off + 1, none⟩ = some (.slice A596_1 ((rd_T43 l0 a3).f1).length c596_1) ∧ w'.cell? (ad597.add (((ji15)).toNat * 22)) = some (.int .i64 ((rd_T54 ((rd_T43 l0 a3).f0) (ji15)).f0.f0)) ∧ w'.cell? ⟨(ad597.add (((ji15)).toNat * 22)).block, (ad597.add (((ji15)).toNat * 22)).off + 1, none⟩ = some (.int .i64 ((rd_T54 ((rd_T43 l0 a3).f0) (ji15)).f0.f1))) (ds := []) (bm 23 0) qz rfl rfl ⟨(cb HB.out hw596_0), (cb HB.out hw596_1), (cb HB.out hw597_0), (cb HB.out hw597_1), (cb HB.out hw598_0), (cb HB.out hw598_1), (cb HB.out hw599_0), (cb HB.out hw599_1)⟩ (fun hHeld => ?_); refine with_tabW dancestudiolaw44_near.tab5 dancestudiolaw44_near.bits5 (fun HT_ HW_ => ?_)
    generalize w31.drew = w32 at BK595 HB HR596_0 HR596_1 HR598_0 HR598_1 hx596_0 hx596_1 hx597_0 hx597_1 hx598_0 hx598_1 hx599_0 hx599_1 hHeld ⊢
    refine pa (i := 0) (N := some 53) (bm 23 1) HT_ ?_
    refine pa (i := 1) (N := some 54) (bm 23 3) HT_ ?_
    refine pa (i := 2) (N := some 55) (bm 23 7) HT_ ?_
    refine pa (i := 3) (N := some 56) (bm 23 15) HT_ ?_
    refine pa (i := 5) (N := some 58) (bm 23 47) HT_ ?_
    refine pa (i := 9) (N := some 62) (bm 23 559) HT_ ?_
    refine pa (i := 10) (N := some 63) (bm 23 1583) HT_ ?_
    refine pa (i := 11) (N := some 64) (bm 23 3631) HT_ ?_
    refine pa (i := 12) (N := some 65) (bm 23 7727) HT_ ?_
    refine pa (i := 14) (N := some 67) (bm 23 24111) HT_ ?_
    refine pa (i := 15) (N := some 68) (bm 23 56879) HT_ ?_
    refine pa (i := 19) (N := some 72) (bm 23 581167) HT_ ?_
    refine take_ (i := 4) (N := some 57) (v := ?_) (a' := ?_) (bm 23 581183) rfl rfl (take_ofW HT_.out HW_.out qz) iz (Or.inl ⟨by rfl, ?_⟩) hHeld ?_ ?_
    rotate_left
    ·
     rintro w' ⟨s0, s1, s2, s3, s4, s5, s6, s7⟩
     go_simp
     with_reducible rfl
    rotate_left
    ·
     simp only [Act.put, aS, lZ, lS, i64_w, i32_w]
     rfl
    refine pa (i := 6) (N := some 59) (bm 23 581247) HT_ ?_
    refine pa (i := 7) (N := some 60) (bm 23 581375) HT_ ?_
    refine take_ (i := 8) (N := some 61) (v := ?_) (a' := ?_) (bm 23 581631) rfl rfl (take_ofW HT_.out HW_.out qz) iz (Or.inl ⟨by rfl, ?_⟩) hHeld ?_ ?_
    rotate_left
    ·
     rintro w' ⟨s0, s1, s2, s3, s4, s5, s6, s7⟩
     go_simp
     with_reducible rfl
    rotate_left
    ·
     simp only [Act.put, aS, lZ, lS, i64_w, i32_w]
     rfl
    refine take_ (i := 13) (N := some 66) (v := ?_) (a' := ?_) (bm 23 589823) rfl rfl (take_ofW HT_.out HW_.out qz) iz (Or.inl ⟨by rfl, ?_⟩) hHeld ?_ ?_
    rotate_left
    ·
     rintro w' ⟨s0, s1, s2, s3, s4, s5, s6, s7⟩
     go_simp
     with_reducible rfl
    rotate_left
    ·
     simp only [Act.put, aS, lZ, lS, i64_w, i32_w]
     rfl
    refine pa (i := 16) (N := some 69) (bm 23 655359) HT_ ?_
    refine pa (i := 17) (N := some 70) (bm 23 786431) HT_ ?_
    refine take_ (i := 18) (N := some 71) (v := ?_) (a' := ?_) (bm 23 1048575) rfl rfl (take_ofW HT_.out HW_.out qz) iz (Or.inl ⟨by rfl, ?_⟩) hHeld ?_ ?_
    rotate_left
    ·
     rintro w' ⟨s0, s1, s2, s3, s4, s5, s6, s7⟩
     go_simp
     with_reducible rfl
    rotate_left
    ·
     simp only [Act.put, aS, lZ, lS, i64_w, i32_w]
     rfl
    refine pa (i := 20) (N := some 73) (bm 23 2097151) HT_ ?_
    refine one_ (i := 21) (N := some 16) (bm 23 4194303) rfl rfl (one_of HT_.out qz) (by decide) (fun K hK => ?_)
    refine box_step ?hg (N := 16) ?hd (cs := #[.int .i64 0, .int .i64 0, .int .i64 0, .int .i64 0, .int .i64 0]) (t := 72) ?hr ?_; (case hd => rfl); (case hg => rfl); (case hr => first | (go_simp; done) | (go_simp; rfl))
    intro gb600 hg w33 hbox hb
    have n0_ := am (blk_below (o := .cells #[.int .i64 ((rd_T54 ((rd_T43 l0 a2).f0) a4).f0.f0), .int .i64 ((rd_T54 ((rd_T43 l0 a2).f0) a4).f0.f1), .int .i64 ((rd_T54 ((rd_T43 l0 a2).f0) (ji15)).f0.f0), .int .i64 ((rd_T54 ((rd_T43 l0 a2).f0) (ji15)).f0.f1), .int .i64 (wrap64 (Int.tdiv (rd l1 a2) 2))] 72 (0, 0)) (kz BK595) hb)
    have n1_ := am (below_step bz hb)
    have n2_ := am (hbox)
    have n3_ := gwz (g := gb600) HB hg
    have n4_ := gwz (g := gb600) HB hg
    have n5_ := nlt (g' := gb600) BK595 hg
    have n6_ := ngt (g' := gb600) BK595 hg
    clear BK595
    clear HB
    have BK595 := n0_
    have HB := n1_
    have BK600 := n2_
    have GW600 := n3_
    have GE600 := n4_
    have NB595_600 := n5_
    have NB600_595 := n6_
    clear n0_ n1_ n2_ n3_ n4_ n5_ n6_
    clear hb hbox hg
    refine hK.out _ _ ⟨(cb HB.out hw596_0), (cb HB.out hw596_1), (cb HB.out hw597_0), (cb HB.out hw597_1), (cb HB.out hw598_0), (cb HB.out hw598_1), (cb HB.out hw599_0), (cb HB.out hw599_1)⟩ (fun hHeld => ?_)
    clear hK K
    refine norm_ (a' := ?_) ?_ ?_
    rotate_left
    ·
     show Act.put _ (some 16) _ = _
     simp only [Act.put, aS, lZ, lS, i64_w, i32_w]
     rfl
    refine one_ (i := 22) (N := none) (bm 23 8388607) rfl rfl (one_of HT_.out qz) (by decide) (fun K hK => ?_)
    have hs34 : w33.cell? ⟨gb600, 0, none⟩ = some (.int .i64 0) := (blk_cell BK600.out 0).trans rfl
    have hfs34 := blk_frozen BK600.out 0
    have hns34_0 := NB595_600.out
    have hms34_0 := NB600_595.out
    have hs35 : w33.cell? ⟨gb600, 1, none⟩ = some (.int .i64 0) := (blk_cell BK600.out 1).trans rfl
    have hfs35 := blk_frozen BK600.out 1
    have hns35_0 := NB595_600.out
    have hms35_0 := NB600_595.out
    have hs36 : w33.cell? ⟨gb600, 2, none⟩ = some (.int .i64 0) := (blk_cell BK600.out 2).trans rfl
    have hfs36 := blk_frozen BK600.out 2
    have hns36_0 := NB595_600.out
    have hms36_0 := NB600_595.out
    have hs37 : w33.cell? ⟨gb600, 3, none⟩ = some (.int .i64 0) := (blk_cell BK600.out 3).trans rfl
    have hfs37 := blk_frozen BK600.out 3
    have hns37_0 := NB595_600.out
    have hms37_0 := NB600_595.out
    have hs38 : w33.cell? ⟨gb600, 4, none⟩ = some (.int .i64 0) := (blk_cell BK600.out 4).trans rfl
    have hfs38 := blk_frozen BK600.out 4
    have hns38_0 := NB595_600.out
    have hms38_0 := NB600_595.out
    refine skip_ (w1 := ?_) (by rfl) rfl ?_ ?_
    rotate_left
    ·
     go_simp
     rfl
    refine hK.out _ _ ⟨((cell_far (p := ⟨gb600, _, none⟩) (by first | exact nb hw596_0 GW600.out | exact nc hw596_0 GW600.out | exact nd hw596_0 GW600.out) _).trans (((cell_far (p := ⟨gb600, _, none⟩) (by first | exact nb hw596_0 GW600.out | exact nc hw596_0 GW600.out | exact nd hw596_0 GW600.out) _).trans (((cell_far (p := ⟨gb600, _, none⟩) (by first | exact nb hw596_0 GW600.out | exact nc hw596_0 GW600.out | exact nd hw596_0 GW600.out) _).trans (((cell_far (p := ⟨gb600, _, none⟩) (by first | exact nb hw596_0 GW600.out | exact nc hw596_0 GW600.out | exact nd hw596_0 GW600.out) _).trans (((cell_far (p := ⟨gb600, _, none⟩) (by first | exact nb hw596_0 GW600.out | exact nc hw596_0 GW600.out | exact nd hw596_0 GW600.out) _).trans (hHeld.1)))))))))), ((cell_far (p := ⟨gb600, _, none⟩) (by first | exact nb hw596_1 GW600.out | exact nc hw596_1 GW600.out | exact nd hw596_1 GW600.out) _).trans (((cell_far (p := ⟨gb600, _, none⟩) (by first | exact nb hw596_1 GW600.out | exact nc hw596_1 GW600.out | exact nd hw596_1 GW600.out) _).trans (((cell_far (p := ⟨gb600, _, none⟩) (by first | exact nb hw596_1 GW600.out | exact nc hw596_1 GW600.out | exact nd hw596_1 GW600.out) _).trans (((cell_far (p := ⟨gb600, _, none⟩) (by first | exact nb hw596_1 GW600.out | exact nc hw596_1 GW600.out | exact nd hw596_1 GW600.out) _).trans (((cell_far (p := ⟨gb600, _, none⟩) (by first | exact nb hw596_1 GW600.out | exact nc hw596_1 GW600.out | exact nd hw596_1 GW600.out) _).trans (hHeld.2.1)))))))))), ((cell_far (p := ⟨gb600, _, none⟩) (by first | exact nb hw597_0 GW600.out | exact nc hw597_0 GW600.out | exact nd hw597_0 GW600.out) _).trans (((cell_far (p := ⟨gb600, _, none⟩) (by first | exact nb hw597_0 GW600.out | exact nc hw597_0 GW600.out | exact nd hw597_0 GW600.out) _).trans (((cell_far (p := ⟨gb600, _, none⟩) (by first | exact nb hw597_0 GW600.out | exact nc hw597_0 GW600.out | exact nd hw597_0 GW600.out) _).trans (((cell_far (p := ⟨gb600, _, none⟩) (by first | exact nb hw597_0 GW600.out | exact nc hw597_0 GW600.out | exact nd hw597_0 GW600.out) _).trans (((cell_far (p := ⟨gb600, _, none⟩) (by first | exact nb hw597_0 GW600.out | exact nc hw597_0 GW600.out | exact nd hw597_0 GW600.out) _).trans (hHeld.2.2.1)))))))))), ((cell_far (p := ⟨gb600, _, none⟩) (by first | exact nb hw597_1 GW600.out | exact nc hw597_1 GW600.out | exact nd hw597_1 GW600.out) _).trans (((cell_far (p := ⟨gb600, _, none⟩) (by first | exact nb hw597_1 GW600.out | exact nc hw597_1 GW600.out | exact nd hw597_1 GW600.out) _).trans (((cell_far (p := ⟨gb600, _, none⟩) (by first | exact nb hw597_1 GW600.out | exact nc hw597_1 GW600.out | exact nd hw597_1 GW600.out) _).trans (((cell_far (p := ⟨gb600, _, none⟩) (by first | exact nb hw597_1 GW600.out | exact nc hw597_1 GW600.out | exact nd hw597_1 GW600.out) _).trans (((cell_far (p := ⟨gb600, _, none⟩) (by first | exact nb hw597_1 GW600.out | exact nc hw597_1 GW600.out | exact nd hw597_1 GW600.out) _).trans (hHeld.2.2.2.1)))))))))), ((cell_far (p := ⟨gb600, _, none⟩) (by first | exact nb hw598_0 GW600.out | exact nc hw598_0 GW600.out | exact nd hw598_0 GW600.out) _).trans (((cell_far (p := ⟨gb600, _, none⟩) (by first | exact nb hw598_0 GW600.out | exact nc hw598_0 GW600.out | exact nd hw598_0 GW600.out) _).trans (((cell_far (p := ⟨gb600, _, none⟩) (by first | exact nb hw598_0 GW600.out | exact nc hw598_0 GW600.out | exact nd hw598_0 GW600.out) _).trans (((cell_far (p := ⟨gb600, _, none⟩) (by first | exact nb hw598_0 GW600.out | exact nc hw598_0 GW600.out | exact nd hw598_0 GW600.out) _).trans (((cell_far (p := ⟨gb600, _, none⟩) (by first | exact nb hw598_0 GW600.out | exact nc hw598_0 GW600.out | exact nd hw598_0 GW600.out) _).trans (hHeld.2.2.2.2.1)))))))))), ((cell_far (p := ⟨gb600, _, none⟩) (by first | exact nb hw598_1 GW600.out | exact nc hw598_1 GW600.out | exact nd hw598_1 GW600.out) _).trans (((cell_far (p := ⟨gb600, _, none⟩) (by first | exact nb hw598_1 GW600.out | exact nc hw598_1 GW600.out | exact nd hw598_1 GW600.out) _).trans (((cell_far (p := ⟨gb600, _, none⟩) (by first | exact nb hw598_1 GW600.out | exact nc hw598_1 GW600.out | exact nd hw598_1 GW600.out) _).trans (((cell_far (p := ⟨gb600, _, none⟩) (by first | exact nb hw598_1 GW600.out | exact nc hw598_1 GW600.out | exact nd hw598_1 GW600.out) _).trans (((cell_far (p := ⟨gb600, _, none⟩) (by first | exact nb hw598_1 GW600.out | exact nc hw598_1 GW600.out | exact nd hw598_1 GW600.out) _).trans (hHeld.2.2.2.2.2.1)))))))))), ((cell_far (p := ⟨gb600, _, none⟩) (by first | exact nb hw599_0 GW600.out | exact nc hw599_0 GW600.out | exact nd hw599_0 GW600.out) _).trans (((cell_far (p := ⟨gb600, _, none⟩) (by first | exact nb hw599_0 GW600.out | exact nc hw599_0 GW600.out | exact nd hw599_0 GW600.out) _).trans (((cell_far (p := ⟨gb600, _, none⟩) (by first | exact nb hw599_0 GW600.out | exact nc hw599_0 GW600.out | exact nd hw599_0 GW600.out) _).trans (((cell_far (p := ⟨gb600, _, none⟩) (by first | exact nb hw599_0 GW600.out | exact nc hw599_0 GW600.out | exact nd hw599_0 GW600.out) _).trans (((cell_far (p := ⟨gb600, _, none⟩) (by first | exact nb hw599_0 GW600.out | exact nc hw599_0 GW600.out | exact nd hw599_0 GW600.out) _).trans (hHeld.2.2.2.2.2.2.1)))))))))), ((cell_far (p := ⟨gb600, _, none⟩) (by first | exact nb hw599_1 GW600.out | exact nc hw599_1 GW600.out | exact nd hw599_1 GW600.out) _).trans (((cell_far (p := ⟨gb600, _, none⟩) (by first | exact nb hw599_1 GW600.out | exact nc hw599_1 GW600.out | exact nd hw599_1 GW600.out) _).trans (((cell_far (p := ⟨gb600, _, none⟩) (by first | exact nb hw599_1 GW600.out | exact nc hw599_1 GW600.out | exact nd hw599_1 GW600.out) _).trans (((cell_far (p := ⟨gb600, _, none⟩) (by first | exact nb hw599_1 GW600.out | exact nc hw599_1 GW600.out | exact nd hw599_1 GW600.out) _).trans (((cell_far (p := ⟨gb600, _, none⟩) (by first | exact nb hw599_1 GW600.out | exact nc hw599_1 GW600.out | exact nd hw599_1 GW600.out) _).trans (hHeld.2.2.2.2.2.2.2))))))))))⟩ (fun hHeld => ?_)
    clear hK K
    refine done_ (done_of HT_.out qz) ?_
    have hnb39 := NB595_600.out
    have hnc39 := NB600_595.out
    obtain ⟨hcz40_0, hcz40_1, hcz40_2, hcz40_3, hcz40_4, hfz40_0, hfz40_1, hfz40_2, hfz40_3, hfz40_4⟩ := kc5 BK595.out
    obtain ⟨hcz41_0, hcz41_1, hcz41_2, hcz41_3, hcz41_4, hfz41_0, hfz41_1, hfz41_2, hfz41_3, hfz41_4⟩ := kc5 BK600.out
    first
    | (have _ := tw1a
       try go_wp2_with (first | ((with_reducible refine gate_callee (f := 37) rfl ?_); refine goesL_ (some 77) rfl rfl Try.func37 qz rfl #[.agg #[.int .i64 ((rd_T54 ((rd_T43 l0 a2).f0) a4).f0.f0), .int .i64 ((rd_T54 ((rd_T43 l0 a2).f0) a4).f0.f1), .int .i64 ((rd_T54 ((rd_T43 l0 a2).f0) (ji15)).f0.f0), .int .i64 ((rd_T54 ((rd_T43 l0 a2).f0) (ji15)).f0.f1), .int .i64 (wrap64 (Int.tdiv (rd l1 a2) 2))], .agg #[.int .i64 ((rd_T54 ((rd_T43 l0 a3).f0) a4).f0.f0), .int .i64 ((rd_T54 ((rd_T43 l0 a3).f0) a4).f0.f1), .int .i64 ((rd_T54 ((rd_T43 l0 a3).f0) (ji15)).f0.f0), .int .i64 ((rd_T54 ((rd_T43 l0 a3).f0) (ji15)).f0.f1), .int .i64 (wrap64 (Int.tdiv (rd l1 a3) 2))]] rfl (by (try simp only [List.map_toArray, List.map_cons, List.map_nil]); first | done | (simp only [hji15]; rfl) | rfl | (simp only [List.length_drop, List.length_take]; rfl)) ?_; (with_reducible refine (geom_Touch.calls k ((rd_T54 ((rd_T43 l0 a2).f0) a4).f0.f0) ((rd_T54 ((rd_T43 l0 a2).f0) a4).f0.f1) ((rd_T54 ((rd_T43 l0 a2).f0) (ji15)).f0.f0) ((rd_T54 ((rd_T43 l0 a2).f0) (ji15)).f0.f1) (wrap64 (Int.tdiv (rd l1 a2) 2)) ((rd_T54 ((rd_T43 l0 a3).f0) a4).f0.f0) ((rd_T54 ((rd_T43 l0 a3).f0) a4).f0.f1) ((rd_T54 ((rd_T43 l0 a3).f0) (ji15)).f0.f0) ((rd_T54 ((rd_T43 l0 a3).f0) (ji15)).f0.f1) (wrap64 (Int.tdiv (rd l1 a3) 2)) true t602 _ A21.out).mono ?_); rintro e w42 ⟨rfl, hb⟩; refine ⟨_, rfl, ?_⟩; replace BK595 := am (blk_below (o := .cells #[.int .i64 ((rd_T54 ((rd_T43 l0 a2).f0) a4).f0.f0), .int .i64 ((rd_T54 ((rd_T43 l0 a2).f0) a4).f0.f1), .int .i64 ((rd_T54 ((rd_T43 l0 a2).f0) (ji15)).f0.f0), .int .i64 ((rd_T54 ((rd_T43 l0 a2).f0) (ji15)).f0.f1), .int .i64 (wrap64 (Int.tdiv (rd l1 a2) 2))] 72 (0, 0)) (by (with_reducible repeat first | apply kN | apply kD | apply kA); refine blk_far ?_ NB595_600.out _; (with_reducible repeat first | apply kN | apply kD | apply kA); refine blk_far ?_ NB595_600.out _; (with_reducible repeat first | apply kN | apply kD | apply kA); refine blk_far ?_ NB595_600.out _; (with_reducible repeat first | apply kN | apply kD | apply kA); refine blk_far ?_ NB595_600.out _; (with_reducible repeat first | apply kN | apply kD | apply kA); refine blk_far ?_ NB595_600.out _; (with_reducible repeat first | apply kN | apply kD | apply kA); exact BK595.out) hb); replace BK600 := am (blk_below (o := .cells #[.int .i64 ((rd_T54 ((rd_T43 l0 a3).f0) a4).f0.f0), .int .i64 ((rd_T54 ((rd_T43 l0 a3).f0) a4).f0.f1), .int .i64 ((rd_T54 ((rd_T43 l0 a3).f0) (ji15)).f0.f0), .int .i64 ((rd_T54 ((rd_T43 l0 a3).f0) (ji15)).f0.f1), .int .i64 (wrap64 (Int.tdiv (rd l1 a3) 2))] 72 (0, 0)) (by (with_reducible repeat first | apply kN | apply kD | apply kA); refine blk_put (cs := #[.int .i64 ((rd_T54 ((rd_T43 l0 a3).f0) a4).f0.f0), .int .i64 ((rd_T54 ((rd_T43 l0 a3).f0) a4).f0.f1), .int .i64 ((rd_T54 ((rd_T43 l0 a3).f0) (ji15)).f0.f0), .int .i64 ((rd_T54 ((rd_T43 l0 a3).f0) (ji15)).f0.f1), .int .i64 0]) ?_ 4 _ rfl; (with_reducible repeat first | apply kN | apply kD | apply kA); refine blk_put (cs := #[.int .i64 ((rd_T54 ((rd_T43 l0 a3).f0) a4).f0.f0), .int .i64 ((rd_T54 ((rd_T43 l0 a3).f0) a4).f0.f1), .int .i64 ((rd_T54 ((rd_T43 l0 a3).f0) (ji15)).f0.f0), .int .i64 0, .int .i64 0]) ?_ 3 _ rfl; (with_reducible repeat first | apply kN | apply kD | apply kA); refine blk_put (cs := #[.int .i64 ((rd_T54 ((rd_T43 l0 a3).f0) a4).f0.f0), .int .i64 ((rd_T54 ((rd_T43 l0 a3).f0) a4).f0.f1), .int .i64 0, .int .i64 0, .int .i64 0]) ?_ 2 _ rfl; (with_reducible repeat first | apply kN | apply kD | apply kA); refine blk_put (cs := #[.int .i64 ((rd_T54 ((rd_T43 l0 a3).f0) a4).f0.f0), .int .i64 0, .int .i64 0, .int .i64 0, .int .i64 0]) ?_ 1 _ rfl; (with_reducible repeat first | apply kN | apply kD | apply kA); refine blk_put (cs := #[.int .i64 0, .int .i64 0, .int .i64 0, .int .i64 0, .int .i64 0]) ?_ 0 _ rfl; (with_reducible repeat first | apply kN | apply kD | apply kA); exact BK600.out) hb); replace HB := am (below_step bz hb); (try clear hb); (try clear hb2); (try clear hk); (try clear hi)))
       go_ret
       exact ⟨by first | rfl | (simp [errW_none, errW_some] <;> rfl) | (simp only [← hji15]; first | rfl | (simp [errW_none, errW_some] <;> rfl)) | (simp [*, errW_none, errW_some] <;> rfl), bz⟩)
    | (have _ := tw1b
       try go_wp2_with (first | ((with_reducible refine gate_callee (f := 37) rfl ?_); refine goesL_ (some 77) rfl rfl Try.func37 qz rfl #[.agg #[.int .i64 ((rd_T54 ((rd_T43 l0 a2).f0) a4).f0.f0), .int .i64 ((rd_T54 ((rd_T43 l0 a2).f0) a4).f0.f1), .int .i64 ((rd_T54 ((rd_T43 l0 a2).f0) (ji15)).f0.f0), .int .i64 ((rd_T54 ((rd_T43 l0 a2).f0) (ji15)).f0.f1), .int .i64 (wrap64 (Int.tdiv (rd l1 a2) 2))], .agg #[.int .i64 ((rd_T54 ((rd_T43 l0 a3).f0) a4).f0.f0), .int .i64 ((rd_T54 ((rd_T43 l0 a3).f0) a4).f0.f1), .int .i64 ((rd_T54 ((rd_T43 l0 a3).f0) (ji15)).f0.f0), .int .i64 ((rd_T54 ((rd_T43 l0 a3).f0) (ji15)).f0.f1), .int .i64 (wrap64 (Int.tdiv (rd l1 a3) 2))]] rfl (by (try simp only [List.map_toArray, List.map_cons, List.map_nil]); first | done | (simp only [hji15]; rfl) | rfl | (simp only [List.length_drop, List.length_take]; rfl)) ?_; (with_reducible refine (geom_Touch.calls k ((rd_T54 ((rd_T43 l0 a2).f0) a4).f0.f0) ((rd_T54 ((rd_T43 l0 a2).f0) a4).f0.f1) ((rd_T54 ((rd_T43 l0 a2).f0) (ji15)).f0.f0) ((rd_T54 ((rd_T43 l0 a2).f0) (ji15)).f0.f1) (wrap64 (Int.tdiv (rd l1 a2) 2)) ((rd_T54 ((rd_T43 l0 a3).f0) a4).f0.f0) ((rd_T54 ((rd_T43 l0 a3).f0) a4).f0.f1) ((rd_T54 ((rd_T43 l0 a3).f0) (ji15)).f0.f0) ((rd_T54 ((rd_T43 l0 a3).f0) (ji15)).f0.f1) (wrap64 (Int.tdiv (rd l1 a3) 2)) false t602 _ A21.out).mono ?_); rintro e w62 ⟨rfl, hb⟩; refine ⟨_, rfl, ?_⟩; replace BK595 := am (blk_below (o := .cells #[.int .i64 ((rd_T54 ((rd_T43 l0 a2).f0) a4).f0.f0), .int .i64 ((rd_T54 ((rd_T43 l0 a2).f0) a4).f0.f1), .int .i64 ((rd_T54 ((rd_T43 l0 a2).f0) (ji15)).f0.f0), .int .i64 ((rd_T54 ((rd_T43 l0 a2).f0) (ji15)).f0.f1), .int .i64 (wrap64 (Int.tdiv (rd l1 a2) 2))] 72 (0, 0)) (by (with_reducible repeat first | apply kN | apply kD | apply kA); refine blk_far ?_ NB595_600.out _; (with_reducible repeat first | apply kN | apply kD | apply kA); refine blk_far ?_ NB595_600.out _; (with_reducible repeat first | apply kN | apply kD | apply kA); refine blk_far ?_ NB595_600.out _; (with_reducible repeat first | apply kN | apply kD | apply kA); refine blk_far ?_ NB595_600.out _; (with_reducible repeat first | apply kN | apply kD | apply kA); refine blk_far ?_ NB595_600.out _; (with_reducible repeat first | apply kN | apply kD | apply kA); exact BK595.out) hb); replace BK600 := am (blk_below (o := .cells #[.int .i64 ((rd_T54 ((rd_T43 l0 a3).f0) a4).f0.f0), .int .i64 ((rd_T54 ((rd_T43 l0 a3).f0) a4).f0.f1), .int .i64 ((rd_T54 ((rd_T43 l0 a3).f0) (ji15)).f0.f0), .int .i64 ((rd_T54 ((rd_T43 l0 a3).f0) (ji15)).f0.f1), .int .i64 (wrap64 (Int.tdiv (rd l1 a3) 2))] 72 (0, 0)) (by (with_reducible repeat first | apply kN | apply kD | apply kA); refine blk_put (cs := #[.int .i64 ((rd_T54 ((rd_T43 l0 a3).f0) a4).f0.f0), .int .i64 ((rd_T54 ((rd_T43 l0 a3).f0) a4).f0.f1), .int .i64 ((rd_T54 ((rd_T43 l0 a3).f0) (ji15)).f0.f0), .int .i64 ((rd_T54 ((rd_T43 l0 a3).f0) (ji15)).f0.f1), .int .i64 0]) ?_ 4 _ rfl; (with_reducible repeat first | apply kN | apply kD | apply kA); refine blk_put (cs := #[.int .i64 ((rd_T54 ((rd_T43 l0 a3).f0) a4).f0.f0), .int .i64 ((rd_T54 ((rd_T43 l0 a3).f0) a4).f0.f1), .int .i64 ((rd_T54 ((rd_T43 l0 a3).f0) (ji15)).f0.f0), .int .i64 0, .int .i64 0]) ?_ 3 _ rfl; (with_reducible repeat first | apply kN | apply kD | apply kA); refine blk_put (cs := #[.int .i64 ((rd_T54 ((rd_T43 l0 a3).f0) a4).f0.f0), .int .i64 ((rd_T54 ((rd_T43 l0 a3).f0) a4).f0.f1), .int .i64 0, .int .i64 0, .int .i64 0]) ?_ 2 _ rfl; (with_reducible repeat first | apply kN | apply kD | apply kA); refine blk_put (cs := #[.int .i64 ((rd_T54 ((rd_T43 l0 a3).f0) a4).f0.f0), .int .i64 0, .int .i64 0, .int .i64 0, .int .i64 0]) ?_ 1 _ rfl; (with_reducible repeat first | apply kN | apply kD | apply kA); refine blk_put (cs := #[.int .i64 0, .int .i64 0, .int .i64 0, .int .i64 0, .int .i64 0]) ?_ 0 _ rfl; (with_reducible repeat first | apply kN | apply kD | apply kA); exact BK600.out) hb); replace HB := am (below_step bz hb); (try clear hb); (try clear hb2); (try clear hk); (try clear hi)))
       go_ret
       exact ⟨by first | rfl | (simp [errW_none, errW_some] <;> rfl) | (simp only [← hji15]; first | rfl | (simp [errW_none, errW_some] <;> rfl)) | (simp [*, errW_none, errW_some] <;> rfl), bz⟩)
  ·
   replace c11 := Bool.eq_false_iff.mpr c11
   subst c11
   have H1 : (if a2 < (l0.length : Int) then (if 0 ≤ a4 then (if a4 < (((rd_T43 l0 a2).f0).length : Int) then (if 0 ≤ (wrap64 (a4 + 1)) then (if (wrap64 (a4 + 1)) < (((rd_T43 l0 a2).f0).length : Int) then (if a3 < (l0.length : Int) then (if a4 < (((rd_T43 l0 a3).f0).length : Int) then (if (wrap64 (a4 + 1)) < (((rd_T43 l0 a3).f0).length : Int) then ((geom_Touch.f k ((rd_T54 ((rd_T43 l0 a2).f0) a4).f0.f0) ((rd_T54 ((rd_T43 l0 a2).f0) a4).f0.f1) ((rd_T54 ((rd_T43 l0 a2).f0) (wrap64 (a4 + 1))).f0.f0) ((rd_T54 ((rd_T43 l0 a2).f0) (wrap64 (a4 + 1))).f0.f1) (rd l1 a2) ((rd_T54 ((rd_T43 l0 a3).f0) a4).f0.f0) ((rd_T54 ((rd_T43 l0 a3).f0) a4).f0.f1) ((rd_T54 ((rd_T43 l0 a3).f0) (wrap64 (a4 + 1))).f0.f0) ((rd_T54 ((rd_T43 l0 a3).f0) (wrap64 (a4 + 1))).f0.f1) (rd l1 a3)).bind fun bt613 => (if bt613.1 = true then (some (bt613.2 == 0)) else (some false))) else (none)) else (none)) else (none)) else (none)) else (none)) else (none)) else (none)) else (none)) = some r := by rw [if_neg (show ¬ (false = true) by decide)] at H; exact H
   clear H
   have H := H1
   clear H1
   by_cases c63 : a2 < (l0.length : Int); rotate_left
   · rw [if_neg c63] at H; exact absurd H (by simp)
   rw [if_pos c63] at H
   have c63b0 := decide_eq_true c63
   clear c63
   by_cases c64 : 0 ≤ a4; rotate_left
   · rw [if_neg c64] at H; exact absurd H (by simp)
   rw [if_pos c64] at H
   have c64b0 := decide_eq_true c64
   clear c64
   by_cases c65 : a4 < (((rd_T43 l0 a2).f0).length : Int); rotate_left
   · rw [if_neg c65] at H; exact absurd H (by simp)
   rw [if_pos c65] at H
   have c65b0 := decide_eq_true c65
   clear c65
   obtain ⟨ji66, hji66⟩ : ∃ j_ : Int, (wrap64 (a4 + 1)) = j_ := ⟨_, rfl⟩
   replace H : (if 0 ≤ (ji66) then (if (ji66) < (((rd_T43 l0 a2).f0).length : Int) then (if a3 < (l0.length : Int) then (if a4 < (((rd_T43 l0 a3).f0).length : Int) then (if (ji66) < (((rd_T43 l0 a3).f0).length : Int) then ((geom_Touch.f k ((rd_T54 ((rd_T43 l0 a2).f0) a4).f0.f0) ((rd_T54 ((rd_T43 l0 a2).f0) a4).f0.f1) ((rd_T54 ((rd_T43 l0 a2).f0) (ji66)).f0.f0) ((rd_T54 ((rd_T43 l0 a2).f0) (ji66)).f0.f1) (rd l1 a2) ((rd_T54 ((rd_T43 l0 a3).f0) a4).f0.f0) ((rd_T54 ((rd_T43 l0 a3).f0) a4).f0.f1) ((rd_T54 ((rd_T43 l0 a3).f0) (ji66)).f0.f0) ((rd_T54 ((rd_T43 l0 a3).f0) (ji66)).f0.f1) (rd l1 a3)).bind fun bt613 => (if bt613.1 = true then (some (bt613.2 == 0)) else (some false))) else (none)) else (none)) else (none)) else (none)) else (none)) = some r := by first | (rw [hji66] at H; exact H) | (simp only [hji66] at H ⊢; exact H)
   have hji66w : (IntKind.i64.wrap (a4 + 1)) = ji66 := (i64_w _).trans hji66
   by_cases c67 : 0 ≤ (ji66); rotate_left
   · rw [if_neg c67] at H; exact absurd H (by simp)
   rw [if_pos c67] at H
   have c67b0 := decide_eq_true c67
   clear c67
   by_cases c68 : (ji66) < (((rd_T43 l0 a2).f0).length : Int); rotate_left
   · rw [if_neg c68] at H; exact absurd H (by simp)
   rw [if_pos c68] at H
   have c68b0 := decide_eq_true c68
   clear c68
   by_cases c69 : a3 < (l0.length : Int); rotate_left
   · rw [if_neg c69] at H; exact absurd H (by simp)
   rw [if_pos c69] at H
   have c69b0 := decide_eq_true c69
   clear c69
   by_cases c70 : a4 < (((rd_T43 l0 a3).f0).length : Int); rotate_left
   · rw [if_neg c70] at H; exact absurd H (by simp)
   rw [if_pos c70] at H
   have c70b0 := decide_eq_true c70
   clear c70
   by_cases c71 : (ji66) < (((rd_T43 l0 a3).f0).length : Int); rotate_left
   · rw [if_neg c71] at H; exact absurd H (by simp)
   rw [if_pos c71] at H
   have c71b0 := decide_eq_true c71
   clear c71
   replace H := Option.bind_eq_some_iff.mp H
   obtain ⟨⟨t613, t614⟩, A720, H⟩ := H
   replace H : (if t613 = true then (some (t614 == 0)) else (some false)) = some r := H
   have A72 := am A720
   clear A720
   by_cases c73 : t613 = true
   case' pos =>
    subst c73
    have H1 : (some (t614 == 0)) = some r := by rw [if_pos rfl] at H; exact H
    have tw2a : True := trivial
   case' neg =>
    replace c73 := Bool.eq_false_iff.mpr c73
    subst c73
    have H1 : (some false) = some r := by rw [if_neg (show ¬ (false = true) by decide)] at H; exact H
    have tw2b : True := trivial
   all_goals
    clear H
    have H := H1
    clear H1
    obtain rfl := Option.some.inj H
    go_enter Try.func22, Try.ntmps22
    try go_wp2
    have n0_ := am (below_drew1 HB.out)
    clear HB
    have HB := n0_
    clear n0_
    have p589 : 0 ≤ (a2 : Int) := az
    have q589 : a2 < (l1.length : Int) := az
    obtain ⟨ad589, e589, hx589_0⟩ := Kd.at_int HR1.out a2 p589 q589
    have hw589_0 := hx589_0
    cases e589
    replace hx589_0 := cb HB.out hx589_0
    replace p589 := eq_true p589
    replace q589 := eq_true q589
    have p590 : 0 ≤ (a3 : Int) := az
    have q590 : a3 < (l1.length : Int) := az
    obtain ⟨ad590, e590, hx590_0⟩ := Kd.at_int HR1.out a3 p590 q590
    have hw590_0 := hx590_0
    obtain rfl : ad589 = ad590 := (by injection e590)
    replace hx590_0 := cb HB.out hx590_0
    replace p590 := eq_true p590
    replace q590 := eq_true q590
    refine start_ (n := 10) (S := fun w' => w'.cell? (ad589.add (a2).toNat) = some (.int .i64 (rd l1 a2)) ∧ w'.cell? (ad589.add (a3).toNat) = some (.int .i64 (rd l1 a3))) (ds := []) (bm 10 0) qz rfl rfl ⟨(cb HB.out hw589_0), (cb HB.out hw590_0)⟩ (fun hHeld => ?_); refine with_tabW dancestudiolaw44_near.tab1 dancestudiolaw44_near.bits1 (fun HT_ HW_ => ?_)
    generalize w.drew = w74 at HB hx589_0 hx590_0 hHeld ⊢
    refine pa (i := 0) (N := some 19) (bm 10 1) HT_ ?_
    refine pa (i := 1) (N := some 20) (bm 10 3) HT_ ?_
    refine pa (i := 2) (N := some 21) (bm 10 7) HT_ ?_
    refine pa (i := 4) (N := some 23) (bm 10 23) HT_ ?_
    refine pa (i := 5) (N := some 24) (bm 10 55) HT_ ?_
    refine pa (i := 6) (N := some 25) (bm 10 119) HT_ ?_
    refine take_ (i := 3) (N := some 22) (v := ?_) (a' := ?_) (bm 10 127) rfl rfl (take_ofW HT_.out HW_.out qz) iz (Or.inl ⟨by rfl, ?_⟩) hHeld ?_ ?_
    rotate_left
    ·
     rintro w' ⟨s0, s1⟩
     go_simp
     with_reducible rfl
    rotate_left
    ·
     simp only [Act.put, aS, lZ, lS, i64_w, i32_w]
     rfl
    refine pa (i := 8) (N := some 13) (bm 10 383) HT_ ?_
    refine take_ (i := 7) (N := some 26) (v := ?_) (a' := ?_) (bm 10 511) rfl rfl (take_ofW HT_.out HW_.out qz) iz (Or.inl ⟨by rfl, ?_⟩) hHeld ?_ ?_
    rotate_left
    ·
     rintro w' ⟨s0, s1⟩
     go_simp
     with_reducible rfl
    rotate_left
    ·
     simp only [Act.put, aS, lZ, lS, i64_w, i32_w]
     rfl
    refine pa (i := 9) (N := some 14) (bm 10 1023) HT_ ?_
    refine done_ (done_of HT_.out qz) ?_
    try go_wp2
    have n0_ := am (below_drew1 HB.out)
    clear HB
    have HB := n0_
    clear n0_
    have p603 : 0 ≤ (a2 : Int) := az
    have q603 : a2 < (l0.length : Int) := az
    obtain ⟨ad603, A603_0, c603_0, A603_1, c603_1, e603, hx603_0, hx603_1, hl603_0, hi603_0, hl603_1, hi603_1⟩ := at_T43 HR0.out a2 p603 q603
    have hw603_1 := hx603_1
    have hw603_0 := hx603_0
    cases e603
    replace hx603_0 := cb HB.out hx603_0
    replace hx603_1 := cb HB.out hx603_1
    have HR603_0 := am hi603_0
    have HC603_0 := am hl603_0
    clear hi603_0 hl603_0
    have HR603_1 := am hi603_1
    have HC603_1 := am hl603_1
    clear hi603_1 hl603_1
    replace p603 := eq_true p603
    replace q603 := eq_true q603
    have p604 : 0 ≤ (a4 : Int) := az
    have q604 : a4 < (((rd_T43 l0 a2).f0).length : Int) := az
    obtain ⟨ad604, e604, hx604_0, hx604_1, _, _, _, _, _, _, _, _, _, _, _, _, _, _, _, _, _, _, _, _⟩ := at_T54 HR603_0.out a4 p604 q604
    have hw604_1 := hx604_1
    have hw604_0 := hx604_0
    cases e604
    replace hx604_0 := cb HB.out hx604_0
    replace hx604_1 := cb HB.out hx604_1
    replace p604 := eq_true p604
    replace q604 := eq_true q604
    have p605 : 0 ≤ (a2 : Int) := az
    have q605 : a2 < (l0.length : Int) := az
    obtain ⟨ad605, A605_0, c605_0, A605_1, c605_1, e605, hx605_0, hx605_1, hl605_0, hi605_0, hl605_1, hi605_1⟩ := at_T43 HR0.out a2 p605 q605
    have hw605_1 := hx605_1
    have hw605_0 := hx605_0
    obtain rfl : ad603 = ad605 := (by injection e605)
    replace hx605_0 := cb HB.out hx605_0
    replace hx605_1 := cb HB.out hx605_1
    have HR605_0 := am hi605_0
    have HC605_0 := am hl605_0
    clear hi605_0 hl605_0
    have HR605_1 := am hi605_1
    have HC605_1 := am hl605_1
    clear hi605_1 hl605_1
    replace p605 := eq_true p605
    replace q605 := eq_true q605
    have ea_ := Option.some.inj (hx603_0.symm.trans hx605_0)
    injection ea_ with ea_ en_ ec_
    subst ea_
    subst ec_
    clear en_
    have ea_ := Option.some.inj (hx603_1.symm.trans hx605_1)
    injection ea_ with ea_ en_ ec_
    subst ea_
    subst ec_
    clear en_
    have p606 : 0 ≤ ((ji66) : Int) := az
    have q606 : (ji66) < (((rd_T43 l0 a2).f0).length : Int) := az
    obtain ⟨ad606, e606, hx606_0, hx606_1, _, _, _, _, _, _, _, _, _, _, _, _, _, _, _, _, _, _, _, _⟩ := at_T54 HR605_0.out (ji66) p606 q606
    have hw606_1 := hx606_1
    have hw606_0 := hx606_0
    cases e606
    replace hx606_0 := cb HB.out hx606_0
    replace hx606_1 := cb HB.out hx606_1
    replace p606 := eq_true p606
    replace q606 := eq_true q606
    refine start_ (n := 23) (S := fun w' => w'.cell? (ad603.add ((a2).toNat * 2)) = some (.slice (some ad604) ((rd_T43 l0 a2).f0).length c603_0) ∧ w'.cell? ⟨(ad603.add ((a2).toNat * 2)).block, (ad603.add ((a2).toNat * 2)).off + 1, none⟩ = some (.slice A603_1 ((rd_T43 l0 a2).f1).length c603_1) ∧ w'.cell? (ad604.add ((a4).toNat * 22)) = some (.int .i64 ((rd_T54 ((rd_T43 l0 a2).f0) a4).f0.f0)) ∧ w'.cell? ⟨(ad604.add ((a4).toNat * 22)).block, (ad604.add ((a4).toNat * 22)).off + 1, none⟩ = some (.int .i64 ((rd_T54 ((rd_T43 l0 a2).f0) a4).f0.f1)) ∧ w'.cell? (ad603.add ((a2).toNat * 2)) = some (.slice (some ad604) ((rd_T43 l0 a2).f0).length c603_0) ∧ w'.cell? ⟨(ad603.add ((a2).toNat * 2)).block, (ad603.add ((a2).toNat * 2)).off + 1, none⟩ = some (.slice A603_1 ((rd_T43 l0 a2).f1).length c603_1) ∧ w'.cell? (ad604.add (((ji66)).toNat * 22)) = some (.int .i64 ((rd_T54 ((rd_T43 l0 a2).f0) (ji66)).f0.f0)) ∧ w'.cell? ⟨(ad604.add (((ji66)).toNat * 22)).block, (ad604.add (((ji66)).toNat * 22)).off + 1, none⟩ = some (.int .i64 ((rd_T54 ((rd_T43 l0 a2).f0) (ji66)).f0.f1))) (ds := []) (bm 23 0) qz rfl rfl ⟨(cb HB.out hw603_0), (cb HB.out hw603_1), (cb HB.out hw604_0), (cb HB.out hw604_1), (cb HB.out hw605_0), (cb HB.out hw605_1), (cb HB.out hw606_0), (cb HB.out hw606_1)⟩ (fun hHeld => ?_); refine with_tabW dancestudiolaw44_near.tab4 dancestudiolaw44_near.bits4 (fun HT_ HW_ => ?_)
    generalize w74.drew = w75 at HB HR603_0 HR603_1 HR605_0 HR605_1 hx603_0 hx603_1 hx604_0 hx604_1 hx605_0 hx605_1 hx606_0 hx606_1 hHeld ⊢
    refine pa (i := 0) (N := some 32) (bm 23 1) HT_ ?_
    refine pa (i := 1) (N := some 33) (bm 23 3) HT_ ?_
    refine pa (i := 2) (N := some 34) (bm 23 7) HT_ ?_
    refine pa (i := 3) (N := some 35) (bm 23 15) HT_ ?_
    refine pa (i := 5) (N := some 37) (bm 23 47) HT_ ?_
    refine pa (i := 9) (N := some 41) (bm 23 559) HT_ ?_
    refine pa (i := 10) (N := some 42) (bm 23 1583) HT_ ?_
    refine pa (i := 11) (N := some 43) (bm 23 3631) HT_ ?_
    refine pa (i := 12) (N := some 44) (bm 23 7727) HT_ ?_
    refine pa (i := 14) (N := some 46) (bm 23 24111) HT_ ?_
    refine pa (i := 15) (N := some 47) (bm 23 56879) HT_ ?_
    refine pa (i := 19) (N := some 51) (bm 23 581167) HT_ ?_
    refine take_ (i := 4) (N := some 36) (v := ?_) (a' := ?_) (bm 23 581183) rfl rfl (take_ofW HT_.out HW_.out qz) iz (Or.inl ⟨by rfl, ?_⟩) hHeld ?_ ?_
    rotate_left
    ·
     rintro w' ⟨s0, s1, s2, s3, s4, s5, s6, s7⟩
     go_simp
     with_reducible rfl
    rotate_left
    ·
     simp only [Act.put, aS, lZ, lS, i64_w, i32_w]
     rfl
    refine pa (i := 6) (N := some 38) (bm 23 581247) HT_ ?_
    refine pa (i := 7) (N := some 39) (bm 23 581375) HT_ ?_
    refine take_ (i := 8) (N := some 40) (v := ?_) (a' := ?_) (bm 23 581631) rfl rfl (take_ofW HT_.out HW_.out qz) iz (Or.inl ⟨by rfl, ?_⟩) hHeld ?_ ?_
    rotate_left
    ·
     rintro w' ⟨s0, s1, s2, s3, s4, s5, s6, s7⟩
     go_simp
     with_reducible rfl
    rotate_left
    ·
     simp only [Act.put, aS, lZ, lS, i64_w, i32_w]
     rfl
    refine take_ (i := 13) (N := some 45) (v := ?_) (a' := ?_) (bm 23 589823) rfl rfl (take_ofW HT_.out HW_.out qz) iz (Or.inl ⟨by rfl, ?_⟩) hHeld ?_ ?_
    rotate_left
    ·
     rintro w' ⟨s0, s1, s2, s3, s4, s5, s6, s7⟩
     go_simp
     with_reducible rfl
    rotate_left
    ·
     simp only [Act.put, aS, lZ, lS, i64_w, i32_w]
     rfl
    refine pa (i := 16) (N := some 48) (bm 23 655359) HT_ ?_
    refine pa (i := 17) (N := some 49) (bm 23 786431) HT_ ?_
    refine take_ (i := 18) (N := some 50) (v := ?_) (a' := ?_) (bm 23 1048575) rfl rfl (take_ofW HT_.out HW_.out qz) iz (Or.inl ⟨by rfl, ?_⟩) hHeld ?_ ?_
    rotate_left
    ·
     rintro w' ⟨s0, s1, s2, s3, s4, s5, s6, s7⟩
     go_simp
     with_reducible rfl
    rotate_left
    ·
     simp only [Act.put, aS, lZ, lS, i64_w, i32_w]
     rfl
    refine pa (i := 20) (N := some 52) (bm 23 2097151) HT_ ?_
    refine one_ (i := 21) (N := some 15) (bm 23 4194303) rfl rfl (one_of HT_.out qz) (by decide) (fun K hK => ?_)
    refine box_step ?hg (N := 15) ?hd (cs := #[.int .i64 0, .int .i64 0, .int .i64 0, .int .i64 0, .int .i64 0]) (t := 72) ?hr ?_; (case hd => rfl); (case hg => rfl); (case hr => first | (go_simp; done) | (go_simp; rfl))
    intro gb607 hg w76 hbox hb
    have n0_ := am (below_step bz hb)
    have n1_ := am (hbox)
    have n2_ := gwz (g := gb607) HB hg
    have n3_ := gwz (g := gb607) HB hg
    clear HB
    have HB := n0_
    have BK607 := n1_
    have GW607 := n2_
    have GE607 := n3_
    clear n0_ n1_ n2_ n3_
    clear hb hbox hg
    refine hK.out _ _ ⟨(cb HB.out hw603_0), (cb HB.out hw603_1), (cb HB.out hw604_0), (cb HB.out hw604_1), (cb HB.out hw605_0), (cb HB.out hw605_1), (cb HB.out hw606_0), (cb HB.out hw606_1)⟩ (fun hHeld => ?_)
    clear hK K
    refine norm_ (a' := ?_) ?_ ?_
    rotate_left
    ·
     show Act.put _ (some 15) _ = _
     simp only [Act.put, aS, lZ, lS, i64_w, i32_w]
     rfl
    refine one_ (i := 22) (N := none) (bm 23 8388607) rfl rfl (one_of HT_.out qz) (by decide) (fun K hK => ?_)
    have hs77 : w76.cell? ⟨gb607, 0, none⟩ = some (.int .i64 0) := (blk_cell BK607.out 0).trans rfl
    have hfs77 := blk_frozen BK607.out 0
    have hs78 : w76.cell? ⟨gb607, 1, none⟩ = some (.int .i64 0) := (blk_cell BK607.out 1).trans rfl
    have hfs78 := blk_frozen BK607.out 1
    have hs79 : w76.cell? ⟨gb607, 2, none⟩ = some (.int .i64 0) := (blk_cell BK607.out 2).trans rfl
    have hfs79 := blk_frozen BK607.out 2
    have hs80 : w76.cell? ⟨gb607, 3, none⟩ = some (.int .i64 0) := (blk_cell BK607.out 3).trans rfl
    have hfs80 := blk_frozen BK607.out 3
    have hs81 : w76.cell? ⟨gb607, 4, none⟩ = some (.int .i64 0) := (blk_cell BK607.out 4).trans rfl
    have hfs81 := blk_frozen BK607.out 4
    refine skip_ (w1 := ?_) (by rfl) rfl ?_ ?_
    rotate_left
    ·
     go_simp
     rfl
    refine hK.out _ _ ⟨((cell_far (p := ⟨gb607, _, none⟩) (by first | exact nb hw603_0 GW607.out | exact nc hw603_0 GW607.out | exact nd hw603_0 GW607.out) _).trans (((cell_far (p := ⟨gb607, _, none⟩) (by first | exact nb hw603_0 GW607.out | exact nc hw603_0 GW607.out | exact nd hw603_0 GW607.out) _).trans (((cell_far (p := ⟨gb607, _, none⟩) (by first | exact nb hw603_0 GW607.out | exact nc hw603_0 GW607.out | exact nd hw603_0 GW607.out) _).trans (((cell_far (p := ⟨gb607, _, none⟩) (by first | exact nb hw603_0 GW607.out | exact nc hw603_0 GW607.out | exact nd hw603_0 GW607.out) _).trans (((cell_far (p := ⟨gb607, _, none⟩) (by first | exact nb hw603_0 GW607.out | exact nc hw603_0 GW607.out | exact nd hw603_0 GW607.out) _).trans (hHeld.1)))))))))), ((cell_far (p := ⟨gb607, _, none⟩) (by first | exact nb hw603_1 GW607.out | exact nc hw603_1 GW607.out | exact nd hw603_1 GW607.out) _).trans (((cell_far (p := ⟨gb607, _, none⟩) (by first | exact nb hw603_1 GW607.out | exact nc hw603_1 GW607.out | exact nd hw603_1 GW607.out) _).trans (((cell_far (p := ⟨gb607, _, none⟩) (by first | exact nb hw603_1 GW607.out | exact nc hw603_1 GW607.out | exact nd hw603_1 GW607.out) _).trans (((cell_far (p := ⟨gb607, _, none⟩) (by first | exact nb hw603_1 GW607.out | exact nc hw603_1 GW607.out | exact nd hw603_1 GW607.out) _).trans (((cell_far (p := ⟨gb607, _, none⟩) (by first | exact nb hw603_1 GW607.out | exact nc hw603_1 GW607.out | exact nd hw603_1 GW607.out) _).trans (hHeld.2.1)))))))))), ((cell_far (p := ⟨gb607, _, none⟩) (by first | exact nb hw604_0 GW607.out | exact nc hw604_0 GW607.out | exact nd hw604_0 GW607.out) _).trans (((cell_far (p := ⟨gb607, _, none⟩) (by first | exact nb hw604_0 GW607.out | exact nc hw604_0 GW607.out | exact nd hw604_0 GW607.out) _).trans (((cell_far (p := ⟨gb607, _, none⟩) (by first | exact nb hw604_0 GW607.out | exact nc hw604_0 GW607.out | exact nd hw604_0 GW607.out) _).trans (((cell_far (p := ⟨gb607, _, none⟩) (by first | exact nb hw604_0 GW607.out | exact nc hw604_0 GW607.out | exact nd hw604_0 GW607.out) _).trans (((cell_far (p := ⟨gb607, _, none⟩) (by first | exact nb hw604_0 GW607.out | exact nc hw604_0 GW607.out | exact nd hw604_0 GW607.out) _).trans (hHeld.2.2.1)))))))))), ((cell_far (p := ⟨gb607, _, none⟩) (by first | exact nb hw604_1 GW607.out | exact nc hw604_1 GW607.out | exact nd hw604_1 GW607.out) _).trans (((cell_far (p := ⟨gb607, _, none⟩) (by first | exact nb hw604_1 GW607.out | exact nc hw604_1 GW607.out | exact nd hw604_1 GW607.out) _).trans (((cell_far (p := ⟨gb607, _, none⟩) (by first | exact nb hw604_1 GW607.out | exact nc hw604_1 GW607.out | exact nd hw604_1 GW607.out) _).trans (((cell_far (p := ⟨gb607, _, none⟩) (by first | exact nb hw604_1 GW607.out | exact nc hw604_1 GW607.out | exact nd hw604_1 GW607.out) _).trans (((cell_far (p := ⟨gb607, _, none⟩) (by first | exact nb hw604_1 GW607.out | exact nc hw604_1 GW607.out | exact nd hw604_1 GW607.out) _).trans (hHeld.2.2.2.1)))))))))), ((cell_far (p := ⟨gb607, _, none⟩) (by first | exact nb hw605_0 GW607.out | exact nc hw605_0 GW607.out | exact nd hw605_0 GW607.out) _).trans (((cell_far (p := ⟨gb607, _, none⟩) (by first | exact nb hw605_0 GW607.out | exact nc hw605_0 GW607.out | exact nd hw605_0 GW607.out) _).trans (((cell_far (p := ⟨gb607, _, none⟩) (by first | exact nb hw605_0 GW607.out | exact nc hw605_0 GW607.out | exact nd hw605_0 GW607.out) _).trans (((cell_far (p := ⟨gb607, _, none⟩) (by first | exact nb hw605_0 GW607.out | exact nc hw605_0 GW607.out | exact nd hw605_0 GW607.out) _).trans (((cell_far (p := ⟨gb607, _, none⟩) (by first | exact nb hw605_0 GW607.out | exact nc hw605_0 GW607.out | exact nd hw605_0 GW607.out) _).trans (hHeld.2.2.2.2.1)))))))))), ((cell_far (p := ⟨gb607, _, none⟩) (by first | exact nb hw605_1 GW607.out | exact nc hw605_1 GW607.out | exact nd hw605_1 GW607.out) _).trans (((cell_far (p := ⟨gb607, _, none⟩) (by first | exact nb hw605_1 GW607.out | exact nc hw605_1 GW607.out | exact nd hw605_1 GW607.out) _).trans (((cell_far (p := ⟨gb607, _, none⟩) (by first | exact nb hw605_1 GW607.out | exact nc hw605_1 GW607.out | exact nd hw605_1 GW607.out) _).trans (((cell_far (p := ⟨gb607, _, none⟩) (by first | exact nb hw605_1 GW607.out | exact nc hw605_1 GW607.out | exact nd hw605_1 GW607.out) _).trans (((cell_far (p := ⟨gb607, _, none⟩) (by first | exact nb hw605_1 GW607.out | exact nc hw605_1 GW607.out | exact nd hw605_1 GW607.out) _).trans (hHeld.2.2.2.2.2.1)))))))))), ((cell_far (p := ⟨gb607, _, none⟩) (by first | exact nb hw606_0 GW607.out | exact nc hw606_0 GW607.out | exact nd hw606_0 GW607.out) _).trans (((cell_far (p := ⟨gb607, _, none⟩) (by first | exact nb hw606_0 GW607.out | exact nc hw606_0 GW607.out | exact nd hw606_0 GW607.out) _).trans (((cell_far (p := ⟨gb607, _, none⟩) (by first | exact nb hw606_0 GW607.out | exact nc hw606_0 GW607.out | exact nd hw606_0 GW607.out) _).trans (((cell_far (p := ⟨gb607, _, none⟩) (by first | exact nb hw606_0 GW607.out | exact nc hw606_0 GW607.out | exact nd hw606_0 GW607.out) _).trans (((cell_far (p := ⟨gb607, _, none⟩) (by first | exact nb hw606_0 GW607.out | exact nc hw606_0 GW607.out | exact nd hw606_0 GW607.out) _).trans (hHeld.2.2.2.2.2.2.1)))))))))), ((cell_far (p := ⟨gb607, _, none⟩) (by first | exact nb hw606_1 GW607.out | exact nc hw606_1 GW607.out | exact nd hw606_1 GW607.out) _).trans (((cell_far (p := ⟨gb607, _, none⟩) (by first | exact nb hw606_1 GW607.out | exact nc hw606_1 GW607.out | exact nd hw606_1 GW607.out) _).trans (((cell_far (p := ⟨gb607, _, none⟩) (by first | exact nb hw606_1 GW607.out | exact nc hw606_1 GW607.out | exact nd hw606_1 GW607.out) _).trans (((cell_far (p := ⟨gb607, _, none⟩) (by first | exact nb hw606_1 GW607.out | exact nc hw606_1 GW607.out | exact nd hw606_1 GW607.out) _).trans (((cell_far (p := ⟨gb607, _, none⟩) (by first | exact nb hw606_1 GW607.out | exact nc hw606_1 GW607.out | exact nd hw606_1 GW607.out) _).trans (hHeld.2.2.2.2.2.2.2))))))))))⟩ (fun hHeld => ?_)
    clear hK K
    refine done_ (done_of HT_.out qz) ?_
    try go_wp2
    have n0_ : Aside0 ((((((w76.setCell ⟨gb607, 0, none⟩ (.int .i64 ((rd_T54 ((rd_T43 l0 a2).f0) a4).f0.f0))).setCell ⟨gb607, 1, none⟩ (.int .i64 ((rd_T54 ((rd_T43 l0 a2).f0) a4).f0.f1))).setCell ⟨gb607, 2, none⟩ (.int .i64 ((rd_T54 ((rd_T43 l0 a2).f0) (ji66)).f0.f0))).setCell ⟨gb607, 3, none⟩ (.int .i64 ((rd_T54 ((rd_T43 l0 a2).f0) (ji66)).f0.f1))).setCell ⟨gb607, 4, none⟩ (.int .i64 (rd l1 a2))).heap[gb607]? = some (.cells #[.int .i64 ((rd_T54 ((rd_T43 l0 a2).f0) a4).f0.f0), .int .i64 ((rd_T54 ((rd_T43 l0 a2).f0) a4).f0.f1), .int .i64 ((rd_T54 ((rd_T43 l0 a2).f0) (ji66)).f0.f0), .int .i64 ((rd_T54 ((rd_T43 l0 a2).f0) (ji66)).f0.f1), .int .i64 (rd l1 a2)] 72 (0, 0))) := ⟨by (with_reducible repeat first | apply kN | apply kD | apply kA); refine blk_put (cs := #[.int .i64 ((rd_T54 ((rd_T43 l0 a2).f0) a4).f0.f0), .int .i64 ((rd_T54 ((rd_T43 l0 a2).f0) a4).f0.f1), .int .i64 ((rd_T54 ((rd_T43 l0 a2).f0) (ji66)).f0.f0), .int .i64 ((rd_T54 ((rd_T43 l0 a2).f0) (ji66)).f0.f1), .int .i64 0]) ?_ 4 _ rfl; (with_reducible repeat first | apply kN | apply kD | apply kA); refine blk_put (cs := #[.int .i64 ((rd_T54 ((rd_T43 l0 a2).f0) a4).f0.f0), .int .i64 ((rd_T54 ((rd_T43 l0 a2).f0) a4).f0.f1), .int .i64 ((rd_T54 ((rd_T43 l0 a2).f0) (ji66)).f0.f0), .int .i64 0, .int .i64 0]) ?_ 3 _ rfl; (with_reducible repeat first | apply kN | apply kD | apply kA); refine blk_put (cs := #[.int .i64 ((rd_T54 ((rd_T43 l0 a2).f0) a4).f0.f0), .int .i64 ((rd_T54 ((rd_T43 l0 a2).f0) a4).f0.f1), .int .i64 0, .int .i64 0, .int .i64 0]) ?_ 2 _ rfl; (with_reducible repeat first | apply kN | apply kD | apply kA); refine blk_put (cs := #[.int .i64 ((rd_T54 ((rd_T43 l0 a2).f0) a4).f0.f0), .int .i64 0, .int .i64 0, .int .i64 0, .int .i64 0]) ?_ 1 _ rfl; (with_reducible repeat first | apply kN | apply kD | apply kA); refine blk_put (cs := #[.int .i64 0, .int .i64 0, .int .i64 0, .int .i64 0, .int .i64 0]) ?_ 0 _ rfl; (with_reducible repeat first | apply kN | apply kD | apply kA); exact BK607.out⟩
    have n1_ : Aside0 (Below w.heap.size w (((((w76.setCell ⟨gb607, 0, none⟩ (.int .i64 ((rd_T54 ((rd_T43 l0 a2).f0) a4).f0.f0))).setCell ⟨gb607, 1, none⟩ (.int .i64 ((rd_T54 ((rd_T43 l0 a2).f0) a4).f0.f1))).setCell ⟨gb607, 2, none⟩ (.int .i64 ((rd_T54 ((rd_T43 l0 a2).f0) (ji66)).f0.f0))).setCell ⟨gb607, 3, none⟩ (.int .i64 ((rd_T54 ((rd_T43 l0 a2).f0) (ji66)).f0.f1))).setCell ⟨gb607, 4, none⟩ (.int .i64 (rd l1 a2)))) := ⟨bz⟩
    (try clear BK607)
    (try clear HB)
    generalize (((((w76.setCell ⟨gb607, 0, none⟩ (.int .i64 ((rd_T54 ((rd_T43 l0 a2).f0) a4).f0.f0))).setCell ⟨gb607, 1, none⟩ (.int .i64 ((rd_T54 ((rd_T43 l0 a2).f0) a4).f0.f1))).setCell ⟨gb607, 2, none⟩ (.int .i64 ((rd_T54 ((rd_T43 l0 a2).f0) (ji66)).f0.f0))).setCell ⟨gb607, 3, none⟩ (.int .i64 ((rd_T54 ((rd_T43 l0 a2).f0) (ji66)).f0.f1))).setCell ⟨gb607, 4, none⟩ (.int .i64 (rd l1 a2))) = w82 at n0_ n1_ ⊢
    have BK607 := n0_
    have HB := n1_
    clear n0_ n1_
    have n0_ := am (blk_drew BK607.out)
    have n1_ := am (below_drew1 HB.out)
    clear BK607
    clear HB
    have BK607 := n0_
    have HB := n1_
    clear n0_ n1_
    have p608 : 0 ≤ (a3 : Int) := az
    have q608 : a3 < (l0.length : Int) := az
    obtain ⟨ad608, A608_0, c608_0, A608_1, c608_1, e608, hx608_0, hx608_1, hl608_0, hi608_0, hl608_1, hi608_1⟩ := at_T43 HR0.out a3 p608 q608
    have hw608_1 := hx608_1
    have hw608_0 := hx608_0
    obtain rfl : ad603 = ad608 := (by injection e608)
    replace hx608_0 := cb HB.out hx608_0
    replace hx608_1 := cb HB.out hx608_1
    have HR608_0 := am hi608_0
    have HC608_0 := am hl608_0
    clear hi608_0 hl608_0
    have HR608_1 := am hi608_1
    have HC608_1 := am hl608_1
    clear hi608_1 hl608_1
    replace p608 := eq_true p608
    replace q608 := eq_true q608
    have p609 : 0 ≤ (a4 : Int) := az
    have q609 : a4 < (((rd_T43 l0 a3).f0).length : Int) := az
    obtain ⟨ad609, e609, hx609_0, hx609_1, _, _, _, _, _, _, _, _, _, _, _, _, _, _, _, _, _, _, _, _⟩ := at_T54 HR608_0.out a4 p609 q609
    have hw609_1 := hx609_1
    have hw609_0 := hx609_0
    cases e609
    replace hx609_0 := cb HB.out hx609_0
    replace hx609_1 := cb HB.out hx609_1
    replace p609 := eq_true p609
    replace q609 := eq_true q609
    have p610 : 0 ≤ (a3 : Int) := az
    have q610 : a3 < (l0.length : Int) := az
    obtain ⟨ad610, A610_0, c610_0, A610_1, c610_1, e610, hx610_0, hx610_1, hl610_0, hi610_0, hl610_1, hi610_1⟩ := at_T43 HR0.out a3 p610 q610
    have hw610_1 := hx610_1
    have hw610_0 := hx610_0
    obtain rfl : ad603 = ad610 := (by injection e610)
    replace hx610_0 := cb HB.out hx610_0
    replace hx610_1 := cb HB.out hx610_1
    have HR610_0 := am hi610_0
    have HC610_0 := am hl610_0
    clear hi610_0 hl610_0
    have HR610_1 := am hi610_1
    have HC610_1 := am hl610_1
    clear hi610_1 hl610_1
    replace p610 := eq_true p610
    replace q610 := eq_true q610
    have ea_ := Option.some.inj (hx608_0.symm.trans hx610_0)
    injection ea_ with ea_ en_ ec_
    subst ea_
    subst ec_
    clear en_
    have ea_ := Option.some.inj (hx608_1.symm.trans hx610_1)
    injection ea_ with ea_ en_ ec_
    subst ea_
    subst ec_
    clear en_
    have p611 : 0 ≤ ((ji66) : Int) := az
    have q611 : (ji66) < (((rd_T43 l0 a3).f0).length : Int) := az
    obtain ⟨ad611, e611, hx611_0, hx611_1, _, _, _, _, _, _, _, _, _, _, _, _, _, _, _, _, _, _, _, _⟩ := at_T54 HR610_0.out (ji66) p611 q611
    have hw611_1 := hx611_1
    have hw611_0 := hx611_0
    cases e611
    replace hx611_0 := cb HB.out hx611_0
    replace hx611_1 := cb HB.out hx611_1
    replace p611 := eq_true p611
    replace q611 := eq_true q611
    refine start_ (n := 23) (S := fun w' => w'.cell? (ad603.add ((a3).toNat * 2)) = some (.slice (some ad609) ((rd_T43 l0 a3).f0).length c608_0) ∧ w'.cell? ⟨(ad603.add ((a3).toNat * 2)).block, (ad603.add ((a3).toNat * 2)).off + 1, none⟩ = some (.slice A608_1 ((rd_T43 l0 a3).f1).length c608_1) ∧ w'.cell? (ad609.add ((a4).toNat * 22)) = some (.int .i64 ((rd_T54 ((rd_T43 l0 a3).f0) a4).f0.f0)) ∧ w'.cell? ⟨(ad609.add ((a4).toNat * 22)).block, (ad609.add ((a4).toNat * 22)).off + 1, none⟩ = some (.int .i64 ((rd_T54 ((rd_T43 l0 a3).f0) a4).f0.f1)) ∧ w'.cell? (ad603.add ((a3).toNat * 2)) = some (.slice (some ad609) ((rd_T43 l0 a3).f0).length c608_0) ∧ w'.cell? ⟨(ad603.add ((a3).toNat * 2)).block, (ad603.add ((a3).toNat * 2)).off + 1, none⟩ = some (.slice A608_1 ((rd_T43 l0 a3).f1).length c608_1) ∧ w'.cell? (ad609.add (((ji66)).toNat * 22)) = some (.int .i64 ((rd_T54 ((rd_T43 l0 a3).f0) (ji66)).f0.f0)) ∧ w'.cell? ⟨(ad609.add (((ji66)).toNat * 22)).block, (ad609.add (((ji66)).toNat * 22)).off + 1, none⟩ = some (.int .i64 ((rd_T54 ((rd_T43 l0 a3).f0) (ji66)).f0.f1))) (ds := []) (bm 23 0) qz rfl rfl ⟨(cb HB.out hw608_0), (cb HB.out hw608_1), (cb HB.out hw609_0), (cb HB.out hw609_1), (cb HB.out hw610_0), (cb HB.out hw610_1), (cb HB.out hw611_0), (cb HB.out hw611_1)⟩ (fun hHeld => ?_); refine with_tabW dancestudiolaw44_near.tab5 dancestudiolaw44_near.bits5 (fun HT_ HW_ => ?_)
    generalize w82.drew = w83 at BK607 HB HR608_0 HR608_1 HR610_0 HR610_1 hx608_0 hx608_1 hx609_0 hx609_1 hx610_0 hx610_1 hx611_0 hx611_1 hHeld ⊢
    refine pa (i := 0) (N := some 53) (bm 23 1) HT_ ?_
    refine pa (i := 1) (N := some 54) (bm 23 3) HT_ ?_
    refine pa (i := 2) (N := some 55) (bm 23 7) HT_ ?_
    refine pa (i := 3) (N := some 56) (bm 23 15) HT_ ?_
    refine pa (i := 5) (N := some 58) (bm 23 47) HT_ ?_
    refine pa (i := 9) (N := some 62) (bm 23 559) HT_ ?_
    refine pa (i := 10) (N := some 63) (bm 23 1583) HT_ ?_
    refine pa (i := 11) (N := some 64) (bm 23 3631) HT_ ?_
    refine pa (i := 12) (N := some 65) (bm 23 7727) HT_ ?_
    refine pa (i := 14) (N := some 67) (bm 23 24111) HT_ ?_
    refine pa (i := 15) (N := some 68) (bm 23 56879) HT_ ?_
    refine pa (i := 19) (N := some 72) (bm 23 581167) HT_ ?_
    refine take_ (i := 4) (N := some 57) (v := ?_) (a' := ?_) (bm 23 581183) rfl rfl (take_ofW HT_.out HW_.out qz) iz (Or.inl ⟨by rfl, ?_⟩) hHeld ?_ ?_
    rotate_left
    ·
     rintro w' ⟨s0, s1, s2, s3, s4, s5, s6, s7⟩
     go_simp
     with_reducible rfl
    rotate_left
    ·
     simp only [Act.put, aS, lZ, lS, i64_w, i32_w]
     rfl
    refine pa (i := 6) (N := some 59) (bm 23 581247) HT_ ?_
    refine pa (i := 7) (N := some 60) (bm 23 581375) HT_ ?_
    refine take_ (i := 8) (N := some 61) (v := ?_) (a' := ?_) (bm 23 581631) rfl rfl (take_ofW HT_.out HW_.out qz) iz (Or.inl ⟨by rfl, ?_⟩) hHeld ?_ ?_
    rotate_left
    ·
     rintro w' ⟨s0, s1, s2, s3, s4, s5, s6, s7⟩
     go_simp
     with_reducible rfl
    rotate_left
    ·
     simp only [Act.put, aS, lZ, lS, i64_w, i32_w]
     rfl
    refine take_ (i := 13) (N := some 66) (v := ?_) (a' := ?_) (bm 23 589823) rfl rfl (take_ofW HT_.out HW_.out qz) iz (Or.inl ⟨by rfl, ?_⟩) hHeld ?_ ?_
    rotate_left
    ·
     rintro w' ⟨s0, s1, s2, s3, s4, s5, s6, s7⟩
     go_simp
     with_reducible rfl
    rotate_left
    ·
     simp only [Act.put, aS, lZ, lS, i64_w, i32_w]
     rfl
    refine pa (i := 16) (N := some 69) (bm 23 655359) HT_ ?_
    refine pa (i := 17) (N := some 70) (bm 23 786431) HT_ ?_
    refine take_ (i := 18) (N := some 71) (v := ?_) (a' := ?_) (bm 23 1048575) rfl rfl (take_ofW HT_.out HW_.out qz) iz (Or.inl ⟨by rfl, ?_⟩) hHeld ?_ ?_
    rotate_left
    ·
     rintro w' ⟨s0, s1, s2, s3, s4, s5, s6, s7⟩
     go_simp
     with_reducible rfl
    rotate_left
    ·
     simp only [Act.put, aS, lZ, lS, i64_w, i32_w]
     rfl
    refine pa (i := 20) (N := some 73) (bm 23 2097151) HT_ ?_
    refine one_ (i := 21) (N := some 16) (bm 23 4194303) rfl rfl (one_of HT_.out qz) (by decide) (fun K hK => ?_)
    refine box_step ?hg (N := 16) ?hd (cs := #[.int .i64 0, .int .i64 0, .int .i64 0, .int .i64 0, .int .i64 0]) (t := 72) ?hr ?_; (case hd => rfl); (case hg => rfl); (case hr => first | (go_simp; done) | (go_simp; rfl))
    intro gb612 hg w84 hbox hb
    have n0_ := am (blk_below (o := .cells #[.int .i64 ((rd_T54 ((rd_T43 l0 a2).f0) a4).f0.f0), .int .i64 ((rd_T54 ((rd_T43 l0 a2).f0) a4).f0.f1), .int .i64 ((rd_T54 ((rd_T43 l0 a2).f0) (ji66)).f0.f0), .int .i64 ((rd_T54 ((rd_T43 l0 a2).f0) (ji66)).f0.f1), .int .i64 (rd l1 a2)] 72 (0, 0)) (kz BK607) hb)
    have n1_ := am (below_step bz hb)
    have n2_ := am (hbox)
    have n3_ := gwz (g := gb612) HB hg
    have n4_ := gwz (g := gb612) HB hg
    have n5_ := nlt (g' := gb612) BK607 hg
    have n6_ := ngt (g' := gb612) BK607 hg
    clear BK607
    clear HB
    have BK607 := n0_
    have HB := n1_
    have BK612 := n2_
    have GW612 := n3_
    have GE612 := n4_
    have NB607_612 := n5_
    have NB612_607 := n6_
    clear n0_ n1_ n2_ n3_ n4_ n5_ n6_
    clear hb hbox hg
    refine hK.out _ _ ⟨(cb HB.out hw608_0), (cb HB.out hw608_1), (cb HB.out hw609_0), (cb HB.out hw609_1), (cb HB.out hw610_0), (cb HB.out hw610_1), (cb HB.out hw611_0), (cb HB.out hw611_1)⟩ (fun hHeld => ?_)
    clear hK K
    refine norm_ (a' := ?_) ?_ ?_
    rotate_left
    ·
     show Act.put _ (some 16) _ = _
     simp only [Act.put, aS, lZ, lS, i64_w, i32_w]
     rfl
    refine one_ (i := 22) (N := none) (bm 23 8388607) rfl rfl (one_of HT_.out qz) (by decide) (fun K hK => ?_)
    have hs85 : w84.cell? ⟨gb612, 0, none⟩ = some (.int .i64 0) := (blk_cell BK612.out 0).trans rfl
    have hfs85 := blk_frozen BK612.out 0
    have hns85_0 := NB607_612.out
    have hms85_0 := NB612_607.out
    have hs86 : w84.cell? ⟨gb612, 1, none⟩ = some (.int .i64 0) := (blk_cell BK612.out 1).trans rfl
    have hfs86 := blk_frozen BK612.out 1
    have hns86_0 := NB607_612.out
    have hms86_0 := NB612_607.out
    have hs87 : w84.cell? ⟨gb612, 2, none⟩ = some (.int .i64 0) := (blk_cell BK612.out 2).trans rfl
    have hfs87 := blk_frozen BK612.out 2
    have hns87_0 := NB607_612.out
    have hms87_0 := NB612_607.out
    have hs88 : w84.cell? ⟨gb612, 3, none⟩ = some (.int .i64 0) := (blk_cell BK612.out 3).trans rfl
    have hfs88 := blk_frozen BK612.out 3
    have hns88_0 := NB607_612.out
    have hms88_0 := NB612_607.out
    have hs89 : w84.cell? ⟨gb612, 4, none⟩ = some (.int .i64 0) := (blk_cell BK612.out 4).trans rfl
    have hfs89 := blk_frozen BK612.out 4
    have hns89_0 := NB607_612.out
    have hms89_0 := NB612_607.out
    refine skip_ (w1 := ?_) (by rfl) rfl ?_ ?_
    rotate_left
    ·
     go_simp
     rfl
    refine hK.out _ _ ⟨((cell_far (p := ⟨gb612, _, none⟩) (by first | exact nb hw608_0 GW612.out | exact nc hw608_0 GW612.out | exact nd hw608_0 GW612.out) _).trans (((cell_far (p := ⟨gb612, _, none⟩) (by first | exact nb hw608_0 GW612.out | exact nc hw608_0 GW612.out | exact nd hw608_0 GW612.out) _).trans (((cell_far (p := ⟨gb612, _, none⟩) (by first | exact nb hw608_0 GW612.out | exact nc hw608_0 GW612.out | exact nd hw608_0 GW612.out) _).trans (((cell_far (p := ⟨gb612, _, none⟩) (by first | exact nb hw608_0 GW612.out | exact nc hw608_0 GW612.out | exact nd hw608_0 GW612.out) _).trans (((cell_far (p := ⟨gb612, _, none⟩) (by first | exact nb hw608_0 GW612.out | exact nc hw608_0 GW612.out | exact nd hw608_0 GW612.out) _).trans (hHeld.1)))))))))), ((cell_far (p := ⟨gb612, _, none⟩) (by first | exact nb hw608_1 GW612.out | exact nc hw608_1 GW612.out | exact nd hw608_1 GW612.out) _).trans (((cell_far (p := ⟨gb612, _, none⟩) (by first | exact nb hw608_1 GW612.out | exact nc hw608_1 GW612.out | exact nd hw608_1 GW612.out) _).trans (((cell_far (p := ⟨gb612, _, none⟩) (by first | exact nb hw608_1 GW612.out | exact nc hw608_1 GW612.out | exact nd hw608_1 GW612.out) _).trans (((cell_far (p := ⟨gb612, _, none⟩) (by first | exact nb hw608_1 GW612.out | exact nc hw608_1 GW612.out | exact nd hw608_1 GW612.out) _).trans (((cell_far (p := ⟨gb612, _, none⟩) (by first | exact nb hw608_1 GW612.out | exact nc hw608_1 GW612.out | exact nd hw608_1 GW612.out) _).trans (hHeld.2.1)))))))))), ((cell_far (p := ⟨gb612, _, none⟩) (by first | exact nb hw609_0 GW612.out | exact nc hw609_0 GW612.out | exact nd hw609_0 GW612.out) _).trans (((cell_far (p := ⟨gb612, _, none⟩) (by first | exact nb hw609_0 GW612.out | exact nc hw609_0 GW612.out | exact nd hw609_0 GW612.out) _).trans (((cell_far (p := ⟨gb612, _, none⟩) (by first | exact nb hw609_0 GW612.out | exact nc hw609_0 GW612.out | exact nd hw609_0 GW612.out) _).trans (((cell_far (p := ⟨gb612, _, none⟩) (by first | exact nb hw609_0 GW612.out | exact nc hw609_0 GW612.out | exact nd hw609_0 GW612.out) _).trans (((cell_far (p := ⟨gb612, _, none⟩) (by first | exact nb hw609_0 GW612.out | exact nc hw609_0 GW612.out | exact nd hw609_0 GW612.out) _).trans (hHeld.2.2.1)))))))))), ((cell_far (p := ⟨gb612, _, none⟩) (by first | exact nb hw609_1 GW612.out | exact nc hw609_1 GW612.out | exact nd hw609_1 GW612.out) _).trans (((cell_far (p := ⟨gb612, _, none⟩) (by first | exact nb hw609_1 GW612.out | exact nc hw609_1 GW612.out | exact nd hw609_1 GW612.out) _).trans (((cell_far (p := ⟨gb612, _, none⟩) (by first | exact nb hw609_1 GW612.out | exact nc hw609_1 GW612.out | exact nd hw609_1 GW612.out) _).trans (((cell_far (p := ⟨gb612, _, none⟩) (by first | exact nb hw609_1 GW612.out | exact nc hw609_1 GW612.out | exact nd hw609_1 GW612.out) _).trans (((cell_far (p := ⟨gb612, _, none⟩) (by first | exact nb hw609_1 GW612.out | exact nc hw609_1 GW612.out | exact nd hw609_1 GW612.out) _).trans (hHeld.2.2.2.1)))))))))), ((cell_far (p := ⟨gb612, _, none⟩) (by first | exact nb hw610_0 GW612.out | exact nc hw610_0 GW612.out | exact nd hw610_0 GW612.out) _).trans (((cell_far (p := ⟨gb612, _, none⟩) (by first | exact nb hw610_0 GW612.out | exact nc hw610_0 GW612.out | exact nd hw610_0 GW612.out) _).trans (((cell_far (p := ⟨gb612, _, none⟩) (by first | exact nb hw610_0 GW612.out | exact nc hw610_0 GW612.out | exact nd hw610_0 GW612.out) _).trans (((cell_far (p := ⟨gb612, _, none⟩) (by first | exact nb hw610_0 GW612.out | exact nc hw610_0 GW612.out | exact nd hw610_0 GW612.out) _).trans (((cell_far (p := ⟨gb612, _, none⟩) (by first | exact nb hw610_0 GW612.out | exact nc hw610_0 GW612.out | exact nd hw610_0 GW612.out) _).trans (hHeld.2.2.2.2.1)))))))))), ((cell_far (p := ⟨gb612, _, none⟩) (by first | exact nb hw610_1 GW612.out | exact nc hw610_1 GW612.out | exact nd hw610_1 GW612.out) _).trans (((cell_far (p := ⟨gb612, _, none⟩) (by first | exact nb hw610_1 GW612.out | exact nc hw610_1 GW612.out | exact nd hw610_1 GW612.out) _).trans (((cell_far (p := ⟨gb612, _, none⟩) (by first | exact nb hw610_1 GW612.out | exact nc hw610_1 GW612.out | exact nd hw610_1 GW612.out) _).trans (((cell_far (p := ⟨gb612, _, none⟩) (by first | exact nb hw610_1 GW612.out | exact nc hw610_1 GW612.out | exact nd hw610_1 GW612.out) _).trans (((cell_far (p := ⟨gb612, _, none⟩) (by first | exact nb hw610_1 GW612.out | exact nc hw610_1 GW612.out | exact nd hw610_1 GW612.out) _).trans (hHeld.2.2.2.2.2.1)))))))))), ((cell_far (p := ⟨gb612, _, none⟩) (by first | exact nb hw611_0 GW612.out | exact nc hw611_0 GW612.out | exact nd hw611_0 GW612.out) _).trans (((cell_far (p := ⟨gb612, _, none⟩) (by first | exact nb hw611_0 GW612.out | exact nc hw611_0 GW612.out | exact nd hw611_0 GW612.out) _).trans (((cell_far (p := ⟨gb612, _, none⟩) (by first | exact nb hw611_0 GW612.out | exact nc hw611_0 GW612.out | exact nd hw611_0 GW612.out) _).trans (((cell_far (p := ⟨gb612, _, none⟩) (by first | exact nb hw611_0 GW612.out | exact nc hw611_0 GW612.out | exact nd hw611_0 GW612.out) _).trans (((cell_far (p := ⟨gb612, _, none⟩) (by first | exact nb hw611_0 GW612.out | exact nc hw611_0 GW612.out | exact nd hw611_0 GW612.out) _).trans (hHeld.2.2.2.2.2.2.1)))))))))), ((cell_far (p := ⟨gb612, _, none⟩) (by first | exact nb hw611_1 GW612.out | exact nc hw611_1 GW612.out | exact nd hw611_1 GW612.out) _).trans (((cell_far (p := ⟨gb612, _, none⟩) (by first | exact nb hw611_1 GW612.out | exact nc hw611_1 GW612.out | exact nd hw611_1 GW612.out) _).trans (((cell_far (p := ⟨gb612, _, none⟩) (by first | exact nb hw611_1 GW612.out | exact nc hw611_1 GW612.out | exact nd hw611_1 GW612.out) _).trans (((cell_far (p := ⟨gb612, _, none⟩) (by first | exact nb hw611_1 GW612.out | exact nc hw611_1 GW612.out | exact nd hw611_1 GW612.out) _).trans (((cell_far (p := ⟨gb612, _, none⟩) (by first | exact nb hw611_1 GW612.out | exact nc hw611_1 GW612.out | exact nd hw611_1 GW612.out) _).trans (hHeld.2.2.2.2.2.2.2))))))))))⟩ (fun hHeld => ?_)
    clear hK K
    refine done_ (done_of HT_.out qz) ?_
    have hnb90 := NB607_612.out
    have hnc90 := NB612_607.out
    obtain ⟨hcz91_0, hcz91_1, hcz91_2, hcz91_3, hcz91_4, hfz91_0, hfz91_1, hfz91_2, hfz91_3, hfz91_4⟩ := kc5 BK607.out
    obtain ⟨hcz92_0, hcz92_1, hcz92_2, hcz92_3, hcz92_4, hfz92_0, hfz92_1, hfz92_2, hfz92_3, hfz92_4⟩ := kc5 BK612.out
    first
    | (have _ := tw2a
       try go_wp2_with (first | ((with_reducible refine gate_callee (f := 37) rfl ?_); refine goesL_ (some 77) rfl rfl Try.func37 qz rfl #[.agg #[.int .i64 ((rd_T54 ((rd_T43 l0 a2).f0) a4).f0.f0), .int .i64 ((rd_T54 ((rd_T43 l0 a2).f0) a4).f0.f1), .int .i64 ((rd_T54 ((rd_T43 l0 a2).f0) (ji66)).f0.f0), .int .i64 ((rd_T54 ((rd_T43 l0 a2).f0) (ji66)).f0.f1), .int .i64 (rd l1 a2)], .agg #[.int .i64 ((rd_T54 ((rd_T43 l0 a3).f0) a4).f0.f0), .int .i64 ((rd_T54 ((rd_T43 l0 a3).f0) a4).f0.f1), .int .i64 ((rd_T54 ((rd_T43 l0 a3).f0) (ji66)).f0.f0), .int .i64 ((rd_T54 ((rd_T43 l0 a3).f0) (ji66)).f0.f1), .int .i64 (rd l1 a3)]] rfl (by (try simp only [List.map_toArray, List.map_cons, List.map_nil]); first | done | (simp only [hji66]; rfl) | rfl | (simp only [List.length_drop, List.length_take]; rfl)) ?_; (with_reducible refine (geom_Touch.calls k ((rd_T54 ((rd_T43 l0 a2).f0) a4).f0.f0) ((rd_T54 ((rd_T43 l0 a2).f0) a4).f0.f1) ((rd_T54 ((rd_T43 l0 a2).f0) (ji66)).f0.f0) ((rd_T54 ((rd_T43 l0 a2).f0) (ji66)).f0.f1) (rd l1 a2) ((rd_T54 ((rd_T43 l0 a3).f0) a4).f0.f0) ((rd_T54 ((rd_T43 l0 a3).f0) a4).f0.f1) ((rd_T54 ((rd_T43 l0 a3).f0) (ji66)).f0.f0) ((rd_T54 ((rd_T43 l0 a3).f0) (ji66)).f0.f1) (rd l1 a3) true t614 _ A72.out).mono ?_); rintro e w93 ⟨rfl, hb⟩; refine ⟨_, rfl, ?_⟩; replace BK607 := am (blk_below (o := .cells #[.int .i64 ((rd_T54 ((rd_T43 l0 a2).f0) a4).f0.f0), .int .i64 ((rd_T54 ((rd_T43 l0 a2).f0) a4).f0.f1), .int .i64 ((rd_T54 ((rd_T43 l0 a2).f0) (ji66)).f0.f0), .int .i64 ((rd_T54 ((rd_T43 l0 a2).f0) (ji66)).f0.f1), .int .i64 (rd l1 a2)] 72 (0, 0)) (by (with_reducible repeat first | apply kN | apply kD | apply kA); refine blk_far ?_ NB607_612.out _; (with_reducible repeat first | apply kN | apply kD | apply kA); refine blk_far ?_ NB607_612.out _; (with_reducible repeat first | apply kN | apply kD | apply kA); refine blk_far ?_ NB607_612.out _; (with_reducible repeat first | apply kN | apply kD | apply kA); refine blk_far ?_ NB607_612.out _; (with_reducible repeat first | apply kN | apply kD | apply kA); refine blk_far ?_ NB607_612.out _; (with_reducible repeat first | apply kN | apply kD | apply kA); exact BK607.out) hb); replace BK612 := am (blk_below (o := .cells #[.int .i64 ((rd_T54 ((rd_T43 l0 a3).f0) a4).f0.f0), .int .i64 ((rd_T54 ((rd_T43 l0 a3).f0) a4).f0.f1), .int .i64 ((rd_T54 ((rd_T43 l0 a3).f0) (ji66)).f0.f0), .int .i64 ((rd_T54 ((rd_T43 l0 a3).f0) (ji66)).f0.f1), .int .i64 (rd l1 a3)] 72 (0, 0)) (by (with_reducible repeat first | apply kN | apply kD | apply kA); refine blk_put (cs := #[.int .i64 ((rd_T54 ((rd_T43 l0 a3).f0) a4).f0.f0), .int .i64 ((rd_T54 ((rd_T43 l0 a3).f0) a4).f0.f1), .int .i64 ((rd_T54 ((rd_T43 l0 a3).f0) (ji66)).f0.f0), .int .i64 ((rd_T54 ((rd_T43 l0 a3).f0) (ji66)).f0.f1), .int .i64 0]) ?_ 4 _ rfl; (with_reducible repeat first | apply kN | apply kD | apply kA); refine blk_put (cs := #[.int .i64 ((rd_T54 ((rd_T43 l0 a3).f0) a4).f0.f0), .int .i64 ((rd_T54 ((rd_T43 l0 a3).f0) a4).f0.f1), .int .i64 ((rd_T54 ((rd_T43 l0 a3).f0) (ji66)).f0.f0), .int .i64 0, .int .i64 0]) ?_ 3 _ rfl; (with_reducible repeat first | apply kN | apply kD | apply kA); refine blk_put (cs := #[.int .i64 ((rd_T54 ((rd_T43 l0 a3).f0) a4).f0.f0), .int .i64 ((rd_T54 ((rd_T43 l0 a3).f0) a4).f0.f1), .int .i64 0, .int .i64 0, .int .i64 0]) ?_ 2 _ rfl; (with_reducible repeat first | apply kN | apply kD | apply kA); refine blk_put (cs := #[.int .i64 ((rd_T54 ((rd_T43 l0 a3).f0) a4).f0.f0), .int .i64 0, .int .i64 0, .int .i64 0, .int .i64 0]) ?_ 1 _ rfl; (with_reducible repeat first | apply kN | apply kD | apply kA); refine blk_put (cs := #[.int .i64 0, .int .i64 0, .int .i64 0, .int .i64 0, .int .i64 0]) ?_ 0 _ rfl; (with_reducible repeat first | apply kN | apply kD | apply kA); exact BK612.out) hb); replace HB := am (below_step bz hb); (try clear hb); (try clear hb2); (try clear hk); (try clear hi)))
       go_ret
       exact ⟨by first | rfl | (simp [errW_none, errW_some] <;> rfl) | (simp only [← hji66]; first | rfl | (simp [errW_none, errW_some] <;> rfl)) | (simp [*, errW_none, errW_some] <;> rfl), bz⟩)
    | (have _ := tw2b
       try go_wp2_with (first | ((with_reducible refine gate_callee (f := 37) rfl ?_); refine goesL_ (some 77) rfl rfl Try.func37 qz rfl #[.agg #[.int .i64 ((rd_T54 ((rd_T43 l0 a2).f0) a4).f0.f0), .int .i64 ((rd_T54 ((rd_T43 l0 a2).f0) a4).f0.f1), .int .i64 ((rd_T54 ((rd_T43 l0 a2).f0) (ji66)).f0.f0), .int .i64 ((rd_T54 ((rd_T43 l0 a2).f0) (ji66)).f0.f1), .int .i64 (rd l1 a2)], .agg #[.int .i64 ((rd_T54 ((rd_T43 l0 a3).f0) a4).f0.f0), .int .i64 ((rd_T54 ((rd_T43 l0 a3).f0) a4).f0.f1), .int .i64 ((rd_T54 ((rd_T43 l0 a3).f0) (ji66)).f0.f0), .int .i64 ((rd_T54 ((rd_T43 l0 a3).f0) (ji66)).f0.f1), .int .i64 (rd l1 a3)]] rfl (by (try simp only [List.map_toArray, List.map_cons, List.map_nil]); first | done | (simp only [hji66]; rfl) | rfl | (simp only [List.length_drop, List.length_take]; rfl)) ?_; (with_reducible refine (geom_Touch.calls k ((rd_T54 ((rd_T43 l0 a2).f0) a4).f0.f0) ((rd_T54 ((rd_T43 l0 a2).f0) a4).f0.f1) ((rd_T54 ((rd_T43 l0 a2).f0) (ji66)).f0.f0) ((rd_T54 ((rd_T43 l0 a2).f0) (ji66)).f0.f1) (rd l1 a2) ((rd_T54 ((rd_T43 l0 a3).f0) a4).f0.f0) ((rd_T54 ((rd_T43 l0 a3).f0) a4).f0.f1) ((rd_T54 ((rd_T43 l0 a3).f0) (ji66)).f0.f0) ((rd_T54 ((rd_T43 l0 a3).f0) (ji66)).f0.f1) (rd l1 a3) false t614 _ A72.out).mono ?_); rintro e w113 ⟨rfl, hb⟩; refine ⟨_, rfl, ?_⟩; replace BK607 := am (blk_below (o := .cells #[.int .i64 ((rd_T54 ((rd_T43 l0 a2).f0) a4).f0.f0), .int .i64 ((rd_T54 ((rd_T43 l0 a2).f0) a4).f0.f1), .int .i64 ((rd_T54 ((rd_T43 l0 a2).f0) (ji66)).f0.f0), .int .i64 ((rd_T54 ((rd_T43 l0 a2).f0) (ji66)).f0.f1), .int .i64 (rd l1 a2)] 72 (0, 0)) (by (with_reducible repeat first | apply kN | apply kD | apply kA); refine blk_far ?_ NB607_612.out _; (with_reducible repeat first | apply kN | apply kD | apply kA); refine blk_far ?_ NB607_612.out _; (with_reducible repeat first | apply kN | apply kD | apply kA); refine blk_far ?_ NB607_612.out _; (with_reducible repeat first | apply kN | apply kD | apply kA); refine blk_far ?_ NB607_612.out _; (with_reducible repeat first | apply kN | apply kD | apply kA); refine blk_far ?_ NB607_612.out _; (with_reducible repeat first | apply kN | apply kD | apply kA); exact BK607.out) hb); replace BK612 := am (blk_below (o := .cells #[.int .i64 ((rd_T54 ((rd_T43 l0 a3).f0) a4).f0.f0), .int .i64 ((rd_T54 ((rd_T43 l0 a3).f0) a4).f0.f1), .int .i64 ((rd_T54 ((rd_T43 l0 a3).f0) (ji66)).f0.f0), .int .i64 ((rd_T54 ((rd_T43 l0 a3).f0) (ji66)).f0.f1), .int .i64 (rd l1 a3)] 72 (0, 0)) (by (with_reducible repeat first | apply kN | apply kD | apply kA); refine blk_put (cs := #[.int .i64 ((rd_T54 ((rd_T43 l0 a3).f0) a4).f0.f0), .int .i64 ((rd_T54 ((rd_T43 l0 a3).f0) a4).f0.f1), .int .i64 ((rd_T54 ((rd_T43 l0 a3).f0) (ji66)).f0.f0), .int .i64 ((rd_T54 ((rd_T43 l0 a3).f0) (ji66)).f0.f1), .int .i64 0]) ?_ 4 _ rfl; (with_reducible repeat first | apply kN | apply kD | apply kA); refine blk_put (cs := #[.int .i64 ((rd_T54 ((rd_T43 l0 a3).f0) a4).f0.f0), .int .i64 ((rd_T54 ((rd_T43 l0 a3).f0) a4).f0.f1), .int .i64 ((rd_T54 ((rd_T43 l0 a3).f0) (ji66)).f0.f0), .int .i64 0, .int .i64 0]) ?_ 3 _ rfl; (with_reducible repeat first | apply kN | apply kD | apply kA); refine blk_put (cs := #[.int .i64 ((rd_T54 ((rd_T43 l0 a3).f0) a4).f0.f0), .int .i64 ((rd_T54 ((rd_T43 l0 a3).f0) a4).f0.f1), .int .i64 0, .int .i64 0, .int .i64 0]) ?_ 2 _ rfl; (with_reducible repeat first | apply kN | apply kD | apply kA); refine blk_put (cs := #[.int .i64 ((rd_T54 ((rd_T43 l0 a3).f0) a4).f0.f0), .int .i64 0, .int .i64 0, .int .i64 0, .int .i64 0]) ?_ 1 _ rfl; (with_reducible repeat first | apply kN | apply kD | apply kA); refine blk_put (cs := #[.int .i64 0, .int .i64 0, .int .i64 0, .int .i64 0, .int .i64 0]) ?_ 0 _ rfl; (with_reducible repeat first | apply kN | apply kD | apply kA); exact BK612.out) hb); replace HB := am (below_step bz hb); (try clear hb); (try clear hb2); (try clear hk); (try clear hi)))
       go_ret
       exact ⟨by first | rfl | (simp [errW_none, errW_some] <;> rfl) | (simp only [← hji66]; first | rfl | (simp [errW_none, errW_some] <;> rfl)) | (simp [*, errW_none, errW_some] <;> rfl), bz⟩)
 ·
  rw [if_neg c7] at H
  exact absurd H (by simp)

end Go.Proofs.Yteflngoiebgdaaa.X
