import Derived.Test.YteflngoiebgdaaaX0
import Derived.Test.YteflngoiebgdaaaX22
import Derived.Test.YteflngoiebgdaaaX24
namespace Go.Proofs.Yteflngoiebgdaaa.X
open Go.RowKit YteflngoiebgdaaaW.PrintWords YteflngoiebgdaaaW.PrintLast YteflngoiebgdaaaW.PrintMore
attribute [local go_sem] max2_int min2_int max_two min_two max_three min_three max_four min_four
set_option linter.unusedVariables false
set_option linter.unusedSimpArgs false

/-! ### collide_meet: function 32 -/
def collide_meet.f (k : Nat) (l0 : List (S43)) (l1 : List Int) (l2 : List (S62)) (a3 a4 a5 : Int) : Option (Bool) := if 0 ≤ a3 then (if a3 < (l0.length : Int) then (if 0 ≤ a5 then (if a5 < (((rd_T43 l0 a3).f0).length : Int) then (if 0 ≤ (wrap64 (a5 + 1)) then (if (wrap64 (a5 + 1)) < (((rd_T43 l0 a3).f0).length : Int) then (if a3 < (l1.length : Int) then (if 0 ≤ a4 then (if a4 < (l0.length : Int) then (if a5 < (((rd_T43 l0 a4).f0).length : Int) then (if (wrap64 (a5 + 1)) < (((rd_T43 l0 a4).f0).length : Int) then (if a4 < (l1.length : Int) then ((collide_contact.f k l2 a3 a4 a5).bind fun t206 => (if t206 = true then ((geom_Touch.f k ((rd_T54 ((rd_T43 l0 a3).f0) a5).f0.f0) ((rd_T54 ((rd_T43 l0 a3).f0) a5).f0.f1) ((rd_T54 ((rd_T43 l0 a3).f0) (wrap64 (a5 + 1))).f0.f0) ((rd_T54 ((rd_T43 l0 a3).f0) (wrap64 (a5 + 1))).f0.f1) (wrap64 (Int.tdiv (rd l1 a3) 2)) ((rd_T54 ((rd_T43 l0 a4).f0) a5).f0.f0) ((rd_T54 ((rd_T43 l0 a4).f0) a5).f0.f1) ((rd_T54 ((rd_T43 l0 a4).f0) (wrap64 (a5 + 1))).f0.f0) ((rd_T54 ((rd_T43 l0 a4).f0) (wrap64 (a5 + 1))).f0.f1) (wrap64 (Int.tdiv (rd l1 a4) 2))).bind fun bt207 => (some bt207.1)) else ((geom_Touch.f k ((rd_T54 ((rd_T43 l0 a3).f0) a5).f0.f0) ((rd_T54 ((rd_T43 l0 a3).f0) a5).f0.f1) ((rd_T54 ((rd_T43 l0 a3).f0) (wrap64 (a5 + 1))).f0.f0) ((rd_T54 ((rd_T43 l0 a3).f0) (wrap64 (a5 + 1))).f0.f1) (rd l1 a3) ((rd_T54 ((rd_T43 l0 a4).f0) a5).f0.f0) ((rd_T54 ((rd_T43 l0 a4).f0) a5).f0.f1) ((rd_T54 ((rd_T43 l0 a4).f0) (wrap64 (a5 + 1))).f0.f0) ((rd_T54 ((rd_T43 l0 a4).f0) (wrap64 (a5 + 1))).f0.f1) (rd l1 a4)).bind fun bt209 => (some bt209.1)))) else (none)) else (none)) else (none)) else (none)) else (none)) else (none)) else (none)) else (none)) else (none)) else (none)) else (none)) else (none)
theorem collide_meet.mono : ∀ a0 a1 a2 a3 a4 a5 k, LeO (collide_meet.f k a0 a1 a2 a3 a4 a5) (collide_meet.f (k + 1) a0 a1 a2 a3 a4 a5) := by
 intro a0 a1 a2 a3 a4 a5 k
 unfold collide_meet.f
 repeat' first
   | (with_reducible exact collide_contact.mono _ _ _ _ _)
   | (with_reducible exact geom_Touch.mono _ _ _ _ _ _ _ _ _ _ _)
   | (with_reducible exact LeO.refl _)
   | (with_reducible exact LeO.none _)
   | (with_reducible refine LeO.ite ?_ ?_)
   | (with_reducible refine LeO.bind ?_ (fun _ => ?_))
   | exact collide_contact.mono _ _ _ _ _
   | exact geom_Touch.mono _ _ _ _ _ _ _ _ _ _ _
   | exact LeO.none _
   | refine LeO.ite ?_ ?_
   | refine LeO.bind ?_ (fun _ => ?_)
def collide_meet.T1 : Bool × List (List Nat × List Nat) := (true, [([], []), ([], []), ([0, 1], [0, 1]), ([2], [2]), ([3], [3]), ([], []), ([4, 5], [4, 5]), ([6], [6]), ([7], [7]), ([], []), ([], []), ([9, 10], [9, 10]), ([11], [11]), ([12], [12]), ([], []), ([14], [14]), ([13, 15], [13, 15]), ([16], [16]), ([17], [17]), ([], []), ([], []), ([19, 20], [19, 20]), ([21], [21]), ([8, 18, 22], [8, 18, 22]), ([], []), ([24, 23, 0, 1, 2, 3, 4, 5, 6, 7, 8, 9, 10, 11, 12, 13, 14, 15, 16, 17, 18, 19, 20, 21, 22, 23, 24], [23, 24])])
def collide_meet.B1 : List Nat := [0, 0, 3, 7, 15, 0, 63, 127, 255, 0, 0, 1536, 3584, 7680, 0, 16384, 65024, 130560, 261632, 0, 0, 1572864, 3670016, 8388607, 0, 33554431]
theorem collide_meet.tab1 : rtab .any (opsOf Try.f32 1) = collide_meet.T1 := by kernel_rfl
theorem collide_meet.bits1 : waitsOk collide_meet.T1.2 collide_meet.B1 = true := by kernel_rfl
def collide_meet.T2 : Bool × List (List Nat × List Nat) := (true, [([], []), ([], []), ([0, 1], [0, 1]), ([2], [2]), ([3], [3]), ([], []), ([4, 5], [4, 5]), ([6], [6]), ([7], [7]), ([], []), ([], []), ([9, 10], [9, 10]), ([11], [11]), ([12], [12]), ([], []), ([14], [14]), ([13, 15], [13, 15]), ([16], [16]), ([17], [17]), ([], []), ([], []), ([19, 20], [19, 20]), ([21], [21]), ([8, 18, 22], [8, 18, 22]), ([], []), ([24, 23, 0, 1, 2, 3, 4, 5, 6, 7, 8, 9, 10, 11, 12, 13, 14, 15, 16, 17, 18, 19, 20, 21, 22, 23, 24], [23, 24])])
def collide_meet.B2 : List Nat := [0, 0, 3, 7, 15, 0, 63, 127, 255, 0, 0, 1536, 3584, 7680, 0, 16384, 65024, 130560, 261632, 0, 0, 1572864, 3670016, 8388607, 0, 33554431]
theorem collide_meet.tab2 : rtab .any (opsOf Try.f32 2) = collide_meet.T2 := by kernel_rfl
theorem collide_meet.bits2 : waitsOk collide_meet.T2.2 collide_meet.B2 = true := by kernel_rfl
set_option maxHeartbeats 8000000 in
set_option maxRecDepth 100000 in
theorem collide_meet.calls (k : Nat) (A0 : Option Addr) (c0 : Nat) (l0 : List (S43)) (A1 : Option Addr) (c1 : Nat) (l1 : List Int) (A2 : Option Addr) (c2 : Nat) (l2 : List (S62)) (a3 a4 a5 : Int) (r : Bool) (w : World) (hr0 : Kd.C k43 w A0 l0.length l0) (hc0 : l0.length ≤ c0) (hr1 : Kd.C (Kd.int .i64) w A1 l1.length l1) (hc1 : l1.length ≤ c1) (hr2 : Kd.C k62 w A2 l2.length l2) (hc2 : l2.length ≤ c2) (h : collide_meet.f k l0 l1 l2 a3 a4 a5 = some r) :
  Calls Try.prog 32 #[.slice A0 l0.length c0, .slice A1 l1.length c1, .slice A2 l2.length c2, .int .i64 a3, .int .i64 a4, .int .i64 a5] w fun e w' => e = .returned (.bool r) ∧ Below w.heap.size w w' := by
 have hu49 := Try.underlying49
 have hu72 := Try.underlying72
 have HR0 := am hr0
 have HC0 := am hc0
 clear hr0 hc0
 have HR1 := am hr1
 have HC1 := am hc1
 clear hr1 hc1
 have HR2 := am hr2
 have HC2 := am hc2
 clear hr2 hc2
 have HB := am (Below.refl w.heap.size w)
 have H : (if 0 ≤ a3 then (if a3 < (l0.length : Int) then (if 0 ≤ a5 then (if a5 < (((rd_T43 l0 a3).f0).length : Int) then (if 0 ≤ (wrap64 (a5 + 1)) then (if (wrap64 (a5 + 1)) < (((rd_T43 l0 a3).f0).length : Int) then (if a3 < (l1.length : Int) then (if 0 ≤ a4 then (if a4 < (l0.length : Int) then (if a5 < (((rd_T43 l0 a4).f0).length : Int) then (if (wrap64 (a5 + 1)) < (((rd_T43 l0 a4).f0).length : Int) then (if a4 < (l1.length : Int) then ((collide_contact.f k l2 a3 a4 a5).bind fun t206 => (if t206 = true then ((geom_Touch.f k ((rd_T54 ((rd_T43 l0 a3).f0) a5).f0.f0) ((rd_T54 ((rd_T43 l0 a3).f0) a5).f0.f1) ((rd_T54 ((rd_T43 l0 a3).f0) (wrap64 (a5 + 1))).f0.f0) ((rd_T54 ((rd_T43 l0 a3).f0) (wrap64 (a5 + 1))).f0.f1) (wrap64 (Int.tdiv (rd l1 a3) 2)) ((rd_T54 ((rd_T43 l0 a4).f0) a5).f0.f0) ((rd_T54 ((rd_T43 l0 a4).f0) a5).f0.f1) ((rd_T54 ((rd_T43 l0 a4).f0) (wrap64 (a5 + 1))).f0.f0) ((rd_T54 ((rd_T43 l0 a4).f0) (wrap64 (a5 + 1))).f0.f1) (wrap64 (Int.tdiv (rd l1 a4) 2))).bind fun bt207 => (some bt207.1)) else ((geom_Touch.f k ((rd_T54 ((rd_T43 l0 a3).f0) a5).f0.f0) ((rd_T54 ((rd_T43 l0 a3).f0) a5).f0.f1) ((rd_T54 ((rd_T43 l0 a3).f0) (wrap64 (a5 + 1))).f0.f0) ((rd_T54 ((rd_T43 l0 a3).f0) (wrap64 (a5 + 1))).f0.f1) (rd l1 a3) ((rd_T54 ((rd_T43 l0 a4).f0) a5).f0.f0) ((rd_T54 ((rd_T43 l0 a4).f0) a5).f0.f1) ((rd_T54 ((rd_T43 l0 a4).f0) (wrap64 (a5 + 1))).f0.f0) ((rd_T54 ((rd_T43 l0 a4).f0) (wrap64 (a5 + 1))).f0.f1) (rd l1 a4)).bind fun bt209 => (some bt209.1)))) else (none)) else (none)) else (none)) else (none)) else (none)) else (none)) else (none)) else (none)) else (none)) else (none)) else (none)) else (none)) = some r := h
 clear h
 by_cases c7 : 0 ≤ a3
 ·
  rw [if_pos c7] at H
  have c7b0 := decide_eq_true c7
  clear c7
  by_cases c8 : a3 < (l0.length : Int); rotate_left
  · rw [if_neg c8] at H; exact absurd H (by simp)
  rw [if_pos c8] at H
  have c8b0 := decide_eq_true c8
  clear c8
  by_cases c9 : 0 ≤ a5; rotate_left
  · rw [if_neg c9] at H; exact absurd H (by simp)
  rw [if_pos c9] at H
  have c9b0 := decide_eq_true c9
  clear c9
  by_cases c10 : a5 < (((rd_T43 l0 a3).f0).length : Int); rotate_left
  · rw [if_neg c10] at H; exact absurd H (by simp)
  rw [if_pos c10] at H
  have c10b0 := decide_eq_true c10
  clear c10
  obtain ⟨ji11, hji11⟩ : ∃ j_ : Int, (wrap64 (a5 + 1)) = j_ := ⟨_, rfl⟩
  replace H : (if 0 ≤ (ji11) then (if (ji11) < (((rd_T43 l0 a3).f0).length : Int) then (if a3 < (l1.length : Int) then (if 0 ≤ a4 then (if a4 < (l0.length : Int) then (if a5 < (((rd_T43 l0 a4).f0).length : Int) then (if (ji11) < (((rd_T43 l0 a4).f0).length : Int) then (if a4 < (l1.length : Int) then ((collide_contact.f k l2 a3 a4 a5).bind fun t206 => (if t206 = true then ((geom_Touch.f k ((rd_T54 ((rd_T43 l0 a3).f0) a5).f0.f0) ((rd_T54 ((rd_T43 l0 a3).f0) a5).f0.f1) ((rd_T54 ((rd_T43 l0 a3).f0) (ji11)).f0.f0) ((rd_T54 ((rd_T43 l0 a3).f0) (ji11)).f0.f1) (wrap64 (Int.tdiv (rd l1 a3) 2)) ((rd_T54 ((rd_T43 l0 a4).f0) a5).f0.f0) ((rd_T54 ((rd_T43 l0 a4).f0) a5).f0.f1) ((rd_T54 ((rd_T43 l0 a4).f0) (ji11)).f0.f0) ((rd_T54 ((rd_T43 l0 a4).f0) (ji11)).f0.f1) (wrap64 (Int.tdiv (rd l1 a4) 2))).bind fun bt207 => (some bt207.1)) else ((geom_Touch.f k ((rd_T54 ((rd_T43 l0 a3).f0) a5).f0.f0) ((rd_T54 ((rd_T43 l0 a3).f0) a5).f0.f1) ((rd_T54 ((rd_T43 l0 a3).f0) (ji11)).f0.f0) ((rd_T54 ((rd_T43 l0 a3).f0) (ji11)).f0.f1) (rd l1 a3) ((rd_T54 ((rd_T43 l0 a4).f0) a5).f0.f0) ((rd_T54 ((rd_T43 l0 a4).f0) a5).f0.f1) ((rd_T54 ((rd_T43 l0 a4).f0) (ji11)).f0.f0) ((rd_T54 ((rd_T43 l0 a4).f0) (ji11)).f0.f1) (rd l1 a4)).bind fun bt209 => (some bt209.1)))) else (none)) else (none)) else (none)) else (none)) else (none)) else (none)) else (none)) else (none)) = some r := by first | (rw [hji11] at H; exact H) | (simp only [hji11] at H ⊢; exact H)
  have hji11w : (IntKind.i64.wrap (a5 + 1)) = ji11 := (i64_w _).trans hji11
  by_cases c12 : 0 ≤ (ji11); rotate_left
  · rw [if_neg c12] at H; exact absurd H (by simp)
  rw [if_pos c12] at H
  have c12b0 := decide_eq_true c12
  clear c12
  by_cases c13 : (ji11) < (((rd_T43 l0 a3).f0).length : Int); rotate_left
  · rw [if_neg c13] at H; exact absurd H (by simp)
  rw [if_pos c13] at H
  have c13b0 := decide_eq_true c13
  clear c13
  by_cases c14 : a3 < (l1.length : Int); rotate_left
  · rw [if_neg c14] at H; exact absurd H (by simp)
  rw [if_pos c14] at H
  have c14b0 := decide_eq_true c14
  clear c14
  by_cases c15 : 0 ≤ a4; rotate_left
  · rw [if_neg c15] at H; exact absurd H (by simp)
  rw [if_pos c15] at H
  have c15b0 := decide_eq_true c15
  clear c15
  by_cases c16 : a4 < (l0.length : Int); rotate_left
  · rw [if_neg c16] at H; exact absurd H (by simp)
  rw [if_pos c16] at H
  have c16b0 := decide_eq_true c16
  clear c16
  by_cases c17 : a5 < (((rd_T43 l0 a4).f0).length : Int); rotate_left
  · rw [if_neg c17] at H; exact absurd H (by simp)
  rw [if_pos c17] at H
  have c17b0 := decide_eq_true c17
  clear c17
  by_cases c18 : (ji11) < (((rd_T43 l0 a4).f0).length : Int); rotate_left
  · rw [if_neg c18] at H; exact absurd H (by simp)
  rw [if_pos c18] at H
  have c18b0 := decide_eq_true c18
  clear c18
  by_cases c19 : a4 < (l1.length : Int); rotate_left
  · rw [if_neg c19] at H; exact absurd H (by simp)
  rw [if_pos c19] at H
  have c19b0 := decide_eq_true c19
  clear c19
  replace H := Option.bind_eq_some_iff.mp H
  obtain ⟨t206, A200, H⟩ := H
  replace H : (if t206 = true then ((geom_Touch.f k ((rd_T54 ((rd_T43 l0 a3).f0) a5).f0.f0) ((rd_T54 ((rd_T43 l0 a3).f0) a5).f0.f1) ((rd_T54 ((rd_T43 l0 a3).f0) (ji11)).f0.f0) ((rd_T54 ((rd_T43 l0 a3).f0) (ji11)).f0.f1) (wrap64 (Int.tdiv (rd l1 a3) 2)) ((rd_T54 ((rd_T43 l0 a4).f0) a5).f0.f0) ((rd_T54 ((rd_T43 l0 a4).f0) a5).f0.f1) ((rd_T54 ((rd_T43 l0 a4).f0) (ji11)).f0.f0) ((rd_T54 ((rd_T43 l0 a4).f0) (ji11)).f0.f1) (wrap64 (Int.tdiv (rd l1 a4) 2))).bind fun bt207 => (some bt207.1)) else ((geom_Touch.f k ((rd_T54 ((rd_T43 l0 a3).f0) a5).f0.f0) ((rd_T54 ((rd_T43 l0 a3).f0) a5).f0.f1) ((rd_T54 ((rd_T43 l0 a3).f0) (ji11)).f0.f0) ((rd_T54 ((rd_T43 l0 a3).f0) (ji11)).f0.f1) (rd l1 a3) ((rd_T54 ((rd_T43 l0 a4).f0) a5).f0.f0) ((rd_T54 ((rd_T43 l0 a4).f0) a5).f0.f1) ((rd_T54 ((rd_T43 l0 a4).f0) (ji11)).f0.f0) ((rd_T54 ((rd_T43 l0 a4).f0) (ji11)).f0.f1) (rd l1 a4)).bind fun bt209 => (some bt209.1))) = some r := H
  have A20 := am A200
  clear A200
  by_cases c21 : t206 = true
  case' pos =>
   subst c21
   have H1 : ((geom_Touch.f k ((rd_T54 ((rd_T43 l0 a3).f0) a5).f0.f0) ((rd_T54 ((rd_T43 l0 a3).f0) a5).f0.f1) ((rd_T54 ((rd_T43 l0 a3).f0) (ji11)).f0.f0) ((rd_T54 ((rd_T43 l0 a3).f0) (ji11)).f0.f1) (wrap64 (Int.tdiv (rd l1 a3) 2)) ((rd_T54 ((rd_T43 l0 a4).f0) a5).f0.f0) ((rd_T54 ((rd_T43 l0 a4).f0) a5).f0.f1) ((rd_T54 ((rd_T43 l0 a4).f0) (ji11)).f0.f0) ((rd_T54 ((rd_T43 l0 a4).f0) (ji11)).f0.f1) (wrap64 (Int.tdiv (rd l1 a4) 2))).bind fun bt207 => (some bt207.1)) = some r := by rw [if_pos rfl] at H; exact H
   have tw1a : True := trivial
  case' neg =>
   replace c21 := Bool.eq_false_iff.mpr c21
   subst c21
   have H1 : ((geom_Touch.f k ((rd_T54 ((rd_T43 l0 a3).f0) a5).f0.f0) ((rd_T54 ((rd_T43 l0 a3).f0) a5).f0.f1) ((rd_T54 ((rd_T43 l0 a3).f0) (ji11)).f0.f0) ((rd_T54 ((rd_T43 l0 a3).f0) (ji11)).f0.f1) (rd l1 a3) ((rd_T54 ((rd_T43 l0 a4).f0) a5).f0.f0) ((rd_T54 ((rd_T43 l0 a4).f0) a5).f0.f1) ((rd_T54 ((rd_T43 l0 a4).f0) (ji11)).f0.f0) ((rd_T54 ((rd_T43 l0 a4).f0) (ji11)).f0.f1) (rd l1 a4)).bind fun bt209 => (some bt209.1)) = some r := by rw [if_neg (show ¬ (false = true) by decide)] at H; exact H
   have tw1b : True := trivial
  all_goals
   clear H
   have H := H1
   clear H1
   replace H := Option.bind_eq_some_iff.mp H
   obtain ⟨⟨t207, t208⟩, A220, H⟩ := H
   replace H : (some t207) = some r := H
   have A22 := am A220
   clear A220
   obtain rfl := Option.some.inj H
   go_enter Try.func32, Try.ntmps32
   try go_wp2
   have n0_ := am (below_drew1 HB.out)
   clear HB
   have HB := n0_
   clear n0_
   have p194 : 0 ≤ (a3 : Int) := az
   have q194 : a3 < (l0.length : Int) := az
   obtain ⟨ad194, A194_0, c194_0, A194_1, c194_1, e194, hx194_0, hx194_1, hl194_0, hi194_0, hl194_1, hi194_1⟩ := at_T43 HR0.out a3 p194 q194
   have hw194_1 := hx194_1
   have hw194_0 := hx194_0
   cases e194
   replace hx194_0 := cb HB.out hx194_0
   replace hx194_1 := cb HB.out hx194_1
   have HR194_0 := am hi194_0
   have HC194_0 := am hl194_0
   clear hi194_0 hl194_0
   have HR194_1 := am hi194_1
   have HC194_1 := am hl194_1
   clear hi194_1 hl194_1
   replace p194 := eq_true p194
   replace q194 := eq_true q194
   have p195 : 0 ≤ (a5 : Int) := az
   have q195 : a5 < (((rd_T43 l0 a3).f0).length : Int) := az
   obtain ⟨ad195, e195, hx195_0, hx195_1, _, _, _, _, _, _, _, _, _, _, _, _, _, _, _, _, _, _, _, _⟩ := at_T54 HR194_0.out a5 p195 q195
   have hw195_1 := hx195_1
   have hw195_0 := hx195_0
   cases e195
   replace hx195_0 := cb HB.out hx195_0
   replace hx195_1 := cb HB.out hx195_1
   replace p195 := eq_true p195
   replace q195 := eq_true q195
   have p196 : 0 ≤ (a3 : Int) := az
   have q196 : a3 < (l0.length : Int) := az
   obtain ⟨ad196, A196_0, c196_0, A196_1, c196_1, e196, hx196_0, hx196_1, hl196_0, hi196_0, hl196_1, hi196_1⟩ := at_T43 HR0.out a3 p196 q196
   have hw196_1 := hx196_1
   have hw196_0 := hx196_0
   obtain rfl : ad194 = ad196 := (by injection e196)
   replace hx196_0 := cb HB.out hx196_0
   replace hx196_1 := cb HB.out hx196_1
   have HR196_0 := am hi196_0
   have HC196_0 := am hl196_0
   clear hi196_0 hl196_0
   have HR196_1 := am hi196_1
   have HC196_1 := am hl196_1
   clear hi196_1 hl196_1
   replace p196 := eq_true p196
   replace q196 := eq_true q196
   have ea_ := Option.some.inj (hx194_0.symm.trans hx196_0)
   injection ea_ with ea_ en_ ec_
   subst ea_
   subst ec_
   clear en_
   have ea_ := Option.some.inj (hx194_1.symm.trans hx196_1)
   injection ea_ with ea_ en_ ec_
   subst ea_
   subst ec_
   clear en_
   have p197 : 0 ≤ ((ji11) : Int) := az
   have q197 : (ji11) < (((rd_T43 l0 a3).f0).length : Int) := az
   obtain ⟨ad197, e197, hx197_0, hx197_1, _, _, _, _, _, _, _, _, _, _, _, _, _, _, _, _, _, _, _, _⟩ := at_T54 HR196_0.out (ji11) p197 q197
   have hw197_1 := hx197_1
   have hw197_0 := hx197_0
   cases e197
   replace hx197_0 := cb HB.out hx197_0
   replace hx197_1 := cb HB.out hx197_1
   replace p197 := eq_true p197
   replace q197 := eq_true q197
   have p198 : 0 ≤ (a3 : Int) := az
   have q198 : a3 < (l1.length : Int) := az
   obtain ⟨ad198, e198, hx198_0⟩ := Kd.at_int HR1.out a3 p198 q198
   have hw198_0 := hx198_0
   cases e198
   replace hx198_0 := cb HB.out hx198_0
   replace p198 := eq_true p198
   replace q198 := eq_true q198
   refine start_ (n := 26) (S := fun w' => w'.cell? (ad194.add ((a3).toNat * 2)) = some (.slice (some ad195) ((rd_T43 l0 a3).f0).length c194_0) ∧ w'.cell? ⟨(ad194.add ((a3).toNat * 2)).block, (ad194.add ((a3).toNat * 2)).off + 1, none⟩ = some (.slice A194_1 ((rd_T43 l0 a3).f1).length c194_1) ∧ w'.cell? (ad195.add ((a5).toNat * 22)) = some (.int .i64 ((rd_T54 ((rd_T43 l0 a3).f0) a5).f0.f0)) ∧ w'.cell? ⟨(ad195.add ((a5).toNat * 22)).block, (ad195.add ((a5).toNat * 22)).off + 1, none⟩ = some (.int .i64 ((rd_T54 ((rd_T43 l0 a3).f0) a5).f0.f1)) ∧ w'.cell? (ad194.add ((a3).toNat * 2)) = some (.slice (some ad195) ((rd_T43 l0 a3).f0).length c194_0) ∧ w'.cell? ⟨(ad194.add ((a3).toNat * 2)).block, (ad194.add ((a3).toNat * 2)).off + 1, none⟩ = some (.slice A194_1 ((rd_T43 l0 a3).f1).length c194_1) ∧ w'.cell? (ad195.add (((ji11)).toNat * 22)) = some (.int .i64 ((rd_T54 ((rd_T43 l0 a3).f0) (ji11)).f0.f0)) ∧ w'.cell? ⟨(ad195.add (((ji11)).toNat * 22)).block, (ad195.add (((ji11)).toNat * 22)).off + 1, none⟩ = some (.int .i64 ((rd_T54 ((rd_T43 l0 a3).f0) (ji11)).f0.f1)) ∧ w'.cell? (ad198.add (a3).toNat) = some (.int .i64 (rd l1 a3))) (ds := []) (bm 26 0) qz rfl rfl ⟨(cb HB.out hw194_0), (cb HB.out hw194_1), (cb HB.out hw195_0), (cb HB.out hw195_1), (cb HB.out hw196_0), (cb HB.out hw196_1), (cb HB.out hw197_0), (cb HB.out hw197_1), (cb HB.out hw198_0)⟩ (fun hHeld => ?_); refine with_tabW collide_meet.tab1 collide_meet.bits1 (fun HT_ HW_ => ?_)
   generalize w.drew = w23 at HB HR194_0 HR194_1 HR196_0 HR196_1 hx194_0 hx194_1 hx195_0 hx195_1 hx196_0 hx196_1 hx197_0 hx197_1 hx198_0 hHeld ⊢
   refine pa (i := 0) (N := some 17) (bm 26 1) HT_ ?_
   refine pa (i := 1) (N := some 18) (bm 26 3) HT_ ?_
   refine pa (i := 2) (N := some 19) (bm 26 7) HT_ ?_
   refine pa (i := 3) (N := some 20) (bm 26 15) HT_ ?_
   refine pa (i := 5) (N := some 22) (bm 26 47) HT_ ?_
   refine pa (i := 9) (N := some 26) (bm 26 559) HT_ ?_
   refine pa (i := 10) (N := some 27) (bm 26 1583) HT_ ?_
   refine pa (i := 11) (N := some 28) (bm 26 3631) HT_ ?_
   refine pa (i := 12) (N := some 29) (bm 26 7727) HT_ ?_
   refine pa (i := 14) (N := some 31) (bm 26 24111) HT_ ?_
   refine pa (i := 15) (N := some 32) (bm 26 56879) HT_ ?_
   refine pa (i := 19) (N := some 36) (bm 26 581167) HT_ ?_
   refine pa (i := 20) (N := some 37) (bm 26 1629743) HT_ ?_
   refine pa (i := 21) (N := some 38) (bm 26 3726895) HT_ ?_
   refine take_ (i := 4) (N := some 21) (v := ?_) (a' := ?_) (bm 26 3726911) rfl rfl (take_ofW HT_.out HW_.out qz) iz (Or.inl ⟨by rfl, ?_⟩) hHeld ?_ ?_
   rotate_left
   ·
    rintro w' ⟨s0, s1, s2, s3, s4, s5, s6, s7, s8⟩
    go_simp
    with_reducible rfl
   rotate_left
   ·
    simp only [Act.put, aS, lZ, lS, i64_w, i32_w]
    rfl
   refine pa (i := 6) (N := some 23) (bm 26 3726975) HT_ ?_
   refine pa (i := 7) (N := some 24) (bm 26 3727103) HT_ ?_
   refine take_ (i := 8) (N := some 25) (v := ?_) (a' := ?_) (bm 26 3727359) rfl rfl (take_ofW HT_.out HW_.out qz) iz (Or.inl ⟨by rfl, ?_⟩) hHeld ?_ ?_
   rotate_left
   ·
    rintro w' ⟨s0, s1, s2, s3, s4, s5, s6, s7, s8⟩
    go_simp
    with_reducible rfl
   rotate_left
   ·
    simp only [Act.put, aS, lZ, lS, i64_w, i32_w]
    rfl
   refine take_ (i := 13) (N := some 30) (v := ?_) (a' := ?_) (bm 26 3735551) rfl rfl (take_ofW HT_.out HW_.out qz) iz (Or.inl ⟨by rfl, ?_⟩) hHeld ?_ ?_
   rotate_left
   ·
    rintro w' ⟨s0, s1, s2, s3, s4, s5, s6, s7, s8⟩
    go_simp
    with_reducible rfl
   rotate_left
   ·
    simp only [Act.put, aS, lZ, lS, i64_w, i32_w]
    rfl
   refine pa (i := 16) (N := some 33) (bm 26 3801087) HT_ ?_
   refine pa (i := 17) (N := some 34) (bm 26 3932159) HT_ ?_
   refine take_ (i := 18) (N := some 35) (v := ?_) (a' := ?_) (bm 26 4194303) rfl rfl (take_ofW HT_.out HW_.out qz) iz (Or.inl ⟨by rfl, ?_⟩) hHeld ?_ ?_
   rotate_left
   ·
    rintro w' ⟨s0, s1, s2, s3, s4, s5, s6, s7, s8⟩
    go_simp
    with_reducible rfl
   rotate_left
   ·
    simp only [Act.put, aS, lZ, lS, i64_w, i32_w]
    rfl
   refine take_ (i := 22) (N := some 39) (v := ?_) (a' := ?_) (bm 26 8388607) rfl rfl (take_ofW HT_.out HW_.out qz) iz (Or.inl ⟨by rfl, ?_⟩) hHeld ?_ ?_
   rotate_left
   ·
    rintro w' ⟨s0, s1, s2, s3, s4, s5, s6, s7, s8⟩
    go_simp
    with_reducible rfl
   rotate_left
   ·
    simp only [Act.put, aS, lZ, lS, i64_w, i32_w]
    rfl
   refine pa (i := 23) (N := some 40) (bm 26 16777215) HT_ ?_
   refine one_ (i := 24) (N := some 13) (bm 26 33554431) rfl rfl (one_of HT_.out qz) (by decide) (fun K hK => ?_)
   refine box_step ?hg (N := 13) ?hd (cs := #[.int .i64 0, .int .i64 0, .int .i64 0, .int .i64 0, .int .i64 0]) (t := 72) ?hr ?_; (case hd => rfl); (case hg => rfl); (case hr => first | (go_simp; done) | (go_simp; rfl))
   intro gb199 hg w24 hbox hb
   have n0_ := am (below_step bz hb)
   have n1_ := am (hbox)
   have n2_ := gwz (g := gb199) HB hg
   have n3_ := gwz (g := gb199) HB hg
   clear HB
   have HB := n0_
   have BK199 := n1_
   have GW199 := n2_
   have GE199 := n3_
   clear n0_ n1_ n2_ n3_
   clear hb hbox hg
   refine hK.out _ _ ⟨(cb HB.out hw194_0), (cb HB.out hw194_1), (cb HB.out hw195_0), (cb HB.out hw195_1), (cb HB.out hw196_0), (cb HB.out hw196_1), (cb HB.out hw197_0), (cb HB.out hw197_1), (cb HB.out hw198_0)⟩ (fun hHeld => ?_)
   clear hK K
   refine norm_ (a' := ?_) ?_ ?_
   rotate_left
   ·
    show Act.put _ (some 13) _ = _
    simp only [Act.put, aS, lZ, lS, i64_w, i32_w]
    rfl
   refine one_ (i := 25) (N := none) (bm 26 67108863) rfl rfl (one_of HT_.out qz) (by decide) (fun K hK => ?_)
   have hs25 : w24.cell? ⟨gb199, 0, none⟩ = some (.int .i64 0) := (blk_cell BK199.out 0).trans rfl
   have hfs25 := blk_frozen BK199.out 0
   have hs26 : w24.cell? ⟨gb199, 1, none⟩ = some (.int .i64 0) := (blk_cell BK199.out 1).trans rfl
   have hfs26 := blk_frozen BK199.out 1
   have hs27 : w24.cell? ⟨gb199, 2, none⟩ = some (.int .i64 0) := (blk_cell BK199.out 2).trans rfl
   have hfs27 := blk_frozen BK199.out 2
   have hs28 : w24.cell? ⟨gb199, 3, none⟩ = some (.int .i64 0) := (blk_cell BK199.out 3).trans rfl
   have hfs28 := blk_frozen BK199.out 3
   have hs29 : w24.cell? ⟨gb199, 4, none⟩ = some (.int .i64 0) := (blk_cell BK199.out 4).trans rfl
   have hfs29 := blk_frozen BK199.out 4
   refine skip_ (w1 := ?_) (by rfl) rfl ?_ ?_
   rotate_left
   ·
    go_simp
    rfl
   refine hK.out _ _ ⟨((cell_far (p := ⟨gb199, _, none⟩) (by first | exact nb hw194_0 GW199.out | exact nc hw194_0 GW199.out | exact nd hw194_0 GW199.out) _).trans (((cell_far (p := ⟨gb199, _, none⟩) (by first | exact nb hw194_0 GW199.out | exact nc hw194_0 GW199.out | exact nd hw194_0 GW199.out) _).trans (((cell_far (p := ⟨gb199, _, none⟩) (by first | exact nb hw194_0 GW199.out | exact nc hw194_0 GW199.out | exact nd hw194_0 GW199.out) _).trans (((cell_far (p := ⟨gb199, _, none⟩) (by first | exact nb hw194_0 GW199.out | exact nc hw194_0 GW199.out | exact nd hw194_0 GW199.out) _).trans (((cell_far (p := ⟨gb199, _, none⟩) (by first | exact nb hw194_0 GW199.out | exact nc hw194_0 GW199.out | exact nd hw194_0 GW199.out) _).trans (hHeld.1)))))))))), ((cell_far (p := ⟨gb199, _, none⟩) (by first | exact nb hw194_1 GW199.out | exact nc hw194_1 GW199.out | exact nd hw194_1 GW199.out) _).trans (((cell_far (p := ⟨gb199, _, none⟩) (by first | exact nb hw194_1 GW199.out | exact nc hw194_1 GW199.out | exact nd hw194_1 GW199.out) _).trans (((cell_far (p := ⟨gb199, _, none⟩) (by first | exact nb hw194_1 GW199.out | exact nc hw194_1 GW199.out | exact nd hw194_1 GW199.out) _).trans (((cell_far (p := ⟨gb199, _, none⟩) (by first | exact nb hw194_1 GW199.out | exact nc hw194_1 GW199.out | exact nd hw194_1 GW199.out) _).trans (((cell_far (p := ⟨gb199, _, none⟩) (by first | exact nb hw194_1 GW199.out | exact nc hw194_1 GW199.out | exact nd hw194_1 GW199.out) _).trans (hHeld.2.1)))))))))), ((cell_far (p := ⟨gb199, _, none⟩) (by first | exact nb hw195_0 GW199.out | exact nc hw195_0 GW199.out | exact nd hw195_0 GW199.out) _).trans (((cell_far (p := ⟨gb199, _, none⟩) (by first | exact nb hw195_0 GW199.out | exact nc hw195_0 GW199.out | exact nd hw195_0 GW199.out) _).trans (((cell_far (p := ⟨gb199, _, none⟩) (by first | exact nb hw195_0 GW199.out | exact nc hw195_0 GW199.out | exact nd hw195_0 GW199.out) _).trans (((cell_far (p := ⟨gb199, _, none⟩) (by first | exact nb hw195_0 GW199.out | exact nc hw195_0 GW199.out | exact nd hw195_0 GW199.out) _).trans (((cell_far (p := ⟨gb199, _, none⟩) (by first | exact nb hw195_0 GW199.out | exact nc hw195_0 GW199.out | exact nd hw195_0 GW199.out) _).trans (hHeld.2.2.1)))))))))), ((cell_far (p := ⟨gb199, _, none⟩) (by first | exact nb hw195_1 GW199.out | exact nc hw195_1 GW199.out | exact nd hw195_1 GW199.out) _).trans (((cell_far (p := ⟨gb199, _, none⟩) (by first | exact nb hw195_1 GW199.out | exact nc hw195_1 GW199.out | exact nd hw195_1 GW199.out) _).trans (((cell_far (p := ⟨gb199, _, none⟩) (by first | exact nb hw195_1 GW199.out | exact nc hw195_1 GW199.out | exact nd hw195_1 GW199.out) _).trans (((cell_far (p := ⟨gb199, _, none⟩) (by first | exact nb hw195_1 GW199.out | exact nc hw195_1 GW199.out | exact nd hw195_1 GW199.out) _).trans (((cell_far (p := ⟨gb199, _, none⟩) (by first | exact nb hw195_1 GW199.out | exact nc hw195_1 GW199.out | exact nd hw195_1 GW199.out) _).trans (hHeld.2.2.2.1)))))))))), ((cell_far (p := ⟨gb199, _, none⟩) (by first | exact nb hw196_0 GW199.out | exact nc hw196_0 GW199.out | exact nd hw196_0 GW199.out) _).trans (((cell_far (p := ⟨gb199, _, none⟩) (by first | exact nb hw196_0 GW199.out | exact nc hw196_0 GW199.out | exact nd hw196_0 GW199.out) _).trans (((cell_far (p := ⟨gb199, _, none⟩) (by first | exact nb hw196_0 GW199.out | exact nc hw196_0 GW199.out | exact nd hw196_0 GW199.out) _).trans (((cell_far (p := ⟨gb199, _, none⟩) (by first | exact nb hw196_0 GW199.out | exact nc hw196_0 GW199.out | exact nd hw196_0 GW199.out) _).trans (((cell_far (p := ⟨gb199, _, none⟩) (by first | exact nb hw196_0 GW199.out | exact nc hw196_0 GW199.out | exact nd hw196_0 GW199.out) _).trans (hHeld.2.2.2.2.1)))))))))), ((cell_far (p := ⟨gb199, _, none⟩) (by first | exact nb hw196_1 GW199.out | exact nc hw196_1 GW199.out | exact nd hw196_1 GW199.out) _).trans (((cell_far (p := ⟨gb199, _, none⟩) (by first | exact nb hw196_1 GW199.out | exact nc hw196_1 GW199.out | exact nd hw196_1 GW199.out) _).trans (((cell_far (p := ⟨gb199, _, none⟩) (by first | exact nb hw196_1 GW199.out | exact nc hw196_1 GW199.out | exact nd hw196_1 GW199.out) _).trans (((cell_far (p := ⟨gb199, _, none⟩) (by first | exact nb hw196_1 GW199.out | exact nc hw196_1 GW199.out | exact nd hw196_1 GW199.out) _).trans (((cell_far (p := ⟨gb199, _, none⟩) (by first | exact nb hw196_1 GW199.out | exact nc hw196_1 GW199.out | exact nd hw196_1 GW199.out) _).trans (hHeld.2.2.2.2.2.1)))))))))), ((cell_far (p := ⟨gb199, _, none⟩) (by first | exact nb hw197_0 GW199.out | exact nc hw197_0 GW199.out | exact nd hw197_0 GW199.out) _).trans (((cell_far (p := ⟨gb199, _, none⟩) (by first | exact nb hw197_0 GW199.out | exact nc hw197_0 GW199.out | exact nd hw197_0 GW199.out) _).trans (((cell_far (p := ⟨gb199, _, none⟩) (by first | exact nb hw197_0 GW199.out | exact nc hw197_0 GW199.out | exact nd hw197_0 GW199.out) _).trans (((cell_far (p := ⟨gb199, _, none⟩) (by first | exact nb hw197_0 GW199.out | exact nc hw197_0 GW199.out | exact nd hw197_0 GW199.out) _).trans (((cell_far (p := ⟨gb199, _, none⟩) (by first | exact nb hw197_0 GW199.out | exact nc hw197_0 GW199.out | exact nd hw197_0 GW199.out) _).trans (hHeld.2.2.2.2.2.2.1)))))))))), ((cell_far (p := ⟨gb199, _, none⟩) (by first | exact nb hw197_1 GW199.out | exact nc hw197_1 GW199.out | exact nd hw197_1 GW199.out) _).trans (((cell_far (p := ⟨gb199, _, none⟩) (by first | exact nb hw197_1 GW199.out | exact nc hw197_1 GW199.out | exact nd hw197_1 GW199.out) _).trans (((cell_far (p := ⟨gb199, _, none⟩) (by first | exact nb hw197_1 GW199.out | exact nc hw197_1 GW199.out | exact nd hw197_1 GW199.out) _).trans (((cell_far (p := ⟨gb199, _, none⟩) (by first | exact nb hw197_1 GW199.out | exact nc hw197_1 GW199.out | exact nd hw197_1 GW199.out) _).trans (((cell_far (p := ⟨gb199, _, none⟩) (by first | exact nb hw197_1 GW199.out | exact nc hw197_1 GW199.out | exact nd hw197_1 GW199.out) _).trans (hHeld.2.2.2.2.2.2.2.1)))))))))), ((cell_far (p := ⟨gb199, _, none⟩) (by first | exact nb hw198_0 GW199.out | exact nc hw198_0 GW199.out | exact nd hw198_0 GW199.out) _).trans (((cell_far (p := ⟨gb199, _, none⟩) (by first | exact nb hw198_0 GW199.out | exact nc hw198_0 GW199.out | exact nd hw198_0 GW199.out) _).trans (((cell_far (p := ⟨gb199, _, none⟩) (by first | exact nb hw198_0 GW199.out | exact nc hw198_0 GW199.out | exact nd hw198_0 GW199.out) _).trans (((cell_far (p := ⟨gb199, _, none⟩) (by first | exact nb hw198_0 GW199.out | exact nc hw198_0 GW199.out | exact nd hw198_0 GW199.out) _).trans (((cell_far (p := ⟨gb199, _, none⟩) (by first | exact nb hw198_0 GW199.out | exact nc hw198_0 GW199.out | exact nd hw198_0 GW199.out) _).trans (hHeld.2.2.2.2.2.2.2.2))))))))))⟩ (fun hHeld => ?_)
   clear hK K
   refine done_ (done_of HT_.out qz) ?_
   try go_wp2
   have n0_ : Aside0 ((((((w24.setCell ⟨gb199, 0, none⟩ (.int .i64 ((rd_T54 ((rd_T43 l0 a3).f0) a5).f0.f0))).setCell ⟨gb199, 1, none⟩ (.int .i64 ((rd_T54 ((rd_T43 l0 a3).f0) a5).f0.f1))).setCell ⟨gb199, 2, none⟩ (.int .i64 ((rd_T54 ((rd_T43 l0 a3).f0) (ji11)).f0.f0))).setCell ⟨gb199, 3, none⟩ (.int .i64 ((rd_T54 ((rd_T43 l0 a3).f0) (ji11)).f0.f1))).setCell ⟨gb199, 4, none⟩ (.int .i64 (rd l1 a3))).heap[gb199]? = some (.cells #[.int .i64 ((rd_T54 ((rd_T43 l0 a3).f0) a5).f0.f0), .int .i64 ((rd_T54 ((rd_T43 l0 a3).f0) a5).f0.f1), .int .i64 ((rd_T54 ((rd_T43 l0 a3).f0) (ji11)).f0.f0), .int .i64 ((rd_T54 ((rd_T43 l0 a3).f0) (ji11)).f0.f1), .int .i64 (rd l1 a3)] 72 (0, 0))) := ⟨by (with_reducible repeat first | apply kN | apply kD | apply kA); refine blk_put (cs := #[.int .i64 ((rd_T54 ((rd_T43 l0 a3).f0) a5).f0.f0), .int .i64 ((rd_T54 ((rd_T43 l0 a3).f0) a5).f0.f1), .int .i64 ((rd_T54 ((rd_T43 l0 a3).f0) (ji11)).f0.f0), .int .i64 ((rd_T54 ((rd_T43 l0 a3).f0) (ji11)).f0.f1), .int .i64 0]) ?_ 4 _ rfl; (with_reducible repeat first | apply kN | apply kD | apply kA); refine blk_put (cs := #[.int .i64 ((rd_T54 ((rd_T43 l0 a3).f0) a5).f0.f0), .int .i64 ((rd_T54 ((rd_T43 l0 a3).f0) a5).f0.f1), .int .i64 ((rd_T54 ((rd_T43 l0 a3).f0) (ji11)).f0.f0), .int .i64 0, .int .i64 0]) ?_ 3 _ rfl; (with_reducible repeat first | apply kN | apply kD | apply kA); refine blk_put (cs := #[.int .i64 ((rd_T54 ((rd_T43 l0 a3).f0) a5).f0.f0), .int .i64 ((rd_T54 ((rd_T43 l0 a3).f0) a5).f0.f1), .int .i64 0, .int .i64 0, .int .i64 0]) ?_ 2 _ rfl; (with_reducible repeat first | apply kN | apply kD | apply kA); refine blk_put (cs := #[.int .i64 ((rd_T54 ((rd_T43 l0 a3).f0) a5).f0.f0), .int .i64 0, .int .i64 0, .int .i64 0, .int .i64 0]) ?_ 1 _ rfl; (with_reducible repeat first | apply kN | apply kD | apply kA); refine blk_put (cs := #[.int .i64 0, .int .i64 0, .int .i64 0, .int .i64 0, .int .i64 0]) ?_ 0 _ rfl; (with_reducible repeat first | apply kN | apply kD | apply kA); exact BK199.out⟩
   have n1_ : Aside0 (Below w.heap.size w (((((w24.setCell ⟨gb199, 0, none⟩ (.int .i64 ((rd_T54 ((rd_T43 l0 a3).f0) a5).f0.f0))).setCell ⟨gb199, 1, none⟩ (.int .i64 ((rd_T54 ((rd_T43 l0 a3).f0) a5).f0.f1))).setCell ⟨gb199, 2, none⟩ (.int .i64 ((rd_T54 ((rd_T43 l0 a3).f0) (ji11)).f0.f0))).setCell ⟨gb199, 3, none⟩ (.int .i64 ((rd_T54 ((rd_T43 l0 a3).f0) (ji11)).f0.f1))).setCell ⟨gb199, 4, none⟩ (.int .i64 (rd l1 a3)))) := ⟨bz⟩
   (try clear BK199)
   (try clear HB)
   generalize (((((w24.setCell ⟨gb199, 0, none⟩ (.int .i64 ((rd_T54 ((rd_T43 l0 a3).f0) a5).f0.f0))).setCell ⟨gb199, 1, none⟩ (.int .i64 ((rd_T54 ((rd_T43 l0 a3).f0) a5).f0.f1))).setCell ⟨gb199, 2, none⟩ (.int .i64 ((rd_T54 ((rd_T43 l0 a3).f0) (ji11)).f0.f0))).setCell ⟨gb199, 3, none⟩ (.int .i64 ((rd_T54 ((rd_T43 l0 a3).f0) (ji11)).f0.f1))).setCell ⟨gb199, 4, none⟩ (.int .i64 (rd l1 a3))) = w30 at n0_ n1_ ⊢
   have BK199 := n0_
   have HB := n1_
   clear n0_ n1_
   have n0_ := am (blk_drew BK199.out)
   have n1_ := am (below_drew1 HB.out)
   clear BK199
   clear HB
   have BK199 := n0_
   have HB := n1_
   clear n0_ n1_
   have p200 : 0 ≤ (a4 : Int) := az
   have q200 : a4 < (l0.length : Int) := az
   obtain ⟨ad200, A200_0, c200_0, A200_1, c200_1, e200, hx200_0, hx200_1, hl200_0, hi200_0, hl200_1, hi200_1⟩ := at_T43 HR0.out a4 p200 q200
   have hw200_1 := hx200_1
   have hw200_0 := hx200_0
   obtain rfl : ad194 = ad200 := (by injection e200)
   replace hx200_0 := cb HB.out hx200_0
   replace hx200_1 := cb HB.out hx200_1
   have HR200_0 := am hi200_0
   have HC200_0 := am hl200_0
   clear hi200_0 hl200_0
   have HR200_1 := am hi200_1
   have HC200_1 := am hl200_1
   clear hi200_1 hl200_1
   replace p200 := eq_true p200
   replace q200 := eq_true q200
   have p201 : 0 ≤ (a5 : Int) := az
   have q201 : a5 < (((rd_T43 l0 a4).f0).length : Int) := az
   obtain ⟨ad201, e201, hx201_0, hx201_1, _, _, _, _, _, _, _, _, _, _, _, _, _, _, _, _, _, _, _, _⟩ := at_T54 HR200_0.out a5 p201 q201
   have hw201_1 := hx201_1
   have hw201_0 := hx201_0
   cases e201
   replace hx201_0 := cb HB.out hx201_0
   replace hx201_1 := cb HB.out hx201_1
   replace p201 := eq_true p201
   replace q201 := eq_true q201
   have p202 : 0 ≤ (a4 : Int) := az
   have q202 : a4 < (l0.length : Int) := az
   obtain ⟨ad202, A202_0, c202_0, A202_1, c202_1, e202, hx202_0, hx202_1, hl202_0, hi202_0, hl202_1, hi202_1⟩ := at_T43 HR0.out a4 p202 q202
   have hw202_1 := hx202_1
   have hw202_0 := hx202_0
   obtain rfl : ad194 = ad202 := (by injection e202)
   replace hx202_0 := cb HB.out hx202_0
   replace hx202_1 := cb HB.out hx202_1
   have HR202_0 := am hi202_0
   have HC202_0 := am hl202_0
   clear hi202_0 hl202_0
   have HR202_1 := am hi202_1
   have HC202_1 := am hl202_1
   clear hi202_1 hl202_1
   replace p202 := eq_true p202
   replace q202 := eq_true q202
   have ea_ := Option.some.inj (hx200_0.symm.trans hx202_0)
   injection ea_ with ea_ en_ ec_
   subst ea_
   subst ec_
   clear en_
   have ea_ := Option.some.inj (hx200_1.symm.trans hx202_1)
   injection ea_ with ea_ en_ ec_
   subst ea_
   subst ec_
   clear en_
   have p203 : 0 ≤ ((ji11) : Int) := az
   have q203 : (ji11) < (((rd_T43 l0 a4).f0).length : Int) := az
   obtain ⟨ad203, e203, hx203_0, hx203_1, _, _, _, _, _, _, _, _, _, _, _, _, _, _, _, _, _, _, _, _⟩ := at_T54 HR202_0.out (ji11) p203 q203
   have hw203_1 := hx203_1
   have hw203_0 := hx203_0
   cases e203
   replace hx203_0 := cb HB.out hx203_0
   replace hx203_1 := cb HB.out hx203_1
   replace p203 := eq_true p203
   replace q203 := eq_true q203
   have p204 : 0 ≤ (a4 : Int) := az
   have q204 : a4 < (l1.length : Int) := az
   obtain ⟨ad204, e204, hx204_0⟩ := Kd.at_int HR1.out a4 p204 q204
   have hw204_0 := hx204_0
   obtain rfl : ad198 = ad204 := (by injection e204)
   replace hx204_0 := cb HB.out hx204_0
   replace p204 := eq_true p204
   replace q204 := eq_true q204
   refine start_ (n := 26) (S := fun w' => w'.cell? (ad194.add ((a4).toNat * 2)) = some (.slice (some ad201) ((rd_T43 l0 a4).f0).length c200_0) ∧ w'.cell? ⟨(ad194.add ((a4).toNat * 2)).block, (ad194.add ((a4).toNat * 2)).off + 1, none⟩ = some (.slice A200_1 ((rd_T43 l0 a4).f1).length c200_1) ∧ w'.cell? (ad201.add ((a5).toNat * 22)) = some (.int .i64 ((rd_T54 ((rd_T43 l0 a4).f0) a5).f0.f0)) ∧ w'.cell? ⟨(ad201.add ((a5).toNat * 22)).block, (ad201.add ((a5).toNat * 22)).off + 1, none⟩ = some (.int .i64 ((rd_T54 ((rd_T43 l0 a4).f0) a5).f0.f1)) ∧ w'.cell? (ad194.add ((a4).toNat * 2)) = some (.slice (some ad201) ((rd_T43 l0 a4).f0).length c200_0) ∧ w'.cell? ⟨(ad194.add ((a4).toNat * 2)).block, (ad194.add ((a4).toNat * 2)).off + 1, none⟩ = some (.slice A200_1 ((rd_T43 l0 a4).f1).length c200_1) ∧ w'.cell? (ad201.add (((ji11)).toNat * 22)) = some (.int .i64 ((rd_T54 ((rd_T43 l0 a4).f0) (ji11)).f0.f0)) ∧ w'.cell? ⟨(ad201.add (((ji11)).toNat * 22)).block, (ad201.add (((ji11)).toNat * 22)).off + 1, none⟩ = some (.int .i64 ((rd_T54 ((rd_T43 l0 a4).f0) (ji11)).f0.f1)) ∧ w'.cell? (ad198.add (a4).toNat) = some (.int .i64 (rd l1 a4))) (ds := []) (bm 26 0) qz rfl rfl ⟨(cb HB.out hw200_0), (cb HB.out hw200_1), (cb HB.out hw201_0), (cb HB.out hw201_1), (cb HB.out hw202_0), (cb HB.out hw202_1), (cb HB.out hw203_0), (cb HB.out hw203_1), (cb HB.out hw204_0)⟩ (fun hHeld => ?_); refine with_tabW collide_meet.tab2 collide_meet.bits2 (fun HT_ HW_ => ?_)
   generalize w30.drew = w31 at BK199 HB HR200_0 HR200_1 HR202_0 HR202_1 hx200_0 hx200_1 hx201_0 hx201_1 hx202_0 hx202_1 hx203_0 hx203_1 hx204_0 hHeld ⊢
   refine pa (i := 0) (N := some 41) (bm 26 1) HT_ ?_
   refine pa (i := 1) (N := some 42) (bm 26 3) HT_ ?_
   refine pa (i := 2) (N := some 43) (bm 26 7) HT_ ?_
   refine pa (i := 3) (N := some 44) (bm 26 15) HT_ ?_
   refine pa (i := 5) (N := some 46) (bm 26 47) HT_ ?_
   refine pa (i := 9) (N := some 50) (bm 26 559) HT_ ?_
   refine pa (i := 10) (N := some 51) (bm 26 1583) HT_ ?_
   refine pa (i := 11) (N := some 52) (bm 26 3631) HT_ ?_
   refine pa (i := 12) (N := some 53) (bm 26 7727) HT_ ?_
   refine pa (i := 14) (N := some 55) (bm 26 24111) HT_ ?_
   refine pa (i := 15) (N := some 56) (bm 26 56879) HT_ ?_
   refine pa (i := 19) (N := some 60) (bm 26 581167) HT_ ?_
   refine pa (i := 20) (N := some 61) (bm 26 1629743) HT_ ?_
   refine pa (i := 21) (N := some 62) (bm 26 3726895) HT_ ?_
   refine take_ (i := 4) (N := some 45) (v := ?_) (a' := ?_) (bm 26 3726911) rfl rfl (take_ofW HT_.out HW_.out qz) iz (Or.inl ⟨by rfl, ?_⟩) hHeld ?_ ?_
   rotate_left
   ·
    rintro w' ⟨s0, s1, s2, s3, s4, s5, s6, s7, s8⟩
    go_simp
    with_reducible rfl
   rotate_left
   ·
    simp only [Act.put, aS, lZ, lS, i64_w, i32_w]
    rfl
   refine pa (i := 6) (N := some 47) (bm 26 3726975) HT_ ?_
   refine pa (i := 7) (N := some 48) (bm 26 3727103) HT_ ?_
   refine take_ (i := 8) (N := some 49) (v := ?_) (a' := ?_) (bm 26 3727359) rfl rfl (take_ofW HT_.out HW_.out qz) iz (Or.inl ⟨by rfl, ?_⟩) hHeld ?_ ?_
   rotate_left
   ·
    rintro w' ⟨s0, s1, s2, s3, s4, s5, s6, s7, s8⟩
    go_simp
    with_reducible rfl
   rotate_left
   ·
    simp only [Act.put, aS, lZ, lS, i64_w, i32_w]
    rfl
   refine take_ (i := 13) (N := some 54) (v := ?_) (a' := ?_) (bm 26 3735551) rfl rfl (take_ofW HT_.out HW_.out qz) iz (Or.inl ⟨by rfl, ?_⟩) hHeld ?_ ?_
   rotate_left
   ·
    rintro w' ⟨s0, s1, s2, s3, s4, s5, s6, s7, s8⟩
    go_simp
    with_reducible rfl
   rotate_left
   ·
    simp only [Act.put, aS, lZ, lS, i64_w, i32_w]
    rfl
   refine pa (i := 16) (N := some 57) (bm 26 3801087) HT_ ?_
   refine pa (i := 17) (N := some 58) (bm 26 3932159) HT_ ?_
   refine take_ (i := 18) (N := some 59) (v := ?_) (a' := ?_) (bm 26 4194303) rfl rfl (take_ofW HT_.out HW_.out qz) iz (Or.inl ⟨by rfl, ?_⟩) hHeld ?_ ?_
   rotate_left
   ·
    rintro w' ⟨s0, s1, s2, s3, s4, s5, s6, s7, s8⟩
    go_simp
    with_reducible rfl
   rotate_left
   ·
    simp only [Act.put, aS, lZ, lS, i64_w, i32_w]
    rfl
   refine take_ (i := 22) (N := some 63) (v := ?_) (a' := ?_) (bm 26 8388607) rfl rfl (take_ofW HT_.out HW_.out qz) iz (Or.inl ⟨by rfl, ?_⟩) hHeld ?_ ?_
   rotate_left
   ·
    rintro w' ⟨s0, s1, s2, s3, s4, s5, s6, s7, s8⟩
    go_simp
    with_reducible rfl
   rotate_left
   ·
    simp only [Act.put, aS, lZ, lS, i64_w, i32_w]
    rfl
   refine pa (i := 23) (N := some 64) (bm 26 16777215) HT_ ?_
   refine one_ (i := 24) (N := some 14) (bm 26 33554431) rfl rfl (one_of HT_.out qz) (by decide) (fun K hK => ?_)
   refine box_step ?hg (N := 14) ?hd (cs := #[.int .i64 0, .int .i64 0, .int .i64 0, .int .i64 0, .int .i64 0]) (t := 72) ?hr ?_; (case hd => rfl); (case hg => rfl); (case hr => first | (go_simp; done) | (go_simp; rfl))
   intro gb205 hg w32 hbox hb
   have n0_ := am (blk_below (o := .cells #[.int .i64 ((rd_T54 ((rd_T43 l0 a3).f0) a5).f0.f0), .int .i64 ((rd_T54 ((rd_T43 l0 a3).f0) a5).f0.f1), .int .i64 ((rd_T54 ((rd_T43 l0 a3).f0) (ji11)).f0.f0), .int .i64 ((rd_T54 ((rd_T43 l0 a3).f0) (ji11)).f0.f1), .int .i64 (rd l1 a3)] 72 (0, 0)) (kz BK199) hb)
   have n1_ := am (below_step bz hb)
   have n2_ := am (hbox)
   have n3_ := gwz (g := gb205) HB hg
   have n4_ := gwz (g := gb205) HB hg
   have n5_ := nlt (g' := gb205) BK199 hg
   have n6_ := ngt (g' := gb205) BK199 hg
   clear BK199
   clear HB
   have BK199 := n0_
   have HB := n1_
   have BK205 := n2_
   have GW205 := n3_
   have GE205 := n4_
   have NB199_205 := n5_
   have NB205_199 := n6_
   clear n0_ n1_ n2_ n3_ n4_ n5_ n6_
   clear hb hbox hg
   refine hK.out _ _ ⟨(cb HB.out hw200_0), (cb HB.out hw200_1), (cb HB.out hw201_0), (cb HB.out hw201_1), (cb HB.out hw202_0), (cb HB.out hw202_1), (cb HB.out hw203_0), (cb HB.out hw203_1), (cb HB.out hw204_0)⟩ (fun hHeld => ?_)
   clear hK K
   refine norm_ (a' := ?_) ?_ ?_
   rotate_left
   ·
    show Act.put _ (some 14) _ = _
    simp only [Act.put, aS, lZ, lS, i64_w, i32_w]
    rfl
   refine one_ (i := 25) (N := none) (bm 26 67108863) rfl rfl (one_of HT_.out qz) (by decide) (fun K hK => ?_)
   have hs33 : w32.cell? ⟨gb205, 0, none⟩ = some (.int .i64 0) := (blk_cell BK205.out 0).trans rfl
   have hfs33 := blk_frozen BK205.out 0
   have hns33_0 := NB199_205.out
   have hms33_0 := NB205_199.out
   have hs34 : w32.cell? ⟨gb205, 1, none⟩ = some (.int .i64 0) := (blk_cell BK205.out 1).trans rfl
   have hfs34 := blk_frozen BK205.out 1
   have hns34_0 := NB199_205.out
   have hms34_0 := NB205_199.out
   have hs35 : w32.cell? ⟨gb205, 2, none⟩ = some (.int .i64 0) := (blk_cell BK205.out 2).trans rfl
   have hfs35 := blk_frozen BK205.out 2
   have hns35_0 := NB199_205.out
   have hms35_0 := NB205_199.out
   have hs36 : w32.cell? ⟨gb205, 3, none⟩ = some (.int .i64 0) := (blk_cell BK205.out 3).trans rfl
   have hfs36 := blk_frozen BK205.out 3
   have hns36_0 := NB199_205.out
   have hms36_0 := NB205_199.out
   have hs37 : w32.cell? ⟨gb205, 4, none⟩ = some (.int .i64 0) := (blk_cell BK205.out 4).trans rfl
   have hfs37 := blk_frozen BK205.out 4
   have hns37_0 := NB199_205.out
   have hms37_0 := NB205_199.out
   refine skip_ (w1 := ?_) (by rfl) rfl ?_ ?_
   rotate_left
   ·
    go_simp
    rfl
   refine hK.out _ _ ⟨((cell_far (p := ⟨gb205, _, none⟩) (by first | exact nb hw200_0 GW205.out | exact nc hw200_0 GW205.out | exact nd hw200_0 GW205.out) _).trans (((cell_far (p := ⟨gb205, _, none⟩) (by first | exact nb hw200_0 GW205.out | exact nc hw200_0 GW205.out | exact nd hw200_0 GW205.out) _).trans (((cell_far (p := ⟨gb205, _, none⟩) (by first | exact nb hw200_0 GW205.out | exact nc hw200_0 GW205.out | exact nd hw200_0 GW205.out) _).trans (((cell_far (p := ⟨gb205, _, none⟩) (by first | exact nb hw200_0 GW205.out | exact nc hw200_0 GW205.out | exact nd hw200_0 GW205.out) _).trans (((cell_far (p := ⟨gb205, _, none⟩) (by first | exact nb hw200_0 GW205.out | exact nc hw200_0 GW205.out | exact nd hw200_0 GW205.out) _).trans (hHeld.1)))))))))), ((cell_far (p := ⟨gb205, _, none⟩) (by first | exact nb hw200_1 GW205.out | exact nc hw200_1 GW205.out | exact nd hw200_1 GW205.out) _).trans (((cell_far (p := ⟨gb205, _, none⟩) (by first | exact nb hw200_1 GW205.out | exact nc hw200_1 GW205.out | exact nd hw200_1 GW205.out) _).trans (((cell_far (p := ⟨gb205, _, none⟩) (by first | exact nb hw200_1 GW205.out | exact nc hw200_1 GW205.out | exact nd hw200_1 GW205.out) _).trans (((cell_far (p := ⟨gb205, _, none⟩) (by first | exact nb hw200_1 GW205.out | exact nc hw200_1 GW205.out | exact nd hw200_1 GW205.out) _).trans (((cell_far (p := ⟨gb205, _, none⟩) (by first | exact nb hw200_1 GW205.out | exact nc hw200_1 GW205.out | exact nd hw200_1 GW205.out) _).trans (hHeld.2.1)))))))))), ((cell_far (p := ⟨gb205, _, none⟩) (by first | exact nb hw201_0 GW205.out | exact nc hw201_0 GW205.out | exact nd hw201_0 GW205.out) _).trans (((cell_far (p := ⟨gb205, _, none⟩) (by first | exact nb hw201_0 GW205.out | exact nc hw201_0 GW205.out | exact nd hw201_0 GW205.out) _).trans (((cell_far (p := ⟨gb205, _, none⟩) (by first | exact nb hw201_0 GW205.out | exact nc hw201_0 GW205.out | exact nd hw201_0 GW205.out) _).trans (((cell_far (p := ⟨gb205, _, none⟩) (by first | exact nb hw201_0 GW205.out | exact nc hw201_0 GW205.out | exact nd hw201_0 GW205.out) _).trans (((cell_far (p := ⟨gb205, _, none⟩) (by first | exact nb hw201_0 GW205.out | exact nc hw201_0 GW205.out | exact nd hw201_0 GW205.out) _).trans (hHeld.2.2.1)))))))))), ((cell_far (p := ⟨gb205, _, none⟩) (by first | exact nb hw201_1 GW205.out | exact nc hw201_1 GW205.out | exact nd hw201_1 GW205.out) _).trans (((cell_far (p := ⟨gb205, _, none⟩) (by first | exact nb hw201_1 GW205.out | exact nc hw201_1 GW205.out | exact nd hw201_1 GW205.out) _).trans (((cell_far (p := ⟨gb205, _, none⟩) (by first | exact nb hw201_1 GW205.out | exact nc hw201_1 GW205.out | exact nd hw201_1 GW205.out) _).trans (((cell_far (p := ⟨gb205, _, none⟩) (by first | exact nb hw201_1 GW205.out | exact nc hw201_1 GW205.out | exact nd hw201_1 GW205.out) _).trans (((cell_far (p := ⟨gb205, _, none⟩) (by first | exact nb hw201_1 GW205.out | exact nc hw201_1 GW205.out | exact nd hw201_1 GW205.out) _).trans (hHeld.2.2.2.1)))))))))), ((cell_far (p := ⟨gb205, _, none⟩) (by first | exact nb hw202_0 GW205.out | exact nc hw202_0 GW205.out | exact nd hw202_0 GW205.out) _).trans (((cell_far (p := ⟨gb205, _, none⟩) (by first | exact nb hw202_0 GW205.out | exact nc hw202_0 GW205.out | exact nd hw202_0 GW205.out) _).trans (((cell_far (p := ⟨gb205, _, none⟩) (by first | exact nb hw202_0 GW205.out | exact nc hw202_0 GW205.out | exact nd hw202_0 GW205.out) _).trans (((cell_far (p := ⟨gb205, _, none⟩) (by first | exact nb hw202_0 GW205.out | exact nc hw202_0 GW205.out | exact nd hw202_0 GW205.out) _).trans (((cell_far (p := ⟨gb205, _, none⟩) (by first | exact nb hw202_0 GW205.out | exact nc hw202_0 GW205.out | exact nd hw202_0 GW205.out) _).trans (hHeld.2.2.2.2.1)))))))))), ((cell_far (p := ⟨gb205, _, none⟩) (by first | exact nb hw202_1 GW205.out | exact nc hw202_1 GW205.out | exact nd hw202_1 GW205.out) _).trans (((cell_far (p := ⟨gb205, _, none⟩) (by first | exact nb hw202_1 GW205.out | exact nc hw202_1 GW205.out | exact nd hw202_1 GW205.out) _).trans (((cell_far (p := ⟨gb205, _, none⟩) (by first | exact nb hw202_1 GW205.out | exact nc hw202_1 GW205.out | exact nd hw202_1 GW205.out) _).trans (((cell_far (p := ⟨gb205, _, none⟩) (by first | exact nb hw202_1 GW205.out | exact nc hw202_1 GW205.out | exact nd hw202_1 GW205.out) _).trans (((cell_far (p := ⟨gb205, _, none⟩) (by first | exact nb hw202_1 GW205.out | exact nc hw202_1 GW205.out | exact nd hw202_1 GW205.out) _).trans (hHeld.2.2.2.2.2.1)))))))))), ((cell_far (p := ⟨gb205, _, none⟩) (by first | exact nb hw203_0 GW205.out | exact nc hw203_0 GW205.out | exact nd hw203_0 GW205.out) _).trans (((cell_far (p := ⟨gb205, _, none⟩) (by first | exact nb hw203_0 GW205.out | exact nc hw203_0 GW205.out | exact nd hw203_0 GW205.out) _).trans (((cell_far (p := ⟨gb205, _, none⟩) (by first | exact nb hw203_0 GW205.out | exact nc hw203_0 GW205.out | exact nd hw203_0 GW205.out) _).trans (((cell_far (p := ⟨gb205, _, none⟩) (by first | exact nb hw203_0 GW205.out | exact nc hw203_0 GW205.out | exact nd hw203_0 GW205.out) _).trans (((cell_far (p := ⟨gb205, _, none⟩) (by first | exact nb hw203_0 GW205.out | exact nc hw203_0 GW205.out | exact nd hw203_0 GW205.out) _).trans (hHeld.2.2.2.2.2.2.1)))))))))), ((cell_far (p := ⟨gb205, _, none⟩) (by first | exact nb hw203_1 GW205.out | exact nc hw203_1 GW205.out | exact nd hw203_1 GW205.out) _).trans (((cell_far (p := ⟨gb205, _, none⟩) (by first | exact nb hw203_1 GW205.out | exact nc hw203_1 GW205.out | exact nd hw203_1 GW205.out) _).trans (((cell_far (p := ⟨gb205, _, none⟩) (by first | exact nb hw203_1 GW205.out | exact nc hw203_1 GW205.out | exact nd hw203_1 GW205.out) _).trans (((cell_far (p := ⟨gb205, _, none⟩) (by first | exact nb hw203_1 GW205.out | exact nc hw203_1 GW205.out | exact nd hw203_1 GW205.out) _).trans (((cell_far (p := ⟨gb205, _, none⟩) (by first | exact nb hw203_1 GW205.out | exact nc hw203_1 GW205.out | exact nd hw203_1 GW205.out) _).trans (hHeld.2.2.2.2.2.2.2.1)))))))))), ((cell_far (p := ⟨gb205, _, none⟩) (by first | exact nb hw204_0 GW205.out | exact nc hw204_0 GW205.out | exact nd hw204_0 GW205.out) _).trans (((cell_far (p := ⟨gb205, _, none⟩) (by first | exact nb hw204_0 GW205.out | exact nc hw204_0 GW205.out | exact nd hw204_0 GW205.out) _).trans (((cell_far (p := ⟨gb205, _, none⟩) (by first | exact nb hw204_0 GW205.out | exact nc hw204_0 GW205.out | exact nd hw204_0 GW205.out) _).trans (((cell_far (p := ⟨gb205, _, none⟩) (by first | exact nb hw204_0 GW205.out | exact nc hw204_0 GW205.out | exact nd hw204_0 GW205.out) _).trans (((cell_far (p := ⟨gb205, _, none⟩) (by first | exact nb hw204_0 GW205.out | exact nc hw204_0 GW205.out | exact nd hw204_0 GW205.out) _).trans (hHeld.2.2.2.2.2.2.2.2))))))))))⟩ (fun hHeld => ?_)
   clear hK K
   refine done_ (done_of HT_.out qz) ?_
   first
   | (have _ := tw1a
      try go_wp2_with (first | ((with_reducible refine gate_callee (f := 51) rfl ?_); refine goesL_ (some 69) rfl rfl Try.func51 qz rfl #[.slice A2 l2.length c2, .int .i64 a3, .int .i64 a4, .int .i64 a5] rfl mz ?_; (with_reducible refine (collide_contact.calls k _ _ l2 a3 a4 a5 true _ ?side1 ?side2 A20.out).mono ?_); (case side1 => exact Kd.C_below HR2.out bz); (case side2 => exact HC2.out); rintro e w38 ⟨rfl, hb⟩; refine ⟨_, rfl, ?_⟩; replace BK199 := am (blk_below (o := .cells #[.int .i64 ((rd_T54 ((rd_T43 l0 a3).f0) a5).f0.f0), .int .i64 ((rd_T54 ((rd_T43 l0 a3).f0) a5).f0.f1), .int .i64 ((rd_T54 ((rd_T43 l0 a3).f0) (ji11)).f0.f0), .int .i64 ((rd_T54 ((rd_T43 l0 a3).f0) (ji11)).f0.f1), .int .i64 (rd l1 a3)] 72 (0, 0)) (by (with_reducible repeat first | apply kN | apply kD | apply kA); refine blk_far ?_ NB199_205.out _; (with_reducible repeat first | apply kN | apply kD | apply kA); refine blk_far ?_ NB199_205.out _; (with_reducible repeat first | apply kN | apply kD | apply kA); refine blk_far ?_ NB199_205.out _; (with_reducible repeat first | apply kN | apply kD | apply kA); refine blk_far ?_ NB199_205.out _; (with_reducible repeat first | apply kN | apply kD | apply kA); refine blk_far ?_ NB199_205.out _; (with_reducible repeat first | apply kN | apply kD | apply kA); exact BK199.out) hb); replace BK205 := am (blk_below (o := .cells #[.int .i64 ((rd_T54 ((rd_T43 l0 a4).f0) a5).f0.f0), .int .i64 ((rd_T54 ((rd_T43 l0 a4).f0) a5).f0.f1), .int .i64 ((rd_T54 ((rd_T43 l0 a4).f0) (ji11)).f0.f0), .int .i64 ((rd_T54 ((rd_T43 l0 a4).f0) (ji11)).f0.f1), .int .i64 (rd l1 a4)] 72 (0, 0)) (by (with_reducible repeat first | apply kN | apply kD | apply kA); refine blk_put (cs := #[.int .i64 ((rd_T54 ((rd_T43 l0 a4).f0) a5).f0.f0), .int .i64 ((rd_T54 ((rd_T43 l0 a4).f0) a5).f0.f1), .int .i64 ((rd_T54 ((rd_T43 l0 a4).f0) (ji11)).f0.f0), .int .i64 ((rd_T54 ((rd_T43 l0 a4).f0) (ji11)).f0.f1), .int .i64 0]) ?_ 4 _ rfl; (with_reducible repeat first | apply kN | apply kD | apply kA); refine blk_put (cs := #[.int .i64 ((rd_T54 ((rd_T43 l0 a4).f0) a5).f0.f0), .int .i64 ((rd_T54 ((rd_T43 l0 a4).f0) a5).f0.f1), .int .i64 ((rd_T54 ((rd_T43 l0 a4).f0) (ji11)).f0.f0), .int .i64 0, .int .i64 0]) ?_ 3 _ rfl; (with_reducible repeat first | apply kN | apply kD | apply kA); refine blk_put (cs := #[.int .i64 ((rd_T54 ((rd_T43 l0 a4).f0) a5).f0.f0), .int .i64 ((rd_T54 ((rd_T43 l0 a4).f0) a5).f0.f1), .int .i64 0, .int .i64 0, .int .i64 0]) ?_ 2 _ rfl; (with_reducible repeat first | apply kN | apply kD | apply kA); refine blk_put (cs := #[.int .i64 ((rd_T54 ((rd_T43 l0 a4).f0) a5).f0.f0), .int .i64 0, .int .i64 0, .int .i64 0, .int .i64 0]) ?_ 1 _ rfl; (with_reducible repeat first | apply kN | apply kD | apply kA); refine blk_put (cs := #[.int .i64 0, .int .i64 0, .int .i64 0, .int .i64 0, .int .i64 0]) ?_ 0 _ rfl; (with_reducible repeat first | apply kN | apply kD | apply kA); exact BK205.out) hb); replace HB := am (below_step bz hb); (try clear hb); (try clear hb2); (try clear hk); (try clear hi); have hnb39 := NB199_205.out; have hnc39 := NB205_199.out; obtain ⟨hcz40_0, hcz40_1, hcz40_2, hcz40_3, hcz40_4, hfz40_0, hfz40_1, hfz40_2, hfz40_3, hfz40_4⟩ := kc5 BK199.out; obtain ⟨hcz41_0, hcz41_1, hcz41_2, hcz41_3, hcz41_4, hfz41_0, hfz41_1, hfz41_2, hfz41_3, hfz41_4⟩ := kc5 BK205.out) | ((with_reducible refine gate_callee (f := 37) rfl ?_); refine goesL_ (some 81) rfl rfl Try.func37 qz rfl #[.agg #[.int .i64 ((rd_T54 ((rd_T43 l0 a3).f0) a5).f0.f0), .int .i64 ((rd_T54 ((rd_T43 l0 a3).f0) a5).f0.f1), .int .i64 ((rd_T54 ((rd_T43 l0 a3).f0) (ji11)).f0.f0), .int .i64 ((rd_T54 ((rd_T43 l0 a3).f0) (ji11)).f0.f1), .int .i64 (wrap64 (Int.tdiv (rd l1 a3) 2))], .agg #[.int .i64 ((rd_T54 ((rd_T43 l0 a4).f0) a5).f0.f0), .int .i64 ((rd_T54 ((rd_T43 l0 a4).f0) a5).f0.f1), .int .i64 ((rd_T54 ((rd_T43 l0 a4).f0) (ji11)).f0.f0), .int .i64 ((rd_T54 ((rd_T43 l0 a4).f0) (ji11)).f0.f1), .int .i64 (wrap64 (Int.tdiv (rd l1 a4) 2))]] rfl (by (try simp only [List.map_toArray, List.map_cons, List.map_nil]); first | done | (simp only [hji11]; rfl) | rfl | (simp only [List.length_drop, List.length_take]; rfl)) ?_; (with_reducible refine (geom_Touch.calls k ((rd_T54 ((rd_T43 l0 a3).f0) a5).f0.f0) ((rd_T54 ((rd_T43 l0 a3).f0) a5).f0.f1) ((rd_T54 ((rd_T43 l0 a3).f0) (ji11)).f0.f0) ((rd_T54 ((rd_T43 l0 a3).f0) (ji11)).f0.f1) (wrap64 (Int.tdiv (rd l1 a3) 2)) ((rd_T54 ((rd_T43 l0 a4).f0) a5).f0.f0) ((rd_T54 ((rd_T43 l0 a4).f0) a5).f0.f1) ((rd_T54 ((rd_T43 l0 a4).f0) (ji11)).f0.f0) ((rd_T54 ((rd_T43 l0 a4).f0) (ji11)).f0.f1) (wrap64 (Int.tdiv (rd l1 a4) 2)) t207 t208 _ A22.out).mono ?_); rintro e w42 ⟨rfl, hb⟩; refine ⟨_, rfl, ?_⟩; replace BK199 := am (blk_below (o := .cells #[.int .i64 ((rd_T54 ((rd_T43 l0 a3).f0) a5).f0.f0), .int .i64 ((rd_T54 ((rd_T43 l0 a3).f0) a5).f0.f1), .int .i64 ((rd_T54 ((rd_T43 l0 a3).f0) (ji11)).f0.f0), .int .i64 ((rd_T54 ((rd_T43 l0 a3).f0) (ji11)).f0.f1), .int .i64 (wrap64 (Int.tdiv (rd l1 a3) 2))] 72 (0, 0)) (by (with_reducible repeat first | apply kN | apply kD | apply kA); refine blk_far ?_ NB199_205.out _; (with_reducible repeat first | apply kN | apply kD | apply kA); refine blk_put (cs := #[.int .i64 ((rd_T54 ((rd_T43 l0 a3).f0) a5).f0.f0), .int .i64 ((rd_T54 ((rd_T43 l0 a3).f0) a5).f0.f1), .int .i64 ((rd_T54 ((rd_T43 l0 a3).f0) (ji11)).f0.f0), .int .i64 ((rd_T54 ((rd_T43 l0 a3).f0) (ji11)).f0.f1), .int .i64 (rd l1 a3)]) ?_ 4 _ rfl; (with_reducible repeat first | apply kN | apply kD | apply kA); exact BK199.out) hb); replace BK205 := am (blk_below (o := .cells #[.int .i64 ((rd_T54 ((rd_T43 l0 a4).f0) a5).f0.f0), .int .i64 ((rd_T54 ((rd_T43 l0 a4).f0) a5).f0.f1), .int .i64 ((rd_T54 ((rd_T43 l0 a4).f0) (ji11)).f0.f0), .int .i64 ((rd_T54 ((rd_T43 l0 a4).f0) (ji11)).f0.f1), .int .i64 (wrap64 (Int.tdiv (rd l1 a4) 2))] 72 (0, 0)) (by (with_reducible repeat first | apply kN | apply kD | apply kA); refine blk_put (cs := #[.int .i64 ((rd_T54 ((rd_T43 l0 a4).f0) a5).f0.f0), .int .i64 ((rd_T54 ((rd_T43 l0 a4).f0) a5).f0.f1), .int .i64 ((rd_T54 ((rd_T43 l0 a4).f0) (ji11)).f0.f0), .int .i64 ((rd_T54 ((rd_T43 l0 a4).f0) (ji11)).f0.f1), .int .i64 (rd l1 a4)]) ?_ 4 _ rfl; (with_reducible repeat first | apply kN | apply kD | apply kA); refine blk_far ?_ NB205_199.out _; (with_reducible repeat first | apply kN | apply kD | apply kA); exact BK205.out) hb); replace HB := am (below_step bz hb); (try clear hb); (try clear hb2); (try clear hk); (try clear hi)))
      go_ret
      exact ⟨by first | rfl | (simp [errW_none, errW_some] <;> rfl) | (simp only [← hji11]; first | rfl | (simp [errW_none, errW_some] <;> rfl)) | (simp [*, errW_none, errW_some] <;> rfl), bz⟩)
   | (have _ := tw1b
      try go_wp2_with (first | ((with_reducible refine gate_callee (f := 51) rfl ?_); refine goesL_ (some 69) rfl rfl Try.func51 qz rfl #[.slice A2 l2.length c2, .int .i64 a3, .int .i64 a4, .int .i64 a5] rfl mz ?_; (with_reducible refine (collide_contact.calls k _ _ l2 a3 a4 a5 false _ ?side1 ?side2 A20.out).mono ?_); (case side1 => exact Kd.C_below HR2.out bz); (case side2 => exact HC2.out); rintro e w59 ⟨rfl, hb⟩; refine ⟨_, rfl, ?_⟩; replace BK199 := am (blk_below (o := .cells #[.int .i64 ((rd_T54 ((rd_T43 l0 a3).f0) a5).f0.f0), .int .i64 ((rd_T54 ((rd_T43 l0 a3).f0) a5).f0.f1), .int .i64 ((rd_T54 ((rd_T43 l0 a3).f0) (ji11)).f0.f0), .int .i64 ((rd_T54 ((rd_T43 l0 a3).f0) (ji11)).f0.f1), .int .i64 (rd l1 a3)] 72 (0, 0)) (by (with_reducible repeat first | apply kN | apply kD | apply kA); refine blk_far ?_ NB199_205.out _; (with_reducible repeat first | apply kN | apply kD | apply kA); refine blk_far ?_ NB199_205.out _; (with_reducible repeat first | apply kN | apply kD | apply kA); refine blk_far ?_ NB199_205.out _; (with_reducible repeat first | apply kN | apply kD | apply kA); refine blk_far ?_ NB199_205.out _; (with_reducible repeat first | apply kN | apply kD | apply kA); refine blk_far ?_ NB199_205.out _; (with_reducible repeat first | apply kN | apply kD | apply kA); exact BK199.out) hb); replace BK205 := am (blk_below (o := .cells #[.int .i64 ((rd_T54 ((rd_T43 l0 a4).f0) a5).f0.f0), .int .i64 ((rd_T54 ((rd_T43 l0 a4).f0) a5).f0.f1), .int .i64 ((rd_T54 ((rd_T43 l0 a4).f0) (ji11)).f0.f0), .int .i64 ((rd_T54 ((rd_T43 l0 a4).f0) (ji11)).f0.f1), .int .i64 (rd l1 a4)] 72 (0, 0)) (by (with_reducible repeat first | apply kN | apply kD | apply kA); refine blk_put (cs := #[.int .i64 ((rd_T54 ((rd_T43 l0 a4).f0) a5).f0.f0), .int .i64 ((rd_T54 ((rd_T43 l0 a4).f0) a5).f0.f1), .int .i64 ((rd_T54 ((rd_T43 l0 a4).f0) (ji11)).f0.f0), .int .i64 ((rd_T54 ((rd_T43 l0 a4).f0) (ji11)).f0.f1), .int .i64 0]) ?_ 4 _ rfl; (with_reducible repeat first | apply kN | apply kD | apply kA); refine blk_put (cs := #[.int .i64 ((rd_T54 ((rd_T43 l0 a4).f0) a5).f0.f0), .int .i64 ((rd_T54 ((rd_T43 l0 a4).f0) a5).f0.f1), .int .i64 ((rd_T54 ((rd_T43 l0 a4).f0) (ji11)).f0.f0), .int .i64 0, .int .i64 0]) ?_ 3 _ rfl; (with_reducible repeat first | apply kN | apply kD | apply kA); refine blk_put (cs := #[.int .i64 ((rd_T54 ((rd_T43 l0 a4).f0) a5).f0.f0), .int .i64 ((rd_T54 ((rd_T43 l0 a4).f0) a5).f0.f1), .int .i64 0, .int .i64 0, .int .i64 0]) ?_ 2 _ rfl; (with_reducible repeat first | apply kN | apply kD | apply kA); refine blk_put (cs := #[.int .i64 ((rd_T54 ((rd_T43 l0 a4).f0) a5).f0.f0), .int .i64 0, .int .i64 0, .int .i64 0, .int .i64 0]) ?_ 1 _ rfl; (with_reducible repeat first | apply kN | apply kD | apply kA); refine blk_put (cs := #[.int .i64 0, .int .i64 0, .int .i64 0, .int .i64 0, .int .i64 0]) ?_ 0 _ rfl; (with_reducible repeat first | apply kN | apply kD | apply kA); exact BK205.out) hb); replace HB := am (below_step bz hb); (try clear hb); (try clear hb2); (try clear hk); (try clear hi); have hnb60 := NB199_205.out; have hnc60 := NB205_199.out; obtain ⟨hcz61_0, hcz61_1, hcz61_2, hcz61_3, hcz61_4, hfz61_0, hfz61_1, hfz61_2, hfz61_3, hfz61_4⟩ := kc5 BK199.out; obtain ⟨hcz62_0, hcz62_1, hcz62_2, hcz62_3, hcz62_4, hfz62_0, hfz62_1, hfz62_2, hfz62_3, hfz62_4⟩ := kc5 BK205.out) | ((with_reducible refine gate_callee (f := 37) rfl ?_); refine goesL_ (some 81) rfl rfl Try.func37 qz rfl #[.agg #[.int .i64 ((rd_T54 ((rd_T43 l0 a3).f0) a5).f0.f0), .int .i64 ((rd_T54 ((rd_T43 l0 a3).f0) a5).f0.f1), .int .i64 ((rd_T54 ((rd_T43 l0 a3).f0) (ji11)).f0.f0), .int .i64 ((rd_T54 ((rd_T43 l0 a3).f0) (ji11)).f0.f1), .int .i64 (rd l1 a3)], .agg #[.int .i64 ((rd_T54 ((rd_T43 l0 a4).f0) a5).f0.f0), .int .i64 ((rd_T54 ((rd_T43 l0 a4).f0) a5).f0.f1), .int .i64 ((rd_T54 ((rd_T43 l0 a4).f0) (ji11)).f0.f0), .int .i64 ((rd_T54 ((rd_T43 l0 a4).f0) (ji11)).f0.f1), .int .i64 (rd l1 a4)]] rfl (by (try simp only [List.map_toArray, List.map_cons, List.map_nil]); first | done | (simp only [hji11]; rfl) | rfl | (simp only [List.length_drop, List.length_take]; rfl)) ?_; (with_reducible refine (geom_Touch.calls k ((rd_T54 ((rd_T43 l0 a3).f0) a5).f0.f0) ((rd_T54 ((rd_T43 l0 a3).f0) a5).f0.f1) ((rd_T54 ((rd_T43 l0 a3).f0) (ji11)).f0.f0) ((rd_T54 ((rd_T43 l0 a3).f0) (ji11)).f0.f1) (rd l1 a3) ((rd_T54 ((rd_T43 l0 a4).f0) a5).f0.f0) ((rd_T54 ((rd_T43 l0 a4).f0) a5).f0.f1) ((rd_T54 ((rd_T43 l0 a4).f0) (ji11)).f0.f0) ((rd_T54 ((rd_T43 l0 a4).f0) (ji11)).f0.f1) (rd l1 a4) t207 t208 _ A22.out).mono ?_); rintro e w63 ⟨rfl, hb⟩; refine ⟨_, rfl, ?_⟩; replace BK199 := am (blk_below (o := .cells #[.int .i64 ((rd_T54 ((rd_T43 l0 a3).f0) a5).f0.f0), .int .i64 ((rd_T54 ((rd_T43 l0 a3).f0) a5).f0.f1), .int .i64 ((rd_T54 ((rd_T43 l0 a3).f0) (ji11)).f0.f0), .int .i64 ((rd_T54 ((rd_T43 l0 a3).f0) (ji11)).f0.f1), .int .i64 (rd l1 a3)] 72 (0, 0)) (kz BK199) hb); replace BK205 := am (blk_below (o := .cells #[.int .i64 ((rd_T54 ((rd_T43 l0 a4).f0) a5).f0.f0), .int .i64 ((rd_T54 ((rd_T43 l0 a4).f0) a5).f0.f1), .int .i64 ((rd_T54 ((rd_T43 l0 a4).f0) (ji11)).f0.f0), .int .i64 ((rd_T54 ((rd_T43 l0 a4).f0) (ji11)).f0.f1), .int .i64 (rd l1 a4)] 72 (0, 0)) (kz BK205) hb); replace HB := am (below_step bz hb); (try clear hb); (try clear hb2); (try clear hk); (try clear hi)))
      go_ret
      exact ⟨by first | rfl | (simp [errW_none, errW_some] <;> rfl) | (simp only [← hji11]; first | rfl | (simp [errW_none, errW_some] <;> rfl)) | (simp [*, errW_none, errW_some] <;> rfl), bz⟩)
 ·
  rw [if_neg c7] at H
  exact absurd H (by simp)

end Go.Proofs.Yteflngoiebgdaaa.X
