import Derived.Test.YteflngoiebgdaaaX0
import Derived.Test.YteflngoiebgdaaaCMeetscX41
import Derived.Test.YteflngoiebgdaaaCMeets43
import Derived.Test.YteflngoiebgdaaaCMeetscX58
namespace Go.Proofs.Yteflngoiebgdaaa.X
open Go.RowKit YteflngoiebgdaaaW.PrintWords YteflngoiebgdaaaW.PrintLast YteflngoiebgdaaaW.PrintMore
attribute [local go_sem] max2_int min2_int max_two min_two max_three min_three max_four min_four
set_option linter.unusedVariables false
set_option linter.unusedSimpArgs false

/-! ### dancestudioref44_All: function 19 -/
mutual
def dancestudioref44_All.l0 : Nat → List (S43) → List Int → List (S62) → List (S30) → Int → Option ((List (S30)) × Int)
 | 0, _, _, _, _, _ => none
 | k + 1, x0, x1, x2, x9, x10 => if x10 < (x0.length : Int) then (dancestudioref44_All.l1 k x0 x1 x2 x9 x10 (wrap64 (x10 + 1))) else (some (x9, 0))
def dancestudioref44_All.l1 : Nat → List (S43) → List Int → List (S62) → List (S30) → Int → Int → Option ((List (S30)) × Int)
 | 0, _, _, _, _, _, _ => none
 | k + 1, x0, x1, x2, x9, x10, x11 => if x11 < (x0.length : Int) then (dancestudioref44_All.l2 k x0 x1 x2 x9 x10 x11 0) else (dancestudioref44_All.l0 k x0 x1 x2 x9 (wrap64 (x10 + 1)))
def dancestudioref44_All.l2 : Nat → List (S43) → List Int → List (S62) → List (S30) → Int → Int → Int → Option ((List (S30)) × Int)
 | 0, _, _, _, _, _, _, _ => none
 | k + 1, x0, x1, x2, x9, x10, x11, x12 => (dancestudioref44_length.f x0).bind fun t522 => (if x12 < t522 then ((dancestudioref44_meet.f k x0 x1 x2 x10 x11 x12).bind fun t523 => (if t523 = true then (if x9.length < 5864062014805 then (dancestudioref44_All.l1 k x0 x1 x2 (x9 ++ [(⟨x12, x10, x11⟩ : S30)]) x10 (wrap64 (x11 + 1))) else (none)) else (dancestudioref44_All.l2 k x0 x1 x2 x9 x10 x11 (wrap64 (x12 + 1))))) else (dancestudioref44_All.l1 k x0 x1 x2 x9 x10 (wrap64 (x11 + 1))))
end
def dancestudioref44_All.f (k : Nat) (l0 : List (S43)) (l1 : List Int) (l2 : List (S62)) : Option ((List (S30)) × Int) := (dancestudioref44_Check.f k l0 l1 l2).bind fun t521 => (if t521 = 0 then (dancestudioref44_All.l0 k l0 l1 l2 ([] : List (S30)) 0) else (some (([] : List (S30)), t521)))
theorem dancestudioref44_All.mono_l : ∀ k, (∀ y0 y1 y2 y3 y4, LeO (dancestudioref44_All.l0 k y0 y1 y2 y3 y4) (dancestudioref44_All.l0 (k + 1) y0 y1 y2 y3 y4)) ∧ (∀ y0 y1 y2 y3 y4 y5, LeO (dancestudioref44_All.l1 k y0 y1 y2 y3 y4 y5) (dancestudioref44_All.l1 (k + 1) y0 y1 y2 y3 y4 y5)) ∧ (∀ y0 y1 y2 y3 y4 y5 y6, LeO (dancestudioref44_All.l2 k y0 y1 y2 y3 y4 y5 y6) (dancestudioref44_All.l2 (k + 1) y0 y1 y2 y3 y4 y5 y6))
 | 0 => ⟨fun _ _ _ _ _ r h => by simp [dancestudioref44_All.l0] at h, fun _ _ _ _ _ _ r h => by simp [dancestudioref44_All.l1] at h, fun _ _ _ _ _ _ _ r h => by simp [dancestudioref44_All.l2] at h⟩
 | k + 1 => by
  obtain ⟨ih0, ih1, ih2⟩ := dancestudioref44_All.mono_l k
  refine ⟨?_, ?_, ?_⟩
  ·
   intro y0 y1 y2 y3 y4
   unfold dancestudioref44_All.l0
   repeat' first
   | (with_reducible exact ih0 _ _ _ _ _)
   | (with_reducible exact ih1 _ _ _ _ _ _)
   | (with_reducible exact ih2 _ _ _ _ _ _ _)
   | (with_reducible exact dancestudioref44_Check.mono _ _ _ _)
   | (with_reducible exact dancestudioref44_meet.mono _ _ _ _ _ _ _)
   | (with_reducible exact LeO.refl _)
   | (with_reducible exact LeO.none _)
   | (with_reducible refine LeO.ite ?_ ?_)
   | (with_reducible refine LeO.bind ?_ (fun _ => ?_))
   | exact ih0 _ _ _ _ _
   | exact ih1 _ _ _ _ _ _
   | exact ih2 _ _ _ _ _ _ _
   | exact dancestudioref44_Check.mono _ _ _ _
   | exact dancestudioref44_meet.mono _ _ _ _ _ _ _
   | exact LeO.none _
   | refine LeO.ite ?_ ?_
   | refine LeO.bind ?_ (fun _ => ?_)
  ·
   intro y0 y1 y2 y3 y4 y5
   unfold dancestudioref44_All.l1
   repeat' first
   | (with_reducible exact ih0 _ _ _ _ _)
   | (with_reducible exact ih1 _ _ _ _ _ _)
   | (with_reducible exact ih2 _ _ _ _ _ _ _)
   | (with_reducible exact dancestudioref44_Check.mono _ _ _ _)
   | (with_reducible exact dancestudioref44_meet.mono _ _ _ _ _ _ _)
   | (with_reducible exact LeO.refl _)
   | (with_reducible exact LeO.none _)
   | (with_reducible refine LeO.ite ?_ ?_)
   | (with_reducible refine LeO.bind ?_ (fun _ => ?_))
   | exact ih0 _ _ _ _ _
   | exact ih1 _ _ _ _ _ _
   | exact ih2 _ _ _ _ _ _ _
   | exact dancestudioref44_Check.mono _ _ _ _
   | exact dancestudioref44_meet.mono _ _ _ _ _ _ _
   | exact LeO.none _
   | refine LeO.ite ?_ ?_
   | refine LeO.bind ?_ (fun _ => ?_)
  ·
   intro y0 y1 y2 y3 y4 y5 y6
   unfold dancestudioref44_All.l2
   repeat' first
   | (with_reducible exact ih0 _ _ _ _ _)
   | (with_reducible exact ih1 _ _ _ _ _ _)
   | (with_reducible exact ih2 _ _ _ _ _ _ _)
   | (with_reducible exact dancestudioref44_Check.mono _ _ _ _)
   | (with_reducible exact dancestudioref44_meet.mono _ _ _ _ _ _ _)
   | (with_reducible exact LeO.refl _)
   | (with_reducible exact LeO.none _)
   | (with_reducible refine LeO.ite ?_ ?_)
   | (with_reducible refine LeO.bind ?_ (fun _ => ?_))
   | exact ih0 _ _ _ _ _
   | exact ih1 _ _ _ _ _ _
   | exact ih2 _ _ _ _ _ _ _
   | exact dancestudioref44_Check.mono _ _ _ _
   | exact dancestudioref44_meet.mono _ _ _ _ _ _ _
   | exact LeO.none _
   | refine LeO.ite ?_ ?_
   | refine LeO.bind ?_ (fun _ => ?_)
theorem dancestudioref44_All.mono : ∀ a0 a1 a2 k, LeO (dancestudioref44_All.f k a0 a1 a2) (dancestudioref44_All.f (k + 1) a0 a1 a2) := by
 intro a0 a1 a2 k
 obtain ⟨ih0, ih1, ih2⟩ := dancestudioref44_All.mono_l k
 unfold dancestudioref44_All.f
 repeat' first
   | (with_reducible exact ih0 _ _ _ _ _)
   | (with_reducible exact ih1 _ _ _ _ _ _)
   | (with_reducible exact ih2 _ _ _ _ _ _ _)
   | (with_reducible exact dancestudioref44_Check.mono _ _ _ _)
   | (with_reducible exact dancestudioref44_meet.mono _ _ _ _ _ _ _)
   | (with_reducible exact LeO.refl _)
   | (with_reducible exact LeO.none _)
   | (with_reducible refine LeO.ite ?_ ?_)
   | (with_reducible refine LeO.bind ?_ (fun _ => ?_))
   | exact ih0 _ _ _ _ _
   | exact ih1 _ _ _ _ _ _
   | exact ih2 _ _ _ _ _ _ _
   | exact dancestudioref44_Check.mono _ _ _ _
   | exact dancestudioref44_meet.mono _ _ _ _ _ _ _
   | exact LeO.none _
   | refine LeO.ite ?_ ?_
   | refine LeO.bind ?_ (fun _ => ?_)
set_option maxHeartbeats 8000000 in
set_option maxRecDepth 100000 in
theorem dancestudioref44_All.calls (k : Nat) (A0 : Option Addr) (c0 : Nat) (l0 : List (S43)) (A1 : Option Addr) (c1 : Nat) (l1 : List Int) (A2 : Option Addr) (c2 : Nat) (l2 : List (S62)) (r1 : List (S30)) (r2 : Int) (w : World) (hr0 : Kd.C k43 w A0 l0.length l0) (hc0 : l0.length ≤ c0) (hr1 : Kd.C (Kd.int .i64) w A1 l1.length l1) (hc1 : l1.length ≤ c1) (hr2 : Kd.C k62 w A2 l2.length l2) (hc2 : l2.length ≤ c2) (h : dancestudioref44_All.f k l0 l1 l2 = some (r1, r2)) :
  Calls Try.prog 19 #[.slice A0 l0.length c0, .slice A1 l1.length c1, .slice A2 l2.length c2] w fun e w' => ∃ v0_ : Value, e = .returned (.tuple #[v0_, .int .i64 r2]) ∧ Kd.R k30 30 w' w.heap.size (fun _ => True) v0_ r1 ∧ Below w.heap.size w w' := by
 have hu30 := Try.underlying30
 have HR0 := am hr0
 have HC0 := am hc0
 clear hr0 hc0
 have HR1 := am hr1
 have HC1 := am hc1
 clear hr1 hc1
 have HR2 := am hr2
 have HC2 := am hc2
 clear hr2 hc2
 have HB := am (Below.refl w.heap.size w)
 have H : ((dancestudioref44_Check.f k l0 l1 l2).bind fun t521 => (if t521 = 0 then (dancestudioref44_All.l0 k l0 l1 l2 ([] : List (S30)) 0) else (some (([] : List (S30)), t521)))) = some (r1, r2) := h
 clear h
 replace H := Option.bind_eq_some_iff.mp H
 obtain ⟨t521, A40, H⟩ := H
 replace H : (if t521 = 0 then (dancestudioref44_All.l0 k l0 l1 l2 ([] : List (S30)) 0) else (some (([] : List (S30)), t521))) = some (r1, r2) := H
 have A4 := am A40
 clear A40
 by_cases c5 : t521 = 0
 ·
  rw [if_pos c5] at H
  have c5b0 : (t521 == 0) = true := beq_iff_eq.mpr c5
  have c5b1 : (t521 != 0) = false := bne_eq_false_iff_eq.mpr c5
  clear c5
  have H' := am H
  clear H
  go_enter Try.func19, Try.ntmps19
  go_wp2_with (first | ((with_reducible refine gate_callee (f := 13) rfl ?_); refine goesL_ (some 16) rfl rfl Try.func13 qz rfl #[.slice A0 l0.length c0, .slice A1 l1.length c1, .slice A2 l2.length c2] rfl mz ?_; (with_reducible refine (dancestudioref44_Check.calls k _ _ l0 _ _ l1 _ _ l2 t521 _ ?side1 ?side2 ?side3 ?side4 ?side5 ?side6 A4.out).mono ?_); (case side1 => repeat (first | exact HR0.out | (with_reducible first | apply cA | apply cN | apply cD))); (case side2 => exact HC0.out); (case side3 => repeat (first | exact HR1.out | (with_reducible first | apply cA | apply cN | apply cD))); (case side4 => exact HC1.out); (case side5 => repeat (first | exact HR2.out | (with_reducible first | apply cA | apply cN | apply cD))); (case side6 => exact HC2.out); rintro e w6 ⟨rfl, hb⟩; refine ⟨_, rfl, ?_⟩; replace HB := am (below_step bz hb); (try clear hb); (try clear hb2); (try clear hk); (try clear hi)))
  go_loopg [9, 10] k (fun kq v9 v10 w' => ∃ (x9_1 : List (S30)) (x10_1 : Int), v10 = .int .i64 x10_1 ∧ Aside0 (dancestudioref44_All.l0 kq l0 l1 l2 x9_1 x10_1 = some (r1, r2)) ∧ Aside0 (kq ≤ k) ∧ Aside0 (Kd.R k30 30 w' w.heap.size (fun _ => True) v9 x9_1) ∧ Aside0 (Below w.heap.size w w'))
  case atStart => exact ⟨(([] : List (S30))), (0), sz, H', ⟨Nat.le_refl _⟩, ⟨by first | exact Kd.R_nil _ _ _ _ _ | exact Kd.N_nil _ _ _ _ _ | exact Kd.V_nil _ _ _ _ _ | exact Kd.Q_nil _ _ _ _ _ | exact Kd.S_nil _ _ _ _ _⟩, ⟨bz⟩⟩
  case round =>
   clear H'
   try clear c1
   try clear c2
   try clear p2
   try clear c5
   try clear c5b0
   try clear c5b1
   obtain ⟨x9_1, x10_1, rfl, HA, HK1, HO_9, HB⟩ := hrel
   cases gk with
   | zero => exact absurd HA.out (by simp [dancestudioref44_All.l0])
   | succ k1 =>
    have H := HA.out
    clear HA
    simp only [dancestudioref44_All.l0] at H
    by_cases c7 : x10_1 < (l0.length : Int)
    ·
     rw [if_pos c7] at H
     have c7b0 := decide_eq_true c7
     clear c7
     have H' := am H
     clear H
     go_wp2
     go_loopg [9, 11] k1 (fun kq v9 v11 w' => ∃ (x9_2 : List (S30)) (x11_2 : Int), v11 = .int .i64 x11_2 ∧ Aside0 (dancestudioref44_All.l1 kq l0 l1 l2 x9_2 x10_1 x11_2 = some (r1, r2)) ∧ Aside0 (kq ≤ k1) ∧ Aside0 (Kd.R k30 30 w' w.heap.size (fun _ => True) v9 x9_2) ∧ Aside0 (Below w.heap.size w w'))
     case atStart => exact ⟨(x9_1), (wrap64 (x10_1 + 1)), sz, H', ⟨Nat.le_refl _⟩, ⟨rz HO_9⟩, ⟨bz⟩⟩
     case round =>
      clear H'
      try clear c1
      try clear c2
      try clear p2
      try clear c5
      try clear c5b0
      try clear c5b1
      try clear p6
      try clear c7
      try clear c7b0
      try clear p2
      obtain ⟨x9_2, x11_2, rfl, HA, HK2, HO_9, HB⟩ := hrel
      cases gk with
      | zero => exact absurd HA.out (by simp [dancestudioref44_All.l1])
      | succ k2 =>
       have H := HA.out
       clear HA
       simp only [dancestudioref44_All.l1] at H
       by_cases c8 : x11_2 < (l0.length : Int)
       ·
        rw [if_pos c8] at H
        have c8b0 := decide_eq_true c8
        clear c8
        have H' := am H
        clear H
        go_wp2
        go_loopg [9, 12] k2 (fun kq v9 v12 w' => ∃ (x9_3 : List (S30)) (x12_3 : Int), v12 = .int .i64 x12_3 ∧ Aside0 (dancestudioref44_All.l2 kq l0 l1 l2 x9_3 x10_1 x11_2 x12_3 = some (r1, r2)) ∧ Aside0 (kq ≤ k2) ∧ Aside0 (Kd.R k30 30 w' w.heap.size (fun _ => True) v9 x9_3) ∧ Aside0 (Below w.heap.size w w'))
        case atStart => exact ⟨(x9_2), (0), sz, H', ⟨Nat.le_refl _⟩, ⟨rz HO_9⟩, ⟨bz⟩⟩
        case round =>
         clear H'
         try clear c1
         try clear c2
         try clear p2
         try clear c5
         try clear c5b0
         try clear c5b1
         try clear p6
         try clear c7
         try clear c7b0
         try clear c8
         try clear c8b0
         try clear p2
         try clear p6
         obtain ⟨x9_3, x12_3, rfl, HA, HK3, HO_9, HB⟩ := hrel
         cases gk with
         | zero => exact absurd HA.out (by simp [dancestudioref44_All.l2])
         | succ k3 =>
          have H := HA.out
          clear HA
          simp only [dancestudioref44_All.l2] at H
          replace H := Option.bind_eq_some_iff.mp H
          obtain ⟨t522, A90, H⟩ := H
          replace H : (if x12_3 < t522 then ((dancestudioref44_meet.f k3 l0 l1 l2 x10_1 x11_2 x12_3).bind fun t523 => (if t523 = true then (if x9_3.length < 5864062014805 then (dancestudioref44_All.l1 k3 l0 l1 l2 (x9_3 ++ [(⟨x12_3, x10_1, x11_2⟩ : S30)]) x10_1 (wrap64 (x11_2 + 1))) else (none)) else (dancestudioref44_All.l2 k3 l0 l1 l2 x9_3 x10_1 x11_2 (wrap64 (x12_3 + 1))))) else (dancestudioref44_All.l1 k3 l0 l1 l2 x9_3 x10_1 (wrap64 (x11_2 + 1)))) = some (r1, r2) := H
          have A9 := am A90
          clear A90
          by_cases c10 : x12_3 < t522
          ·
           rw [if_pos c10] at H
           have c10b0 := decide_eq_true c10
           clear c10
           replace H := Option.bind_eq_some_iff.mp H
           obtain ⟨t523, A110, H⟩ := H
           replace H : (if t523 = true then (if x9_3.length < 5864062014805 then (dancestudioref44_All.l1 k3 l0 l1 l2 (x9_3 ++ [(⟨x12_3, x10_1, x11_2⟩ : S30)]) x10_1 (wrap64 (x11_2 + 1))) else (none)) else (dancestudioref44_All.l2 k3 l0 l1 l2 x9_3 x10_1 x11_2 (wrap64 (x12_3 + 1)))) = some (r1, r2) := H
           have A11 := am A110
           clear A110
           by_cases c12 : t523 = true
           ·
            subst c12
            have H1 : (if x9_3.length < 5864062014805 then (dancestudioref44_All.l1 k3 l0 l1 l2 (x9_3 ++ [(⟨x12_3, x10_1, x11_2⟩ : S30)]) x10_1 (wrap64 (x11_2 + 1))) else (none)) = some (r1, r2) := by rw [if_pos rfl] at H; exact H
            clear H
            have H := H1
            clear H1
            by_cases c13 : x9_3.length < 5864062014805; rotate_left
            · rw [if_neg c13] at H; exact absurd H (by simp)
            rw [if_pos c13] at H
            have LMc13 := am c13
            clear c13
            obtain ⟨y524, hy524⟩ : ∃ y_ : List (S30), y_ = (x9_3 ++ [(⟨x12_3, x10_1, x11_2⟩ : S30)]) := ⟨_, rfl⟩
            replace H : (dancestudioref44_All.l1 k3 l0 l1 l2 y524 x10_1 (wrap64 (x11_2 + 1))) = some (r1, r2) := by first | (rw [hy524]; with_reducible exact H) | (have H2_ := (Option.bind_some _ _).symm.trans H; rw [hy524]; with_reducible exact H2_) | (have H2_ := (Option.bind_some _ _).symm.trans H; with_reducible exact H2_) | with_reducible exact H | (rw [hy524]; exact H) | exact H
            have Ny524 := am hy524
            clear hy524
            have H' := am H
            clear H
            go_wp2_with (first | ((with_reducible refine gate_callee (f := 34) rfl ?_); refine goesL_ (some 36) rfl rfl Try.func34 qz rfl #[.slice A0 l0.length c0] rfl mz ?_; (with_reducible refine (dancestudioref44_length.calls _ _ l0 t522 _ ?side1 ?side2 A9.out).mono ?_); (case side1 => exact cz HR0); (case side2 => exact HC0.out); rintro e w' ⟨rfl, ⟨nd, rfl⟩⟩; refine ⟨_, rfl, ?_⟩) | ((with_reducible refine gate_callee (f := 35) rfl ?_); refine goesL_ (some 46) rfl rfl Try.func35 qz rfl #[.slice A0 l0.length c0, .slice A1 l1.length c1, .slice A2 l2.length c2, .int .i64 x10_1, .int .i64 x11_2, .int .i64 x12_3] rfl mz ?_; (with_reducible refine (dancestudioref44_meet.calls k3 _ _ l0 _ _ l1 _ _ l2 x10_1 x11_2 x12_3 true _ ?side1 ?side2 ?side3 ?side4 ?side5 ?side6 A11.out).mono ?_); (case side1 => repeat (first | exact (Kd.C_below HR0.out bz) | (with_reducible first | apply cA | apply cN | apply cD))); (case side2 => exact HC0.out); (case side3 => repeat (first | exact (Kd.C_below HR1.out bz) | (with_reducible first | apply cA | apply cN | apply cD))); (case side4 => exact HC1.out); (case side5 => repeat (first | exact (Kd.C_below HR2.out bz) | (with_reducible first | apply cA | apply cN | apply cD))); (case side6 => exact HC2.out); rintro e w14 ⟨rfl, hb⟩; refine ⟨_, rfl, ?_⟩; replace HO_9 := am (Kd.R_below (rz HO_9) hb); replace HB := am (below_step bz hb); (try clear hb); (try clear hb2); (try clear hk); (try clear hi)) | ((with_reducible refine gate_builtin (b := .append) (xs := #[.tmp 47, .tmp 52]) rfl ?_); at_builtin; refine Kd.R_append k30 (w0 := w) w.heap.size rfl (.tmp 47) (.tmp 52) 33 30 (.agg #[(.int .i64 0), (.int .i64 0), (.int .i64 0)]) 24 rfl Try.underlying33 info30 rfl (by decide) (by omega) u9 x9_3 (⟨x12_3, x10_1, x11_2⟩ : S30) [.int .i64 x12_3, .int .i64 x10_1, .int .i64 x11_2] (fun _ => True) (fun _ => False) rfl rfl ?aP (fun _ hk => hk.elim) ?aF ?aO ?aB ?aS ?aL ?_; (case aP => exact k30_mkM _ _ _ (⟨x12_3, x10_1, x11_2⟩ : S30)); (case aB => exact bz); (case aF => exact (fun _ _ => trivial)); (case aO => exact (rz HO_9)); (case aS => exact (below_size bz)); (case aL => have := LMc13.out; omega); intro v525 w15 ho hb hg hat; rw [← Ny524.out] at ho; replace HB := am (hb); have HO526 := am (ho); clear HO_9; clear ho hb hg hat))
            go_roundg k3
            case measure => have := HK1.out; have := HK2.out; have := HK3.out; omega
            case rel => exact ⟨(y524), (wrap64 (x11_2 + 1)), sz, H', ⟨by have := HK1.out; have := HK2.out; have := HK3.out; omega⟩, ⟨rz HO526⟩, ⟨bz⟩⟩
           ·
            replace c12 := Bool.eq_false_iff.mpr c12
            subst c12
            have H1 : (dancestudioref44_All.l2 k3 l0 l1 l2 x9_3 x10_1 x11_2 (wrap64 (x12_3 + 1))) = some (r1, r2) := by rw [if_neg (show ¬ (false = true) by decide)] at H; exact H
            clear H
            have H := H1
            clear H1
            have H' := am H
            clear H
            go_wp2_with (first | ((with_reducible refine gate_callee (f := 34) rfl ?_); refine goesL_ (some 36) rfl rfl Try.func34 qz rfl #[.slice A0 l0.length c0] rfl mz ?_; (with_reducible refine (dancestudioref44_length.calls _ _ l0 t522 _ ?side1 ?side2 A9.out).mono ?_); (case side1 => exact cz HR0); (case side2 => exact HC0.out); rintro e w' ⟨rfl, ⟨nd, rfl⟩⟩; refine ⟨_, rfl, ?_⟩) | ((with_reducible refine gate_callee (f := 35) rfl ?_); refine goesL_ (some 46) rfl rfl Try.func35 qz rfl #[.slice A0 l0.length c0, .slice A1 l1.length c1, .slice A2 l2.length c2, .int .i64 x10_1, .int .i64 x11_2, .int .i64 x12_3] rfl mz ?_; (with_reducible refine (dancestudioref44_meet.calls k3 _ _ l0 _ _ l1 _ _ l2 x10_1 x11_2 x12_3 false _ ?side1 ?side2 ?side3 ?side4 ?side5 ?side6 A11.out).mono ?_); (case side1 => repeat (first | exact (Kd.C_below HR0.out bz) | (with_reducible first | apply cA | apply cN | apply cD))); (case side2 => exact HC0.out); (case side3 => repeat (first | exact (Kd.C_below HR1.out bz) | (with_reducible first | apply cA | apply cN | apply cD))); (case side4 => exact HC1.out); (case side5 => repeat (first | exact (Kd.C_below HR2.out bz) | (with_reducible first | apply cA | apply cN | apply cD))); (case side6 => exact HC2.out); rintro e w16 ⟨rfl, hb⟩; refine ⟨_, rfl, ?_⟩; replace HO_9 := am (Kd.R_below (rz HO_9) hb); replace HB := am (below_step bz hb); (try clear hb); (try clear hb2); (try clear hk); (try clear hi)))
            go_roundg k3
            case measure => have := HK1.out; have := HK2.out; have := HK3.out; omega
            case rel => exact ⟨(x9_3), (wrap64 (x12_3 + 1)), sz, H', ⟨by have := HK1.out; have := HK2.out; have := HK3.out; omega⟩, ⟨rz HO_9⟩, ⟨bz⟩⟩
          ·
           rw [if_neg c10] at H
           have c10b0 := decide_eq_false c10
           clear c10
           have H' := am H
           clear H
           go_wp2_with (first | ((with_reducible refine gate_callee (f := 34) rfl ?_); refine goesL_ (some 36) rfl rfl Try.func34 qz rfl #[.slice A0 l0.length c0] rfl mz ?_; (with_reducible refine (dancestudioref44_length.calls _ _ l0 t522 _ ?side1 ?side2 A9.out).mono ?_); (case side1 => exact cz HR0); (case side2 => exact HC0.out); rintro e w' ⟨rfl, ⟨nd, rfl⟩⟩; refine ⟨_, rfl, ?_⟩))
           go_roundg k3
           case measure => have := HK1.out; have := HK2.out; have := HK3.out; omega
           case rel => exact ⟨(x9_3), (wrap64 (x11_2 + 1)), sz, H', ⟨by have := HK1.out; have := HK2.out; have := HK3.out; omega⟩, ⟨rz HO_9⟩, ⟨bz⟩⟩
       ·
        rw [if_neg c8] at H
        have c8b0 := decide_eq_false c8
        clear c8
        have H' := am H
        clear H
        go_wp2
        go_roundg k2
        case measure => have := HK1.out; have := HK2.out; omega
        case rel => exact ⟨(x9_2), (wrap64 (x10_1 + 1)), sz, H', ⟨by have := HK1.out; have := HK2.out; omega⟩, ⟨rz HO_9⟩, ⟨bz⟩⟩
    ·
     rw [if_neg c7] at H
     have c7b0 := decide_eq_false c7
     clear c7
     simp only [Option.some.injEq, Prod.mk.injEq] at H
     obtain ⟨rfl, rfl⟩ := H
     go_wp2
     go_ret2
     exact ⟨_, ez, by (with_reducible repeat first | apply rA | apply rN | apply rD); exact HO_9.out, bz⟩
 ·
  rw [if_neg c5] at H
  have c5b0 : (t521 == 0) = false := beq_eq_false_iff_ne.mpr c5
  have c5b1 : (t521 != 0) = true := bne_iff_ne.mpr c5
  simp only [Option.some.injEq, Prod.mk.injEq] at H
  obtain ⟨rfl, rfl⟩ := H
  go_enter Try.func19, Try.ntmps19
  go_wp2_with (first | ((with_reducible refine gate_callee (f := 13) rfl ?_); refine goesL_ (some 16) rfl rfl Try.func13 qz rfl #[.slice A0 l0.length c0, .slice A1 l1.length c1, .slice A2 l2.length c2] rfl mz ?_; (with_reducible refine (dancestudioref44_Check.calls k _ _ l0 _ _ l1 _ _ l2 t521 _ ?side1 ?side2 ?side3 ?side4 ?side5 ?side6 A4.out).mono ?_); (case side1 => repeat (first | exact HR0.out | (with_reducible first | apply cA | apply cN | apply cD))); (case side2 => exact HC0.out); (case side3 => repeat (first | exact HR1.out | (with_reducible first | apply cA | apply cN | apply cD))); (case side4 => exact HC1.out); (case side5 => repeat (first | exact HR2.out | (with_reducible first | apply cA | apply cN | apply cD))); (case side6 => exact HC2.out); rintro e w17 ⟨rfl, hb⟩; refine ⟨_, rfl, ?_⟩; replace HB := am (below_step bz hb); (try clear hb); (try clear hb2); (try clear hk); (try clear hi)))
  go_ret2
  exact ⟨_, ez, by first | exact Kd.R_nil _ _ _ _ _ | exact Kd.N_nil _ _ _ _ _ | exact Kd.V_nil _ _ _ _ _ | exact Kd.Q_nil _ _ _ _ _ | exact Kd.S_nil _ _ _ _ _, bz⟩

end Go.Proofs.Yteflngoiebgdaaa.X
