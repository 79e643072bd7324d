-- squeezed
-- written by xprint.py, an own overlay over the kit's print; not trusted: Lean checks it
import Derived.Test.YtobehfghepbhbaaX0
import Derived.Test.YtobehfghepbhbaaX1
import Derived.Test.YtobehfghepbhbaaX2
import Derived.Test.YtobehfghepbhbaaX8
import Derived.Test.YtobehfghepbhbaaX9
namespace Go.Proofs.Ytobehfghepbhbaa.X
open Go.RowKit Go.Proofs.YtobehfghepbhbaaW.PrintWords Go.Proofs.YtobehfghepbhbaaW.PrintLast Go.Proofs.YtobehfghepbhbaaW.PrintMore
attribute [local go_sem] max2_int min2_int max_two min_two max_three min_three max_four min_four   -- for this text's walks alone
set_option linter.unusedVariables false
set_option linter.unusedSimpArgs false

/-! ### crc_Open: function 19 -/
def crc_Open.l0 : Nat → List Int → Int → Int → Int → Int → Option (List Int × Int × Int)
 | 0, _, _, _, _, _ => none
 | k + 1, x0, x5, x6, x8, x36 => if x36 < 4 then (if 0 ≤ (wrap64 (x6 + x36)) then (if (wrap64 (x6 + x36)) < (x0.length : Int) then (if 0 ≤ (wrap64 (8 * x36)) then (crc_Open.l0 k x0 x5 x6 (Go.bits .or .u32 x8 (shl .u32 ((rd x0 (wrap64 (x6 + x36))) % 4294967296) (wrap64 (8 * x36)))) (wrap64 (x36 + 1))) else (none)) else (none)) else (none)) else (if 0 ≤ (wrap64 (x6 + 4)) then (if (wrap64 (x6 + 4)) ≤ (wrap64 ((wrap64 (x6 + 4)) + x5)) then (if (wrap64 ((wrap64 (x6 + 4)) + x5)) ≤ (x0.length : Int) then ((slices_Clone_byte_byte.f ((x0.take ((wrap64 ((wrap64 (x6 + 4)) + x5)) : Int).toNat).drop ((wrap64 (x6 + 4)) : Int).toNat)).bind fun t142 => (if 0 ≤ x6 then (if x6 ≤ (x0.length : Int) then ((crc_Sum.f k (x0.take (x6 : Int).toNat)).bind fun t146 => ((crc_Extend.f k t146 t142).bind fun t147 => (if t147 = x8 then (some (t142, wrap64 ((wrap64 (x6 + 4)) + x5), 0)) else (some (([] : List Int), 0, 14))))) else (none)) else (none))) else (none)) else (none)) else (none))
def crc_Open.f (k : Nat) (l0 : List Int) : Option (List Int × Int × Int) := (wire_TakeInt.f k l0).bind fun bt137 => (if bt137.2.2 = 0 then (if bt137.1 < 0 then (some (([] : List Int), 0, 2)) else (if bt137.1 > 65536 then (some (([] : List Int), 0, 3)) else (if (wrap64 ((l0.length : Int) - bt137.2.1)) < (wrap64 (4 + bt137.1)) then (some (([] : List Int), 0, 13)) else (crc_Open.l0 k l0 bt137.1 bt137.2.1 0 0)))) else (some (([] : List Int), 0, bt137.2.2)))
theorem crc_Open.mono_l : ∀ k, (∀ y0 y1 y2 y3 y4, LeO (crc_Open.l0 k y0 y1 y2 y3 y4) (crc_Open.l0 (k + 1) y0 y1 y2 y3 y4))
 | 0 => fun _ _ _ _ _ r h => by simp [crc_Open.l0] at h
 | k + 1 => by
  have ih0 := crc_Open.mono_l k
  ·
   intro y0 y1 y2 y3 y4
   unfold crc_Open.l0
   repeat' first
   | (with_reducible exact ih0 _ _ _ _ _)
   | (with_reducible exact crc_Extend.mono _ _ _)
   | (with_reducible exact crc_Sum.mono _ _)
   | (with_reducible exact wire_TakeInt.mono _ _)
   | (with_reducible exact LeO.refl _)
   | (with_reducible exact LeO.none _)
   | (with_reducible refine LeO.ite ?_ ?_)
   | (with_reducible refine LeO.bind ?_ (fun _ => ?_))
   | exact ih0 _ _ _ _ _
   | exact crc_Extend.mono _ _ _
   | exact crc_Sum.mono _ _
   | exact wire_TakeInt.mono _ _
   | exact LeO.none _
   | refine LeO.ite ?_ ?_
   | refine LeO.bind ?_ (fun _ => ?_)
theorem crc_Open.mono : ∀ a0 k, LeO (crc_Open.f k a0) (crc_Open.f (k + 1) a0) := by
 intro a0 k
 have ih0 := crc_Open.mono_l k
 unfold crc_Open.f
 repeat' first
   | (with_reducible exact ih0 _ _ _ _ _)
   | (with_reducible exact crc_Extend.mono _ _ _)
   | (with_reducible exact crc_Sum.mono _ _)
   | (with_reducible exact wire_TakeInt.mono _ _)
   | (with_reducible exact LeO.refl _)
   | (with_reducible exact LeO.none _)
   | (with_reducible refine LeO.ite ?_ ?_)
   | (with_reducible refine LeO.bind ?_ (fun _ => ?_))
   | exact ih0 _ _ _ _ _
   | exact crc_Extend.mono _ _ _
   | exact crc_Sum.mono _ _
   | exact wire_TakeInt.mono _ _
   | exact LeO.none _
   | refine LeO.ite ?_ ?_
   | refine LeO.bind ?_ (fun _ => ?_)
set_option maxHeartbeats 8000000 in
set_option maxRecDepth 100000 in
theorem crc_Open.calls (k : Nat) (A0 : Option Addr) (c0 : Nat) (l0 : List Int) (r1 : List Int) (r2 r3 : Int) (w : World) (hr0 : Kd.C (Kd.int .u8) w A0 l0.length l0) (hc0 : l0.length ≤ c0) (h : crc_Open.f k l0 = some (r1, r2, r3)) :
  Calls Try.prog 19 #[.slice A0 l0.length c0] w fun e w' => ∃ v0_ : Value, e = .returned (.tuple #[v0_, .int .i64 r2, .int .i64 r3]) ∧ Kd.R (Kd.int .u8) 5 w' w.heap.size (fun _ => True) v0_ r1 ∧ Below w.heap.size w w' := by
 have HR0 := Aside0.mk hr0
 have HC0 := Aside0.mk hc0
 clear hr0 hc0
 have HB := Aside0.mk (Below.refl w.heap.size w)
 have H : ((wire_TakeInt.f k l0).bind fun bt137 => (if bt137.2.2 = 0 then (if bt137.1 < 0 then (some (([] : List Int), 0, 2)) else (if bt137.1 > 65536 then (some (([] : List Int), 0, 3)) else (if (wrap64 ((l0.length : Int) - bt137.2.1)) < (wrap64 (4 + bt137.1)) then (some (([] : List Int), 0, 13)) else (crc_Open.l0 k l0 bt137.1 bt137.2.1 0 0)))) else (some (([] : List Int), 0, bt137.2.2)))) = some (r1, r2, r3) := h
 clear h
 replace H := Option.bind_eq_some_iff.mp H
 obtain ⟨⟨t137, t138, t139⟩, A20, H⟩ := H
 replace H : (if t139 = 0 then (if t137 < 0 then (some (([] : List Int), 0, 2)) else (if t137 > 65536 then (some (([] : List Int), 0, 3)) else (if (wrap64 ((l0.length : Int) - t138)) < (wrap64 (4 + t137)) then (some (([] : List Int), 0, 13)) else (crc_Open.l0 k l0 t137 t138 0 0)))) else (some (([] : List Int), 0, t139))) = some (r1, r2, r3) := H
 have A2 := Aside0.mk A20
 clear A20
 by_cases c3 : t139 = 0
 ·
  rw [if_pos c3] at H
  have c3b0 : (t139 == 0) = true := beq_iff_eq.mpr c3
  have c3b1 : (t139 != 0) = false := bne_eq_false_iff_eq.mpr c3
  clear c3
  by_cases c4 : t137 < 0
  ·
   rw [if_pos c4] at H
   have c4b0 := decide_eq_true c4
   clear c4
   simp only [Option.some.injEq, Prod.mk.injEq] at H
   obtain ⟨rfl, rfl, rfl⟩ := H
   go_enter Try.func19, Try.ntmps19
   go_wp2_with (first | ((with_reducible refine gate_callee (f := 28) rfl ?_); refine goesL_ (some 14) rfl rfl Try.func28 (by kernel_rfl) rfl #[.slice A0 l0.length c0] rfl (by (try simp only [List.map_toArray, List.map_cons, List.map_nil]); first | done | rfl | (simp only [List.length_drop, List.length_take]; rfl)) ?_; (with_reducible refine (wire_TakeInt.calls k _ _ l0 t137 t138 t139 _ ?side1 ?side2 A2.out).mono ?_); (case side1 => repeat (first | exact HR0.out | (with_reducible first | apply cA | apply cN | apply cD))); (case side2 => exact HC0.out); rintro e w' ⟨rfl, ⟨nd, rfl⟩⟩; refine ⟨_, rfl, ?_⟩))
   go_ret3
   exact ⟨_, by first | rfl | (simp [errW_none, errW_some] <;> rfl) | (simp [*, errW_none, errW_some] <;> rfl), by first | exact Kd.R_nil _ _ _ _ _ | exact Kd.N_nil _ _ _ _ _ | exact Kd.V_nil _ _ _ _ _ | exact Kd.Q_nil _ _ _ _ _ | exact Kd.S_nil _ _ _ _ _, by repeat with_reducible first | exact HB.out | apply bA | apply bN | apply bD⟩
  ·
   rw [if_neg c4] at H
   have c4b0 := decide_eq_false c4
   clear c4
   by_cases c5 : t137 > 65536
   ·
    rw [if_pos c5] at H
    have c5b0 := decide_eq_true c5
    clear c5
    simp only [Option.some.injEq, Prod.mk.injEq] at H
    obtain ⟨rfl, rfl, rfl⟩ := H
    go_enter Try.func19, Try.ntmps19
    go_wp2_with (first | ((with_reducible refine gate_callee (f := 28) rfl ?_); refine goesL_ (some 14) rfl rfl Try.func28 (by kernel_rfl) rfl #[.slice A0 l0.length c0] rfl (by (try simp only [List.map_toArray, List.map_cons, List.map_nil]); first | done | rfl | (simp only [List.length_drop, List.length_take]; rfl)) ?_; (with_reducible refine (wire_TakeInt.calls k _ _ l0 t137 t138 t139 _ ?side1 ?side2 A2.out).mono ?_); (case side1 => repeat (first | exact HR0.out | (with_reducible first | apply cA | apply cN | apply cD))); (case side2 => exact HC0.out); rintro e w' ⟨rfl, ⟨nd, rfl⟩⟩; refine ⟨_, rfl, ?_⟩))
    go_ret3
    exact ⟨_, by first | rfl | (simp [errW_none, errW_some] <;> rfl) | (simp [*, errW_none, errW_some] <;> rfl), by first | exact Kd.R_nil _ _ _ _ _ | exact Kd.N_nil _ _ _ _ _ | exact Kd.V_nil _ _ _ _ _ | exact Kd.Q_nil _ _ _ _ _ | exact Kd.S_nil _ _ _ _ _, by repeat with_reducible first | exact HB.out | apply bA | apply bN | apply bD⟩
   ·
    rw [if_neg c5] at H
    have c5b0 := decide_eq_false c5
    clear c5
    by_cases c6 : (wrap64 ((l0.length : Int) - t138)) < (wrap64 (4 + t137))
    ·
     rw [if_pos c6] at H
     have c6b0 := decide_eq_true c6
     clear c6
     simp only [Option.some.injEq, Prod.mk.injEq] at H
     obtain ⟨rfl, rfl, rfl⟩ := H
     go_enter Try.func19, Try.ntmps19
     go_wp2_with (first | ((with_reducible refine gate_callee (f := 28) rfl ?_); refine goesL_ (some 14) rfl rfl Try.func28 (by kernel_rfl) rfl #[.slice A0 l0.length c0] rfl (by (try simp only [List.map_toArray, List.map_cons, List.map_nil]); first | done | rfl | (simp only [List.length_drop, List.length_take]; rfl)) ?_; (with_reducible refine (wire_TakeInt.calls k _ _ l0 t137 t138 t139 _ ?side1 ?side2 A2.out).mono ?_); (case side1 => repeat (first | exact HR0.out | (with_reducible first | apply cA | apply cN | apply cD))); (case side2 => exact HC0.out); rintro e w' ⟨rfl, ⟨nd, rfl⟩⟩; refine ⟨_, rfl, ?_⟩))
     go_ret3
     exact ⟨_, by first | rfl | (simp [errW_none, errW_some] <;> rfl) | (simp [*, errW_none, errW_some] <;> rfl), by first | exact Kd.R_nil _ _ _ _ _ | exact Kd.N_nil _ _ _ _ _ | exact Kd.V_nil _ _ _ _ _ | exact Kd.Q_nil _ _ _ _ _ | exact Kd.S_nil _ _ _ _ _, by repeat with_reducible first | exact HB.out | apply bA | apply bN | apply bD⟩
    ·
     rw [if_neg c6] at H
     have c6b0 := decide_eq_false c6
     clear c6
     have H' := Aside0.mk H
     clear H
     go_enter Try.func19, Try.ntmps19
     go_wp2_with (first | ((with_reducible refine gate_callee (f := 28) rfl ?_); refine goesL_ (some 14) rfl rfl Try.func28 (by kernel_rfl) rfl #[.slice A0 l0.length c0] rfl (by (try simp only [List.map_toArray, List.map_cons, List.map_nil]); first | done | rfl | (simp only [List.length_drop, List.length_take]; rfl)) ?_; (with_reducible refine (wire_TakeInt.calls k _ _ l0 t137 t138 t139 _ ?side1 ?side2 A2.out).mono ?_); (case side1 => repeat (first | exact HR0.out | (with_reducible first | apply cA | apply cN | apply cD))); (case side2 => exact HC0.out); rintro e w' ⟨rfl, ⟨nd, rfl⟩⟩; refine ⟨_, rfl, ?_⟩))
     go_loopg [8, 36] k (fun kq v8 v36 w' => ∃ (x8_1 x36_1 : Int), v8 = .int .u32 x8_1 ∧ v36 = .int .i64 x36_1 ∧ Aside0 (crc_Open.l0 kq l0 t137 t138 x8_1 x36_1 = some (r1, r2, r3)) ∧ Aside0 (kq ≤ k) ∧ Aside0 (Below w.heap.size w w'))
     case atStart => exact ⟨(0), (0), (by first | rfl | (simp; done) | (simp [*]; done)), (by first | rfl | (simp; done) | (simp [*]; done)), H', ⟨Nat.le_refl _⟩, ⟨by repeat with_reducible first | exact HB.out | apply bA | apply bN | apply bD⟩⟩
     case round =>
      clear H'
      try clear c1
      try clear c2
      try clear p2
      try clear c3
      try clear c3b0
      try clear c3b1
      try clear c4
      try clear c4b0
      try clear c5
      try clear c5b0
      try clear c6
      try clear c6b0
      try clear p6
      obtain ⟨x8_1, x36_1, rfl, rfl, HA, HK1, HB⟩ := hrel
      cases gk with
      | zero => exact absurd HA.out (by simp [crc_Open.l0])
      | succ k1 =>
       have H := HA.out
       clear HA
       simp only [crc_Open.l0] at H
       by_cases c7 : x36_1 < 4
       ·
        rw [if_pos c7] at H
        have c7b0 := decide_eq_true c7
        clear c7
        obtain ⟨ji8, hji8⟩ : ∃ j_ : Int, (wrap64 (t138 + x36_1)) = j_ := ⟨_, rfl⟩
        replace H : (if 0 ≤ (ji8) then (if (ji8) < (l0.length : Int) then (if 0 ≤ (wrap64 (8 * x36_1)) then (crc_Open.l0 k1 l0 t137 t138 (Go.bits .or .u32 x8_1 (shl .u32 ((rd l0 (ji8)) % 4294967296) (wrap64 (8 * x36_1)))) (wrap64 (x36_1 + 1))) else (none)) else (none)) else (none)) = some (r1, r2, r3) := by first | (rw [hji8] at H; exact H) | (simp only [hji8] at H ⊢; exact H)
        have hji8w : (IntKind.i64.wrap (t138 + x36_1)) = ji8 := (i64_w _).trans hji8
        by_cases c9 : 0 ≤ (ji8); rotate_left
        · rw [if_neg c9] at H; exact absurd H (by simp)
        rw [if_pos c9] at H
        have c9b0 := decide_eq_true c9
        clear c9
        by_cases c10 : (ji8) < (l0.length : Int); rotate_left
        · rw [if_neg c10] at H; exact absurd H (by simp)
        rw [if_pos c10] at H
        have c10b0 := decide_eq_true c10
        clear c10
        obtain ⟨ji11, hji11⟩ : ∃ j_ : Int, (wrap64 (8 * x36_1)) = j_ := ⟨_, rfl⟩
        replace H : (if 0 ≤ (ji11) then (crc_Open.l0 k1 l0 t137 t138 (Go.bits .or .u32 x8_1 (shl .u32 ((rd l0 (ji8)) % 4294967296) (ji11))) (wrap64 (x36_1 + 1))) else (none)) = some (r1, r2, r3) := by first | (rw [hji11] at H; exact H) | (simp only [hji11] at H ⊢; exact H)
        have hji11w : (IntKind.i64.wrap (8 * x36_1)) = ji11 := (i64_w _).trans hji11
        by_cases c12 : 0 ≤ (ji11); rotate_left
        · rw [if_neg c12] at H; exact absurd H (by simp)
        rw [if_pos c12] at H
        have c12b0 := eq_true c12
        have c12b1 : decide (0 ≤ (ji11)) = true := decide_eq_true c12
        clear c12
        obtain ⟨ji13, hji13⟩ : ∃ j_ : Int, (shl .u32 ((rd l0 (ji8)) % 4294967296) (ji11)) = j_ := ⟨_, rfl⟩
        replace H : (crc_Open.l0 k1 l0 t137 t138 (Go.bits .or .u32 x8_1 (ji13)) (wrap64 (x36_1 + 1))) = some (r1, r2, r3) := by first | (rw [hji13] at H; exact H) | (simp only [hji13] at H ⊢; exact H)
        have hji13_ : (IntKind.u32.wrap (((rd l0 (ji8)) % 4294967296) * 2 ^ min (ji11).toNat 32)) = ji13 := hji13
        have hji13z : (ji11) ≤ 32 → (IntKind.u32.wrap (((rd l0 (ji8)) % 4294967296) * 2 ^ (ji11).toNat)) = ji13 := shl_small hji13
        have H' := Aside0.mk H
        clear H
        have p140 : 0 ≤ ((ji8) : Int) := of_decide_eq_true (by first | (with_reducible assumption) | assumption)
        have q140 : (ji8) < (l0.length : Int) := of_decide_eq_true (by first | (with_reducible assumption) | assumption)
        obtain ⟨ad140, e140, hx140_0⟩ := Kd.at_int HR0.out (ji8) p140 q140
        cases e140
        replace hx140_0 := cb HB.out hx140_0
        replace p140 := eq_true p140
        replace q140 := eq_true q140
        go_wp2
        go_roundg k1
        case measure => have := HK1.out; omega
        case rel => exact ⟨(Go.bits .or .u32 x8_1 (ji13)), (wrap64 (x36_1 + 1)), (by first | rfl | (simp; done) | (simp only [← hji13] <;> (first | rfl | simp)) | (simp [*]; done)), (by first | rfl | (simp; done) | (simp [*]; done)), H', ⟨by have := HK1.out; omega⟩, ⟨by repeat with_reducible first | exact HB.out | apply bA | apply bN | apply bD⟩⟩
       ·
        rw [if_neg c7] at H
        have c7b0 := decide_eq_false c7
        clear c7
        obtain ⟨ji14, hji14⟩ : ∃ j_ : Int, (wrap64 (t138 + 4)) = j_ := ⟨_, rfl⟩
        replace H : (if 0 ≤ (ji14) then (if (ji14) ≤ (wrap64 ((ji14) + t137)) then (if (wrap64 ((ji14) + t137)) ≤ (l0.length : Int) then ((slices_Clone_byte_byte.f ((l0.take ((wrap64 ((ji14) + t137)) : Int).toNat).drop ((ji14) : Int).toNat)).bind fun t142 => (if 0 ≤ t138 then (if t138 ≤ (l0.length : Int) then ((crc_Sum.f k1 (l0.take (t138 : Int).toNat)).bind fun t146 => ((crc_Extend.f k1 t146 t142).bind fun t147 => (if t147 = x8_1 then (some (t142, wrap64 ((ji14) + t137), 0)) else (some (([] : List Int), 0, 14))))) else (none)) else (none))) else (none)) else (none)) else (none)) = some (r1, r2, r3) := by first | (rw [hji14] at H; exact H) | (simp only [hji14] at H ⊢; exact H)
        have hji14w : (IntKind.i64.wrap (t138 + 4)) = ji14 := (i64_w _).trans hji14
        by_cases c15 : 0 ≤ (ji14); rotate_left
        · rw [if_neg c15] at H; exact absurd H (by simp)
        rw [if_pos c15] at H
        have c15b0 := eq_true c15
        have c15b1 : decide (0 ≤ (ji14)) = true := decide_eq_true c15
        clear c15
        by_cases c16 : (ji14) ≤ (wrap64 ((ji14) + t137)); rotate_left
        · rw [if_neg c16] at H; exact absurd H (by simp)
        rw [if_pos c16] at H
        have c16b0 := eq_true c16
        have c16b1 : decide ((ji14) ≤ (wrap64 ((ji14) + t137))) = true := decide_eq_true c16
        by_cases c17 : (wrap64 ((ji14) + t137)) ≤ (l0.length : Int); rotate_left
        · rw [if_neg c17] at H; exact absurd H (by simp)
        rw [if_pos c17] at H
        have c17b0 := eq_true c17
        have c17b1 : decide ((wrap64 ((ji14) + t137)) ≤ (l0.length : Int)) = true := decide_eq_true c17
        replace H := Option.bind_eq_some_iff.mp H
        obtain ⟨t142, A180, H⟩ := H
        replace H : (if 0 ≤ t138 then (if t138 ≤ (l0.length : Int) then ((crc_Sum.f k1 (l0.take (t138 : Int).toNat)).bind fun t146 => ((crc_Extend.f k1 t146 t142).bind fun t147 => (if t147 = x8_1 then (some (t142, wrap64 ((ji14) + t137), 0)) else (some (([] : List Int), 0, 14))))) else (none)) else (none)) = some (r1, r2, r3) := H
        have A18 := Aside0.mk A180
        clear A180
        by_cases c19 : 0 ≤ t138; rotate_left
        · rw [if_neg c19] at H; exact absurd H (by simp)
        rw [if_pos c19] at H
        have c19b0 := eq_true c19
        have c19b1 : decide (0 ≤ t138) = true := decide_eq_true c19
        clear c19
        by_cases c20 : t138 ≤ (l0.length : Int); rotate_left
        · rw [if_neg c20] at H; exact absurd H (by simp)
        rw [if_pos c20] at H
        have c20b0 := eq_true c20
        have c20b1 : decide (t138 ≤ (l0.length : Int)) = true := decide_eq_true c20
        clear c20
        replace H := Option.bind_eq_some_iff.mp H
        obtain ⟨t146, A210, H⟩ := H
        replace H : ((crc_Extend.f k1 t146 t142).bind fun t147 => (if t147 = x8_1 then (some (t142, wrap64 ((ji14) + t137), 0)) else (some (([] : List Int), 0, 14)))) = some (r1, r2, r3) := H
        have A21 := Aside0.mk A210
        clear A210
        replace H := Option.bind_eq_some_iff.mp H
        obtain ⟨t147, A220, H⟩ := H
        replace H : (if t147 = x8_1 then (some (t142, wrap64 ((ji14) + t137), 0)) else (some (([] : List Int), 0, 14))) = some (r1, r2, r3) := H
        have A22 := Aside0.mk A220
        clear A220
        by_cases c23 : t147 = x8_1
        ·
         rw [if_pos c23] at H
         have c23b0 : (t147 == x8_1) = true := beq_iff_eq.mpr c23
         have c23b1 : (t147 != x8_1) = false := bne_eq_false_iff_eq.mpr c23
         clear c23
         simp only [Option.some.injEq, Prod.mk.injEq] at H
         obtain ⟨rfl, rfl, rfl⟩ := H
         obtain ⟨i024, hi024, _, hsz24, _⟩ := info_parts info5
         obtain ⟨A24, hcut24, hA24, hC24⟩ := print_mid_of (P := Try.prog) (Value.int .u8) 0 23 5 .i64 .i64 Try.underlying23 hi024 hsz24 A0 c0 l0 (ji14) (wrap64 ((ji14) + t137)) (of_decide_eq_true (by first | (with_reducible assumption) | assumption)) (by first | omega | exact of_decide_eq_true (by first | (with_reducible assumption) | assumption)) (of_decide_eq_true (by first | (with_reducible assumption) | assumption)) HC0.out
         have HR141 := Aside0.mk (Kd.C_of_reads (h1 := fun _ => rfl) (hA24 _ (Kd.reads_of_C HR0.out)))
         have HC141 := Aside0.mk hC24
         clear hA24 hC24 hi024 hsz24
         go_wp2_with (first | ((with_reducible refine gate_callee (f := 29) rfl ?_); refine goesL_ (some 61) rfl rfl Try.func29 (by kernel_rfl) rfl #[.slice A24 ((l0.take ((wrap64 ((ji14) + t137)) : Int).toNat).drop ((ji14) : Int).toNat).length (c0 - (ji14).toNat)] rfl (by (try simp only [List.map_toArray, List.map_cons, List.map_nil]); first | done | (rw [show ((l0.take ((wrap64 ((ji14) + t137)) : Int).toNat).drop ((ji14) : Int).toNat).length = ((wrap64 ((ji14) + t137)).toNat - (ji14).toNat) from (by rw [List.length_drop, List.length_take]; have h_ : ((wrap64 ((ji14) + t137)) : Int) ≤ (l0.length : Int) := of_decide_eq_true (by first | (with_reducible assumption) | assumption); omega)] <;> rfl) | (simp only [hji14]; rfl) | rfl | (simp only [List.length_drop, List.length_take]; rfl)) ?_; (with_reducible refine (slices_Clone_byte_byte.calls _ _ ((l0.take ((wrap64 ((ji14) + t137)) : Int).toNat).drop ((ji14) : Int).toNat) t142 _ ?side1 ?side2 A18.out).mono ?_); (case side1 => repeat (first | exact (Kd.C_below HR141.out HB.out) | (with_reducible first | apply cA | apply cN | apply cD))); (case side2 => exact HC141.out); rintro e w25 ⟨v143, rfl, ho0, hb⟩; refine ⟨_, rfl, ?_⟩; have HO144 := Aside0.mk (Kd.R_lower ho0 (below_size (by repeat with_reducible first | exact HB.out | apply bA | apply bN | apply bD))); replace HB := Aside0.mk (below_step (by repeat with_reducible first | exact HB.out | apply bA | apply bN | apply bD) hb); (try clear hb); (try clear hb2); (try clear hk); (try clear hi); (try clear ho0); obtain ⟨i026, hi026, _, hsz26, _⟩ := info_parts info5; obtain ⟨hcut26, hA26, hC26⟩ := print_take_of (P := Try.prog) (Value.int .u8) 0 23 5 .i64 Try.underlying23 hi026 hsz26 A0 c0 l0 t138 (of_decide_eq_true (by first | (with_reducible assumption) | assumption)) (of_decide_eq_true (by first | (with_reducible assumption) | assumption)) HC0.out; have HR145 := Aside0.mk (Kd.C_of_reads (h1 := fun _ => rfl) (hA26 _ (Kd.reads_of_C HR0.out))); have HC145 := Aside0.mk hC26; clear hA26 hC26 hi026 hsz26) | ((with_reducible refine gate_callee (f := 12) rfl ?_); refine goesL_ (some 65) rfl rfl Try.func12 (by kernel_rfl) rfl #[.slice A0 (l0.take (t138 : Int).toNat).length c0] rfl (by (try simp only [List.map_toArray, List.map_cons, List.map_nil]); first | done | (rw [show (l0.take (t138 : Int).toNat).length = t138.toNat from (by rw [List.length_take]; have h_ : (t138 : Int) ≤ (l0.length : Int) := of_decide_eq_true (by first | (with_reducible assumption) | assumption); omega)] <;> rfl) | rfl | (simp only [List.length_drop, List.length_take]; rfl)) ?_; (with_reducible refine (crc_Sum.calls k1 _ _ (l0.take (t138 : Int).toNat) t146 _ ?side1 ?side2 A21.out).mono ?_); (case side1 => repeat (first | exact (Kd.C_below HR145.out HB.out) | (with_reducible first | apply cA | apply cN | apply cD))); (case side2 => exact HC145.out); rintro e w' ⟨rfl, ⟨nd, rfl⟩⟩; refine ⟨_, rfl, ?_⟩; obtain ⟨Ao27, co27, eo27⟩ := Kd.R_slice HO144.out; subst eo27) | ((with_reducible refine gate_callee (f := 14) rfl ?_); refine goesL_ (some 67) rfl rfl Try.func14 (by kernel_rfl) rfl #[.int .u32 t146, .slice Ao27 t142.length co27] rfl (by (try simp only [List.map_toArray, List.map_cons, List.map_nil]); first | done | rfl | (simp only [List.length_drop, List.length_take]; rfl)) ?_; (with_reducible refine (crc_Extend.calls k1 t146 _ _ t142 t147 _ ?side1 ?side2 A22.out).mono ?_); (case side1 => repeat (first | exact (Kd.R_reads' HO144.out).2.2 | (with_reducible first | apply cA | apply cN | apply cD))); (case side2 => exact (Kd.R_reads' HO144.out).2.1); rintro e w' ⟨rfl, ⟨nd, rfl⟩⟩; refine ⟨_, rfl, ?_⟩))
         go_ret3
         exact ⟨_, by first | rfl | (simp [errW_none, errW_some] <;> rfl) | (simp only [← hji14]; first | rfl | (simp [errW_none, errW_some] <;> rfl)) | (simp [*, errW_none, errW_some] <;> rfl), by (with_reducible repeat first | apply rA | apply rN | apply rD); exact HO144.out, by repeat with_reducible first | exact HB.out | apply bA | apply bN | apply bD⟩
        ·
         rw [if_neg c23] at H
         have c23b0 : (t147 == x8_1) = false := beq_eq_false_iff_ne.mpr c23
         have c23b1 : (t147 != x8_1) = true := bne_iff_ne.mpr c23
         simp only [Option.some.injEq, Prod.mk.injEq] at H
         obtain ⟨rfl, rfl, rfl⟩ := H
         obtain ⟨i028, hi028, _, hsz28, _⟩ := info_parts info5
         obtain ⟨A28, hcut28, hA28, hC28⟩ := print_mid_of (P := Try.prog) (Value.int .u8) 0 23 5 .i64 .i64 Try.underlying23 hi028 hsz28 A0 c0 l0 (ji14) (wrap64 ((ji14) + t137)) (of_decide_eq_true (by first | (with_reducible assumption) | assumption)) (by first | omega | exact of_decide_eq_true (by first | (with_reducible assumption) | assumption)) (of_decide_eq_true (by first | (with_reducible assumption) | assumption)) HC0.out
         have HR141 := Aside0.mk (Kd.C_of_reads (h1 := fun _ => rfl) (hA28 _ (Kd.reads_of_C HR0.out)))
         have HC141 := Aside0.mk hC28
         clear hA28 hC28 hi028 hsz28
         (try clear hcut24)
         go_wp2_with (first | ((with_reducible refine gate_callee (f := 29) rfl ?_); refine goesL_ (some 61) rfl rfl Try.func29 (by kernel_rfl) rfl #[.slice A28 ((l0.take ((wrap64 ((ji14) + t137)) : Int).toNat).drop ((ji14) : Int).toNat).length (c0 - (ji14).toNat)] rfl (by (try simp only [List.map_toArray, List.map_cons, List.map_nil]); first | done | (rw [show ((l0.take ((wrap64 ((ji14) + t137)) : Int).toNat).drop ((ji14) : Int).toNat).length = ((wrap64 ((ji14) + t137)).toNat - (ji14).toNat) from (by rw [List.length_drop, List.length_take]; have h_ : ((wrap64 ((ji14) + t137)) : Int) ≤ (l0.length : Int) := of_decide_eq_true (by first | (with_reducible assumption) | assumption); omega)] <;> rfl) | (simp only [hji14]; rfl) | rfl | (simp only [List.length_drop, List.length_take]; rfl)) ?_; (with_reducible refine (slices_Clone_byte_byte.calls _ _ ((l0.take ((wrap64 ((ji14) + t137)) : Int).toNat).drop ((ji14) : Int).toNat) t142 _ ?side1 ?side2 A18.out).mono ?_); (case side1 => repeat (first | exact (Kd.C_below HR141.out HB.out) | (with_reducible first | apply cA | apply cN | apply cD))); (case side2 => exact HC141.out); rintro e w29 ⟨v143, rfl, ho0, hb⟩; refine ⟨_, rfl, ?_⟩; have HO144 := Aside0.mk (Kd.R_lower ho0 (below_size (by repeat with_reducible first | exact HB.out | apply bA | apply bN | apply bD))); replace HB := Aside0.mk (below_step (by repeat with_reducible first | exact HB.out | apply bA | apply bN | apply bD) hb); (try clear hb); (try clear hb2); (try clear hk); (try clear hi); (try clear ho0); obtain ⟨i030, hi030, _, hsz30, _⟩ := info_parts info5; obtain ⟨hcut30, hA30, hC30⟩ := print_take_of (P := Try.prog) (Value.int .u8) 0 23 5 .i64 Try.underlying23 hi030 hsz30 A0 c0 l0 t138 (of_decide_eq_true (by first | (with_reducible assumption) | assumption)) (of_decide_eq_true (by first | (with_reducible assumption) | assumption)) HC0.out; have HR145 := Aside0.mk (Kd.C_of_reads (h1 := fun _ => rfl) (hA30 _ (Kd.reads_of_C HR0.out))); have HC145 := Aside0.mk hC30; clear hA30 hC30 hi030 hsz30; (try clear hcut26)) | ((with_reducible refine gate_callee (f := 12) rfl ?_); refine goesL_ (some 65) rfl rfl Try.func12 (by kernel_rfl) rfl #[.slice A0 (l0.take (t138 : Int).toNat).length c0] rfl (by (try simp only [List.map_toArray, List.map_cons, List.map_nil]); first | done | (rw [show (l0.take (t138 : Int).toNat).length = t138.toNat from (by rw [List.length_take]; have h_ : (t138 : Int) ≤ (l0.length : Int) := of_decide_eq_true (by first | (with_reducible assumption) | assumption); omega)] <;> rfl) | rfl | (simp only [List.length_drop, List.length_take]; rfl)) ?_; (with_reducible refine (crc_Sum.calls k1 _ _ (l0.take (t138 : Int).toNat) t146 _ ?side1 ?side2 A21.out).mono ?_); (case side1 => repeat (first | exact (Kd.C_below HR145.out HB.out) | (with_reducible first | apply cA | apply cN | apply cD))); (case side2 => exact HC145.out); rintro e w' ⟨rfl, ⟨nd, rfl⟩⟩; refine ⟨_, rfl, ?_⟩; obtain ⟨Ao31, co31, eo31⟩ := Kd.R_slice HO144.out; subst eo31) | ((with_reducible refine gate_callee (f := 14) rfl ?_); refine goesL_ (some 67) rfl rfl Try.func14 (by kernel_rfl) rfl #[.int .u32 t146, .slice Ao31 t142.length co31] rfl (by (try simp only [List.map_toArray, List.map_cons, List.map_nil]); first | done | rfl | (simp only [List.length_drop, List.length_take]; rfl)) ?_; (with_reducible refine (crc_Extend.calls k1 t146 _ _ t142 t147 _ ?side1 ?side2 A22.out).mono ?_); (case side1 => repeat (first | exact (Kd.R_reads' HO144.out).2.2 | (with_reducible first | apply cA | apply cN | apply cD))); (case side2 => exact (Kd.R_reads' HO144.out).2.1); rintro e w' ⟨rfl, ⟨nd, rfl⟩⟩; refine ⟨_, rfl, ?_⟩))
         go_ret3
         exact ⟨_, by first | rfl | (simp [errW_none, errW_some] <;> rfl) | (simp only [← hji14]; first | rfl | (simp [errW_none, errW_some] <;> rfl)) | (simp [*, errW_none, errW_some] <;> rfl), by first | exact Kd.R_nil _ _ _ _ _ | exact Kd.N_nil _ _ _ _ _ | exact Kd.V_nil _ _ _ _ _ | exact Kd.Q_nil _ _ _ _ _ | exact Kd.S_nil _ _ _ _ _, by repeat with_reducible first | exact HB.out | apply bA | apply bN | apply bD⟩
 ·
  rw [if_neg c3] at H
  have c3b0 : (t139 == 0) = false := beq_eq_false_iff_ne.mpr c3
  have c3b1 : (t139 != 0) = true := bne_iff_ne.mpr c3
  simp only [Option.some.injEq, Prod.mk.injEq] at H
  obtain ⟨rfl, rfl, rfl⟩ := H
  go_enter Try.func19, Try.ntmps19
  go_wp2_with (first | ((with_reducible refine gate_callee (f := 28) rfl ?_); refine goesL_ (some 14) rfl rfl Try.func28 (by kernel_rfl) rfl #[.slice A0 l0.length c0] rfl (by (try simp only [List.map_toArray, List.map_cons, List.map_nil]); first | done | rfl | (simp only [List.length_drop, List.length_take]; rfl)) ?_; (with_reducible refine (wire_TakeInt.calls k _ _ l0 t137 t138 t139 _ ?side1 ?side2 A2.out).mono ?_); (case side1 => repeat (first | exact HR0.out | (with_reducible first | apply cA | apply cN | apply cD))); (case side2 => exact HC0.out); rintro e w' ⟨rfl, ⟨nd, rfl⟩⟩; refine ⟨_, rfl, ?_⟩))
  go_ret3
  exact ⟨_, by first | rfl | (simp [errW_none, errW_some] <;> rfl) | (simp [*, errW_none, errW_some] <;> rfl), by first | exact Kd.R_nil _ _ _ _ _ | exact Kd.N_nil _ _ _ _ _ | exact Kd.V_nil _ _ _ _ _ | exact Kd.Q_nil _ _ _ _ _ | exact Kd.S_nil _ _ _ _ _, by repeat with_reducible first | exact HB.out | apply bA | apply bN | apply bD⟩

end Go.Proofs.Ytobehfghepbhbaa.X
