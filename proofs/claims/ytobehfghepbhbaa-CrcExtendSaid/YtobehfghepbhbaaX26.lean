-- squeezed
-- written by xprint.py, an own overlay over the kit's print; not trusted: Lean checks it
import Derived.Test.YtobehfghepbhbaaX0
import Derived.Test.YtobehfghepbhbaaX12
import Derived.Test.YtobehfghepbhbaaX13
import Derived.Test.YtobehfghepbhbaaX19
import Derived.Test.YtobehfghepbhbaaX21
import Derived.Test.YtobehfghepbhbaaX25
namespace Go.Proofs.Ytobehfghepbhbaa.X
open Go.RowKit Go.Proofs.YtobehfghepbhbaaW.PrintWords Go.Proofs.YtobehfghepbhbaaW.PrintLast Go.Proofs.YtobehfghepbhbaaW.PrintMore
attribute [local go_sem] max2_int min2_int max_two min_two max_three min_three max_four min_four   -- for this text's walks alone
set_option linter.unusedVariables false
set_option linter.unusedSimpArgs false

/-! ### dancestudioref08_Open: function 20 -/
def dancestudioref08_Open.f (k : Nat) (l0 : List Int) : Option (List Int × Int × Int) := (dancestudioref07_TakeInt.f k l0).bind fun bt346 => (if bt346.2.2 = 0 then (if bt346.1 < 0 then (some (([] : List Int), 0, 2)) else (if bt346.1 > 65536 then (some (([] : List Int), 0, 3)) else (if (l0.length : Int) < (wrap64 ((wrap64 (bt346.2.1 + 4)) + bt346.1)) then (some (([] : List Int), 0, 13)) else (if 0 ≤ bt346.2.1 then (if bt346.2.1 ≤ (l0.length : Int) then ((dancestudioref08_Sum.f k (l0.take (bt346.2.1 : Int).toNat)).bind fun t350 => (if 0 ≤ (wrap64 (bt346.2.1 + 4)) then (if (wrap64 (bt346.2.1 + 4)) ≤ (wrap64 ((wrap64 (bt346.2.1 + 4)) + bt346.1)) then (if (wrap64 ((wrap64 (bt346.2.1 + 4)) + bt346.1)) ≤ (l0.length : Int) then ((dancestudioref08_Extend.f k t350 ((l0.take ((wrap64 ((wrap64 (bt346.2.1 + 4)) + bt346.1)) : Int).toNat).drop ((wrap64 (bt346.2.1 + 4)) : Int).toNat)).bind fun t352 => ((dancestudioref08_four.f t352).bind fun t353 => (if bt346.2.1 ≤ (wrap64 (bt346.2.1 + 4)) then (if (wrap64 (bt346.2.1 + 4)) ≤ (l0.length : Int) then ((dancestudioref08_Same.f t353 ((l0.take ((wrap64 (bt346.2.1 + 4)) : Int).toNat).drop (bt346.2.1 : Int).toNat)).bind fun t357 => (if t357 = true then (if ([] : List Int).length + ((l0.take ((wrap64 ((wrap64 (bt346.2.1 + 4)) + bt346.1)) : Int).toNat).drop ((wrap64 (bt346.2.1 + 4)) : Int).toNat).length < 140737488355328 then (some ((([] : List Int) ++ ((l0.take ((wrap64 ((wrap64 (bt346.2.1 + 4)) + bt346.1)) : Int).toNat).drop ((wrap64 (bt346.2.1 + 4)) : Int).toNat)), wrap64 ((wrap64 (bt346.2.1 + 4)) + bt346.1), 0)) else (none)) else (some (([] : List Int), 0, 14)))) else (none)) else (none)))) else (none)) else (none)) else (none))) else (none)) else (none))))) else (some (([] : List Int), 0, bt346.2.2)))
theorem dancestudioref08_Open.mono : ∀ a0 k, LeO (dancestudioref08_Open.f k a0) (dancestudioref08_Open.f (k + 1) a0) := by
 intro a0 k
 unfold dancestudioref08_Open.f
 repeat' first
   | (with_reducible exact dancestudioref07_TakeInt.mono _ _)
   | (with_reducible exact dancestudioref08_Extend.mono _ _ _)
   | (with_reducible exact dancestudioref08_Sum.mono _ _)
   | (with_reducible exact LeO.refl _)
   | (with_reducible exact LeO.none _)
   | (with_reducible refine LeO.ite ?_ ?_)
   | (with_reducible refine LeO.bind ?_ (fun _ => ?_))
   | exact dancestudioref07_TakeInt.mono _ _
   | exact dancestudioref08_Extend.mono _ _ _
   | exact dancestudioref08_Sum.mono _ _
   | exact LeO.none _
   | refine LeO.ite ?_ ?_
   | refine LeO.bind ?_ (fun _ => ?_)
def dancestudioref08_Open.T10 : Bool × List (List Nat × List Nat) := (true, [([], []), ([], []), ([0, 1], [0, 1]), ([2], [2]), ([], []), ([], []), ([5], [5]), ([], []), ([7], [7]), ([], []), ([8, 9], [8, 9]), ([4, 6, 10], [4, 6, 10]), ([3, 11, 3], [3, 11]), ([12, 12, 0, 1, 2, 3, 4, 5, 6, 7, 8, 9, 10, 11, 12], [12])])
def dancestudioref08_Open.B10 : List Nat := [0, 0, 3, 7, 0, 0, 32, 0, 128, 0, 896, 2032, 4095, 8191]
theorem dancestudioref08_Open.tab10 : rtab .any (opsOf Try.f20 10) = dancestudioref08_Open.T10 := by kernel_rfl
theorem dancestudioref08_Open.bits10 : waitsOk dancestudioref08_Open.T10.2 dancestudioref08_Open.B10 = true := by kernel_rfl
def dancestudioref08_Open.T11 : Bool × List (List Nat × List Nat) := (true, [([], []), ([0], [0]), ([], []), ([], []), ([], []), ([4], [4]), ([2, 3, 5], [2, 3, 5]), ([1, 6, 1], [1, 6]), ([7], [7])])
def dancestudioref08_Open.B11 : List Nat := [0, 1, 0, 0, 0, 16, 60, 127, 255]
theorem dancestudioref08_Open.tab11 : rtab .any (opsOf Try.f20 11) = dancestudioref08_Open.T11 := by kernel_rfl
theorem dancestudioref08_Open.bits11 : waitsOk dancestudioref08_Open.T11.2 dancestudioref08_Open.B11 = true := by kernel_rfl
set_option maxHeartbeats 8000000 in
set_option maxRecDepth 100000 in
theorem dancestudioref08_Open.calls (k : Nat) (A0 : Option Addr) (c0 : Nat) (l0 : List Int) (r1 : List Int) (r2 r3 : Int) (w : World) (hr0 : Kd.C (Kd.int .u8) w A0 l0.length l0) (hc0 : l0.length ≤ c0) (h : dancestudioref08_Open.f k l0 = some (r1, r2, r3)) :
  Calls Try.prog 20 #[.slice A0 l0.length c0] w fun e w' => ∃ v0_ : Value, e = .returned (.tuple #[v0_, .int .i64 r2, .int .i64 r3]) ∧ Kd.R (Kd.int .u8) 5 w' w.heap.size (fun _ => True) v0_ r1 ∧ Below w.heap.size w w' := by
 have HR0 := Aside0.mk hr0
 have HC0 := Aside0.mk hc0
 clear hr0 hc0
 have HB := Aside0.mk (Below.refl w.heap.size w)
 have H : ((dancestudioref07_TakeInt.f k l0).bind fun bt346 => (if bt346.2.2 = 0 then (if bt346.1 < 0 then (some (([] : List Int), 0, 2)) else (if bt346.1 > 65536 then (some (([] : List Int), 0, 3)) else (if (l0.length : Int) < (wrap64 ((wrap64 (bt346.2.1 + 4)) + bt346.1)) then (some (([] : List Int), 0, 13)) else (if 0 ≤ bt346.2.1 then (if bt346.2.1 ≤ (l0.length : Int) then ((dancestudioref08_Sum.f k (l0.take (bt346.2.1 : Int).toNat)).bind fun t350 => (if 0 ≤ (wrap64 (bt346.2.1 + 4)) then (if (wrap64 (bt346.2.1 + 4)) ≤ (wrap64 ((wrap64 (bt346.2.1 + 4)) + bt346.1)) then (if (wrap64 ((wrap64 (bt346.2.1 + 4)) + bt346.1)) ≤ (l0.length : Int) then ((dancestudioref08_Extend.f k t350 ((l0.take ((wrap64 ((wrap64 (bt346.2.1 + 4)) + bt346.1)) : Int).toNat).drop ((wrap64 (bt346.2.1 + 4)) : Int).toNat)).bind fun t352 => ((dancestudioref08_four.f t352).bind fun t353 => (if bt346.2.1 ≤ (wrap64 (bt346.2.1 + 4)) then (if (wrap64 (bt346.2.1 + 4)) ≤ (l0.length : Int) then ((dancestudioref08_Same.f t353 ((l0.take ((wrap64 (bt346.2.1 + 4)) : Int).toNat).drop (bt346.2.1 : Int).toNat)).bind fun t357 => (if t357 = true then (if ([] : List Int).length + ((l0.take ((wrap64 ((wrap64 (bt346.2.1 + 4)) + bt346.1)) : Int).toNat).drop ((wrap64 (bt346.2.1 + 4)) : Int).toNat).length < 140737488355328 then (some ((([] : List Int) ++ ((l0.take ((wrap64 ((wrap64 (bt346.2.1 + 4)) + bt346.1)) : Int).toNat).drop ((wrap64 (bt346.2.1 + 4)) : Int).toNat)), wrap64 ((wrap64 (bt346.2.1 + 4)) + bt346.1), 0)) else (none)) else (some (([] : List Int), 0, 14)))) else (none)) else (none)))) else (none)) else (none)) else (none))) else (none)) else (none))))) else (some (([] : List Int), 0, bt346.2.2)))) = some (r1, r2, r3) := h
 clear h
 replace H := Option.bind_eq_some_iff.mp H
 obtain ⟨⟨t346, t347, t348⟩, A20, H⟩ := H
 replace H : (if t348 = 0 then (if t346 < 0 then (some (([] : List Int), 0, 2)) else (if t346 > 65536 then (some (([] : List Int), 0, 3)) else (if (l0.length : Int) < (wrap64 ((wrap64 (t347 + 4)) + t346)) then (some (([] : List Int), 0, 13)) else (if 0 ≤ t347 then (if t347 ≤ (l0.length : Int) then ((dancestudioref08_Sum.f k (l0.take (t347 : Int).toNat)).bind fun t350 => (if 0 ≤ (wrap64 (t347 + 4)) then (if (wrap64 (t347 + 4)) ≤ (wrap64 ((wrap64 (t347 + 4)) + t346)) then (if (wrap64 ((wrap64 (t347 + 4)) + t346)) ≤ (l0.length : Int) then ((dancestudioref08_Extend.f k t350 ((l0.take ((wrap64 ((wrap64 (t347 + 4)) + t346)) : Int).toNat).drop ((wrap64 (t347 + 4)) : Int).toNat)).bind fun t352 => ((dancestudioref08_four.f t352).bind fun t353 => (if t347 ≤ (wrap64 (t347 + 4)) then (if (wrap64 (t347 + 4)) ≤ (l0.length : Int) then ((dancestudioref08_Same.f t353 ((l0.take ((wrap64 (t347 + 4)) : Int).toNat).drop (t347 : Int).toNat)).bind fun t357 => (if t357 = true then (if ([] : List Int).length + ((l0.take ((wrap64 ((wrap64 (t347 + 4)) + t346)) : Int).toNat).drop ((wrap64 (t347 + 4)) : Int).toNat).length < 140737488355328 then (some ((([] : List Int) ++ ((l0.take ((wrap64 ((wrap64 (t347 + 4)) + t346)) : Int).toNat).drop ((wrap64 (t347 + 4)) : Int).toNat)), wrap64 ((wrap64 (t347 + 4)) + t346), 0)) else (none)) else (some (([] : List Int), 0, 14)))) else (none)) else (none)))) else (none)) else (none)) else (none))) else (none)) else (none))))) else (some (([] : List Int), 0, t348))) = some (r1, r2, r3) := H
 have A2 := Aside0.mk A20
 clear A20
 by_cases c3 : t348 = 0
 ·
  rw [if_pos c3] at H
  have c3b0 : (t348 == 0) = true := beq_iff_eq.mpr c3
  have c3b1 : (t348 != 0) = false := bne_eq_false_iff_eq.mpr c3
  clear c3
  by_cases c4 : t346 < 0
  ·
   rw [if_pos c4] at H
   have c4b0 := decide_eq_true c4
   clear c4
   simp only [Option.some.injEq, Prod.mk.injEq] at H
   obtain ⟨rfl, rfl, rfl⟩ := H
   go_enter Try.func20, Try.ntmps20
   go_wp2_with (first | ((with_reducible refine gate_callee (f := 30) rfl ?_); refine goesL_ (some 12) rfl rfl Try.func30 (by kernel_rfl) rfl #[.slice A0 l0.length c0] rfl (by (try simp only [List.map_toArray, List.map_cons, List.map_nil]); first | done | rfl | (simp only [List.length_drop, List.length_take]; rfl)) ?_; (with_reducible refine (dancestudioref07_TakeInt.calls k _ _ l0 t346 t347 t348 _ ?side1 ?side2 A2.out).mono ?_); (case side1 => repeat (first | exact HR0.out | (with_reducible first | apply cA | apply cN | apply cD))); (case side2 => exact HC0.out); rintro e w' ⟨rfl, ⟨nd, rfl⟩⟩; refine ⟨_, rfl, ?_⟩))
   go_ret3
   exact ⟨_, by first | rfl | (simp [errW_none, errW_some] <;> rfl) | (simp [*, errW_none, errW_some] <;> rfl), by first | exact Kd.R_nil _ _ _ _ _ | exact Kd.N_nil _ _ _ _ _ | exact Kd.V_nil _ _ _ _ _ | exact Kd.Q_nil _ _ _ _ _ | exact Kd.S_nil _ _ _ _ _, by repeat with_reducible first | exact HB.out | apply bA | apply bN | apply bD⟩
  ·
   rw [if_neg c4] at H
   have c4b0 := decide_eq_false c4
   clear c4
   by_cases c5 : t346 > 65536
   ·
    rw [if_pos c5] at H
    have c5b0 := decide_eq_true c5
    clear c5
    simp only [Option.some.injEq, Prod.mk.injEq] at H
    obtain ⟨rfl, rfl, rfl⟩ := H
    go_enter Try.func20, Try.ntmps20
    go_wp2_with (first | ((with_reducible refine gate_callee (f := 30) rfl ?_); refine goesL_ (some 12) rfl rfl Try.func30 (by kernel_rfl) rfl #[.slice A0 l0.length c0] rfl (by (try simp only [List.map_toArray, List.map_cons, List.map_nil]); first | done | rfl | (simp only [List.length_drop, List.length_take]; rfl)) ?_; (with_reducible refine (dancestudioref07_TakeInt.calls k _ _ l0 t346 t347 t348 _ ?side1 ?side2 A2.out).mono ?_); (case side1 => repeat (first | exact HR0.out | (with_reducible first | apply cA | apply cN | apply cD))); (case side2 => exact HC0.out); rintro e w' ⟨rfl, ⟨nd, rfl⟩⟩; refine ⟨_, rfl, ?_⟩))
    go_ret3
    exact ⟨_, by first | rfl | (simp [errW_none, errW_some] <;> rfl) | (simp [*, errW_none, errW_some] <;> rfl), by first | exact Kd.R_nil _ _ _ _ _ | exact Kd.N_nil _ _ _ _ _ | exact Kd.V_nil _ _ _ _ _ | exact Kd.Q_nil _ _ _ _ _ | exact Kd.S_nil _ _ _ _ _, by repeat with_reducible first | exact HB.out | apply bA | apply bN | apply bD⟩
   ·
    rw [if_neg c5] at H
    have c5b0 := decide_eq_false c5
    clear c5
    by_cases c6 : (l0.length : Int) < (wrap64 ((wrap64 (t347 + 4)) + t346))
    ·
     rw [if_pos c6] at H
     have c6b0 := decide_eq_true c6
     clear c6
     simp only [Option.some.injEq, Prod.mk.injEq] at H
     obtain ⟨rfl, rfl, rfl⟩ := H
     go_enter Try.func20, Try.ntmps20
     go_wp2_with (first | ((with_reducible refine gate_callee (f := 30) rfl ?_); refine goesL_ (some 12) rfl rfl Try.func30 (by kernel_rfl) rfl #[.slice A0 l0.length c0] rfl (by (try simp only [List.map_toArray, List.map_cons, List.map_nil]); first | done | rfl | (simp only [List.length_drop, List.length_take]; rfl)) ?_; (with_reducible refine (dancestudioref07_TakeInt.calls k _ _ l0 t346 t347 t348 _ ?side1 ?side2 A2.out).mono ?_); (case side1 => repeat (first | exact HR0.out | (with_reducible first | apply cA | apply cN | apply cD))); (case side2 => exact HC0.out); rintro e w' ⟨rfl, ⟨nd, rfl⟩⟩; refine ⟨_, rfl, ?_⟩))
     go_ret3
     exact ⟨_, by first | rfl | (simp [errW_none, errW_some] <;> rfl) | (simp [*, errW_none, errW_some] <;> rfl), by first | exact Kd.R_nil _ _ _ _ _ | exact Kd.N_nil _ _ _ _ _ | exact Kd.V_nil _ _ _ _ _ | exact Kd.Q_nil _ _ _ _ _ | exact Kd.S_nil _ _ _ _ _, by repeat with_reducible first | exact HB.out | apply bA | apply bN | apply bD⟩
    ·
     rw [if_neg c6] at H
     have c6b0 := decide_eq_false c6
     clear c6
     by_cases c7 : 0 ≤ t347; rotate_left
     · rw [if_neg c7] at H; exact absurd H (by simp)
     rw [if_pos c7] at H
     have c7b0 := eq_true c7
     have c7b1 : decide (0 ≤ t347) = true := decide_eq_true c7
     clear c7
     by_cases c8 : t347 ≤ (l0.length : Int); rotate_left
     · rw [if_neg c8] at H; exact absurd H (by simp)
     rw [if_pos c8] at H
     have c8b0 := eq_true c8
     have c8b1 : decide (t347 ≤ (l0.length : Int)) = true := decide_eq_true c8
     clear c8
     replace H := Option.bind_eq_some_iff.mp H
     obtain ⟨t350, A90, H⟩ := H
     replace H : (if 0 ≤ (wrap64 (t347 + 4)) then (if (wrap64 (t347 + 4)) ≤ (wrap64 ((wrap64 (t347 + 4)) + t346)) then (if (wrap64 ((wrap64 (t347 + 4)) + t346)) ≤ (l0.length : Int) then ((dancestudioref08_Extend.f k t350 ((l0.take ((wrap64 ((wrap64 (t347 + 4)) + t346)) : Int).toNat).drop ((wrap64 (t347 + 4)) : Int).toNat)).bind fun t352 => ((dancestudioref08_four.f t352).bind fun t353 => (if t347 ≤ (wrap64 (t347 + 4)) then (if (wrap64 (t347 + 4)) ≤ (l0.length : Int) then ((dancestudioref08_Same.f t353 ((l0.take ((wrap64 (t347 + 4)) : Int).toNat).drop (t347 : Int).toNat)).bind fun t357 => (if t357 = true then (if ([] : List Int).length + ((l0.take ((wrap64 ((wrap64 (t347 + 4)) + t346)) : Int).toNat).drop ((wrap64 (t347 + 4)) : Int).toNat).length < 140737488355328 then (some ((([] : List Int) ++ ((l0.take ((wrap64 ((wrap64 (t347 + 4)) + t346)) : Int).toNat).drop ((wrap64 (t347 + 4)) : Int).toNat)), wrap64 ((wrap64 (t347 + 4)) + t346), 0)) else (none)) else (some (([] : List Int), 0, 14)))) else (none)) else (none)))) else (none)) else (none)) else (none)) = some (r1, r2, r3) := H
     have A9 := Aside0.mk A90
     clear A90
     obtain ⟨ji10, hji10⟩ : ∃ j_ : Int, (wrap64 (t347 + 4)) = j_ := ⟨_, rfl⟩
     replace H : (if 0 ≤ (ji10) then (if (ji10) ≤ (wrap64 ((ji10) + t346)) then (if (wrap64 ((ji10) + t346)) ≤ (l0.length : Int) then ((dancestudioref08_Extend.f k t350 ((l0.take ((wrap64 ((ji10) + t346)) : Int).toNat).drop ((ji10) : Int).toNat)).bind fun t352 => ((dancestudioref08_four.f t352).bind fun t353 => (if t347 ≤ (ji10) then (if (ji10) ≤ (l0.length : Int) then ((dancestudioref08_Same.f t353 ((l0.take ((ji10) : Int).toNat).drop (t347 : Int).toNat)).bind fun t357 => (if t357 = true then (if ([] : List Int).length + ((l0.take ((wrap64 ((ji10) + t346)) : Int).toNat).drop ((ji10) : Int).toNat).length < 140737488355328 then (some ((([] : List Int) ++ ((l0.take ((wrap64 ((ji10) + t346)) : Int).toNat).drop ((ji10) : Int).toNat)), wrap64 ((ji10) + t346), 0)) else (none)) else (some (([] : List Int), 0, 14)))) else (none)) else (none)))) else (none)) else (none)) else (none)) = some (r1, r2, r3) := by first | (rw [hji10] at H; exact H) | (simp only [hji10] at H ⊢; exact H)
     (try rw [hji10] at c6b0)
     (try rw [hji10] at A2)
     (try rw [hji10] at A9)
     have hji10w : (IntKind.i64.wrap (t347 + 4)) = ji10 := (i64_w _).trans hji10
     by_cases c11 : 0 ≤ (ji10); rotate_left
     · rw [if_neg c11] at H; exact absurd H (by simp)
     rw [if_pos c11] at H
     have c11b0 := eq_true c11
     have c11b1 : decide (0 ≤ (ji10)) = true := decide_eq_true c11
     clear c11
     by_cases c12 : (ji10) ≤ (wrap64 ((ji10) + t346)); rotate_left
     · rw [if_neg c12] at H; exact absurd H (by simp)
     rw [if_pos c12] at H
     have c12b0 := eq_true c12
     have c12b1 : decide ((ji10) ≤ (wrap64 ((ji10) + t346))) = true := decide_eq_true c12
     by_cases c13 : (wrap64 ((ji10) + t346)) ≤ (l0.length : Int); rotate_left
     · rw [if_neg c13] at H; exact absurd H (by simp)
     rw [if_pos c13] at H
     have c13b0 := eq_true c13
     have c13b1 : decide ((wrap64 ((ji10) + t346)) ≤ (l0.length : Int)) = true := decide_eq_true c13
     replace H := Option.bind_eq_some_iff.mp H
     obtain ⟨t352, A140, H⟩ := H
     replace H : ((dancestudioref08_four.f t352).bind fun t353 => (if t347 ≤ (ji10) then (if (ji10) ≤ (l0.length : Int) then ((dancestudioref08_Same.f t353 ((l0.take ((ji10) : Int).toNat).drop (t347 : Int).toNat)).bind fun t357 => (if t357 = true then (if ([] : List Int).length + ((l0.take ((wrap64 ((ji10) + t346)) : Int).toNat).drop ((ji10) : Int).toNat).length < 140737488355328 then (some ((([] : List Int) ++ ((l0.take ((wrap64 ((ji10) + t346)) : Int).toNat).drop ((ji10) : Int).toNat)), wrap64 ((ji10) + t346), 0)) else (none)) else (some (([] : List Int), 0, 14)))) else (none)) else (none))) = some (r1, r2, r3) := H
     have A14 := Aside0.mk A140
     clear A140
     replace H := Option.bind_eq_some_iff.mp H
     obtain ⟨t353, A150, H⟩ := H
     replace H : (if t347 ≤ (ji10) then (if (ji10) ≤ (l0.length : Int) then ((dancestudioref08_Same.f t353 ((l0.take ((ji10) : Int).toNat).drop (t347 : Int).toNat)).bind fun t357 => (if t357 = true then (if ([] : List Int).length + ((l0.take ((wrap64 ((ji10) + t346)) : Int).toNat).drop ((ji10) : Int).toNat).length < 140737488355328 then (some ((([] : List Int) ++ ((l0.take ((wrap64 ((ji10) + t346)) : Int).toNat).drop ((ji10) : Int).toNat)), wrap64 ((ji10) + t346), 0)) else (none)) else (some (([] : List Int), 0, 14)))) else (none)) else (none)) = some (r1, r2, r3) := H
     have A15 := Aside0.mk A150
     clear A150
     have c16b0 := eq_true (of_decide_eq_true (by first | (with_reducible assumption) | assumption) : 0 ≤ t347)
     by_cases c17 : t347 ≤ (ji10); rotate_left
     · rw [if_neg c17] at H; exact absurd H (by simp)
     rw [if_pos c17] at H
     have c17b0 := eq_true c17
     have c17b1 : decide (t347 ≤ (ji10)) = true := decide_eq_true c17
     clear c17
     by_cases c18 : (ji10) ≤ (l0.length : Int); rotate_left
     · rw [if_neg c18] at H; exact absurd H (by simp)
     rw [if_pos c18] at H
     have c18b0 := eq_true c18
     have c18b1 : decide ((ji10) ≤ (l0.length : Int)) = true := decide_eq_true c18
     clear c18
     replace H := Option.bind_eq_some_iff.mp H
     obtain ⟨t357, A190, H⟩ := H
     replace H : (if t357 = true then (if ([] : List Int).length + ((l0.take ((wrap64 ((ji10) + t346)) : Int).toNat).drop ((ji10) : Int).toNat).length < 140737488355328 then (some ((([] : List Int) ++ ((l0.take ((wrap64 ((ji10) + t346)) : Int).toNat).drop ((ji10) : Int).toNat)), wrap64 ((ji10) + t346), 0)) else (none)) else (some (([] : List Int), 0, 14))) = some (r1, r2, r3) := H
     have A19 := Aside0.mk A190
     clear A190
     by_cases c20 : t357 = true
     ·
      subst c20
      have H1 : (if ([] : List Int).length + ((l0.take ((wrap64 ((ji10) + t346)) : Int).toNat).drop ((ji10) : Int).toNat).length < 140737488355328 then (some ((([] : List Int) ++ ((l0.take ((wrap64 ((ji10) + t346)) : Int).toNat).drop ((ji10) : Int).toNat)), wrap64 ((ji10) + t346), 0)) else (none)) = some (r1, r2, r3) := by rw [if_pos rfl] at H; exact H
      clear H
      have H := H1
      clear H1
      have c21b0 := eq_true (of_decide_eq_true (by first | (with_reducible assumption) | assumption) : 0 ≤ (ji10))
      have c22b0 := eq_true (of_decide_eq_true (by first | (with_reducible assumption) | assumption) : (ji10) ≤ (wrap64 ((ji10) + t346)))
      have c23b0 := eq_true (of_decide_eq_true (by first | (with_reducible assumption) | assumption) : (wrap64 ((ji10) + t346)) ≤ (l0.length : Int))
      by_cases c24 : ([] : List Int).length + ((l0.take ((wrap64 ((ji10) + t346)) : Int).toNat).drop ((ji10) : Int).toNat).length < 140737488355328; rotate_left
      · rw [if_neg c24] at H; exact absurd H (by simp)
      rw [if_pos c24] at H
      have LMc24 := Aside0.mk c24
      clear c24
      obtain ⟨y359, hy359⟩ : ∃ y_ : List Int, y_ = (([] : List Int) ++ ((l0.take ((wrap64 ((ji10) + t346)) : Int).toNat).drop ((ji10) : Int).toNat)) := ⟨_, rfl⟩
      replace H : (some (y359, wrap64 ((ji10) + t346), 0)) = some (r1, r2, r3) := by first | (rw [hy359]; with_reducible exact H) | (have H2_ := (Option.bind_some _ _).symm.trans H; rw [hy359]; with_reducible exact H2_) | (have H2_ := (Option.bind_some _ _).symm.trans H; with_reducible exact H2_) | with_reducible exact H | (rw [hy359]; exact H) | exact H
      have Ny359 := Aside0.mk hy359
      clear hy359
      simp only [Option.some.injEq, Prod.mk.injEq] at H
      obtain ⟨rfl, rfl, rfl⟩ := H
      go_enter Try.func20, Try.ntmps20
      try go_wp2_with (first | ((with_reducible refine gate_callee (f := 30) rfl ?_); refine goesL_ (some 12) rfl rfl Try.func30 (by kernel_rfl) rfl #[.slice A0 l0.length c0] rfl (by (try simp only [List.map_toArray, List.map_cons, List.map_nil]); first | done | rfl | (simp only [List.length_drop, List.length_take]; rfl)) ?_; (with_reducible refine (dancestudioref07_TakeInt.calls k _ _ l0 t346 t347 t348 _ ?side1 ?side2 A2.out).mono ?_); (case side1 => repeat (first | exact HR0.out | (with_reducible first | apply cA | apply cN | apply cD))); (case side2 => exact HC0.out); rintro e w' ⟨rfl, ⟨nd, rfl⟩⟩; refine ⟨_, rfl, ?_⟩))
      (repeat rw [World.drewN_drewN])
      generalize hq_ : World.drewN w _ = w25
      have n0_ : Aside0 (Below w.heap.size w w25) := ⟨by rw [← hq_]; exact (by repeat with_reducible first | exact HB.out | apply bA | apply bN | apply bD)⟩
      clear HB
      have HB := n0_
      clear n0_
      clear hq_
      have n0_ := Aside0.mk (below_drew1 HB.out)
      clear HB
      have HB := n0_
      clear n0_
      obtain ⟨i027, hi027, _, hsz27, _⟩ := info_parts info5
      obtain ⟨hcut27, hA27, hC27⟩ := print_take_of (P := Try.prog) (Value.int .u8) 0 23 5 .i64 Try.underlying23 hi027 hsz27 A0 c0 l0 t347 (of_decide_eq_true (by first | (with_reducible assumption) | assumption)) (of_decide_eq_true (by first | (with_reducible assumption) | assumption)) HC0.out
      have HR349 := Aside0.mk (Kd.C_of_reads (h1 := fun _ => rfl) (hA27 _ (Kd.reads_of_C HR0.out)))
      have HC349 := Aside0.mk hC27
      clear hA27 hC27 hi027 hsz27
      obtain ⟨i028, hi028, _, hsz28, _⟩ := info_parts info5
      obtain ⟨A28, hcut28, hA28, hC28⟩ := print_mid_of (P := Try.prog) (Value.int .u8) 0 23 5 .i64 .i64 Try.underlying23 hi028 hsz28 A0 c0 l0 (ji10) (wrap64 ((ji10) + t346)) (of_decide_eq_true (by first | (with_reducible assumption) | assumption)) (by first | omega | exact of_decide_eq_true (by first | (with_reducible assumption) | assumption)) (of_decide_eq_true (by first | (with_reducible assumption) | assumption)) HC0.out
      have HR351 := Aside0.mk (Kd.C_of_reads (h1 := fun _ => rfl) (hA28 _ (Kd.reads_of_C HR0.out)))
      have HC351 := Aside0.mk hC28
      clear hA28 hC28 hi028 hsz28
      refine start_ (n := 14) (S := fun w' => True) (ds := []) (bm 14 0) (by kernel_rfl) rfl rfl trivial (fun hHeld => ?_); refine with_tabW dancestudioref08_Open.tab10 dancestudioref08_Open.bits10 (fun HT_ HW_ => ?_)
      generalize w25.drew = w26 at HB HR349 HR351 hHeld ⊢
      refine pure_ (i := 0) (N := some 30) (v := ?_) (a' := ?_) (bm 14 1) rfl rfl (any_of HT_.out (by kernel_rfl)) (fun _ _ _ h => h) (Or.inl ⟨by rfl, ?_⟩) ?_ ?_
      rotate_left; (intro w'; go_simp; with_reducible rfl); rotate_left; (simp only [Act.put, aS, lZ, lS, i64_w, i32_w]; rfl)
      refine pure_ (i := 1) (N := some 31) (v := ?_) (a' := ?_) (bm 14 3) rfl rfl (any_of HT_.out (by kernel_rfl)) (fun _ _ _ h => h) (Or.inl ⟨by rfl, ?_⟩) ?_ ?_
      rotate_left; (intro w'; go_simp; with_reducible rfl); rotate_left; (simp only [Act.put, aS, lZ, lS, i64_w, i32_w]; rfl)
      refine pure_ (i := 2) (N := some 32) (v := ?_) (a' := ?_) (bm 14 7) rfl rfl (any_of HT_.out (by kernel_rfl)) (fun _ _ _ h => h) (Or.inl ⟨by rfl, ?_⟩) ?_ ?_
      rotate_left; (intro w'; go_simp; with_reducible rfl); rotate_left; (simp only [Act.put, aS, lZ, lS, i64_w, i32_w]; rfl)
      refine pure_ (i := 4) (N := some 34) (v := ?_) (a' := ?_) (bm 14 23) rfl rfl (any_of HT_.out (by kernel_rfl)) (fun _ _ _ h => h) (Or.inl ⟨by rfl, ?_⟩) ?_ ?_
      rotate_left; (intro w'; go_simp; with_reducible rfl); rotate_left; (simp only [Act.put, aS, lZ, lS, i64_w, i32_w]; rfl)
      refine pure_ (i := 5) (N := some 35) (v := ?_) (a' := ?_) (bm 14 55) rfl rfl (any_of HT_.out (by kernel_rfl)) (fun _ _ _ h => h) (Or.inl ⟨by rfl, ?_⟩) ?_ ?_
      rotate_left; (intro w'; go_simp; with_reducible rfl); rotate_left; (simp only [Act.put, aS, lZ, lS, i64_w, i32_w]; rfl)
      refine pure_ (i := 6) (N := some 36) (v := ?_) (a' := ?_) (bm 14 119) rfl rfl (any_of HT_.out (by kernel_rfl)) (fun _ _ _ h => h) (Or.inl ⟨by rfl, ?_⟩) ?_ ?_
      rotate_left; (intro w'; go_simp; with_reducible rfl); rotate_left; (simp only [Act.put, aS, lZ, lS, i64_w, i32_w]; rfl)
      refine pure_ (i := 7) (N := some 37) (v := ?_) (a' := ?_) (bm 14 247) rfl rfl (any_of HT_.out (by kernel_rfl)) (fun _ _ _ h => h) (Or.inl ⟨by rfl, ?_⟩) ?_ ?_
      rotate_left; (intro w'; go_simp; with_reducible rfl); rotate_left; (simp only [Act.put, aS, lZ, lS, i64_w, i32_w]; rfl)
      refine pure_ (i := 8) (N := some 38) (v := ?_) (a' := ?_) (bm 14 503) rfl rfl (any_of HT_.out (by kernel_rfl)) (fun _ _ _ h => h) (Or.inl ⟨by rfl, ?_⟩) ?_ ?_
      rotate_left; (intro w'; go_simp; with_reducible rfl); rotate_left; (simp only [Act.put, aS, lZ, lS, i64_w, i32_w]; rfl)
      refine pure_ (i := 9) (N := some 39) (v := ?_) (a' := ?_) (bm 14 1015) rfl rfl (any_of HT_.out (by kernel_rfl)) (fun _ _ _ h => h) (Or.inl ⟨by rfl, ?_⟩) ?_ ?_
      rotate_left; (intro w'; go_simp; with_reducible rfl); rotate_left; (simp only [Act.put, aS, lZ, lS, i64_w, i32_w]; rfl)
      refine pure_ (i := 10) (N := some 40) (v := ?_) (a' := ?_) (bm 14 2039) rfl rfl (any_of HT_.out (by kernel_rfl)) (fun _ _ _ h => h) (Or.inl ⟨by rfl, ?_⟩) ?_ ?_
      rotate_left; (intro w'; go_simp; with_reducible rfl); rotate_left; (simp only [Act.put, aS, lZ, lS, i64_w, i32_w]; rfl)
      refine pure_ (i := 11) (N := some 41) (v := ?_) (a' := ?_) (bm 14 4087) rfl rfl (any_of HT_.out (by kernel_rfl)) (fun _ _ _ h => h) (Or.inl ⟨by rfl, ?_⟩) ?_ ?_
      rotate_left; (intro w'; go_simp; with_reducible rfl); rotate_left; (simp only [Act.put, aS, lZ, lS, i64_w, i32_w]; rfl)
      refine one_ (i := 3) (N := some 33) (bm 14 4095) rfl rfl (one_of HT_.out (by kernel_rfl)) (by decide) (fun K hK => ?_)
      refine goes_ Try.func13 (by kernel_rfl) rfl #[.slice A0 (l0.take (t347 : Int).toNat).length c0] (by rfl) rfl rfl (by (try simp only [List.map_toArray, List.map_cons, List.map_nil]); first | done | (rw [show (l0.take (t347 : Int).toNat).length = t347.toNat from (by rw [List.length_take]; have h_ : (t347 : Int) ≤ (l0.length : Int) := of_decide_eq_true (by first | (with_reducible assumption) | assumption); omega)] <;> rfl) | rfl | (simp only [List.length_drop, List.length_take]; rfl)) ?_
      with_reducible refine (dancestudioref08_Sum.calls k _ _ (l0.take (t347 : Int).toNat) t350 _ ?side1 ?side2 A9.out).mono ?_
      (case side1 => repeat (first | exact (Kd.C_below HR349.out HB.out) | (with_reducible first | apply cA | apply cN | apply cD)))
      (case side2 => exact HC349.out)
      rintro e w' ⟨rfl, ⟨nd, rfl⟩⟩
      refine ⟨_, rfl, ?_⟩
      refine hK.out _ _ trivial (fun hHeld => ?_)
      clear hK K
      refine norm_ (a' := ?_) ?_ ?_
      rotate_left
      ·
       show Act.put _ (some 33) _ = _
       simp only [Act.put, aS, lZ, lS, i64_w, i32_w]
       rfl
      refine one_ (i := 12) (N := some 42) (bm 14 8191) rfl rfl (one_of HT_.out (by kernel_rfl)) (by decide) (fun K hK => ?_)
      refine goes_ Try.func15 (by kernel_rfl) rfl #[.int .u32 t350, .slice A28 ((l0.take ((wrap64 ((ji10) + t346)) : Int).toNat).drop ((ji10) : Int).toNat).length (c0 - (ji10).toNat)] (by rfl) rfl rfl (by (try simp only [List.map_toArray, List.map_cons, List.map_nil]); first | done | (rw [show ((l0.take ((wrap64 ((ji10) + t346)) : Int).toNat).drop ((ji10) : Int).toNat).length = ((wrap64 ((ji10) + t346)).toNat - (ji10).toNat) from (by rw [List.length_drop, List.length_take]; have h_ : ((wrap64 ((ji10) + t346)) : Int) ≤ (l0.length : Int) := of_decide_eq_true (by first | (with_reducible assumption) | assumption); omega)] <;> rfl) | (simp only [hji10]; rfl) | rfl | (simp only [List.length_drop, List.length_take]; rfl)) ?_
      with_reducible refine (dancestudioref08_Extend.calls k t350 _ _ ((l0.take ((wrap64 ((ji10) + t346)) : Int).toNat).drop ((ji10) : Int).toNat) t352 _ ?side1 ?side2 A14.out).mono ?_
      (case side1 => repeat (first | exact (Kd.C_below HR351.out (by repeat with_reducible first | exact HB.out | apply bA | apply bN | apply bD)) | (with_reducible first | apply cA | apply cN | apply cD)))
      (case side2 => exact HC351.out)
      rintro e w' ⟨rfl, ⟨nd, rfl⟩⟩
      refine ⟨_, rfl, ?_⟩
      refine hK.out _ _ trivial (fun hHeld => ?_)
      clear hK K
      refine norm_ (a' := ?_) ?_ ?_
      rotate_left
      ·
       show Act.put _ (some 42) _ = _
       simp only [Act.put, aS, lZ, lS, i64_w, i32_w]
       rfl
      refine pure_ (i := 13) (N := some 8) (v := ?_) (a' := ?_) (bm 14 16383) rfl rfl (any_of HT_.out (by kernel_rfl)) (fun _ _ _ h => h) (Or.inl ⟨by rfl, ?_⟩) ?_ ?_
      rotate_left; (intro w'; go_simp; with_reducible rfl); rotate_left; (simp only [Act.put, aS, lZ, lS, i64_w, i32_w]; rfl)
      refine done_ (done_of HT_.out (by kernel_rfl)) ?_
      try go_wp2
      (try (rw [drewN_self w26]; (repeat rw [World.drewN_drewN]); generalize hq_ : World.drewN w26 _ = w26; have n0_ : Aside0 (Below w.heap.size w w26) := ⟨by rw [← hq_]; exact (by repeat with_reducible first | exact HB.out | apply bA | apply bN | apply bD)⟩; clear HB hq_; have HB := n0_; clear n0_))
      have n0_ := Aside0.mk (below_drew1 HB.out)
      clear HB
      have HB := n0_
      clear n0_
      obtain ⟨i030, hi030, _, hsz30, _⟩ := info_parts info5
      obtain ⟨A30, hcut30, hA30, hC30⟩ := print_mid_of (P := Try.prog) (Value.int .u8) 0 23 5 .i64 .i64 Try.underlying23 hi030 hsz30 A0 c0 l0 t347 (ji10) (of_decide_eq_true (by first | (with_reducible assumption) | assumption)) (by first | omega | exact of_decide_eq_true (by first | (with_reducible assumption) | assumption)) (of_decide_eq_true (by first | (with_reducible assumption) | assumption)) HC0.out
      have HR356 := Aside0.mk (Kd.C_of_reads (h1 := fun _ => rfl) (hA30 _ (Kd.reads_of_C HR0.out)))
      have HC356 := Aside0.mk hC30
      clear hA30 hC30 hi030 hsz30
      refine start_ (n := 9) (S := fun w' => True) (ds := []) (bm 9 0) (by kernel_rfl) rfl rfl trivial (fun hHeld => ?_); refine with_tabW dancestudioref08_Open.tab11 dancestudioref08_Open.bits11 (fun HT_ HW_ => ?_)
      generalize w26.drew = w29 at HB HR356 hHeld ⊢
      refine pure_ (i := 0) (N := some 43) (v := ?_) (a' := ?_) (bm 9 1) rfl rfl (any_of HT_.out (by kernel_rfl)) (fun _ _ _ h => h) (Or.inl ⟨by rfl, ?_⟩) ?_ ?_
      rotate_left; (intro w'; go_simp; with_reducible rfl); rotate_left; (simp only [Act.put, aS, lZ, lS, i64_w, i32_w]; rfl)
      refine pure_ (i := 2) (N := some 45) (v := ?_) (a' := ?_) (bm 9 5) rfl rfl (any_of HT_.out (by kernel_rfl)) (fun _ _ _ h => h) (Or.inl ⟨by rfl, ?_⟩) ?_ ?_
      rotate_left; (intro w'; go_simp; with_reducible rfl); rotate_left; (simp only [Act.put, aS, lZ, lS, i64_w, i32_w]; rfl)
      refine pure_ (i := 3) (N := some 46) (v := ?_) (a' := ?_) (bm 9 13) rfl rfl (any_of HT_.out (by kernel_rfl)) (fun _ _ _ h => h) (Or.inl ⟨by rfl, ?_⟩) ?_ ?_
      rotate_left; (intro w'; go_simp; with_reducible rfl); rotate_left; (simp only [Act.put, aS, lZ, lS, i64_w, i32_w]; rfl)
      refine pure_ (i := 4) (N := some 47) (v := ?_) (a' := ?_) (bm 9 29) rfl rfl (any_of HT_.out (by kernel_rfl)) (fun _ _ _ h => h) (Or.inl ⟨by rfl, ?_⟩) ?_ ?_
      rotate_left; (intro w'; go_simp; with_reducible rfl); rotate_left; (simp only [Act.put, aS, lZ, lS, i64_w, i32_w]; rfl)
      refine pure_ (i := 5) (N := some 48) (v := ?_) (a' := ?_) (bm 9 61) rfl rfl (any_of HT_.out (by kernel_rfl)) (fun _ _ _ h => h) (Or.inl ⟨by rfl, ?_⟩) ?_ ?_
      rotate_left; (intro w'; go_simp; with_reducible rfl); rotate_left; (simp only [Act.put, aS, lZ, lS, i64_w, i32_w]; rfl)
      refine pure_ (i := 6) (N := some 49) (v := ?_) (a' := ?_) (bm 9 125) rfl rfl (any_of HT_.out (by kernel_rfl)) (fun _ _ _ h => h) (Or.inl ⟨by rfl, ?_⟩) ?_ ?_
      rotate_left; (intro w'; go_simp; with_reducible rfl); rotate_left; (simp only [Act.put, aS, lZ, lS, i64_w, i32_w]; rfl)
      refine one_ (i := 1) (N := some 44) (bm 9 127) rfl rfl (one_of HT_.out (by kernel_rfl)) (by decide) (fun K hK => ?_)
      refine goes_ Try.func27 (by kernel_rfl) rfl #[.int .u32 t352] (by rfl) rfl rfl (by (try simp only [List.map_toArray, List.map_cons, List.map_nil]); first | done | rfl | (simp only [List.length_drop, List.length_take]; rfl)) ?_
      with_reducible refine (dancestudioref08_four.calls t352 t353 _ A15.out).mono ?_
      rintro e w31 ⟨v354, rfl, ho0, hb⟩
      refine ⟨_, rfl, ?_⟩
      have n0_ := Aside0.mk (Kd.R_lower ho0 (below_size (by repeat with_reducible first | exact HB.out | apply bA | apply bN | apply bD)))
      have n1_ := Aside0.mk (below_step (by repeat with_reducible first | exact HB.out | apply bA | apply bN | apply bD) hb)
      clear HB
      have HO355 := n0_
      have HB := n1_
      clear n0_ n1_
      (try clear hb)
      (try clear hb2)
      (try clear hk)
      (try clear hi)
      (try clear ho0)
      obtain ⟨Ao32, co32, eo32⟩ := Kd.R_slice HO355.out
      (first | subst eo32 | (injection eo32 with f1_ f2_ f3_; have f4_ := f1_.symm; have f5_ := f3_.symm; clear f1_ f2_ f3_; subst f4_; subst f5_))
      refine hK.out _ _ trivial (fun hHeld => ?_)
      clear hK K
      refine norm_ (a' := ?_) ?_ ?_
      rotate_left
      ·
       show Act.put _ (some 44) _ = _
       simp only [Act.put, aS, lZ, lS, i64_w, i32_w]
       rfl
      refine one_ (i := 7) (N := some 50) (bm 9 255) rfl rfl (one_of HT_.out (by kernel_rfl)) (by decide) (fun K hK => ?_)
      refine goes_ Try.func18 (by kernel_rfl) rfl #[.slice Ao32 t353.length co32, .slice A30 ((l0.take ((ji10) : Int).toNat).drop (t347 : Int).toNat).length (c0 - t347.toNat)] (by rfl) rfl rfl (by (try simp only [List.map_toArray, List.map_cons, List.map_nil]); first | done | (rw [show ((l0.take ((ji10) : Int).toNat).drop (t347 : Int).toNat).length = ((ji10).toNat - t347.toNat) from (by rw [List.length_drop, List.length_take]; have h_ : ((ji10) : Int) ≤ (l0.length : Int) := of_decide_eq_true (by first | (with_reducible assumption) | assumption); omega)] <;> rfl) | (simp only [hji10]; rfl) | rfl | (simp only [List.length_drop, List.length_take]; rfl)) ?_
      with_reducible refine (dancestudioref08_Same.calls _ _ t353 _ _ ((l0.take ((ji10) : Int).toNat).drop (t347 : Int).toNat) true _ ?side1 ?side2 ?side3 ?side4 A19.out).mono ?_
      (case side1 => repeat (first | exact (Kd.R_reads' HO355.out).2.2 | (with_reducible first | apply cA | apply cN | apply cD)))
      (case side2 => exact (Kd.R_reads' HO355.out).2.1)
      (case side3 => repeat (first | exact (Kd.C_below HR356.out HB.out) | (with_reducible first | apply cA | apply cN | apply cD)))
      (case side4 => exact HC356.out)
      rintro e w' ⟨rfl, ⟨nd, rfl⟩⟩
      refine ⟨_, rfl, ?_⟩
      refine hK.out _ _ trivial (fun hHeld => ?_)
      clear hK K
      refine norm_ (a' := ?_) ?_ ?_
      rotate_left
      ·
       show Act.put _ (some 50) _ = _
       simp only [Act.put, aS, lZ, lS, i64_w, i32_w]
       rfl
      refine pure_ (i := 8) (N := some 51) (v := ?_) (a' := ?_) (bm 9 511) rfl rfl (any_of HT_.out (by kernel_rfl)) (fun _ _ _ h => h) (Or.inl ⟨by rfl, ?_⟩) ?_ ?_
      rotate_left; (intro w'; go_simp; with_reducible rfl); rotate_left; (simp only [Act.put, aS, lZ, lS, i64_w, i32_w]; rfl)
      refine done_ (done_of HT_.out (by kernel_rfl)) ?_
      obtain ⟨i033, hi033, _, hsz33, _⟩ := info_parts info5
      obtain ⟨A33, hcut33, hA33, hC33⟩ := print_mid_of (P := Try.prog) (Value.int .u8) 0 23 5 .i64 .i64 Try.underlying23 hi033 hsz33 A0 c0 l0 (ji10) (wrap64 ((ji10) + t346)) (of_decide_eq_true (by first | (with_reducible assumption) | assumption)) (by first | omega | exact of_decide_eq_true (by first | (with_reducible assumption) | assumption)) (of_decide_eq_true (by first | (with_reducible assumption) | assumption)) HC0.out
      have HR358 := Aside0.mk (Kd.C_of_reads (h1 := fun _ => rfl) (hA33 _ (Kd.reads_of_C HR0.out)))
      have HC358 := Aside0.mk hC33
      clear hA33 hC33 hi033 hsz33
      (try clear hcut28)
      try go_wp2_with (first | ((with_reducible refine gate_builtin (b := .append) (xs := #[.tmp 52, .tmp 60]) rfl ?_); at_builtin; refine Kd.R_append_rows (Kd.int .u8) (w0 := w) w.heap.size rfl (.tmp 52) (.tmp 60) 23 5 (.int .u8 0) 1 rfl Try.underlying23 info5 rfl (by decide) (by omega) (.slice none 0 0) ([] : List Int) ((l0.take ((wrap64 ((ji10) + t346)) : Int).toNat).drop ((ji10) : Int).toNat) _ _ _ (fun k_ => some k_ ≠ (.slice Ao32 t353.length co32 : Value).ownBlock) (fun _ => False) rfl rfl ?aO ?aR (fun _ _ h => h) (fun _ h => h.elim) ?aF ?aB ?aS ?aL ?_; (case aR => first | (rw [← show ((l0.take ((wrap64 ((ji10) + t346)) : Int).toNat).drop ((ji10) : Int).toNat).length = ((wrap64 ((ji10) + t346)).toNat - (ji10).toNat) from (by rw [List.length_drop, List.length_take]; have h_ : ((wrap64 ((ji10) + t346)) : Int) ≤ (l0.length : Int) := of_decide_eq_true (by first | (with_reducible assumption) | assumption); omega)]; repeat (first | exact (Kd.C_below HR358.out (by repeat with_reducible first | exact HB.out | apply bA | apply bN | apply bD)) | (with_reducible first | apply cA | apply cN | apply cD))) | (repeat (first | exact (Kd.C_below HR358.out (by repeat with_reducible first | exact HB.out | apply bA | apply bN | apply bD)) | (with_reducible first | apply cA | apply cN | apply cD)))); (case aB => exact (by repeat with_reducible first | exact HB.out | apply bA | apply bN | apply bD)); (case aF => exact (fun k_ hk => Kd.fresh' (Kd.R_lt (by (with_reducible repeat first | apply rA | apply rN | apply rD); exact HO355.out)) k_ hk)); (case aO => exact ((Kd.R_nil _ _ _ _ (fun k_ => some k_ ≠ (.slice Ao32 t353.length co32 : Value).ownBlock)))); (case aS => exact (below_size (by repeat with_reducible first | exact HB.out | apply bA | apply bN | apply bD))); (case aL => have := LMc24.out; have hlx_ := (show ((l0.take ((wrap64 ((ji10) + t346)) : Int).toNat).drop ((ji10) : Int).toNat).length = ((wrap64 ((ji10) + t346)).toNat - (ji10).toNat) from (by rw [List.length_drop, List.length_take]; have h_ : ((wrap64 ((ji10) + t346)) : Int) ≤ (l0.length : Int) := of_decide_eq_true (by first | (with_reducible assumption) | assumption); omega)); omega); intro v360 w34 ho hb hg hat; rw [← Ny359.out] at ho; replace HO355 := Aside0.mk (Kd.R_after (Kd.R_apart_nil (by (with_reducible repeat first | apply rA | apply rN | apply rD); exact HO355.out)) hg hat); replace HB := Aside0.mk (hb); have HO361 := Aside0.mk (ho); clear ho hb hg hat))
      go_ret3
      exact ⟨_, by first | rfl | (simp [errW_none, errW_some] <;> rfl) | (simp only [← hji10]; first | rfl | (simp [errW_none, errW_some] <;> rfl)) | (simp [*, errW_none, errW_some] <;> rfl), by (with_reducible repeat first | apply rA | apply rN | apply rD); exact Kd.R_mono HO361.out (fun _ hk => trivial), by repeat with_reducible first | exact HB.out | apply bA | apply bN | apply bD⟩
     ·
      replace c20 := Bool.eq_false_iff.mpr c20
      subst c20
      have H1 : (some (([] : List Int), 0, 14)) = some (r1, r2, r3) := by rw [if_neg (show ¬ (false = true) by decide)] at H; exact H
      clear H
      have H := H1
      clear H1
      simp only [Option.some.injEq, Prod.mk.injEq] at H
      obtain ⟨rfl, rfl, rfl⟩ := H
      go_enter Try.func20, Try.ntmps20
      try go_wp2_with (first | ((with_reducible refine gate_callee (f := 30) rfl ?_); refine goesL_ (some 12) rfl rfl Try.func30 (by kernel_rfl) rfl #[.slice A0 l0.length c0] rfl (by (try simp only [List.map_toArray, List.map_cons, List.map_nil]); first | done | rfl | (simp only [List.length_drop, List.length_take]; rfl)) ?_; (with_reducible refine (dancestudioref07_TakeInt.calls k _ _ l0 t346 t347 t348 _ ?side1 ?side2 A2.out).mono ?_); (case side1 => repeat (first | exact HR0.out | (with_reducible first | apply cA | apply cN | apply cD))); (case side2 => exact HC0.out); rintro e w' ⟨rfl, ⟨nd, rfl⟩⟩; refine ⟨_, rfl, ?_⟩))
      (repeat rw [World.drewN_drewN])
      generalize hq_ : World.drewN w _ = w35
      have n0_ : Aside0 (Below w.heap.size w w35) := ⟨by rw [← hq_]; exact (by repeat with_reducible first | exact HB.out | apply bA | apply bN | apply bD)⟩
      clear HB
      have HB := n0_
      clear n0_
      clear hq_
      have n0_ := Aside0.mk (below_drew1 HB.out)
      clear HB
      have HB := n0_
      clear n0_
      obtain ⟨i037, hi037, _, hsz37, _⟩ := info_parts info5
      obtain ⟨hcut37, hA37, hC37⟩ := print_take_of (P := Try.prog) (Value.int .u8) 0 23 5 .i64 Try.underlying23 hi037 hsz37 A0 c0 l0 t347 (of_decide_eq_true (by first | (with_reducible assumption) | assumption)) (of_decide_eq_true (by first | (with_reducible assumption) | assumption)) HC0.out
      have HR349 := Aside0.mk (Kd.C_of_reads (h1 := fun _ => rfl) (hA37 _ (Kd.reads_of_C HR0.out)))
      have HC349 := Aside0.mk hC37
      clear hA37 hC37 hi037 hsz37
      (try clear hcut27)
      obtain ⟨i038, hi038, _, hsz38, _⟩ := info_parts info5
      obtain ⟨A38, hcut38, hA38, hC38⟩ := print_mid_of (P := Try.prog) (Value.int .u8) 0 23 5 .i64 .i64 Try.underlying23 hi038 hsz38 A0 c0 l0 (ji10) (wrap64 ((ji10) + t346)) (of_decide_eq_true (by first | (with_reducible assumption) | assumption)) (by first | omega | exact of_decide_eq_true (by first | (with_reducible assumption) | assumption)) (of_decide_eq_true (by first | (with_reducible assumption) | assumption)) HC0.out
      have HR351 := Aside0.mk (Kd.C_of_reads (h1 := fun _ => rfl) (hA38 _ (Kd.reads_of_C HR0.out)))
      have HC351 := Aside0.mk hC38
      clear hA38 hC38 hi038 hsz38
      (try clear hcut28)
      (try clear hcut33)
      refine start_ (n := 14) (S := fun w' => True) (ds := []) (bm 14 0) (by kernel_rfl) rfl rfl trivial (fun hHeld => ?_); refine with_tabW dancestudioref08_Open.tab10 dancestudioref08_Open.bits10 (fun HT_ HW_ => ?_)
      generalize w35.drew = w36 at HB HR349 HR351 hHeld ⊢
      refine pure_ (i := 0) (N := some 30) (v := ?_) (a' := ?_) (bm 14 1) rfl rfl (any_of HT_.out (by kernel_rfl)) (fun _ _ _ h => h) (Or.inl ⟨by rfl, ?_⟩) ?_ ?_
      rotate_left; (intro w'; go_simp; with_reducible rfl); rotate_left; (simp only [Act.put, aS, lZ, lS, i64_w, i32_w]; rfl)
      refine pure_ (i := 1) (N := some 31) (v := ?_) (a' := ?_) (bm 14 3) rfl rfl (any_of HT_.out (by kernel_rfl)) (fun _ _ _ h => h) (Or.inl ⟨by rfl, ?_⟩) ?_ ?_
      rotate_left; (intro w'; go_simp; with_reducible rfl); rotate_left; (simp only [Act.put, aS, lZ, lS, i64_w, i32_w]; rfl)
      refine pure_ (i := 2) (N := some 32) (v := ?_) (a' := ?_) (bm 14 7) rfl rfl (any_of HT_.out (by kernel_rfl)) (fun _ _ _ h => h) (Or.inl ⟨by rfl, ?_⟩) ?_ ?_
      rotate_left; (intro w'; go_simp; with_reducible rfl); rotate_left; (simp only [Act.put, aS, lZ, lS, i64_w, i32_w]; rfl)
      refine pure_ (i := 4) (N := some 34) (v := ?_) (a' := ?_) (bm 14 23) rfl rfl (any_of HT_.out (by kernel_rfl)) (fun _ _ _ h => h) (Or.inl ⟨by rfl, ?_⟩) ?_ ?_
      rotate_left; (intro w'; go_simp; with_reducible rfl); rotate_left; (simp only [Act.put, aS, lZ, lS, i64_w, i32_w]; rfl)
      refine pure_ (i := 5) (N := some 35) (v := ?_) (a' := ?_) (bm 14 55) rfl rfl (any_of HT_.out (by kernel_rfl)) (fun _ _ _ h => h) (Or.inl ⟨by rfl, ?_⟩) ?_ ?_
      rotate_left; (intro w'; go_simp; with_reducible rfl); rotate_left; (simp only [Act.put, aS, lZ, lS, i64_w, i32_w]; rfl)
      refine pure_ (i := 6) (N := some 36) (v := ?_) (a' := ?_) (bm 14 119) rfl rfl (any_of HT_.out (by kernel_rfl)) (fun _ _ _ h => h) (Or.inl ⟨by rfl, ?_⟩) ?_ ?_
      rotate_left; (intro w'; go_simp; with_reducible rfl); rotate_left; (simp only [Act.put, aS, lZ, lS, i64_w, i32_w]; rfl)
      refine pure_ (i := 7) (N := some 37) (v := ?_) (a' := ?_) (bm 14 247) rfl rfl (any_of HT_.out (by kernel_rfl)) (fun _ _ _ h => h) (Or.inl ⟨by rfl, ?_⟩) ?_ ?_
      rotate_left; (intro w'; go_simp; with_reducible rfl); rotate_left; (simp only [Act.put, aS, lZ, lS, i64_w, i32_w]; rfl)
      refine pure_ (i := 8) (N := some 38) (v := ?_) (a' := ?_) (bm 14 503) rfl rfl (any_of HT_.out (by kernel_rfl)) (fun _ _ _ h => h) (Or.inl ⟨by rfl, ?_⟩) ?_ ?_
      rotate_left; (intro w'; go_simp; with_reducible rfl); rotate_left; (simp only [Act.put, aS, lZ, lS, i64_w, i32_w]; rfl)
      refine pure_ (i := 9) (N := some 39) (v := ?_) (a' := ?_) (bm 14 1015) rfl rfl (any_of HT_.out (by kernel_rfl)) (fun _ _ _ h => h) (Or.inl ⟨by rfl, ?_⟩) ?_ ?_
      rotate_left; (intro w'; go_simp; with_reducible rfl); rotate_left; (simp only [Act.put, aS, lZ, lS, i64_w, i32_w]; rfl)
      refine pure_ (i := 10) (N := some 40) (v := ?_) (a' := ?_) (bm 14 2039) rfl rfl (any_of HT_.out (by kernel_rfl)) (fun _ _ _ h => h) (Or.inl ⟨by rfl, ?_⟩) ?_ ?_
      rotate_left; (intro w'; go_simp; with_reducible rfl); rotate_left; (simp only [Act.put, aS, lZ, lS, i64_w, i32_w]; rfl)
      refine pure_ (i := 11) (N := some 41) (v := ?_) (a' := ?_) (bm 14 4087) rfl rfl (any_of HT_.out (by kernel_rfl)) (fun _ _ _ h => h) (Or.inl ⟨by rfl, ?_⟩) ?_ ?_
      rotate_left; (intro w'; go_simp; with_reducible rfl); rotate_left; (simp only [Act.put, aS, lZ, lS, i64_w, i32_w]; rfl)
      refine one_ (i := 3) (N := some 33) (bm 14 4095) rfl rfl (one_of HT_.out (by kernel_rfl)) (by decide) (fun K hK => ?_)
      refine goes_ Try.func13 (by kernel_rfl) rfl #[.slice A0 (l0.take (t347 : Int).toNat).length c0] (by rfl) rfl rfl (by (try simp only [List.map_toArray, List.map_cons, List.map_nil]); first | done | (rw [show (l0.take (t347 : Int).toNat).length = t347.toNat from (by rw [List.length_take]; have h_ : (t347 : Int) ≤ (l0.length : Int) := of_decide_eq_true (by first | (with_reducible assumption) | assumption); omega)] <;> rfl) | rfl | (simp only [List.length_drop, List.length_take]; rfl)) ?_
      with_reducible refine (dancestudioref08_Sum.calls k _ _ (l0.take (t347 : Int).toNat) t350 _ ?side1 ?side2 A9.out).mono ?_
      (case side1 => repeat (first | exact (Kd.C_below HR349.out HB.out) | (with_reducible first | apply cA | apply cN | apply cD)))
      (case side2 => exact HC349.out)
      rintro e w' ⟨rfl, ⟨nd, rfl⟩⟩
      refine ⟨_, rfl, ?_⟩
      refine hK.out _ _ trivial (fun hHeld => ?_)
      clear hK K
      refine norm_ (a' := ?_) ?_ ?_
      rotate_left
      ·
       show Act.put _ (some 33) _ = _
       simp only [Act.put, aS, lZ, lS, i64_w, i32_w]
       rfl
      refine one_ (i := 12) (N := some 42) (bm 14 8191) rfl rfl (one_of HT_.out (by kernel_rfl)) (by decide) (fun K hK => ?_)
      refine goes_ Try.func15 (by kernel_rfl) rfl #[.int .u32 t350, .slice A38 ((l0.take ((wrap64 ((ji10) + t346)) : Int).toNat).drop ((ji10) : Int).toNat).length (c0 - (ji10).toNat)] (by rfl) rfl rfl (by (try simp only [List.map_toArray, List.map_cons, List.map_nil]); first | done | (rw [show ((l0.take ((wrap64 ((ji10) + t346)) : Int).toNat).drop ((ji10) : Int).toNat).length = ((wrap64 ((ji10) + t346)).toNat - (ji10).toNat) from (by rw [List.length_drop, List.length_take]; have h_ : ((wrap64 ((ji10) + t346)) : Int) ≤ (l0.length : Int) := of_decide_eq_true (by first | (with_reducible assumption) | assumption); omega)] <;> rfl) | (simp only [hji10]; rfl) | rfl | (simp only [List.length_drop, List.length_take]; rfl)) ?_
      with_reducible refine (dancestudioref08_Extend.calls k t350 _ _ ((l0.take ((wrap64 ((ji10) + t346)) : Int).toNat).drop ((ji10) : Int).toNat) t352 _ ?side1 ?side2 A14.out).mono ?_
      (case side1 => repeat (first | exact (Kd.C_below HR351.out (by repeat with_reducible first | exact HB.out | apply bA | apply bN | apply bD)) | (with_reducible first | apply cA | apply cN | apply cD)))
      (case side2 => exact HC351.out)
      rintro e w' ⟨rfl, ⟨nd, rfl⟩⟩
      refine ⟨_, rfl, ?_⟩
      refine hK.out _ _ trivial (fun hHeld => ?_)
      clear hK K
      refine norm_ (a' := ?_) ?_ ?_
      rotate_left
      ·
       show Act.put _ (some 42) _ = _
       simp only [Act.put, aS, lZ, lS, i64_w, i32_w]
       rfl
      refine pure_ (i := 13) (N := some 8) (v := ?_) (a' := ?_) (bm 14 16383) rfl rfl (any_of HT_.out (by kernel_rfl)) (fun _ _ _ h => h) (Or.inl ⟨by rfl, ?_⟩) ?_ ?_
      rotate_left; (intro w'; go_simp; with_reducible rfl); rotate_left; (simp only [Act.put, aS, lZ, lS, i64_w, i32_w]; rfl)
      refine done_ (done_of HT_.out (by kernel_rfl)) ?_
      try go_wp2
      (try (rw [drewN_self w36]; (repeat rw [World.drewN_drewN]); generalize hq_ : World.drewN w36 _ = w36; have n0_ : Aside0 (Below w.heap.size w w36) := ⟨by rw [← hq_]; exact (by repeat with_reducible first | exact HB.out | apply bA | apply bN | apply bD)⟩; clear HB hq_; have HB := n0_; clear n0_))
      have n0_ := Aside0.mk (below_drew1 HB.out)
      clear HB
      have HB := n0_
      clear n0_
      obtain ⟨i040, hi040, _, hsz40, _⟩ := info_parts info5
      obtain ⟨A40, hcut40, hA40, hC40⟩ := print_mid_of (P := Try.prog) (Value.int .u8) 0 23 5 .i64 .i64 Try.underlying23 hi040 hsz40 A0 c0 l0 t347 (ji10) (of_decide_eq_true (by first | (with_reducible assumption) | assumption)) (by first | omega | exact of_decide_eq_true (by first | (with_reducible assumption) | assumption)) (of_decide_eq_true (by first | (with_reducible assumption) | assumption)) HC0.out
      have HR356 := Aside0.mk (Kd.C_of_reads (h1 := fun _ => rfl) (hA40 _ (Kd.reads_of_C HR0.out)))
      have HC356 := Aside0.mk hC40
      clear hA40 hC40 hi040 hsz40
      (try clear hcut30)
      refine start_ (n := 9) (S := fun w' => True) (ds := []) (bm 9 0) (by kernel_rfl) rfl rfl trivial (fun hHeld => ?_); refine with_tabW dancestudioref08_Open.tab11 dancestudioref08_Open.bits11 (fun HT_ HW_ => ?_)
      generalize w36.drew = w39 at HB HR356 hHeld ⊢
      refine pure_ (i := 0) (N := some 43) (v := ?_) (a' := ?_) (bm 9 1) rfl rfl (any_of HT_.out (by kernel_rfl)) (fun _ _ _ h => h) (Or.inl ⟨by rfl, ?_⟩) ?_ ?_
      rotate_left; (intro w'; go_simp; with_reducible rfl); rotate_left; (simp only [Act.put, aS, lZ, lS, i64_w, i32_w]; rfl)
      refine pure_ (i := 2) (N := some 45) (v := ?_) (a' := ?_) (bm 9 5) rfl rfl (any_of HT_.out (by kernel_rfl)) (fun _ _ _ h => h) (Or.inl ⟨by rfl, ?_⟩) ?_ ?_
      rotate_left; (intro w'; go_simp; with_reducible rfl); rotate_left; (simp only [Act.put, aS, lZ, lS, i64_w, i32_w]; rfl)
      refine pure_ (i := 3) (N := some 46) (v := ?_) (a' := ?_) (bm 9 13) rfl rfl (any_of HT_.out (by kernel_rfl)) (fun _ _ _ h => h) (Or.inl ⟨by rfl, ?_⟩) ?_ ?_
      rotate_left; (intro w'; go_simp; with_reducible rfl); rotate_left; (simp only [Act.put, aS, lZ, lS, i64_w, i32_w]; rfl)
      refine pure_ (i := 4) (N := some 47) (v := ?_) (a' := ?_) (bm 9 29) rfl rfl (any_of HT_.out (by kernel_rfl)) (fun _ _ _ h => h) (Or.inl ⟨by rfl, ?_⟩) ?_ ?_
      rotate_left; (intro w'; go_simp; with_reducible rfl); rotate_left; (simp only [Act.put, aS, lZ, lS, i64_w, i32_w]; rfl)
      refine pure_ (i := 5) (N := some 48) (v := ?_) (a' := ?_) (bm 9 61) rfl rfl (any_of HT_.out (by kernel_rfl)) (fun _ _ _ h => h) (Or.inl ⟨by rfl, ?_⟩) ?_ ?_
      rotate_left; (intro w'; go_simp; with_reducible rfl); rotate_left; (simp only [Act.put, aS, lZ, lS, i64_w, i32_w]; rfl)
      refine pure_ (i := 6) (N := some 49) (v := ?_) (a' := ?_) (bm 9 125) rfl rfl (any_of HT_.out (by kernel_rfl)) (fun _ _ _ h => h) (Or.inl ⟨by rfl, ?_⟩) ?_ ?_
      rotate_left; (intro w'; go_simp; with_reducible rfl); rotate_left; (simp only [Act.put, aS, lZ, lS, i64_w, i32_w]; rfl)
      refine one_ (i := 1) (N := some 44) (bm 9 127) rfl rfl (one_of HT_.out (by kernel_rfl)) (by decide) (fun K hK => ?_)
      refine goes_ Try.func27 (by kernel_rfl) rfl #[.int .u32 t352] (by rfl) rfl rfl (by (try simp only [List.map_toArray, List.map_cons, List.map_nil]); first | done | rfl | (simp only [List.length_drop, List.length_take]; rfl)) ?_
      with_reducible refine (dancestudioref08_four.calls t352 t353 _ A15.out).mono ?_
      rintro e w41 ⟨v354, rfl, ho0, hb⟩
      refine ⟨_, rfl, ?_⟩
      have n0_ := Aside0.mk (Kd.R_lower ho0 (below_size (by repeat with_reducible first | exact HB.out | apply bA | apply bN | apply bD)))
      have n1_ := Aside0.mk (below_step (by repeat with_reducible first | exact HB.out | apply bA | apply bN | apply bD) hb)
      clear HB
      have HO355 := n0_
      have HB := n1_
      clear n0_ n1_
      (try clear hb)
      (try clear hb2)
      (try clear hk)
      (try clear hi)
      (try clear ho0)
      obtain ⟨Ao42, co42, eo42⟩ := Kd.R_slice HO355.out
      (first | subst eo42 | (injection eo42 with f1_ f2_ f3_; have f4_ := f1_.symm; have f5_ := f3_.symm; clear f1_ f2_ f3_; subst f4_; subst f5_))
      refine hK.out _ _ trivial (fun hHeld => ?_)
      clear hK K
      refine norm_ (a' := ?_) ?_ ?_
      rotate_left
      ·
       show Act.put _ (some 44) _ = _
       simp only [Act.put, aS, lZ, lS, i64_w, i32_w]
       rfl
      refine one_ (i := 7) (N := some 50) (bm 9 255) rfl rfl (one_of HT_.out (by kernel_rfl)) (by decide) (fun K hK => ?_)
      refine goes_ Try.func18 (by kernel_rfl) rfl #[.slice Ao42 t353.length co42, .slice A40 ((l0.take ((ji10) : Int).toNat).drop (t347 : Int).toNat).length (c0 - t347.toNat)] (by rfl) rfl rfl (by (try simp only [List.map_toArray, List.map_cons, List.map_nil]); first | done | (rw [show ((l0.take ((ji10) : Int).toNat).drop (t347 : Int).toNat).length = ((ji10).toNat - t347.toNat) from (by rw [List.length_drop, List.length_take]; have h_ : ((ji10) : Int) ≤ (l0.length : Int) := of_decide_eq_true (by first | (with_reducible assumption) | assumption); omega)] <;> rfl) | (simp only [hji10]; rfl) | rfl | (simp only [List.length_drop, List.length_take]; rfl)) ?_
      with_reducible refine (dancestudioref08_Same.calls _ _ t353 _ _ ((l0.take ((ji10) : Int).toNat).drop (t347 : Int).toNat) false _ ?side1 ?side2 ?side3 ?side4 A19.out).mono ?_
      (case side1 => repeat (first | exact (Kd.R_reads' HO355.out).2.2 | (with_reducible first | apply cA | apply cN | apply cD)))
      (case side2 => exact (Kd.R_reads' HO355.out).2.1)
      (case side3 => repeat (first | exact (Kd.C_below HR356.out HB.out) | (with_reducible first | apply cA | apply cN | apply cD)))
      (case side4 => exact HC356.out)
      rintro e w' ⟨rfl, ⟨nd, rfl⟩⟩
      refine ⟨_, rfl, ?_⟩
      refine hK.out _ _ trivial (fun hHeld => ?_)
      clear hK K
      refine norm_ (a' := ?_) ?_ ?_
      rotate_left
      ·
       show Act.put _ (some 50) _ = _
       simp only [Act.put, aS, lZ, lS, i64_w, i32_w]
       rfl
      refine pure_ (i := 8) (N := some 51) (v := ?_) (a' := ?_) (bm 9 511) rfl rfl (any_of HT_.out (by kernel_rfl)) (fun _ _ _ h => h) (Or.inl ⟨by rfl, ?_⟩) ?_ ?_
      rotate_left; (intro w'; go_simp; with_reducible rfl); rotate_left; (simp only [Act.put, aS, lZ, lS, i64_w, i32_w]; rfl)
      refine done_ (done_of HT_.out (by kernel_rfl)) ?_
      try go_wp2
      go_ret3
      exact ⟨_, by first | rfl | (simp [errW_none, errW_some] <;> rfl) | (simp only [← hji10]; first | rfl | (simp [errW_none, errW_some] <;> rfl)) | (simp [*, errW_none, errW_some] <;> rfl), by first | exact Kd.R_nil _ _ _ _ _ | exact Kd.N_nil _ _ _ _ _ | exact Kd.V_nil _ _ _ _ _ | exact Kd.Q_nil _ _ _ _ _ | exact Kd.S_nil _ _ _ _ _, by repeat with_reducible first | exact HB.out | apply bA | apply bN | apply bD⟩
 ·
  rw [if_neg c3] at H
  have c3b0 : (t348 == 0) = false := beq_eq_false_iff_ne.mpr c3
  have c3b1 : (t348 != 0) = true := bne_iff_ne.mpr c3
  simp only [Option.some.injEq, Prod.mk.injEq] at H
  obtain ⟨rfl, rfl, rfl⟩ := H
  go_enter Try.func20, Try.ntmps20
  go_wp2_with (first | ((with_reducible refine gate_callee (f := 30) rfl ?_); refine goesL_ (some 12) rfl rfl Try.func30 (by kernel_rfl) rfl #[.slice A0 l0.length c0] rfl (by (try simp only [List.map_toArray, List.map_cons, List.map_nil]); first | done | rfl | (simp only [List.length_drop, List.length_take]; rfl)) ?_; (with_reducible refine (dancestudioref07_TakeInt.calls k _ _ l0 t346 t347 t348 _ ?side1 ?side2 A2.out).mono ?_); (case side1 => repeat (first | exact HR0.out | (with_reducible first | apply cA | apply cN | apply cD))); (case side2 => exact HC0.out); rintro e w' ⟨rfl, ⟨nd, rfl⟩⟩; refine ⟨_, rfl, ?_⟩))
  go_ret3
  exact ⟨_, by first | rfl | (simp [errW_none, errW_some] <;> rfl) | (simp [*, errW_none, errW_some] <;> rfl), by first | exact Kd.R_nil _ _ _ _ _ | exact Kd.N_nil _ _ _ _ _ | exact Kd.V_nil _ _ _ _ _ | exact Kd.Q_nil _ _ _ _ _ | exact Kd.S_nil _ _ _ _ _, by repeat with_reducible first | exact HB.out | apply bA | apply bN | apply bD⟩

end Go.Proofs.Ytobehfghepbhbaa.X
