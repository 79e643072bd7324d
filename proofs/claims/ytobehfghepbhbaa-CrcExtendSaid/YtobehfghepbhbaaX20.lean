-- squeezed
-- written by xprint.py, an own overlay over the kit's print; not trusted: Lean checks it
import Derived.Test.YtobehfghepbhbaaX0
import Derived.Test.YtobehfghepbhbaaX12
import Derived.Test.YtobehfghepbhbaaX13
import Derived.Test.YtobehfghepbhbaaX18
import Derived.Test.YtobehfghepbhbaaX19
namespace Go.Proofs.Ytobehfghepbhbaa.X
open Go.RowKit Go.Proofs.YtobehfghepbhbaaW.PrintWords Go.Proofs.YtobehfghepbhbaaW.PrintLast Go.Proofs.YtobehfghepbhbaaW.PrintMore
attribute [local go_sem] max2_int min2_int max_two min_two max_three min_three max_four min_four   -- for this text's walks alone
set_option linter.unusedVariables false
set_option linter.unusedSimpArgs false

/-! ### dancestudioref08_Frame: function 17 -/
def dancestudioref08_Frame.f (k : Nat) (l0 : List Int) : Option (List Int × Int) := if (l0.length : Int) > 65536 then (some (([] : List Int), 3)) else ((dancestudioref07_PutInt.f k ([] : List Int) (l0.length : Int)).bind fun t289 => ((dancestudioref08_Sum.f k t289).bind fun t292 => ((dancestudioref08_Extend.f k t292 l0).bind fun t293 => (if ([] : List Int).length + t289.length < 140737488355328 then ((some (([] : List Int) ++ t289 : List Int)).bind fun y294 => ((dancestudioref08_four.f t293).bind fun t297 => (if y294.length + t297.length < 140737488355328 then ((some (y294 ++ t297 : List Int)).bind fun y300 => (if y300.length + l0.length < 140737488355328 then (some ((y300 ++ l0), 0)) else (none))) else (none)))) else (none)))))
theorem dancestudioref08_Frame.mono : ∀ a0 k, LeO (dancestudioref08_Frame.f k a0) (dancestudioref08_Frame.f (k + 1) a0) := by
 intro a0 k
 unfold dancestudioref08_Frame.f
 repeat' first
   | (with_reducible exact dancestudioref07_PutInt.mono _ _ _)
   | (with_reducible exact dancestudioref08_Extend.mono _ _ _)
   | (with_reducible exact dancestudioref08_Sum.mono _ _)
   | (with_reducible exact LeO.refl _)
   | (with_reducible exact LeO.none _)
   | (with_reducible refine LeO.ite ?_ ?_)
   | (with_reducible refine LeO.bind ?_ (fun _ => ?_))
   | exact dancestudioref07_PutInt.mono _ _ _
   | exact dancestudioref08_Extend.mono _ _ _
   | exact dancestudioref08_Sum.mono _ _
   | exact LeO.none _
   | refine LeO.ite ?_ ?_
   | refine LeO.bind ?_ (fun _ => ?_)
set_option maxHeartbeats 8000000 in
set_option maxRecDepth 100000 in
theorem dancestudioref08_Frame.calls (k : Nat) (A0 : Option Addr) (c0 : Nat) (l0 : List Int) (r1 : List Int) (r2 : Int) (w : World) (hr0 : Kd.C (Kd.int .u8) w A0 l0.length l0) (hc0 : l0.length ≤ c0) (h : dancestudioref08_Frame.f k l0 = some (r1, r2)) :
  Calls Try.prog 17 #[.slice A0 l0.length c0] w fun e w' => ∃ v0_ : Value, e = .returned (.tuple #[v0_, .int .i64 r2]) ∧ Kd.R (Kd.int .u8) 5 w' w.heap.size (fun _ => True) v0_ r1 ∧ Below w.heap.size w w' := by
 have HR0 := Aside0.mk hr0
 have HC0 := Aside0.mk hc0
 clear hr0 hc0
 have HB := Aside0.mk (Below.refl w.heap.size w)
 have H : (if (l0.length : Int) > 65536 then (some (([] : List Int), 3)) else ((dancestudioref07_PutInt.f k ([] : List Int) (l0.length : Int)).bind fun t289 => ((dancestudioref08_Sum.f k t289).bind fun t292 => ((dancestudioref08_Extend.f k t292 l0).bind fun t293 => (if ([] : List Int).length + t289.length < 140737488355328 then ((some (([] : List Int) ++ t289 : List Int)).bind fun y294 => ((dancestudioref08_four.f t293).bind fun t297 => (if y294.length + t297.length < 140737488355328 then ((some (y294 ++ t297 : List Int)).bind fun y300 => (if y300.length + l0.length < 140737488355328 then (some ((y300 ++ l0), 0)) else (none))) else (none)))) else (none)))))) = some (r1, r2) := h
 clear h
 by_cases c2 : (l0.length : Int) > 65536
 ·
  rw [if_pos c2] at H
  have c2b0 := decide_eq_true c2
  have c2b1 : decide (65536 < l0.length) = true := decide_eq_true (by omega)
  clear c2
  simp only [Option.some.injEq, Prod.mk.injEq] at H
  obtain ⟨rfl, rfl⟩ := H
  go_enter Try.func17, Try.ntmps17
  go_wp2
  go_ret2
  exact ⟨_, by first | rfl | (simp [errW_none, errW_some] <;> rfl) | (simp [*, errW_none, errW_some] <;> rfl), by first | exact Kd.R_nil _ _ _ _ _ | exact Kd.N_nil _ _ _ _ _ | exact Kd.V_nil _ _ _ _ _ | exact Kd.Q_nil _ _ _ _ _ | exact Kd.S_nil _ _ _ _ _, by repeat with_reducible first | exact HB.out | apply bA | apply bN | apply bD⟩
 ·
  rw [if_neg c2] at H
  have c2b0 := decide_eq_false c2
  have c2b1 : decide (65536 < l0.length) = false := decide_eq_false (by omega)
  clear c2
  replace H := Option.bind_eq_some_iff.mp H
  obtain ⟨t289, A30, H⟩ := H
  replace H : ((dancestudioref08_Sum.f k t289).bind fun t292 => ((dancestudioref08_Extend.f k t292 l0).bind fun t293 => (if ([] : List Int).length + t289.length < 140737488355328 then ((some (([] : List Int) ++ t289 : List Int)).bind fun y294 => ((dancestudioref08_four.f t293).bind fun t297 => (if y294.length + t297.length < 140737488355328 then ((some (y294 ++ t297 : List Int)).bind fun y300 => (if y300.length + l0.length < 140737488355328 then (some ((y300 ++ l0), 0)) else (none))) else (none)))) else (none)))) = some (r1, r2) := H
  have A3 := Aside0.mk A30
  clear A30
  replace H := Option.bind_eq_some_iff.mp H
  obtain ⟨t292, A40, H⟩ := H
  replace H : ((dancestudioref08_Extend.f k t292 l0).bind fun t293 => (if ([] : List Int).length + t289.length < 140737488355328 then ((some (([] : List Int) ++ t289 : List Int)).bind fun y294 => ((dancestudioref08_four.f t293).bind fun t297 => (if y294.length + t297.length < 140737488355328 then ((some (y294 ++ t297 : List Int)).bind fun y300 => (if y300.length + l0.length < 140737488355328 then (some ((y300 ++ l0), 0)) else (none))) else (none)))) else (none))) = some (r1, r2) := H
  have A4 := Aside0.mk A40
  clear A40
  replace H := Option.bind_eq_some_iff.mp H
  obtain ⟨t293, A50, H⟩ := H
  replace H : (if ([] : List Int).length + t289.length < 140737488355328 then ((some (([] : List Int) ++ t289 : List Int)).bind fun y294 => ((dancestudioref08_four.f t293).bind fun t297 => (if y294.length + t297.length < 140737488355328 then ((some (y294 ++ t297 : List Int)).bind fun y300 => (if y300.length + l0.length < 140737488355328 then (some ((y300 ++ l0), 0)) else (none))) else (none)))) else (none)) = some (r1, r2) := H
  have A5 := Aside0.mk A50
  clear A50
  by_cases c6 : ([] : List Int).length + t289.length < 140737488355328
  ·
   rw [if_pos c6] at H
   have LMc6 := Aside0.mk c6
   clear c6
   obtain ⟨y294, hy294⟩ : ∃ y_ : List Int, y_ = (([] : List Int) ++ t289) := ⟨_, rfl⟩
   replace H : ((dancestudioref08_four.f t293).bind fun t297 => (if y294.length + t297.length < 140737488355328 then ((some (y294 ++ t297 : List Int)).bind fun y300 => (if y300.length + l0.length < 140737488355328 then (some ((y300 ++ l0), 0)) else (none))) else (none))) = some (r1, r2) := by first | (rw [hy294]; with_reducible exact H) | (have H2_ := (Option.bind_some _ _).symm.trans H; rw [hy294]; with_reducible exact H2_) | (have H2_ := (Option.bind_some _ _).symm.trans H; with_reducible exact H2_) | with_reducible exact H | (rw [hy294]; exact H) | exact H
   have Ny294 := Aside0.mk hy294
   clear hy294
   replace H := Option.bind_eq_some_iff.mp H
   obtain ⟨t297, A70, H⟩ := H
   replace H : (if y294.length + t297.length < 140737488355328 then ((some (y294 ++ t297 : List Int)).bind fun y300 => (if y300.length + l0.length < 140737488355328 then (some ((y300 ++ l0), 0)) else (none))) else (none)) = some (r1, r2) := H
   have A7 := Aside0.mk A70
   clear A70
   by_cases c8 : y294.length + t297.length < 140737488355328; rotate_left
   · rw [if_neg c8] at H; exact absurd H (by simp)
   rw [if_pos c8] at H
   have LMc8 := Aside0.mk c8
   clear c8
   obtain ⟨y300, hy300⟩ : ∃ y_ : List Int, y_ = (y294 ++ t297) := ⟨_, rfl⟩
   replace H : (if y300.length + l0.length < 140737488355328 then (some ((y300 ++ l0), 0)) else (none)) = some (r1, r2) := by first | (rw [hy300]; with_reducible exact H) | (have H2_ := (Option.bind_some _ _).symm.trans H; rw [hy300]; with_reducible exact H2_) | (have H2_ := (Option.bind_some _ _).symm.trans H; with_reducible exact H2_) | with_reducible exact H | (rw [hy300]; exact H) | exact H
   have Ny300 := Aside0.mk hy300
   clear hy300
   by_cases c9 : y300.length + l0.length < 140737488355328; rotate_left
   · rw [if_neg c9] at H; exact absurd H (by simp)
   rw [if_pos c9] at H
   have LMc9 := Aside0.mk c9
   clear c9
   obtain ⟨y303, hy303⟩ : ∃ y_ : List Int, y_ = (y300 ++ l0) := ⟨_, rfl⟩
   replace H : (some (y303, 0)) = some (r1, r2) := by first | (rw [hy303]; with_reducible exact H) | (have H2_ := (Option.bind_some _ _).symm.trans H; rw [hy303]; with_reducible exact H2_) | (have H2_ := (Option.bind_some _ _).symm.trans H; with_reducible exact H2_) | with_reducible exact H | (rw [hy303]; exact H) | exact H
   have Ny303 := Aside0.mk hy303
   clear hy303
   simp only [Option.some.injEq, Prod.mk.injEq] at H
   obtain ⟨rfl, rfl⟩ := H
   go_enter Try.func17, Try.ntmps17
   go_wp2_with (first | ((with_reducible refine gate_callee (f := 26) rfl ?_); refine goesL_ (some 12) rfl rfl Try.func26 (by kernel_rfl) rfl #[.slice none 0 0, .int .i64 (l0.length : Int)] rfl (by (try simp only [List.map_toArray, List.map_cons, List.map_nil]); first | done | rfl | (simp only [List.length_drop, List.length_take]; rfl)) ?_; (refine (dancestudioref07_PutInt.calls k _ _ ([] : List Int) (l0.length : Int) t289 _ ?side1 ?side2 A3.out).mono ?_); (case side1 => exact Kd.C_nil _ _); (case side2 => exact Nat.le_refl _); rintro e w10 ⟨v290, rfl, ho0, hb⟩; refine ⟨_, rfl, ?_⟩; have HO291 := Aside0.mk (Kd.R_lower ho0 (below_size (by repeat with_reducible first | exact HB.out | apply bA | apply bN | apply bD))); replace HB := Aside0.mk (below_step (by repeat with_reducible first | exact HB.out | apply bA | apply bN | apply bD) hb); (try clear hb); (try clear hb2); (try clear hk); (try clear hi); (try clear ho0); obtain ⟨Ao11, co11, eo11⟩ := Kd.R_slice HO291.out; subst eo11) | ((with_reducible refine gate_callee (f := 13) rfl ?_); refine goesL_ (some 14) rfl rfl Try.func13 (by kernel_rfl) rfl #[.slice Ao11 t289.length co11] rfl (by (try simp only [List.map_toArray, List.map_cons, List.map_nil]); first | done | rfl | (simp only [List.length_drop, List.length_take]; rfl)) ?_; (with_reducible refine (dancestudioref08_Sum.calls k _ _ t289 t292 _ ?side1 ?side2 A4.out).mono ?_); (case side1 => repeat (first | exact (Kd.R_reads' HO291.out).2.2 | (with_reducible first | apply cA | apply cN | apply cD))); (case side2 => exact (Kd.R_reads' HO291.out).2.1); rintro e w' ⟨rfl, ⟨nd, rfl⟩⟩; refine ⟨_, rfl, ?_⟩) | ((with_reducible refine gate_callee (f := 15) rfl ?_); refine goesL_ (some 16) rfl rfl Try.func15 (by kernel_rfl) rfl #[.int .u32 t292, .slice A0 l0.length c0] rfl (by (try simp only [List.map_toArray, List.map_cons, List.map_nil]); first | done | rfl | (simp only [List.length_drop, List.length_take]; rfl)) ?_; (with_reducible refine (dancestudioref08_Extend.calls k t292 _ _ l0 t293 _ ?side1 ?side2 A5.out).mono ?_); (case side1 => repeat (first | exact (Kd.C_below HR0.out (by repeat with_reducible first | exact HB.out | apply bA | apply bN | apply bD)) | (with_reducible first | apply cA | apply cN | apply cD))); (case side2 => exact HC0.out); rintro e w' ⟨rfl, ⟨nd, rfl⟩⟩; refine ⟨_, rfl, ?_⟩) | ((with_reducible refine gate_builtin (b := .append) (xs := #[.tmp 17, .tmp 18]) rfl ?_); at_builtin; refine Kd.R_append_rows (Kd.int .u8) (w0 := w) w.heap.size rfl (.tmp 17) (.tmp 18) 23 5 (.int .u8 0) 1 rfl Try.underlying23 info5 rfl (by decide) (by omega) (.slice none 0 0) ([] : List Int) t289 _ _ _ (fun k_ => some k_ ≠ (.slice Ao11 t289.length co11 : Value).ownBlock) (fun _ => False) rfl rfl ?aO ?aR (fun _ _ h => h) (fun _ h => h.elim) ?aF ?aB ?aS ?aL ?_; (case aR => repeat (first | exact (Kd.R_reads' HO291.out).2.2 | (with_reducible first | apply cA | apply cN | apply cD))); (case aB => exact (by repeat with_reducible first | exact HB.out | apply bA | apply bN | apply bD)); (case aF => exact (fun k_ hk => Kd.fresh' (Kd.R_lt (by (with_reducible repeat first | apply rA | apply rN | apply rD); exact HO291.out)) k_ hk)); (case aO => exact ((Kd.R_nil _ _ _ _ (fun k_ => some k_ ≠ (.slice Ao11 t289.length co11 : Value).ownBlock)))); (case aS => exact (below_size (by repeat with_reducible first | exact HB.out | apply bA | apply bN | apply bD))); (case aL => have := LMc6.out; omega); intro v295 w12 ho hb hg hat; rw [← Ny294.out] at ho; replace HO291 := Aside0.mk (Kd.R_after (Kd.R_apart_nil (by (with_reducible repeat first | apply rA | apply rN | apply rD); exact HO291.out)) hg hat); replace HB := Aside0.mk (hb); have HO296 := Aside0.mk (ho); clear ho hb hg hat) | ((with_reducible refine gate_callee (f := 27) rfl ?_); refine goesL_ (some 22) rfl rfl Try.func27 (by kernel_rfl) rfl #[.int .u32 t293] rfl (by (try simp only [List.map_toArray, List.map_cons, List.map_nil]); first | done | rfl | (simp only [List.length_drop, List.length_take]; rfl)) ?_; (with_reducible refine (dancestudioref08_four.calls t293 t297 _ A7.out).mono ?_); rintro e w13 ⟨v298, rfl, ho0, hb⟩; refine ⟨_, rfl, ?_⟩; have HO299 := Aside0.mk (Kd.R_lower (Kd.R_new' (Kd.R_new' ho0 (Kd.R_lt (by (with_reducible repeat first | apply rA | apply rN | apply rD); exact HO291.out))) (Kd.R_lt (by (with_reducible repeat first | apply rA | apply rN | apply rD); exact HO296.out))) (below_size (by repeat with_reducible first | exact HB.out | apply bA | apply bN | apply bD))); replace HO291 := Aside0.mk (Kd.R_elder' (by (with_reducible repeat first | apply rA | apply rN | apply rD); exact HO291.out) (Kd.R_base ho0) hb); replace HO296 := Aside0.mk (Kd.R_elder' (by (with_reducible repeat first | apply rA | apply rN | apply rD); exact HO296.out) (Kd.R_base ho0) hb); replace HB := Aside0.mk (below_step (by repeat with_reducible first | exact HB.out | apply bA | apply bN | apply bD) hb); (try clear hb); (try clear hb2); (try clear hk); (try clear hi); (try clear ho0); obtain ⟨Ao15, co15, eo15⟩ := Kd.R_slice HO299.out; subst eo15) | ((with_reducible refine gate_builtin (b := .append) (xs := #[.tmp 20, .tmp 22]) rfl ?_); at_builtin; refine Kd.R_append_rows (Kd.int .u8) (w0 := w) w.heap.size rfl (.tmp 20) (.tmp 22) 23 5 (.int .u8 0) 1 rfl Try.underlying23 info5 rfl (by decide) (by omega) v295 y294 t297 _ _ _ (fun k_ => some k_ ≠ (.slice Ao11 t289.length co11 : Value).ownBlock ∧ some k_ ≠ (.slice Ao15 t297.length co15 : Value).ownBlock) (fun _ => False) rfl rfl ?aO ?aR (fun _ _ h => h) (fun _ h => h.elim) ?aF ?aB ?aS ?aL ?_; (case aR => repeat (first | exact (Kd.R_reads' HO299.out).2.2 | (with_reducible first | apply cA | apply cN | apply cD))); (case aB => exact (by repeat with_reducible first | exact HB.out | apply bA | apply bN | apply bD)); (case aF => exact (fun k_ hk => ⟨Kd.fresh' (Kd.R_lt (by (with_reducible repeat first | apply rA | apply rN | apply rD); exact HO291.out)) k_ hk, Kd.fresh' (Kd.R_lt (by (with_reducible repeat first | apply rA | apply rN | apply rD); exact HO299.out)) k_ hk⟩)); (case aO => exact (by (with_reducible repeat first | apply rA | apply rN | apply rD); exact HO296.out)); (case aS => exact (below_size (by repeat with_reducible first | exact HB.out | apply bA | apply bN | apply bD))); (case aL => have := LMc8.out; omega); intro v301 w14 ho hb hg hat; rw [← Ny300.out] at ho; replace HO291 := Aside0.mk (Kd.R_after (ok := (fun k_ => some k_ ≠ (.slice Ao15 t297.length co15 : Value).ownBlock)) (by (with_reducible repeat first | apply rA | apply rN | apply rD); exact Kd.R_mono HO291.out (fun _ hk => ⟨hk.2, hk.1.2⟩)) hg hat); replace HO299 := Aside0.mk (Kd.R_after (ok := (fun k_ => some k_ ≠ (.slice Ao11 t289.length co11 : Value).ownBlock)) (by (with_reducible repeat first | apply rA | apply rN | apply rD); exact Kd.R_mono HO299.out (fun _ hk => ⟨hk.1.2, hk.2⟩)) hg hat); replace HB := Aside0.mk (hb); have HO302 := Aside0.mk (ho); clear HO296; clear ho hb hg hat) | ((with_reducible refine gate_builtin (b := .append) (xs := #[.tmp 24, .tmp 25]) rfl ?_); at_builtin; refine Kd.R_append_rows (Kd.int .u8) (w0 := w) w.heap.size rfl (.tmp 24) (.tmp 25) 23 5 (.int .u8 0) 1 rfl Try.underlying23 info5 rfl (by decide) (by omega) v301 y300 l0 _ _ _ (fun k_ => some k_ ≠ (.slice Ao11 t289.length co11 : Value).ownBlock ∧ some k_ ≠ (.slice Ao15 t297.length co15 : Value).ownBlock) (fun _ => False) rfl rfl ?aO ?aR (fun _ _ h => h) (fun _ h => h.elim) ?aF ?aB ?aS ?aL ?_; (case aR => repeat (first | exact (Kd.C_below HR0.out HB.out) | (with_reducible first | apply cA | apply cN | apply cD))); (case aB => exact (by repeat with_reducible first | exact HB.out | apply bA | apply bN | apply bD)); (case aF => exact (fun k_ hk => ⟨Kd.fresh' (Kd.R_lt (by (with_reducible repeat first | apply rA | apply rN | apply rD); exact HO291.out)) k_ hk, Kd.fresh' (Kd.R_lt (by (with_reducible repeat first | apply rA | apply rN | apply rD); exact HO299.out)) k_ hk⟩)); (case aO => exact (by (with_reducible repeat first | apply rA | apply rN | apply rD); exact HO302.out)); (case aS => exact (below_size (by repeat with_reducible first | exact HB.out | apply bA | apply bN | apply bD))); (case aL => have := LMc9.out; omega); intro v304 w16 ho hb hg hat; rw [← Ny303.out] at ho; replace HO291 := Aside0.mk (Kd.R_after (ok := (fun k_ => some k_ ≠ (.slice Ao15 t297.length co15 : Value).ownBlock)) (by (with_reducible repeat first | apply rA | apply rN | apply rD); exact HO291.out) hg hat); replace HO299 := Aside0.mk (Kd.R_after (ok := (fun k_ => some k_ ≠ (.slice Ao11 t289.length co11 : Value).ownBlock)) (by (with_reducible repeat first | apply rA | apply rN | apply rD); exact HO299.out) hg hat); replace HB := Aside0.mk (hb); have HO305 := Aside0.mk (ho); clear HO302; clear ho hb hg hat))
   go_ret2
   exact ⟨_, by first | rfl | (simp [errW_none, errW_some] <;> rfl) | (simp [*, errW_none, errW_some] <;> rfl), by (with_reducible repeat first | apply rA | apply rN | apply rD); exact Kd.R_mono HO305.out (fun _ hk => trivial), by repeat with_reducible first | exact HB.out | apply bA | apply bN | apply bD⟩
  ·
   rw [if_neg c6] at H
   exact absurd H (by simp)

end Go.Proofs.Ytobehfghepbhbaa.X
