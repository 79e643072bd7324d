-- written by xprint.py, an own overlay over the kit's print; not trusted: Lean checks it
import Derived.Test.YtekbeaogiagidaaX0
import Derived.Test.YtekbeaogiagidaaX17
import Derived.Test.YtekbeaogiagidaaX19
import Derived.Test.YtekbeaogiagidaaX20
import Derived.Test.YtekbeaogiagidaaX28
namespace Go.Proofs.Ytekbeaogiagidaa.X
open Go.RowKit Go.Proofs.YtekbeaogiagidaaW.PrintWords Go.Proofs.YtekbeaogiagidaaW.PrintLast Go.Proofs.YtekbeaogiagidaaW.PrintMore
attribute [local go_sem] max2_int min2_int max_two min_two max_three min_three max_four min_four   -- for this text's walks alone
set_option linter.unusedVariables false
set_option linter.unusedSimpArgs false

/-! ### dancestudiolaw12_ShareStages: function 4 -/
def dancestudiolaw12_ShareStages.f (k : Nat) (a0 : Int) (a1 : Int) : Option (Bool) := (share_Stages.f a0 a1).bind fun bt218 => ((dancestudioref12_Stages.f k a0 a1).bind fun bt222 => ((dancestudioref12_Same.f k bt218.1 bt222.1).bind fun t226 => (if t226 = true then (if bt218.2 = bt222.2 then ((dancestudiolaw12_awake.f k).bind fun t227 => (some t227)) else (none)) else (none))))
theorem dancestudiolaw12_ShareStages.mono : ∀ a0 a1 k, LeO (dancestudiolaw12_ShareStages.f k a0 a1) (dancestudiolaw12_ShareStages.f (k + 1) a0 a1) := by
 intro a0 a1 k
 unfold dancestudiolaw12_ShareStages.f
 repeat' first
   | (with_reducible exact dancestudiolaw12_awake.mono _)
   | (with_reducible exact dancestudioref12_Same.mono _ _ _)
   | (with_reducible exact dancestudioref12_Stages.mono _ _ _)
   | (with_reducible exact LeO.refl _)
   | (with_reducible exact LeO.none _)
   | (with_reducible refine LeO.ite ?_ ?_)
   | (with_reducible refine LeO.bind ?_ (fun _ => ?_))
   | exact dancestudiolaw12_awake.mono _
   | exact dancestudioref12_Same.mono _ _ _
   | exact dancestudioref12_Stages.mono _ _ _
   | exact LeO.none _
   | refine LeO.ite ?_ ?_
   | refine LeO.bind ?_ (fun _ => ?_)
set_option maxHeartbeats 8000000 in
set_option maxRecDepth 100000 in
theorem dancestudiolaw12_ShareStages.calls (k : Nat) (a0 : Int) (a1 : Int) (r : Bool) (w : World) (h : dancestudiolaw12_ShareStages.f k a0 a1 = some r) :
  Calls Try.prog 4 #[.int .i64 a0, .int .i64 a1] w fun e w' => e = .returned (.bool r) ∧ Below w.heap.size w w' := by
 have HB := Aside0.mk (Below.refl w.heap.size w)
 have H : ((share_Stages.f a0 a1).bind fun bt218 => ((dancestudioref12_Stages.f k a0 a1).bind fun bt222 => ((dancestudioref12_Same.f k bt218.1 bt222.1).bind fun t226 => (if t226 = true then (if bt218.2 = bt222.2 then ((dancestudiolaw12_awake.f k).bind fun t227 => (some t227)) else (none)) else (none))))) = some r := h
 clear h
 replace H := Option.bind_eq_some_iff.mp H
 obtain ⟨⟨t218, t219⟩, A30, H⟩ := H
 replace H : ((dancestudioref12_Stages.f k a0 a1).bind fun bt222 => ((dancestudioref12_Same.f k t218 bt222.1).bind fun t226 => (if t226 = true then (if t219 = bt222.2 then ((dancestudiolaw12_awake.f k).bind fun t227 => (some t227)) else (none)) else (none)))) = some r := H
 have A3 := Aside0.mk A30
 clear A30
 replace H := Option.bind_eq_some_iff.mp H
 obtain ⟨⟨t222, t223⟩, A40, H⟩ := H
 replace H : ((dancestudioref12_Same.f k t218 t222).bind fun t226 => (if t226 = true then (if t219 = t223 then ((dancestudiolaw12_awake.f k).bind fun t227 => (some t227)) else (none)) else (none))) = some r := H
 have A4 := Aside0.mk A40
 clear A40
 replace H := Option.bind_eq_some_iff.mp H
 obtain ⟨t226, A50, H⟩ := H
 replace H : (if t226 = true then (if t219 = t223 then ((dancestudiolaw12_awake.f k).bind fun t227 => (some t227)) else (none)) else (none)) = some r := H
 have A5 := Aside0.mk A50
 clear A50
 by_cases c6 : t226 = true
 ·
  subst c6
  have H1 : (if t219 = t223 then ((dancestudiolaw12_awake.f k).bind fun t227 => (some t227)) else (none)) = some r := by rw [if_pos rfl] at H; exact H
  clear H
  have H := H1
  clear H1
  by_cases c7 : t219 = t223
  ·
   rw [if_pos c7] at H
   have c7b0 : (t219 == t223) = true := beq_iff_eq.mpr c7
   have c7b1 : (t219 != t223) = false := bne_eq_false_iff_eq.mpr c7
   clear c7
   replace H := Option.bind_eq_some_iff.mp H
   obtain ⟨t227, A80, H⟩ := H
   replace H : (some t227) = some r := H
   have A8 := Aside0.mk A80
   clear A80
   obtain rfl := Option.some.inj H
   go_enter Try.func4, Try.ntmps4
   go_wp2_with (first | ((with_reducible refine gate_callee (f := 13) rfl ?_); refine goesL_ (some 12) rfl rfl Try.func13 (by kernel_rfl) rfl #[.int .i64 a0, .int .i64 a1] rfl (by (try simp only [List.map_toArray, List.map_cons, List.map_nil]); first | done | rfl | (simp only [List.length_drop, List.length_take]; rfl)) ?_; (with_reducible refine (share_Stages.calls a0 a1 t218 t219 _ A3.out).mono ?_); rintro e w9 ⟨v220, rfl, ho0, hb⟩; refine ⟨_, rfl, ?_⟩; have n0_ := Aside0.mk (Kd.R_lower ho0 (below_size (by repeat (first | (with_reducible first | exact HB.out | apply below_alloc | apply pw_below_drewN | apply below_drew1) | exact HB.out)))); have n1_ := Aside0.mk (below_step (by repeat (first | (with_reducible first | exact HB.out | apply below_alloc | apply pw_below_drewN | apply below_drew1) | exact HB.out)) hb); clear HB; have HO221 := n0_; have HB := n1_; clear n0_ n1_; (try clear hb); (try clear hb2); (try clear hk); (try clear hi); (try clear ho0)) | ((with_reducible refine gate_callee (f := 14) rfl ?_); refine goesL_ (some 18) rfl rfl Try.func14 (by kernel_rfl) rfl #[.int .i64 a0, .int .i64 a1] rfl (by (try simp only [List.map_toArray, List.map_cons, List.map_nil]); first | done | rfl | (simp only [List.length_drop, List.length_take]; rfl)) ?_; (with_reducible refine (dancestudioref12_Stages.calls k a0 a1 t222 t223 _ A4.out).mono ?_); rintro e w10 ⟨v224, rfl, ho0, hb⟩; refine ⟨_, rfl, ?_⟩; have n0_ := Aside0.mk (Kd.R_elder' (by (with_reducible repeat (first | apply Kd.R_alloc | apply Kd.R_drewN | apply Kd.R_drew)); exact HO221.out) (Kd.R_base ho0) hb); have n1_ := Aside0.mk (Kd.R_lower (Kd.R_new' ho0 (Kd.R_lt (by (with_reducible repeat (first | apply Kd.R_alloc | apply Kd.R_drewN | apply Kd.R_drew)); exact HO221.out))) (below_size (by repeat (first | (with_reducible first | exact HB.out | apply below_alloc | apply pw_below_drewN | apply below_drew1) | exact HB.out)))); have n2_ := Aside0.mk (below_step (by repeat (first | (with_reducible first | exact HB.out | apply below_alloc | apply pw_below_drewN | apply below_drew1) | exact HB.out)) hb); clear HO221; clear HB; have HO221 := n0_; have HO225 := n1_; have HB := n2_; clear n0_ n1_ n2_; (try clear hb); (try clear hb2); (try clear hk); (try clear hi); (try clear ho0); obtain ⟨Ao11, co11, eo11⟩ := Kd.R_slice HO221.out; subst eo11; obtain ⟨Ao12, co12, eo12⟩ := Kd.R_slice HO225.out; subst eo12) | ((with_reducible refine gate_callee (f := 12) rfl ?_); refine goesL_ (some 23) rfl rfl Try.func12 (by kernel_rfl) rfl #[.slice Ao11 t218.length co11, .slice Ao12 t222.length co12] rfl (by (try simp only [List.map_toArray, List.map_cons, List.map_nil]); first | done | rfl | (simp only [List.length_drop, List.length_take]; rfl)) ?_; (with_reducible refine (dancestudioref12_Same.calls k _ _ t218 _ _ t222 true _ ?side1 ?side2 ?side3 ?side4 A5.out).mono ?_); (case side1 => repeat (first | exact (Kd.R_reads' HO221.out).2.2 | (with_reducible refine Kd.C_alloc ?_ _) | (with_reducible refine Kd.C_drewN ?_ _) | (with_reducible refine Kd.C_drew ?_))); (case side2 => exact (Kd.R_reads' HO221.out).2.1); (case side3 => repeat (first | exact (Kd.R_reads' HO225.out).2.2 | (with_reducible refine Kd.C_alloc ?_ _) | (with_reducible refine Kd.C_drewN ?_ _) | (with_reducible refine Kd.C_drew ?_))); (case side4 => exact (Kd.R_reads' HO225.out).2.1); rintro e w' ⟨rfl, ⟨nd, rfl⟩⟩; refine ⟨_, rfl, ?_⟩) | (go_at_call 9; (with_reducible refine (dancestudiolaw12_awake.calls k  t227 _ A8.out).mono ?_); rintro e w13 ⟨rfl, hb⟩; have n0_ := Aside0.mk (Kd.R_below (by (with_reducible repeat (first | apply Kd.R_alloc | apply Kd.R_drewN | apply Kd.R_drew)); exact HO221.out) hb); have n1_ := Aside0.mk (Kd.R_below (by (with_reducible repeat (first | apply Kd.R_alloc | apply Kd.R_drewN | apply Kd.R_drew)); exact HO225.out) hb); have n2_ := Aside0.mk (below_step (by repeat (first | (with_reducible first | exact HB.out | apply below_alloc | apply pw_below_drewN | apply below_drew1) | exact HB.out)) hb); clear HO221; clear HO225; clear HB; have HO221 := n0_; have HO225 := n1_; have HB := n2_; clear n0_ n1_ n2_; (try clear hb); (try clear hb2); (try clear hk); (try clear hi)))
   go_ret
   exact ⟨by first | rfl | (simp [errW_none, errW_some] <;> rfl) | (simp [*, errW_none, errW_some] <;> rfl), by repeat (first | (with_reducible first | exact HB.out | apply below_alloc | apply pw_below_drewN | apply below_drew1) | exact HB.out)⟩
  ·
   rw [if_neg c7] at H
   exact absurd H (by simp)
 ·
  replace c6 := Bool.eq_false_iff.mpr c6
  subst c6
  have H1 : (none) = some r := by rw [if_neg (show ¬ (false = true) by decide)] at H; exact H
  clear H
  have H := H1
  clear H1
  exact absurd H (by simp)

/-- THE ONE PURE STATEMENT of dancestudiolaw12_ShareStages: yours. -/
def dancestudiolaw12_ShareStages.Pure : Prop := ∀ (a0 : Int) (a1 : Int), (Lit.int .i64 a0).wf = true → (Lit.int .i64 a1).wf = true → ∃ k, dancestudiolaw12_ShareStages.f k a0 a1 = some true
theorem dancestudiolaw12_ShareStages.walk (P : dancestudiolaw12_ShareStages.Pure) (a0 : Int) (a1 : Int) (w : World) (w0 : (Lit.int .i64 a0).wf = true) (w1 : (Lit.int .i64 a1).wf = true) :
  Calls Try.prog 4 #[.int .i64 a0, .int .i64 a1] w fun e w' => e = .returned (.bool true) ∧ Below w.heap.size w w' := by
 obtain ⟨k, h⟩ := P a0 a1 w0 w1
 refine (dancestudiolaw12_ShareStages.calls k a0 a1 true w h).mono ?_
 rintro e w' ⟨rfl, hd⟩
 exact ⟨rfl, hd⟩

end Go.Proofs.Ytekbeaogiagidaa.X
