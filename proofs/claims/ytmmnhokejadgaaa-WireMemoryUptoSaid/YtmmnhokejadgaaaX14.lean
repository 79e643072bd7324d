-- squeezed
-- written by xprint.py, an own overlay over the kit's print; not trusted: Lean checks it
import Derived.Test.YtmmnhokejadgaaaX0
import Derived.Test.YtmmnhokejadgaaaX7
namespace Go.Proofs.Ytmmnhokejadgaaa.X
open Go.RowKit Go.Proofs.YtmmnhokejadgaaaW.PrintWords Go.Proofs.YtmmnhokejadgaaaW.PrintLast Go.Proofs.YtmmnhokejadgaaaW.PrintMore
attribute [local go_sem] max2_int min2_int max_two min_two max_three min_three max_four min_four   -- for this text's walks alone
set_option linter.unusedVariables false
set_option linter.unusedSimpArgs false

/-! ### dancestudiolaw07_takes: function 32 -/
def dancestudiolaw07_takes.f (k : Nat) (a0 a1 a2 : Int) (l3 : List Int) : Option (Bool) := (wire_TakeInt.f k l3).bind fun bt168 => (if bt168.1 = a0 then (if bt168.2.1 = a1 then (some (bt168.2.2 == a2)) else (some false)) else (some false))
theorem dancestudiolaw07_takes.mono : ∀ a0 a1 a2 a3 k, LeO (dancestudiolaw07_takes.f k a0 a1 a2 a3) (dancestudiolaw07_takes.f (k + 1) a0 a1 a2 a3) := by
 intro a0 a1 a2 a3 k
 unfold dancestudiolaw07_takes.f
 repeat' first
   | (with_reducible exact wire_TakeInt.mono _ _)
   | (with_reducible exact LeO.refl _)
   | (with_reducible exact LeO.none _)
   | (with_reducible refine LeO.ite ?_ ?_)
   | (with_reducible refine LeO.bind ?_ (fun _ => ?_))
   | exact wire_TakeInt.mono _ _
   | exact LeO.none _
   | refine LeO.ite ?_ ?_
   | refine LeO.bind ?_ (fun _ => ?_)
set_option maxHeartbeats 8000000 in
set_option maxRecDepth 100000 in
theorem dancestudiolaw07_takes.calls (k : Nat) (a0 a1 a2 : Int) (A3 : Option Addr) (c3 : Nat) (l3 : List Int) (r : Bool) (w : World) (hr3 : Kd.C (Kd.int .u8) w A3 l3.length l3) (hc3 : l3.length ≤ c3) (h : dancestudiolaw07_takes.f k a0 a1 a2 l3 = some r) :
  Calls Try.prog 32 #[.int .i64 a0, .int .i64 a1, .int .i64 a2, .slice A3 l3.length c3] w fun e w' => e = .returned (.bool r) ∧ Drawn0 w w' := by
 have HR3 := Aside0.mk hr3
 have HC3 := Aside0.mk hc3
 clear hr3 hc3
 have H : ((wire_TakeInt.f k l3).bind fun bt168 => (if bt168.1 = a0 then (if bt168.2.1 = a1 then (some (bt168.2.2 == a2)) else (some false)) else (some false))) = some r := h
 clear h
 replace H := Option.bind_eq_some_iff.mp H
 obtain ⟨⟨t168, t169, t170⟩, A50, H⟩ := H
 replace H : (if t168 = a0 then (if t169 = a1 then (some (t170 == a2)) else (some false)) else (some false)) = some r := H
 have A5 := Aside0.mk A50
 clear A50
 by_cases c6 : t168 = a0
 ·
  rw [if_pos c6] at H
  have c6b0 : (t168 == a0) = true := beq_iff_eq.mpr c6
  have c6b1 : (t168 != a0) = false := bne_eq_false_iff_eq.mpr c6
  clear c6
  by_cases c7 : t169 = a1
  ·
   rw [if_pos c7] at H
   have c7b0 : (t169 == a1) = true := beq_iff_eq.mpr c7
   have c7b1 : (t169 != a1) = false := bne_eq_false_iff_eq.mpr c7
   clear c7
   obtain rfl := Option.some.inj H
   go_enter Try.func32, Try.ntmps32
   go_wp2_with (first | ((with_reducible refine gate_callee (f := 11) rfl ?_); refine goesL_ (some 14) rfl rfl Try.func11 (by kernel_rfl) rfl #[.slice A3 l3.length c3] rfl (by (try simp only [List.map_toArray, List.map_cons, List.map_nil]); first | done | rfl | (simp only [List.length_drop, List.length_take]; rfl)) ?_; (with_reducible refine (wire_TakeInt.calls k _ _ l3 t168 t169 t170 _ ?side1 ?side2 A5.out).mono ?_); (case side1 => repeat (first | exact HR3.out | (with_reducible first | apply cA | apply cN | apply cD))); (case side2 => exact HC3.out); rintro e w' ⟨rfl, ⟨nd, rfl⟩⟩; refine ⟨_, rfl, ?_⟩))
   go_ret
   exact ⟨by first | rfl | (simp; done) | (simp [*]; done), by repeat (first | exact Drawn0.refl _ | apply Drawn0.step)⟩
  ·
   rw [if_neg c7] at H
   have c7b0 : (t169 == a1) = false := beq_eq_false_iff_ne.mpr c7
   have c7b1 : (t169 != a1) = true := bne_iff_ne.mpr c7
   obtain rfl := Option.some.inj H
   go_enter Try.func32, Try.ntmps32
   go_wp2_with (first | ((with_reducible refine gate_callee (f := 11) rfl ?_); refine goesL_ (some 14) rfl rfl Try.func11 (by kernel_rfl) rfl #[.slice A3 l3.length c3] rfl (by (try simp only [List.map_toArray, List.map_cons, List.map_nil]); first | done | rfl | (simp only [List.length_drop, List.length_take]; rfl)) ?_; (with_reducible refine (wire_TakeInt.calls k _ _ l3 t168 t169 t170 _ ?side1 ?side2 A5.out).mono ?_); (case side1 => repeat (first | exact HR3.out | (with_reducible first | apply cA | apply cN | apply cD))); (case side2 => exact HC3.out); rintro e w' ⟨rfl, ⟨nd, rfl⟩⟩; refine ⟨_, rfl, ?_⟩))
   go_ret
   exact ⟨by first | rfl | (simp; done) | (simp [*]; done), by repeat (first | exact Drawn0.refl _ | apply Drawn0.step)⟩
 ·
  rw [if_neg c6] at H
  have c6b0 : (t168 == a0) = false := beq_eq_false_iff_ne.mpr c6
  have c6b1 : (t168 != a0) = true := bne_iff_ne.mpr c6
  obtain rfl := Option.some.inj H
  go_enter Try.func32, Try.ntmps32
  go_wp2_with (first | ((with_reducible refine gate_callee (f := 11) rfl ?_); refine goesL_ (some 14) rfl rfl Try.func11 (by kernel_rfl) rfl #[.slice A3 l3.length c3] rfl (by (try simp only [List.map_toArray, List.map_cons, List.map_nil]); first | done | rfl | (simp only [List.length_drop, List.length_take]; rfl)) ?_; (with_reducible refine (wire_TakeInt.calls k _ _ l3 t168 t169 t170 _ ?side1 ?side2 A5.out).mono ?_); (case side1 => repeat (first | exact HR3.out | (with_reducible first | apply cA | apply cN | apply cD))); (case side2 => exact HC3.out); rintro e w' ⟨rfl, ⟨nd, rfl⟩⟩; refine ⟨_, rfl, ?_⟩))
  go_ret
  exact ⟨by first | rfl | (simp; done) | (simp [*]; done), by repeat (first | exact Drawn0.refl _ | apply Drawn0.step)⟩

end Go.Proofs.Ytmmnhokejadgaaa.X
