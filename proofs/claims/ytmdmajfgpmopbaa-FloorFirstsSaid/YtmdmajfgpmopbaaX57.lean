import Derived.Test.YtmdmajfgpmopbaaX0
import Derived.Test.YtmdmajfgpmopbaaX56
namespace Go.Proofs.Ytmdmajfgpmopbaa.X
open Go.RowKit YtmdmajfgpmopbaaW.PrintWords YtmdmajfgpmopbaaW.PrintLast YtmdmajfgpmopbaaW.PrintMore
attribute [local go_sem] max2_int min2_int max_two min_two max_three min_three max_four min_four
set_option linter.unusedVariables false
set_option linter.unusedSimpArgs false

/-! ### dancestudioref01_sign: function 70 -/
def dancestudioref01_sign.f (a0 a1 : Int) : Option (Int) := (dancestudioref01_order.f a0 0).bind fun t431 => ((dancestudioref01_order.f a1 0).bind fun t432 => (some (wrap64 (t431 * t432))))
set_option maxHeartbeats 8000000 in
set_option maxRecDepth 100000 in
theorem dancestudioref01_sign.calls (a0 a1 r : Int) (w : World) (h : dancestudioref01_sign.f a0 a1 = some r) :
  Calls Try.prog 70 #[.int .i64 a0, .int .i64 a1] w fun e w' => e = .returned (.int .i64 r) ∧ Drawn0 w w' := by
 have H : ((dancestudioref01_order.f a0 0).bind fun t431 => ((dancestudioref01_order.f a1 0).bind fun t432 => (some (wrap64 (t431 * t432))))) = some r := h
 clear h
 replace H := Option.bind_eq_some_iff.mp H
 obtain ⟨t431, A30, H⟩ := H
 replace H : ((dancestudioref01_order.f a1 0).bind fun t432 => (some (wrap64 (t431 * t432)))) = some r := H
 have A3 := am A30
 clear A30
 replace H := Option.bind_eq_some_iff.mp H
 obtain ⟨t432, A40, H⟩ := H
 replace H : (some (wrap64 (t431 * t432))) = some r := H
 have A4 := am A40
 clear A40
 obtain rfl := Option.some.inj H
 go_enter Try.func70, Try.ntmps70
 go_wp2_with (first | ((with_reducible refine gate_callee (f := 71) rfl ?_); refine goesL_ (some 6) rfl rfl Try.func71 qz rfl #[.int .i64 a0, .int .i64 0] rfl mz ?_; (with_reducible refine (dancestudioref01_order.calls a0 0 t431 _ A3.out).mono ?_); rintro e w' ⟨rfl, ⟨nd, rfl⟩⟩; refine ⟨_, rfl, ?_⟩) | ((with_reducible refine gate_callee (f := 71) rfl ?_); refine goesL_ (some 8) rfl rfl Try.func71 qz rfl #[.int .i64 a1, .int .i64 0] rfl mz ?_; (with_reducible refine (dancestudioref01_order.calls a1 0 t432 _ A4.out).mono ?_); rintro e w' ⟨rfl, ⟨nd, rfl⟩⟩; refine ⟨_, rfl, ?_⟩))
 go_ret
 exact ⟨by first | rfl | (simp; done) | (simp [*]; done), by repeat (first | exact Drawn0.refl _ | apply Drawn0.step)⟩

end Go.Proofs.Ytmdmajfgpmopbaa.X
