import Derived.Test.YteflngoiebgdaaaX0
import Derived.Test.YteflngoiebgdaaaX80
namespace Go.Proofs.Yteflngoiebgdaaa.X
open Go.RowKit YteflngoiebgdaaaW.PrintWords YteflngoiebgdaaaW.PrintLast YteflngoiebgdaaaW.PrintMore
attribute [local go_sem] max2_int min2_int max_two min_two max_three min_three max_four min_four
set_option linter.unusedVariables false
set_option linter.unusedSimpArgs false

/-! ### angle_Mirror: function 61 -/
def angle_Mirror.f (a0 : Int) : Option (Int) := (angle_Norm.f a0).bind fun t829 => ((angle_Norm.f (wrap64 (-t829))).bind fun t830 => (some t830))
set_option maxHeartbeats 8000000 in
set_option maxRecDepth 100000 in
theorem angle_Mirror.calls (a0 r : Int) (w : World) (h : angle_Mirror.f a0 = some r) :
  Calls Try.prog 61 #[.int .i64 a0] w fun e w' => e = .returned (.int .i64 r) ∧ Drawn0 w w' := by
 have H : ((angle_Norm.f a0).bind fun t829 => ((angle_Norm.f (wrap64 (-t829))).bind fun t830 => (some t830))) = some r := h
 clear h
 replace H := Option.bind_eq_some_iff.mp H
 obtain ⟨t829, A20, H⟩ := H
 replace H : ((angle_Norm.f (wrap64 (-t829))).bind fun t830 => (some t830)) = some r := H
 have A2 := am A20
 clear A20
 replace H := Option.bind_eq_some_iff.mp H
 obtain ⟨t830, A30, H⟩ := H
 replace H : (some t830) = some r := H
 have A3 := am A30
 clear A30
 obtain rfl := Option.some.inj H
 go_enter Try.func61, Try.ntmps61
 go_wp2_with (first | ((with_reducible refine gate_callee (f := 74) rfl ?_); refine goesL_ (some 4) rfl rfl Try.func74 qz rfl #[.int .i64 a0] rfl mz ?_; (with_reducible refine (angle_Norm.calls a0 t829 _ A2.out).mono ?_); rintro e w' ⟨rfl, ⟨nd, rfl⟩⟩; refine ⟨_, rfl, ?_⟩) | ((with_reducible refine gate_callee (f := 74) rfl ?_); refine goesL_ (some 6) rfl rfl Try.func74 qz rfl #[.int .i64 (wrap64 (-t829))] rfl mz ?_; (with_reducible refine (angle_Norm.calls (wrap64 (-t829)) t830 _ A3.out).mono ?_); rintro e w' ⟨rfl, ⟨nd, rfl⟩⟩; refine ⟨_, rfl, ?_⟩))
 go_ret
 exact ⟨by first | rfl | (simp; done) | (simp [*]; done), by repeat (first | exact Drawn0.refl _ | apply Drawn0.step)⟩

end Go.Proofs.Yteflngoiebgdaaa.X
