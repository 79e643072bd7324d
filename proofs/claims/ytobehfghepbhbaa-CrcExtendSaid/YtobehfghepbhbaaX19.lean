-- squeezed
-- written by xprint.py, an own overlay over the kit's print; not trusted: Lean checks it
import Derived.Test.YtobehfghepbhbaaX0
namespace Go.Proofs.Ytobehfghepbhbaa.X
open Go.RowKit Go.Proofs.YtobehfghepbhbaaW.PrintWords Go.Proofs.YtobehfghepbhbaaW.PrintLast Go.Proofs.YtobehfghepbhbaaW.PrintMore
attribute [local go_sem] max2_int min2_int max_two min_two max_three min_three max_four min_four   -- for this text's walks alone
set_option linter.unusedVariables false
set_option linter.unusedSimpArgs false

/-! ### dancestudioref08_four: function 27 -/
def dancestudioref08_four.f (a0 : Int) : Option (List Int) := some (([(Go.bits .and .u32 a0 255) % 256, (Go.bits .and .u32 (a0 / 256) 255) % 256, (Go.bits .and .u32 (a0 / 65536) 255) % 256, (a0 / 16777216) % 256] : List Int))
set_option maxHeartbeats 8000000 in
set_option maxRecDepth 100000 in
theorem dancestudioref08_four.calls (a0 : Int) (r : List Int) (w : World) (h : dancestudioref08_four.f a0 = some r) :
  Calls Try.prog 27 #[.int .u32 a0] w fun e w' => ∃ v0_ : Value, e = .returned (v0_) ∧ Kd.R (Kd.int .u8) 5 w' w.heap.size (fun _ => True) v0_ r ∧ Below w.heap.size w w' := by
 have HB := Aside0.mk (Below.refl w.heap.size w)
 have H : (some (([(Go.bits .and .u32 a0 255) % 256, (Go.bits .and .u32 (a0 / 256) 255) % 256, (Go.bits .and .u32 (a0 / 65536) 255) % 256, (a0 / 16777216) % 256] : List Int))) = some r := h
 clear h
 obtain ⟨y286, hy286⟩ : ∃ y_ : List Int, y_ = (([(Go.bits .and .u32 a0 255) % 256, (Go.bits .and .u32 (a0 / 256) 255) % 256, (Go.bits .and .u32 (a0 / 65536) 255) % 256, (a0 / 16777216) % 256] : List Int)) := ⟨_, rfl⟩
 replace H : (some y286) = some r := by first | (rw [hy286]; with_reducible exact H) | (have H2_ := (Option.bind_some _ _).symm.trans H; rw [hy286]; with_reducible exact H2_) | (have H2_ := (Option.bind_some _ _).symm.trans H; with_reducible exact H2_) | with_reducible exact H | (rw [hy286]; exact H) | exact H
 have Ny286 := Aside0.mk hy286
 clear hy286
 obtain rfl := Option.some.inj H
 go_enter Try.func27, Try.ntmps27
 go_wp2_with (first | ((with_reducible refine gate_dst (N := 17) rfl ?_); refine Kd.R_lit (Kd.int .u8) _ 5 ?hg (N := 17) ?hd (xs := ([(Go.bits .and .u32 a0 255) % 256, (Go.bits .and .u32 (a0 / 256) 255) % 256, (Go.bits .and .u32 (a0 / 65536) 255) % 256, (a0 / 16777216) % 256] : List Int)) (inner := [.int .u8 ((Go.bits .and .u32 a0 255) % 256), .int .u8 ((Go.bits .and .u32 (a0 / 256) 255) % 256), .int .u8 ((Go.bits .and .u32 (a0 / 65536) 255) % 256), .int .u8 ((a0 / 16777216) % 256)]) (ok := fun _ => True) (okp := fun _ => True) ?hr ?hp (fun _ hk => hk) trivial (Below.refl _ _) (Nat.le_refl _) (by simp) ?_; (case hd => rfl); (case hg => rfl); (case hr => first | (go_simp; done) | (go_simp; rfl)); (case hp => exact (Reps.one (show Kd.M (Kd.int .u8) _ _ _ ((Go.bits .and .u32 a0 255) % 256) [.int .u8 ((Go.bits .and .u32 a0 255) % 256)] from rfl) (Reps.one (show Kd.M (Kd.int .u8) _ _ _ ((Go.bits .and .u32 (a0 / 256) 255) % 256) [.int .u8 ((Go.bits .and .u32 (a0 / 256) 255) % 256)] from rfl) (Reps.one (show Kd.M (Kd.int .u8) _ _ _ ((Go.bits .and .u32 (a0 / 65536) 255) % 256) [.int .u8 ((Go.bits .and .u32 (a0 / 65536) 255) % 256)] from rfl) (Reps.one (show Kd.M (Kd.int .u8) _ _ _ ((a0 / 16777216) % 256) [.int .u8 ((a0 / 16777216) % 256)] from rfl) (Reps.none _ _)))))); intro v287 w2 ho3 hb hg_ hnew_; clear hg_ hnew_; (first | rw [← Ny286.out] at ho3 | (simp only [Int.reduceToNat] at ho3; rw [← Ny286.out] at ho3)); have HO288 := Aside0.mk (Kd.R_lower ho3 (below_size (by repeat with_reducible first | exact HB.out | apply bA | apply bN | apply bD))); replace HB := Aside0.mk (below_step (by repeat with_reducible first | exact HB.out | apply bA | apply bN | apply bD) hb); clear hb ho3))
 go_ret
 exact ⟨_, by first | rfl | (simp [errW_none, errW_some] <;> rfl) | (simp [*, errW_none, errW_some] <;> rfl), by (with_reducible repeat first | apply rA | apply rN | apply rD); exact HO288.out, by repeat with_reducible first | exact HB.out | apply bA | apply bN | apply bD⟩

end Go.Proofs.Ytobehfghepbhbaa.X
