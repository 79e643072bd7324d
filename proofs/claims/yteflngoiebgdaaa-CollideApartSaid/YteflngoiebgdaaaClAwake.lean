/- Collide: the chapter's examples. -/
import Derived.Test.YteflngoiebgdaaaX34
namespace Go.Proofs.Yteflngoiebgdaaa.Cl
open Go.RowKit Go.Proofs.YteflngoiebgdaaaW.PrintWords Go.Proofs.Yteflngoiebgdaaa.X
set_option maxRecDepth 100000 in
theorem awake_40 : dancestudiolaw44_awake.f 40 = some true := by kernel_rfl
theorem awake_ge : ∀ d, dancestudiolaw44_awake.f (40 + d) = some true
  | 0 => awake_40
  | d + 1 => dancestudiolaw44_awake.mono (40 + d) _ (awake_ge d)
theorem awake_f (k : Nat) (h : 40 ≤ k) : dancestudiolaw44_awake.f k = some true := by
  obtain ⟨d, rfl⟩ : ∃ d, k = 40 + d := ⟨k - 40, by omega⟩
  exact awake_ge d
end Go.Proofs.Yteflngoiebgdaaa.Cl
