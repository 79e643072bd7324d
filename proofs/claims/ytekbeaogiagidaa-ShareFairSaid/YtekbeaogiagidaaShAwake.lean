/- Share: the chapter's examples. -/
import Derived.Test.YtekbeaogiagidaaX20
namespace Go.Proofs.Ytekbeaogiagidaa.Sh
open Go.RowKit Go.Proofs.YtekbeaogiagidaaW.PrintWords Go.Proofs.Ytekbeaogiagidaa.X
set_option linter.unusedVariables false
set_option linter.unusedSimpArgs false
set_option maxRecDepth 100000 in
theorem awake_40 : dancestudiolaw12_awake.f 40 = some true := by kernel_rfl
theorem awake_ge : ∀ d, dancestudiolaw12_awake.f (40 + d) = some true
  | 0 => awake_40
  | d + 1 => dancestudiolaw12_awake.mono (40 + d) _ (awake_ge d)
theorem awake_f (k : Nat) (h : 40 ≤ k) : dancestudiolaw12_awake.f k = some true := by
  obtain ⟨d, rfl⟩ : ∃ d, k = 40 + d := ⟨k - 40, by omega⟩
  exact awake_ge d
end Go.Proofs.Ytekbeaogiagidaa.Sh
