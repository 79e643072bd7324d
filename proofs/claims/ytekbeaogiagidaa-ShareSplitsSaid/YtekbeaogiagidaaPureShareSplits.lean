/- The law ShareSplits over numbers and lists. -/
import Derived.Test.YtekbeaogiagidaaShRefSplit
import Derived.Test.YtekbeaogiagidaaShSame
import Derived.Test.YtekbeaogiagidaaShAwake
import Derived.Test.YtekbeaogiagidaaX27
namespace Go.Proofs.Ytekbeaogiagidaa.Pure
open Go.RowKit Go.Proofs.YtekbeaogiagidaaW.PrintWords Go.Proofs.Ytekbeaogiagidaa.X Go.Proofs.Ytekbeaogiagidaa.Sh
set_option linter.unusedVariables false
set_option linter.unusedSimpArgs false
theorem ShareSplits (x0 : Int) (x1 : List Int) : ∃ k, X.dancestudiolaw12_ShareSplits.f k x0 x1 = some true := by
  obtain ⟨k, hk⟩ : ∃ k, k = 2000 + x1.length * (x1.length + 2) + 1 + x1.length + 1 + x1.length + 1 := ⟨_, rfl⟩
  have hk2 : 2000 + 2 * x1.length ≤ k := by omega
  refine ⟨k + 1, ?_⟩
  have hr := ref_split x0 x1 2000 (by omega)
  rw [← hk] at hr
  unfold dancestudiolaw12_ShareSplits.f
  have aw := awake_f k (by omega)
  have jt : ∀ b : Bool, b = true → dancestudiolaw12_ShareSplits.j0 (k + 1) x0 x1 b = some true := fun b e => by
    subst e
    rw [dancestudiolaw12_ShareSplits.j0, if_pos rfl, aw, Option.bind_some]
  have jf : x1.length ≤ 520 → ∀ b : Bool, b = false → dancestudiolaw12_ShareSplits.j0 (k + 1) x0 x1 b = some true := fun hl b e => by
    subst e
    rw [dancestudiolaw12_ShareSplits.j0, if_neg (by decide), hr]
    by_cases hc : (chk x0 x1).2 = 0
    · have g := (chk_good hc).1
      rw [split_ok g k (by omega), Option.bind_some, if_pos hc, Option.bind_some, same_f _ _ rfl (by rw [parts_length]; omega) k (by rw [parts_length]; omega), Option.bind_some, if_pos rfl, if_pos rfl, aw, Option.bind_some]
    · rw [split_bad hc k (by omega), Option.bind_some, if_neg hc, Option.bind_some, same_f _ _ rfl (by simp) k (by simp; omega), Option.bind_some, if_pos rfl, if_pos rfl, aw, Option.bind_some]
  by_cases h : (x1.length : Int) > 520
  · rw [if_pos h]; exact jt _ rfl
  · rw [if_neg h]
    by_cases h1 : (x1.length : Int) > 100
    · rw [if_pos h1]
      by_cases h2 : (x1.length : Int) ≤ 512
      · exact jt _ (decide_eq_true h2)
      · exact jf (by omega) _ (decide_eq_false h2)
    · rw [if_neg h1]; exact jf (by omega) _ rfl
end Go.Proofs.Ytekbeaogiagidaa.Pure
