/- The comparison of lists. -/
import Derived.Test.YtekbeaogiagidaaShStages
import Derived.Test.YtekbeaogiagidaaX17
namespace Go.Proofs.Ytekbeaogiagidaa.Sh
open Go.RowKit Go.Proofs.YtekbeaogiagidaaW.PrintWords Go.Proofs.Ytekbeaogiagidaa.X
set_option linter.unusedVariables false
set_option linter.unusedSimpArgs false
theorem same_run (l : List Int) (h : l.length ≤ 1000) : ∀ (d i k : Nat), i + d = l.length → 1 + d ≤ k → dancestudioref12_Same.l0 k l l (i : Int) = some true
  | 0, i, k, hi, hk => by
    obtain ⟨k, rfl⟩ : ∃ k', k = k' + 1 := ⟨k - 1, by omega⟩
    rw [dancestudioref12_Same.l0, if_neg (by omega)]
  | d + 1, i, k, hi, hk => by
    obtain ⟨k, rfl⟩ : ∃ k', k = k' + 1 := ⟨k - 1, by omega⟩
    have b2 : -9223372036854775808 ≤ (i : Int) + 1 ∧ (i : Int) + 1 ≤ 9223372036854775807 := by omega
    have c1 : (i : Int) < (l.length : Int) := by omega
    have c2 : (0 : Int) ≤ (i : Int) := by omega
    have := same_run l h d (i + 1) k (by omega) (by omega)
    push_cast at this
    rw [dancestudioref12_Same.l0, wrap_in _ b2.1 b2.2, if_pos c1, if_pos c2, if_pos c1, if_pos rfl]
    exact this
theorem same_f (l m : List Int) (e : l = m) (h : l.length ≤ 1000) (k : Nat) (hk : 1 + l.length ≤ k) : dancestudioref12_Same.f k l m = some true := by
  subst e
  unfold dancestudioref12_Same.f
  rw [if_pos rfl]
  have := same_run l h l.length 0 k (by omega) hk
  simpa using this
end Go.Proofs.Ytekbeaogiagidaa.Sh
