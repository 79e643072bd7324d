/- The statement CueDrifts over numbers and lists. -/
import Derived.Test.YtljjgcfifhfhdaaX24
import Derived.Test.YtljjgcfifhfhdaaCuAwake
namespace Go.Proofs.Ytljjgcfifhfhdaa.Pure
open Go.RowKit Go.Proofs.YtljjgcfifhfhdaaW.PrintWords Go.Proofs.Ytljjgcfifhfhdaa.X Go.Proofs.Ytljjgcfifhfhdaa.Tm Go.Proofs.Ytljjgcfifhfhdaa.TmImpl Go.Proofs.Ytljjgcfifhfhdaa.Cu
set_option linter.unusedVariables false
set_option linter.unusedSimpArgs false
theorem CueDrifts (l : List Sc) (t : List St) : ∃ k, X.dancestudiolaw15_CueDrifts.f k l t = some true := by
  refine ⟨2001, ?_⟩
  generalize hk : 2001 = k
  have hm : ∀ b, dancestudiolaw15_CueDrifts.j0 k l t b = some true := by
    intro b
    obtain ⟨k, rfl⟩ : ∃ m, k = m + 1 := ⟨k - 1, by omega⟩
    rw [dancestudiolaw15_CueDrifts.j0, awake_f k (by omega), Option.bind_some]
    cases b with
    | true => rw [if_pos rfl]
    | false =>
      have hl := drf_len l t
      rw [if_neg (by simp), drf_f k l t (by omega), rdrf_f k l t (by omega), wor_f k l t (by omega), rwor_f k l t (by omega), Option.bind_some, Option.bind_some, Option.bind_some, Option.bind_some, ri_f k _ (by omega) (by omega), Option.bind_some, if_pos rfl, if_pos rfl, if_pos rfl, if_pos rfl]
  unfold dancestudiolaw15_CueDrifts.f
  split
  · exact hm _
  · exact hm _
end Go.Proofs.Ytljjgcfifhfhdaa.Pure
