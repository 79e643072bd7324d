/- The statement CueFits over numbers and lists. -/
import Derived.Test.YtljjgcfifhfhdaaX8
import Derived.Test.YtljjgcfifhfhdaaX18
import Derived.Test.YtljjgcfifhfhdaaCuAwake
namespace Go.Proofs.Ytljjgcfifhfhdaa.Pure
open Go.RowKit Go.Proofs.YtljjgcfifhfhdaaW.PrintWords Go.Proofs.Ytljjgcfifhfhdaa.X Go.Proofs.Ytljjgcfifhfhdaa.Tm Go.Proofs.Ytljjgcfifhfhdaa.TmImpl Go.Proofs.Ytljjgcfifhfhdaa.Cu
set_option linter.unusedVariables false
set_option linter.unusedSimpArgs false
theorem CueFits (l : List Sc) : ∃ k, X.dancestudiolaw15_CueFits.f k l = some true := by
  refine ⟨2000, ?_⟩
  generalize hk : 2000 = k
  unfold dancestudiolaw15_CueFits.f
  rw [awake_f k (by omega), Option.bind_some]
  by_cases h : (l.length : Int) > 80
  · rw [if_pos h]
  · rw [if_neg h, rf_f k l (by omega)]
    unfold cue_Fit.f
    have hl := res_len l
    rw [Option.bind_some, Option.bind_some, rt_f k _ (by omega) (by omega), Option.bind_some, if_pos rfl, if_pos rfl]
end Go.Proofs.Ytljjgcfifhfhdaa.Pure
