/- The statement TempoCheck over numbers and lists. -/
import Derived.Test.YthgngebcfggcfaaX23
import Derived.Test.YthgngebcfggcfaaTmAwake
namespace Go.Proofs.Ythgngebcfggcfaa.Pure
open Go.RowKit Go.Proofs.YthgngebcfggcfaaW.PrintWords Go.Proofs.Ythgngebcfggcfaa.X Go.Proofs.Ythgngebcfggcfaa.Tm Go.Proofs.Ythgngebcfggcfaa.TmImpl
set_option linter.unusedVariables false
set_option linter.unusedSimpArgs false
theorem TempoCheck (l : List St) (n : Int) : ∃ k, X.dancestudiolaw14_TempoCheck.f k l n = some true := by
  refine ⟨20000, ?_⟩
  generalize hk : 20000 = k
  unfold dancestudiolaw14_TempoCheck.f
  rw [rCheck_f k l (by omega), Option.bind_some, tCheck_f k l (by omega), Option.bind_some, if_pos rfl]
  by_cases h : chk l = 0
  · rw [if_pos h, awake_f k (by omega), Option.bind_some]
  · rw [if_neg h, tWhen_f k l n (by omega), Option.bind_some, tTick_bad k l n h (by omega), Option.bind_some, tNorm_f k l (by omega), Option.bind_some, tScaled_f k l n n (by omega), Option.bind_some]
    have e1 : whn l n = (0, chk l) := by unfold whn; rw [if_neg h]
    have e2 : nor l = ([], chk l) := by unfold nor; rw [if_neg h]
    have e3 : scd l n n = ([], chk l) := by unfold scd; rw [if_neg h]
    rw [e1, e2, e3, if_pos (by rfl), if_pos (by rfl), if_pos (by rfl), if_pos (by rfl), if_pos rfl, if_pos rfl, if_pos rfl, if_pos rfl, awake_f k (by omega), Option.bind_some]
end Go.Proofs.Ythgngebcfggcfaa.Pure
