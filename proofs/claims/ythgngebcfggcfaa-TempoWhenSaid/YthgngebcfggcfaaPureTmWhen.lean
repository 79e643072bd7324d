/- The statement TempoWhen over numbers and lists. -/
import Derived.Test.YthgngebcfggcfaaX26
import Derived.Test.YthgngebcfggcfaaTmAwake
namespace Go.Proofs.Ythgngebcfggcfaa.Pure
open Go.RowKit Go.Proofs.YthgngebcfggcfaaW.PrintWords Go.Proofs.Ythgngebcfggcfaa.X Go.Proofs.Ythgngebcfggcfaa.Tm Go.Proofs.Ythgngebcfggcfaa.TmImpl
set_option linter.unusedVariables false
set_option linter.unusedSimpArgs false
theorem TempoWhen (l : List St) (t : Int) : ∃ k, X.dancestudiolaw14_TempoWhen.f k l t = some true := by
  refine ⟨20000, ?_⟩
  generalize hk : 20000 = k
  unfold dancestudiolaw14_TempoWhen.f
  rw [tWhen_f k l t (by omega), Option.bind_some, rWhen_f k l t (by omega), Option.bind_some, if_pos rfl, if_pos rfl, awake_f k (by omega), Option.bind_some]
end Go.Proofs.Ythgngebcfggcfaa.Pure
