/- The statement TempoTick over numbers and lists. -/
import Derived.Test.YthgngebcfggcfaaX29
import Derived.Test.YthgngebcfggcfaaTmAwake
namespace Go.Proofs.Ythgngebcfggcfaa.Pure
open Go.RowKit Go.Proofs.YthgngebcfggcfaaW.PrintWords Go.Proofs.Ythgngebcfggcfaa.X Go.Proofs.Ythgngebcfggcfaa.Tm Go.Proofs.Ythgngebcfggcfaa.TmImpl
set_option linter.unusedVariables false
set_option linter.unusedSimpArgs false
theorem TempoTick (l : List St) (x : Int) : ∃ k, X.dancestudiolaw14_TempoTick.f k l x = some true := by
  refine ⟨20000, ?_⟩
  generalize hk : 20000 = k
  unfold dancestudiolaw14_TempoTick.f
  by_cases h : chk l = 0
  · have hV := chk_V h
    by_cases hx : 0 ≤ x ∧ x ≤ mom 8192 l
    · obtain ⟨r, hr, hr2⟩ := tTick_ok k l hV x hx.1 hx.2 (by omega)
      obtain ⟨s, hs, hs2⟩ := rTick_ok k l hV x hx.1 hx.2 (by omega)
      obtain rfl := hr2.one hV hs2
      rw [hr, Option.bind_some, hs, Option.bind_some, if_pos rfl, if_pos rfl, awake_f k (by omega), Option.bind_some]
    · rw [tTick_out k l hV x hx (by omega), Option.bind_some, rTick_out k l hV x hx (by omega), Option.bind_some, if_pos rfl, if_pos rfl, awake_f k (by omega), Option.bind_some]
  · rw [tTick_bad k l x h (by omega), Option.bind_some, rTick_bad k l x h (by omega), Option.bind_some, if_pos rfl, if_pos rfl, awake_f k (by omega), Option.bind_some]
end Go.Proofs.Ythgngebcfggcfaa.Pure
