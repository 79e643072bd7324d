/- The law StageChecks over numbers and lists. -/
import Derived.Test.YtmfcgmdecindnaaSLaws
import Derived.Test.YtmfcgmdecindnaaSRefA
import Derived.Test.YtmfcgmdecindnaaX28
namespace Go.Proofs.Ytmfcgmdecindnaa.Pure
open Go.RowKit Go.Proofs.YtmfcgmdecindnaaW.PrintWords Go.Proofs.Ytmfcgmdecindnaa.X Go.Proofs.Ytmfcgmdecindnaa.Geo Go.Proofs.Ytmfcgmdecindnaa.GeoImpl Go.Proofs.Ytmfcgmdecindnaa.SImpl
set_option linter.unusedVariables false
set_option linter.unusedSimpArgs false
theorem StageChecks (W D : Int) (L : List Blk) (x y r : Int) : ∃ k, X.dancestudiolaw42_StageChecks.f k W D L x y r = some true := by
  refine ⟨300, ?_⟩
  generalize hk : 300 = k
  unfold dancestudiolaw42_StageChecks.f
  rw [great_f, Option.bind_some]
  split
  · rw [awake_f k (by omega), Option.bind_some]
  · rw [Inside_f k _ _ _ _ _ _ (by omega), rInside_f k _ _ _ _ _ _ (by omega), check_f k _ _ _ (by omega), rcheck_f k _ _ _ (by omega), Option.bind_some, Option.bind_some, Option.bind_some, Option.bind_some, if_pos rfl, if_pos (beq_self_eq_true _), if_pos rfl, awake_f k (by omega), Option.bind_some]
end Go.Proofs.Ytmfcgmdecindnaa.Pure
