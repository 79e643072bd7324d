/- The law StageClears over numbers and lists. -/
import Derived.Test.YtmfcgmdecindnaaSLaws
import Derived.Test.YtmfcgmdecindnaaSRefB
import Derived.Test.YtmfcgmdecindnaaX39
namespace Go.Proofs.Ytmfcgmdecindnaa.Pure
open Go.RowKit Go.Proofs.YtmfcgmdecindnaaW.PrintWords Go.Proofs.Ytmfcgmdecindnaa.X Go.Proofs.Ytmfcgmdecindnaa.Geo Go.Proofs.Ytmfcgmdecindnaa.GeoImpl Go.Proofs.Ytmfcgmdecindnaa.SImpl
set_option linter.unusedVariables false
set_option linter.unusedSimpArgs false
theorem StageClears (W D : Int) (L : List Blk) (m0 m1 m2 m3 m4 : Int) : ∃ k, X.dancestudiolaw42_StageClears.f k W D L m0 m1 m2 m3 m4 = some true := by
  refine ⟨300, ?_⟩
  generalize hk : 300 = k
  unfold dancestudiolaw42_StageClears.f
  rw [great_f, Option.bind_some]
  split
  · rw [awake_f k (by omega), Option.bind_some]
  · rw [clear_f k _ _ _ _ _ _ _ _ (by omega), rclear_f k _ _ _ _ _ _ _ _ (by omega), Option.bind_some, Option.bind_some, if_pos (beq_self_eq_true _), if_pos rfl, if_pos rfl, awake_f k (by omega), Option.bind_some]
end Go.Proofs.Ytmfcgmdecindnaa.Pure
