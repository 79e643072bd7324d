/- The law StageMirrors over numbers and lists. -/
import Derived.Test.YtmfcgmdecindnaaSMirror
import Derived.Test.YtmfcgmdecindnaaX46
namespace Go.Proofs.Ytmfcgmdecindnaa.Pure
open Go.RowKit Go.Proofs.YtmfcgmdecindnaaW.PrintWords Go.Proofs.Ytmfcgmdecindnaa.X Go.Proofs.Ytmfcgmdecindnaa.Geo Go.Proofs.Ytmfcgmdecindnaa.GeoImpl Go.Proofs.Ytmfcgmdecindnaa.SImpl
set_option linter.unusedVariables false
theorem StageMirrors (W D : Int) (L : List Blk) : ∃ k, X.dancestudiolaw42_StageMirrors.f k W D L = some true := by
  refine ⟨300, ?_⟩
  generalize hk : 300 = k
  unfold dancestudiolaw42_StageMirrors.f
  rw [great_f, Option.bind_some]
  split
  · rw [awake_f k (by omega), Option.bind_some]
  · rw [mirror_f k W D L (by omega), rmirror_f k W D L (by omega), Option.bind_some, Option.bind_some, same_f k _ _ _ (mirS_len W D L) (by omega), Option.bind_some, if_pos rfl, show ((mirS W D L).2.2.2 != (mirS W D L).2.2.2) = false by simp]
    obtain ⟨k, rfl⟩ : ∃ m, k = m + 1 := ⟨k - 1, by omega⟩
    simp only [dancestudiolaw42_StageMirrors.j0]
    rw [if_neg (by simp), mirror_f k _ _ _ (by omega), Option.bind_some]
    unfold mirS
    by_cases h : chk W D L = 0
    · rw [if_pos h]
      simp only
      rw [if_pos trivial, chk_mir, if_pos h, if_pos rfl, map_mir_mir, same_f k W D L (chk_ok h).2.1 (by omega), Option.bind_some, if_pos rfl, awake_f k (by omega), Option.bind_some]
    · rw [if_neg h, if_neg h, awake_f k (by omega), Option.bind_some]
end Go.Proofs.Ytmfcgmdecindnaa.Pure
