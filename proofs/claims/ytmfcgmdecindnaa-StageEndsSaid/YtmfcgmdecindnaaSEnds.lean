/- The law StageEnds over numbers and lists. -/
import Derived.Test.YtmfcgmdecindnaaSLaws
import Derived.Test.YtmfcgmdecindnaaX41
namespace Go.Proofs.Ytmfcgmdecindnaa.Pure
open Go.RowKit Go.Proofs.YtmfcgmdecindnaaW.PrintWords Go.Proofs.Ytmfcgmdecindnaa.X Go.Proofs.Ytmfcgmdecindnaa.Geo Go.Proofs.Ytmfcgmdecindnaa.GeoImpl Go.Proofs.Ytmfcgmdecindnaa.SImpl
set_option linter.unusedVariables false
set_option linter.unusedSimpArgs false
theorem StageEnds (W D : Int) (L : List Blk) (m0 m1 m2 m3 m4 : Int) : ∃ k, X.dancestudiolaw42_StageEnds.f k W D L m0 m1 m2 m3 m4 = some true := by
  refine ⟨300, ?_⟩
  generalize hk : 300 = k
  unfold dancestudiolaw42_StageEnds.f
  rw [great_f, Option.bind_some]
  split
  · rw [awake_f k (by omega), Option.bind_some]
  · rw [clear_f k _ _ _ _ _ _ _ _ (by omega), Option.bind_some, Inside_f k _ _ _ _ _ _ (by omega), Inside_f k _ _ _ _ _ _ (by omega), Option.bind_some, Option.bind_some]
    unfold clr
    by_cases h : chk W D L = 0
    · rw [if_pos h]
      by_cases hm : mOk m0 m1 m2 m3 m4 = true
      · have e1 : ins W D L m0 m1 m4 = (inB W D m0 m1 m4, 0) := by
          unfold ins
          unfold mOk at hm
          simp only [Bool.and_eq_true] at hm
          rw [if_pos h, if_pos ⟨hm.1.1, hm.2⟩]
        have e2 : ins W D L m2 m3 m4 = (inB W D m2 m3 m4, 0) := by
          unfold ins
          unfold mOk at hm
          simp only [Bool.and_eq_true] at hm
          rw [if_pos h, if_pos ⟨hm.1.2, hm.2⟩]
        rw [if_pos hm, e1, e2, if_pos rfl, if_pos rfl, if_pos rfl]
        simp only
        cases inB W D m0 m1 m4
        · rw [if_neg (by simp), if_pos (by rfl), awake_f k (by omega), Option.bind_some]
        · rw [if_pos rfl, if_pos (by simp), awake_f k (by omega), Option.bind_some]
      · rw [if_neg hm, if_neg (by simp), if_neg (by simp), if_pos rfl, awake_f k (by omega), Option.bind_some]
    · rw [if_neg h, if_neg h, if_neg (by simp), if_pos rfl, awake_f k (by omega), Option.bind_some]
end Go.Proofs.Ytmfcgmdecindnaa.Pure
