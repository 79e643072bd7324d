/- The law StageSmaller over numbers and lists. -/
import Derived.Test.YtmfcgmdecindnaaX21
import Derived.Test.YtmfcgmdecindnaaSLaws
import Derived.Test.YtmfcgmdecindnaaX42
namespace Go.Proofs.Ytmfcgmdecindnaa.Pure
open Go.RowKit Go.Proofs.YtmfcgmdecindnaaW.PrintWords Go.Proofs.Ytmfcgmdecindnaa.X Go.Proofs.Ytmfcgmdecindnaa.Geo Go.Proofs.Ytmfcgmdecindnaa.GeoImpl Go.Proofs.Ytmfcgmdecindnaa.SImpl
set_option linter.unusedVariables false
set_option linter.unusedSimpArgs false
theorem StageSmaller (W D : Int) (L : List Blk) (m0 m1 m2 m3 m4 : Int) (hw : (Lit.int .i64 m4).wf = true) : ∃ k, X.dancestudiolaw42_StageSmaller.f k W D L m0 m1 m2 m3 m4 = some true := by
  have hw' : -9223372036854775808 ≤ m4 ∧ m4 ≤ 9223372036854775807 := by
    simp only [Lit.wf, IntKind.min, IntKind.max, IntKind.signed, IntKind.bits, Bool.and_eq_true, decide_eq_true_eq, if_true] at hw
    omega
  refine ⟨300, ?_⟩
  generalize hk : 300 = k
  have yes : dancestudiolaw42_StageSmaller.j0 k true W D L m0 m1 m2 m3 m4 = some true := by
    obtain ⟨k, rfl⟩ : ∃ m, k = m + 1 := ⟨k - 1, by omega⟩
    simp only [dancestudiolaw42_StageSmaller.j0]
    rw [if_pos trivial, awake_f k (by omega), Option.bind_some]
  unfold dancestudiolaw42_StageSmaller.f
  rw [great_f, Option.bind_some]
  split
  · exact yes
  · by_cases h1 : m4 < 1
    · rw [decide_eq_true h1]; exact yes
    · rw [decide_eq_false h1]
      obtain ⟨k, rfl⟩ : ∃ m, k = m + 1 := ⟨k - 1, by omega⟩
      have aw := awake_f k (by omega)
      simp only [dancestudiolaw42_StageSmaller.j0]
      rw [if_neg (by simp), clear_f k _ _ _ _ _ _ _ _ (by omega), Option.bind_some, clear_f k _ _ _ _ _ _ _ _ (by omega), Option.bind_some, GeoImpl.w64 (x := m4 - 1) (by omega) (by omega)]
      unfold clr
      by_cases h : chk W D L = 0
      · rw [if_pos h, if_pos h]
        by_cases hm : mOk m0 m1 m2 m3 m4 = true
        · have hm2 : mOk m0 m1 m2 m3 (m4 - 1) = true := by
            have := (mOk_iff _ _ _ _ _).1 hm
            exact (mOk_iff _ _ _ _ _).2 (by omega)
          rw [if_pos hm, if_pos hm2, if_pos rfl, if_pos rfl]
          simp only
          have hh := hit_less m0 m1 m2 m3 m4 hm (by omega) L 0 (by omega)
          have fin : (if hit m0 m1 m2 m3 (m4 - 1) L 0 < 0 then (dancestudiolaw42_awake.f k).bind fun t => some t else if hit m0 m1 m2 m3 m4 L 0 ≥ 0 then if hit m0 m1 m2 m3 m4 L 0 ≤ hit m0 m1 m2 m3 (m4 - 1) L 0 then (dancestudiolaw42_awake.f k).bind fun t => some t else some false else some false) = some true := by
            rcases hh with hh | ⟨h2, h3⟩
            · rw [if_pos hh, aw, Option.bind_some]
            · by_cases hn : hit m0 m1 m2 m3 (m4 - 1) L 0 < 0
              · rw [if_pos hn, aw, Option.bind_some]
              · rw [if_neg hn, if_pos h2, if_pos h3, aw, Option.bind_some]
          by_cases hin : (inB W D m0 m1 m4 && inB W D m2 m3 m4) = true
          · have hin' := hin
            rw [Bool.and_eq_true] at hin'
            rw [if_pos hin, if_pos (by rw [inB_less _ _ _ _ _ hin'.1, inB_less _ _ _ _ _ hin'.2]; rfl)]
            exact fin
          · rw [if_neg hin]
            exact fin
        · rw [if_neg hm, if_neg (by simp), if_neg (by simp), if_pos rfl, aw, Option.bind_some]
      · rw [if_neg h, if_neg h, if_neg (by simp), if_pos rfl, aw, Option.bind_some]
end Go.Proofs.Ytmfcgmdecindnaa.Pure
