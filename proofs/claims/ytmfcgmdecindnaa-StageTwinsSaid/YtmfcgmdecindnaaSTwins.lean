/- The law StageTwins over numbers and lists. -/
import Derived.Test.YtmfcgmdecindnaaSMirror
import Derived.Test.YtmfcgmdecindnaaX47
namespace Go.Proofs.Ytmfcgmdecindnaa.Pure
open Go.RowKit Go.Proofs.YtmfcgmdecindnaaW.PrintWords Go.Proofs.Ytmfcgmdecindnaa.X Go.Proofs.Ytmfcgmdecindnaa.Geo Go.Proofs.Ytmfcgmdecindnaa.GeoImpl Go.Proofs.Ytmfcgmdecindnaa.SImpl
set_option linter.unusedVariables false
theorem StageTwins (W D : Int) (L : List Blk) (m0 m1 m2 m3 m4 : Int) (hw0 : (Lit.int .i64 m0).wf = true) (hw2 : (Lit.int .i64 m2).wf = true) : ∃ k, X.dancestudiolaw42_StageTwins.f k W D L m0 m1 m2 m3 m4 = some true := by
  have h0 : -9223372036854775808 ≤ m0 ∧ m0 ≤ 9223372036854775807 := by
    simp only [Lit.wf, IntKind.min, IntKind.max, IntKind.signed, IntKind.bits, Bool.and_eq_true, decide_eq_true_eq, if_true] at hw0
    omega
  have h2 : -9223372036854775808 ≤ m2 ∧ m2 ≤ 9223372036854775807 := by
    simp only [Lit.wf, IntKind.min, IntKind.max, IntKind.signed, IntKind.bits, Bool.and_eq_true, decide_eq_true_eq, if_true] at hw2
    omega
  refine ⟨300, ?_⟩
  generalize hk : 300 = k
  have yes : ∀ A B C, dancestudiolaw42_StageTwins.j0 k true W D L m0 m1 m2 m3 m4 A B C = some true := by
    intro A B C
    obtain ⟨k, rfl⟩ : ∃ m, k = m + 1 := ⟨k - 1, by omega⟩
    simp only [dancestudiolaw42_StageTwins.j0]
    rw [if_pos trivial, awake_f k (by omega), Option.bind_some]
  unfold dancestudiolaw42_StageTwins.f
  rw [great_f, Option.bind_some]
  split
  · rw [awake_f k (by omega), Option.bind_some]
  · rw [mirror_f k W D L (by omega), Option.bind_some]
    unfold mirS
    by_cases h : chk W D L = 0
    · rw [if_pos h, if_pos rfl]
      by_cases c1 : m0 < -32768
      · rw [if_pos c1]; exact yes _ _ _
      · rw [if_neg c1]
        by_cases c2 : m2 < -32768
        · rw [decide_eq_true c2]; exact yes _ _ _
        · rw [decide_eq_false c2]
          obtain ⟨k, rfl⟩ : ∃ m, k = m + 1 := ⟨k - 1, by omega⟩
          simp only [dancestudiolaw42_StageTwins.j0]
          rw [if_neg (by simp), GeoImpl.w64 (x := -m0) (by omega) (by omega), GeoImpl.w64 (x := -m2) (by omega) (by omega), clear_f k _ _ _ _ _ _ _ _ (by omega), clear_f k _ _ _ _ _ _ _ _ (by omega), Option.bind_some, Option.bind_some, clr_mir, if_pos (beq_self_eq_true _), if_pos rfl, if_pos rfl, awake_f k (by omega), Option.bind_some]
    · rw [if_neg h, if_neg h]; exact yes _ _ _
end Go.Proofs.Ytmfcgmdecindnaa.Pure
