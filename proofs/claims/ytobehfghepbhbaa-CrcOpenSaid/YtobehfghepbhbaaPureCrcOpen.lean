/- The statement CrcOpen over numbers and lists. -/
import Derived.Test.YtobehfghepbhbaaX30
import Derived.Test.YtobehfghepbhbaaCrcAll
namespace Go.Proofs.Ytobehfghepbhbaa.Pure
open Go.RowKit Go.Proofs.YtobehfghepbhbaaW.PrintWords Go.Proofs.Ytobehfghepbhbaa.X Go.Proofs.Ytobehfghepbhbaa.WPlain Go.Proofs.Ytobehfghepbhbaa.WImpl Go.Proofs.Ytobehfghepbhbaa.Crc Go.Proofs.Ytobehfghepbhbaa.CrcImpl
theorem opn_BY (l : List Int) (hb : BY l) : BY (opn l).1 := by
  unfold opn
  intro y hy
  split at hy
  · split at hy
    · simp at hy
    · split at hy
      · simp at hy
      · split at hy
        · simp at hy
        · split at hy
          · exact hb y (List.mem_of_mem_drop (List.mem_of_mem_take hy))
          · simp at hy
  · simp at hy
theorem CrcOpen (x0 : List Int) (g0 : (x0.length ≤ maxLen ∧ ∀ y ∈ x0, (Lit.int .u8 y).wf = true)) : ∃ k, X.dancestudiolaw08_CrcOpen.f k x0 = some true := by
  have hb := bys g0
  refine ⟨100000, ?_⟩
  generalize hk : 100000 = k
  unfold dancestudiolaw08_CrcOpen.f
  split
  · rw [awake_f k (by omega), Option.bind_some]
  · rw [open_f k x0 hb (by omega) (by omega), Option.bind_some, ropen_f k x0 hb (by omega) (by omega), Option.bind_some, same_f (opn_BY x0 hb) (opn_BY x0 hb), Option.bind_some, if_pos (by simp), if_pos rfl, show ((opn x0).2.2 != (opn x0).2.2) = false by simp]
    obtain ⟨k, rfl⟩ : ∃ q, k = q + 1 := ⟨k - 1, by omega⟩
    have ha := alls_len 5000 x0
    rw [dancestudiolaw08_CrcOpen.j0, if_neg (by simp), all_f k 5000 x0 hb (by omega) (by omega) (by omega), Option.bind_some, rall_f k 5000 x0 hb (by omega) (by omega) (by omega), Option.bind_some, lists_f k _ (by omega) (by omega), Option.bind_some, if_pos rfl, if_pos rfl, awake_f k (by omega), Option.bind_some]
end Go.Proofs.Ytobehfghepbhbaa.Pure
