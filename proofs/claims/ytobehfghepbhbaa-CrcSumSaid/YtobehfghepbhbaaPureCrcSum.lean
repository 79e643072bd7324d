/- The statement CrcSum over numbers and lists. -/
import Derived.Test.YtobehfghepbhbaaX14
import Derived.Test.YtobehfghepbhbaaCrcWf
namespace Go.Proofs.Ytobehfghepbhbaa.Pure
open Go.RowKit Go.Proofs.YtobehfghepbhbaaW.PrintWords Go.Proofs.Ytobehfghepbhbaa.X Go.Proofs.Ytobehfghepbhbaa.WImpl Go.Proofs.Ytobehfghepbhbaa.Crc Go.Proofs.Ytobehfghepbhbaa.CrcImpl
theorem CrcSum (x0 : Int) (x1 : List Int) (g0 : (Lit.int .u32 x0).wf = true) (g1 : (x1.length ≤ maxLen ∧ ∀ y ∈ x1, (Lit.int .u8 y).wf = true)) : ∃ k, X.dancestudiolaw08_CrcSum.f k x0 x1 = some true := by
  obtain ⟨n, rfl, hn⟩ := wfu32 g0
  have hb := bys g1
  refine ⟨50000, ?_⟩
  generalize hk : 50000 = k
  unfold dancestudiolaw08_CrcSum.f
  split
  · rw [awake_f k (by omega), Option.bind_some]
  · rw [sum_f k x1 hb (by omega) (by omega), Option.bind_some, rsum_f k x1 hb (by omega) (by omega), Option.bind_some, if_pos rfl, extend_f k n x1 hn hb (by omega) (by omega), Option.bind_some, rextend_f k n x1 hn hb (by omega) (by omega), Option.bind_some, if_pos rfl, awake_f k (by omega), Option.bind_some]
end Go.Proofs.Ytobehfghepbhbaa.Pure
