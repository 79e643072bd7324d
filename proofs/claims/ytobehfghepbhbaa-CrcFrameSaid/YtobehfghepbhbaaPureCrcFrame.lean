/- The statement CrcFrame over numbers and lists. -/
import Derived.Test.YtobehfghepbhbaaX22
import Derived.Test.YtobehfghepbhbaaCrcWf
namespace Go.Proofs.Ytobehfghepbhbaa.Pure
open Go.RowKit Go.Proofs.YtobehfghepbhbaaW.PrintWords Go.Proofs.Ytobehfghepbhbaa.X Go.Proofs.Ytobehfghepbhbaa.WImpl Go.Proofs.Ytobehfghepbhbaa.Crc Go.Proofs.Ytobehfghepbhbaa.CrcImpl
theorem CrcFrame (x0 : List Int) (g0 : (x0.length ≤ maxLen ∧ ∀ y ∈ x0, (Lit.int .u8 y).wf = true)) : ∃ k, X.dancestudiolaw08_CrcFrame.f k x0 = some true := by
  have hb := bys g0
  refine ⟨100000, ?_⟩
  generalize hk : 100000 = k
  unfold dancestudiolaw08_CrcFrame.f
  split
  · rw [awake_f k (by omega), Option.bind_some]
  · rw [frame_f k x0 hb (by omega) (by omega), Option.bind_some, rframe_f k x0 hb (by omega) (by omega), Option.bind_some, if_neg (by omega), same_f (frm_BY x0 hb) (frm_BY x0 hb), Option.bind_some, if_pos (by simp), if_pos rfl, awake_f k (by omega), Option.bind_some]
end Go.Proofs.Ytobehfghepbhbaa.Pure
