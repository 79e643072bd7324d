/- WireTexts over numbers and lists. -/
import Derived.Test.YtmmnhokejadgaaaLists
namespace Go.Proofs.Ytmmnhokejadgaaa.Pure
open Go.RowKit Go.Proofs.YtmmnhokejadgaaaW.PrintWords Go.Proofs.Ytmmnhokejadgaaa.X Go.Proofs.Ytmmnhokejadgaaa.WPlain Go.Proofs.Ytmmnhokejadgaaa.WImpl
theorem WireTexts (x0 : ByteArray) (x1 : List Int) (x2 : Int) (_g0 : x0.size ≤ maxLen) (g1 : (x1.length ≤ maxLen ∧ ∀ y ∈ x1, (Lit.int .u8 y).wf = true)) (_g2 : (Lit.int .i64 x2).wf = true) (hb : (x0.size + 1) + (weigh (fun _ => 1) x1 + 1) + 1 ≤ 1048576) : ∃ k, X.dancestudiolaw07_WireTexts.f k x0 x1 x2 = some true := by
  have hB := bys g1
  have hl := weigh_length (fun _ => 1) x1
  refine ⟨x1.length + 160, ?_⟩
  generalize hk : x1.length + 160 = k
  clear g1
  unfold dancestudiolaw07_WireTexts.f
  rw [takeText_f k x1 x2 hB (by omega) (by omega), refTakeText_f k x1 x2 hB (by omega) (by omega), Option.bind_some, Option.bind_some, if_pos rfl, if_pos rfl, if_pos rfl, own_f x1 (by omega), Option.bind_some, putText_f k x1 x0 (by omega) (by omega), Option.bind_some, refPutText_f k x1 x0 (by omega) (by omega), Option.bind_some, bytes_f _ _ rfl, Option.bind_some, if_pos rfl, awake_f k (by omega), Option.bind_some]
end Go.Proofs.Ytmmnhokejadgaaa.Pure
