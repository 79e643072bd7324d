/- WireLists over numbers and lists. -/
import Derived.Test.YtmmnhokejadgaaaLists
namespace Go.Proofs.Ytmmnhokejadgaaa.Pure
open Go.RowKit Go.Proofs.YtmmnhokejadgaaaW.PrintWords Go.Proofs.Ytmmnhokejadgaaa.X Go.Proofs.Ytmmnhokejadgaaa.WPlain Go.Proofs.Ytmmnhokejadgaaa.WImpl
theorem WireLists (x0 : List Int) (x1 : List Int) (x2 : Int) (g0 : (x0.length ≤ maxLen ∧ ∀ y ∈ x0, (Lit.int .i64 y).wf = true)) (g1 : (x1.length ≤ maxLen ∧ ∀ y ∈ x1, (Lit.int .u8 y).wf = true)) (_g2 : (Lit.int .i64 x2).wf = true) (hb : (weigh (fun _ => 1) x0 + 1) + (weigh (fun _ => 1) x1 + 1) + 1 ≤ 1048576) : ∃ k, X.dancestudiolaw07_WireLists.f k x0 x1 x2 = some true := by
  have hB := bys g1
  have hI := i64s g0
  have hl := weigh_length (fun _ => 1) x1
  have hl0 := weigh_length (fun _ => 1) x0
  have ht := tkl_len x1 x2
  refine ⟨2 * x1.length + x0.length + 160, ?_⟩
  generalize hk : 2 * x1.length + x0.length + 160 = k
  clear g0 g1
  unfold dancestudiolaw07_WireLists.f
  rw [takeList_f k x1 x2 hB (by omega) (by omega), refTakeList_f k x1 x2 hB (by omega) (by omega), Option.bind_some, Option.bind_some, ints_f k _ _ (by omega) (by omega), Option.bind_some, if_pos (decide_eq_true rfl), if_pos rfl, if_pos rfl, own_f x1 (by omega), Option.bind_some, putList_f k x1 x0 hI (by omega) (by omega) (by omega), Option.bind_some, refPutList_f k x1 x0 hI (by omega) (by omega) (by omega), Option.bind_some, bytes_f _ _ rfl, Option.bind_some, if_pos rfl, awake_f k (by omega), Option.bind_some]
end Go.Proofs.Ytmmnhokejadgaaa.Pure
