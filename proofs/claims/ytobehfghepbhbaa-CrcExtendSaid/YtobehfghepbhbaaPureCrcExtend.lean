/- The statement CrcExtend over numbers and lists. -/
import Derived.Test.YtobehfghepbhbaaX15
import Derived.Test.YtobehfghepbhbaaCrcWf
namespace Go.Proofs.Ytobehfghepbhbaa.Pure
open Go.RowKit Go.Proofs.YtobehfghepbhbaaW.PrintWords Go.Proofs.Ytobehfghepbhbaa.X Go.Proofs.Ytobehfghepbhbaa.WImpl Go.Proofs.Ytobehfghepbhbaa.Crc Go.Proofs.Ytobehfghepbhbaa.CrcImpl
theorem CrcExtend_j0 (k : Nat) (x0 : Int) (x1 : List Int) (x2 : Int) (hk : 2000 ≤ k) : dancestudiolaw08_CrcExtend.j0 k x0 x1 x2 true = some true := by
  obtain ⟨k, rfl⟩ : ∃ m, k = m + 1 := ⟨k - 1, by omega⟩
  rw [dancestudiolaw08_CrcExtend.j0, if_pos rfl, awake_f k (by omega), Option.bind_some]
theorem CrcExtend (x0 : Int) (x1 : List Int) (x2 : Int) (g0 : (Lit.int .u32 x0).wf = true) (g1 : (x1.length ≤ maxLen ∧ ∀ y ∈ x1, (Lit.int .u8 y).wf = true)) (_g2 : (Lit.int .i64 x2).wf = true) : ∃ k, X.dancestudiolaw08_CrcExtend.f k x0 x1 x2 = some true := by
  obtain ⟨n, rfl, hn⟩ := wfu32 g0
  have hb := bys g1
  refine ⟨100000, ?_⟩
  generalize hk : 100000 = k
  unfold dancestudiolaw08_CrcExtend.f
  split
  · exact CrcExtend_j0 k _ _ _ (by omega)
  · split
    · exact CrcExtend_j0 k _ _ _ (by omega)
    · by_cases h : x2 > (x1.length : Int)
      · rw [decide_eq_true h]; exact CrcExtend_j0 k _ _ _ (by omega)
      · rw [decide_eq_false h]
        obtain ⟨k, rfl⟩ : ∃ m, k = m + 1 := ⟨k - 1, by omega⟩
        have hT : BY (x1.take x2.toNat) := fun y hy => hb y (List.mem_of_mem_take hy)
        have hD : BY (x1.drop x2.toNat) := fun y hy => hb y (List.mem_of_mem_drop hy)
        have hlT : (x1.take x2.toNat).length ≤ x1.length := by simp; omega
        have hlD : (x1.drop x2.toNat).length ≤ x1.length := by simp
        rw [dancestudiolaw08_CrcExtend.j0, if_neg (by simp), if_pos (by omega), if_pos (by omega), sum_f k _ hT (by omega) (by omega), Option.bind_some, extend_f k _ _ (ext_lt (by omega) hT) hD (by omega) (by omega), Option.bind_some, sum_f k x1 hb (by omega) (by omega), Option.bind_some, ext_append, List.take_append_drop, if_pos rfl]
        rw [extend_f k n _ hn hT (by omega) (by omega), Option.bind_some, extend_f k _ _ (ext_lt hn hT) hD (by omega) (by omega), Option.bind_some, extend_f k n x1 hn hb (by omega) (by omega), Option.bind_some, ext_append, List.take_append_drop, if_pos rfl]
        rw [extend_f k n [] hn (by intro y hy; cases hy) (by simp) (by simp; omega), Option.bind_some, ext_nil, if_pos rfl, awake_f k (by omega), Option.bind_some]
end Go.Proofs.Ytobehfghepbhbaa.Pure
