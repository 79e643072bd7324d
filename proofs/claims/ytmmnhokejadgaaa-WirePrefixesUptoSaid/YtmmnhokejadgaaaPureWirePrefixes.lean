/- WirePrefixes over numbers and lists. -/
import Derived.Test.YtmmnhokejadgaaaLists
import Derived.Test.YtmmnhokejadgaaaX8
namespace Go.Proofs.Ytmmnhokejadgaaa.Pure
open Go.RowKit Go.Proofs.YtmmnhokejadgaaaW.PrintWords Go.Proofs.Ytmmnhokejadgaaa.X Go.Proofs.Ytmmnhokejadgaaa.WPlain Go.Proofs.Ytmmnhokejadgaaa.WImpl
theorem empty_list : (((⟨#[]⟩ : ByteArray), (0 : Int), (13 : Int)).1).toList = ([] : List UInt8) := str_of [] [] rfl
theorem WirePrefixes (x0_0 : Int) (x0_1 : ByteArray) (x0_2 : List Int) (x1 : Int) (g0 : (Lit.int .i64 x0_0).wf = true) (_g1 : x0_1.size ≤ maxLen) (g2 : (x0_2.length ≤ maxLen ∧ ∀ y ∈ x0_2, (Lit.int .i64 y).wf = true)) (_g3 : (Lit.int .i64 x1).wf = true) (hb : 1 + (x0_1.size + 1) + (weigh (fun _ => 1) x0_2 + 1) + 1 ≤ 1048576) : ∃ k, X.dancestudiolaw07_WirePrefixes.f k x0_0 x0_1 x0_2 x1 = some true := by
  have hN := wf64 g0
  have hI := i64s g2
  have hl := weigh_length (fun _ => 1) x0_2
  have hel := encs_len x0_2 hI
  have hs10 := enc_len (x0_1.size : Int) ⟨by omega, by omega⟩
  have hl10 := enc_len (x0_2.length : Int) ⟨by omega, by omega⟩
  have hn10 := enc_len x0_0 hN
  have hbs := bytesOf_len x0_1
  refine ⟨100000000, ?_⟩
  generalize hk : 100000000 = k
  clear g0 g2
  have hj1 : ∀ k', 99999000 ≤ k' → dancestudiolaw07_WirePrefixes.j1 k' x1 (enc x0_2.length ++ encs x0_2) x0_0 x0_1 x0_2 = some true ∨ x1 < 0 := by
    intro k' hk'
    obtain ⟨k', rfl⟩ : ∃ m, k' = m + 1 := ⟨k' - 1, by omega⟩
    by_cases h0 : x1 < 0
    · exact .inr h0
    refine .inl ?_
    simp only [dancestudiolaw07_WirePrefixes.j1]
    by_cases h : x1 < ((enc (x0_2.length : Int) ++ encs x0_2).length : Int)
    · rw [if_pos h, if_pos (by omega), if_pos (by omega), takeList_f k' _ _ (BY.take (BY.append (enc_BY _) (encs_BY _)) _) (by rw [List.length_take, List.length_append]; omega) (by rw [List.length_take, List.length_append]; omega), tkl_cut x0_2 x1.toNat hI (by omega) (by omega), Option.bind_some, if_pos (by simp), if_pos rfl]
      obtain ⟨k', rfl⟩ : ∃ m, k' = m + 1 := ⟨k' - 1, by omega⟩
      simp only [dancestudiolaw07_WirePrefixes.j2]
      rw [if_neg (by simp), awake_f k' (by omega), Option.bind_some]
    · rw [if_neg h, awake_f k' (by omega), Option.bind_some]
  have hj0 : ∀ k', 99999500 ≤ k' → ¬ x1 < 0 → dancestudiolaw07_WirePrefixes.j0 k' x1 (enc x0_1.size ++ bytesOf x0_1) (enc x0_2.length ++ encs x0_2) x0_0 x0_1 x0_2 = some true := by
    intro k' hk' h0
    obtain ⟨k', rfl⟩ : ∃ m, k' = m + 1 := ⟨k' - 1, by omega⟩
    have hj := (hj1 k' (by omega)).resolve_right h0
    simp only [dancestudiolaw07_WirePrefixes.j0]
    by_cases h : x1 < ((enc (x0_1.size : Int) ++ bytesOf x0_1).length : Int)
    · rw [if_pos h, if_pos (by omega), if_pos (by omega), takeText_f k' _ _ (BY.take (BY.append (enc_BY _) (bytesOf_BY _)) _) (by rw [List.length_take, List.length_append]; omega) (by rw [List.length_take, List.length_append]; omega), tkt_cut x0_1 x1.toNat (by omega) (by omega), Option.bind_some, if_pos empty_list, if_pos rfl, if_pos rfl]
      exact hj
    · rw [if_neg h]
      exact hj
  unfold dancestudiolaw07_WirePrefixes.f
  rw [putInt_f k [] x0_0 hN (by simp) (by omega), Option.bind_some, putText_f k [] x0_1 (by simp; omega) (by omega), Option.bind_some, putList_f k [] x0_2 hI (by omega) (by simp) (by omega), Option.bind_some, List.nil_append, List.nil_append, List.nil_append]
  by_cases h0 : x1 < 0
  · rw [if_pos h0, awake_f k (by omega), Option.bind_some]
  · rw [if_neg h0]
    have hj := hj0 k (by omega) h0
    by_cases h : x1 < ((enc x0_0).length : Int)
    · rw [if_pos h, if_pos (by omega), if_pos (by omega), takeInt_f k _ (BY.take (enc_BY _) _) (by rw [List.length_take]; omega) (by rw [List.length_take]; omega), tki_enc_cut x0_0 x1.toNat (by omega), Option.bind_some, if_pos rfl, if_pos rfl, if_pos rfl]
      exact hj
    · rw [if_neg h]
      exact hj
end Go.Proofs.Ytmmnhokejadgaaa.Pure
