/- WireRoundTrip over numbers and lists. -/
import Derived.Test.YtmmnhokejadgaaaLists
import Derived.Test.YtmmnhokejadgaaaX28
namespace Go.Proofs.Ytmmnhokejadgaaa.Pure
open Go.RowKit Go.Proofs.YtmmnhokejadgaaaW.PrintWords Go.Proofs.Ytmmnhokejadgaaa.X Go.Proofs.Ytmmnhokejadgaaa.WPlain Go.Proofs.Ytmmnhokejadgaaa.WImpl
set_option linter.unusedVariables false
set_option linter.unusedSimpArgs false
theorem WireRoundTrip (x0_0 : Int) (x0_1 : ByteArray) (x0_2 : List Int) (x1 : List Int) (g0 : (Lit.int .i64 x0_0).wf = true) (_g1 : x0_1.size ≤ maxLen) (g2 : (x0_2.length ≤ maxLen ∧ ∀ y ∈ x0_2, (Lit.int .i64 y).wf = true)) (g3 : (x1.length ≤ maxLen ∧ ∀ y ∈ x1, (Lit.int .u8 y).wf = true)) (hb : 1 + (x0_1.size + 1) + (weigh (fun y => 1) x0_2 + 1) + 1 + (weigh (fun y => 1) x1 + 1) ≤ 1048576) : ∃ k, X.dancestudiolaw07_WireRoundTrip.f k x0_0 x0_1 x0_2 x1 = some true := by
  have hN := wf64 g0
  have hI := i64s g2
  have hR := bys g3
  have hl := weigh_length (fun _ => 1) x0_2
  have hl2 := weigh_length (fun _ => 1) x1
  have hel := encs_len x0_2 hI
  have hs10 := enc_len (x0_1.size : Int) ⟨by omega, by omega⟩
  have hl10 := enc_len (x0_2.length : Int) ⟨by omega, by omega⟩
  have hn10 := enc_len x0_0 hN
  have hn1 := enc_pos x0_0
  have hbs := bytesOf_len x0_1
  refine ⟨100000000, ?_⟩
  generalize hk : 100000000 = k
  clear g0 g2 g3
  have b1 : BY (enc x0_0) := enc_BY _
  have b2 : BY (enc x0_1.size ++ bytesOf x0_1) := BY.append (enc_BY _) (bytesOf_BY _)
  have b3 : BY (enc x0_2.length ++ encs x0_2) := BY.append (enc_BY _) (encs_BY _)
  unfold dancestudiolaw07_WireRoundTrip.f
  rw [putInt_f k [] x0_0 hN (by simp) (by omega), Option.bind_some, List.nil_append, own_f _ (by omega), Option.bind_some, putText_f k _ x0_1 (by omega) (by omega), Option.bind_some]
  generalize hone : enc x0_0 = one at *
  have e2 : one ++ enc x0_1.size ++ bytesOf x0_1 = one ++ (enc x0_1.size ++ bytesOf x0_1) := List.append_assoc _ _ _
  rw [e2]
  have htl : (enc (x0_1.size : Int) ++ bytesOf x0_1).length = (enc (x0_1.size : Int)).length + x0_1.size := by rw [List.length_append, hbs]
  have htake := tkt_ok x0_1 ((enc x0_2.length ++ encs x0_2) ++ x1) (by omega)
  generalize hT : enc (x0_1.size : Int) ++ bytesOf x0_1 = T at *
  rw [own_f _ (by rw [List.length_append]; omega), Option.bind_some, putList_f k _ x0_2 hI (by omega) (by rw [List.length_append]; omega) (by omega), Option.bind_some]
  have e3 : one ++ T ++ enc (x0_2.length : Int) ++ encs x0_2 = one ++ T ++ (enc (x0_2.length : Int) ++ encs x0_2) := List.append_assoc _ _ _
  rw [e3]
  have hll : (enc (x0_2.length : Int) ++ encs x0_2).length = (enc (x0_2.length : Int)).length + (encs x0_2).length := List.length_append
  have hlist := tkl_ok x0_2 x1 hI (by omega)
  generalize hS : enc (x0_2.length : Int) ++ encs x0_2 = S at *
  have t1 : (one ++ T).length = one.length + T.length := List.length_append
  have t2 : (one ++ T ++ S).length = one.length + T.length + S.length := by rw [List.length_append, t1]
  rw [if_neg (by omega), if_neg (by omega), if_neg (by omega), own_f _ (by omega), Option.bind_some, if_pos (by omega), Option.bind_some]
  have t3 : (one ++ T ++ S ++ x1).length = one.length + T.length + S.length + x1.length := by rw [List.length_append, t2]
  have hY : BY (one ++ T ++ S ++ x1) := BY.append (BY.append (BY.append b1 b2) b3) hR
  have y1 : tki (one ++ T ++ S ++ x1) = (x0_0, (one.length : Int), 0) := by
    rw [List.append_assoc, List.append_assoc, ← hone]
    exact tki_enc x0_0 hN _
  rw [takeInt_f k _ hY (by omega) (by omega), y1, Option.bind_some, if_pos rfl, if_pos rfl, if_pos rfl, if_pos (by omega), if_pos (by omega), Int.toNat_natCast]
  have d1 : (one ++ T ++ S ++ x1).drop one.length = T ++ (S ++ x1) := by
    rw [List.append_assoc, List.append_assoc, List.drop_left]
  have d2 : (one ++ T ++ S ++ x1).drop (one ++ T).length = S ++ x1 := by
    rw [List.append_assoc, List.drop_left]
  rw [d1, takeText_f k _ _ (BY.append b2 (BY.append b3 hR)) (by rw [List.length_append, List.length_append]; omega) (by rw [List.length_append, List.length_append]; omega), htake, Option.bind_some, if_pos rfl, w64 (by omega) (by omega), if_pos (show ((enc (x0_1.size : Int)).length : Int) + (x0_1.size : Int) = ((one ++ T).length : Int) - (one.length : Int) from by omega), if_pos rfl, if_pos (by omega), if_pos (by omega), Int.toNat_natCast, d2, takeList_f k _ _ (BY.append b3 hR) (by rw [List.length_append]; omega) (by rw [List.length_append]; omega), hlist, Option.bind_some, ints_f k _ _ (by simp; omega) (by simp; omega), Option.bind_some, if_pos (by simp), w64 (by omega) (by omega), if_pos (show ((enc (x0_2.length : Int)).length : Int) + ((encs x0_2).length : Int) = ((one ++ T ++ S).length : Int) - ((one ++ T).length : Int) from by omega), if_pos rfl, awake_f k (by omega), Option.bind_some]
end Go.Proofs.Ytmmnhokejadgaaa.Pure
