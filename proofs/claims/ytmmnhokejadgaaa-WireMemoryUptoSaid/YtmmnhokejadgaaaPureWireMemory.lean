/- WireMemory over numbers and lists. -/
import Derived.Test.YtmmnhokejadgaaaLists
import Derived.Test.YtmmnhokejadgaaaX16
namespace Go.Proofs.Ytmmnhokejadgaaa.Pure
open Go.RowKit Go.Proofs.YtmmnhokejadgaaaW.PrintWords Go.Proofs.Ytmmnhokejadgaaa.X Go.Proofs.Ytmmnhokejadgaaa.WPlain Go.Proofs.Ytmmnhokejadgaaa.WImpl
set_option linter.unusedVariables false
set_option linter.unusedSimpArgs false
theorem wm_l2 (x1 x5 L : List Int) (n : Int) (s : ByteArray) (hL : L.length ≤ 1048576) : ∀ (m i k : Nat) (x9 : List Int), i + m = x9.length → x9.length ≤ 40000000 → m + 2000000 ≤ k →
    dancestudiolaw07_WireMemory.l2 k x1 x5 x1 x9 L 0 (i : Int) n s L = some true := by
  intro m
  induction m with
  | zero =>
    intro i k x9 hi h9 hk
    obtain ⟨k, rfl⟩ : ∃ m, k = m + 1 := ⟨k - 1, by omega⟩
    rw [dancestudiolaw07_WireMemory.l2, if_neg (by omega), bytes_f _ _ rfl, Option.bind_some, if_pos rfl, if_pos rfl, ints_f k _ _ (by omega) (by omega), Option.bind_some, if_pos (by simp), awake_f k (by omega), Option.bind_some]
  | succ m ih =>
    intro i k x9 hi h9 hk
    obtain ⟨k, rfl⟩ : ∃ m, k = m + 1 := ⟨k - 1, by omega⟩
    rw [dancestudiolaw07_WireMemory.l2, if_pos (by omega), if_pos (by omega), w64 (x := (i : Int) + 1) (by omega) (by omega), show (i : Int) + 1 = ((i + 1 : Nat) : Int) by omega]
    exact ih (i + 1) k _ (by rw [List.length_set]; omega) (by rw [List.length_set]; omega) (by omega)
theorem wm_l1 (x1 x5 L : List Int) (n : Int) (s : ByteArray) (hI : I64s L) (hL : L.length ≤ 1048576) (h1 : x1.length ≤ 1048576) : ∀ (m i k : Nat) (x7 x8 x9 : List Int), i + m = x1.length → x1.length ≤ x7.length → x1.length ≤ x8.length → x1.length ≤ x9.length → x9.drop x1.length = enc L.length ++ encs L → m + 80000000 ≤ k →
    dancestudiolaw07_WireMemory.l1 k x1 x5 x1 x7 x8 x9 (i : Int) n s L = some true := by
  have hel := encs_len L hI
  have hl10 := enc_len (L.length : Int) ⟨by omega, by omega⟩
  intro m
  induction m with
  | zero =>
    intro i k x7 x8 x9 hi h7 h8 h9 hd hk
    obtain ⟨k, rfl⟩ : ∃ m, k = m + 1 := ⟨k - 1, by omega⟩
    have hlen : (x9.drop x1.length).length = (enc (L.length : Int)).length + (encs L).length := by rw [hd, List.length_append]
    rw [List.length_drop] at hlen
    have ht := tkl_ok L [] hI (by omega)
    rw [List.append_nil] at ht
    rw [dancestudiolaw07_WireMemory.l1, if_neg (by omega), if_pos (by omega), if_pos (by omega), Int.toNat_natCast, hd, takeList_f k _ _ (BY.append (enc_BY _) (encs_BY _)) (by rw [List.length_append]; omega) (by rw [List.length_append]; omega), ht, Option.bind_some]
    exact wm_l2 x1 x5 L n s hL (x9.length - x1.length) x1.length k x9 (by omega) (by omega) (by omega)
  | succ m ih =>
    intro i k x7 x8 x9 hi h7 h8 h9 hd hk
    obtain ⟨k, rfl⟩ : ∃ m, k = m + 1 := ⟨k - 1, by omega⟩
    rw [dancestudiolaw07_WireMemory.l1, if_pos (by omega), if_pos (by omega), if_pos (by omega), if_pos (by omega), if_pos (by omega), w64 (x := (i : Int) + 1) (by omega) (by omega), show (i : Int) + 1 = ((i + 1 : Nat) : Int) by omega, Int.toNat_natCast]
    exact ih (i + 1) k _ _ _ (by omega) (by rw [List.length_set]; exact h7) (by rw [List.length_set]; exact h8) (by rw [List.length_set]; exact h9) (by rw [List.drop_set, if_pos (by omega)]; exact hd) (by omega)
theorem twelve (x1 : List Int) (i : Nat) (hi : i < 12) : rd (x1 ++ [1, 2, 3, 4, 5, 6, 7, 8, 9, 10, 11, 12]) ((x1.length : Int) + (i : Int)) = (i : Int) + 1 := by
  unfold rd
  rw [show ((x1.length : Int) + (i : Int)).toNat = x1.length + i by omega, List.getD_eq_getElem?_getD, List.getElem?_append_right (by omega), show x1.length + i - x1.length = i by omega]
  rcases (show i = 0 ∨ i = 1 ∨ i = 2 ∨ i = 3 ∨ i = 4 ∨ i = 5 ∨ i = 6 ∨ i = 7 ∨ i = 8 ∨ i = 9 ∨ i = 10 ∨ i = 11 by omega) with h | h | h | h | h | h | h | h | h | h | h | h <;> subst h <;> rfl
theorem wm_l0 (x1 L x7 x8 x9 : List Int) (n : Int) (s : ByteArray) (hI : I64s L) (hL : L.length ≤ 1048576) (h1 : x1.length ≤ 1048576) (h7 : x1.length ≤ x7.length) (h8 : x1.length ≤ x8.length) (h9 : x1.length ≤ x9.length) (hd : x9.drop x1.length = enc L.length ++ encs L) : ∀ (m i k : Nat), i + m = 12 → m + 90000000 ≤ k →
    dancestudiolaw07_WireMemory.l0 k x1 (x1 ++ [1, 2, 3, 4, 5, 6, 7, 8, 9, 10, 11, 12]) x1 x7 x8 x9 (i : Int) n s L = some true := by
  intro m
  induction m with
  | zero =>
    intro i k hi hk
    obtain ⟨k, rfl⟩ : ∃ m, k = m + 1 := ⟨k - 1, by omega⟩
    rw [dancestudiolaw07_WireMemory.l0, if_neg (by omega), if_neg (by omega), if_neg (by omega), if_neg (by omega)]
    exact wm_l1 x1 _ L n s hI hL h1 x1.length 0 k x7 x8 x9 (by omega) h7 h8 h9 hd (by omega)
  | succ m ih =>
    intro i k hi hk
    obtain ⟨k, rfl⟩ : ∃ m, k = m + 1 := ⟨k - 1, by omega⟩
    have hl : (x1 ++ ([1, 2, 3, 4, 5, 6, 7, 8, 9, 10, 11, 12] : List Int)).length = x1.length + 12 := by rw [List.length_append]; rfl
    rw [dancestudiolaw07_WireMemory.l0, if_pos (by omega), w64 (x := (x1.length : Int) + (i : Int)) (by omega) (by omega), if_pos (by omega), if_pos (by omega), twelve x1 i (by omega), w64 (x := (i : Int) + 1) (by omega) (by omega), if_pos (by omega), show (i : Int) + 1 = ((i + 1 : Nat) : Int) by omega]
    exact ih (i + 1) k (by omega) (by omega)
theorem WireMemory (x0_0 : Int) (x0_1 : ByteArray) (x0_2 : List Int) (x1 : List Int) (g0 : (Lit.int .i64 x0_0).wf = true) (_g1 : x0_1.size ≤ maxLen) (g2 : (x0_2.length ≤ maxLen ∧ ∀ y ∈ x0_2, (Lit.int .i64 y).wf = true)) (_g3 : (x1.length ≤ maxLen ∧ ∀ y ∈ x1, (Lit.int .u8 y).wf = true)) (hb : 1 + (x0_1.size + 1) + (weigh (fun y => 1) x0_2 + 1) + 1 + (weigh (fun y => 1) x1 + 1) ≤ 1048576) : ∃ k, X.dancestudiolaw07_WireMemory.f k x0_0 x0_1 x0_2 x1 = some true := by
  have hN := wf64 g0
  have hI := i64s g2
  have hl := weigh_length (fun _ => 1) x0_2
  have hl2 := weigh_length (fun _ => 1) x1
  refine ⟨100000000, ?_⟩
  generalize hk : 100000000 = k
  clear g0 g2
  have hlen : (x1 ++ ([1, 2, 3, 4, 5, 6, 7, 8, 9, 10, 11, 12] : List Int)).length = x1.length + 12 := by rw [List.length_append]; rfl
  unfold dancestudiolaw07_WireMemory.f
  rw [own_f _ (by omega), Option.bind_some, Option.bind_some, if_pos (by show x1.length + 12 < _; omega), Option.bind_some, if_pos (by omega), if_pos (by omega), Option.bind_some, Int.toNat_natCast, List.take_left, putInt_f k x1 x0_0 hN (by omega) (by omega), Option.bind_some, putText_f k x1 x0_1 (by omega) (by omega), Option.bind_some, putList_f k x1 x0_2 hI (by omega) (by omega) (by omega), Option.bind_some]
  exact wm_l0 x1 x0_2 _ _ _ x0_0 x0_1 hI (by omega) (by omega) (by rw [List.length_append]; omega) (by rw [List.append_assoc, List.length_append]; omega) (by rw [List.append_assoc, List.length_append]; omega) (by rw [List.append_assoc, List.drop_left]) 12 0 k (by omega) (by omega)
end Go.Proofs.Ytmmnhokejadgaaa.Pure
