/- WireOnce over numbers and lists. -/
import Derived.Test.YtmmnhokejadgaaaLists
import Derived.Test.YtmmnhokejadgaaaX29
namespace Go.Proofs.Ytmmnhokejadgaaa.Pure
open Go.RowKit Go.Proofs.YtmmnhokejadgaaaW.PrintWords Go.Proofs.Ytmmnhokejadgaaa.X Go.Proofs.Ytmmnhokejadgaaa.WPlain Go.Proofs.Ytmmnhokejadgaaa.WImpl
set_option linter.unusedVariables false
set_option linter.unusedSimpArgs false
theorem bytes_str (l : List Int) (h : BY l) : bytesOf (strOfNums l) = l := by
  simp only [strOfNums, bytesOf, List.map_map]
  conv => rhs; rw [← List.map_id l]
  apply List.map_congr_left
  intro n hn
  have hb := h n hn
  simp only [Function.comp, id]
  rw [UInt8.toNat_ofNat', Nat.mod_eq_of_lt (by omega)]
  omega
theorem str_size (l : List Int) : (strOfNums l).size = l.length := by
  simp [strOfNums, ByteArray.size]
theorem tkt_back (l : List Int) (most : Int) (hb : BY l) (h : (tkt l most).2.2 = 0) : 1 ≤ (tkt l most).2.1 ∧ (tkt l most).2.1 ≤ l.length ∧ ((tkt l most).1.size : Int) ≤ most ∧ (tkt l most).1.size ≤ l.length ∧ enc (tkt l most).1.size ++ bytesOf (tkt l most).1 = l.take (tkt l most).2.1.toNat := by
  unfold tkt at h ⊢
  by_cases h1 : (cnt l most).2.2 = 0
  · rw [if_pos h1] at h ⊢
    by_cases h2 : (cnt l most).1 > (l.length : Int) - (cnt l most).2.1
    · rw [if_pos h2] at h
      exact absurd h (by simp)
    · rw [if_neg h2]
      obtain ⟨a1, a2, a3, a4⟩ := cnt_ok h1
      obtain ⟨b1, b2, b3, b4⟩ := tki_back l hb a1
      have c1 := tki_taken l a1
      have c2 := tki_len l
      rw [a4] at h2 ⊢
      have hlen : ((l.drop (tki l).2.1.toNat).take (tki l).1.toNat).length = (tki l).1.toNat := by
        rw [List.length_take, List.length_drop]
        omega
      simp only
      rw [str_size, hlen, bytes_str _ ((hb.drop _).take _)]
      refine ⟨by omega, by omega, by omega, by omega, ?_⟩
      rw [show ((tki l).2.1 + (tki l).1).toNat = (tki l).2.1.toNat + (tki l).1.toNat by omega, List.take_add, b2, show (((tki l).1.toNat : Nat) : Int) = (tki l).1 by omega]
  · rw [if_neg h1] at h
    exact absurd h h1
theorem tkl_back (l : List Int) (most : Int) (hb : BY l) (h : (tkl l most).2.2 = 0) : 1 ≤ (tkl l most).2.1 ∧ (tkl l most).2.1 ≤ l.length ∧ ((tkl l most).1.length : Int) ≤ most ∧ (tkl l most).1.length ≤ l.length ∧ I64s (tkl l most).1 ∧ enc (tkl l most).1.length ++ encs (tkl l most).1 = l.take (tkl l most).2.1.toNat := by
  have hl0 := tkl_len l most
  unfold tkl at h hl0 ⊢
  by_cases h1 : (cnt l most).2.2 = 0
  · rw [if_pos h1] at h hl0 ⊢
    obtain ⟨a1, a2, a3, a4⟩ := cnt_ok h1
    obtain ⟨b1, b2, b3, b4⟩ := tki_back l hb a1
    have c1 := tki_taken l a1
    have c2 := tki_len l
    rw [a4] at h hl0 ⊢
    unfold fin at h hl0 ⊢
    by_cases h2 : (tkls (tki l).1.toNat (l.drop (tki l).2.1.toNat)).2.2 = 0
    · rw [if_pos h2] at hl0 ⊢
      obtain ⟨d1, d2, d3, d4⟩ := tkls_back _ _ (hb.drop _) h2
      have d5 := tkls_len (tki l).1.toNat (l.drop (tki l).2.1.toNat)
      rw [List.length_drop] at d5
      simp only [List.nil_append] at hl0 ⊢
      refine ⟨by omega, by omega, by omega, by omega, d2, ?_⟩
      rw [d1, show ((tki l).2.1 + (tkls (tki l).1.toNat (l.drop (tki l).2.1.toNat)).2.1).toNat = (tki l).2.1.toNat + (tkls (tki l).1.toNat (l.drop (tki l).2.1.toNat)).2.1.toNat by omega, List.take_add, b2, d3, show (((tki l).1.toNat : Nat) : Int) = (tki l).1 by omega]
    · rw [if_neg h2] at h
      exact absurd h h2
  · rw [if_neg h1] at h
    exact absurd h h1
theorem WireOnce (x0 : List Int) (x1 : Int) (G0 : (x0.length ≤ maxLen ∧ ∀ y ∈ x0, (Lit.int .u8 y).wf = true)) (_g1 : (Lit.int .i64 x1).wf = true) (hb : (weigh (fun y => 1) x0 + 1) + 1 ≤ 1048576) : ∃ k, X.dancestudiolaw07_WireOnce.f k x0 x1 = some true := by
  have hB := bys G0
  have hl := weigh_length (fun _ => 1) x0
  refine ⟨100000000, ?_⟩
  generalize hk : 100000000 = k
  clear G0
  have hj1 : ∀ k', 99999000 ≤ k' → dancestudiolaw07_WireOnce.j1 k' x0 x1 false = some true := by
    intro k' hk'
    obtain ⟨k', rfl⟩ : ∃ m, k' = m + 1 := ⟨k' - 1, by omega⟩
    rw [dancestudiolaw07_WireOnce.j1, if_neg (by simp), takeList_f k' x0 x1 hB (by omega) (by omega), Option.bind_some]
    by_cases h : (tkl x0 x1).2.2 = 0
    · obtain ⟨a1, a2, a3, a4, a5, a6⟩ := tkl_back x0 x1 hB h
      rw [if_pos h, if_neg (by omega), if_neg (by omega), if_neg (by omega), putList_f k' [] _ a5 (by omega) (by simp) (by omega), Option.bind_some, List.nil_append, if_pos (by omega), if_pos (by omega), bytes_f _ _ a6, Option.bind_some, if_pos rfl, awake_f k' (by omega), Option.bind_some]
    · rw [if_neg h, awake_f k' (by omega), Option.bind_some]
  have hj0 : ∀ k', 99999500 ≤ k' → dancestudiolaw07_WireOnce.j0 k' x0 x1 false = some true := by
    intro k' hk'
    obtain ⟨k', rfl⟩ : ∃ m, k' = m + 1 := ⟨k' - 1, by omega⟩
    rw [dancestudiolaw07_WireOnce.j0, if_neg (by simp), takeText_f k' x0 x1 hB (by omega) (by omega), Option.bind_some]
    by_cases h : (tkt x0 x1).2.2 = 0
    · obtain ⟨a1, a2, a3, a4, a6⟩ := tkt_back x0 x1 hB h
      rw [if_pos h, if_neg (by omega), if_neg (by omega), if_neg (by omega), putText_f k' [] _ (by simp; omega) (by omega), Option.bind_some, List.nil_append, if_pos (by omega), if_pos (by omega), bytes_f _ _ a6, Option.bind_some]
      exact hj1 k' (by omega)
    · rw [if_neg h]
      exact hj1 k' (by omega)
  unfold dancestudiolaw07_WireOnce.f
  rw [takeInt_f k x0 hB (by omega) (by omega), Option.bind_some]
  by_cases h : (tki x0).2.2 = 0
  · obtain ⟨b1, b2, b3, b4⟩ := tki_back x0 hB h
    have c1 := tki_taken x0 h
    have c2 := tki_len x0
    rw [if_pos h, if_neg (by omega), if_neg (by omega), if_neg (by omega), putInt_f k [] _ b1 (by simp) (by omega), Option.bind_some, List.nil_append, if_pos (by omega), if_pos (by omega), bytes_f _ _ b2.symm, Option.bind_some]
    exact hj0 k (by omega)
  · rw [if_neg h]
    exact hj0 k (by omega)
end Go.Proofs.Ytmmnhokejadgaaa.Pure
