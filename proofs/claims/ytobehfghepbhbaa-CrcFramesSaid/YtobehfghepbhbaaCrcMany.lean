/- Frames one after the other: plain mathematics. -/
import Derived.Test.YtobehfghepbhbaaX31
import Derived.Test.YtobehfghepbhbaaCrcFrm
namespace Go.Proofs.Ytobehfghepbhbaa.CrcImpl
open Go.RowKit Go.Proofs.YtobehfghepbhbaaW.PrintWords Go.Proofs.Ytobehfghepbhbaa.X Go.Proofs.Ytobehfghepbhbaa.WPlain Go.Proofs.Ytobehfghepbhbaa.WImpl Go.Proofs.Ytobehfghepbhbaa.Crc
set_option linter.unusedVariables false
set_option linter.unusedSimpArgs false
def fms (L : List (List Int)) : List Int := L.flatMap frm
theorem fms_cons (c : List Int) (L : List (List Int)) : fms (c :: L) = frm c ++ fms L := by unfold fms; rw [List.flatMap_cons]
theorem fms_app (L M : List (List Int)) : fms (L ++ M) = fms L ++ fms M := by unfold fms; rw [List.flatMap_append]
theorem fms_one (c : List Int) : fms [c] = frm c := by rw [fms_cons]; exact List.append_nil _
/-- A list that is not great, of bytes. -/
def Fine (L : List (List Int)) : Prop := L.length ≤ 12 ∧ ∀ c ∈ L, BY c ∧ c.length ≤ 400
theorem frm_le (c : List Int) (h : c.length ≤ 400) : (frm c).length ≤ 414 := by
  have := enc_len (c.length : Int) ⟨by omega, by omega⟩
  rw [frm_len]
  omega
theorem fms_le : ∀ (L : List (List Int)), (∀ c ∈ L, BY c ∧ c.length ≤ 400) → (fms L).length ≤ 414 * L.length
  | [], _ => by simp [fms]
  | c :: L, h => by
    have h1 := frm_le c (h c (by simp)).2
    have h2 := fms_le L (fun d hd => h d (by simp [hd]))
    rw [fms_cons, List.length_append, List.length_cons]
    omega
theorem fms_BY : ∀ (L : List (List Int)), (∀ c ∈ L, BY c ∧ c.length ≤ 400) → BY (fms L)
  | [], _ => by intro y hy; simp [fms] at hy
  | c :: L, h => by
    intro y hy
    rw [fms_cons] at hy
    rcases List.mem_append.1 hy with hy | hy
    · exact frm_BY c (h c (by simp)).1 y hy
    · exact fms_BY L (fun d hd => h d (by simp [hd])) y hy
theorem alls_fms (r : List Int) : ∀ (L : List (List Int)) (n : Nat), (∀ c ∈ L, BY c ∧ c.length ≤ 400) → alls (n + L.length) (fms L ++ r) = (L ++ (alls n r).1, ((fms L).length : Int) + (alls n r).2)
  | [], n, _ => by
    show alls n r = ([] ++ (alls n r).1, ((0 : Nat) : Int) + (alls n r).2)
    rw [List.nil_append]
    simp
  | c :: L, n, h => by
    have hc := h c (by simp)
    have ih := alls_fms r L n (fun d hd => h d (by simp [hd]))
    rw [List.length_cons, ← Nat.add_assoc, alls, fms_cons, List.append_assoc, opn_frm c _ hc.1 (by have := hc.2; omega)]
    dsimp only
    rw [if_pos rfl, Int.toNat_natCast, List.drop_left, ih, List.length_append]
    dsimp only
    refine Prod.ext rfl ?_
    dsimp only
    omega
theorem alls_stop (n : Nat) (r : List Int) (h : (opn r).2.2 ≠ 0) : alls n r = ([], 0) := by
  cases n with
  | zero => rfl
  | succ n => rw [alls, if_neg h]
theorem opn_nil : (opn []).2.2 = 13 := by decide +kernel
/-- A frame that is cut off is said to be so. -/
theorem opn_cut (c r : List Int) (hb : BY c) (hl : c.length ≤ 65536) (j : Nat) (hj : j < (frm c).length) : (opn ((frm c ++ r).take j)).2.2 = 13 := by
  have h64 : I64 (c.length : Int) := ⟨by omega, by omega⟩
  rw [List.take_append_of_le_length (by omega)]
  have hfl := frm_len c
  have e1 : frm c = enc c.length ++ (fourb (ext 0 (enc c.length ++ c)) ++ c) := by
    unfold frm
    simp only [List.append_assoc]
  by_cases h : j < (enc (c.length : Int)).length
  · have ht : tki ((frm c).take j) = (0, 0, 13) := by
      rw [e1, List.take_append_of_le_length (by omega)]
      unfold enc at h ⊢
      exact tki_cut _ j h
    unfold opn
    rw [ht]
    dsimp only
    rw [if_neg (by omega)]
  · have ht : tki ((frm c).take j) = ((c.length : Int), ((enc (c.length : Int)).length : Int), 0) := by
      rw [e1, List.take_append, List.take_of_length_le (by omega)]
      exact tki_enc _ h64 _
    have hlen : ((frm c).take j).length = j := by rw [List.length_take]; omega
    unfold opn
    rw [ht]
    dsimp only
    rw [if_pos rfl, if_neg (by omega), if_neg (by omega), if_pos (by omega)]
theorem rdL {L : List (List Int)} {i : Nat} (h : i < L.length) : rd_L1 L (i : Int) = L[i] := by
  unfold rd_L1
  rw [Int.toNat_natCast, List.getD_eq_getElem?_getD, List.getElem?_eq_getElem h]
  rfl
theorem great_l0 (L : List (List Int)) (hl : L.length ≤ 12) : ∀ (d i k : Nat), i + d = L.length → d < k → dancestudiolaw08_great.l0 k L (i : Int) = some true ∨ (dancestudiolaw08_great.l0 k L (i : Int) = some false ∧ ∀ j (h : j < L.length), i ≤ j → L[j].length ≤ 400) := by
  intro d
  induction d with
  | zero =>
    intro i k h hk
    obtain ⟨k, rfl⟩ : ∃ m, k = m + 1 := ⟨k - 1, by omega⟩
    right
    exact ⟨by rw [dancestudiolaw08_great.l0, if_neg (by omega)], fun j hj hij => by omega⟩
  | succ d ih =>
    intro i k h hk
    obtain ⟨k, rfl⟩ : ∃ m, k = m + 1 := ⟨k - 1, by omega⟩
    have hi : i < L.length := by omega
    rw [dancestudiolaw08_great.l0, if_pos (by omega), if_pos (by omega), rdL hi, w64 (x := (i : Int) + 1) (by omega) (by omega), show (i : Int) + 1 = ((i + 1 : Nat) : Int) by omega]
    by_cases hc : ((L[i].length : Nat) : Int) > 400
    · rw [if_pos hc]; exact .inl rfl
    · rw [if_neg hc]
      rcases ih (i + 1) k (by omega) (by omega) with h1 | ⟨h1, h2⟩
      · exact .inl h1
      · refine .inr ⟨h1, fun j hj hij => ?_⟩
        by_cases e : j = i
        · subst e; omega
        · exact h2 j hj (by omega)
theorem great_f (k : Nat) (L : List (List Int)) (hk : 20 ≤ k) (hB : ∀ c ∈ L, BY c) : dancestudiolaw08_great.f k L = some true ∨ (dancestudiolaw08_great.f k L = some false ∧ Fine L) := by
  unfold dancestudiolaw08_great.f
  by_cases h : (L.length : Int) > 12
  · rw [if_pos h]; exact .inl rfl
  · rw [if_neg h]
    rcases great_l0 L (by omega) L.length 0 k (by omega) (by omega) with h1 | ⟨h1, h2⟩
    · exact .inl h1
    · refine .inr ⟨h1, by omega, fun c hc => ⟨hB c hc, ?_⟩⟩
      obtain ⟨j, hj, rfl⟩ := List.getElem_of_mem hc
      exact h2 j hj (by omega)
theorem take_fms {L : List (List Int)} {i : Nat} (h : i < L.length) : fms (L.take (i + 1)) = fms (L.take i) ++ frm L[i] := by
  rw [List.take_succ_eq_append_getElem h, fms_app, fms_one]
theorem Fine.take {L : List (List Int)} (h : Fine L) (i : Nat) : ∀ c ∈ L.take i, BY c ∧ c.length ≤ 400 := fun c hc => h.2 c (List.mem_of_mem_take hc)
theorem bysL {L : List (List Int)} (h : L.length ≤ maxLen ∧ ∀ y ∈ L, (y.length ≤ maxLen ∧ ∀ z ∈ y, (Lit.int .u8 z).wf = true)) : ∀ c ∈ L, BY c := fun c hc => bys (h.2 c hc)
end Go.Proofs.Ytobehfghepbhbaa.CrcImpl
