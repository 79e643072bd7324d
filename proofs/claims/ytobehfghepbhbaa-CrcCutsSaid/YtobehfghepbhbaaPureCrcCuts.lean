/- The statement CrcCuts over numbers and lists. -/
import Derived.Test.YtobehfghepbhbaaX33
import Derived.Test.YtobehfghepbhbaaCrcMany
namespace Go.Proofs.Ytobehfghepbhbaa.CrcImpl
open Go.RowKit Go.Proofs.YtobehfghepbhbaaW.PrintWords Go.Proofs.Ytobehfghepbhbaa.X Go.Proofs.Ytobehfghepbhbaa.WPlain Go.Proofs.Ytobehfghepbhbaa.WImpl Go.Proofs.Ytobehfghepbhbaa.Crc
set_option linter.unusedVariables false
set_option linter.unusedSimpArgs false
/-- Where the first i frames end. -/
def Es (L : List (List Int)) (i : Nat) : List Int := (List.range i).map fun j => ((fms (L.take (j + 1))).length : Int)
theorem Es_succ (L : List (List Int)) (i : Nat) : Es L (i + 1) = Es L i ++ [((fms (L.take (i + 1))).length : Int)] := by unfold Es; rw [List.range_succ, List.map_append]; rfl
theorem Es_len (L : List (List Int)) (i : Nat) : (Es L i).length = i := by simp [Es]
theorem Es_rd (L : List (List Int)) (n i : Nat) (h : i < n) : rd (Es L n) (i : Int) = ((fms (L.take (i + 1))).length : Int) := by
  have hd : (Es L n).drop i = ((fms (L.take (i + 1))).length : Int) :: (Es L n).drop (i + 1) := by
    rw [List.drop_eq_getElem_cons (by rw [Es_len]; exact h)]
    congr 1
    simp [Es]
  exact (rd_of_drop hd).1
theorem cut_l0 (L : List (List Int)) (hL : Fine L) (cut : Int) : ∀ (d i m : Nat), i + d = L.length → 6000 ≤ m → dancestudiolaw08_CrcCuts.l0 (m + d) L cut (fms (L.take i)) (Es L i) (i : Int) = dancestudiolaw08_CrcCuts.l0 m L cut (fms L) (Es L L.length) (L.length : Int) := by
  intro d
  induction d with
  | zero =>
    intro i m h hm
    obtain rfl : i = L.length := by omega
    rw [List.take_length]
    rfl
  | succ d ih =>
    intro i m h hm
    have hi : i < L.length := by omega
    have hc := hL.2 L[i] (List.getElem_mem hi)
    have h1 := fms_le (L.take i) (hL.take i)
    have h2 := frm_le L[i] hc.2
    have h3 : (L.take i).length = i := by rw [List.length_take]; omega
    have h4 := hL.1
    rw [← Nat.add_assoc, dancestudiolaw08_CrcCuts.l0, if_pos (by omega), if_pos (by omega), rdL hi, frame_f _ _ hc.1 (by omega) (by omega), if_neg (by omega), Option.bind_some]
    dsimp only
    rw [if_pos rfl, if_pos (by omega), Option.bind_some, if_pos (by rw [Es_len]; omega), ← take_fms hi, ← Es_succ, w64 (x := (i : Int) + 1) (by omega) (by omega), show (i : Int) + 1 = ((i + 1 : Nat) : Int) by omega]
    exact ih (i + 1) m (by omega) hm
theorem rd_any (l : List Int) (i : Nat) (h : i < l.length) : ∃ x, rd l (i : Int) = x := ⟨_, rfl⟩
theorem cut_l2 (L : List (List Int)) (w : Nat) (hw : w ≤ L.length) (hL : L.length ≤ 12) : ∀ (d i : Nat) (b : List Int) (k : Nat), b.length ≤ 100000 → i + d = b.length → d + 1100 ≤ k → dancestudiolaw08_CrcCuts.l2 k L b (w : Int) (L.take w) (i : Int) = some true := by
  intro d
  induction d with
  | zero =>
    intro i b k hb h hk
    obtain ⟨k, rfl⟩ : ∃ m, k = m + 1 := ⟨k - 1, by omega⟩
    rw [dancestudiolaw08_CrcCuts.l2, if_neg (by omega), if_pos (by omega), if_pos (by omega), Int.toNat_natCast, lists_f k _ (by rw [List.length_take]; omega) (by rw [List.length_take]; omega), Option.bind_some, if_pos rfl, awake_f k (by omega), Option.bind_some]
  | succ d ih =>
    intro i b k hb h hk
    obtain ⟨k, rfl⟩ : ∃ m, k = m + 1 := ⟨k - 1, by omega⟩
    rw [dancestudiolaw08_CrcCuts.l2, if_pos (by omega), if_pos (by omega), w64 (x := (i : Int) + 1) (by omega) (by omega), show (i : Int) + 1 = ((i + 1 : Nat) : Int) by omega]
    exact ih (i + 1) _ k (by rw [List.length_set]; exact hb) (by rw [List.length_set]; omega) (by omega)
theorem cut_end (L : List (List Int)) (hL : Fine L) (cut w : Nat) (k : Nat) (hk : 60000 ≤ k) (hc : cut ≤ (fms L).length) (hw : w ≤ L.length) (h1 : (fms (L.take w)).length ≤ cut) (h2 : w = L.length ∨ cut < (fms (L.take (w + 1))).length) :
    dancestudiolaw08_CrcCuts.l1 (k + 1) L (cut : Int) (fms L) (Es L L.length) (w : Int) ((fms (L.take w)).length : Int) (L.length : Int) = some true := by
  have hle := fms_le L hL.2
  have h12 := hL.1
  have hBY := fms_BY L hL.2
  -- what is left behind the whole frames
  obtain ⟨T, hT, hT2, hTB⟩ : ∃ T, (fms L).take cut = fms (L.take w) ++ T ∧ (opn T).2.2 = 13 ∧ T.length ≤ 5000 := by
    rcases h2 with rfl | h2
    · rw [List.take_length] at h1 ⊢
      exact ⟨[], by rw [List.take_of_length_le (by omega), List.append_nil], opn_nil, by simp⟩
    · have hwl : w < L.length := by
        apply Nat.lt_of_not_le
        intro hh
        rw [List.take_of_length_le (by omega)] at h1 h2
        omega
      have hcw := hL.2 L[w] (List.getElem_mem hwl)
      have e : fms L = fms (L.take w) ++ (frm L[w] ++ fms (L.drop (w + 1))) := by
        rw [← List.append_assoc, ← take_fms hwl, ← fms_app, List.take_append_drop]
      rw [take_fms hwl, List.length_append] at h2
      refine ⟨(frm L[w] ++ fms (L.drop (w + 1))).take (cut - (fms (L.take w)).length), ?_, opn_cut _ _ hcw.1 (by omega) _ (by omega), ?_⟩
      · rw [e, List.take_append, List.take_of_length_le (by omega)]
      · rw [List.length_take]
        omega
  have hTl : ((fms L).take cut).length = cut := by rw [List.length_take]; omega
  rw [dancestudiolaw08_CrcCuts.l1, if_neg (by omega), if_pos (by omega), if_pos (by omega), Int.toNat_natCast, Option.bind_some, if_pos (by omega), if_pos (by omega), Int.toNat_natCast]
  have hBT : BY ((fms L).take cut) := fun y hy => hBY y (List.mem_of_mem_take hy)
  have hdr : ((fms L).take cut).drop (fms (L.take w)).length = T := by rw [hT, List.drop_left]
  have hBd : BY T := fun y hy => hBT y (by rw [hT]; simp [hy])
  have htk : (L.take w).length ≤ 12 := by rw [List.length_take]; omega
  rw [hdr, open_f k T hBd (by omega) (by omega), Option.bind_some, all_f k (10000 + (L.take w).length) _ hBT (by omega) (by omega) (by omega), Option.bind_some]
  have hal : alls (10000 + (L.take w).length) ((fms L).take cut) = (L.take w, ((fms (L.take w)).length : Int)) := by
    rw [hT, alls_fms T (L.take w) 10000 (hL.take w), alls_stop 10000 T (by rw [hT2]; decide)]
    simp
  rw [hal, hT2, if_pos rfl]
  dsimp only
  rw [if_pos rfl, if_pos (by omega), if_pos (by omega), Int.toNat_natCast, lists_f k _ (by omega) (by omega), Option.bind_some]
  obtain ⟨k, rfl⟩ : ∃ m, k = m + 1 := ⟨k - 1, by omega⟩
  rw [dancestudiolaw08_CrcCuts.j3, if_neg (by simp)]
  exact cut_l2 L w hw h12 ((fms L).take cut).length 0 _ k (by omega) (by omega) (by omega)
theorem cut_l1 (L : List (List Int)) (hL : Fine L) (cut : Nat) (hc : cut ≤ (fms L).length) : ∀ (d i w : Nat) (k : Nat), i + d = L.length → 60000 + d + 1 ≤ k → w ≤ i → (fms (L.take w)).length ≤ cut → (w = i ∨ cut < (fms (L.take (w + 1))).length) →
    dancestudiolaw08_CrcCuts.l1 k L (cut : Int) (fms L) (Es L L.length) (w : Int) ((fms (L.take w)).length : Int) (i : Int) = some true := by
  intro d
  induction d with
  | zero =>
    intro i w k h hk hw h1 h2
    obtain rfl : i = L.length := by omega
    obtain ⟨k, rfl⟩ : ∃ m, k = m + 1 := ⟨k - 1, by omega⟩
    exact cut_end L hL cut w k (by omega) hc hw h1 h2
  | succ d ih =>
    intro i w k h hk hw h1 h2
    obtain ⟨k, rfl⟩ : ∃ m, k = m + 1 := ⟨k - 1, by omega⟩
    have h12 := hL.1
    rw [dancestudiolaw08_CrcCuts.l1, if_pos (by omega), if_pos (by omega), if_pos (by rw [Es_len]; omega), Es_rd L _ i (by omega), w64 (x := (i : Int) + 1) (by omega) (by omega), show (i : Int) + 1 = ((i + 1 : Nat) : Int) by omega]
    by_cases he : ((fms (L.take (i + 1))).length : Int) ≤ (cut : Int)
    · rw [if_pos he]
      exact ih (i + 1) (i + 1) k (by omega) (by omega) (by omega) (by omega) (.inl rfl)
    · rw [if_neg he]
      refine ih (i + 1) w k (by omega) (by omega) (by omega) h1 (.inr ?_)
      rcases h2 with rfl | h2
      · omega
      · exact h2
end Go.Proofs.Ytobehfghepbhbaa.CrcImpl
namespace Go.Proofs.Ytobehfghepbhbaa.Pure
open Go.RowKit Go.Proofs.YtobehfghepbhbaaW.PrintWords Go.Proofs.Ytobehfghepbhbaa.X Go.Proofs.Ytobehfghepbhbaa.WPlain Go.Proofs.Ytobehfghepbhbaa.WImpl Go.Proofs.Ytobehfghepbhbaa.Crc Go.Proofs.Ytobehfghepbhbaa.CrcImpl
set_option linter.unusedVariables false
set_option linter.unusedSimpArgs false
theorem CrcCuts (L : List (List Int)) (cut : Int) (g0 : (L.length ≤ maxLen ∧ ∀ y ∈ L, (y.length ≤ maxLen ∧ ∀ z ∈ y, (Lit.int .u8 z).wf = true))) : ∃ k, X.dancestudiolaw08_CrcCuts.f k L cut = some true := by
  refine ⟨100000 + L.length, ?_⟩
  generalize hk : 100000 = k
  have hB := bysL g0
  unfold dancestudiolaw08_CrcCuts.f
  rcases great_f (k + L.length) L (by omega) hB with h | ⟨h, hL⟩
  · rw [h, Option.bind_some, if_pos rfl, awake_f _ (by omega), Option.bind_some]
  · rw [h, Option.bind_some, if_neg (by simp)]
    have h0 := cut_l0 L hL cut L.length 0 k (by omega) (by omega)
    refine Eq.trans h0 ?_
    clear h0
    obtain ⟨k, rfl⟩ : ∃ m, k = m + 2 := ⟨k - 2, by omega⟩
    have hj : dancestudiolaw08_CrcCuts.j1 (k + 1) L cut (fms L) (Es L L.length) true = some true := by
      rw [dancestudiolaw08_CrcCuts.j1, if_pos rfl, awake_f k (by omega), Option.bind_some]
    rw [dancestudiolaw08_CrcCuts.l0, if_neg (by omega)]
    by_cases h1 : cut < 0
    · rw [if_pos h1, hj]
    · rw [if_neg h1]
      by_cases h2 : cut > ((fms L).length : Int)
      · rw [decide_eq_true h2, hj]
      · rw [decide_eq_false h2, dancestudiolaw08_CrcCuts.j1, if_neg (by simp)]
        have hl := cut_l1 L hL cut.toNat (by omega) L.length 0 0 k (by omega) (by have := hL.1; omega) (by omega) (by simp [fms]) (.inl rfl)
        rw [show ((cut.toNat : Nat) : Int) = cut by omega] at hl
        exact hl
end Go.Proofs.Ytobehfghepbhbaa.Pure
