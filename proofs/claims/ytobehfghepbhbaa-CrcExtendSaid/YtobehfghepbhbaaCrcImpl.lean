/- The package crc and its reference, as printed: the checksum. -/
import Derived.Test.YtobehfghepbhbaaX2
import Derived.Test.YtobehfghepbhbaaX13
import Derived.Test.YtobehfghepbhbaaX12
import Derived.Test.YtobehfghepbhbaaX1
import Derived.Test.YtobehfghepbhbaaImpl
import Derived.Test.YtobehfghepbhbaaCrc
namespace Go.Proofs.Ytobehfghepbhbaa.CrcImpl
open Go.RowKit Go.Proofs.YtobehfghepbhbaaW.PrintWords Go.Proofs.Ytobehfghepbhbaa.X Go.Proofs.Ytobehfghepbhbaa.WPlain Go.Proofs.Ytobehfghepbhbaa.WImpl Go.Proofs.Ytobehfghepbhbaa.Crc
set_option linter.unusedVariables false

theorem xor_c (r : Nat) (c : Int) (hr : r < 4294967296) (h0 : 0 ≤ c) (h1 : c ≤ 255) : Go.bits .xor .u32 (r : Int) (c % 4294967296) = ((r ^^^ c.toNat : Nat) : Int) := by
  rw [show c % 4294967296 = c by omega, u32_xor _ _ (by omega) (by omega) h0 (by omega), Int.toNat_natCast]
theorem xor_p (r : Nat) (hr : r < 4294967296) : Go.bits .xor .u32 ((r : Int) / 2) 2197175160 = ((r / 2 ^^^ 2197175160 : Nat) : Int) := by
  rw [u32_xor _ _ (by omega) (by omega) (by omega) (by omega)]
  have e : ((r : Int) / 2).toNat = r / 2 := by omega
  rw [e]
  rfl
theorem and_1 (r : Nat) (hr : r < 4294967296) : Go.bits .and .u32 (r : Int) 1 = ((r % 2 : Nat) : Int) := by
  rw [u32_and _ 1 (by omega) (by omega) (by omega) (by omega), show (1 : Int).toNat = 1 from rfl, nat_mask1, Int.toNat_natCast]
theorem not_r (r : Nat) (hr : r < 4294967296) : Go.bits .xor .u32 4294967295 (r : Int) = ((nt r : Nat) : Int) := by
  rw [u32_xor _ _ (by omega) (by omega) (by omega) (by omega), Int.toNat_natCast, nt_eq, show (4294967295 : Int).toNat = 4294967295 from rfl]
theorem extend_l1 (x11 : List Int) (x12 x13 : Int) : ∀ (j k : Nat) (r : Nat), j ≤ 8 → r < 4294967296 → crc_Extend.l1 (k + j + 1) (r : Int) x11 x12 x13 (8 - (j : Int)) = crc_Extend.l0 k ((stn j r : Nat) : Int) x11 x12 (wrap64 (x13 + 1)) := by
  intro j
  induction j with
  | zero =>
    intro k r _ hr
    simp only [crc_Extend.l1]
    rw [if_neg (by omega)]
    rfl
  | succ j ih =>
    intro k r hj hr
    obtain ⟨K, hK⟩ : ∃ K, K = k + (j + 1) := ⟨_, rfl⟩
    rw [← hK]
    simp only [crc_Extend.l1]
    rw [if_pos (by omega), and_1 r hr, w64 (by omega) (by omega), show (8 - ((j + 1 : Nat) : Int) + 1) = 8 - (j : Int) by omega]
    by_cases h : r % 2 = 1
    · rw [if_pos (by omega), xor_p r hr, show K = k + j + 1 by omega, ih k _ (by omega) (xor_lt (by omega) (by omega))]
      have e : stn (j + 1) r = stn j (r / 2 ^^^ 2197175160) := by
        show stn j (st r) = _
        unfold st
        rw [if_pos h]
      rw [e]
    · rw [if_neg (by omega), show ((r : Int) / 2) = ((r / 2 : Nat) : Int) by omega, show K = k + j + 1 by omega, ih k _ (by omega) (by omega)]
      have e : stn (j + 1) r = stn j (r / 2) := by
        show stn j (st r) = _
        unfold st
        rw [if_neg h]
      rw [e]
theorem extend_l0 (l : List Int) (hb : BY l) (hl : l.length ≤ 100000000) : ∀ (s : List Int) (i k r : Nat), l.drop i = s → 10 * s.length < k → r < 4294967296 → crc_Extend.l0 k (r : Int) l (l.length : Int) (i : Int) = some ((nt (run r s) : Nat) : Int) := by
  intro s
  induction s with
  | nil =>
    intro i k r hd hk hr
    obtain ⟨k, rfl⟩ : ∃ m, k = m + 1 := ⟨k - 1, by omega⟩
    have hi : l.length ≤ i := List.drop_eq_nil_iff.1 hd
    simp only [crc_Extend.l0]
    rw [if_neg (by omega), not_r r hr]
    rfl
  | cons c s ih =>
    intro i k r hd hk hr
    simp only [List.length_cons] at hk
    obtain ⟨hx, hi, hn⟩ := rd_of_drop hd
    have hc : 0 ≤ c ∧ c ≤ 255 := hb c (List.mem_of_mem_drop (hd ▸ List.mem_cons_self ..))
    obtain ⟨k, rfl⟩ : ∃ m, k = (m + 8 + 1) + 1 := ⟨k - 10, by omega⟩
    simp only [crc_Extend.l0]
    rw [if_pos (by omega), if_pos (by omega), if_pos (by omega), hx, xor_c r c hr hc.1 hc.2]
    have h1 := extend_l1 l (l.length : Int) (i : Int) 8 k _ (Nat.le_refl 8) (xor_lt hr (by omega : c.toNat < 4294967296))
    have e8 : (8 - ((8 : Nat) : Int)) = 0 := by omega
    rw [e8] at h1
    rw [h1, w64 (by omega) (by omega), show ((i : Int) + 1) = ((i + 1 : Nat) : Int) by omega]
    exact ih (i + 1) k _ hn (by omega) (bt_lt hr hc.2)
/-- What Extend returns. -/
theorem extend_f (k : Nat) (s : Nat) (l : List Int) (hs : s < 4294967296) (hb : BY l) (hl : l.length ≤ 100000000) (hk : 10 * l.length + 1 ≤ k) : crc_Extend.f k (s : Int) l = some ((ext s l : Nat) : Int) := by
  unfold crc_Extend.f
  rw [not_r s hs]
  exact extend_l0 l hb hl l 0 k _ rfl (by omega) (nt_lt hs)
theorem sum_f (k : Nat) (l : List Int) (hb : BY l) (hl : l.length ≤ 100000000) (hk : 10 * l.length + 1 ≤ k) : crc_Sum.f k l = some ((ext 0 l : Nat) : Int) := by
  unfold crc_Sum.f
  have h := extend_f k 0 l (by omega) hb hl hk
  rw [show ((0 : Nat) : Int) = 0 from rfl] at h
  rw [h, Option.bind_some]
theorem rextend_l1 (x11 : List Int) (x13 : Int) : ∀ (j k : Nat) (r : Nat), j ≤ 8 → r < 4294967296 → dancestudioref08_Extend.l1 (k + j + 1) x11 (r : Int) x13 (8 - (j : Int)) = dancestudioref08_Extend.l0 k x11 ((stn j r : Nat) : Int) (wrap64 (x13 + 1)) := by
  intro j
  induction j with
  | zero =>
    intro k r _ hr
    simp only [dancestudioref08_Extend.l1]
    rw [if_neg (by omega)]
    rfl
  | succ j ih =>
    intro k r hj hr
    obtain ⟨K, hK⟩ : ∃ K, K = k + (j + 1) := ⟨_, rfl⟩
    rw [← hK]
    simp only [dancestudioref08_Extend.l1]
    rw [if_pos (by omega), and_1 r hr, w64 (by omega) (by omega), show (8 - ((j + 1 : Nat) : Int) + 1) = 8 - (j : Int) by omega]
    by_cases h : r % 2 = 1
    · rw [if_pos (by omega), xor_p r hr, show K = k + j + 1 by omega, ih k _ (by omega) (xor_lt (by omega) (by omega))]
      have e : stn (j + 1) r = stn j (r / 2 ^^^ 2197175160) := by
        show stn j (st r) = _
        unfold st
        rw [if_pos h]
      rw [e]
    · rw [if_neg (by omega), show ((r : Int) / 2) = ((r / 2 : Nat) : Int) by omega, show K = k + j + 1 by omega, ih k _ (by omega) (by omega)]
      have e : stn (j + 1) r = stn j (r / 2) := by
        show stn j (st r) = _
        unfold st
        rw [if_neg h]
      rw [e]
theorem rextend_l0 (l : List Int) (hb : BY l) (hl : l.length ≤ 100000000) : ∀ (s : List Int) (i k r : Nat), l.drop i = s → 10 * s.length < k → r < 4294967296 → dancestudioref08_Extend.l0 k l (r : Int) (i : Int) = some ((nt (run r s) : Nat) : Int) := by
  intro s
  induction s with
  | nil =>
    intro i k r hd hk hr
    obtain ⟨k, rfl⟩ : ∃ m, k = m + 1 := ⟨k - 1, by omega⟩
    have hi : l.length ≤ i := List.drop_eq_nil_iff.1 hd
    simp only [dancestudioref08_Extend.l0]
    rw [if_neg (by omega), not_r r hr]
    rfl
  | cons c s ih =>
    intro i k r hd hk hr
    simp only [List.length_cons] at hk
    obtain ⟨hx, hi, hn⟩ := rd_of_drop hd
    have hc : 0 ≤ c ∧ c ≤ 255 := hb c (List.mem_of_mem_drop (hd ▸ List.mem_cons_self ..))
    obtain ⟨k, rfl⟩ : ∃ m, k = (m + 8 + 1) + 1 := ⟨k - 10, by omega⟩
    simp only [dancestudioref08_Extend.l0]
    rw [if_pos (by omega), if_pos (by omega), hx, xor_c r c hr hc.1 hc.2]
    have h1 := rextend_l1 l (i : Int) 8 k _ (Nat.le_refl 8) (xor_lt hr (by omega : c.toNat < 4294967296))
    have e8 : (8 - ((8 : Nat) : Int)) = 0 := by omega
    rw [e8] at h1
    rw [h1, w64 (by omega) (by omega), show ((i : Int) + 1) = ((i + 1 : Nat) : Int) by omega]
    exact ih (i + 1) k _ hn (by omega) (bt_lt hr hc.2)
theorem rextend_f (k : Nat) (s : Nat) (l : List Int) (hs : s < 4294967296) (hb : BY l) (hl : l.length ≤ 100000000) (hk : 10 * l.length + 1 ≤ k) : dancestudioref08_Extend.f k (s : Int) l = some ((ext s l : Nat) : Int) := by
  unfold dancestudioref08_Extend.f
  rw [not_r s hs]
  exact rextend_l0 l hb hl l 0 k _ rfl (by omega) (nt_lt hs)
theorem rsum_f (k : Nat) (l : List Int) (hb : BY l) (hl : l.length ≤ 100000000) (hk : 10 * l.length + 1 ≤ k) : dancestudioref08_Sum.f k l = some ((ext 0 l : Nat) : Int) := by
  unfold dancestudioref08_Sum.f
  have h := rextend_f k 0 l (by omega) hb hl hk
  rw [show ((0 : Nat) : Int) = 0 from rfl] at h
  rw [h, Option.bind_some]
end Go.Proofs.Ytobehfghepbhbaa.CrcImpl
