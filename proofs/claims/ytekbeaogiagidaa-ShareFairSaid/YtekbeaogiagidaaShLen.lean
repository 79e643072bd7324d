/- The bits of a number: math/bits.Len64 gives the kit's bitLen. -/
import Derived.Test.YtekbeaogiagidaaX7
import Derived.Laws.MathBits
import Derived.Test.YtekbeaogiagidaaX8
namespace Go.Proofs.Ytekbeaogiagidaa.Sh
open Go.RowKit Go.Proofs.YtekbeaogiagidaaW.PrintWords Go.Proofs.Ytekbeaogiagidaa.X
set_option linter.unusedVariables false
set_option linter.unusedSimpArgs false
set_option maxRecDepth 100000 in
theorem bt_len8 (i : Int) (h0 : 0 ≤ i) (h1 : i < 256) : bt (⟨#[0, 1, 2, 2, 3, 3, 3, 3, 4, 4, 4, 4, 4, 4, 4, 4, 5, 5, 5, 5, 5, 5, 5, 5, 5, 5, 5, 5, 5, 5, 5, 5, 6, 6, 6, 6, 6, 6, 6, 6, 6, 6, 6, 6, 6, 6, 6, 6, 6, 6, 6, 6, 6, 6, 6, 6, 6, 6, 6, 6, 6, 6, 6, 6, 7, 7, 7, 7, 7, 7, 7, 7, 7, 7, 7, 7, 7, 7, 7, 7, 7, 7, 7, 7, 7, 7, 7, 7, 7, 7, 7, 7, 7, 7, 7, 7, 7, 7, 7, 7, 7, 7, 7, 7, 7, 7, 7, 7, 7, 7, 7, 7, 7, 7, 7, 7, 7, 7, 7, 7, 7, 7, 7, 7, 7, 7, 7, 7, 8, 8, 8, 8, 8, 8, 8, 8, 8, 8, 8, 8, 8, 8, 8, 8, 8, 8, 8, 8, 8, 8, 8, 8, 8, 8, 8, 8, 8, 8, 8, 8, 8, 8, 8, 8, 8, 8, 8, 8, 8, 8, 8, 8, 8, 8, 8, 8, 8, 8, 8, 8, 8, 8, 8, 8, 8, 8, 8, 8, 8, 8, 8, 8, 8, 8, 8, 8, 8, 8, 8, 8, 8, 8, 8, 8, 8, 8, 8, 8, 8, 8, 8, 8, 8, 8, 8, 8, 8, 8, 8, 8, 8, 8, 8, 8, 8, 8, 8, 8, 8, 8, 8, 8, 8, 8, 8, 8, 8, 8, 8, 8, 8, 8, 8, 8, 8, 8, 8, 8, 8, 8, 8, 8, 8, 8, 8, 8]⟩ : ByteArray) i = (bitLen i.toNat : Int) := by
  have h : ∀ j : Fin 256, bt (⟨#[0, 1, 2, 2, 3, 3, 3, 3, 4, 4, 4, 4, 4, 4, 4, 4, 5, 5, 5, 5, 5, 5, 5, 5, 5, 5, 5, 5, 5, 5, 5, 5, 6, 6, 6, 6, 6, 6, 6, 6, 6, 6, 6, 6, 6, 6, 6, 6, 6, 6, 6, 6, 6, 6, 6, 6, 6, 6, 6, 6, 6, 6, 6, 6, 7, 7, 7, 7, 7, 7, 7, 7, 7, 7, 7, 7, 7, 7, 7, 7, 7, 7, 7, 7, 7, 7, 7, 7, 7, 7, 7, 7, 7, 7, 7, 7, 7, 7, 7, 7, 7, 7, 7, 7, 7, 7, 7, 7, 7, 7, 7, 7, 7, 7, 7, 7, 7, 7, 7, 7, 7, 7, 7, 7, 7, 7, 7, 7, 8, 8, 8, 8, 8, 8, 8, 8, 8, 8, 8, 8, 8, 8, 8, 8, 8, 8, 8, 8, 8, 8, 8, 8, 8, 8, 8, 8, 8, 8, 8, 8, 8, 8, 8, 8, 8, 8, 8, 8, 8, 8, 8, 8, 8, 8, 8, 8, 8, 8, 8, 8, 8, 8, 8, 8, 8, 8, 8, 8, 8, 8, 8, 8, 8, 8, 8, 8, 8, 8, 8, 8, 8, 8, 8, 8, 8, 8, 8, 8, 8, 8, 8, 8, 8, 8, 8, 8, 8, 8, 8, 8, 8, 8, 8, 8, 8, 8, 8, 8, 8, 8, 8, 8, 8, 8, 8, 8, 8, 8, 8, 8, 8, 8, 8, 8, 8, 8, 8, 8, 8, 8, 8, 8, 8, 8, 8, 8]⟩ : ByteArray) (j.val : Int) = (bitLen j.val : Int) := by decide +kernel
  have := h ⟨i.toNat, by omega⟩
  rw [Int.toNat_of_nonneg h0] at this
  exact this
theorem shift16 (x : Nat) (h : 65536 ≤ x) : bitLen x = 16 + bitLen (x / 65536) := bitLen_shift x 16 (by show x / 65536 ≠ 0; omega)
theorem shift8 (x : Nat) (h : 256 ≤ x) : bitLen x = 8 + bitLen (x / 256) := bitLen_shift x 8 (by show x / 256 ≠ 0; omega)
theorem shift32 (x : Nat) (h : 4294967296 ≤ x) : bitLen x = 32 + bitLen (x / 4294967296) := bitLen_shift x 32 (by show x / 4294967296 ≠ 0; omega)
theorem w2 (a b : Int) (n : Nat) (ha : 0 ≤ a) (ha1 : a ≤ 64) (hn : n ≤ 8) (e : b = (n : Int)) : wrap64 (a + wrap64 b) = a + n := by subst e; unfold wrap64; omega
theorem w3 (a : Int) (ha : 0 ≤ a) (ha1 : a ≤ 64) : wrap64 (a + 16) = a + 16 := by unfold wrap64; omega
theorem w4 (a : Int) (ha : 0 ≤ a) (ha1 : a ≤ 64) : wrap64 (a + 8) = a + 8 := by unfold wrap64; omega
theorem len_j0 (x : Nat) (a : Int) (ha : 0 ≤ a) (ha1 : a ≤ 32) (hx : x < 4294967296) (k : Nat) : bits_Len64.j0 (k + 1) (x : Int) a = some (a + (bitLen x : Int)) := by
  rw [bits_Len64.j0]
  by_cases h16 : 65536 ≤ x
  · have e16 : (x : Int) / 65536 = ((x / 65536 : Nat) : Int) := by omega
    rw [if_pos (by omega), e16, shift16 x h16]
    have hy : x / 65536 < 65536 := by omega
    generalize x / 65536 = y at hy ⊢
    by_cases h8 : 256 ≤ y
    · have e8 : (y : Int) / 256 = ((y / 256 : Nat) : Int) := by omega
      rw [if_pos (by omega), e8, shift8 y h8]
      have hz : y / 256 < 256 := by omega
      generalize y / 256 = z at hz ⊢
      have em : (z : Int) % 256 = (z : Int) := by omega
      have hb := bt_len8 (z : Int) (by omega) (by omega)
      rw [Int.toNat_natCast] at hb
      have h9 := bitLen_le8 z hz
      rw [em, if_pos (by omega), if_pos (by omega), hb, w3 a ha (by omega), w4 (a + 16) (by omega) (by omega), w2 (a + 16 + 8) _ (bitLen z) (by omega) (by omega) h9 rfl]
      exact congrArg some (by omega)
    · have em : (y : Int) % 256 = (y : Int) := by omega
      have hb := bt_len8 (y : Int) (by omega) (by omega)
      rw [Int.toNat_natCast] at hb
      have h9 := bitLen_le8 y (by omega)
      rw [if_neg (by omega), em, if_pos (by omega), if_pos (by omega), hb, w3 a ha (by omega), w2 (a + 16) _ (bitLen y) (by omega) (by omega) h9 rfl]
      exact congrArg some (by omega)
  · rw [if_neg (by omega)]
    by_cases h8 : 256 ≤ x
    · have e8 : (x : Int) / 256 = ((x / 256 : Nat) : Int) := by omega
      rw [if_pos (by omega), e8, shift8 x h8]
      have hz : x / 256 < 256 := by omega
      generalize x / 256 = z at hz ⊢
      have em : (z : Int) % 256 = (z : Int) := by omega
      have hb := bt_len8 (z : Int) (by omega) (by omega)
      rw [Int.toNat_natCast] at hb
      have h9 := bitLen_le8 z hz
      rw [em, if_pos (by omega), if_pos (by omega), hb, w4 a ha (by omega), w2 (a + 8) _ (bitLen z) (by omega) (by omega) h9 rfl]
      exact congrArg some (by omega)
    · have em : (x : Int) % 256 = (x : Int) := by omega
      have hb := bt_len8 (x : Int) (by omega) (by omega)
      rw [Int.toNat_natCast] at hb
      have h9 := bitLen_le8 x (by omega)
      rw [if_neg (by omega), em, if_pos (by omega), if_pos (by omega), hb, w2 a _ (bitLen x) (by omega) (by omega) h9 rfl]
theorem len_f (x : Nat) (hx : x < 18446744073709551616) (k : Nat) : bits_Len64.f (k + 1) (x : Int) = some (bitLen x : Int) := by
  unfold bits_Len64.f
  by_cases h : 4294967296 ≤ x
  · rw [if_pos (by omega), show (x : Int) / 4294967296 = ((x / 4294967296 : Nat) : Int) by omega, len_j0 _ _ (by omega) (by omega) (by omega), shift32 x h]
    exact congrArg some (by omega)
  · rw [if_neg (by omega), len_j0 _ _ (by omega) (by omega) (by omega)]
    exact congrArg some (by omega)
/-- The leading zeros of a number, and what they make of it. -/
theorem lead_f (y : Nat) (h0 : 0 < y) (h1 : y ≤ 1099511627776) (k : Nat) : ∃ s : Nat, bits_LeadingZeros64.f (k + 1) (y : Int) = some (s : Int) ∧ 1 ≤ s ∧ s ≤ 63 ∧ 9223372036854775808 ≤ (y : Int) * 2 ^ s ∧ (y : Int) * 2 ^ s < 18446744073709551616 := by
  obtain ⟨a, b⟩ := bitLen_spec y
  have b := b (by omega)
  have l1 : 1 ≤ bitLen y := by
    rcases Nat.eq_zero_or_pos (bitLen y) with e | e
    · rw [e] at a; omega
    · exact e
  have l2 : bitLen y ≤ 41 := by
    rcases Nat.lt_or_ge 41 (bitLen y) with e | e
    · have : 2 ^ 41 ≤ 2 ^ (bitLen y - 1) := Nat.pow_le_pow_right (by omega) (by omega)
      omega
    · exact e
  refine ⟨64 - bitLen y, ?_, by omega, by omega, ?_, ?_⟩
  · unfold bits_LeadingZeros64.f
    rw [len_f y (by omega), Option.bind_some]
    have : wrap64 (64 - (bitLen y : Int)) = ((64 - bitLen y : Nat) : Int) := by unfold wrap64; omega
    rw [this]
  · have e : 2 ^ (bitLen y - 1) * 2 ^ (64 - bitLen y) = 2 ^ 63 := by rw [← Nat.pow_add]; congr 1; omega
    have := Nat.mul_le_mul_right (2 ^ (64 - bitLen y)) b
    rw [e] at this
    have := Int.ofNat_le.mpr this
    rw [Int.natCast_mul, Int.natCast_pow] at this
    exact this
  · have e : 2 ^ bitLen y * 2 ^ (64 - bitLen y) = 2 ^ 64 := by rw [← Nat.pow_add]; congr 1; omega
    have := Nat.mul_lt_mul_of_pos_right a (Nat.two_pow_pos (64 - bitLen y))
    rw [e] at this
    have := Int.ofNat_lt.mpr this
    rw [Int.natCast_mul, Int.natCast_pow] at this
    exact this
end Go.Proofs.Ytekbeaogiagidaa.Sh
