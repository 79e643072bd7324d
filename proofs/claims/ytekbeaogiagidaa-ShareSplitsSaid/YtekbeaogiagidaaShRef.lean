/- The document's Split: the same answer in closed form. -/
import Derived.Test.YtekbeaogiagidaaX25
import Derived.Test.YtekbeaogiagidaaX24
import Derived.Test.YtekbeaogiagidaaX23
import Derived.Test.YtekbeaogiagidaaX22
import Derived.Test.YtekbeaogiagidaaX21
import Derived.Test.YtekbeaogiagidaaShParts
import Derived.Test.YtekbeaogiagidaaX26
namespace Go.Proofs.Ytekbeaogiagidaa.Sh
open Go.RowKit Go.Proofs.YtekbeaogiagidaaW.PrintWords Go.Proofs.Ytekbeaogiagidaa.X Go.Proofs.Ytekbeaogiagidaa.So
set_option linter.unusedVariables false
set_option linter.unusedSimpArgs false
theorem amount_f (a : Int) : dancestudioref12_amount.f a = some (am a) := by
  unfold dancestudioref12_amount.f am
  by_cases h0 : 0 ≤ a <;> by_cases h1 : a ≤ 1099511627776 <;> simp [h0, h1]
theorem small_ref (a : Int) (h0 : 0 ≤ a) (h1 : a ≤ 1125899906842624) : dancestudioref01_Small.f a = some true := by
  unfold dancestudioref01_Small.f
  rw [if_pos (by omega), decide_eq_true h1]
theorem floor_ref (a c : Int) (h0 : 0 ≤ a) (h1 : a ≤ 1125899906842624) (hc : 0 < c) (hc1 : c ≤ 1125899906842624) (k : Nat) : dancestudioref01_Floor.f (k + 1) a c = some (a / c, a % c, 0) := by
  have e1 : Int.tdiv a c = a / c := Int.tdiv_eq_ediv_of_nonneg h0
  have e2 : Int.tmod a c = a % c := Int.tmod_eq_emod_of_nonneg h0
  have q0 : 0 ≤ a / c := Int.ediv_nonneg h0 (by omega)
  have q1 : a / c ≤ a := Int.ediv_le_self _ h0
  have r0 : 0 ≤ a % c := Int.emod_nonneg _ (by omega)
  unfold dancestudioref01_Floor.f
  rw [small_ref a h0 h1, Option.bind_some, if_pos rfl, small_ref c (by omega) hc1, Option.bind_some]
  show dancestudioref01_Floor.j0 (k + 1) a c false = _
  rw [dancestudioref01_Floor.j0, if_neg (by decide), if_neg (by omega), if_neg (by omega)]
  unfold dancestudioref01_down.f
  rw [if_neg (by omega), e1, e2, if_neg (by omega), wrap_in _ (by omega) (by omega), Option.bind_some]
theorem step_div (n r c t : Int) (hc : 0 < c) : (2 * (n * c + r) + t) / c = 2 * n + (2 * r + t) / c ∧ (2 * (n * c + r) + t) % c = (2 * r + t) % c := by
  have e : 2 * (n * c + r) + t = (2 * r + t) + 2 * n * c := by rw [Int.mul_add, Int.mul_assoc]; omega
  rw [e, Int.add_mul_ediv_right _ _ (by omega), Int.add_mul_emod_self_right]
  exact ⟨by omega, rfl⟩
theorem over_run {a b c : Int} (a0 : 0 ≤ a) (a1 : a ≤ 1099511627776) (b0 : 0 ≤ b) (hbc : b ≤ c) (hc : 0 < c) (c1 : c ≤ 1099511627776) : ∀ (j k : Nat), j ≤ 41 → j + 2 ≤ k → dancestudioref12_over.l0 k a b c (a * (b / 2 ^ j) / c) (a * (b / 2 ^ j) % c) ((j : Int) - 1) = some (a * b / c, a * b % c)
  | 0, k, hj, hk => by
    obtain ⟨k, rfl⟩ : ∃ k', k = k' + 1 := ⟨k - 1, by omega⟩
    rw [dancestudioref12_over.l0, if_neg (by omega)]
    simp
  | j + 1, k, hj, hk => by
    obtain ⟨k, rfl⟩ : ∃ k', k = k' + 1 := ⟨k - 1, by omega⟩
    obtain ⟨k2, hk2⟩ : ∃ k', k = k' + 1 := ⟨k - 1, by omega⟩
    have ih := over_run a0 a1 b0 hbc hc c1 j k (by omega) (by omega)
    have ej : ((j + 1 : Nat) : Int) - 1 = (j : Int) := by omega
    have hp : (0 : Int) < 2 ^ j := Int.pow_pos (by omega)
    have em : b / 2 ^ (j + 1) = b / 2 ^ j / 2 := by rw [Int.pow_succ, Int.ediv_ediv_of_nonneg (by omega)]
    have m0 : 0 ≤ b / 2 ^ j := Int.ediv_nonneg b0 (by omega)
    have m1 : b / 2 ^ j ≤ b := Int.ediv_le_self _ b0
    have es : shr .i64 b (j : Int) = b / 2 ^ j := by
      unfold shr
      rw [Int.toNat_natCast, Nat.min_eq_left (show j ≤ IntKind.i64.bits from by show j ≤ 64; omega)]
    rw [ej, em]
    generalize b / 2 ^ j = m at ih m0 m1 es
    obtain ⟨d, hd⟩ : ∃ d, m / 2 = d := ⟨_, rfl⟩
    have q := quo_in a0 a1 hc (x := d) (by omega) (by omega)
    have qm := quo_in a0 a1 hc (x := m) (by omega) (by omega)
    have r0 := Int.emod_nonneg (a * d) (show c ≠ 0 by omega)
    have r1 := Int.emod_lt_of_pos (a * d) hc
    have ed := Int.mul_ediv_add_emod (a * d) c
    rw [Int.mul_comm] at ed
    have et : Int.tmod m 2 = m % 2 := Int.tmod_eq_emod_of_nonneg m0
    have b3 : -9223372036854775808 ≤ (j : Int) - 1 ∧ (j : Int) - 1 ≤ 9223372036854775807 := by omega
    have j0 : (j : Int) ≥ 0 := by omega
    rw [hd, dancestudioref12_over.l0, if_pos j0, if_pos j0, es, et]
    generalize hqd : a * d / c = n at q ed ⊢
    generalize hrd : a * d % c = r at r0 r1 ed ⊢
    rw [wrap_in _ b3.1 b3.2]
    rcases Int.emod_two_eq m with h2 | h2
    · have hm2 : m = 2 * d := by omega
      have e2 : a * m = 2 * (n * c + r) + 0 := by rw [ed, hm2, Int.mul_left_comm]; omega
      obtain ⟨s1, s2⟩ := step_div n r c 0 hc
      rw [← e2] at s1 s2
      rw [Int.add_zero] at s1 s2
      rw [h2, if_neg (by decide), wrap_in (2 * r) (by omega) (by omega), hk2, floor_ref _ _ (by omega) (by omega) hc (by omega), Option.bind_some]
      show dancestudioref12_over.l0 (k2 + 1) a b c (wrap64 (wrap64 (2 * n) + 2 * r / c)) (2 * r % c) _ = _
      rw [wrap_in (2 * n) (by omega) (by omega), ← s1, ← s2, wrap_in _ (by omega) (by omega), ← hk2]
      exact ih
    · have hm2 : m = 2 * d + 1 := by omega
      have e2 : a * m = 2 * (n * c + r) + a := by rw [ed, hm2, Int.mul_add, Int.mul_left_comm]; omega
      obtain ⟨s1, s2⟩ := step_div n r c a hc
      rw [← e2] at s1 s2
      rw [h2, if_pos rfl, wrap_in (2 * r) (by omega) (by omega), wrap_in (2 * r + a) (by omega) (by omega), hk2, floor_ref _ _ (by omega) (by omega) hc (by omega), Option.bind_some]
      show dancestudioref12_over.l0 (k2 + 1) a b c (wrap64 (wrap64 (2 * n) + (2 * r + a) / c)) ((2 * r + a) % c) _ = _
      rw [wrap_in (2 * n) (by omega) (by omega), ← s1, ← s2, wrap_in _ (by omega) (by omega), ← hk2]
      exact ih
theorem over_f {a b c : Int} (a0 : 0 ≤ a) (a1 : a ≤ 1099511627776) (b0 : 0 ≤ b) (hbc : b ≤ c) (hc : 0 < c) (c1 : c ≤ 1099511627776) (k : Nat) (hk : 43 ≤ k) : dancestudioref12_over.f k a b c = some (a * b / c, a * b % c) := by
  unfold dancestudioref12_over.f
  have h := over_run a0 a1 b0 hbc hc c1 41 k (by omega) (by omega)
  have e : b / 2 ^ 41 = 0 := Int.ediv_eq_zero_of_lt b0 (by show b < 2199023255552; omega)
  rw [e, Int.mul_zero, Int.zero_ediv, Int.zero_emod] at h
  exact h
end Go.Proofs.Ytekbeaogiagidaa.Sh
