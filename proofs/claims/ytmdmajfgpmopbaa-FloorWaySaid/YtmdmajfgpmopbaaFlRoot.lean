/- The root: the package's and the reference's, as printed, are one. -/
import Derived.Test.YtmdmajfgpmopbaaX16
import Derived.Test.YtmdmajfgpmopbaaFlChk
namespace Go.Proofs.Ytmdmajfgpmopbaa.Fl
open Go.RowKit Go.Proofs.YtmdmajfgpmopbaaW.PrintWords Go.Proofs.Ytmdmajfgpmopbaa.X
set_option linter.unusedVariables false
set_option linter.unusedSimpArgs false
/-- r is the whole root of x. -/
def IsRt (x r : Int) : Prop := 0 ≤ r ∧ r * r ≤ x ∧ x < (r + 1) * (r + 1)
theorem sq_le {a b : Int} (h0 : 0 ≤ a) (h : a ≤ b) : a * a ≤ b * b := Int.mul_le_mul h h h0 (by omega)
theorem sq_lt_of {a b : Int} (hb : 0 ≤ b) (h : a * a < b * b) : a < b := by
  apply Decidable.byContradiction
  intro hn
  have := sq_le hb (show b ≤ a by omega)
  omega
theorem rt_unique {x a b : Int} (ha : IsRt x a) (hb : IsRt x b) : a = b := by
  have h1 : a < b + 1 := sq_lt_of (by have := hb.1; omega) (by have := ha.2.1; have := hb.2.2; omega)
  have h2 : b < a + 1 := sq_lt_of (by have := ha.1; omega) (by have := hb.2.1; have := ha.2.2; omega)
  omega
theorem shl_one (e : Nat) (he : e ≤ 25) : shl .i64 1 (e : Int) = ((2 ^ e : Nat) : Int) ∧ 1 ≤ 2 ^ e ∧ 2 ^ e ≤ 33554432 := by
  rcases (show e = 0 ∨ e = 1 ∨ e = 2 ∨ e = 3 ∨ e = 4 ∨ e = 5 ∨ e = 6 ∨ e = 7 ∨ e = 8 ∨ e = 9 ∨ e = 10 ∨ e = 11 ∨ e = 12 ∨ e = 13 ∨ e = 14 ∨ e = 15 ∨ e = 16 ∨ e = 17 ∨ e = 18 ∨ e = 19 ∨ e = 20 ∨ e = 21 ∨ e = 22 ∨ e = 23 ∨ e = 24 ∨ e = 25 by omega) with h | h | h | h | h | h | h | h | h | h | h | h | h | h | h | h | h | h | h | h | h | h | h | h | h | h <;> subst h <;> exact ⟨rfl, by decide, by decide⟩
theorem rt_l0 (x : Int) (hx : 0 ≤ x) : ∀ (e k : Nat) (y : Int), e ≤ 26 → e < k → 0 ≤ y → y + ((2 ^ e : Nat) : Int) ≤ 67108864 → y * y ≤ x → x < (y + ((2 ^ e : Nat) : Int)) * (y + ((2 ^ e : Nat) : Int)) →
    ∃ r, IsRt x r ∧ num_Root.l0 k x y (26 - (e : Int)) = some (r, 0) := by
  intro e
  induction e with
  | zero =>
    intro k y he hk hy hb h1 h2
    obtain ⟨k, rfl⟩ : ∃ m, k = m + 1 := ⟨k - 1, by omega⟩
    refine ⟨y, ⟨hy, h1, h2⟩, ?_⟩
    rw [num_Root.l0, if_neg (by omega)]
  | succ e ih =>
    intro k y he hk hy hb h1 h2
    obtain ⟨k, rfl⟩ : ∃ m, k = m + 1 := ⟨k - 1, by omega⟩
    obtain ⟨s1, s2, s3⟩ := shl_one e (by omega)
    rw [show (2 ^ (e + 1) : Nat) = 2 * 2 ^ e by rw [Nat.pow_succ, Nat.mul_comm]] at hb h2
    generalize hp : (2 ^ e : Nat) = p at s1 s2 s3 hb h2 ih
    rw [num_Root.l0, if_pos (by omega), w64 (x := 25 - (26 - ((e + 1 : Nat) : Int))) (by omega) (by omega), show 25 - (26 - ((e + 1 : Nat) : Int)) = (e : Int) by omega, s1, if_pos (by omega), w64 (x := y + (p : Int)) (by omega) (by omega)]
    have hq : (y + (p : Int)) * (y + (p : Int)) ≤ 67108864 * 67108864 := sq_le (by omega) (by omega)
    have hq0 : 0 ≤ (y + (p : Int)) * (y + (p : Int)) := Int.mul_nonneg (by omega) (by omega)
    rw [w64 (x := (y + (p : Int)) * (y + (p : Int))) (by omega) (by omega), w64 (x := 26 - ((e + 1 : Nat) : Int) + 1) (by omega) (by omega), show 26 - ((e + 1 : Nat) : Int) + 1 = 26 - (e : Int) by omega]
    rw [show y + ((2 * p : Nat) : Int) = y + (p : Int) + (p : Int) by omega] at h2
    by_cases hc : (y + (p : Int)) * (y + (p : Int)) ≤ x
    · rw [if_pos hc]
      exact ih k (y + (p : Int)) (by omega) (by omega) (by omega) (by omega) hc h2
    · rw [if_neg hc]
      exact ih k y (by omega) (by omega) hy (by omega) h1 (by omega)
/-- The root of a number, as the package takes it. -/
def rt (x : Int) : Int := ((num_Root.f 100 x).getD (0, 0)).1
theorem root_ex (k : Nat) (hk : 40 ≤ k) (x : Int) (h0 : 0 ≤ x) (h1 : x ≤ 1125899906842624) : ∃ r, IsRt x r ∧ num_Root.f k x = some (r, 0) := by
  obtain ⟨k, rfl⟩ : ∃ m, k = m + 1 := ⟨k - 1, by omega⟩
  unfold num_Root.f
  rw [if_neg (by omega), decide_eq_false (by omega), num_Root.j0, if_neg (by simp)]
  exact rt_l0 x h0 26 k 0 (by omega) (by omega) (by omega) (by decide) (by omega) (by have : ((0 : Int) + ((2 ^ 26 : Nat) : Int)) * (0 + ((2 ^ 26 : Nat) : Int)) = 4503599627370496 := (by decide); omega)
theorem rt_is (x : Int) (h0 : 0 ≤ x) (h1 : x ≤ 1125899906842624) : IsRt x (rt x) := by
  obtain ⟨r, hr, he⟩ := root_ex 100 (by omega) x h0 h1
  unfold rt
  rw [he]
  exact hr
theorem root_f (k : Nat) (hk : 40 ≤ k) (x : Int) (h0 : 0 ≤ x) (h1 : x ≤ 1125899906842624) : num_Root.f k x = some (rt x, 0) := by
  obtain ⟨r, hr, he⟩ := root_ex k hk x h0 h1
  rw [he, rt_unique hr (rt_is x h0 h1)]
end Go.Proofs.Ytmdmajfgpmopbaa.Fl
