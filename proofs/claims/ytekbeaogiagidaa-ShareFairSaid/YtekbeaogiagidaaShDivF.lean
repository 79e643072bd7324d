/- math/bits.Div64 and Mul64 as functions of numbers. -/
import Derived.Test.YtekbeaogiagidaaX9
import Derived.Test.YtekbeaogiagidaaShDiv
import Derived.Test.YtekbeaogiagidaaX6
namespace Go.Proofs.Ytekbeaogiagidaa.Sh
open Go.RowKit Go.Proofs.YtekbeaogiagidaaW.PrintWords Go.Proofs.Ytekbeaogiagidaa.X
set_option linter.unusedVariables false
set_option linter.unusedSimpArgs false
theorem shl_s (x : Int) (s : Nat) (h : s ≤ 64) : shl .u64 x (s : Int) = IntKind.u64.wrap (x * 2 ^ s) := by
  unfold shl
  rw [Int.toNat_natCast, Nat.min_eq_left (show s ≤ IntKind.u64.bits from h)]
theorem shr_s (x : Int) (s : Nat) (h : s ≤ 64) : shr .u64 x (s : Int) = x / 2 ^ s := by
  unfold shr
  rw [Int.toNat_natCast, Nat.min_eq_left (show s ≤ IntKind.u64.bits from h)]
/-- Two digits together. -/
theorem two_digits (u c d Y : Int) (hY : 0 < Y) : ((u * 4294967296 + c) * 4294967296 + d) / Y = (u * 4294967296 + c) / Y * 4294967296 + ((u * 4294967296 + c) % Y * 4294967296 + d) / Y ∧ ((u * 4294967296 + c) * 4294967296 + d) % Y = ((u * 4294967296 + c) % Y * 4294967296 + d) % Y := by
  generalize u * 4294967296 + c = A
  have e1 := Int.mul_ediv_add_emod A Y
  have e2 := Int.mul_ediv_add_emod (A % Y * 4294967296 + d) Y
  have r0 := Int.emod_nonneg (A % Y * 4294967296 + d) (show Y ≠ 0 by omega)
  have r1 := Int.emod_lt_of_pos (A % Y * 4294967296 + d) hY
  refine (Int.ediv_emod_unique hY).mpr ⟨?_, r0, r1⟩
  have e3 : Y * (A / Y * 4294967296 + (A % Y * 4294967296 + d) / Y) = Y * (A / Y) * 4294967296 + Y * ((A % Y * 4294967296 + d) / Y) := by rw [Int.mul_add, Int.mul_assoc]
  rw [e3]
  omega
set_option maxHeartbeats 1000000 in
theorem div_f (hi lo y : Int) (h0 : 0 < y) (h1 : y ≤ 1099511627776) (hh : 0 ≤ hi) (hy : hi < y) (l0 : 0 ≤ lo) (l1 : lo < 18446744073709551616) (k : Nat) : bits_Div64.f (k + 12) hi lo y = some ((hi * 18446744073709551616 + lo) / y, (hi * 18446744073709551616 + lo) % y) := by
  unfold bits_Div64.f
  rw [if_neg (by omega), if_neg (by omega)]
  by_cases hz : hi = 0
  · subst hz
    have q0 : 0 ≤ lo / y := Int.ediv_nonneg l0 (by omega)
    have q1 : lo / y ≤ lo := Int.ediv_le_self _ l0
    rw [if_pos rfl, Int.tdiv_eq_ediv_of_nonneg l0, Int.tmod_eq_emod_of_nonneg l0, wr_in _ q0 (by omega), show (0 : Int) * 18446744073709551616 + lo = lo by omega]
  · obtain ⟨yn, rfl⟩ : ∃ n : Nat, y = (n : Int) := ⟨y.toNat, by omega⟩
    obtain ⟨s, hs, s1, s2, b0, b1⟩ := lead_f yn (by omega) (by omega) (k + 11)
    have hp : (0 : Int) < 2 ^ s := Int.pow_pos (by omega)
    obtain ⟨p1, p2, p3⟩ := shift_parts lo s (by omega) l0 l1
    have ew : IntKind.u64.wrap (64 - (s : Int)) = ((64 - s : Nat) : Int) := by rw [wr_in _ (by omega) (by omega)]; omega
    have hm : (hi + 1) * 2 ^ s ≤ (yn : Int) * 2 ^ s := Int.mul_le_mul_of_nonneg_right (by omega) (by omega)
    rw [Int.add_mul, Int.one_mul] at hm
    have hn : 0 ≤ hi * 2 ^ s := Int.mul_nonneg hh (by omega)
    rw [if_neg hz, hs, Option.bind_some, wr_in (s : Int) (by omega) (by omega), ew, if_pos (by omega), if_pos (by omega), shl_s _ _ (by omega), shl_s _ _ (by omega), shl_s _ _ (by omega), shr_s _ _ (by omega), wr_in ((yn : Int) * 2 ^ s) (by omega) b1, wr_in (hi * 2 ^ s) hn (by omega), wr (lo * 2 ^ s), or_add hi _ s hh p2 p3 (by omega), and_low32 _ (by omega) b1, and_low32 _ (by omega) (by omega)]
    have hU : (hi * 18446744073709551616 + lo) * 2 ^ s = ((hi * 2 ^ s + lo / 2 ^ (64 - s)) * 4294967296 + lo * 2 ^ s % 18446744073709551616 / 4294967296) * 4294967296 + lo * 2 ^ s % 18446744073709551616 % 4294967296 := by
      rw [Int.add_mul, Int.mul_right_comm]
      omega
    have hD : (hi * 18446744073709551616 + lo) / (yn : Int) = (hi * 18446744073709551616 + lo) * 2 ^ s / ((yn : Int) * 2 ^ s) := (Int.mul_ediv_mul_of_pos_left _ _ hp).symm
    have hM : (hi * 18446744073709551616 + lo) % (yn : Int) * 2 ^ s = (hi * 18446744073709551616 + lo) * 2 ^ s % ((yn : Int) * 2 ^ s) := by
      rw [Int.mul_comm _ (2 ^ s), Int.mul_comm _ (2 ^ s), Int.mul_comm _ (2 ^ s)]
      exact (Int.mul_emod_mul_of_pos _ _ hp).symm
    have m0 : 0 ≤ lo * 2 ^ s % 18446744073709551616 := Int.emod_nonneg _ (by omega)
    have m1 : lo * 2 ^ s % 18446744073709551616 < 18446744073709551616 := Int.emod_lt_of_pos _ (by omega)
    generalize hYe : (yn : Int) * 2 ^ s = Y at *
    generalize lo * 2 ^ s % 18446744073709551616 = un10 at *
    generalize hue : hi * 2 ^ s + lo / 2 ^ (64 - s) = u at *
    have dg : Dig Y (Y / 4294967296) (Y % 4294967296) u (un10 / 4294967296) := ⟨by omega, by omega, by omega, by omega, by omega, by omega, by omega, by omega, by omega⟩
    obtain ⟨f1, f2, f3, f4, f5, f6⟩ := dg.first
    have g1 : IntKind.u64.wrap (Int.tdiv u (Y / 4294967296)) = u / (Y / 4294967296) := by
      rw [Int.tdiv_eq_ediv_of_nonneg dg.u0]; exact wr_in _ f2 (by omega)
    have f7 : 0 ≤ u / (Y / 4294967296) * (Y / 4294967296) := Int.mul_nonneg f2 (by omega)
    have g2 : IntKind.u64.wrap (u / (Y / 4294967296) * (Y / 4294967296)) = u - u % (Y / 4294967296) := by
      rw [wr_in _ f7 (by omega)]; omega
    have g3 : IntKind.u64.wrap (u - (u - u % (Y / 4294967296))) = u % (Y / 4294967296) := by
      rw [wr_in _ (by omega) (by omega)]; omega
    have dj := fun d => j2_ok (s := (s : Int)) (by omega) dg (un0 := un10 % 4294967296) (by omega) (by omega) (k + 3 + d)
    have c0 : ¬ Y / 4294967296 = 0 := by omega
    have hfit : 4294967296 ≤ u % (Y / 4294967296) + ((2 : Nat) : Int) * 2147483648 := by omega
    have s0 : (0 : Int) ≤ (s : Int) := by omega
    have run := l0_ok dg _ 2 (k + 8) (u / (Y / 4294967296)) (u % (Y / 4294967296)) f4 f5 f6 f2 f1 f3 hfit (fun d => by
      have := dj d
      rw [show k + 3 + d + 5 = k + 8 + d by omega] at this
      exact this)
    rw [g1, g2, g3, if_neg c0]
    refine run.trans ?_
    obtain ⟨w1, w2⟩ := two_digits u (un10 / 4294967296) (un10 % 4294967296) Y dg.pos
    rw [hD, hU, w1]
    rw [hU, w2] at hM
    have dg2 : Dig Y (Y / 4294967296) (Y % 4294967296) ((u * 4294967296 + un10 / 4294967296) % Y) (un10 % 4294967296) := ⟨dg.hY, dg.a1, dg.a2, dg.b1, dg.b2, Int.emod_nonneg _ (by omega), Int.emod_lt_of_pos _ dg.pos, by omega, by omega⟩
    obtain ⟨v, e, v0, v1, v2, ev⟩ := dg2.left
    have x0 := dg.nonneg
    have x1 := dg.lt
    have x2 := dg2.nonneg
    have x3 := dg2.lt
    unfold fin
    rw [left_wr _ _ _ _ _ e v0 v2, wr_in (_ * 4294967296) (by omega) (by omega), wr_in (_ + _) (by omega) (by omega), shr_s _ _ (by omega), ev, ← hM, Int.mul_ediv_cancel _ (show (2 : Int) ^ s ≠ 0 by omega)]
theorem mul_f (a b : Int) (a0 : 0 ≤ a) (a1 : a < 18446744073709551616) (b0 : 0 ≤ b) (b1 : b < 18446744073709551616) : bits_Mul64.f a b = some (a * b / 18446744073709551616, a * b % 18446744073709551616) := by
  unfold bits_Mul64.f
  have h := mul64_arith a b a0 a1 b0 b1
  rw [and_low32 a a0 a1, and_low32 b b0 b1]
  simp only [wr]
  rw [and_low32 _ (Int.emod_nonneg _ (by omega)) (Int.emod_lt_of_pos _ (by omega)), h]
end Go.Proofs.Ytekbeaogiagidaa.Sh
