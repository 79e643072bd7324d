/- math/bits.Div64 divides: Knuth's two digits. -/
import Derived.Laws.BitsAllLaws
import Derived.Test.YtekbeaogiagidaaShLen
import Derived.Test.YtekbeaogiagidaaX9
namespace Go.Proofs.Ytekbeaogiagidaa.Sh
open Go.RowKit Go.Proofs.YtekbeaogiagidaaW.PrintWords Go.Proofs.Ytekbeaogiagidaa.X
set_option linter.unusedVariables false
set_option linter.unusedSimpArgs false
/-- A digit: what is known of it. -/
structure Dig (Y y1 y0 u c : Int) : Prop where
  hY : Y = y1 * 4294967296 + y0
  a1 : 2147483648 ≤ y1
  a2 : y1 < 4294967296
  b1 : 0 ≤ y0
  b2 : y0 < 4294967296
  u0 : 0 ≤ u
  u1 : u < Y
  c0 : 0 ≤ c
  c1 : c < 4294967296
theorem Dig.pos {Y y1 y0 u c : Int} (h : Dig Y y1 y0 u c) : 0 < Y := by have := h.u0; have := h.u1; omega
theorem Dig.lt {Y y1 y0 u c : Int} (h : Dig Y y1 y0 u c) : (u * 4294967296 + c) / Y < 4294967296 := by
  refine Int.ediv_lt_of_lt_mul h.pos ?_
  have := h.u1; have := h.c1
  omega
theorem Dig.nonneg {Y y1 y0 u c : Int} (h : Dig Y y1 y0 u c) : 0 ≤ (u * 4294967296 + c) / Y := Int.ediv_nonneg (by have := h.u0; have := h.c0; omega) (by have := h.pos; omega)
theorem dig_mul (q y1 y0 r u Y : Int) (hY : Y = y1 * 4294967296 + y0) (hq : q * y1 + r = u) : q * Y = u * 4294967296 - r * 4294967296 + q * y0 := by
  subst hY
  subst hq
  grind
/-- The test says that the digit is too great. -/
theorem Dig.big {Y y1 y0 u c q r : Int} (h : Dig Y y1 y0 u c) (hq : q * y1 + r = u) (ht : 4294967296 ≤ q ∨ 4294967296 * r + c < q * y0) : (u * 4294967296 + c) / Y ≤ q - 1 := by
  rcases ht with ht | ht
  · have := h.lt; omega
  · have := dig_mul q y1 y0 r u Y h.hY hq
    have : (u * 4294967296 + c) / Y < q := Int.ediv_lt_of_lt_mul h.pos (by omega)
    omega
/-- The test lets it stand. -/
theorem Dig.fit {Y y1 y0 u c q r : Int} (h : Dig Y y1 y0 u c) (hq : q * y1 + r = u) (hle : (u * 4294967296 + c) / Y ≤ q) (ht : q * y0 ≤ 4294967296 * r + c) : q = (u * 4294967296 + c) / Y := by
  have := dig_mul q y1 y0 r u Y h.hY hq
  have : q ≤ (u * 4294967296 + c) / Y := Int.le_ediv_of_mul_le h.pos (by omega)
  omega
theorem Dig.stop {Y y1 y0 u c q r : Int} (h : Dig Y y1 y0 u c) (hq : q * y1 + r = u) (hle : (u * 4294967296 + c) / Y ≤ q) (hr : 4294967296 ≤ r) (hq1 : q ≤ 4294967296) (hq0 : 0 ≤ q) : q = (u * 4294967296 + c) / Y := by
  refine h.fit hq hle ?_
  have h1 : q * y0 ≤ 4294967296 * 4294967296 := Int.mul_le_mul hq1 (by have := h.b2; omega) h.b1 (by omega)
  have := h.c0
  omega
theorem Dig.first {Y y1 y0 u c : Int} (h : Dig Y y1 y0 u c) : u / y1 ≤ 4294967297 ∧ 0 ≤ u / y1 ∧ (u * 4294967296 + c) / Y ≤ u / y1 ∧ u / y1 * y1 + u % y1 = u ∧ 0 ≤ u % y1 ∧ u % y1 < 4294967296 := by
  have hp : 0 < y1 := by have := h.a1; omega
  have e : u / y1 * y1 + u % y1 = u := by have := Int.mul_ediv_add_emod u y1; rw [Int.mul_comm] at this; exact this
  have r0 := Int.emod_nonneg u (show y1 ≠ 0 by omega)
  have r1 := Int.emod_lt_of_pos u hp
  have q0 : 0 ≤ u / y1 := Int.ediv_nonneg h.u0 (by omega)
  refine ⟨?_, q0, ?_, e, r0, by have := h.a2; omega⟩
  · have : u / y1 < 4294967298 := Int.ediv_lt_of_lt_mul hp (by have := h.u1; have := h.hY; have := h.b2; have := h.a1; omega)
    omega
  · have hm := dig_mul (u / y1) y1 y0 (u % y1) u Y h.hY e
    have hn : 0 ≤ u / y1 * y0 := Int.mul_nonneg q0 h.b1
    have : (u * 4294967296 + c) / Y < u / y1 + 1 := Int.ediv_lt_of_lt_mul h.pos (by
      rw [Int.add_mul, hm, Int.one_mul]
      have h3 : (u % y1 + 1) * 4294967296 ≤ y1 * 4294967296 := Int.mul_le_mul_of_nonneg_right (by omega) (by omega)
      have := h.hY; have := h.b1; have := h.c1
      omega)
    omega
theorem wr (x : Int) : IntKind.u64.wrap x = x % 18446744073709551616 := IntKind.wrap_u64 x
theorem wr_in (x : Int) (h0 : 0 ≤ x) (h1 : x < 18446744073709551616) : IntKind.u64.wrap x = x := by rw [wr]; omega
/-- What is left of a digit, as the machine forms it. -/
theorem left_wr (u c q Y v : Int) (e : u * 4294967296 + c - q * Y = v) (h0 : 0 ≤ v) (h1 : v < 18446744073709551616) : IntKind.u64.wrap (IntKind.u64.wrap (IntKind.u64.wrap (u * 4294967296) + c) - IntKind.u64.wrap (q * Y)) = v := by
  rw [wr, wr, wr, wr]
  generalize q * Y = p at e ⊢
  omega
theorem Dig.left {Y y1 y0 u c : Int} (h : Dig Y y1 y0 u c) : ∃ v, u * 4294967296 + c - (u * 4294967296 + c) / Y * Y = v ∧ 0 ≤ v ∧ v < Y ∧ v < 18446744073709551616 ∧ v = (u * 4294967296 + c) % Y := by
  refine ⟨_, rfl, ?_⟩
  have e := Int.mul_ediv_add_emod (u * 4294967296 + c) Y
  rw [Int.mul_comm] at e
  have r0 := Int.emod_nonneg (u * 4294967296 + c) (show Y ≠ 0 by have := h.pos; omega)
  have r1 := Int.emod_lt_of_pos (u * 4294967296 + c) h.pos
  have : Y < 18446744073709551616 := by have := h.hY; have := h.a2; have := h.b2; omega
  omega
/-- The test as the machine forms it. -/
theorem Dig.test {Y y1 y0 u c q r : Int} (h : Dig Y y1 y0 u c) (hq0 : 0 ≤ q) (hq : q < 4294967296) (r0 : 0 ≤ r) (r1 : r < 4294967296) : (IntKind.u64.wrap (q * y0) > IntKind.u64.wrap (IntKind.u64.wrap (4294967296 * r) + c)) ↔ (4294967296 * r + c < q * y0) := by
  have h0 : 0 ≤ q * y0 := Int.mul_nonneg hq0 h.b1
  have h1 : q * y0 ≤ 4294967295 * 4294967295 := Int.mul_le_mul (by omega) (by have := h.b2; omega) h.b1 (by omega)
  have := h.c0; have := h.c1
  rw [wr_in (q * y0) h0 (by omega), wr_in (4294967296 * r) (by omega) (by omega), wr_in (4294967296 * r + c) (by omega) (by omega)]
/-- The first digit's loop. -/
theorem l0_ok {Y s y1 y0 u c un0 : Int} (h : Dig Y y1 y0 u c) (res : Int × Int) : ∀ (n K : Nat) (q r : Int), q * y1 + r = u → 0 ≤ r → r < 4294967296 → 0 ≤ q → q ≤ 4294967297 → (u * 4294967296 + c) / Y ≤ q → 4294967296 ≤ r + (n : Int) * 2147483648 →
    (∀ d, bits_Div64.j2 (K + d) Y s y1 y0 u c un0 ((u * 4294967296 + c) / Y) = some res) → bits_Div64.l0 (K + 2 * n) Y s y1 y0 u c un0 q r = some res
  | 0, K, q, r, hq, r0, r1, q0, q1, hle, hn, hj => by omega
  | n + 1, K, q, r, hq, r0, r1, q0, q1, hle, hn, hj => by
    have a1 := h.a1
    have a2 := h.a2
    rw [show K + 2 * (n + 1) = K + 2 * n + 1 + 1 by omega]
    have e1 : bits_Div64.l0 (K + 2 * n + 1 + 1) Y s y1 y0 u c un0 q r = bits_Div64.j1 (K + 2 * n + 1) Y s y1 y0 u c un0 q r (decide (4294967296 ≤ q ∨ 4294967296 * r + c < q * y0)) := by
      rw [bits_Div64.l0]
      by_cases hg : q ≥ 4294967296
      · rw [if_pos hg, decide_eq_true (.inl hg)]
      · rw [if_neg hg]
        congr 1
        rw [decide_eq_decide, h.test q0 (by omega) r0 r1]
        exact ⟨fun x => .inr x, fun x => x.resolve_left hg⟩
    rw [e1, bits_Div64.j1]
    by_cases ht : 4294967296 ≤ q ∨ 4294967296 * r + c < q * y0
    · have hb := h.big hq ht
      have h0 := h.nonneg
      have hq' : (q - 1) * y1 + (r + y1) = u := by rw [Int.sub_mul]; omega
      rw [decide_eq_true ht, if_pos rfl, wr_in (q - 1) (by omega) (by omega), wr_in (r + y1) (by omega) (by omega)]
      by_cases hr : r + y1 ≥ 4294967296
      · rw [if_pos hr, h.stop hq' hb hr (by omega) (by omega)]
        exact hj (2 * n)
      · rw [if_neg hr]
        exact l0_ok h res n K (q - 1) (r + y1) hq' (by omega) (by omega) (by omega) (by omega) hb (by push_cast at hn; omega) hj
    · rw [decide_eq_false ht, if_neg (by decide), h.fit hq hle (by omega)]
      exact hj (2 * n)
/-- What the second digit's loop gives. -/
def fin (Y s v c Q1 Q0 : Int) : Int × Int := (IntKind.u64.wrap (IntKind.u64.wrap (Q1 * 4294967296) + Q0), shr .u64 (IntKind.u64.wrap (IntKind.u64.wrap (IntKind.u64.wrap (v * 4294967296) + c) - IntKind.u64.wrap (Q0 * Y))) s)
/-- The second digit's loop. -/
theorem l1_ok {Y s y1 y0 u c Q1 : Int} (hs : 0 ≤ s) (h : Dig Y y1 y0 u c) : ∀ (n K : Nat) (q r : Int), q * y1 + r = u → 0 ≤ r → r < 4294967296 → 0 ≤ q → q ≤ 4294967297 → (u * 4294967296 + c) / Y ≤ q → 4294967296 ≤ r + (n : Int) * 2147483648 →
    bits_Div64.l1 (K + 2 * n) Y s y1 y0 c Q1 r u q = some (fin Y s u c Q1 ((u * 4294967296 + c) / Y))
  | 0, K, q, r, hq, r0, r1, q0, q1, hle, hn => by omega
  | n + 1, K, q, r, hq, r0, r1, q0, q1, hle, hn => by
    have a1 := h.a1
    have a2 := h.a2
    rw [show K + 2 * (n + 1) = K + 2 * n + 1 + 1 by omega]
    have e1 : bits_Div64.l1 (K + 2 * n + 1 + 1) Y s y1 y0 c Q1 r u q = bits_Div64.j4 (K + 2 * n + 1) Y s y1 y0 c Q1 r u q (decide (4294967296 ≤ q ∨ 4294967296 * r + c < q * y0)) := by
      rw [bits_Div64.l1]
      by_cases hg : q ≥ 4294967296
      · rw [if_pos hg, decide_eq_true (.inl hg)]
      · rw [if_neg hg]
        congr 1
        rw [decide_eq_decide, h.test q0 (by omega) r0 r1]
        exact ⟨fun x => .inr x, fun x => x.resolve_left hg⟩
    rw [e1, bits_Div64.j4]
    by_cases ht : 4294967296 ≤ q ∨ 4294967296 * r + c < q * y0
    · have hb := h.big hq ht
      have h0 := h.nonneg
      have hq' : (q - 1) * y1 + (r + y1) = u := by rw [Int.sub_mul]; omega
      rw [decide_eq_true ht, if_pos rfl, wr_in (q - 1) (by omega) (by omega), wr_in (r + y1) (by omega) (by omega)]
      by_cases hr : r + y1 ≥ 4294967296
      · rw [if_pos hr, if_pos hs, h.stop hq' hb hr (by omega) (by omega)]
        rfl
      · rw [if_neg hr]
        exact l1_ok hs h n K (q - 1) (r + y1) hq' (by omega) (by omega) (by omega) (by omega) hb (by push_cast at hn; omega)
    · rw [decide_eq_false ht, if_neg (by decide), if_pos hs, h.fit hq hle (by omega)]
      rfl
/-- From the first digit on: the second. -/
theorem j2_ok {Y s y1 y0 u c un0 : Int} (hs : 0 ≤ s) (h : Dig Y y1 y0 u c) (d0 : 0 ≤ un0) (d1 : un0 < 4294967296) (K : Nat) : bits_Div64.j2 (K + 5) Y s y1 y0 u c un0 ((u * 4294967296 + c) / Y) = some (fin Y s ((u * 4294967296 + c) % Y) un0 ((u * 4294967296 + c) / Y) (((u * 4294967296 + c) % Y * 4294967296 + un0) / Y)) := by
  obtain ⟨v, e, v0, v1, v2, ev⟩ := h.left
  have h2 : Dig Y y1 y0 v un0 := ⟨h.hY, h.a1, h.a2, h.b1, h.b2, v0, v1, d0, d1⟩
  obtain ⟨f1, f2, f3, f4, f5, f6⟩ := h2.first
  have hp : 0 < y1 := by have := h.a1; omega
  have a2 := h.a2
  have t1 : Int.tdiv v y1 = v / y1 := Int.tdiv_eq_ediv_of_nonneg v0
  have e3 : 0 ≤ v / y1 * y1 := Int.mul_nonneg f2 (by omega)
  have e2 : v / y1 * y1 = v - v % y1 := by omega
  have := l1_ok (Q1 := (u * 4294967296 + c) / Y) hs h2 2 K (v / y1) (v % y1) f4 f5 f6 f2 f1 f3 (by omega)
  rw [bits_Div64.j2, if_neg (by omega), left_wr _ _ _ _ _ e v0 v2, t1, wr_in (v / y1) f2 (by omega), e2, wr_in (v - v % y1) (by omega) (by omega), wr_in (v - (v - v % y1)) (by omega) (by omega), show v - (v - v % y1) = v % y1 by omega, ← ev]
  exact this
/-- Numbers below 2^i and multiples of it have no bit in common. -/
theorem or_add (a b : Int) (s : Nat) (ha : 0 ≤ a) (hb : 0 ≤ b) (hb1 : b < 2 ^ s) (h : a * 2 ^ s + b < 18446744073709551616) : Go.bits .or .u64 (a * 2 ^ s) b = a * 2 ^ s + b := by
  have hp : (0 : Int) < 2 ^ s := Int.pow_pos (by omega)
  have h0 : 0 ≤ a * 2 ^ s := Int.mul_nonneg ha (by omega)
  rw [u64_or _ _ h0 (by omega) hb (by omega)]
  obtain ⟨x, rfl⟩ : ∃ x : Nat, a = (x : Int) := ⟨a.toNat, by omega⟩
  obtain ⟨y, rfl⟩ : ∃ y : Nat, b = (y : Int) := ⟨b.toNat, by omega⟩
  have e : (x : Int) * 2 ^ s = ((x * 2 ^ s : Nat) : Int) := by push_cast; rfl
  have hy : y < 2 ^ s := by
    have : (y : Int) < ((2 ^ s : Nat) : Int) := by push_cast; exact hb1
    exact Int.ofNat_lt.mp this
  rw [e, Int.toNat_natCast, Int.toNat_natCast, ← Nat.shiftLeft_eq, ← Nat.shiftLeft_add_eq_or_of_lt hy, Nat.shiftLeft_eq]
  push_cast
  rfl
/-- A product of 128 bits, shifted. -/
theorem shift_parts (lo : Int) (s : Nat) (hs : s ≤ 64) (h0 : 0 ≤ lo) (h1 : lo < 18446744073709551616) : lo * 2 ^ s = lo / 2 ^ (64 - s) * 18446744073709551616 + lo * 2 ^ s % 18446744073709551616 ∧ 0 ≤ lo / 2 ^ (64 - s) ∧ lo / 2 ^ (64 - s) < 2 ^ s := by
  have hp : (0 : Int) < 2 ^ s := Int.pow_pos (by omega)
  have hp2 : (0 : Int) < 2 ^ (64 - s) := Int.pow_pos (by omega)
  have e : (2 : Int) ^ (64 - s) * 2 ^ s = 18446744073709551616 := by rw [← Int.pow_add, show 64 - s + s = 64 by omega]; rfl
  have e2 : lo * 2 ^ s / 18446744073709551616 = lo / 2 ^ (64 - s) := by rw [← e]; exact Int.mul_ediv_mul_of_pos_left _ _ hp
  have := Int.mul_ediv_add_emod (lo * 2 ^ s) 18446744073709551616
  rw [e2, Int.mul_comm] at this
  refine ⟨this.symm, Int.ediv_nonneg h0 (by omega), Int.ediv_lt_of_lt_mul hp2 ?_⟩
  rw [Int.mul_comm, e]
  exact h1
end Go.Proofs.Ytekbeaogiagidaa.Sh
