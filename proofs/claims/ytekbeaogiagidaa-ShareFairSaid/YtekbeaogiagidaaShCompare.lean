/- num.Compare compares the products of two pairs of numbers. -/
import Derived.Test.YtekbeaogiagidaaX35
import Derived.Test.YtekbeaogiagidaaX34
import Derived.Test.YtekbeaogiagidaaX33
import Derived.Test.YtekbeaogiagidaaX1
import Derived.Test.YtekbeaogiagidaaShStages
import Derived.Test.YtekbeaogiagidaaX36
namespace Go.Proofs.Ytekbeaogiagidaa.Sh
open Go.RowKit Go.Proofs.YtekbeaogiagidaaW.PrintWords Go.Proofs.Ytekbeaogiagidaa.X
set_option linter.unusedVariables false
set_option linter.unusedSimpArgs false
/-- A product in two parts: what they are. -/
theorem parts_mul (x y : Int) : (x / 33554432 * (y / 33554432) + (x / 33554432 * (y % 33554432) + x % 33554432 * (y / 33554432)) / 33554432 + (x % 33554432 * (y % 33554432) + (x / 33554432 * (y % 33554432) + x % 33554432 * (y / 33554432)) % 33554432 * 33554432) / 1125899906842624) * 1125899906842624 + (x % 33554432 * (y % 33554432) + (x / 33554432 * (y % 33554432) + x % 33554432 * (y / 33554432)) % 33554432 * 33554432) % 1125899906842624 = x * y := by
  have ex : x = x / 33554432 * 33554432 + x % 33554432 := by omega
  have ey : y = y / 33554432 * 33554432 + y % 33554432 := by omega
  have e : x * y = x / 33554432 * (y / 33554432) * 1125899906842624 + (x / 33554432 * (y % 33554432) + x % 33554432 * (y / 33554432)) * 33554432 + x % 33554432 * (y % 33554432) := by
    generalize x / 33554432 = p1 at *
    generalize x % 33554432 = p0 at *
    generalize y / 33554432 = q1 at *
    generalize y % 33554432 = q0 at *
    subst ex
    subst ey
    grind
  rw [e]
  generalize x / 33554432 * (y / 33554432) = A
  generalize x / 33554432 * (y % 33554432) + x % 33554432 * (y / 33554432) = B
  generalize x % 33554432 * (y % 33554432) = C
  omega
/-- A signed product: its sign and its two parts. -/
structure Wide (v s h l : Int) : Prop where
  l0 : 0 ≤ l
  l1 : l < 1125899906842624
  h0 : 0 ≤ h
  v : v = s * (h * 1125899906842624 + l)
  s : (s = -1 ∧ 0 < h * 1125899906842624 + l) ∨ (s = 0 ∧ h = 0 ∧ l = 0) ∨ (s = 1 ∧ 0 < h * 1125899906842624 + l)
theorem abs_f (a : Int) (h0 : -1125899906842624 ≤ a) (h1 : a ≤ 1125899906842624) : num_abs.f a = some (if a < 0 then -a else a) := by
  unfold num_abs.f
  rw [wrap_in _ (by omega) (by omega)]
  unfold mx
  split <;> split <;> first | rfl | omega | (congr 1; omega)
theorem abs_mul (a b : Int) : (if a < 0 then -a else a) * (if b < 0 then -b else b) = if (decide (a < 0) != decide (b < 0)) = true then -(a * b) else a * b := by
  by_cases ha : a < 0 <;> by_cases hb : b < 0 <;> simp [ha, hb, Int.neg_mul, Int.mul_neg]
theorem times_f (a b : Int) (a0 : -1125899906842624 ≤ a) (a1 : a ≤ 1125899906842624) (b0 : -1125899906842624 ≤ b) (b1 : b ≤ 1125899906842624) (k : Nat) : ∃ s h l, num_times.f (k + 1) a b = some (s, h, l) ∧ Wide (a * b) s h l := by
  unfold num_times.f
  rw [abs_f a a0 a1, Option.bind_some, abs_f b b0 b1, Option.bind_some]
  have hm := abs_mul a b
  have x0 : 0 ≤ (if a < 0 then -a else a) ∧ (if a < 0 then -a else a) ≤ 1125899906842624 ∧ ((if a < 0 then -a else a) = 0 ↔ a = 0) := by split <;> omega
  have y0 : 0 ≤ (if b < 0 then -b else b) ∧ (if b < 0 then -b else b) ≤ 1125899906842624 ∧ ((if b < 0 then -b else b) = 0 ↔ b = 0) := by split <;> omega
  generalize (if a < 0 then -a else a) = x at hm x0 ⊢
  generalize (if b < 0 then -b else b) = y at hm y0 ⊢
  obtain ⟨x0, x1, x2⟩ := x0
  obtain ⟨y0, y1, y2⟩ := y0
  have z : ∀ c : Bool, c = true → a * b = 0 → ∃ s h l, num_times.j0 (k + 1) a b x y c = some (s, h, l) ∧ Wide (a * b) s h l := fun c e e0 => by
    subst e
    exact ⟨0, 0, 0, by rw [num_times.j0, if_pos rfl], ⟨by omega, by omega, by omega, by rw [e0]; rfl, .inr (.inl ⟨rfl, rfl, rfl⟩)⟩⟩
  by_cases hx : x = 0
  · rw [if_pos hx]
    exact z _ rfl (by rw [x2.mp hx, Int.zero_mul])
  · rw [if_neg hx]
    by_cases hy : y = 0
    · exact z _ (by simp [hy]) (by rw [y2.mp hy, Int.mul_zero])
    · have e : (y == 0) = false := by simp [hy]
      have pos : 0 < x * y := Int.mul_pos (by omega) (by omega)
      have t1 : Int.tdiv x 33554432 = x / 33554432 := Int.tdiv_eq_ediv_of_nonneg x0
      have t2 : Int.tdiv y 33554432 = y / 33554432 := Int.tdiv_eq_ediv_of_nonneg y0
      have t3 : Int.tmod x 33554432 = x % 33554432 := Int.tmod_eq_emod_of_nonneg x0
      have t4 : Int.tmod y 33554432 = y % 33554432 := Int.tmod_eq_emod_of_nonneg y0
      have pm := parts_mul x y
      have p1 : 0 ≤ x / 33554432 ∧ x / 33554432 ≤ 33554432 := by omega
      have p0 : 0 ≤ x % 33554432 ∧ x % 33554432 ≤ 33554432 := by omega
      have q1 : 0 ≤ y / 33554432 ∧ y / 33554432 ≤ 33554432 := by omega
      have q0 : 0 ≤ y % 33554432 ∧ y % 33554432 ≤ 33554432 := by omega
      have bd : ∀ u v : Int, 0 ≤ u ∧ u ≤ 33554432 → 0 ≤ v ∧ v ≤ 33554432 → 0 ≤ u * v ∧ u * v ≤ 1125899906842624 := fun u v hu hv => ⟨Int.mul_nonneg hu.1 hv.1, by
        have := Int.mul_le_mul hu.2 hv.2 hv.1 (show (0 : Int) ≤ 33554432 by omega)
        omega⟩
      have m1 := bd _ _ p1 q1
      have m2 := bd _ _ p1 q0
      have m3 := bd _ _ p0 q1
      have m4 := bd _ _ p0 q0
      rw [e, num_times.j0, if_neg (by decide), t1, t2, t3, t4]
      rw [wrap_in (x / 33554432) (by omega) (by omega), wrap_in (y / 33554432) (by omega) (by omega)]
      clear t1 t2 t3 t4 p1 p0 q1 q0 bd x2 y2
      generalize x / 33554432 * (y / 33554432) = A at m1 pm ⊢
      generalize x / 33554432 * (y % 33554432) = B1 at m2 pm ⊢
      generalize x % 33554432 * (y / 33554432) = B2 at m3 pm ⊢
      generalize x % 33554432 * (y % 33554432) = C at m4 pm ⊢
      have t5 : Int.tdiv (B1 + B2) 33554432 = (B1 + B2) / 33554432 := Int.tdiv_eq_ediv_of_nonneg (by omega)
      have t6 : Int.tmod (B1 + B2) 33554432 = (B1 + B2) % 33554432 := Int.tmod_eq_emod_of_nonneg (by omega)
      rw [wrap_in A (by omega) (by omega), wrap_in B1 (by omega) (by omega), wrap_in B2 (by omega) (by omega), wrap_in C (by omega) (by omega), wrap_in (B1 + B2) (by omega) (by omega), t5, t6]
      have d0 : 0 ≤ (B1 + B2) / 33554432 ∧ (B1 + B2) / 33554432 ≤ 2251799813685248 := by omega
      have d1 : 0 ≤ (B1 + B2) % 33554432 ∧ (B1 + B2) % 33554432 < 33554432 := by omega
      clear t5 t6
      generalize (B1 + B2) / 33554432 = D at d0 pm ⊢
      generalize (B1 + B2) % 33554432 = E at d1 pm ⊢
      have t7 : Int.tdiv (C + E * 33554432) 1125899906842624 = (C + E * 33554432) / 1125899906842624 := Int.tdiv_eq_ediv_of_nonneg (by omega)
      have t8 : Int.tmod (C + E * 33554432) 1125899906842624 = (C + E * 33554432) % 1125899906842624 := Int.tmod_eq_emod_of_nonneg (by omega)
      rw [wrap_in D (by omega) (by omega), wrap_in (A + D) (by omega) (by omega), wrap_in (E * 33554432) (by omega) (by omega), wrap_in (C + E * 33554432) (by omega) (by omega), t7, t8]
      have f0 : 0 ≤ (C + E * 33554432) / 1125899906842624 ∧ (C + E * 33554432) / 1125899906842624 ≤ 4 := by omega
      have f1 : 0 ≤ (C + E * 33554432) % 1125899906842624 ∧ (C + E * 33554432) % 1125899906842624 < 1125899906842624 := by omega
      clear t7 t8
      generalize (C + E * 33554432) / 1125899906842624 = F at f0 pm ⊢
      generalize (C + E * 33554432) % 1125899906842624 = G at f1 pm ⊢
      rw [wrap_in F (by omega) (by omega), wrap_in (A + D + F) (by omega) (by omega)]
      by_cases hd : (decide (a < 0) != decide (b < 0)) = true
      · rw [if_pos hd] at hm ⊢
        exact ⟨_, _, _, rfl, ⟨f1.1, f1.2, by omega, by omega, .inl ⟨rfl, by omega⟩⟩⟩
      · rw [if_neg hd] at hm ⊢
        exact ⟨_, _, _, rfl, ⟨f1.1, f1.2, by omega, by omega, .inr (.inr ⟨rfl, by omega⟩)⟩⟩
/-- The order of two numbers. -/
def cz (x y : Int) : Int := if x < y then -1 else if x > y then 1 else 0
theorem order_f (x y : Int) : num_order.f x y = some (cz x y) := by
  unfold num_order.f cz
  split
  · rfl
  · split <;> rfl
theorem small_f (l : List Int) (hl : l.length ≤ 100) (h : ∀ x ∈ l, -1125899906842624 ≤ x ∧ x ≤ 1125899906842624) : ∀ (d i k : Nat), i + d = l.length → 1 + d ≤ k → num_small.l0 k l (l.length : Int) (i : Int) = some true
  | 0, i, k, hi, hk => by
    obtain ⟨k, rfl⟩ : ∃ k', k = k' + 1 := ⟨k - 1, by omega⟩
    rw [num_small.l0, if_neg (by omega)]
  | d + 1, i, k, hi, hk => by
    obtain ⟨k, rfl⟩ : ∃ k', k = k' + 1 := ⟨k - 1, by omega⟩
    have c1 : (i : Int) < (l.length : Int) := by omega
    have b2 : -9223372036854775808 ≤ (i : Int) + 1 ∧ (i : Int) + 1 ≤ 9223372036854775807 := by omega
    have hr : rd l (i : Int) ∈ l := by
      unfold rd
      rw [Int.toNat_natCast, List.getD_eq_getElem?_getD, List.getElem?_eq_getElem (show i < l.length by omega)]
      exact List.getElem_mem _
    have hx := h _ hr
    have ih := small_f l hl h d (i + 1) k (by omega) (by omega)
    push_cast at ih
    rw [num_small.l0, if_pos c1, if_pos (Int.natCast_nonneg _), if_pos c1, if_neg (by omega), if_neg (by omega), wrap_in _ b2.1 b2.2]
    exact ih
theorem compare_f (a b c d : Int) (ha : -1125899906842624 ≤ a ∧ a ≤ 1125899906842624) (hb : -1125899906842624 ≤ b ∧ b ≤ 1125899906842624) (hc : -1125899906842624 ≤ c ∧ c ≤ 1125899906842624) (hd : -1125899906842624 ≤ d ∧ d ≤ 1125899906842624) (k : Nat) (hk : 10 ≤ k) : ∃ r, num_Compare.f k a b c d = some (r, 0) ∧ (a * b < c * d → r < 0) ∧ (c * d < a * b → 0 < r) := by
  obtain ⟨j, rfl⟩ : ∃ j, k = j + 1 := ⟨k - 1, by omega⟩
  obtain ⟨s1, h1, l1, e1, w1⟩ := times_f a b ha.1 ha.2 hb.1 hb.2 j
  obtain ⟨s2, h2, l2, e2, w2⟩ := times_f c d hc.1 hc.2 hd.1 hd.2 j
  have hs : num_small.f (j + 1) [a, b, c, d] = some true := by
    unfold num_small.f
    exact small_f [a, b, c, d] (by simp) (fun x hx => by
      simp only [List.mem_cons, List.not_mem_nil, or_false] at hx
      rcases hx with rfl | rfl | rfl | rfl
      · exact ha
      · exact hb
      · exact hc
      · exact hd) 4 0 (j + 1) (by simp) (by omega)
  have v1 := w1.v
  have v2 := w2.v
  have a1 := w1.l0
  have a2 := w1.l1
  have a3 := w1.h0
  have b1 := w2.l0
  have b2 := w2.l1
  have b3 := w2.h0
  generalize a * b = P at v1
  generalize c * d = R at v2
  unfold num_Compare.f
  rw [hs, Option.bind_some, if_pos rfl, e1, Option.bind_some, e2, Option.bind_some]
  show ∃ r, (if s1 = s2 then (if h1 = h2 then ((num_order.f l1 l2).bind fun t310 => (some (wrap64 (s1 * t310), 0))) else ((num_order.f h1 h2).bind fun t311 => (some (wrap64 (s1 * t311), 0)))) else ((num_order.f s1 s2).bind fun t309 => (some (t309, 0)))) = some (r, 0) ∧ _
  rw [order_f, order_f, order_f, Option.bind_some, Option.bind_some, Option.bind_some]
  have hw : ∀ s x y : Int, (s = -1 ∨ s = 0 ∨ s = 1) → wrap64 (s * cz x y) = s * cz x y := fun s x y hs => by
    unfold cz
    rcases hs with rfl | rfl | rfl <;> split <;> (try split) <;> decide +kernel
  have hss : s1 = -1 ∨ s1 = 0 ∨ s1 = 1 := by rcases w1.s with h | h | h <;> omega
  rw [hw _ _ _ hss, hw _ _ _ hss]
  by_cases g1 : s1 = s2
  · rw [if_pos g1]
    by_cases g2 : h1 = h2
    · rw [if_pos g2]
      refine ⟨_, rfl, ?_⟩
      unfold cz
      rcases w1.s with h | h | h <;> rcases w2.s with g | g | g <;> (first | omega | (rw [h.1] at v1 ⊢; rw [g.1] at v2; split <;> (try split) <;> omega))
    · rw [if_neg g2]
      refine ⟨_, rfl, ?_⟩
      unfold cz
      rcases w1.s with h | h | h <;> rcases w2.s with g | g | g <;> (first | omega | (rw [h.1] at v1 ⊢; rw [g.1] at v2; split <;> (try split) <;> omega))
  · rw [if_neg g1]
    refine ⟨_, rfl, ?_⟩
    unfold cz
    rcases w1.s with h | h | h <;> rcases w2.s with g | g | g <;> (first | omega | (rw [h.1] at v1 ⊢; rw [g.1] at v2 ⊢; split <;> (try split) <;> omega))
end Go.Proofs.Ytekbeaogiagidaa.Sh
