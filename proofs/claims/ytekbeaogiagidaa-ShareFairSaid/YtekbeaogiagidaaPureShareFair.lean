/- The law ShareFair over numbers and lists. -/
import Derived.Test.YtekbeaogiagidaaShFair
import Derived.Test.YtekbeaogiagidaaShCompare
import Derived.Test.YtekbeaogiagidaaShAwake
import Derived.Test.YtekbeaogiagidaaX37
namespace Go.Proofs.Ytekbeaogiagidaa.Sh
open Go.RowKit Go.Proofs.YtekbeaogiagidaaW.PrintWords Go.Proofs.Ytekbeaogiagidaa.X Go.Proofs.Ytekbeaogiagidaa.So
set_option linter.unusedVariables false
set_option linter.unusedSimpArgs false
theorem fair_l2 {a0 : Int} {l : List Int} (g : Good a0 l) (hl : l.length ≤ 60) (S Z : Int) {i : Nat} (hi : i < l.length) (K : Nat) : ∀ (d j : Nat), j + d = i → dancestudiolaw12_ShareFair.l2 (K + d + 1) a0 l (parts a0 l) S Z (i : Int) (j : Int) = dancestudiolaw12_ShareFair.l1 K a0 l (parts a0 l) S Z ((i + 1 : Nat) : Int)
  | 0, j, hj => by
    obtain rfl : j = i := by omega
    have hw : wrap64 ((j : Int) + 1) = ((j + 1 : Nat) : Int) := wrap_in _ (by omega) (by omega)
    rw [dancestudiolaw12_ShareFair.l2, if_neg (by omega), hw]
  | d + 1, j, hj => by
    have ih := fair_l2 g hl S Z hi K d (j + 1) (by omega)
    have b2 : -9223372036854775808 ≤ (j : Int) + 1 ∧ (j : Int) + 1 ≤ 9223372036854775807 := by omega
    have hjl : j < l.length := by omega
    have c1 : (j : Int) < (i : Int) := by omega
    have c2 : (j : Int) < (l.length : Int) := by omega
    have c3 : (i : Int) < (l.length : Int) := by omega
    have hpl : ((parts a0 l).length : Int) = (l.length : Int) := by rw [parts_length]
    have m1 := fun h => pt_mono g hi hjl h
    have m2 := fun h => pt_mono g hjl hi h
    have m3 := fun h => pt_same g hi (show j < i by omega) h
    push_cast at ih
    rw [show K + (d + 1) + 1 = K + d + 1 + 1 by omega, dancestudiolaw12_ShareFair.l2, hpl, rd_parts _ _ _ hjl, rd_parts _ _ _ hi, wrap_in _ b2.1 b2.2, if_pos c1, if_pos (Int.natCast_nonneg _), if_pos c2, if_pos (Int.natCast_nonneg _), if_pos c3]
    rcases Int.lt_trichotomy (rd l (j : Int)) (rd l (i : Int)) with h | h | h
    · have := m2 h
      rw [if_neg (by omega), if_pos h, if_pos c2, if_pos c3, if_neg (by omega), if_neg (by omega)]
      exact ih
    · have := m3 h
      rw [if_neg (by omega), if_neg (by omega), if_pos h, if_pos c2, if_pos c3, if_neg (by omega)]
      exact ih
    · have := m1 h
      rw [if_pos h, if_pos c2, if_pos c3, if_neg (by omega), if_neg (by omega), if_neg (by omega)]
      exact ih
theorem fair_l1 {a0 : Int} {l : List Int} (g : Good a0 l) (hl : l.length ≤ 60) : ∀ (d i : Nat) (k : Nat), i + d = l.length → k = 100 + d * 64 + 1 → dancestudiolaw12_ShareFair.l1 k a0 l (parts a0 l) l.sum 0 (i : Int) = some true
  | 0, i, k, hi, hk => by
    subst hk
    rw [dancestudiolaw12_ShareFair.l1, parts_length, if_neg (by omega), if_pos rfl, awake_f _ (by omega), Option.bind_some]
  | d + 1, i, k, hi, hk => by
    have hil : i < l.length := by omega
    obtain ⟨z, hz⟩ : ∃ z, k = z + i + 1 + 1 + 1 := ⟨k - i - 3, by omega⟩
    have hzk : z = 100 + d * 64 + 1 + (61 - i) := by omega
    have ih := fair_l1 g hl d (i + 1) (100 + d * 64 + 1) (by omega) rfl
    have hm := g.le _ (rd_mem hil)
    have s0 := g.s0
    have s1 := g.s1
    have t0 := g.t0
    have t1 := g.t1
    obtain ⟨p0, p1, p2, p3, p4⟩ := pt_near g hil
    obtain ⟨r1, e1, n1, _⟩ := compare_f (pt a0 l i - 1) l.sum a0 (rd l (i : Int)) (by omega) (by omega) (by omega) (by omega) (z + i + 1 + 1) (by omega)
    obtain ⟨r2, e2, _, n2⟩ := compare_f (pt a0 l i + 1) l.sum a0 (rd l (i : Int)) (by omega) (by omega) (by omega) (by omega) (z + i + 1 + 1) (by omega)
    have n1 := n1 p2
    have n2 := n2 p3
    have c1 : (i : Int) < (l.length : Int) := by omega
    have hpl : ((parts a0 l).length : Int) = (l.length : Int) := by rw [parts_length]
    have hj : dancestudiolaw12_ShareFair.j2 (z + i + 1 + 1) a0 l (parts a0 l) l.sum 0 (i : Int) false = some true := by
      rw [dancestudiolaw12_ShareFair.j2, if_neg (by decide)]
      have h2 := fair_l2 g hl l.sum 0 hil z i 0 (by omega)
      refine Eq.trans h2 ?_
      have lift : ∀ e, dancestudiolaw12_ShareFair.l1 (100 + d * 64 + 1 + e) a0 l (parts a0 l) l.sum 0 ((i + 1 : Nat) : Int) = some true := fun e => by
        induction e with
        | zero => exact ih
        | succ e ihe => exact (dancestudiolaw12_ShareFair.mono_l (100 + d * 64 + 1 + e)).2.1 _ _ _ _ _ _ _ ihe
      rw [hzk]
      exact lift _
    have b1 : -9223372036854775808 ≤ pt a0 l i - 1 ∧ pt a0 l i - 1 ≤ 9223372036854775807 := by omega
    have b2 : -9223372036854775808 ≤ pt a0 l i + 1 ∧ pt a0 l i + 1 ≤ 9223372036854775807 := by omega
    rw [hz, dancestudiolaw12_ShareFair.l1, hpl, rd_parts _ _ _ hil, if_pos c1, if_pos (Int.natCast_nonneg _), if_pos c1, wrap_in _ b1.1 b1.2, wrap_in _ b2.1 b2.2, e1, Option.bind_some, e2, Option.bind_some, if_pos rfl, if_pos rfl, if_neg (by omega), if_neg (by omega)]
    by_cases h0 : rd l (i : Int) = 0
    · rw [if_pos h0, p4 h0]
      exact hj
    · rw [if_neg h0]
      exact hj
theorem fair_l0 {a0 : Int} {l : List Int} (g : Good a0 l) (hl : l.length ≤ 60) (K : Nat) (res : Bool) (hr : dancestudiolaw12_ShareFair.l1 K a0 l (parts a0 l) l.sum 0 0 = some res) : ∀ (d i : Nat), i + d = l.length → dancestudiolaw12_ShareFair.l0 (K + d + 1) a0 l (parts a0 l) ((l.take i).sum) (a0 - ((parts a0 l).take i).sum) (i : Int) = some res
  | 0, i, hi => by
    obtain rfl : i = l.length := by omega
    rw [dancestudiolaw12_ShareFair.l0, parts_length, if_neg (by omega), List.take_of_length_le (by omega), List.take_of_length_le (by rw [parts_length]; omega), parts_sum g, Int.sub_self]
    exact hr
  | d + 1, i, hi => by
    have hil : i < l.length := by omega
    have ih := fair_l0 g hl K res hr d (i + 1) (by omega)
    have c1 : (i : Int) < (l.length : Int) := by omega
    have hpl : ((parts a0 l).length : Int) = (l.length : Int) := by rw [parts_length]
    have b2 : -9223372036854775808 ≤ (i : Int) + 1 ∧ (i : Int) + 1 ≤ 9223372036854775807 := by omega
    have e1 := sum_take l i hil
    have e2 := sum_take (parts a0 l) i (by rw [parts_length]; exact hil)
    rw [rd_parts _ _ _ hil] at e2
    have t := parts_take g (i + 1)
    have t' := parts_take g i
    have t1 := g.t1
    have tl := take_range l g.ws (by omega) (i + 1)
    obtain ⟨p0, p1, p2, p3, p4⟩ := pt_near g hil
    have e3 : a0 - ((parts a0 l).take i).sum - pt a0 l i = a0 - ((parts a0 l).take (i + 1)).sum := by omega
    push_cast at ih
    rw [show K + (d + 1) + 1 = K + d + 1 + 1 by omega, dancestudiolaw12_ShareFair.l0, hpl, rd_parts _ _ _ hil, if_pos c1, if_pos (Int.natCast_nonneg _), if_pos c1, if_neg (by omega), if_neg (by omega), ← e1, e3, wrap_in _ (by omega) (by omega), wrap_in _ (by omega) (by omega), wrap_in _ b2.1 b2.2]
    exact ih
end Go.Proofs.Ytekbeaogiagidaa.Sh
namespace Go.Proofs.Ytekbeaogiagidaa.Pure
open Go.RowKit Go.Proofs.YtekbeaogiagidaaW.PrintWords Go.Proofs.Ytekbeaogiagidaa.X Go.Proofs.Ytekbeaogiagidaa.Sh
theorem ShareFair (x0 : Int) (x1 : List Int) : ∃ k, X.dancestudiolaw12_ShareFair.f k x0 x1 = some true := by
  by_cases h : (x1.length : Int) > 60
  · refine ⟨100, ?_⟩
    unfold dancestudiolaw12_ShareFair.f
    rw [if_pos h, awake_f _ (by omega), Option.bind_some]
  · by_cases hc : (chk x0 x1).2 = 0
    · have g := (chk_good hc).1
      have n0 := g.n0
      have h1 := fair_l1 g (by omega) x1.length 0 (100 + x1.length * 64 + 1) (by omega) rfl
      have lift : ∀ e, dancestudiolaw12_ShareFair.l1 (100 + x1.length * 64 + 1 + e) x0 x1 (parts x0 x1) x1.sum 0 0 = some true := fun e => by
        induction e with
        | zero => exact h1
        | succ e ihe => exact (dancestudiolaw12_ShareFair.mono_l (100 + x1.length * 64 + 1 + e)).2.1 _ _ _ _ _ _ _ ihe
      have h2 := fair_l0 g (by omega) (100 + x1.length * 64 + 1 + 2000) true (lift 2000) x1.length 0 (by omega)
      refine ⟨100 + x1.length * 64 + 1 + 2000 + x1.length + 1, ?_⟩
      unfold dancestudiolaw12_ShareFair.f
      rw [if_neg h, split_ok g _ (by omega), Option.bind_some, if_pos rfl, if_pos (by rw [parts_length])]
      simpa using h2
    · refine ⟨2000, ?_⟩
      unfold dancestudiolaw12_ShareFair.f
      rw [if_neg h, split_bad hc _ (by omega), Option.bind_some, if_neg hc, if_pos (by rfl), awake_f _ (by omega), Option.bind_some]
end Go.Proofs.Ytekbeaogiagidaa.Pure
