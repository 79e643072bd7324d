/- Plain geometry of moving discs: when two of them touch. -/
import Derived.Test.YteflngoiebgdaaaXWInvWordsMore
namespace Go.Proofs.Yteflngoiebgdaaa.Geo
open Go.RowKit Go.Proofs.YteflngoiebgdaaaW.PrintWords
set_option linter.unusedVariables false

/-- -1, 0 or 1. -/
def cmp (x y : Int) : Int := if x < y then -1 else if x > y then 1 else 0
theorem cmp_lt (x y : Int) : cmp x y < 0 ↔ x < y := by
  unfold cmp
  split
  · omega
  · split <;> omega
theorem cmp_le (x y : Int) : cmp x y ≤ 0 ↔ x ≤ y := by
  unfold cmp
  split
  · omega
  · split <;> omega
/-- The square of the least distance of the origin from the way from d on by v, held against r2. -/
def nr (dx dy vx vy r2 : Int) : Int :=
  if -(dx * vx + dy * vy) ≤ 0 then cmp (dx * dx + dy * dy) r2
  else if -(dx * vx + dy * vy) ≥ vx * vx + vy * vy then cmp ((dx + vx) * (dx + vx) + (dy + vy) * (dy + vy)) r2
  else cmp ((dx * vy - dy * vx) * (dx * vy - dy * vx)) (r2 * (vx * vx + vy * vy))
theorem sq_nonneg (x : Int) : 0 ≤ x * x := by
  rcases Int.le_total 0 x with h | h
  · exact Int.mul_nonneg h h
  · have := Int.mul_nonneg (a := -x) (b := -x) (by omega) (by omega)
    rwa [Int.neg_mul_neg] at this
theorem lagrange (a b c d : Int) : (a * d - b * c) * (a * d - b * c) + (a * c + b * d) * (a * c + b * d) = (a * a + b * b) * (c * c + d * d) := by grind
theorem nr_neg_far (dx dy vx vy r2 : Int) (h0 : dx * dx + dy * dy < r2) : nr dx dy vx vy r2 < 0 := by
  unfold nr
  have hv : 0 ≤ vx * vx + vy * vy := Int.add_nonneg (sq_nonneg _) (sq_nonneg _)
  split
  · rw [cmp_lt]; exact h0
  · rename_i h1
    split
    · rename_i h2
      rw [cmp_lt]
      have e : (dx + vx) * (dx + vx) + (dy + vy) * (dy + vy) = dx * dx + dy * dy + 2 * (dx * vx + dy * vy) + (vx * vx + vy * vy) := by grind
      omega
    · rename_i h2
      rw [cmp_lt]
      have e := lagrange dx dy vx vy
      have h3 := sq_nonneg (dx * vx + dy * vy)
      have hpos : 0 < vx * vx + vy * vy := by omega
      have h4 : (dx * dx + dy * dy) * (vx * vx + vy * vy) < r2 * (vx * vx + vy * vy) := Int.mul_lt_mul_of_pos_right h0 hpos
      omega
theorem nr_neg_end (dx dy vx vy r2 : Int) (h0 : (dx + vx) * (dx + vx) + (dy + vy) * (dy + vy) < r2) : nr dx dy vx vy r2 < 0 := by
  unfold nr
  have hv : 0 ≤ vx * vx + vy * vy := Int.add_nonneg (sq_nonneg _) (sq_nonneg _)
  have e : (dx + vx) * (dx + vx) + (dy + vy) * (dy + vy) = dx * dx + dy * dy + 2 * (dx * vx + dy * vy) + (vx * vx + vy * vy) := by grind
  split
  · rw [cmp_lt]; omega
  · rename_i h1
    split
    · rw [cmp_lt]; exact h0
    · rename_i h2
      rw [cmp_lt]
      have e2 := lagrange (dx + vx) (dy + vy) vx vy
      have h3 := sq_nonneg ((dx + vx) * vx + (dy + vy) * vy)
      have e3 : (dx + vx) * vy - (dy + vy) * vx = dx * vy - dy * vx := by grind
      rw [e3] at e2
      have hpos : 0 < vx * vx + vy * vy := by omega
      have h4 : ((dx + vx) * (dx + vx) + (dy + vy) * (dy + vy)) * (vx * vx + vy * vy) < r2 * (vx * vx + vy * vy) := Int.mul_lt_mul_of_pos_right h0 hpos
      omega
/-- The reference's way to say it. -/
theorem nr_ref (dx dy vx vy r2 : Int) : (nr dx dy vx vy r2 < 0) ↔ (dx * dx + dy * dy < r2 ∨ (dx + vx) * (dx + vx) + (dy + vy) * (dy + vy) < r2 ∨ (¬ -(dx * vx + dy * vy) ≤ 0 ∧ ¬ -(dx * vx + dy * vy) ≥ vx * vx + vy * vy ∧ (dx * vy - dy * vx) * (dx * vy - dy * vx) < r2 * (vx * vx + vy * vy))) := by
  constructor
  · intro h
    unfold nr at h
    split at h
    · exact .inl ((cmp_lt _ _).1 h)
    · rename_i h1
      split at h
      · exact .inr (.inl ((cmp_lt _ _).1 h))
      · rename_i h2
        exact .inr (.inr ⟨h1, h2, (cmp_lt _ _).1 h⟩)
  · rintro (h | h | ⟨h1, h2, h⟩)
    · exact nr_neg_far _ _ _ _ _ h
    · exact nr_neg_end _ _ _ _ _ h
    · unfold nr
      rw [if_neg h1, if_neg h2, cmp_lt]
      exact h
/-- With a lesser radius nothing more is touched. -/
theorem nr_mono (dx dy vx vy r2 s2 : Int) (h : r2 ≤ s2) (h0 : nr dx dy vx vy r2 < 0) : nr dx dy vx vy s2 < 0 := by
  have hv : 0 ≤ vx * vx + vy * vy := Int.add_nonneg (sq_nonneg _) (sq_nonneg _)
  unfold nr at h0 ⊢
  split at h0
  · rename_i h1
    rw [if_pos h1, cmp_lt]
    rw [cmp_lt] at h0
    omega
  · rename_i h1
    rw [if_neg h1]
    split at h0
    · rename_i h2
      rw [if_pos h2, cmp_lt]
      rw [cmp_lt] at h0
      omega
    · rename_i h2
      rw [if_neg h2, cmp_lt]
      rw [cmp_lt] at h0
      have := Int.mul_le_mul_of_nonneg_right h hv
      omega
/-- In the mirror. -/
theorem nr_mirror (dx dy vx vy r2 : Int) : nr (-dx) dy (-vx) vy r2 = nr dx dy vx vy r2 := by
  have e1 : -dx * -vx = dx * vx := Int.neg_mul_neg _ _
  have e2 : -vx * -vx = vx * vx := Int.neg_mul_neg _ _
  have e3 : -dx * -dx = dx * dx := Int.neg_mul_neg _ _
  have e4 : (-dx + -vx) * (-dx + -vx) = (dx + vx) * (dx + vx) := by grind
  have e5 : (-dx * vy - dy * -vx) * (-dx * vy - dy * -vx) = (dx * vy - dy * vx) * (dx * vy - dy * vx) := by grind
  unfold nr
  rw [e1, e2, e3, e4, e5]
/-- Backwards. -/
theorem nr_back (dx dy vx vy r2 : Int) : (nr (dx + vx) (dy + vy) (-vx) (-vy) r2 < 0) ↔ (nr dx dy vx vy r2 < 0) := by
  rw [nr_ref, nr_ref]
  have e0 : dx + vx + -vx = dx := by omega
  have e0' : dy + vy + -vy = dy := by omega
  have e1 : (dx + vx) * -vx + (dy + vy) * -vy = -(dx * vx + dy * vy) - (vx * vx + vy * vy) := by grind
  have e2 : -vx * -vx + -vy * -vy = vx * vx + vy * vy := by grind
  have e3 : ((dx + vx) * -vy - (dy + vy) * -vx) * ((dx + vx) * -vy - (dy + vy) * -vx) = (dx * vy - dy * vx) * (dx * vy - dy * vx) := by grind
  rw [e0, e0', e1, e2, e3]
  constructor
  · rintro (h | h | ⟨h1, h2, h⟩)
    · exact .inr (.inl h)
    · exact .inl h
    · exact .inr (.inr ⟨by omega, by omega, h⟩)
  · rintro (h | h | ⟨h1, h2, h⟩)
    · exact .inr (.inl h)
    · exact .inl h
    · exact .inr (.inr ⟨by omega, by omega, h⟩)
/-- Without touching: at every moment k / n they are apart. -/
theorem nr_apart (dx dy vx vy R n k : Int) (hn : 0 < n) (hk : 0 ≤ k) (hkn : k ≤ n) (h : ¬ nr dx dy vx vy (R * R) < 0) :
    (R * n) * (R * n) ≤ (n * dx + k * vx) * (n * dx + k * vx) + (n * dy + k * vy) * (n * dy + k * vy) := by
  have hnn := sq_nonneg n
  have hkk := sq_nonneg k
  have hjj := sq_nonneg (n - k)
  have hv : 0 ≤ vx * vx + vy * vy := Int.add_nonneg (sq_nonneg _) (sq_nonneg _)
  have eR : (R * n) * (R * n) = (n * n) * (R * R) := by grind
  have eP : (n * dx + k * vx) * (n * dx + k * vx) + (n * dy + k * vy) * (n * dy + k * vy) = (n * n) * (dx * dx + dy * dy) + 2 * (n * k) * (dx * vx + dy * vy) + (k * k) * (vx * vx + vy * vy) := by grind
  rw [eR]
  unfold nr at h
  split at h
  · rename_i h1
    rw [cmp_lt] at h
    rw [eP]
    have a1 := Int.mul_le_mul_of_nonneg_left (Int.not_lt.1 h) hnn
    have a2 : 0 ≤ 2 * (n * k) * (dx * vx + dy * vy) := Int.mul_nonneg (Int.mul_nonneg (by omega) (Int.mul_nonneg (by omega) hk)) (by omega)
    have a3 : 0 ≤ (k * k) * (vx * vx + vy * vy) := Int.mul_nonneg hkk hv
    omega
  · rename_i h1
    split at h
    · rename_i h2
      rw [cmp_lt] at h
      have eQ : (n * dx + k * vx) * (n * dx + k * vx) + (n * dy + k * vy) * (n * dy + k * vy) = (n * n) * ((dx + vx) * (dx + vx) + (dy + vy) * (dy + vy)) + 2 * (n * (n - k)) * (-(dx * vx + dy * vy) - (vx * vx + vy * vy)) + ((n - k) * (n - k)) * (vx * vx + vy * vy) := by grind
      rw [eQ]
      have a1 := Int.mul_le_mul_of_nonneg_left (Int.not_lt.1 h) hnn
      have a2 : 0 ≤ 2 * (n * (n - k)) * (-(dx * vx + dy * vy) - (vx * vx + vy * vy)) := Int.mul_nonneg (Int.mul_nonneg (by omega) (Int.mul_nonneg (by omega) (by omega))) (by omega)
      have a3 : 0 ≤ ((n - k) * (n - k)) * (vx * vx + vy * vy) := Int.mul_nonneg hjj hv
      omega
    · rename_i h2
      rw [cmp_lt] at h
      have hpos : 0 < vx * vx + vy * vy := by omega
      have e2 := lagrange (n * dx + k * vx) (n * dy + k * vy) vx vy
      have e3 : (n * dx + k * vx) * vy - (n * dy + k * vy) * vx = n * (dx * vy - dy * vx) := by grind
      rw [e3] at e2
      have e4 : n * (dx * vy - dy * vx) * (n * (dx * vy - dy * vx)) = (n * n) * ((dx * vy - dy * vx) * (dx * vy - dy * vx)) := by grind
      rw [e4] at e2
      have h3 := sq_nonneg ((n * dx + k * vx) * vx + (n * dy + k * vy) * vy)
      have a1 := Int.mul_le_mul_of_nonneg_left (Int.not_lt.1 h) hnn
      have e5 : (n * n) * (R * R * (vx * vx + vy * vy)) = ((n * n) * (R * R)) * (vx * vx + vy * vy) := by grind
      rw [e5] at a1
      exact Int.le_of_mul_le_mul_right (by omega) hpos
end Go.Proofs.Yteflngoiebgdaaa.Geo
