/- The packages num and geom (and their references), as printed, compute the plain geometry. -/
import Derived.Test.YteflngoiebgdaaaX21
import Derived.Test.YteflngoiebgdaaaX20
import Derived.Test.YteflngoiebgdaaaX19
import Derived.Test.YteflngoiebgdaaaX18
import Derived.Test.YteflngoiebgdaaaX17
import Derived.Test.YteflngoiebgdaaaX16
import Derived.Test.YteflngoiebgdaaaX15
import Derived.Test.YteflngoiebgdaaaX14
import Derived.Test.YteflngoiebgdaaaX13
import Derived.Test.YteflngoiebgdaaaX12
import Derived.Test.YteflngoiebgdaaaX22
import Derived.Test.YteflngoiebgdaaaGeo
namespace Go.Proofs.Yteflngoiebgdaaa.GeoImpl
open Go.RowKit Go.Proofs.YteflngoiebgdaaaW.PrintWords Go.Proofs.Yteflngoiebgdaaa.X Go.Proofs.Yteflngoiebgdaaa.Geo
set_option linter.unusedVariables false
set_option linter.unusedSimpArgs false

theorem w64 {x : Int} (h0 : -9223372036854775808 ≤ x) (h1 : x ≤ 9223372036854775807) : wrap64 x = x := by unfold wrap64; omega
theorem rd_of_drop {l : List Int} {i : Nat} {x : Int} {r : List Int} (h : l.drop i = x :: r) : rd l (i : Int) = x ∧ i < l.length ∧ l.drop (i + 1) = r := by
  have hi : i < l.length := by
    apply Nat.lt_of_not_le
    intro hh
    rw [List.drop_of_length_le hh] at h
    cases h
  rw [List.drop_eq_getElem_cons hi] at h
  simp only [List.cons.injEq] at h
  refine ⟨?_, hi, h.2⟩
  unfold rd
  simp only [Int.toNat_natCast]
  rw [List.getD_eq_getElem?_getD, List.getElem?_eq_getElem hi]
  exact h.1
theorem rdP_of_drop {l : List S49} {i : Nat} {x : S49} {r : List S49} (h : l.drop i = x :: r) : rd_T49 l (i : Int) = x ∧ i < l.length ∧ l.drop (i + 1) = r := by
  have hi : i < l.length := by
    apply Nat.lt_of_not_le
    intro hh
    rw [List.drop_of_length_le hh] at h
    cases h
  rw [List.drop_eq_getElem_cons hi] at h
  simp only [List.cons.injEq] at h
  refine ⟨?_, hi, h.2⟩
  unfold rd_T49
  simp only [Int.toNat_natCast]
  rw [List.getD_eq_getElem?_getD, List.getElem?_eq_getElem hi]
  exact h.1
/-- at most 2^50 -/
def sm (n : Int) : Prop := -1125899906842624 ≤ n ∧ n ≤ 1125899906842624
theorem small_l0 (l : List Int) (hl : l.length ≤ 1000) : ∀ (r : List Int) (i k : Nat), l.drop i = r → r.length < k → (∀ x ∈ r, sm x) → num_small.l0 k l (l.length : Int) (i : Int) = some true := by
  intro r
  induction r with
  | nil =>
    intro i k h hk _
    obtain ⟨k, rfl⟩ : ∃ m, k = m + 1 := ⟨k - 1, by omega⟩
    have : l.length ≤ i := by simpa using h
    simp only [num_small.l0]
    rw [if_neg (by omega)]
  | cons x r ih =>
    intro i k h hk hs
    obtain ⟨k, rfl⟩ : ∃ m, k = m + 1 := ⟨k - 1, by simp at hk; omega⟩
    obtain ⟨h1, h2, h3⟩ := rd_of_drop h
    have hx := hs x (by simp)
    unfold sm at hx
    simp only [num_small.l0]
    rw [if_pos (by omega), if_pos (by omega), if_pos (by omega), h1, if_neg (by omega), if_neg (by omega), w64 (by omega) (by omega), show (i : Int) + 1 = ((i + 1 : Nat) : Int) by omega]
    exact ih (i + 1) k h3 (by simp at hk; omega) (fun y hy => hs y (by simp [hy]))
theorem small_f (k : Nat) (l : List Int) (hl : l.length ≤ 1000) (hs : ∀ x ∈ l, sm x) (hk : l.length < k) : num_small.f k l = some true := by
  unfold num_small.f
  exact small_l0 l hl l 0 k (by simp) hk hs

/-! ### products -/
def sg (p : Int) : Int := if p < 0 then -1 else if p = 0 then 0 else 1
def ab (p : Int) : Int := if p < 0 then -p else p
theorem abs_f (a : Int) (h : sm a) : num_abs.f a = some (ab a) := by
  unfold num_abs.f sm at *
  rw [w64 (by omega) (by omega)]
  unfold mx ab
  congr 1
  split <;> split <;> omega
theorem ab_mul (a b : Int) : ab (a * b) = ab a * ab b := by
  have h : ∀ x, ab x = (x.natAbs : Int) := by intro x; unfold ab; split <;> omega
  rw [h, h, h, Int.natAbs_mul]
  simp
theorem mul_bd (a b A B : Int) (h : -A ≤ a ∧ a ≤ A) (h' : -B ≤ b ∧ b ≤ B) : -(A * B) ≤ a * b ∧ a * b ≤ A * B := by
  have e : ∀ x, ab x = (x.natAbs : Int) := by intro x; unfold ab; split <;> omega
  have h1 : ab (a * b) ≤ A * B := by
    rw [ab_mul]
    refine Int.mul_le_mul ?_ ?_ ?_ ?_
    · unfold ab; split <;> omega
    · unfold ab; split <;> omega
    · unfold ab; split <;> omega
    · omega
  unfold ab at h1
  split at h1 <;> omega
/-- How a product parts: high and low. -/
def hi (p : Int) : Int := ab p / 1125899906842624
def lo (p : Int) : Int := ab p % 1125899906842624
theorem sg_mul (a b : Int) (ha : a ≠ 0) (hb : b ≠ 0) : sg (a * b) = if (decide (a < 0) != decide (b < 0)) = true then -1 else 1 := by
  have hne : a * b ≠ 0 := Int.mul_ne_zero ha hb
  unfold sg
  by_cases h1 : a < 0
  · by_cases h2 : b < 0
    · have := Int.mul_pos_of_neg_of_neg h1 h2
      rw [if_neg (by omega), if_neg hne]
      simp [h1, h2]
    · have := Int.mul_neg_of_neg_of_pos h1 (show 0 < b by omega)
      rw [if_pos this]
      simp [h1, h2]
  · by_cases h2 : b < 0
    · have := Int.mul_neg_of_pos_of_neg (show 0 < a by omega) h2
      rw [if_pos this]
      simp [h1, h2]
    · have := Int.mul_pos (show 0 < a by omega) (show 0 < b by omega)
      rw [if_neg (by omega), if_neg hne]
      simp [h1, h2]
theorem parts (x y : Int) (hx0 : 0 ≤ x) (hy0 : 0 ≤ y) : x * y = (x / 33554432 * (y / 33554432)) * 1125899906842624 + (x / 33554432 * (y % 33554432) + x % 33554432 * (y / 33554432)) * 33554432 + x % 33554432 * (y % 33554432) := by
  have e1 : x = x / 33554432 * 33554432 + x % 33554432 := by omega
  have e2 : y = y / 33554432 * 33554432 + y % 33554432 := by omega
  generalize x / 33554432 = a at *
  generalize x % 33554432 = b at *
  generalize y / 33554432 = c at *
  generalize y % 33554432 = d at *
  subst e1
  subst e2
  grind
theorem times_f (k : Nat) (a b : Int) (ha : sm a) (hb : sm b) (hk : 3 ≤ k) : num_times.f k a b = some (sg (a * b), hi (a * b), lo (a * b)) := by
  obtain ⟨k, rfl⟩ : ∃ m, k = m + 1 := ⟨k - 1, by omega⟩
  unfold num_times.f
  rw [abs_f a ha, abs_f b hb, Option.bind_some, Option.bind_some]
  by_cases h1 : ab a = 0
  · rw [if_pos h1]
    have : a = 0 := by unfold ab at h1; split at h1 <;> omega
    subst this
    simp only [num_times.j0, if_true]
    rw [Int.zero_mul]
    rfl
  · rw [if_neg h1]
    by_cases h2 : ab b = 0
    · have : b = 0 := by unfold ab at h2; split at h2 <;> omega
      subst this
      rw [h2]
      simp only [num_times.j0]
      rw [if_pos (by rfl), Int.mul_zero]
      rfl
    · have hane : a ≠ 0 := by intro e; subst e; exact h1 rfl
      have hbne : b ≠ 0 := by intro e; subst e; exact h2 rfl
      have hx0 : 0 ≤ ab a := by unfold ab; split <;> omega
      have hy0 : 0 ≤ ab b := by unfold ab; split <;> omega
      have hx1 : ab a ≤ 1125899906842624 := by unfold ab; unfold sm at ha; split <;> omega
      have hy1 : ab b ≤ 1125899906842624 := by unfold ab; unfold sm at hb; split <;> omega
      have hp := parts (ab a) (ab b) hx0 hy0
      have hs := sg_mul a b hane hbne
      have hP : ab (a * b) = ab a * ab b := ab_mul a b
      have A1 := mul_bd (ab a / 33554432) (ab b / 33554432) 33554432 33554432 (by omega) (by omega)
      have B1 := mul_bd (ab a / 33554432) (ab b % 33554432) 33554432 33554432 (by omega) (by omega)
      have C1 := mul_bd (ab a % 33554432) (ab b / 33554432) 33554432 33554432 (by omega) (by omega)
      have D1 := mul_bd (ab a % 33554432) (ab b % 33554432) 33554431 33554431 (by omega) (by omega)
      have A0 := Int.mul_nonneg (a := ab a / 33554432) (b := ab b / 33554432) (by omega) (by omega)
      have B0 := Int.mul_nonneg (a := ab a / 33554432) (b := ab b % 33554432) (by omega) (by omega)
      have C0 := Int.mul_nonneg (a := ab a % 33554432) (b := ab b / 33554432) (by omega) (by omega)
      have D0 := Int.mul_nonneg (a := ab a % 33554432) (b := ab b % 33554432) (by omega) (by omega)
      simp only [num_times.j0]
      rw [show (ab b == 0) = false by simp [h2], if_neg (by simp)]
      rw [Int.tdiv_eq_ediv_of_nonneg hx0, Int.tdiv_eq_ediv_of_nonneg hy0, Int.tmod_eq_emod_of_nonneg hx0, Int.tmod_eq_emod_of_nonneg hy0]
      rw [w64 (x := ab a / 33554432) (by omega) (by omega), w64 (x := ab b / 33554432) (by omega) (by omega)]
      generalize ab a / 33554432 * (ab b / 33554432) = A at *
      generalize ab a / 33554432 * (ab b % 33554432) = B at *
      generalize ab a % 33554432 * (ab b / 33554432) = C at *
      generalize ab a % 33554432 * (ab b % 33554432) = D at *
      rw [w64 (x := A) (by omega) (by omega), w64 (x := B) (by omega) (by omega), w64 (x := C) (by omega) (by omega), w64 (x := D) (by omega) (by omega), w64 (x := B + C) (by omega) (by omega)]
      rw [Int.tdiv_eq_ediv_of_nonneg (a := B + C) (by omega), Int.tmod_eq_emod_of_nonneg (a := B + C) (by omega)]
      rw [w64 (x := (B + C) % 33554432 * 33554432) (by omega) (by omega), w64 (x := D + (B + C) % 33554432 * 33554432) (by omega) (by omega), w64 (x := (B + C) / 33554432) (by omega) (by omega)]
      rw [Int.tdiv_eq_ediv_of_nonneg (a := D + (B + C) % 33554432 * 33554432) (by omega), Int.tmod_eq_emod_of_nonneg (a := D + (B + C) % 33554432 * 33554432) (by omega)]
      rw [w64 (x := A + (B + C) / 33554432) (by omega) (by omega), w64 (x := (D + (B + C) % 33554432 * 33554432) / 1125899906842624) (by omega) (by omega), w64 (x := A + (B + C) / 33554432 + (D + (B + C) % 33554432 * 33554432) / 1125899906842624) (by omega) (by omega)]
      have e1 : A + (B + C) / 33554432 + (D + (B + C) % 33554432 * 33554432) / 1125899906842624 = hi (a * b) := by unfold hi; omega
      have e2 : (D + (B + C) % 33554432 * 33554432) % 1125899906842624 = lo (a * b) := by unfold lo; omega
      rw [e1, e2, hs]
      split <;> rfl
theorem order_f (a b : Int) : num_order.f a b = some (cmp a b) := by
  unfold num_order.f cmp
  split
  · rfl
  · split <;> rfl
theorem cmp_range (a b : Int) : -1 ≤ cmp a b ∧ cmp a b ≤ 1 := by
  unfold cmp
  split
  · omega
  · split <;> omega
theorem sg_range (a : Int) : -1 ≤ sg a ∧ sg a ≤ 1 := by
  unfold sg
  split
  · omega
  · split <;> omega
theorem cmp_sg (p q : Int) (h : sg p ≠ sg q) : cmp (sg p) (sg q) = cmp p q := by
  unfold cmp sg at *
  repeat' split at h
  all_goals (repeat' split)
  all_goals omega
theorem cmp_hi (p q : Int) (h : sg p = sg q) (h2 : hi p ≠ hi q) : sg p * cmp (hi p) (hi q) = cmp p q := by
  have e : sg p = -1 ∨ sg p = 0 ∨ sg p = 1 := by unfold sg; split; · simp
                                                 · split <;> simp
  rcases e with e | e | e <;> rw [e] at h ⊢ <;> unfold sg at e h <;> unfold cmp hi ab at * <;> (repeat' split at e) <;> (repeat' split at h) <;> first | omega | (repeat' split <;> omega)
theorem cmp_lo (p q : Int) (h : sg p = sg q) (h2 : hi p = hi q) : sg p * cmp (lo p) (lo q) = cmp p q := by
  have e : sg p = -1 ∨ sg p = 0 ∨ sg p = 1 := by unfold sg; split; · simp
                                                 · split <;> simp
  rcases e with e | e | e <;> rw [e] at h ⊢ <;> unfold sg at e h <;> unfold cmp hi lo ab at * <;> (repeat' split at e) <;> (repeat' split at h) <;> first | omega | (repeat' split <;> omega)
theorem compare_f (k : Nat) (a b c d : Int) (ha : sm a) (hb : sm b) (hc : sm c) (hd : sm d) (hk : 10 ≤ k) : num_Compare.f k a b c d = some (cmp (a * b) (c * d), 0) := by
  unfold num_Compare.f
  rw [small_f k _ (by simp) (by intro x hx; simp at hx; rcases hx with rfl | rfl | rfl | rfl <;> assumption) (by simp; omega), Option.bind_some, if_pos rfl, times_f k a b ha hb (by omega), times_f k c d hc hd (by omega), Option.bind_some, Option.bind_some]
  have r1 := sg_range (a * b)
  by_cases h1 : sg (a * b) = sg (c * d)
  · rw [if_pos h1]
    by_cases h2 : hi (a * b) = hi (c * d)
    · rw [if_pos h2, order_f, Option.bind_some, cmp_lo _ _ h1 h2]
      have := cmp_range (a * b) (c * d)
      rw [w64 (by omega) (by omega)]
    · rw [if_neg h2, order_f, Option.bind_some, cmp_hi _ _ h1 h2]
      have := cmp_range (a * b) (c * d)
      rw [w64 (by omega) (by omega)]
  · rw [if_neg h1, order_f, Option.bind_some, cmp_sg _ _ h1]

/-! ### the way of two discs -/
theorem dot_f (a b c d : Int) (ha : -262144 ≤ a ∧ a ≤ 262144) (hb : -262144 ≤ b ∧ b ≤ 262144) (hc : -262144 ≤ c ∧ c ≤ 262144) (hd : -262144 ≤ d ∧ d ≤ 262144) : geom_dot.f a b c d = some (a * c + b * d) ∧ -137438953472 ≤ a * c + b * d ∧ a * c + b * d ≤ 137438953472 := by
  have h1 := mul_bd a c 262144 262144 ha hc
  have h2 := mul_bd b d 262144 262144 hb hd
  unfold geom_dot.f
  rw [w64 (x := a * c) (by omega) (by omega), w64 (x := b * d) (by omega) (by omega), w64 (by omega) (by omega)]
  exact ⟨rfl, by omega, by omega⟩
theorem cross_f (a b c d : Int) (ha : -262144 ≤ a ∧ a ≤ 262144) (hb : -262144 ≤ b ∧ b ≤ 262144) (hc : -262144 ≤ c ∧ c ≤ 262144) (hd : -262144 ≤ d ∧ d ≤ 262144) : geom_cross.f a b c d = some (a * d - b * c) ∧ -137438953472 ≤ a * d - b * c ∧ a * d - b * c ≤ 137438953472 := by
  have h1 := mul_bd a d 262144 262144 ha hd
  have h2 := mul_bd b c 262144 262144 hb hc
  unfold geom_cross.f
  rw [w64 (x := a * d) (by omega) (by omega), w64 (x := b * c) (by omega) (by omega), w64 (by omega) (by omega)]
  exact ⟨rfl, by omega, by omega⟩
theorem nearest_f (k : Nat) (dx dy vx vy r2 : Int) (h1 : -65536 ≤ dx ∧ dx ≤ 65536) (h2 : -65536 ≤ dy ∧ dy ≤ 65536) (h3 : -131072 ≤ vx ∧ vx ≤ 131072) (h4 : -131072 ≤ vy ∧ vy ≤ 131072) (h5 : sm r2) (hk : 10 ≤ k) : geom_nearest.f k dx dy vx vy r2 = some (nr dx dy vx vy r2) := by
  obtain ⟨d1, b1, b1'⟩ := dot_f dx dy vx vy (by omega) (by omega) (by omega) (by omega)
  obtain ⟨d2, b2, b2'⟩ := dot_f vx vy vx vy (by omega) (by omega) (by omega) (by omega)
  obtain ⟨d3, b3, b3'⟩ := dot_f dx dy dx dy (by omega) (by omega) (by omega) (by omega)
  obtain ⟨d4, b4, b4'⟩ := dot_f (dx + vx) (dy + vy) (dx + vx) (dy + vy) (by omega) (by omega) (by omega) (by omega)
  obtain ⟨d5, b5, b5'⟩ := cross_f dx dy vx vy (by omega) (by omega) (by omega) (by omega)
  have one : sm 1 := ⟨by omega, by omega⟩
  unfold geom_nearest.f nr
  rw [d1, d2, Option.bind_some, Option.bind_some, w64 (x := -(dx * vx + dy * vy)) (by omega) (by omega)]
  by_cases c1 : -(dx * vx + dy * vy) ≤ 0
  · rw [if_pos c1, if_pos c1, d3, Option.bind_some, compare_f k _ _ _ _ ⟨by omega, by omega⟩ one h5 one hk, Option.bind_some, Int.mul_one, Int.mul_one]
  · rw [if_neg c1, if_neg c1]
    by_cases c2 : -(dx * vx + dy * vy) ≥ vx * vx + vy * vy
    · rw [if_pos c2, if_pos c2, w64 (x := dx + vx) (by omega) (by omega), w64 (x := dy + vy) (by omega) (by omega), d4, Option.bind_some, compare_f k _ _ _ _ ⟨by omega, by omega⟩ one h5 one hk, Option.bind_some, Int.mul_one, Int.mul_one]
    · rw [if_neg c2, if_neg c2, d5, Option.bind_some, compare_f k _ _ _ _ ⟨by omega, by omega⟩ ⟨by omega, by omega⟩ h5 ⟨by omega, by omega⟩ hk, Option.bind_some]
def pOk (x y : Int) : Bool := decide (-32768 ≤ x) && decide (x ≤ 32768) && decide (-32768 ≤ y) && decide (y ≤ 32768)
def rOk (r : Int) : Bool := decide (0 ≤ r) && decide (r ≤ 32768)
theorem pOk_iff (x y : Int) : pOk x y = true ↔ -32768 ≤ x ∧ x ≤ 32768 ∧ -32768 ≤ y ∧ y ≤ 32768 := by
  simp [pOk, and_assoc]
theorem rOk_iff (r : Int) : rOk r = true ↔ 0 ≤ r ∧ r ≤ 32768 := by
  simp [rOk]
theorem valid_l1 (l : List Int) (hl : l.length ≤ 1000) : ∀ (r : List Int) (i k : Nat), l.drop i = r → r.length < k → geom_valid.l1 k l (l.length : Int) (i : Int) = some (r.all rOk) := by
  intro r
  induction r with
  | nil =>
    intro i k h hk
    obtain ⟨k, rfl⟩ : ∃ m, k = m + 1 := ⟨k - 1, by omega⟩
    have : l.length ≤ i := by simpa using h
    simp only [geom_valid.l1]
    rw [if_neg (by omega)]
    rfl
  | cons x r ih =>
    intro i k h hk
    obtain ⟨k, rfl⟩ : ∃ m, k = m + 1 := ⟨k - 1, by simp at hk; omega⟩
    obtain ⟨h1, h2, h3⟩ := rd_of_drop h
    simp only [geom_valid.l1]
    rw [if_pos (by omega), if_pos (by omega), if_pos (by omega), h1, List.all_cons]
    by_cases c : rOk x = true
    · have c' := (rOk_iff x).1 c
      rw [if_neg (by omega), if_neg (by omega), w64 (by omega) (by omega), show (i : Int) + 1 = ((i + 1 : Nat) : Int) by omega, ih (i + 1) k h3 (by simp at hk; omega), c, Bool.true_and]
    · have c' : ¬ (0 ≤ x ∧ x ≤ 32768) := fun h => c ((rOk_iff x).2 h)
      rw [show rOk x = false by simpa using c, Bool.false_and]
      by_cases c2 : x < 0
      · rw [if_pos c2]
      · rw [if_neg c2, if_pos (by omega)]
theorem valid_l0 (rs : List Int) (hr : rs.length ≤ 1000) (l : List S49) (hl : l.length ≤ 1000) : ∀ (r : List S49) (i k : Nat), l.drop i = r → r.length + rs.length + 2 < k → geom_valid.l0 k rs l (l.length : Int) (i : Int) = some (r.all (fun p => pOk p.f0 p.f1) && rs.all rOk) := by
  intro r
  induction r with
  | nil =>
    intro i k h hk
    obtain ⟨k, rfl⟩ : ∃ m, k = m + 1 := ⟨k - 1, by omega⟩
    have : l.length ≤ i := by simpa using h
    simp only [geom_valid.l0]
    rw [if_neg (by omega)]
    have := valid_l1 rs hr rs 0 k (by simp) (by omega)
    rw [show ((0 : Nat) : Int) = 0 from rfl] at this
    rw [this]
    simp
  | cons x r ih =>
    intro i k h hk
    simp only [List.length_cons] at hk
    obtain ⟨k, rfl⟩ : ∃ m, k = m + 1 := ⟨k - 1, by omega⟩
    obtain ⟨h1, h2, h3⟩ := rdP_of_drop h
    simp only [geom_valid.l0]
    rw [if_pos (by omega), if_pos (by omega), if_pos (by omega), h1, List.all_cons]
    by_cases c : pOk x.f0 x.f1 = true
    · have c' := (pOk_iff _ _).1 c
      rw [if_neg (by omega), if_neg (by omega), if_neg (by omega), if_neg (by omega), w64 (by omega) (by omega), show (i : Int) + 1 = ((i + 1 : Nat) : Int) by omega, ih (i + 1) k h3 (by omega), c, Bool.true_and]
    · have c' : ¬ (-32768 ≤ x.f0 ∧ x.f0 ≤ 32768 ∧ -32768 ≤ x.f1 ∧ x.f1 ≤ 32768) := fun h => c ((pOk_iff x.f0 x.f1).2 h)
      rw [show pOk x.f0 x.f1 = false by simpa using c, Bool.false_and, Bool.false_and]
      by_cases c2 : x.f0 < -32768
      · rw [if_pos c2]
      · rw [if_neg c2]
        by_cases c3 : x.f0 > 32768
        · rw [if_pos c3]
        · rw [if_neg c3]
          by_cases c4 : x.f1 < -32768
          · rw [if_pos c4]
          · rw [if_neg c4, if_pos (by omega)]
theorem valid_f (k : Nat) (l : List S49) (rs : List Int) (hl : l.length ≤ 1000) (hr : rs.length ≤ 1000) (hk : l.length + rs.length + 2 < k) : geom_valid.f k l rs = some (l.all (fun p => pOk p.f0 p.f1) && rs.all rOk) := by
  unfold geom_valid.f
  exact valid_l0 rs hr l hl l 0 k (by simp) hk
def mOk (x y u v r : Int) : Bool := pOk x y && pOk u v && rOk r
theorem mOk_iff (x y u v r : Int) : mOk x y u v r = true ↔ (-32768 ≤ x ∧ x ≤ 32768 ∧ -32768 ≤ y ∧ y ≤ 32768) ∧ (-32768 ≤ u ∧ u ≤ 32768 ∧ -32768 ≤ v ∧ v ≤ 32768) ∧ 0 ≤ r ∧ r ≤ 32768 := by
  unfold mOk
  rw [Bool.and_eq_true, Bool.and_eq_true, pOk_iff, pOk_iff, rOk_iff, and_assoc]
/-- Do two moving discs touch; the error. -/
def tch (a0 a1 a2 a3 a4 b0 b1 b2 b3 b4 : Int) : Bool × Int :=
  if mOk a0 a1 a2 a3 a4 = true ∧ mOk b0 b1 b2 b3 b4 = true then (decide (nr (a0 - b0) (a1 - b1) ((a2 - a0) - (b2 - b0)) ((a3 - a1) - (b3 - b1)) ((a4 + b4) * (a4 + b4)) < 0), 0) else (false, 1)
theorem r2_sm (a b : Int) (ha : 0 ≤ a ∧ a ≤ 32768) (hb : 0 ≤ b ∧ b ≤ 32768) : 0 ≤ (a + b) * (a + b) ∧ (a + b) * (a + b) ≤ 4294967296 := by
  have := mul_bd (a + b) (a + b) 65536 65536 (by omega) (by omega)
  exact ⟨sq_nonneg _, by omega⟩
theorem touch_f (k : Nat) (a0 a1 a2 a3 a4 b0 b1 b2 b3 b4 : Int) (hk : 20 ≤ k) : geom_Touch.f k a0 a1 a2 a3 a4 b0 b1 b2 b3 b4 = some (tch a0 a1 a2 a3 a4 b0 b1 b2 b3 b4) := by
  unfold geom_Touch.f tch
  rw [valid_f k _ _ (by simp) (by simp) (by simp; omega), Option.bind_some]
  have e : ([(⟨a0, a1⟩ : S49), ⟨a2, a3⟩, ⟨b0, b1⟩, ⟨b2, b3⟩].all (fun p => pOk p.f0 p.f1) && [a4, b4].all rOk) = (mOk a0 a1 a2 a3 a4 && mOk b0 b1 b2 b3 b4) := by
    unfold mOk
    simp only [List.all_cons, List.all_nil, Bool.and_true]
    cases pOk a0 a1 <;> cases pOk a2 a3 <;> cases pOk b0 b1 <;> cases pOk b2 b3 <;> cases rOk a4 <;> cases rOk b4 <;> rfl
  rw [e]
  by_cases h : mOk a0 a1 a2 a3 a4 = true ∧ mOk b0 b1 b2 b3 b4 = true
  · rw [if_pos h, h.1, h.2, if_pos (by rfl)]
    obtain ⟨⟨p1, p2, p3, p4⟩, ⟨p5, p6, p7, p8⟩, p9, p10⟩ := (mOk_iff _ _ _ _ _).1 h.1
    obtain ⟨⟨q1, q2, q3, q4⟩, ⟨q5, q6, q7, q8⟩, q9, q10⟩ := (mOk_iff _ _ _ _ _).1 h.2
    have hr := r2_sm a4 b4 ⟨p9, p10⟩ ⟨q9, q10⟩
    unfold geom_minus.f
    rw [Option.bind_some, Option.bind_some, Option.bind_some, Option.bind_some]
    simp only
    rw [w64 (x := a0 - b0) (by omega) (by omega), w64 (x := a1 - b1) (by omega) (by omega), w64 (x := a2 - a0) (by omega) (by omega), w64 (x := a3 - a1) (by omega) (by omega), w64 (x := b2 - b0) (by omega) (by omega), w64 (x := b3 - b1) (by omega) (by omega), w64 (x := a2 - a0 - (b2 - b0)) (by omega) (by omega), w64 (x := a3 - a1 - (b3 - b1)) (by omega) (by omega), w64 (x := a4 + b4) (by omega) (by omega), w64 (x := (a4 + b4) * (a4 + b4)) (by omega) (by omega)]
    rw [nearest_f k _ _ _ _ _ (by omega) (by omega) (by omega) (by omega) ⟨by omega, by omega⟩ (by omega), Option.bind_some]
  · have e2 : (mOk a0 a1 a2 a3 a4 && mOk b0 b1 b2 b3 b4) = false := by
      rw [Bool.eq_false_iff]
      intro hh
      exact h (Bool.and_eq_true _ _ ▸ hh)
    rw [e2, if_neg (by simp), if_neg h]
end Go.Proofs.Yteflngoiebgdaaa.GeoImpl
