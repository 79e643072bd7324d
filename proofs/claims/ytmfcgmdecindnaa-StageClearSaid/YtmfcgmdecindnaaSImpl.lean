/- The package stage, as printed. -/
import Derived.Test.YtmfcgmdecindnaaX6
import Derived.Test.YtmfcgmdecindnaaX5
import Derived.Test.YtmfcgmdecindnaaX4
import Derived.Test.YtmfcgmdecindnaaX3
import Derived.Test.YtmfcgmdecindnaaX18
import Derived.Test.YtmfcgmdecindnaaGeoImpl
namespace Go.Proofs.Ytmfcgmdecindnaa.SImpl
open Go.RowKit Go.Proofs.YtmfcgmdecindnaaW.PrintWords Go.Proofs.Ytmfcgmdecindnaa.X Go.Proofs.Ytmfcgmdecindnaa.Geo Go.Proofs.Ytmfcgmdecindnaa.GeoImpl
set_option linter.unusedVariables false
set_option linter.unusedSimpArgs false
abbrev Blk := S41
theorem rdB_of_drop {l : List Blk} {i : Nat} {x : Blk} {r : List Blk} (h : l.drop i = x :: r) : rd_T41 l (i : Int) = x ∧ i < l.length ∧ l.drop (i + 1) = r := by
  have hi : i < l.length := by
    apply Nat.lt_of_not_le
    intro hh
    rw [List.drop_of_length_le hh] at h
    cases h
  rw [List.drop_eq_getElem_cons hi] at h
  simp only [List.cons.injEq] at h
  refine ⟨?_, hi, h.2⟩
  unfold rd_T41
  simp only [Int.toNat_natCast]
  rw [List.getD_eq_getElem?_getD, List.getElem?_eq_getElem hi]
  exact h.1
/-- Does a disc lie on the stage. -/
def inB (W D x y r : Int) : Bool := decide (-(W / 2) ≤ x - r) && decide (x + r ≤ W / 2) && decide (0 ≤ y - r) && decide (y + r ≤ D)
theorem inB_iff (W D x y r : Int) : inB W D x y r = true ↔ -(W / 2) ≤ x - r ∧ x + r ≤ W / 2 ∧ 0 ≤ y - r ∧ y + r ≤ D := by
  simp [inB, and_assoc]
def wdOk (W D : Int) : Prop := W % 2 = 0 ∧ 2 ≤ W ∧ W ≤ 65536 ∧ 1 ≤ D ∧ D ≤ 32768
instance (W D : Int) : Decidable (wdOk W D) := by unfold wdOk; exact inferInstance
def blkOk (W D : Int) (b : Blk) : Bool := inB W D b.f0.f0 b.f0.f1 0 && decide (1 ≤ b.f1) && decide (b.f1 ≤ 32768)
theorem blkOk_iff (W D : Int) (b : Blk) : blkOk W D b = true ↔ (-(W / 2) ≤ b.f0.f0 ∧ b.f0.f0 ≤ W / 2 ∧ 0 ≤ b.f0.f1 ∧ b.f0.f1 ≤ D) ∧ 1 ≤ b.f1 ∧ b.f1 ≤ 32768 := by
  unfold blkOk
  rw [Bool.and_eq_true, Bool.and_eq_true, inB_iff]
  simp [and_assoc]
/-- What Check returns. -/
def chk (W D : Int) (L : List Blk) : Int := if wdOk W D then (if L.length > 16 then 3 else if L.all (blkOk W D) = true then 0 else 29) else 29
theorem half (W : Int) (h : 2 ≤ W) (h1 : W ≤ 65536) (h2 : W % 2 = 0) : wrap64 (Int.tdiv (wrap64 (-W)) 2) = -(W / 2) ∧ wrap64 (Int.tdiv W 2) = W / 2 := by
  rw [w64 (x := -W) (by omega) (by omega), Int.neg_tdiv, Int.tdiv_eq_ediv_of_nonneg (by omega)]
  exact ⟨w64 (by omega) (by omega), w64 (by omega) (by omega)⟩
theorem on_f (W D : Int) (L : List Blk) (x y r : Int) (h : wdOk W D) (hp : -32768 ≤ x ∧ x ≤ 32768 ∧ -32768 ≤ y ∧ y ≤ 32768) (hr : 0 ≤ r ∧ r ≤ 32768) : stage_on.f W D L x y r = some (inB W D x y r) := by
  obtain ⟨h1, h2, h3, h4, h5⟩ := h
  obtain ⟨e1, e2⟩ := half W h2 h3 h1
  unfold stage_on.f inB
  rw [e1, e2, w64 (x := x - r) (by omega) (by omega), w64 (x := x + r) (by omega) (by omega), w64 (x := y - r) (by omega) (by omega), w64 (x := y + r) (by omega) (by omega)]
  by_cases c1 : -(W / 2) ≤ x - r
  · rw [if_pos c1, decide_eq_true c1]
    by_cases c2 : x + r ≤ W / 2
    · rw [if_pos c2, decide_eq_true c2]
      by_cases c3 : 0 ≤ y - r
      · rw [if_pos c3, decide_eq_true c3]; rfl
      · rw [if_neg c3, decide_eq_false c3]; rfl
    · rw [if_neg c2, decide_eq_false c2]; rfl
  · rw [if_neg c1, decide_eq_false c1]; rfl
theorem far_f (x y : Int) : stage_far.f x y = some (!pOk x y) := by
  unfold stage_far.f
  by_cases h : pOk x y = true
  · have h' := (pOk_iff x y).1 h
    rw [h, if_neg (by omega), if_neg (by omega), if_neg (by omega), decide_eq_false (by omega)]; rfl
  · have h' : ¬ (-32768 ≤ x ∧ x ≤ 32768 ∧ -32768 ≤ y ∧ y ≤ 32768) := fun hh => h ((pOk_iff x y).2 hh)
    rw [show pOk x y = false by simpa using h]
    split
    · rfl
    · split
      · rfl
      · split
        · rfl
        · rw [decide_eq_true (by omega)]; rfl
theorem check_l0 (W D : Int) (h : wdOk W D) (L M : List Blk) (hL : L.length ≤ 1000) : ∀ (r : List Blk) (i k : Nat), L.drop i = r → r.length < k → stage_Check.l0 k L (L.length : Int) (i : Int) W D M = some (if r.all (blkOk W D) = true then 0 else 29) := by
  intro r
  induction r with
  | nil =>
    intro i k hr hk
    obtain ⟨k, rfl⟩ : ∃ m, k = m + 1 := ⟨k - 1, by omega⟩
    have : L.length ≤ i := by simpa using hr
    simp only [stage_Check.l0]
    rw [if_neg (by omega)]
    rfl
  | cons b r ih =>
    intro i k hr hk
    simp only [List.length_cons] at hk
    obtain ⟨k, rfl⟩ : ∃ m, k = m + 1 := ⟨k - 1, by omega⟩
    obtain ⟨h1, h2, h3⟩ := rdB_of_drop hr
    simp only [stage_Check.l0]
    rw [if_pos (by omega), if_pos (by omega), if_pos (by omega), h1, far_f, Option.bind_some, List.all_cons]
    obtain ⟨w1, w2, w3, w4, w5⟩ := h
    by_cases c : blkOk W D b = true
    · have c' := (blkOk_iff W D b).1 c
      have hp : pOk b.f0.f0 b.f0.f1 = true := (pOk_iff _ _).2 (by omega)
      rw [hp, if_neg (by simp), on_f W D M _ _ 0 ⟨w1, w2, w3, w4, w5⟩ (by omega) (by omega), Option.bind_some, if_pos ((inB_iff _ _ _ _ _).2 (by omega)), if_neg (by omega), if_neg (by omega), if_neg (by simp; omega), w64 (by omega) (by omega), show (i : Int) + 1 = ((i + 1 : Nat) : Int) by omega, ih (i + 1) k h3 (by omega), c, Bool.true_and]
    · have c' : ¬ _ := fun hh => c ((blkOk_iff W D b).2 hh)
      rw [show blkOk W D b = false by simpa using c, Bool.false_and, if_neg (show ¬ (false = true) by simp)]
      by_cases c1 : pOk b.f0.f0 b.f0.f1 = true
      · have c1' := (pOk_iff _ _).1 c1
        rw [c1, if_neg (by simp), on_f W D M _ _ 0 ⟨w1, w2, w3, w4, w5⟩ (by omega) (by omega), Option.bind_some]
        by_cases c2 : inB W D b.f0.f0 b.f0.f1 0 = true
        · have c2' := (inB_iff _ _ _ _ _).1 c2
          rw [if_pos c2]
          by_cases c3 : b.f1 < 1
          · rw [if_pos c3]
          · rw [if_neg c3, if_pos]
            apply Int.lt_of_not_ge
            intro c4
            exact c' ⟨by omega, by omega, by omega⟩
        · rw [if_neg c2]
      · rw [show pOk b.f0.f0 b.f0.f1 = false by simpa using c1, if_pos (by rfl)]
theorem check_f (k : Nat) (W D : Int) (L : List Blk) (hk : 40 ≤ k) : stage_Check.f k W D L = some (chk W D L) := by
  obtain ⟨k, rfl⟩ : ∃ m, k = m + 1 := ⟨k - 1, by omega⟩
  have hm : Int.tmod W 2 = 0 ↔ W % 2 = 0 := by
    rcases Int.le_total 0 W with h | h
    · rw [Int.tmod_eq_emod_of_nonneg h]
    · have e := Int.neg_tmod (a := -W) (b := 2)
      rw [Int.neg_neg, Int.tmod_eq_emod_of_nonneg (a := -W) (by omega)] at e
      omega
  have bad : ∀ k', 1 ≤ k' → stage_Check.j0 k' true W D L = some 29 := by
    intro k' hk'
    obtain ⟨k', rfl⟩ : ∃ m, k' = m + 1 := ⟨k' - 1, by omega⟩
    simp only [stage_Check.j0]
    rw [if_pos trivial]
  unfold stage_Check.f chk
  by_cases h : wdOk W D
  · obtain ⟨w1, w2, w3, w4, w5⟩ := h
    rw [if_pos (show wdOk W D from ⟨w1, w2, w3, w4, w5⟩), if_pos (hm.2 w1), if_neg (by omega), if_neg (by omega), if_neg (by omega), decide_eq_false (by omega)]
    simp only [stage_Check.j0]
    rw [if_neg (by simp)]
    by_cases c : L.length > 16
    · rw [if_pos (by omega), if_pos c]
    · rw [if_neg (by omega), if_neg c]
      exact check_l0 W D ⟨w1, w2, w3, w4, w5⟩ L L (by omega) L 0 k (by simp) (by omega)
  · rw [if_neg h]
    unfold wdOk at h
    by_cases c1 : Int.tmod W 2 = 0
    · rw [if_pos c1]
      have := hm.1 c1
      by_cases c2 : W < 2
      · rw [if_pos c2]; exact bad _ (by omega)
      · rw [if_neg c2]
        by_cases c3 : W > 65536
        · rw [if_pos c3]; exact bad _ (by omega)
        · rw [if_neg c3]
          by_cases c4 : D < 1
          · rw [if_pos c4]; exact bad _ (by omega)
          · rw [if_neg c4, decide_eq_true (by omega)]; exact bad _ (by omega)
    · rw [if_neg c1]; exact bad _ (by omega)
theorem chk_ok {W D : Int} {L : List Blk} (h : chk W D L = 0) : wdOk W D ∧ L.length ≤ 16 ∧ L.all (blkOk W D) = true := by
  unfold chk at h
  split at h
  · rename_i h1
    split at h
    · omega
    · rename_i h2
      split at h
      · rename_i h3
        exact ⟨h1, by omega, h3⟩
      · omega
  · omega
/-- What Inside returns. -/
def ins (W D : Int) (L : List Blk) (x y r : Int) : Bool × Int :=
  if chk W D L = 0 then (if pOk x y = true ∧ rOk r = true then (inB W D x y r, 0) else (false, 1)) else (false, chk W D L)
theorem Inside_f (k : Nat) (W D : Int) (L : List Blk) (x y r : Int) (hk : 40 ≤ k) : stage_Inside.f k W D L x y r = some (ins W D L x y r) := by
  unfold stage_Inside.f ins
  rw [check_f k W D L hk, Option.bind_some]
  by_cases h : chk W D L = 0
  · rw [if_pos h, if_pos h, far_f, Option.bind_some]
    by_cases c : pOk x y = true
    · have c' := (pOk_iff x y).1 c
      rw [c, if_neg (by simp)]
      by_cases c2 : rOk r = true
      · have c2' := (rOk_iff r).1 c2
        rw [if_neg (by omega), if_neg (by omega), if_pos ⟨rfl, c2⟩, on_f W D L x y r (chk_ok h).1 c' c2', Option.bind_some]
      · have c2' : ¬ (0 ≤ r ∧ r ≤ 32768) := fun hh => c2 ((rOk_iff r).2 hh)
        rw [if_neg (show ¬ (true = true ∧ rOk r = true) from fun hh => c2 hh.2)]
        by_cases c3 : r < 0
        · rw [if_pos c3]
        · rw [if_neg c3, if_pos (by omega)]
    · rw [show pOk x y = false by simpa using c, if_pos (by rfl), if_neg (by simp)]
  · rw [if_neg h, if_neg h]
def hit (m0 m1 m2 m3 m4 : Int) : List Blk → Int → Int
  | [], _ => -1
  | b :: r, i => if (tch m0 m1 m2 m3 m4 b.f0.f0 b.f0.f1 b.f0.f0 b.f0.f1 b.f1).1 = true then i else hit m0 m1 m2 m3 m4 r (i + 1)
/-- What Clear returns. -/
def clr (W D : Int) (L : List Blk) (m0 m1 m2 m3 m4 : Int) : Bool × Int × Int :=
  if chk W D L = 0 then (if mOk m0 m1 m2 m3 m4 = true then (inB W D m0 m1 m4 && inB W D m2 m3 m4, hit m0 m1 m2 m3 m4 L 0, 0) else (false, 0, 1)) else (false, 0, chk W D L)
theorem both (a b : Bool) (x : Int) : (if a = true then (some (b, x, (0 : Int))) else some (false, x, 0)) = some (a && b, x, 0) := by cases a <;> rfl
theorem clear_l0 (W D : Int) (h : wdOk W D) (m0 m1 m2 m3 m4 : Int) (hm : mOk m0 m1 m2 m3 m4 = true) (L M : List Blk) (hL : L.length ≤ 1000) : ∀ (r : List Blk) (i k : Nat), L.drop i = r → r.length + 30 < k →
    stage_Clear.l0 k (-1) L (L.length : Int) (i : Int) W D M m0 m1 m2 m3 m4 = some (inB W D m0 m1 m4 && inB W D m2 m3 m4, hit m0 m1 m2 m3 m4 r i, 0) := by
  obtain ⟨g1, g2, g3⟩ := (mOk_iff _ _ _ _ _).1 hm
  intro r
  induction r with
  | nil =>
    intro i k hr hk
    obtain ⟨k, rfl⟩ : ∃ m, k = m + 1 := ⟨k - 1, by omega⟩
    have : L.length ≤ i := by simpa using hr
    simp only [stage_Clear.l0]
    rw [if_neg (by omega), on_f W D M m0 m1 m4 h g1 g3, on_f W D M m2 m3 m4 h g2 g3, Option.bind_some, Option.bind_some, both]
    rfl
  | cons b r ih =>
    intro i k hr hk
    simp only [List.length_cons] at hk
    obtain ⟨k, rfl⟩ : ∃ m, k = m + 1 := ⟨k - 1, by omega⟩
    obtain ⟨h1, h2, h3⟩ := rdB_of_drop hr
    simp only [stage_Clear.l0]
    rw [if_pos (by omega), if_pos (by omega), if_pos (by omega), h1, touch_f k _ _ _ _ _ _ _ _ _ _ (by omega), Option.bind_some]
    by_cases c : (tch m0 m1 m2 m3 m4 b.f0.f0 b.f0.f1 b.f0.f0 b.f0.f1 b.f1).1 = true
    · rw [if_pos c, on_f W D M m0 m1 m4 h g1 g3, on_f W D M m2 m3 m4 h g2 g3, Option.bind_some, Option.bind_some, both]
      simp only [hit]
      rw [if_pos c]
    · rw [if_neg c, w64 (by omega) (by omega), show (i : Int) + 1 = ((i + 1 : Nat) : Int) by omega, ih (i + 1) k h3 (by omega)]
      simp only [hit]
      rw [if_neg c]
      rfl
theorem touch_self (m0 m1 m2 m3 m4 : Int) : (tch m0 m1 m2 m3 m4 m0 m1 m2 m3 m4).2 = if mOk m0 m1 m2 m3 m4 = true then 0 else 1 := by
  unfold tch
  by_cases h : mOk m0 m1 m2 m3 m4 = true
  · rw [if_pos ⟨h, h⟩, if_pos h]
  · rw [if_neg (fun hh => h hh.1), if_neg h]
theorem clear_f (k : Nat) (W D : Int) (L : List Blk) (m0 m1 m2 m3 m4 : Int) (hk : 60 ≤ k) : stage_Clear.f k W D L m0 m1 m2 m3 m4 = some (clr W D L m0 m1 m2 m3 m4) := by
  unfold stage_Clear.f clr
  rw [check_f k W D L (by omega), Option.bind_some]
  by_cases h : chk W D L = 0
  · rw [if_pos h, if_pos h, touch_f k _ _ _ _ _ _ _ _ _ _ (by omega), Option.bind_some, touch_self]
    obtain ⟨c1, c2, c3⟩ := chk_ok h
    by_cases hm : mOk m0 m1 m2 m3 m4 = true
    · rw [if_pos hm, if_pos rfl, if_pos hm]
      exact clear_l0 W D c1 m0 m1 m2 m3 m4 hm L L (by omega) L 0 k (by simp) (by omega)
    · rw [if_neg hm, if_neg (by omega), if_neg hm]
  · rw [if_neg h, if_neg h]
end Go.Proofs.Ytmfcgmdecindnaa.SImpl
