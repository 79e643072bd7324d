/- Check and Inside of the reference of stage, as printed. -/
import Derived.Test.YtmfcgmdecindnaaX27
import Derived.Test.YtmfcgmdecindnaaX26
import Derived.Test.YtmfcgmdecindnaaX23
import Derived.Test.YtmfcgmdecindnaaX22
import Derived.Test.YtmfcgmdecindnaaSImpl
import Derived.Test.YtmfcgmdecindnaaGeoRef
namespace Go.Proofs.Ytmfcgmdecindnaa.SImpl
open Go.RowKit Go.Proofs.YtmfcgmdecindnaaW.PrintWords Go.Proofs.Ytmfcgmdecindnaa.X Go.Proofs.Ytmfcgmdecindnaa.Geo Go.Proofs.Ytmfcgmdecindnaa.GeoImpl
set_option linter.unusedVariables false
set_option linter.unusedSimpArgs false
theorem inside_f (W D : Int) (L : List Blk) (x y r : Int) (h : wdOk W D) (hp : -32768 ≤ x ∧ x ≤ 32768 ∧ -32768 ≤ y ∧ y ≤ 32768) (hr : 0 ≤ r ∧ r ≤ 32768) : dancestudioref42_inside.f W D L x y r = some (inB W D x y r) := by
  obtain ⟨h1, h2, h3, h4, h5⟩ := h
  obtain ⟨e1, e2⟩ := half W h2 h3 h1
  unfold dancestudioref42_inside.f inB
  rw [e1, e2, w64 (x := x - r) (by omega) (by omega), w64 (x := x + r) (by omega) (by omega), w64 (x := y - r) (by omega) (by omega), w64 (x := y + r) (by omega) (by omega)]
  by_cases c1 : -(W / 2) ≤ x - r
  · rw [if_pos c1, decide_eq_true c1]
    by_cases c2 : x + r ≤ W / 2
    · rw [if_pos c2, decide_eq_true c2]
      by_cases c3 : 0 ≤ y - r
      · rw [if_pos c3, decide_eq_true c3]; rfl
      · rw [if_neg c3, decide_eq_false c3]; rfl
    · rw [if_neg c2, decide_eq_false c2]; rfl
  · rw [if_neg c1, decide_eq_false c1]; rfl
theorem rcheck_l0 (W D : Int) (h : wdOk W D) (L : List Blk) (hL : L.length ≤ 1000) : ∀ (r : List Blk) (i k : Nat), L.drop i = r → r.length < k → dancestudioref42_Check.l0 k (i : Int) W D L = some (if r.all (blkOk W D) = true then 0 else 29) := by
  intro r
  induction r with
  | nil =>
    intro i k hr hk
    obtain ⟨k, rfl⟩ : ∃ m, k = m + 1 := ⟨k - 1, by omega⟩
    have : L.length ≤ i := by simpa using hr
    simp only [dancestudioref42_Check.l0]
    rw [if_neg (by omega)]
    rfl
  | cons b r ih =>
    intro i k hr hk
    simp only [List.length_cons] at hk
    obtain ⟨k, rfl⟩ : ∃ m, k = m + 1 := ⟨k - 1, by omega⟩
    obtain ⟨h1, h2, h3⟩ := rdB_of_drop hr
    obtain ⟨w1, w2, w3, w4, w5⟩ := h
    obtain ⟨e1, e2⟩ := half W w2 w3 w1
    simp only [dancestudioref42_Check.l0]
    rw [if_pos (by omega), if_pos (by omega), h1, List.all_cons]
    unfold dancestudioref42_on.f
    rw [e1, e2]
    by_cases c : blkOk W D b = true
    · have c' := (blkOk_iff W D b).1 c
      rw [if_pos (show b.f0.f0 ≥ -(W / 2) by omega), if_pos (show b.f0.f0 ≤ W / 2 by omega), if_pos (show b.f0.f1 ≥ 0 by omega), Option.bind_some, if_pos (decide_eq_true (by omega)), if_neg (by omega), if_neg (by omega), w64 (by omega) (by omega), show (i : Int) + 1 = ((i + 1 : Nat) : Int) by omega, ih (i + 1) k h3 (by omega), c, Bool.true_and]
    · have c' : ¬ ((-(W / 2) ≤ b.f0.f0 ∧ b.f0.f0 ≤ W / 2 ∧ 0 ≤ b.f0.f1 ∧ b.f0.f1 ≤ D) ∧ 1 ≤ b.f1 ∧ b.f1 ≤ 32768) := fun hh => c ((blkOk_iff W D b).2 hh)
      rw [show blkOk W D b = false by simpa using c, Bool.false_and, if_neg (show ¬ (false = true) by simp)]
      by_cases c1 : b.f0.f0 ≥ -(W / 2)
      · rw [if_pos c1]
        by_cases c2 : b.f0.f0 ≤ W / 2
        · rw [if_pos c2]
          by_cases c3 : b.f0.f1 ≥ 0
          · rw [if_pos c3, Option.bind_some]
            by_cases c4 : b.f0.f1 ≤ D
            · rw [if_pos (decide_eq_true c4)]
              by_cases c5 : b.f1 < 1
              · rw [if_pos c5]
              · rw [if_neg c5, if_pos (by omega)]
            · rw [decide_eq_false c4, if_neg (by simp)]
          · rw [if_neg c3, Option.bind_some, if_neg (by simp)]
        · rw [if_neg c2, Option.bind_some, if_neg (by simp)]
      · rw [if_neg c1, Option.bind_some, if_neg (by simp)]
theorem rcheck_f (k : Nat) (W D : Int) (L : List Blk) (hk : 40 ≤ k) : dancestudioref42_Check.f k W D L = some (chk W D L) := by
  obtain ⟨k, rfl⟩ : ∃ m, k = m + 1 := ⟨k - 1, by omega⟩
  have hm : Int.tmod W 2 = 0 ↔ W % 2 = 0 := by
    rcases Int.le_total 0 W with h | h
    · rw [Int.tmod_eq_emod_of_nonneg h]
    · have e := Int.neg_tmod (a := -W) (b := 2)
      rw [Int.neg_neg, Int.tmod_eq_emod_of_nonneg (a := -W) (by omega)] at e
      omega
  have bad : ∀ k', 1 ≤ k' → dancestudioref42_Check.j0 k' true W D L = some 29 := by
    intro k' hk'
    obtain ⟨k', rfl⟩ : ∃ m, k' = m + 1 := ⟨k' - 1, by omega⟩
    simp only [dancestudioref42_Check.j0]
    rw [if_pos trivial]
  unfold dancestudioref42_Check.f chk
  by_cases h : wdOk W D
  · obtain ⟨w1, w2, w3, w4, w5⟩ := h
    rw [if_pos (show wdOk W D from ⟨w1, w2, w3, w4, w5⟩), if_neg (by omega), if_neg (by omega), if_pos (hm.2 w1), if_neg (by omega), decide_eq_false (by omega)]
    simp only [dancestudioref42_Check.j0]
    rw [if_neg (by simp)]
    by_cases c : L.length > 16
    · rw [if_pos (by omega), if_pos c]
    · rw [if_neg (by omega), if_neg c]
      exact rcheck_l0 W D ⟨w1, w2, w3, w4, w5⟩ L (by omega) L 0 k (by simp) (by omega)
  · rw [if_neg h]
    unfold wdOk at h
    by_cases c2 : W < 2
    · rw [if_pos c2]; exact bad _ (by omega)
    · rw [if_neg c2]
      by_cases c3 : W > 65536
      · rw [if_pos c3]; exact bad _ (by omega)
      · rw [if_neg c3]
        by_cases c1 : Int.tmod W 2 = 0
        · rw [if_pos c1]
          have := hm.1 c1
          by_cases c4 : D < 1
          · rw [if_pos c4]; exact bad _ (by omega)
          · rw [if_neg c4, decide_eq_true (by omega)]; exact bad _ (by omega)
        · rw [if_neg c1]; exact bad _ (by omega)
theorem rInside_f (k : Nat) (W D : Int) (L : List Blk) (x y r : Int) (hk : 40 ≤ k) : dancestudioref42_Inside.f k W D L x y r = some (ins W D L x y r) := by
  unfold dancestudioref42_Inside.f ins
  rw [rcheck_f k W D L hk, Option.bind_some]
  by_cases h : chk W D L = 0
  · rw [if_pos h, if_pos h, Valid_f, Option.bind_some]
    by_cases c : pOk x y = true
    · have c' := (pOk_iff x y).1 c
      rw [if_pos c, Radius_f, Option.bind_some]
      by_cases c2 : rOk r = true
      · rw [if_pos c2, if_pos ⟨c, c2⟩, inside_f W D L x y r (chk_ok h).1 c' ((rOk_iff r).1 c2), Option.bind_some]
      · rw [if_neg c2, if_neg (fun hh => c2 hh.2)]
    · rw [if_neg c, if_neg (fun hh => c hh.1)]
  · rw [if_neg h, if_neg h]
end Go.Proofs.Ytmfcgmdecindnaa.SImpl
