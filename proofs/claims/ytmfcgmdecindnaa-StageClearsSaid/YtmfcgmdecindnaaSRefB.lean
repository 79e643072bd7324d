/- Clear of the reference of stage, as printed. -/
import Derived.Test.YtmfcgmdecindnaaX38
import Derived.Test.YtmfcgmdecindnaaGeoRef
import Derived.Test.YtmfcgmdecindnaaSRefA
namespace Go.Proofs.Ytmfcgmdecindnaa.SImpl
open Go.RowKit Go.Proofs.YtmfcgmdecindnaaW.PrintWords Go.Proofs.Ytmfcgmdecindnaa.X Go.Proofs.Ytmfcgmdecindnaa.Geo Go.Proofs.Ytmfcgmdecindnaa.GeoImpl
set_option linter.unusedVariables false
set_option linter.unusedSimpArgs false
theorem rclear_end (W D : Int) (h : wdOk W D) (m0 m1 m2 m3 m4 : Int) (hm : mOk m0 m1 m2 m3 m4 = true) (L : List Blk) (x i : Int) (k : Nat) (hk : 2 ≤ k) :
    dancestudioref42_Clear.j1 k x i false W D L m0 m1 m2 m3 m4 = some (inB W D m0 m1 m4 && inB W D m2 m3 m4, x, 0) := by
  obtain ⟨g1, g2, g3⟩ := (mOk_iff _ _ _ _ _).1 hm
  obtain ⟨k, rfl⟩ : ∃ m, k = m + 1 := ⟨k - 1, by omega⟩
  simp only [dancestudioref42_Clear.j1]
  rw [if_neg (by simp), inside_f W D L m0 m1 m4 h g1 g3, inside_f W D L m2 m3 m4 h g2 g3, Option.bind_some, Option.bind_some, both]
theorem rclear_l0 (W D : Int) (h : wdOk W D) (m0 m1 m2 m3 m4 : Int) (hm : mOk m0 m1 m2 m3 m4 = true) (L : List Blk) (hL : L.length ≤ 1000) : ∀ (r : List Blk) (i k : Nat), L.drop i = r → 2 * r.length + 30 < k →
    dancestudioref42_Clear.l0 k (-1) (i : Int) W D L m0 m1 m2 m3 m4 = some (inB W D m0 m1 m4 && inB W D m2 m3 m4, hit m0 m1 m2 m3 m4 r i, 0) := by
  intro r
  induction r with
  | nil =>
    intro i k hr hk
    obtain ⟨k, rfl⟩ : ∃ m, k = m + 1 := ⟨k - 1, by omega⟩
    have : L.length ≤ i := by simpa using hr
    simp only [dancestudioref42_Clear.l0]
    rw [if_neg (by omega), rclear_end W D h m0 m1 m2 m3 m4 hm L _ _ k (by omega)]
    rfl
  | cons b r ih =>
    intro i k hr hk
    simp only [List.length_cons] at hk
    obtain ⟨k, rfl⟩ : ∃ m, k = m + 2 := ⟨k - 2, by omega⟩
    obtain ⟨h1, h2, h3⟩ := rdB_of_drop hr
    simp only [dancestudioref42_Clear.l0]
    rw [if_pos (by omega), decide_eq_true (by omega)]
    simp only [dancestudioref42_Clear.j1]
    rw [if_pos trivial, if_pos (by omega), if_pos (by omega), h1, rtouch_f k _ _ _ _ _ _ _ _ _ _ (by omega), Option.bind_some, w64 (by omega) (by omega), show (i : Int) + 1 = ((i + 1 : Nat) : Int) by omega]
    by_cases c : (tch m0 m1 m2 m3 m4 b.f0.f0 b.f0.f1 b.f0.f0 b.f0.f1 b.f1).1 = true
    · rw [if_pos c]
      obtain ⟨k, rfl⟩ : ∃ m, k = m + 1 := ⟨k - 1, by omega⟩
      simp only [dancestudioref42_Clear.l0]
      simp only [hit]
      rw [if_pos c, decide_eq_false (by omega)]
      split <;> exact rclear_end W D h m0 m1 m2 m3 m4 hm L _ _ k (by omega)
    · rw [if_neg c, ih (i + 1) k h3 (by omega)]
      simp only [hit]
      rw [if_neg c]
      rfl
theorem rclear_f (k : Nat) (W D : Int) (L : List Blk) (m0 m1 m2 m3 m4 : Int) (hk : 80 ≤ k) : dancestudioref42_Clear.f k W D L m0 m1 m2 m3 m4 = some (clr W D L m0 m1 m2 m3 m4) := by
  unfold dancestudioref42_Clear.f clr
  rw [rcheck_f k W D L (by omega), Option.bind_some]
  by_cases h : chk W D L = 0
  · rw [if_pos h, if_pos h, rtouch_f k _ _ _ _ _ _ _ _ _ _ (by omega), Option.bind_some, touch_self]
    obtain ⟨c1, c2, c3⟩ := chk_ok h
    by_cases hm : mOk m0 m1 m2 m3 m4 = true
    · rw [if_pos hm, if_pos rfl, if_pos hm]
      exact rclear_l0 W D c1 m0 m1 m2 m3 m4 hm L (by omega) L 0 k (by simp) (by omega)
    · rw [if_neg hm, if_neg (by omega), if_neg hm]
  · rw [if_neg h, if_neg h]
end Go.Proofs.Ytmfcgmdecindnaa.SImpl
