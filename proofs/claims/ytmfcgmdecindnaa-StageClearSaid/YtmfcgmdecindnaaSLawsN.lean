/- What the laws of stage share. -/
import Derived.Test.YtmfcgmdecindnaaX20
import Derived.Test.YtmfcgmdecindnaaX19
import Derived.Test.YtmfcgmdecindnaaSImpl
import Derived.Test.YtmfcgmdecindnaaXOpen
import Derived.Test.YtmfcgmdecindnaaX21
import Derived.Test.YtmfcgmdecindnaaX2
namespace Go.Proofs.Ytmfcgmdecindnaa.SImpl
open Go.RowKit Go.Proofs.YtmfcgmdecindnaaW.PrintWords Go.Proofs.Ytmfcgmdecindnaa.X Go.Proofs.Ytmfcgmdecindnaa.Geo Go.Proofs.Ytmfcgmdecindnaa.GeoImpl
set_option linter.unusedVariables false
set_option linter.unusedSimpArgs false
def hallL : List Blk := [⟨⟨0, 400⟩, 100⟩]
theorem hall_f : dancestudiolaw42_hall.f = some (1000, 800, hallL) := rfl
theorem disc_f (a b c d : Int) : dancestudiolaw42_disc.f a b c d = some (a, b, c, d, 100) := rfl
theorem awake_f (k : Nat) (hk : 210 ≤ k) : dancestudiolaw42_awake.f k = some true := by
  unfold dancestudiolaw42_awake.f
  rw [hall_f, Option.bind_some, Inside_f k _ _ _ _ _ _ (by omega), Option.bind_some, Option.bind_some, Inside_f k _ _ _ _ _ _ (by omega), Option.bind_some, Option.bind_some, Inside_f k _ _ _ _ _ _ (by omega), Option.bind_some]
  rw [if_pos (by decide), if_pos (by decide), if_pos (by decide), if_pos (by decide), if_neg (by decide), if_pos (by decide)]
  rw [Option.bind_some, disc_f, disc_f, disc_f, Option.bind_some, clear_f k _ _ _ _ _ _ _ _ (by omega), Option.bind_some, Option.bind_some, Option.bind_some, clear_f k _ _ _ _ _ _ _ _ (by omega), Option.bind_some, Option.bind_some, Option.bind_some, clear_f k _ _ _ _ _ _ _ _ (by omega), Option.bind_some]
  rw [if_pos (by decide), if_pos (by decide), if_pos (by decide), if_pos (by decide), if_pos (by decide), if_neg (by decide), if_pos (by decide), if_pos (by decide), if_pos (by decide)]
  rw [Option.bind_some, Option.bind_some, if_pos (by decide), check_f k _ _ _ (by omega), Option.bind_some, if_pos (by decide), check_f k _ _ _ (by omega), Option.bind_some, if_pos (by decide), Option.bind_some, check_f k _ _ _ (by omega), Option.bind_some]
  rfl
theorem great_f (W D : Int) (L : List Blk) : dancestudiolaw42_great.f W D L = some (decide ((L.length : Int) > 30)) := rfl
theorem inB_less (W D x y r : Int) (h : inB W D x y r = true) : inB W D x y (r - 1) = true := by
  have := (inB_iff W D x y r).1 h
  exact (inB_iff _ _ _ _ _).2 (by omega)
theorem tch_less (m0 m1 m2 m3 m4 b0 b1 b2 b3 b4 : Int) (hm : mOk m0 m1 m2 m3 m4 = true) (h1 : 1 ≤ m4) (h : (tch m0 m1 m2 m3 (m4 - 1) b0 b1 b2 b3 b4).1 = true) : (tch m0 m1 m2 m3 m4 b0 b1 b2 b3 b4).1 = true := by
  unfold tch at h ⊢
  by_cases c : mOk m0 m1 m2 m3 (m4 - 1) = true ∧ mOk b0 b1 b2 b3 b4 = true
  · rw [if_pos c] at h
    rw [if_pos ⟨hm, c.2⟩]
    simp only at h ⊢
    have hb := (mOk_iff _ _ _ _ _).1 c.2
    have h' := of_decide_eq_true h
    refine decide_eq_true (nr_mono _ _ _ _ _ _ ?_ h')
    exact Int.mul_le_mul (by omega) (by omega) (by omega) (by omega)
  · rw [if_neg c] at h
    simp at h
theorem hit_range (m0 m1 m2 m3 m4 : Int) : ∀ (L : List Blk) (i : Int), 0 ≤ i → hit m0 m1 m2 m3 m4 L i = -1 ∨ (i ≤ hit m0 m1 m2 m3 m4 L i ∧ hit m0 m1 m2 m3 m4 L i < i + L.length) := by
  intro L
  induction L with
  | nil => intro i _; exact .inl rfl
  | cons b r ih =>
    intro i hi
    simp only [hit, List.length_cons]
    split
    · exact .inr ⟨by omega, by omega⟩
    · rcases ih (i + 1) (by omega) with h | h
      · exact .inl h
      · exact .inr ⟨by omega, by omega⟩
theorem hit_less (m0 m1 m2 m3 m4 : Int) (hm : mOk m0 m1 m2 m3 m4 = true) (h1 : 1 ≤ m4) : ∀ (L : List Blk) (i : Int), 0 ≤ i → hit m0 m1 m2 m3 (m4 - 1) L i < 0 ∨ (0 ≤ hit m0 m1 m2 m3 m4 L i ∧ hit m0 m1 m2 m3 m4 L i ≤ hit m0 m1 m2 m3 (m4 - 1) L i) := by
  intro L
  induction L with
  | nil => intro i _; exact .inl (by simp [hit])
  | cons b r ih =>
    intro i hi
    simp only [hit]
    by_cases c : (tch m0 m1 m2 m3 (m4 - 1) b.f0.f0 b.f0.f1 b.f0.f0 b.f0.f1 b.f1).1 = true
    · rw [if_pos c, if_pos (tch_less _ _ _ _ _ _ _ _ _ _ hm h1 c)]
      exact .inr ⟨hi, by omega⟩
    · rw [if_neg c]
      split
      · rcases hit_range m0 m1 m2 m3 (m4 - 1) r (i + 1) (by omega) with h | h
        · exact .inl (by omega)
        · exact .inr ⟨hi, by omega⟩
      · exact ih (i + 1) (by omega)
end Go.Proofs.Ytmfcgmdecindnaa.SImpl
