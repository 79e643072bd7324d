/- The law FloorHits over numbers and lists. -/
import Derived.Test.YtmdmajfgpmopbaaX4
import Derived.Test.YtmdmajfgpmopbaaX32
import Derived.Test.YtmdmajfgpmopbaaFlFirst
import Derived.Test.YtmdmajfgpmopbaaX68
namespace Go.Proofs.Ytmdmajfgpmopbaa.Pure
open Go.RowKit Go.Proofs.YtmdmajfgpmopbaaW.PrintWords Go.Proofs.Ytmdmajfgpmopbaa.X Go.Proofs.Ytmdmajfgpmopbaa.Fl
set_option linter.unusedVariables false
set_option linter.unusedSimpArgs false
theorem great_f (P : List Sp) (U : List Int) : dancestudiolaw43_great.f P U = some (decide (200 < P.length ∨ 200 < U.length)) := by
  unfold dancestudiolaw43_great.f
  by_cases h : 200 < P.length
  · rw [if_pos (by omega), decide_eq_true (Or.inl h)]
  · rw [if_neg (by omega)]
    congr 1
    rw [decide_eq_decide]
    omega
theorem fst_at (W D : Int) (L : List SImpl.Blk) (P : List Sp) (r : Int) : ∀ (m i : Nat), ((fst W D L P r m i).1 = -1 ∨ ((i : Int) ≤ (fst W D L P r m i).1 ∧ (fst W D L P r m i).1 < (i : Int) + (m : Int))) ∧ (fst W D L P r m i).2.1 = 0 ∧ (fst W D L P r m i).2.2.2 = 0 := by
  intro m
  induction m with
  | zero =>
    intro i
    exact ⟨Or.inl rfl, rfl, rfl⟩
  | succ m ih =>
    intro i
    obtain ⟨i1, i2, i3⟩ := ih (i + 1)
    rw [fst]
    by_cases h1 : (cl W D L P r i).1 = true
    · rw [if_pos h1]
      by_cases h2 : (cl W D L P r i).2.1 ≥ 0
      · rw [if_pos h2]
        exact ⟨Or.inr ⟨Int.le_refl _, by show (i : Int) < _; omega⟩, rfl, rfl⟩
      · rw [if_neg h2]
        exact ⟨by omega, i2, i3⟩
    · rw [if_neg h1]
      exact ⟨Or.inr ⟨Int.le_refl _, by show (i : Int) < _; omega⟩, rfl, rfl⟩
theorem fh_l0 (W D : Int) (L : List SImpl.Blk) (hs : SImpl.chk W D L = 0) (P : List Sp) (U : List Int) (h : chk P U = 0) (r : Int) (h0 : 0 ≤ r) (h1 : r ≤ 32768) (x0 x1 x2 : Int) : ∀ (m i k : Nat), i + m = U.length → m + 90 < k →
    (x0, x1, x2, (0 : Int)) = fst W D L P r m i → dancestudiolaw43_FloorHits.l0 k r (i : Int) W D L P U x0 x1 x2 = some true := by
  obtain ⟨c1, c2, c3, _, _⟩ := chk_ok h
  intro m
  induction m with
  | zero =>
    intro i k hi hk hx
    obtain ⟨k, rfl⟩ : ∃ m, k = m + 1 := ⟨k - 1, by omega⟩
    obtain ⟨rfl, rfl, rfl, _⟩ : x0 = -1 ∧ x1 = 0 ∧ x2 = 0 ∧ True := by
      unfold fst at hx
      simp only [Prod.mk.injEq] at hx
      exact ⟨hx.1, hx.2.1, hx.2.2.1, trivial⟩
    rw [dancestudiolaw43_FloorHits.l0, if_neg (by omega)]
    rfl
  | succ m ih =>
    intro i k hi hk hx
    obtain ⟨k, rfl⟩ : ∃ m, k = m + 1 := ⟨k - 1, by omega⟩
    have hc := cl_ok hs h h0 h1 (show i + 1 < P.length by omega)
    rw [dancestudiolaw43_FloorHits.l0, if_pos (by omega), if_pos (by omega), if_pos (by omega), w64 (x := (i : Int) + 1) (by omega) (by omega), if_pos (by omega), if_pos (by omega), show (i : Int) + 1 = ((i + 1 : Nat) : Int) by omega]
    have he : stage_Clear.f k W D L (rd_T53 P (i : Int)).f0.f0 (rd_T53 P (i : Int)).f0.f1 (rd_T53 P ((i + 1 : Nat) : Int)).f0.f0 (rd_T53 P ((i + 1 : Nat) : Int)).f0.f1 r = some (cl W D L P r i) := SImpl.clear_f k W D L _ _ _ _ _ (by omega)
    rw [he, Option.bind_some, if_pos hc]
    rw [fst] at hx
    by_cases g1 : (cl W D L P r i).1 = true
    · rw [if_pos g1] at hx
      by_cases g2 : (cl W D L P r i).2.1 ≥ 0
      · rw [if_pos g2] at hx
        simp only [Prod.mk.injEq] at hx
        rw [if_pos hx.1.symm, if_pos g1, if_pos g2, if_pos hx.2.2.1]
        rfl
      · rw [if_neg g2] at hx
        have hat := (fst_at W D L P r m (i + 1)).1
        rw [← hx] at hat
        rw [if_neg (show ¬ (i : Int) = x0 by intro e; subst e; rcases hat with hat | hat <;> simp only at hat <;> omega), if_pos g1, if_neg g2]
        exact ih (i + 1) k (by omega) (by omega) hx
    · rw [if_neg g1] at hx
      simp only [Prod.mk.injEq] at hx
      rw [if_pos hx.1.symm, if_neg g1, if_pos hx.2.2.1]
      rfl
theorem FloorHits (W D : Int) (L : List SImpl.Blk) (P : List Sp) (U : List Int) (r : Int) : ∃ k, X.dancestudiolaw43_FloorHits.f k W D L P U r = some true := by
  refine ⟨20000, ?_⟩
  generalize hk : 20000 = k
  unfold dancestudiolaw43_FloorHits.f
  rw [great_f, Option.bind_some]
  by_cases hg : 200 < P.length ∨ 200 < U.length
  · rw [decide_eq_true hg, if_pos rfl]
    rfl
  · rw [decide_eq_false hg, if_neg (by simp), ff_f k W D L P U r (by omega) (by omega) (by omega), Option.bind_some]
    by_cases hs : SImpl.chk W D L = 0
    · by_cases h : chk P U = 0
      · obtain ⟨c1, c2, c3, _, _⟩ := chk_ok h
        by_cases hr : 0 ≤ r ∧ r ≤ 32768
        · have hv : fstV W D L P U r = fst W D L P r U.length 0 := by
            unfold fstV
            rw [if_pos hs, if_pos h, if_pos hr]
          obtain ⟨a1, a2, a3⟩ := fst_at W D L P r U.length 0
          have hf := fh_l0 W D L hs P U h r hr.1 hr.2 (fst W D L P r U.length 0).1 (fst W D L P r U.length 0).2.1 (fst W D L P r U.length 0).2.2.1 U.length 0 k (by omega) (by omega) (by rw [← a3])
          rw [hv, if_pos a3, if_neg (by omega), if_neg (by omega), w64 (x := (U.length : Int) + 1) (by omega) (by omega), if_pos (by omega), if_pos a2]
          exact hf
        · have hv : fstV W D L P U r = (0, 0, 0, 1) := by
            unfold fstV
            rw [if_pos hs, if_pos h, if_neg hr]
          rw [hv]
          rfl
      · have hv : fstV W D L P U r = (0, 0, 0, chk P U) := by
          unfold fstV
          rw [if_pos hs, if_neg h]
        rw [hv, if_neg h]
        rfl
    · have hv : fstV W D L P U r = (0, 0, 0, SImpl.chk W D L) := by
        unfold fstV
        rw [if_neg hs]
      rw [hv, if_neg hs]
      rfl
end Go.Proofs.Ytmdmajfgpmopbaa.Pure
