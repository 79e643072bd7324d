/- Collide: distances, as printed. -/
import Derived.Test.YteflngoiebgdaaaX27
import Derived.Test.YteflngoiebgdaaaX13
import Derived.Test.YteflngoiebgdaaaClMeet
namespace Go.Proofs.Yteflngoiebgdaaa.Cl
open Go.RowKit Go.Proofs.YteflngoiebgdaaaW.PrintWords Go.Proofs.Yteflngoiebgdaaa.X Go.Proofs.Yteflngoiebgdaaa.Fl Go.Proofs.Yteflngoiebgdaaa.GeoImpl Go.Proofs.Yteflngoiebgdaaa.Geo
set_option linter.unusedVariables false
set_option linter.unusedSimpArgs false
/-! ### distances -/
def d2 (a b c d : Int) : Int := (a - c) * (a - c) + (b - d) * (b - d)
def dst (l : List Mv) (t : Int) (p : Nat × Nat) : Int := d2 (at_ l (p.1 : Int) t).f0 (at_ l (p.1 : Int) t).f1 (at_ l (p.2 : Int) t).f0 (at_ l (p.2 : Int) t).f1
theorem on_pOk {x y : Int} (h : -32768 ≤ x ∧ x ≤ 32768 ∧ -32768 ≤ y ∧ y ≤ 32768) : pOk x y = true := (pOk_iff x y).2 h
theorem dist2_f (k : Nat) (a b c d : Int) (h1 : -32768 ≤ a ∧ a ≤ 32768 ∧ -32768 ≤ b ∧ b ≤ 32768) (h2 : -32768 ≤ c ∧ c ≤ 32768 ∧ -32768 ≤ d ∧ d ≤ 32768) (hk : 20 ≤ k) : geom_Dist2.f k a b c d = some (d2 a b c d, 0) := by
  unfold geom_Dist2.f
  rw [valid_f k _ _ (by simp) (by simp) (by simp; omega), Option.bind_some]
  simp only [List.all_cons, List.all_nil, Bool.and_true]
  rw [on_pOk h1, on_pOk h2, if_pos (by rfl)]
  unfold geom_minus.f
  rw [Option.bind_some]
  dsimp only
  rw [w64 (x := a - c) (by omega) (by omega), w64 (x := b - d) (by omega) (by omega), (dot_f (a - c) (b - d) (a - c) (b - d) (by omega) (by omega) (by omega) (by omega)).1, Option.bind_some]
  rfl
theorem at_on {l : List Mv} {r : List Int} {c : List Ct} (hg : Good l r c) (a : Nat) (ha : a < l.length) (t : Int) (h0 : 0 ≤ t) (h1 : t ≤ tks l) : -32768 ≤ (at_ l (a : Int) t).f0 ∧ (at_ l (a : Int) t).f0 ≤ 32768 ∧ -32768 ≤ (at_ l (a : Int) t).f1 ∧ (at_ l (a : Int) t).f1 ≤ 32768 := by
  obtain ⟨ma, _, on, _, _⟩ := hg.mov a ha
  refine on _ ?_
  unfold rd_T54
  rw [List.getD_eq_getElem?_getD, List.getElem?_eq_getElem (by omega)]
  exact List.getElem_mem _
end Go.Proofs.Yteflngoiebgdaaa.Cl
