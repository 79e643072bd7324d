/- What a box is: all points lie in it, each side has a point. -/
import Derived.Test.YtmdmajfgpmopbaaFlBox
namespace Go.Proofs.Ytmdmajfgpmopbaa.Fl
open Go.RowKit Go.Proofs.YtmdmajfgpmopbaaW.PrintWords Go.Proofs.Ytmdmajfgpmopbaa.X
set_option linter.unusedVariables false
set_option linter.unusedSimpArgs false
theorem mn_spec (a b : Int) : mn a b ≤ a ∧ mn a b ≤ b ∧ (mn a b = a ∨ mn a b = b) := by unfold mn; split <;> omega
theorem mx_spec (a b : Int) : a ≤ mx a b ∧ b ≤ mx a b ∧ (mx a b = a ∨ mx a b = b) := by unfold mx; split <;> omega
theorem box_in : ∀ (s : List Sp) (a b c d : Int),
    ((box s a b c d).1 ≤ a ∧ (box s a b c d).2.1 ≤ b ∧ c ≤ (box s a b c d).2.2.1 ∧ d ≤ (box s a b c d).2.2.2) ∧
    (∀ p ∈ s, (box s a b c d).1 ≤ p.f0.f0 ∧ (box s a b c d).2.1 ≤ p.f0.f1 ∧ p.f0.f0 ≤ (box s a b c d).2.2.1 ∧ p.f0.f1 ≤ (box s a b c d).2.2.2) ∧
    ((box s a b c d).1 = a ∨ ∃ p ∈ s, p.f0.f0 = (box s a b c d).1) ∧ ((box s a b c d).2.1 = b ∨ ∃ p ∈ s, p.f0.f1 = (box s a b c d).2.1) ∧
    ((box s a b c d).2.2.1 = c ∨ ∃ p ∈ s, p.f0.f0 = (box s a b c d).2.2.1) ∧ ((box s a b c d).2.2.2 = d ∨ ∃ p ∈ s, p.f0.f1 = (box s a b c d).2.2.2) := by
  intro s
  induction s with
  | nil =>
    intro a b c d
    exact ⟨⟨Int.le_refl _, Int.le_refl _, Int.le_refl _, Int.le_refl _⟩, fun _ h => absurd h List.not_mem_nil, Or.inl rfl, Or.inl rfl, Or.inl rfl, Or.inl rfl⟩
  | cons p l ih =>
    intro a b c d
    obtain ⟨⟨i1, i2, i3, i4⟩, i5, i6, i7, i8, i9⟩ := ih (mn a p.f0.f0) (mn b p.f0.f1) (mx c p.f0.f0) (mx d p.f0.f1)
    rw [box]
    obtain ⟨a1, a2, a3⟩ := mn_spec a p.f0.f0
    obtain ⟨b1, b2, b3⟩ := mn_spec b p.f0.f1
    obtain ⟨c1, c2, c3⟩ := mx_spec c p.f0.f0
    obtain ⟨d1, d2, d3⟩ := mx_spec d p.f0.f1
    have side : ∀ {v w u : Int} {f : Sp → Int}, (v = w ∨ ∃ q ∈ l, f q = v) → (w = u ∨ w = f p) → (v = u ∨ ∃ q ∈ p :: l, f q = v) := by
      intro v w u f h1 h2
      rcases h1 with h1 | ⟨q, hq, e⟩
      · rcases h2 with h2 | h2
        · exact Or.inl (by omega)
        · exact Or.inr ⟨p, List.mem_cons_self, by omega⟩
      · exact Or.inr ⟨q, List.mem_cons_of_mem _ hq, e⟩
    refine ⟨⟨by omega, by omega, by omega, by omega⟩, ?_, side i6 a3, side i7 b3, side i8 c3, side i9 d3⟩
    intro q hq
    rcases List.mem_cons.1 hq with e | hq
    · subst e
      exact ⟨by omega, by omega, by omega, by omega⟩
    · exact i5 q hq
/-- The box of a list from a point of its own on. -/
theorem box_own (s : List Sp) (z : Sp) (hz : z ∈ s) :
    (∀ p ∈ s, (box s z.f0.f0 z.f0.f1 z.f0.f0 z.f0.f1).1 ≤ p.f0.f0 ∧ (box s z.f0.f0 z.f0.f1 z.f0.f0 z.f0.f1).2.1 ≤ p.f0.f1 ∧ p.f0.f0 ≤ (box s z.f0.f0 z.f0.f1 z.f0.f0 z.f0.f1).2.2.1 ∧ p.f0.f1 ≤ (box s z.f0.f0 z.f0.f1 z.f0.f0 z.f0.f1).2.2.2) ∧
    (∃ p ∈ s, p.f0.f0 = (box s z.f0.f0 z.f0.f1 z.f0.f0 z.f0.f1).1) ∧ (∃ p ∈ s, p.f0.f1 = (box s z.f0.f0 z.f0.f1 z.f0.f0 z.f0.f1).2.1) ∧
    (∃ p ∈ s, p.f0.f0 = (box s z.f0.f0 z.f0.f1 z.f0.f0 z.f0.f1).2.2.1) ∧ (∃ p ∈ s, p.f0.f1 = (box s z.f0.f0 z.f0.f1 z.f0.f0 z.f0.f1).2.2.2) := by
  obtain ⟨_, h, h1, h2, h3, h4⟩ := box_in s z.f0.f0 z.f0.f1 z.f0.f0 z.f0.f1
  refine ⟨h, ?_, ?_, ?_, ?_⟩
  · rcases h1 with e | e
    · exact ⟨z, hz, e.symm⟩
    · exact e
  · rcases h2 with e | e
    · exact ⟨z, hz, e.symm⟩
    · exact e
  · rcases h3 with e | e
    · exact ⟨z, hz, e.symm⟩
    · exact e
  · rcases h4 with e | e
    · exact ⟨z, hz, e.symm⟩
    · exact e
end Go.Proofs.Ytmdmajfgpmopbaa.Fl
