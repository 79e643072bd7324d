/- The law FloorBox over numbers and lists. -/
import Derived.Test.YtmdmajfgpmopbaaX4
import Derived.Test.YtmdmajfgpmopbaaFlBoxes
import Derived.Test.YtmdmajfgpmopbaaX67
namespace Go.Proofs.Ytmdmajfgpmopbaa.Pure
open Go.RowKit Go.Proofs.YtmdmajfgpmopbaaW.PrintWords Go.Proofs.Ytmdmajfgpmopbaa.X Go.Proofs.Ytmdmajfgpmopbaa.Fl
set_option linter.unusedVariables false
set_option linter.unusedSimpArgs false
theorem great_f (P : List Sp) (U : List Int) : dancestudiolaw43_great.f P U = some (decide (200 < P.length ∨ 200 < U.length)) := by
  unfold dancestudiolaw43_great.f
  by_cases h : 200 < P.length
  · rw [if_pos (by omega), decide_eq_true (Or.inl h)]
  · rw [if_neg (by omega)]
    congr 1
    rw [decide_eq_decide]
    omega
theorem or_step {x : Bool} {v : Int} {p : Sp} {s : List Sp} {f : Sp → Int} (h : x = true ∨ ∃ q ∈ p :: s, f q = v) : (x || (f p == v)) = true ∨ ∃ q ∈ s, f q = v := by
  rcases h with h | ⟨q, hq, e⟩
  · rw [h]; exact Or.inl rfl
  · rcases List.mem_cons.1 hq with e2 | hq
    · subst e2
      rw [e, beq_self_eq_true, Bool.or_true]
      exact Or.inl rfl
    · exact Or.inr ⟨q, hq, e⟩
theorem fb_l0' (P : List Sp) (U : List Int) (hP : P.length ≤ 200) (A B C D : Int) (hin : ∀ p ∈ P, A ≤ p.f0.f0 ∧ B ≤ p.f0.f1 ∧ p.f0.f0 ≤ C ∧ p.f0.f1 ≤ D) : ∀ (s : List Sp) (i k : Nat) (x6 x7 x8 x9 : Bool), P.drop i = s → s.length < k →
    (x6 = true ∨ ∃ p ∈ s, p.f0.f0 = A) → (x7 = true ∨ ∃ p ∈ s, p.f0.f0 = C) → (x8 = true ∨ ∃ p ∈ s, p.f0.f1 = B) → (x9 = true ∨ ∃ p ∈ s, p.f0.f1 = D) →
    dancestudiolaw43_FloorBox.l0 k x6 x7 x8 x9 (i : Int) P U A B C D = some true := by
  intro s
  induction s with
  | nil =>
    intro i k x6 x7 x8 x9 hd hk h6 h7 h8 h9
    obtain ⟨k, rfl⟩ : ∃ m, k = m + 1 := ⟨k - 1, by omega⟩
    have hi : P.length ≤ i := List.drop_eq_nil_iff.1 hd
    have no : ∀ {x : Bool} {q : Sp → Prop}, (x = true ∨ ∃ p ∈ ([] : List Sp), q p) → x = true := by
      intro x q h
      rcases h with h | ⟨p, hp, _⟩
      · exact h
      · cases hp
    rw [dancestudiolaw43_FloorBox.l0, if_neg (by omega), if_pos (no h6), if_pos (no h7), if_pos (no h8), if_pos (no h9)]
    rfl
  | cons p s ih =>
    intro i k x6 x7 x8 x9 hd hk h6 h7 h8 h9
    simp only [List.length_cons] at hk
    obtain ⟨k, rfl⟩ : ∃ m, k = m + 1 := ⟨k - 1, by omega⟩
    obtain ⟨hx, hi, hn⟩ := rdP hd
    have hp : p ∈ P := by
      have : p ∈ P.drop i := by rw [hd]; exact List.mem_cons_self
      exact List.mem_of_mem_drop this
    obtain ⟨g1, g2, g3, g4⟩ := hin p hp
    have go := ih (i + 1) k _ _ _ _ hn (by omega) (or_step h6) (or_step h7) (or_step h8) (or_step h9)
    rw [dancestudiolaw43_FloorBox.l0, if_pos (by omega), if_pos (by omega), hx, if_neg (by omega), if_neg (by omega), if_neg (by omega), if_neg (by omega), w64 (by omega) (by omega), show (i : Int) + 1 = ((i + 1 : Nat) : Int) by omega]
    cases x6 <;> cases x7 <;> cases x8 <;> cases x9 <;> exact go
theorem FloorBox (P : List Sp) (U : List Int) : ∃ k, X.dancestudiolaw43_FloorBox.f k P U = some true := by
  refine ⟨20000, ?_⟩
  generalize hk : 20000 = k
  unfold dancestudiolaw43_FloorBox.f
  rw [great_f, Option.bind_some]
  by_cases hg : 200 < P.length ∨ 200 < U.length
  · rw [decide_eq_true hg, if_pos rfl]
    rfl
  · rw [decide_eq_false hg, if_neg (by simp), fb_f k P U (by omega) (by omega) (by omega), Option.bind_some]
    by_cases h : chk P U = 0
    · obtain ⟨c1, c2, c3, _, _⟩ := chk_ok h
      have hz : rd_T53 P 0 ∈ P := by
        cases hP : P with
        | nil => rw [hP] at c3; simp at c3
        | cons a l => exact List.mem_cons_self
      obtain ⟨b1, b2, b3, b4, b5⟩ := box_own P _ hz
      unfold boxV
      rw [if_pos h, if_pos rfl]
      exact fb_l0' P U (by omega) _ _ _ _ b1 P 0 k false false false false (by simp) (by omega) (Or.inr b2) (Or.inr b4) (Or.inr b3) (Or.inr b5)
    · have hv : boxV P U = (0, 0, 0, 0, chk P U) := by
        unfold boxV
        rw [if_neg h]
      rw [hv, if_neg h, if_pos (by rfl), if_pos (by rfl), m_f k P U (by omega) (by omega) (by omega), Option.bind_some, if_pos rfl]
      rfl
end Go.Proofs.Ytmdmajfgpmopbaa.Pure
