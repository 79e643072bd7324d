/- Collide: what First found, and what All then holds. -/
import Derived.Test.YteflngoiebgdaaaClFirst
import Derived.Test.YteflngoiebgdaaaClAll
namespace Go.Proofs.Yteflngoiebgdaaa.Cl
open Go.RowKit Go.Proofs.YteflngoiebgdaaaW.PrintWords Go.Proofs.Yteflngoiebgdaaa.X Go.Proofs.Yteflngoiebgdaaa.Fl Go.Proofs.Yteflngoiebgdaaa.GeoImpl Go.Proofs.Yteflngoiebgdaaa.Geo
set_option linter.unusedVariables false
set_option linter.unusedSimpArgs false
theorem find_split {α : Type} {M : α → Bool} : ∀ {l : List α} {p : α}, l.find? M = some p → ∃ l1 l2, l = l1 ++ p :: l2 ∧ M p = true ∧ ∀ q ∈ l1, M q = false
  | [], _, h => by cases h
  | x :: l, p, h => by
    rw [List.find?_cons] at h
    cases hx : M x with
    | true =>
      rw [hx] at h
      cases h
      exact ⟨[], l, rfl, hx, fun q hq => by cases hq⟩
    | false =>
      rw [hx] at h
      obtain ⟨l1, l2, e, h1, h2⟩ := find_split h
      refine ⟨x :: l1, l2, by rw [e]; rfl, h1, fun q hq => ?_⟩
      rcases List.mem_cons.1 hq with rfl | hq
      · exact hx
      · exact h2 q hq
theorem fst_cases (l : List Mv) (r : List Int) (c : List Ct) : ∀ d t, (fst l r c d t = (-1, 0, 0) ∧ ∀ s, t ≤ s → s < t + d → ∀ p ∈ prsN l.length, mt l r c s p = false) ∨
    (∃ (t0 : Nat) (p0 : Pr) (P1 P2 : List Pr), t ≤ t0 ∧ t0 < t + d ∧ fst l r c d t = ((t0 : Int), (p0.1 : Int), (p0.2 : Int)) ∧ prsN l.length = P1 ++ p0 :: P2 ∧ mt l r c t0 p0 = true ∧ (∀ p ∈ P1, mt l r c t0 p = false) ∧ ∀ s, t ≤ s → s < t0 → ∀ p ∈ prsN l.length, mt l r c s p = false)
  | 0, t => .inl ⟨rfl, fun s h1 h2 => by omega⟩
  | d + 1, t => by
    rw [fst]
    cases hf : (prsN l.length).find? (mt l r c t) with
    | some p =>
      obtain ⟨P1, P2, e, h1, h2⟩ := find_split hf
      exact .inr ⟨t, p, P1, P2, Nat.le_refl _, by omega, rfl, e, h1, h2, fun s h3 h4 => by omega⟩
    | none =>
      have hn : ∀ p ∈ prsN l.length, mt l r c t p = false := fun p hp => by
        have := List.find?_eq_none.1 hf p hp
        cases hm : mt l r c t p
        · rfl
        · exact absurd hm this
      rcases fst_cases l r c d (t + 1) with ⟨h1, h2⟩ | ⟨t0, p0, P1, P2, h1, h2, h3, h4, h5, h6, h7⟩
      · refine .inl ⟨h1, fun s h3 h4 => ?_⟩
        rcases Nat.eq_or_lt_of_le h3 with rfl | h3
        · exact hn
        · exact h2 s h3 (by omega)
      · refine .inr ⟨t0, p0, P1, P2, by omega, by omega, h3, h4, h5, h6, fun s h8 h9 => ?_⟩
        rcases Nat.eq_or_lt_of_le h8 with rfl | h8
        · exact hn
        · exact h7 s h8 h9
/-- The hits of a pair: at its first tick. -/
theorem hts_mem {M : Nat → Pr → Bool} {p : Pr} {x : Ht} : ∀ {d t : Nat}, x ∈ hts M p d t → ∃ s : Nat, x = ⟨(s : Int), (p.1 : Int), (p.2 : Int)⟩ ∧ t ≤ s ∧ s < t + d ∧ M s p = true
  | 0, _, h => by cases h
  | d + 1, t, h => by
    rw [hts] at h
    by_cases hm : M t p = true
    · rw [if_pos hm] at h
      obtain rfl := List.mem_singleton.1 h
      exact ⟨t, rfl, Nat.le_refl _, by omega, hm⟩
    · rw [if_neg hm] at h
      obtain ⟨s, h1, h2, h3, h4⟩ := hts_mem h
      exact ⟨s, h1, by omega, by omega, h4⟩
theorem hts_of {M : Nat → Pr → Bool} {p : Pr} {s : Nat} (hs : M s p = true) : ∀ d t, t ≤ s → s < t + d → ∃ u : Nat, hts M p d t = [⟨(u : Int), (p.1 : Int), (p.2 : Int)⟩] ∧ t ≤ u ∧ u ≤ s
  | 0, t, h1, h2 => by omega
  | d + 1, t, h1, h2 => by
    rw [hts]
    by_cases hm : M t p = true
    · exact ⟨t, if_pos hm, Nat.le_refl _, h1⟩
    · rw [if_neg hm]
      have : t ≠ s := by rintro rfl; exact hm hs
      obtain ⟨u, a, b, e⟩ := hts_of hs d (t + 1) (by omega) (by omega)
      exact ⟨u, a, by omega, e⟩
theorem hts_none {M : Nat → Pr → Bool} {p : Pr} : ∀ d t, (∀ s, t ≤ s → s < t + d → M s p = false) → hts M p d t = []
  | 0, _, _ => rfl
  | d + 1, t, h => by rw [hts, if_neg (by rw [h t (Nat.le_refl _) (by omega)]; decide), hts_none d (t + 1) (fun s h1 h2 => h s (by omega) (by omega))]
theorem alls_mem {M : Nat → Pr → Bool} {N : Nat} {P : List Pr} {x : Ht} (h : x ∈ alls M N P) : ∃ (p : Pr) (s : Nat), p ∈ P ∧ x = ⟨(s : Int), (p.1 : Int), (p.2 : Int)⟩ ∧ s < N ∧ M s p = true ∧ x ∈ hts M p N 0 := by
  unfold alls at h
  obtain ⟨p, hp, hx⟩ := List.mem_flatMap.1 h
  obtain ⟨s, h1, h2, h3, h4⟩ := hts_mem hx
  exact ⟨p, s, hp, h1, by omega, h4, hx⟩
theorem alls_none {M : Nat → Pr → Bool} {N : Nat} {P : List Pr} (h : ∀ s, s < N → ∀ p ∈ P, M s p = false) : alls M N P = [] := by
  unfold alls
  rw [List.flatMap_eq_nil_iff]
  exact fun p hp => hts_none N 0 (fun s _ h2 => h s (by omega) p hp)
end Go.Proofs.Yteflngoiebgdaaa.Cl
