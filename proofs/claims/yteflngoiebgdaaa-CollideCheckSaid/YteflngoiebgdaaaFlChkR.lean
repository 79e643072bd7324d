/- FlChk: the reference's side. -/
import Derived.Test.YteflngoiebgdaaaX40
import Derived.Test.YteflngoiebgdaaaX39
import Derived.Test.YteflngoiebgdaaaX38
import Derived.Test.YteflngoiebgdaaaX37
import Derived.Test.YteflngoiebgdaaaX36
import Derived.Test.YteflngoiebgdaaaX35
import Derived.Test.YteflngoiebgdaaaFlChk
namespace Go.Proofs.Yteflngoiebgdaaa.Fl
open Go.RowKit Go.Proofs.YteflngoiebgdaaaW.PrintWords Go.Proofs.Yteflngoiebgdaaa.X
set_option linter.unusedVariables false
set_option linter.unusedSimpArgs false

theorem ref_j (k : Nat) (x : Bool) (a b c : Int) : dancestudioref18_Check.j0 (k + 1) x a b c = some (if x = true then 1 else if b = 64 ∨ b = -64 then (if a = 0 then 0 else 2) else 0) := by
  rw [dancestudioref18_Check.j0]
  cases x with
  | true => rw [if_pos rfl, if_pos rfl]
  | false =>
    simp only [Bool.false_eq_true, if_false, dancestudioref18_Pole.f]
    by_cases h : b = 64
    · rw [if_pos h, Option.bind_some, if_pos rfl, if_pos (show b = 64 ∨ b = -64 from Or.inl h)]
      by_cases h2 : a = 0
      · rw [if_pos h2, if_pos h2]
      · rw [if_neg h2, if_neg h2]
    · rw [if_neg h, Option.bind_some]
      by_cases h3 : b = -64
      · rw [if_pos (show (b == -64) = true by simpa using h3), if_pos (show b = 64 ∨ b = -64 from Or.inr h3)]
        by_cases h2 : a = 0
        · rw [if_pos h2, if_pos h2]
        · rw [if_neg h2, if_neg h2]
      · rw [if_neg (show ¬ (b == -64) = true by simpa using h3), if_neg (show ¬ (b = 64 ∨ b = -64) by omega)]
theorem ref_f (k : Nat) (hk : 1 ≤ k) (limb a b c : Int) (hl : 0 ≤ limb ∧ limb < 6) : dancestudioref18_Check.f k limb a b c = some (okA limb a b c) := by
  obtain ⟨k, rfl⟩ : ∃ m, k = m + 1 := ⟨k - 1, by omega⟩
  unfold dancestudioref18_Check.f dancestudioref18_limbed.f
  rw [if_pos hl.1, Option.bind_some, if_pos (by simpa using hl.2), okA_of limb a b c hl]
  simp only [ref_j, if_true]
  refine push _ _ _ (push _ _ _ (push _ _ _ (push _ _ _ (push _ _ _ rfl))))

theorem rv_f (k : Nat) (hk : 1 ≤ k) (p : Sp) : dancestudioref19_Valid.f k p.f0.f0 p.f0.f1 p.f1 p.f2 p.f3.f0.f0 p.f3.f0.f1 p.f3.f0.f2 p.f3.f1.f0 p.f3.f1.f1 p.f3.f1.f2 p.f3.f2.f0 p.f3.f2.f1 p.f3.f2.f2 p.f3.f3.f0 p.f3.f3.f1 p.f3.f3.f2 p.f3.f4.f0 p.f3.f4.f1 p.f3.f4.f2 p.f3.f5.f0 p.f3.f5.f1 p.f3.f5.f2 = some (V p) := by
  unfold dancestudioref19_Valid.f dancestudioref19_On.f
  have hx : (if p.f0.f0 ≥ (-32768) then (some (decide (p.f0.f0 ≤ 32768))) else (some false)) = some (decide (-32768 ≤ p.f0.f0 ∧ p.f0.f0 ≤ 32768)) := by
    split
    · congr 1; rw [decide_eq_decide]; omega
    · rw [decide_eq_false (by omega)]
  have hy : (if p.f0.f1 ≥ (-32768) then (some (decide (p.f0.f1 ≤ 32768))) else (some false)) = some (decide (-32768 ≤ p.f0.f1 ∧ p.f0.f1 ≤ 32768)) := by
    split
    · congr 1; rw [decide_eq_decide]; omega
    · rw [decide_eq_false (by omega)]
  rw [hx, hy, Option.bind_some, Option.bind_some, V]
  by_cases h1 : -32768 ≤ p.f0.f0 ∧ p.f0.f0 ≤ 32768
  · rw [if_pos (by simpa using h1)]
    by_cases h2 : -32768 ≤ p.f0.f1 ∧ p.f0.f1 ≤ 32768
    · rw [if_pos (by simpa using h2), if_pos (show On p from ⟨h1.1, h1.2, h2.1, h2.2⟩)]
      refine push _ _ _ (push _ _ _ (push _ _ _ (push _ _ _ ?_)))
      rw [ref_f k hk _ _ _ _ (by omega), ref_f k hk _ _ _ _ (by omega), ref_f k hk _ _ _ _ (by omega), ref_f k hk _ _ _ _ (by omega), ref_f k hk _ _ _ _ (by omega), ref_f k hk _ _ _ _ (by omega)]
      rw [Option.bind_some, Option.bind_some, Option.bind_some, Option.bind_some, Option.bind_some, Option.bind_some]
      unfold aims
      exact pull _ _ _ (pull _ _ _ (pull _ _ _ (pull _ _ _ (pull _ _ _ (pull _ _ _ rfl)))))
    · rw [if_neg (by simpa using h2), if_neg (fun h => h2 ⟨h.2.2.1, h.2.2.2⟩)]
  · rw [if_neg (by simpa using h1), if_neg (fun h => h1 ⟨h.1, h.2.1⟩)]

theorem r_l1 (P : List Sp) (U : List Int) (hU : U.length ≤ 8192) : ∀ (s : List Int) (i k : Nat), U.drop i = s → s.length < k → dancestudioref29_Check.l1 k (i : Int) P U = some (feet s) := by
  intro s
  induction s with
  | nil =>
    intro i k hd hk
    obtain ⟨k, rfl⟩ : ∃ m, k = m + 1 := ⟨k - 1, by omega⟩
    have hi : U.length ≤ i := List.drop_eq_nil_iff.1 hd
    rw [dancestudioref29_Check.l1, if_neg (by omega)]
    rfl
  | cons x s ih =>
    intro i k hd hk
    simp only [List.length_cons] at hk
    obtain ⟨k, rfl⟩ : ∃ m, k = m + 1 := ⟨k - 1, by omega⟩
    obtain ⟨hx, hi, hn⟩ := rdI hd
    rw [dancestudioref29_Check.l1, if_pos (by omega), if_pos (by omega), hx, w64 (by omega) (by omega), show (i : Int) + 1 = ((i + 1 : Nat) : Int) by omega, feet]
    exact push _ _ _ (push _ _ _ (ih (i + 1) k hn (by omega)))
theorem r_l0 (P : List Sp) (U : List Int) (hP : P.length ≤ 8193) (hU : U.length ≤ 8192) : ∀ (s : List Sp) (i k : Nat), P.drop i = s → s.length + U.length + 1 < k →
    dancestudioref29_Check.l0 k (i : Int) P U = some (if poses s = 0 then feet U else poses s) := by
  intro s
  induction s with
  | nil =>
    intro i k hd hk
    obtain ⟨k, rfl⟩ : ∃ m, k = m + 1 := ⟨k - 1, by omega⟩
    have hi : P.length ≤ i := List.drop_eq_nil_iff.1 hd
    rw [dancestudioref29_Check.l0, if_neg (by omega), show (0 : Int) = ((0 : Nat) : Int) by rfl, r_l1 P U hU U 0 k (by simp) (by simp at hk; omega), poses]
    rfl
  | cons x s ih =>
    intro i k hd hk
    simp only [List.length_cons] at hk
    obtain ⟨k, rfl⟩ : ∃ m, k = m + 1 := ⟨k - 1, by omega⟩
    obtain ⟨hx, hi, hn⟩ := rdP hd
    rw [dancestudioref29_Check.l0, if_pos (by omega), if_pos (by omega), hx, rv_f k (by omega), Option.bind_some, w64 (by omega) (by omega), show (i : Int) + 1 = ((i + 1 : Nat) : Int) by omega, ih (i + 1) k hn (by omega), poses]
    by_cases h : V x = 0
    · rw [if_pos h, if_pos h]
    · rw [if_neg h, if_neg h, if_neg h]
theorem r_f (k : Nat) (P : List Sp) (U : List Int) (hP : P.length ≤ 9223372036854775000) (hU : U.length ≤ 9223372036854775000) (hk : 16500 ≤ k) : dancestudioref29_Check.f k P U = some (chk P U) := by
  obtain ⟨k, rfl⟩ : ∃ m, k = m + 1 := ⟨k - 1, by omega⟩
  unfold dancestudioref29_Check.f chk
  rw [w64 (by omega) (by omega)]
  by_cases h3 : P.length = U.length + 1
  · rw [if_pos (by omega)]
    by_cases h1 : U.length < 1
    · rw [if_pos (by omega), if_pos (Or.inl h1), dancestudioref29_Check.j0, if_pos rfl]
    rw [if_neg (by omega)]
    by_cases h2 : 8192 < U.length
    · rw [if_pos (Or.inr (Or.inl h2)), decide_eq_true (by omega), dancestudioref29_Check.j0, if_pos rfl]
    rw [if_neg (by omega), decide_eq_false (by omega), dancestudioref29_Check.j0, if_neg (by simp), show (0 : Int) = ((0 : Nat) : Int) by rfl, r_l0 P U (by omega) (by omega) P 0 k (by simp) (by omega)]
    rfl
  · rw [if_neg (by omega), if_pos (Or.inr (Or.inr h3)), dancestudioref29_Check.j0, if_pos rfl]
end Go.Proofs.Yteflngoiebgdaaa.Fl
