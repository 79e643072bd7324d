/- Movements: the checks of the package and of the reference, as printed, are one. -/
import Derived.Test.YteflngoiebgdaaaX8
import Derived.Test.YteflngoiebgdaaaX7
import Derived.Test.YteflngoiebgdaaaX6
import Derived.Test.YteflngoiebgdaaaX5
import Derived.Test.YteflngoiebgdaaaX4
import Derived.Test.YteflngoiebgdaaaX3
import Derived.Test.YteflngoiebgdaaaX0
namespace Go.Proofs.Yteflngoiebgdaaa.Fl
open Go.RowKit Go.Proofs.YteflngoiebgdaaaW.PrintWords Go.Proofs.Yteflngoiebgdaaa.X
set_option linter.unusedVariables false
set_option linter.unusedSimpArgs false

abbrev Sp := S54
theorem w64 {x : Int} (h0 : -9223372036854775808 ≤ x) (h1 : x ≤ 9223372036854775807) : wrap64 x = x := by unfold wrap64; omega
theorem rdP {l : List Sp} {i : Nat} {x : Sp} {r : List Sp} (h : l.drop i = x :: r) : rd_T54 l (i : Int) = x ∧ i < l.length ∧ l.drop (i + 1) = r := by
  have hi : i < l.length := by
    apply Nat.lt_of_not_le
    intro hh
    rw [List.drop_of_length_le hh] at h
    cases h
  rw [List.drop_eq_getElem_cons hi] at h
  simp only [List.cons.injEq] at h
  refine ⟨?_, hi, h.2⟩
  unfold rd_T54
  simp only [Int.toNat_natCast]
  rw [List.getD_eq_getElem?_getD, List.getElem?_eq_getElem hi]
  exact h.1
theorem rdI {l : List Int} {i : Nat} {x : Int} {r : List Int} (h : l.drop i = x :: r) : rd l (i : Int) = x ∧ i < l.length ∧ l.drop (i + 1) = r := by
  have hi : i < l.length := by
    apply Nat.lt_of_not_le
    intro hh
    rw [List.drop_of_length_le hh] at h
    cases h
  rw [List.drop_eq_getElem_cons hi] at h
  simp only [List.cons.injEq] at h
  refine ⟨?_, hi, h.2⟩
  unfold rd
  simp only [Int.toNat_natCast]
  rw [List.getD_eq_getElem?_getD, List.getElem?_eq_getElem hi]
  exact h.1

/-! ### a limb's aim -/
def okA (limb a b c : Int) : Int :=
  if limb ≥ 0 ∧ limb < 6 then (if a < 0 ∨ a > 255 ∨ b < -64 ∨ b > 64 ∨ c < 0 ∨ c > 6 then 1 else if b = 64 ∨ b = -64 then (if a = 0 then 0 else 2) else 0) else 9
theorem aim_j (k : Nat) (x : Bool) (a b c : Int) : aim_Check.j0 (k + 1) x a b c = some (if x = true then 1 else if b = 64 ∨ b = -64 then (if a = 0 then 0 else 2) else 0) := by
  rw [aim_Check.j0]
  cases x with
  | true => rw [if_pos rfl, if_pos rfl]
  | false =>
    simp only [Bool.false_eq_true, if_false, aim_upright.f]
    by_cases h : b = 64
    · rw [if_pos h, Option.bind_some, if_pos rfl, if_pos (show b = 64 ∨ b = -64 from Or.inl h)]
      by_cases h2 : a = 0
      · rw [if_pos h2, if_pos h2]
      · rw [if_neg h2, if_neg h2]
    · rw [if_neg h, Option.bind_some]
      by_cases h3 : b = -64
      · rw [if_pos (show (b == -64) = true by simpa using h3), if_pos (show b = 64 ∨ b = -64 from Or.inr h3)]
        by_cases h2 : a = 0
        · rw [if_pos h2, if_pos h2]
        · rw [if_neg h2, if_neg h2]
      · rw [if_neg (show ¬ (b == -64) = true by simpa using h3), if_neg (show ¬ (b = 64 ∨ b = -64) by omega)]
theorem okA_of (limb a b c : Int) (hl : 0 ≤ limb ∧ limb < 6) : okA limb a b c =
    if a < 0 then 1 else if a > 255 then 1 else if b < (-64) then 1 else if b > 64 then 1 else if c < 0 then 1 else
      if decide (c > 6) = true then 1 else if b = 64 ∨ b = -64 then (if a = 0 then 0 else 2) else 0 := by
  unfold okA
  rw [if_pos ⟨hl.1, hl.2⟩]
  by_cases h1 : a < 0
  · rw [if_pos (by omega), if_pos h1]
  by_cases h2 : a > 255
  · rw [if_pos (by omega), if_neg h1, if_pos h2]
  by_cases h3 : b < -64
  · rw [if_pos (by omega), if_neg h1, if_neg h2, if_pos h3]
  by_cases h4 : b > 64
  · rw [if_pos (by omega), if_neg h1, if_neg h2, if_neg h3, if_pos h4]
  by_cases h5 : c < 0
  · rw [if_pos (by omega), if_neg h1, if_neg h2, if_neg h3, if_neg h4, if_pos h5]
  by_cases h6 : c > 6
  · rw [if_pos (by omega), if_neg h1, if_neg h2, if_neg h3, if_neg h4, if_neg h5, if_pos (show decide (c > 6) = true by simpa using h6)]
  · rw [if_neg (show ¬ (a < 0 ∨ a > 255 ∨ b < -64 ∨ b > 64 ∨ c < 0 ∨ c > 6) by omega), if_neg h1, if_neg h2, if_neg h3, if_neg h4, if_neg h5, if_neg (show ¬ decide (c > 6) = true by simpa using h6)]
theorem push {c : Prop} [Decidable c] (a : Int) (o : Option Int) (b : Int) (h : o = some b) : (if c then some a else o) = some (if c then a else b) := by split <;> first | rfl | exact h
theorem aim_f (k : Nat) (hk : 1 ≤ k) (limb a b c : Int) (hl : 0 ≤ limb ∧ limb < 6) : aim_Check.f k limb a b c = some (okA limb a b c) := by
  obtain ⟨k, rfl⟩ : ∃ m, k = m + 1 := ⟨k - 1, by omega⟩
  unfold aim_Check.f aim_known.f
  rw [if_pos hl.1, Option.bind_some, if_pos (by simpa using hl.2), okA_of limb a b c hl]
  simp only [aim_j, if_true]
  refine push _ _ _ (push _ _ _ (push _ _ _ (push _ _ _ (push _ _ _ rfl))))
/-! ### a pose -/
def On (p : Sp) : Prop := -32768 ≤ p.f0.f0 ∧ p.f0.f0 ≤ 32768 ∧ -32768 ≤ p.f0.f1 ∧ p.f0.f1 ≤ 32768
instance (p : Sp) : Decidable (On p) := by unfold On; infer_instance
def aims (p : Sp) : Int :=
  if okA 0 p.f3.f0.f0 p.f3.f0.f1 p.f3.f0.f2 = 0 then
  if okA 1 p.f3.f1.f0 p.f3.f1.f1 p.f3.f1.f2 = 0 then
  if okA 2 p.f3.f2.f0 p.f3.f2.f1 p.f3.f2.f2 = 0 then
  if okA 3 p.f3.f3.f0 p.f3.f3.f1 p.f3.f3.f2 = 0 then
  if okA 4 p.f3.f4.f0 p.f3.f4.f1 p.f3.f4.f2 = 0 then
  if okA 5 p.f3.f5.f0 p.f3.f5.f1 p.f3.f5.f2 = 0 then 0
  else okA 5 p.f3.f5.f0 p.f3.f5.f1 p.f3.f5.f2 else okA 4 p.f3.f4.f0 p.f3.f4.f1 p.f3.f4.f2 else okA 3 p.f3.f3.f0 p.f3.f3.f1 p.f3.f3.f2
  else okA 2 p.f3.f2.f0 p.f3.f2.f1 p.f3.f2.f2 else okA 1 p.f3.f1.f0 p.f3.f1.f1 p.f3.f1.f2 else okA 0 p.f3.f0.f0 p.f3.f0.f1 p.f3.f0.f2
def V (p : Sp) : Int := if On p then (if p.f1 < 0 then 1 else if p.f1 > 255 then 1 else if p.f2 < (-8) then 1 else if p.f2 > 8 then 1 else aims p) else 1
theorem pull {c : Prop} [Decidable c] (a b : Int) (o : Option Int) (h : o = some a) : (if c then o else some b) = some (if c then a else b) := by split <;> first | exact h | rfl
theorem on_f (p : Sp) : posture_on.f p.f0.f0 p.f0.f1 = some (decide (On p)) := by
  unfold posture_on.f
  by_cases h1 : p.f0.f0 ≥ (-32768)
  · rw [if_pos h1]
    by_cases h2 : p.f0.f0 ≤ 32768
    · rw [if_pos h2]
      by_cases h3 : p.f0.f1 ≥ (-32768)
      · rw [if_pos h3]
        by_cases h4 : p.f0.f1 ≤ 32768
        · rw [decide_eq_true h4, decide_eq_true (show On p from ⟨h1, h2, h3, h4⟩)]
        · rw [decide_eq_false h4, decide_eq_false (fun h : On p => h4 h.2.2.2)]
      · rw [if_neg h3, decide_eq_false (fun h : On p => h3 h.2.2.1)]
    · rw [if_neg h2, decide_eq_false (fun h : On p => h2 h.2.1)]
  · rw [if_neg h1, decide_eq_false (fun h : On p => h1 h.1)]
theorem pv_f (k : Nat) (hk : 1 ≤ k) (p : Sp) : posture_Valid.f k p.f0.f0 p.f0.f1 p.f1 p.f2 p.f3.f0.f0 p.f3.f0.f1 p.f3.f0.f2 p.f3.f1.f0 p.f3.f1.f1 p.f3.f1.f2 p.f3.f2.f0 p.f3.f2.f1 p.f3.f2.f2 p.f3.f3.f0 p.f3.f3.f1 p.f3.f3.f2 p.f3.f4.f0 p.f3.f4.f1 p.f3.f4.f2 p.f3.f5.f0 p.f3.f5.f1 p.f3.f5.f2 = some (V p) := by
  unfold posture_Valid.f
  rw [on_f, Option.bind_some, V]
  by_cases h : On p
  · rw [if_pos (by simpa using h), if_pos h]
    refine push _ _ _ (push _ _ _ (push _ _ _ (push _ _ _ ?_)))
    rw [aim_f k hk _ _ _ _ (by omega), aim_f k hk _ _ _ _ (by omega), aim_f k hk _ _ _ _ (by omega), aim_f k hk _ _ _ _ (by omega), aim_f k hk _ _ _ _ (by omega), aim_f k hk _ _ _ _ (by omega)]
    rw [Option.bind_some, Option.bind_some, Option.bind_some, Option.bind_some, Option.bind_some, Option.bind_some]
    unfold aims
    exact pull _ _ _ (pull _ _ _ (pull _ _ _ (pull _ _ _ (pull _ _ _ (pull _ _ _ rfl)))))
  · rw [if_neg (by simpa using h), if_neg h]
/-! ### a movement -/
def poses : List Sp → Int
  | [] => 0
  | p :: l => if V p = 0 then poses l else V p
def feet : List Int → Int
  | [] => 0
  | x :: l => if x < 0 then 1 else if x > 3 then 1 else feet l
def chk (P : List Sp) (U : List Int) : Int :=
  if U.length < 1 ∨ 8192 < U.length ∨ P.length ≠ U.length + 1 then 2 else if poses P = 0 then feet U else poses P
theorem m_l1 (U : List Int) (hU : U.length ≤ 8192) : ∀ (s : List Int) (i k : Nat), U.drop i = s → s.length < k → movement_Check.l1 k U (U.length : Int) (i : Int) = some (feet s) := by
  intro s
  induction s with
  | nil =>
    intro i k hd hk
    obtain ⟨k, rfl⟩ : ∃ m, k = m + 1 := ⟨k - 1, by omega⟩
    have hi : U.length ≤ i := List.drop_eq_nil_iff.1 hd
    rw [movement_Check.l1, if_neg (by omega)]
    rfl
  | cons x s ih =>
    intro i k hd hk
    simp only [List.length_cons] at hk
    obtain ⟨k, rfl⟩ : ∃ m, k = m + 1 := ⟨k - 1, by omega⟩
    obtain ⟨hx, hi, hn⟩ := rdI hd
    rw [movement_Check.l1, if_pos (by omega), if_pos (by omega), if_pos (by omega), hx, w64 (by omega) (by omega), show (i : Int) + 1 = ((i + 1 : Nat) : Int) by omega, feet]
    exact push _ _ _ (push _ _ _ (ih (i + 1) k hn (by omega)))
theorem m_l0 (P : List Sp) (U : List Int) (hP : P.length ≤ 8193) (hU : U.length ≤ 8192) : ∀ (s : List Sp) (i k : Nat), P.drop i = s → s.length + U.length + 1 < k →
    movement_Check.l0 k P (P.length : Int) (i : Int) P U = some (if poses s = 0 then feet U else poses s) := by
  intro s
  induction s with
  | nil =>
    intro i k hd hk
    obtain ⟨k, rfl⟩ : ∃ m, k = m + 1 := ⟨k - 1, by omega⟩
    have hi : P.length ≤ i := List.drop_eq_nil_iff.1 hd
    rw [movement_Check.l0, if_neg (by omega), show (0 : Int) = ((0 : Nat) : Int) by rfl, m_l1 U hU U 0 k (by simp) (by simp at hk; omega), poses]
    rfl
  | cons x s ih =>
    intro i k hd hk
    simp only [List.length_cons] at hk
    obtain ⟨k, rfl⟩ : ∃ m, k = m + 1 := ⟨k - 1, by omega⟩
    obtain ⟨hx, hi, hn⟩ := rdP hd
    rw [movement_Check.l0, if_pos (by omega), if_pos (by omega), if_pos (by omega), hx, pv_f k (by omega), Option.bind_some, w64 (by omega) (by omega), show (i : Int) + 1 = ((i + 1 : Nat) : Int) by omega, ih (i + 1) k hn (by omega), poses]
    by_cases h : V x = 0
    · rw [if_pos h, if_pos h]
    · rw [if_neg h, if_neg h, if_neg h]
theorem m_f (k : Nat) (P : List Sp) (U : List Int) (hP : P.length ≤ 9223372036854775000) (hU : U.length ≤ 9223372036854775000) (hk : 16500 ≤ k) : movement_Check.f k P U = some (chk P U) := by
  obtain ⟨k, rfl⟩ : ∃ m, k = m + 1 := ⟨k - 1, by omega⟩
  unfold movement_Check.f chk
  rw [w64 (by omega) (by omega)]
  by_cases h1 : U.length < 1
  · rw [if_pos (by omega), if_pos (Or.inl h1), movement_Check.j0, if_pos rfl]
  rw [if_neg (by omega)]
  by_cases h2 : 8192 < U.length
  · rw [if_pos (by omega), if_pos (Or.inr (Or.inl h2)), movement_Check.j0, if_pos rfl]
  rw [if_neg (by omega)]
  by_cases h3 : P.length = U.length + 1
  · rw [if_neg (by omega), show ((P.length : Int) != (U.length : Int) + 1) = false from bne_eq_false_iff_eq.mpr (by omega), movement_Check.j0, if_neg (by simp), show (0 : Int) = ((0 : Nat) : Int) by rfl, m_l0 P U (by omega) (by omega) P 0 k (by simp) (by omega)]
    rfl
  · rw [if_pos (Or.inr (Or.inr h3)), show ((P.length : Int) != (U.length : Int) + 1) = true from bne_iff_ne.mpr (by omega), movement_Check.j0, if_pos rfl]
/-- What a movement that is taken is like. -/
theorem chk_ok {P : List Sp} {U : List Int} (h : chk P U = 0) : 1 ≤ U.length ∧ U.length ≤ 8192 ∧ P.length = U.length + 1 ∧ poses P = 0 ∧ feet U = 0 := by
  unfold chk at h
  split at h
  · cases h
  · rename_i h1
    split at h
    · rename_i h2; exact ⟨by omega, by omega, by omega, h2, h⟩
    · rename_i h2; exact absurd h h2
theorem poses_on {P : List Sp} (h : poses P = 0) : ∀ p ∈ P, On p := by
  induction P with
  | nil => intro q hq; cases hq
  | cons p l ih =>
    intro q hq
    rw [poses] at h
    by_cases hv : V p = 0
    · rw [if_pos hv] at h
      rcases List.mem_cons.1 hq with e | hq
      · subst e
        apply Decidable.byContradiction
        intro hn
        rw [V, if_neg hn] at hv
        exact absurd hv (by decide)
      · exact ih h q hq
    · rw [if_neg hv] at h
      exact absurd h hv
end Go.Proofs.Yteflngoiebgdaaa.Fl
