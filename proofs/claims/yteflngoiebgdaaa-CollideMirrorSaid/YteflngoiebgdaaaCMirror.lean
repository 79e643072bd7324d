import Derived.Test.YteflngoiebgdaaaX8
import Derived.Test.YteflngoiebgdaaaX7
import Derived.Test.YteflngoiebgdaaaX6
import Derived.Test.YteflngoiebgdaaaX5
import Derived.Test.YteflngoiebgdaaaX4
import Derived.Test.YteflngoiebgdaaaX3
import Derived.Test.YteflngoiebgdaaaX0
import Derived.Test.YteflngoiebgdaaaX9
import Derived.Test.YteflngoiebgdaaaX2
import Derived.Test.YteflngoiebgdaaaX77
import Derived.Test.YteflngoiebgdaaaX76
import Derived.Test.YteflngoiebgdaaaX75
import Derived.Test.YteflngoiebgdaaaX74
import Derived.Test.YteflngoiebgdaaaX78
import Derived.Test.YteflngoiebgdaaaX73
import Derived.Test.YteflngoiebgdaaaXWInvWordsMore
import Derived.Test.YteflngoiebgdaaaX21
import Derived.Test.YteflngoiebgdaaaX20
import Derived.Test.YteflngoiebgdaaaX19
import Derived.Test.YteflngoiebgdaaaX18
import Derived.Test.YteflngoiebgdaaaX17
import Derived.Test.YteflngoiebgdaaaX16
import Derived.Test.YteflngoiebgdaaaX15
import Derived.Test.YteflngoiebgdaaaX14
import Derived.Test.YteflngoiebgdaaaX13
import Derived.Test.YteflngoiebgdaaaX12
import Derived.Test.YteflngoiebgdaaaX22
import Derived.Test.YteflngoiebgdaaaX25
import Derived.Test.YteflngoiebgdaaaX24
import Derived.Test.YteflngoiebgdaaaX23
import Derived.Test.YteflngoiebgdaaaX10
import Derived.Test.YteflngoiebgdaaaXPairs
import Derived.Test.YteflngoiebgdaaaX32
import Derived.Test.YteflngoiebgdaaaX26
import Derived.Test.YteflngoiebgdaaaX29
import Derived.Test.YteflngoiebgdaaaX34
import Derived.Test.YteflngoiebgdaaaX79
import Derived.Test.YteflngoiebgdaaaRows
import Derived.Test.YteflngoiebgdaaaXOpen
import Derived.WalkKit
import Derived.ProofKit
import Derived.OpenShut
import Derived.ShutString
import Derived.ChangeOld
import Derived.Below
import Derived.SizedLaws
import Derived.JoinedCond
import Derived.Carry
/- Movements: the checks of the package and of the reference, as printed, are one. -/
namespace Go.Proofs.Yteflngoiebgdaaa.Fl
open Go.RowKit Go.Proofs.YteflngoiebgdaaaW.PrintWords Go.Proofs.Yteflngoiebgdaaa.X
set_option linter.unusedVariables false
set_option linter.unusedSimpArgs false

abbrev Sp := S54
theorem w64 {x : Int} (h0 : -9223372036854775808 ≤ x) (h1 : x ≤ 9223372036854775807) : wrap64 x = x := by unfold wrap64; omega
theorem rdP {l : List Sp} {i : Nat} {x : Sp} {r : List Sp} (h : l.drop i = x :: r) : rd_T54 l (i : Int) = x ∧ i < l.length ∧ l.drop (i + 1) = r := by
  have hi : i < l.length := by
    apply Nat.lt_of_not_le
    intro hh
    rw [List.drop_of_length_le hh] at h
    cases h
  rw [List.drop_eq_getElem_cons hi] at h
  simp only [List.cons.injEq] at h
  refine ⟨?_, hi, h.2⟩
  unfold rd_T54
  simp only [Int.toNat_natCast]
  rw [List.getD_eq_getElem?_getD, List.getElem?_eq_getElem hi]
  exact h.1
theorem rdI {l : List Int} {i : Nat} {x : Int} {r : List Int} (h : l.drop i = x :: r) : rd l (i : Int) = x ∧ i < l.length ∧ l.drop (i + 1) = r := by
  have hi : i < l.length := by
    apply Nat.lt_of_not_le
    intro hh
    rw [List.drop_of_length_le hh] at h
    cases h
  rw [List.drop_eq_getElem_cons hi] at h
  simp only [List.cons.injEq] at h
  refine ⟨?_, hi, h.2⟩
  unfold rd
  simp only [Int.toNat_natCast]
  rw [List.getD_eq_getElem?_getD, List.getElem?_eq_getElem hi]
  exact h.1

/-! ### a limb's aim -/
def okA (limb a b c : Int) : Int :=
  if limb ≥ 0 ∧ limb < 6 then (if a < 0 ∨ a > 255 ∨ b < -64 ∨ b > 64 ∨ c < 0 ∨ c > 6 then 1 else if b = 64 ∨ b = -64 then (if a = 0 then 0 else 2) else 0) else 9
theorem aim_j (k : Nat) (x : Bool) (a b c : Int) : aim_Check.j0 (k + 1) x a b c = some (if x = true then 1 else if b = 64 ∨ b = -64 then (if a = 0 then 0 else 2) else 0) := by
  rw [aim_Check.j0]
  cases x with
  | true => rw [if_pos rfl, if_pos rfl]
  | false =>
    simp only [Bool.false_eq_true, if_false, aim_upright.f]
    by_cases h : b = 64
    · rw [if_pos h, Option.bind_some, if_pos rfl, if_pos (show b = 64 ∨ b = -64 from Or.inl h)]
      by_cases h2 : a = 0
      · rw [if_pos h2, if_pos h2]
      · rw [if_neg h2, if_neg h2]
    · rw [if_neg h, Option.bind_some]
      by_cases h3 : b = -64
      · rw [if_pos (show (b == -64) = true by simpa using h3), if_pos (show b = 64 ∨ b = -64 from Or.inr h3)]
        by_cases h2 : a = 0
        · rw [if_pos h2, if_pos h2]
        · rw [if_neg h2, if_neg h2]
      · rw [if_neg (show ¬ (b == -64) = true by simpa using h3), if_neg (show ¬ (b = 64 ∨ b = -64) by omega)]
theorem okA_of (limb a b c : Int) (hl : 0 ≤ limb ∧ limb < 6) : okA limb a b c =
    if a < 0 then 1 else if a > 255 then 1 else if b < (-64) then 1 else if b > 64 then 1 else if c < 0 then 1 else
      if decide (c > 6) = true then 1 else if b = 64 ∨ b = -64 then (if a = 0 then 0 else 2) else 0 := by
  unfold okA
  rw [if_pos ⟨hl.1, hl.2⟩]
  by_cases h1 : a < 0
  · rw [if_pos (by omega), if_pos h1]
  by_cases h2 : a > 255
  · rw [if_pos (by omega), if_neg h1, if_pos h2]
  by_cases h3 : b < -64
  · rw [if_pos (by omega), if_neg h1, if_neg h2, if_pos h3]
  by_cases h4 : b > 64
  · rw [if_pos (by omega), if_neg h1, if_neg h2, if_neg h3, if_pos h4]
  by_cases h5 : c < 0
  · rw [if_pos (by omega), if_neg h1, if_neg h2, if_neg h3, if_neg h4, if_pos h5]
  by_cases h6 : c > 6
  · rw [if_pos (by omega), if_neg h1, if_neg h2, if_neg h3, if_neg h4, if_neg h5, if_pos (show decide (c > 6) = true by simpa using h6)]
  · rw [if_neg (show ¬ (a < 0 ∨ a > 255 ∨ b < -64 ∨ b > 64 ∨ c < 0 ∨ c > 6) by omega), if_neg h1, if_neg h2, if_neg h3, if_neg h4, if_neg h5, if_neg (show ¬ decide (c > 6) = true by simpa using h6)]
theorem push {c : Prop} [Decidable c] (a : Int) (o : Option Int) (b : Int) (h : o = some b) : (if c then some a else o) = some (if c then a else b) := by split <;> first | rfl | exact h
theorem aim_f (k : Nat) (hk : 1 ≤ k) (limb a b c : Int) (hl : 0 ≤ limb ∧ limb < 6) : aim_Check.f k limb a b c = some (okA limb a b c) := by
  obtain ⟨k, rfl⟩ : ∃ m, k = m + 1 := ⟨k - 1, by omega⟩
  unfold aim_Check.f aim_known.f
  rw [if_pos hl.1, Option.bind_some, if_pos (by simpa using hl.2), okA_of limb a b c hl]
  simp only [aim_j, if_true]
  refine push _ _ _ (push _ _ _ (push _ _ _ (push _ _ _ (push _ _ _ rfl))))
/-! ### a pose -/
def On (p : Sp) : Prop := -32768 ≤ p.f0.f0 ∧ p.f0.f0 ≤ 32768 ∧ -32768 ≤ p.f0.f1 ∧ p.f0.f1 ≤ 32768
instance (p : Sp) : Decidable (On p) := by unfold On; infer_instance
def aims (p : Sp) : Int :=
  if okA 0 p.f3.f0.f0 p.f3.f0.f1 p.f3.f0.f2 = 0 then
  if okA 1 p.f3.f1.f0 p.f3.f1.f1 p.f3.f1.f2 = 0 then
  if okA 2 p.f3.f2.f0 p.f3.f2.f1 p.f3.f2.f2 = 0 then
  if okA 3 p.f3.f3.f0 p.f3.f3.f1 p.f3.f3.f2 = 0 then
  if okA 4 p.f3.f4.f0 p.f3.f4.f1 p.f3.f4.f2 = 0 then
  if okA 5 p.f3.f5.f0 p.f3.f5.f1 p.f3.f5.f2 = 0 then 0
  else okA 5 p.f3.f5.f0 p.f3.f5.f1 p.f3.f5.f2 else okA 4 p.f3.f4.f0 p.f3.f4.f1 p.f3.f4.f2 else okA 3 p.f3.f3.f0 p.f3.f3.f1 p.f3.f3.f2
  else okA 2 p.f3.f2.f0 p.f3.f2.f1 p.f3.f2.f2 else okA 1 p.f3.f1.f0 p.f3.f1.f1 p.f3.f1.f2 else okA 0 p.f3.f0.f0 p.f3.f0.f1 p.f3.f0.f2
def V (p : Sp) : Int := if On p then (if p.f1 < 0 then 1 else if p.f1 > 255 then 1 else if p.f2 < (-8) then 1 else if p.f2 > 8 then 1 else aims p) else 1
theorem pull {c : Prop} [Decidable c] (a b : Int) (o : Option Int) (h : o = some a) : (if c then o else some b) = some (if c then a else b) := by split <;> first | exact h | rfl
theorem on_f (p : Sp) : posture_on.f p.f0.f0 p.f0.f1 = some (decide (On p)) := by
  unfold posture_on.f
  by_cases h1 : p.f0.f0 ≥ (-32768)
  · rw [if_pos h1]
    by_cases h2 : p.f0.f0 ≤ 32768
    · rw [if_pos h2]
      by_cases h3 : p.f0.f1 ≥ (-32768)
      · rw [if_pos h3]
        by_cases h4 : p.f0.f1 ≤ 32768
        · rw [decide_eq_true h4, decide_eq_true (show On p from ⟨h1, h2, h3, h4⟩)]
        · rw [decide_eq_false h4, decide_eq_false (fun h : On p => h4 h.2.2.2)]
      · rw [if_neg h3, decide_eq_false (fun h : On p => h3 h.2.2.1)]
    · rw [if_neg h2, decide_eq_false (fun h : On p => h2 h.2.1)]
  · rw [if_neg h1, decide_eq_false (fun h : On p => h1 h.1)]
theorem pv_f (k : Nat) (hk : 1 ≤ k) (p : Sp) : posture_Valid.f k p.f0.f0 p.f0.f1 p.f1 p.f2 p.f3.f0.f0 p.f3.f0.f1 p.f3.f0.f2 p.f3.f1.f0 p.f3.f1.f1 p.f3.f1.f2 p.f3.f2.f0 p.f3.f2.f1 p.f3.f2.f2 p.f3.f3.f0 p.f3.f3.f1 p.f3.f3.f2 p.f3.f4.f0 p.f3.f4.f1 p.f3.f4.f2 p.f3.f5.f0 p.f3.f5.f1 p.f3.f5.f2 = some (V p) := by
  unfold posture_Valid.f
  rw [on_f, Option.bind_some, V]
  by_cases h : On p
  · rw [if_pos (by simpa using h), if_pos h]
    refine push _ _ _ (push _ _ _ (push _ _ _ (push _ _ _ ?_)))
    rw [aim_f k hk _ _ _ _ (by omega), aim_f k hk _ _ _ _ (by omega), aim_f k hk _ _ _ _ (by omega), aim_f k hk _ _ _ _ (by omega), aim_f k hk _ _ _ _ (by omega), aim_f k hk _ _ _ _ (by omega)]
    rw [Option.bind_some, Option.bind_some, Option.bind_some, Option.bind_some, Option.bind_some, Option.bind_some]
    unfold aims
    exact pull _ _ _ (pull _ _ _ (pull _ _ _ (pull _ _ _ (pull _ _ _ (pull _ _ _ rfl)))))
  · rw [if_neg (by simpa using h), if_neg h]
/-! ### a movement -/
def poses : List Sp → Int
  | [] => 0
  | p :: l => if V p = 0 then poses l else V p
def feet : List Int → Int
  | [] => 0
  | x :: l => if x < 0 then 1 else if x > 3 then 1 else feet l
def chk (P : List Sp) (U : List Int) : Int :=
  if U.length < 1 ∨ 8192 < U.length ∨ P.length ≠ U.length + 1 then 2 else if poses P = 0 then feet U else poses P
theorem m_l1 (U : List Int) (hU : U.length ≤ 8192) : ∀ (s : List Int) (i k : Nat), U.drop i = s → s.length < k → movement_Check.l1 k U (U.length : Int) (i : Int) = some (feet s) := by
  intro s
  induction s with
  | nil =>
    intro i k hd hk
    obtain ⟨k, rfl⟩ : ∃ m, k = m + 1 := ⟨k - 1, by omega⟩
    have hi : U.length ≤ i := List.drop_eq_nil_iff.1 hd
    rw [movement_Check.l1, if_neg (by omega)]
    rfl
  | cons x s ih =>
    intro i k hd hk
    simp only [List.length_cons] at hk
    obtain ⟨k, rfl⟩ : ∃ m, k = m + 1 := ⟨k - 1, by omega⟩
    obtain ⟨hx, hi, hn⟩ := rdI hd
    rw [movement_Check.l1, if_pos (by omega), if_pos (by omega), if_pos (by omega), hx, w64 (by omega) (by omega), show (i : Int) + 1 = ((i + 1 : Nat) : Int) by omega, feet]
    exact push _ _ _ (push _ _ _ (ih (i + 1) k hn (by omega)))
theorem m_l0 (P : List Sp) (U : List Int) (hP : P.length ≤ 8193) (hU : U.length ≤ 8192) : ∀ (s : List Sp) (i k : Nat), P.drop i = s → s.length + U.length + 1 < k →
    movement_Check.l0 k P (P.length : Int) (i : Int) P U = some (if poses s = 0 then feet U else poses s) := by
  intro s
  induction s with
  | nil =>
    intro i k hd hk
    obtain ⟨k, rfl⟩ : ∃ m, k = m + 1 := ⟨k - 1, by omega⟩
    have hi : P.length ≤ i := List.drop_eq_nil_iff.1 hd
    rw [movement_Check.l0, if_neg (by omega), show (0 : Int) = ((0 : Nat) : Int) by rfl, m_l1 U hU U 0 k (by simp) (by simp at hk; omega), poses]
    rfl
  | cons x s ih =>
    intro i k hd hk
    simp only [List.length_cons] at hk
    obtain ⟨k, rfl⟩ : ∃ m, k = m + 1 := ⟨k - 1, by omega⟩
    obtain ⟨hx, hi, hn⟩ := rdP hd
    rw [movement_Check.l0, if_pos (by omega), if_pos (by omega), if_pos (by omega), hx, pv_f k (by omega), Option.bind_some, w64 (by omega) (by omega), show (i : Int) + 1 = ((i + 1 : Nat) : Int) by omega, ih (i + 1) k hn (by omega), poses]
    by_cases h : V x = 0
    · rw [if_pos h, if_pos h]
    · rw [if_neg h, if_neg h, if_neg h]
theorem m_f (k : Nat) (P : List Sp) (U : List Int) (hP : P.length ≤ 9223372036854775000) (hU : U.length ≤ 9223372036854775000) (hk : 16500 ≤ k) : movement_Check.f k P U = some (chk P U) := by
  obtain ⟨k, rfl⟩ : ∃ m, k = m + 1 := ⟨k - 1, by omega⟩
  unfold movement_Check.f chk
  rw [w64 (by omega) (by omega)]
  by_cases h1 : U.length < 1
  · rw [if_pos (by omega), if_pos (Or.inl h1), movement_Check.j0, if_pos rfl]
  rw [if_neg (by omega)]
  by_cases h2 : 8192 < U.length
  · rw [if_pos (by omega), if_pos (Or.inr (Or.inl h2)), movement_Check.j0, if_pos rfl]
  rw [if_neg (by omega)]
  by_cases h3 : P.length = U.length + 1
  · rw [if_neg (by omega), show ((P.length : Int) != (U.length : Int) + 1) = false from bne_eq_false_iff_eq.mpr (by omega), movement_Check.j0, if_neg (by simp), show (0 : Int) = ((0 : Nat) : Int) by rfl, m_l0 P U (by omega) (by omega) P 0 k (by simp) (by omega)]
    rfl
  · rw [if_pos (Or.inr (Or.inr h3)), show ((P.length : Int) != (U.length : Int) + 1) = true from bne_iff_ne.mpr (by omega), movement_Check.j0, if_pos rfl]
/-- What a movement that is taken is like. -/
theorem chk_ok {P : List Sp} {U : List Int} (h : chk P U = 0) : 1 ≤ U.length ∧ U.length ≤ 8192 ∧ P.length = U.length + 1 ∧ poses P = 0 ∧ feet U = 0 := by
  unfold chk at h
  split at h
  · cases h
  · rename_i h1
    split at h
    · rename_i h2; exact ⟨by omega, by omega, by omega, h2, h⟩
    · rename_i h2; exact absurd h h2
theorem poses_on {P : List Sp} (h : poses P = 0) : ∀ p ∈ P, On p := by
  induction P with
  | nil => intro q hq; cases hq
  | cons p l ih =>
    intro q hq
    rw [poses] at h
    by_cases hv : V p = 0
    · rw [if_pos hv] at h
      rcases List.mem_cons.1 hq with e | hq
      · subst e
        apply Decidable.byContradiction
        intro hn
        rw [V, if_neg hn] at hv
        exact absurd hv (by decide)
      · exact ih h q hq
    · rw [if_neg hv] at h
      exact absurd h hv
end Go.Proofs.Yteflngoiebgdaaa.Fl

/- Collide: the checks of the package and of the reference, as printed, are one. -/
namespace Go.Proofs.Yteflngoiebgdaaa.Cl
open Go.RowKit Go.Proofs.YteflngoiebgdaaaW.PrintWords Go.Proofs.Yteflngoiebgdaaa.X Go.Proofs.Yteflngoiebgdaaa.Fl
set_option linter.unusedVariables false
set_option linter.unusedSimpArgs false
abbrev Mv := S43
abbrev Ct := S62
abbrev Ht := S30
abbrev zM : Mv := z43
theorem drop_at {α : Type} {l : List α} {i : Nat} {x : α} {r : List α} (h : l.drop i = x :: r) (z : α) : l.getD i z = x ∧ i < l.length ∧ l.drop (i + 1) = r := by
  have hi : i < l.length := by
    rcases Nat.lt_or_ge i l.length with h1 | h1
    · exact h1
    · rw [List.drop_eq_nil_iff.2 h1] at h; cases h
  have h2 := List.drop_eq_getElem_cons hi
  rw [h2] at h
  injection h with h3 h4
  exact ⟨by rw [List.getD_eq_getElem?_getD, List.getElem?_eq_getElem hi, h3]; rfl, hi, h4⟩
theorem rdM {l : List Mv} {i : Nat} {x : Mv} {r : List Mv} (h : l.drop i = x :: r) : rd_T43 l (i : Int) = x ∧ i < l.length ∧ l.drop (i + 1) = r := by
  obtain ⟨a, b⟩ := drop_at h zM
  exact ⟨by unfold rd_T43; rw [Int.toNat_natCast]; exact a, b⟩
theorem rdC {l : List Ct} {i : Nat} {x : Ct} {r : List Ct} (h : l.drop i = x :: r) : rd_T62 l (i : Int) = x ∧ i < l.length ∧ l.drop (i + 1) = r := by
  obtain ⟨a, b⟩ := drop_at h z62
  exact ⟨by unfold rd_T62; rw [Int.toNat_natCast]; exact a, b⟩
theorem rdH {l : List Ht} {i : Nat} {x : Ht} {r : List Ht} (h : l.drop i = x :: r) : rd_T30 l (i : Int) = x ∧ i < l.length ∧ l.drop (i + 1) = r := by
  obtain ⟨a, b⟩ := drop_at h z30
  exact ⟨by unfold rd_T30; rw [Int.toNat_natCast]; exact a, b⟩
/-! ### what is light -/
def fewB (m : Mv) : Bool := decide (m.f0.length ≤ 60) && decide (m.f1.length ≤ 60)
def light (l : List Mv) (n : Nat) : Bool := !decide (5 < l.length ∧ l.length ≤ 12 ∨ 20 < l.length ∨ 20 < n) && l.all fewB
theorem light_l0 (l : List Mv) (hl : l.length ≤ 1000) : ∀ (s : List Mv) (i k : Nat), l.drop i = s → s.length < k → dancestudioref44_Light.l0 k l (i : Int) = some (s.all fewB) := by
  intro s
  induction s with
  | nil =>
    intro i k hd hk
    obtain ⟨k, rfl⟩ : ∃ m, k = m + 1 := ⟨k - 1, by omega⟩
    have hi : l.length ≤ i := List.drop_eq_nil_iff.1 hd
    rw [dancestudioref44_Light.l0, if_neg (by omega)]
    rfl
  | cons x s ih =>
    intro i k hd hk
    simp only [List.length_cons] at hk
    obtain ⟨k, rfl⟩ : ∃ m, k = m + 1 := ⟨k - 1, by omega⟩
    obtain ⟨hx, hi, hn⟩ := rdM hd
    rw [dancestudioref44_Light.l0, if_pos (by omega), if_pos (by omega), hx, w64 (by omega) (by omega), show (i : Int) + 1 = ((i + 1 : Nat) : Int) by omega, ih (i + 1) k hn (by omega), List.all_cons]
    unfold fewB
    by_cases h1 : x.f0.length ≤ 60
    · rw [if_neg (by omega), decide_eq_true h1]
      by_cases h2 : x.f1.length ≤ 60
      · rw [if_neg (by omega), decide_eq_true h2]
        rfl
      · rw [if_pos (by omega), decide_eq_false h2]
        rfl
    · rw [if_pos (by omega), decide_eq_false h1]
      rfl
theorem light_f (k : Nat) (l : List Mv) (c : List Ct) (hk : 30 ≤ k) : dancestudioref44_Light.f k l c = some (light l c.length) := by
  obtain ⟨k, rfl⟩ : ∃ m, k = m + 1 := ⟨k - 1, by omega⟩
  have hj : ∀ b, (b = false → l.length ≤ 20) → dancestudioref44_Light.j0 (k + 1) l b = some (!b && l.all fewB) := by
    intro b hb
    cases b with
    | true => rw [dancestudioref44_Light.j0, if_pos rfl]; rfl
    | false =>
      have := hb rfl
      rw [dancestudioref44_Light.j0, if_neg (by decide), show (0 : Int) = ((0 : Nat) : Int) from rfl, light_l0 l (by omega) l 0 k (by simp) (by omega)]
      rfl
  unfold dancestudioref44_Light.f light
  by_cases h5 : 5 < l.length
  · rw [if_pos (by omega)]
    by_cases h12 : l.length ≤ 12
    · rw [if_pos (by omega), hj true (by simp), decide_eq_true (Or.inl ⟨h5, h12⟩)]
    · rw [if_neg (by omega)]
      by_cases h20 : 20 < l.length
      · rw [if_pos (by omega), hj true (by simp), decide_eq_true (Or.inr (Or.inl h20))]
      · rw [if_neg (by omega), hj _ (fun _ => by omega)]
        congr 3
        rw [decide_eq_decide]
        omega
  · rw [if_neg (by omega), if_neg (by omega), hj _ (fun _ => by omega)]
    congr 3
    rw [decide_eq_decide]
    omega
theorem light_ok {l : List Mv} {n : Nat} (h : light l n = true) : (l.length ≤ 5 ∨ 12 < l.length) ∧ l.length ≤ 20 ∧ n ≤ 20 ∧ ∀ m ∈ l, m.f0.length ≤ 60 ∧ m.f1.length ≤ 60 := by
  unfold light at h
  rw [Bool.and_eq_true, Bool.not_eq_true', decide_eq_false_iff_not, List.all_eq_true] at h
  refine ⟨by omega, by omega, by omega, fun m hm => ?_⟩
  have := h.2 m hm
  unfold fewB at this
  rw [Bool.and_eq_true, decide_eq_true_eq, decide_eq_true_eq] at this
  exact this
/-! ### the check -/
def cw : List Mv → List Int → Int
  | m :: l, r :: rs => if chk m.f0 m.f1 = 0 then (if r < 0 then 1 else if r > 32768 then 1 else cw l rs) else chk m.f0 m.f1
  | _, _ => 0
def okC (n : Nat) (x : Ct) : Bool := decide (x.f0 ≠ x.f2 ∧ 0 ≤ x.f0 ∧ x.f0 < n ∧ 0 ≤ x.f2 ∧ x.f2 < n)
def okN (l : List Mv) (m : Mv) : Bool := decide (m.f1.length = (rd_T43 l 0).f1.length)
def cend (l : List Mv) (c : List Ct) (s : List Mv) : Int := if s.all (okN l) = true then (if c.all (okC l.length) = true then 0 else 31) else 33
def cchk (l : List Mv) (r : List Int) (c : List Ct) : Int :=
  if 12 < l.length then 3 else if r.length = l.length then (if cw l r = 0 then cend l c l else cw l r) else 2
theorem okC_if {α : Type} (n : Nat) (x : Ct) (a b : α) : (if x.f0 = x.f2 then a else if x.f0 < 0 then a else if x.f0 ≥ (n : Int) then a else if x.f2 < 0 then a else if x.f2 ≥ (n : Int) then a else b) = if okC n x = true then b else a := by
  unfold okC
  by_cases h : x.f0 ≠ x.f2 ∧ 0 ≤ x.f0 ∧ x.f0 < n ∧ 0 ≤ x.f2 ∧ x.f2 < n
  · rw [if_neg (by omega), if_neg (by omega), if_neg (by omega), if_neg (by omega), if_neg (by omega), if_pos (decide_eq_true h)]
  · rw [if_neg (c := decide _ = true) (by rw [decide_eq_false h]; decide)]
    repeat' split
    all_goals first | rfl | (exfalso; omega)
theorem c_l2 (l : List Mv) (c : List Ct) (hc : c.length ≤ 1000) : ∀ (s : List Ct) (i k : Nat), c.drop i = s → s.length < k → collide_Check.l2 k l c (c.length : Int) (i : Int) = some (if s.all (okC l.length) = true then 0 else 31) := by
  intro s
  induction s with
  | nil =>
    intro i k hd hk
    obtain ⟨k, rfl⟩ : ∃ m, k = m + 1 := ⟨k - 1, by omega⟩
    have hi : c.length ≤ i := List.drop_eq_nil_iff.1 hd
    rw [collide_Check.l2, if_neg (by omega)]
    rfl
  | cons x s ih =>
    intro i k hd hk
    simp only [List.length_cons] at hk
    obtain ⟨k, rfl⟩ : ∃ m, k = m + 1 := ⟨k - 1, by omega⟩
    obtain ⟨hx, hi, hn⟩ := rdC hd
    rw [collide_Check.l2, if_pos (by omega), if_pos (by omega), if_pos (by omega), hx, w64 (by omega) (by omega), show (i : Int) + 1 = ((i + 1 : Nat) : Int) by omega, ih (i + 1) k hn (by omega), okC_if, List.all_cons]
    cases okC l.length x <;> rfl
theorem c_l1 (l : List Mv) (c : List Ct) (hl : l.length ≤ 1000) (hc : c.length ≤ 1000) : ∀ (s : List Mv) (i k : Nat), l.drop i = s → s.length + c.length + 1 < k → collide_Check.l1 k l c l (l.length : Int) (i : Int) = some (cend l c s) := by
  intro s
  induction s with
  | nil =>
    intro i k hd hk
    simp only [List.length_nil] at hk
    obtain ⟨k, rfl⟩ : ∃ m, k = m + 1 := ⟨k - 1, by omega⟩
    have hi : l.length ≤ i := List.drop_eq_nil_iff.1 hd
    rw [collide_Check.l1, if_neg (by omega), show (0 : Int) = ((0 : Nat) : Int) from rfl, c_l2 l c hc c 0 k (by simp) (by omega)]
    rfl
  | cons x s ih =>
    intro i k hd hk
    simp only [List.length_cons] at hk
    obtain ⟨k, rfl⟩ : ∃ m, k = m + 1 := ⟨k - 1, by omega⟩
    obtain ⟨hx, hi, hn⟩ := rdM hd
    rw [collide_Check.l1, if_pos (by omega), if_pos (by omega), if_pos (by omega), if_pos (by omega), hx, w64 (by omega) (by omega), show (i : Int) + 1 = ((i + 1 : Nat) : Int) by omega, ih (i + 1) k hn (by omega)]
    unfold cend
    rw [List.all_cons]
    unfold okN
    by_cases h : x.f1.length = (rd_T43 l 0).f1.length
    · rw [if_pos (by omega), decide_eq_true h]
      rfl
    · rw [if_neg (by omega), decide_eq_false h]
      rfl
theorem c_l0 (l : List Mv) (r : List Int) (c : List Ct) (hl : l.length ≤ 1000) (hc : c.length ≤ 1000) (hr : r.length = l.length) (hm : ∀ m ∈ l, m.f0.length ≤ 60 ∧ m.f1.length ≤ 60) : ∀ (s : List Mv) (t : List Int) (i k : Nat), l.drop i = s → r.drop i = t → s.length + l.length + c.length + 16600 < k →
    collide_Check.l0 k l r c l (l.length : Int) (i : Int) = some (if cw s t = 0 then cend l c l else cw s t) := by
  intro s
  induction s with
  | nil =>
    intro t i k hd ht hk
    simp only [List.length_nil] at hk
    obtain ⟨k, rfl⟩ : ∃ m, k = m + 1 := ⟨k - 1, by omega⟩
    have hi : l.length ≤ i := List.drop_eq_nil_iff.1 hd
    rw [collide_Check.l0, if_neg (by omega), show (0 : Int) = ((0 : Nat) : Int) from rfl, c_l1 l c hl hc l 0 k (by simp) (by omega)]
    rfl
  | cons x s ih =>
    intro t i k hd ht hk
    simp only [List.length_cons] at hk
    obtain ⟨k, rfl⟩ : ∃ m, k = m + 1 := ⟨k - 1, by omega⟩
    obtain ⟨hx, hi, hn⟩ := rdM hd
    obtain ⟨y, t, rfl⟩ : ∃ y t', t = y :: t' := by
      cases t with
      | nil => have := List.drop_eq_nil_iff.1 ht; omega
      | cons y t => exact ⟨y, t, rfl⟩
    obtain ⟨hy, hi2, hn2⟩ := rdI ht
    have hxm : x ∈ l := List.mem_of_mem_drop (i := i) (by rw [hd]; exact List.mem_cons_self ..)
    obtain ⟨q1, q2⟩ := hm x hxm
    rw [collide_Check.l0, if_pos (by omega), if_pos (by omega), if_pos (by omega), hx, m_f k x.f0 x.f1 (by omega) (by omega) (by omega), Option.bind_some, hy, w64 (by omega) (by omega), show (i : Int) + 1 = ((i + 1 : Nat) : Int) by omega, ih t (i + 1) k hn hn2 (by omega), cw]
    by_cases h : chk x.f0 x.f1 = 0
    · rw [if_pos h, if_pos h, if_pos (by omega)]
      by_cases h1 : y < 0
      · rw [if_pos h1, if_pos h1]; rfl
      · rw [if_neg h1, if_neg h1]
        by_cases h2 : y > 32768
        · rw [if_pos h2, if_pos h2]; rfl
        · rw [if_neg h2, if_neg h2]
    · rw [if_neg h, if_neg h, if_neg h]
theorem c_f (k : Nat) (l : List Mv) (r : List Int) (c : List Ct) (hc : c.length ≤ 20) (hm : ∀ m ∈ l, m.f0.length ≤ 60 ∧ m.f1.length ≤ 60) (hk : 17000 ≤ k) : collide_Check.f k l r c = some (cchk l r c) := by
  unfold collide_Check.f cchk
  by_cases h : 12 < l.length
  · rw [if_pos (by omega), if_pos h]
  · rw [if_neg (by omega), if_neg h]
    by_cases h1 : r.length = l.length
    · rw [if_pos (by omega), if_pos h1, show (0 : Int) = ((0 : Nat) : Int) from rfl, c_l0 l r c (by omega) (by omega) h1 hm l r 0 k (by simp) (by simp) (by omega)]
      rfl
    · rw [if_neg (by omega), if_neg h1]
/-! ### what a good list is like -/
def tks (l : List Mv) : Nat := (rd_T43 l 0).f1.length
structure Good (l : List Mv) (r : List Int) (c : List Ct) : Prop where
  len : l.length ≤ 5
  rad : r.length = l.length
  mov : ∀ i : Nat, i < l.length → (rd_T43 l (i : Int)).f0.length = tks l + 1 ∧ (rd_T43 l (i : Int)).f1.length = tks l ∧ (∀ p ∈ (rd_T43 l (i : Int)).f0, On p) ∧ 0 ≤ rd r (i : Int) ∧ rd r (i : Int) ≤ 32768
  few : tks l ≤ 59
  con : c.length ≤ 20
theorem cw_ok : ∀ (l : List Mv) (r : List Int), r.length = l.length → cw l r = 0 → ∀ i : Nat, i < l.length → chk (l.getD i zM).f0 (l.getD i zM).f1 = 0 ∧ 0 ≤ r.getD i 0 ∧ r.getD i 0 ≤ 32768
  | [], _, _, _, i, hi => absurd hi (by simp)
  | m :: l, [], hr, _, _, _ => by simp at hr
  | m :: l, y :: r, hr, h, i, hi => by
    rw [cw] at h
    by_cases h0 : chk m.f0 m.f1 = 0
    · rw [if_pos h0] at h
      by_cases h1 : y < 0
      · rw [if_pos h1] at h; cases h
      · rw [if_neg h1] at h
        by_cases h2 : y > 32768
        · rw [if_pos h2] at h; cases h
        · rw [if_neg h2] at h
          cases i with
          | zero => exact ⟨h0, by show 0 ≤ y; omega, by show y ≤ 32768; omega⟩
          | succ i => exact cw_ok l r (by simpa using hr) h i (by simpa using hi)
    · rw [if_neg h0] at h
      exact absurd h h0
theorem good_of {l : List Mv} {r : List Int} {c : List Ct} (hl : light l c.length = true) (h : cchk l r c = 0) : Good l r c := by
  obtain ⟨h1, h2, h3, h4⟩ := light_ok hl
  unfold cchk at h
  by_cases h12 : 12 < l.length
  · rw [if_pos h12] at h; cases h
  · rw [if_neg h12] at h
    by_cases hr : r.length = l.length
    · rw [if_pos hr] at h
      by_cases hw : cw l r = 0
      · rw [if_pos hw] at h
        unfold cend at h
        by_cases ha : l.all (okN l) = true
        · have hmov : ∀ i : Nat, i < l.length → (rd_T43 l (i : Int)).f0.length = tks l + 1 ∧ (rd_T43 l (i : Int)).f1.length = tks l ∧ (∀ p ∈ (rd_T43 l (i : Int)).f0, On p) ∧ 0 ≤ rd r (i : Int) ∧ rd r (i : Int) ≤ 32768 := by
            intro i hi
            obtain ⟨a, b, d⟩ := cw_ok l r hr hw i hi
            obtain ⟨_, _, e3, e4, _⟩ := chk_ok a
            have hg : rd_T43 l (i : Int) = l.getD i zM := by unfold rd_T43; rw [Int.toNat_natCast]
            have hg2 : rd r (i : Int) = r.getD i 0 := by unfold rd; rw [Int.toNat_natCast]
            have hmem : l.getD i zM ∈ l := by rw [List.getD_eq_getElem?_getD, List.getElem?_eq_getElem hi]; exact List.getElem_mem hi
            have hn := of_decide_eq_true (List.all_eq_true.1 ha _ hmem)
            rw [hg, hg2]
            exact ⟨by unfold tks; omega, hn, poses_on e4, b, d⟩
          refine ⟨by omega, hr, hmov, ?_, h3⟩
          by_cases h0 : l.length = 0
          · have : l = [] := List.eq_nil_of_length_eq_zero h0
            subst this
            exact Nat.zero_le _
          · have hm0 := hmov 0 (by omega)
            have hg : rd_T43 l ((0 : Nat) : Int) ∈ l := by
              unfold rd_T43
              rw [Int.toNat_natCast, List.getD_eq_getElem?_getD, List.getElem?_eq_getElem (by omega)]
              exact List.getElem_mem _
            have := (h4 _ hg).1
            omega
        · rw [if_neg ha] at h; cases h
      · rw [if_neg hw] at h; exact absurd h hw
    · rw [if_neg hr] at h; cases h
end Go.Proofs.Yteflngoiebgdaaa.Cl

/- Movements backwards (lists and checks), in seat 44. -/
namespace Go.Proofs.Yteflngoiebgdaaa.Fl
open Go.RowKit Go.Proofs.YteflngoiebgdaaaW.PrintWords Go.Proofs.Yteflngoiebgdaaa.X
set_option linter.unusedVariables false
set_option linter.unusedSimpArgs false
/-! ### a list that is turned about step by step -/
def Half {α : Type} (X Y : List α) (i : Nat) : Prop := Y.length = X.length ∧ ∀ j, j < X.length → Y[j]? = if j < i ∨ X.length < j + 1 + i then X[X.length - 1 - j]? else X[j]?
theorem half_start {α : Type} (X : List α) : Half X X 0 := ⟨rfl, fun j hj => by rw [if_neg (by omega)]⟩
theorem half_step {α : Type} {X Y : List α} {i : Nat} (h : Half X Y i) (hi : i + 1 + i < X.length) (x y : α) (hx : Y[i]? = some x) (hy : Y[X.length - 1 - i]? = some y) : Half X ((Y.set i y).set (X.length - 1 - i) x) (i + 1) := by
  obtain ⟨h1, h2⟩ := h
  refine ⟨by simp [h1], fun j hj => ?_⟩
  have a1 := h2 i (by omega)
  rw [if_neg (by omega), hx] at a1
  have a2 := h2 (X.length - 1 - i) (by omega)
  rw [if_neg (by omega), hy] at a2
  rw [List.getElem?_set, List.getElem?_set, List.length_set, h1]
  by_cases e1 : X.length - 1 - i = j
  · subst e1
    rw [if_pos rfl, if_pos (by omega), if_pos (by omega), show X.length - 1 - (X.length - 1 - i) = i by omega, ← a1]
  · rw [if_neg e1]
    by_cases e2 : i = j
    · subst e2
      rw [if_pos rfl, if_pos (by omega), if_pos (by omega), ← a2]
    · rw [if_neg e2, h2 j hj]
      by_cases e3 : j < i ∨ X.length < j + 1 + i
      · rw [if_pos e3, if_pos (by omega)]
      · rw [if_neg e3, if_neg (by omega)]
theorem half_end {α : Type} {X Y : List α} {i : Nat} (h : Half X Y i) (hi : X.length ≤ i + 1 + i) : Y = X.reverse := by
  obtain ⟨h1, h2⟩ := h
  apply List.ext_getElem?
  intro j
  by_cases hj : j < X.length
  · rw [h2 j hj, List.getElem?_reverse hj]
    by_cases e : j < i ∨ X.length < j + 1 + i
    · rw [if_pos e]
    · rw [if_neg e, show X.length - 1 - j = j by omega]
  · rw [List.getElem?_eq_none (by omega), List.getElem?_eq_none (by rw [List.length_reverse]; omega)]
theorem rd_get {l : List Int} {i : Nat} (h : i < l.length) : l[i]? = some (rd l (i : Int)) := by
  unfold rd
  rw [Int.toNat_natCast, List.getD_eq_getElem?_getD, List.getElem?_eq_getElem h]
  rfl
theorem rdP_get {l : List Sp} {i : Nat} (h : i < l.length) : l[i]? = some (rd_T54 l (i : Int)) := by
  unfold rd_T54
  rw [Int.toNat_natCast, List.getD_eq_getElem?_getD, List.getElem?_eq_getElem h]
  rfl
theorem revI_l0 (X : List Int) (hX : X.length ≤ 9000) : ∀ (m i k : Nat) (Y : List Int), X.length ≤ i + 1 + i + m → i ≤ X.length → m + 1 ≤ k → Half X Y i →
    slices_Reverse_int_int.l0 k Y (i : Int) ((X.length : Int) - 1 - (i : Int)) = some X.reverse := by
  intro m
  induction m with
  | zero =>
    intro i k Y hm hi hk h
    obtain ⟨k, rfl⟩ : ∃ m, k = m + 1 := ⟨k - 1, by omega⟩
    rw [slices_Reverse_int_int.l0, if_neg (by omega), half_end h (by omega)]
  | succ m ih =>
    intro i k Y hm hi hk h
    obtain ⟨k, rfl⟩ : ∃ m, k = m + 1 := ⟨k - 1, by omega⟩
    by_cases hc : i + 1 + i < X.length
    · have hl := h.1
      rw [slices_Reverse_int_int.l0, if_pos (by omega), if_pos (by omega), if_pos (by omega), if_pos (by omega), if_pos (by omega), w64 (x := (i : Int) + 1) (by omega) (by omega), w64 (x := (X.length : Int) - 1 - (i : Int) - 1) (by omega) (by omega),
        show (X.length : Int) - 1 - (i : Int) = ((X.length - 1 - i : Nat) : Int) by omega, Int.toNat_natCast, Int.toNat_natCast, show (i : Int) + 1 = ((i + 1 : Nat) : Int) by omega, show ((X.length - 1 - i : Nat) : Int) - 1 = (X.length : Int) - 1 - ((i + 1 : Nat) : Int) by omega]
      exact ih (i + 1) k _ (by omega) (by omega) (by omega) (half_step h hc _ _ (rd_get (by omega)) (rd_get (by omega)))
    · rw [slices_Reverse_int_int.l0, if_neg (by omega), half_end h (by omega)]
theorem revI_f (k : Nat) (X : List Int) (hX : X.length ≤ 9000) (hk : X.length + 2 ≤ k) : slices_Reverse_int_int.f k X = some X.reverse := by
  unfold slices_Reverse_int_int.f
  rw [w64 (by omega) (by omega), show (slices_Reverse_int_int.l0 k X 0 ((X.length : Int) - 1)) = slices_Reverse_int_int.l0 k X ((0 : Nat) : Int) ((X.length : Int) - 1 - ((0 : Nat) : Int)) by rw [show (X.length : Int) - 1 - ((0 : Nat) : Int) = (X.length : Int) - 1 by omega]; rfl]
  exact revI_l0 X hX X.length 0 k X (by omega) (by omega) (by omega) (half_start X)
theorem revP_l0 (X : List Sp) (hX : X.length ≤ 9000) : ∀ (m i k : Nat) (Y : List Sp), X.length ≤ i + 1 + i + m → i ≤ X.length → m + 1 ≤ k → Half X Y i →
    api_Pose_45.l0 k Y (i : Int) ((X.length : Int) - 1 - (i : Int)) = some X.reverse := by
  intro m
  induction m with
  | zero =>
    intro i k Y hm hi hk h
    obtain ⟨k, rfl⟩ : ∃ m, k = m + 1 := ⟨k - 1, by omega⟩
    rw [api_Pose_45.l0, if_neg (by omega), half_end h (by omega)]
  | succ m ih =>
    intro i k Y hm hi hk h
    obtain ⟨k, rfl⟩ : ∃ m, k = m + 1 := ⟨k - 1, by omega⟩
    by_cases hc : i + 1 + i < X.length
    · have hl := h.1
      rw [api_Pose_45.l0, if_pos (by omega), if_pos (by omega), if_pos (by omega), if_pos (by omega), if_pos (by omega), w64 (x := (i : Int) + 1) (by omega) (by omega), w64 (x := (X.length : Int) - 1 - (i : Int) - 1) (by omega) (by omega),
        show (X.length : Int) - 1 - (i : Int) = ((X.length - 1 - i : Nat) : Int) by omega, Int.toNat_natCast, Int.toNat_natCast, show (i : Int) + 1 = ((i + 1 : Nat) : Int) by omega, show ((X.length - 1 - i : Nat) : Int) - 1 = (X.length : Int) - 1 - ((i + 1 : Nat) : Int) by omega]
      exact ih (i + 1) k _ (by omega) (by omega) (by omega) (half_step h hc _ _ (rdP_get (by omega)) (rdP_get (by omega)))
    · rw [api_Pose_45.l0, if_neg (by omega), half_end h (by omega)]
theorem revP_f (k : Nat) (X : List Sp) (hX : X.length ≤ 9000) (hk : X.length + 2 ≤ k) : api_Pose_45.f k X = some X.reverse := by
  unfold api_Pose_45.f
  rw [w64 (by omega) (by omega), show (api_Pose_45.l0 k X 0 ((X.length : Int) - 1)) = api_Pose_45.l0 k X ((0 : Nat) : Int) ((X.length : Int) - 1 - ((0 : Nat) : Int)) by rw [show (X.length : Int) - 1 - ((0 : Nat) : Int) = (X.length : Int) - 1 by omega]; rfl]
  exact revP_l0 X hX X.length 0 k X (by omega) (by omega) (by omega) (half_start X)
/-- What Reverse returns. -/
def revV (P : List Sp) (U : List Int) : List Sp × List Int × Int := if chk P U = 0 then (P.reverse, U.reverse, 0) else ([], [], chk P U)
theorem rev_f (k : Nat) (P : List Sp) (U : List Int) (hP : P.length ≤ 200) (hU : U.length ≤ 200) (hk : 17000 ≤ k) : movement_Reverse.f k P U = some (revV P U) := by
  unfold movement_Reverse.f revV
  rw [m_f k P U (by omega) (by omega) (by omega), Option.bind_some]
  by_cases h : chk P U = 0
  · rw [if_pos h, if_pos h]
    unfold api_Pose_43.f slices_Clone_int_int.f
    rw [Option.bind_some, List.nil_append, if_pos (by simp only [List.length_nil]; omega), Option.bind_some, Option.bind_some, List.nil_append, if_pos (by simp only [List.length_nil]; omega), Option.bind_some, revP_f k P (by omega) (by omega), Option.bind_some, revI_f k U (by omega) (by omega), Option.bind_some]
  · rw [if_neg h, if_neg h]
/-! ### the checks -/
theorem poses_iff (P : List Sp) : poses P = 0 ↔ ∀ p ∈ P, V p = 0 := by
  induction P with
  | nil => exact ⟨fun _ p hp => absurd hp List.not_mem_nil, fun _ => rfl⟩
  | cons p l ih =>
    rw [poses]
    by_cases h : V p = 0
    · rw [if_pos h, ih]
      exact ⟨fun g q hq => by rcases List.mem_cons.1 hq with e | hq; (subst e; exact h); exact g q hq, fun g q hq => g q (List.mem_cons_of_mem _ hq)⟩
    · rw [if_neg h]
      exact ⟨fun g => absurd g h, fun g => g p List.mem_cons_self⟩
theorem feet_iff (U : List Int) : feet U = 0 ↔ ∀ x ∈ U, 0 ≤ x ∧ x ≤ 3 := by
  induction U with
  | nil => exact ⟨fun _ p hp => absurd hp List.not_mem_nil, fun _ => rfl⟩
  | cons x l ih =>
    rw [feet]
    by_cases h : x < 0
    · rw [if_pos h]
      exact ⟨fun g => by omega, fun g => by have := g x List.mem_cons_self; omega⟩
    · rw [if_neg h]
      by_cases h2 : x > 3
      · rw [if_pos h2]
        exact ⟨fun g => by omega, fun g => by have := g x List.mem_cons_self; omega⟩
      · rw [if_neg h2, ih]
        exact ⟨fun g q hq => by rcases List.mem_cons.1 hq with e | hq; (subst e; omega); exact g q hq, fun g q hq => g q (List.mem_cons_of_mem _ hq)⟩
theorem chk_rev {P : List Sp} {U : List Int} (h : chk P U = 0) : chk P.reverse U.reverse = 0 := by
  obtain ⟨h1, h2, h3, h4, h5⟩ := chk_ok h
  unfold chk
  have e1 : poses P.reverse = 0 := (poses_iff _).2 fun p hp => (poses_iff _).1 h4 p (List.mem_reverse.1 hp)
  have e2 : feet U.reverse = 0 := (feet_iff _).2 fun p hp => (feet_iff _).1 h5 p (List.mem_reverse.1 hp)
  rw [List.length_reverse, List.length_reverse, if_neg (by omega), if_pos e1, e2]
end Go.Proofs.Yteflngoiebgdaaa.Fl

/- Movements in the mirror: valid again. -/
namespace Go.Proofs.Yteflngoiebgdaaa.Cl
open Go.RowKit Go.Proofs.YteflngoiebgdaaaW.PrintWords Go.Proofs.Yteflngoiebgdaaa.X Go.Proofs.Yteflngoiebgdaaa.Fl
set_option linter.unusedVariables false
set_option linter.unusedSimpArgs false
abbrev Am := S51
theorem am_bd (a : Int) : 0 ≤ posture_MirrorPose.am a ∧ posture_MirrorPose.am a ≤ 255 := by
  have h : ∀ b : Int, 0 ≤ posture_MirrorPose.nm b ∧ posture_MirrorPose.nm b ≤ 255 := by
    intro b
    unfold posture_MirrorPose.nm
    have h1 := Int.tmod_lt_of_pos b (show (0 : Int) < 256 by decide)
    have h2 := Int.lt_tmod_of_pos b (show (0 : Int) < 256 by decide)
    rw [w64 (by omega) (by omega), Int.tmod_eq_emod_of_nonneg (by omega)]
    omega
  exact h _
theorem am_zero : posture_MirrorPose.am 0 = 0 := by kernel_rfl
def okP (a : Am) : Prop := 0 ≤ a.f0 ∧ a.f0 ≤ 255 ∧ -64 ≤ a.f1 ∧ a.f1 ≤ 64 ∧ 0 ≤ a.f2 ∧ a.f2 ≤ 6 ∧ (a.f1 = 64 ∨ a.f1 = -64 → a.f0 = 0)
theorem okA_iff (n : Int) (hn : 0 ≤ n ∧ n < 6) (a : Am) : okA n a.f0 a.f1 a.f2 = 0 ↔ okP a := by
  unfold okA okP
  rw [if_pos ⟨hn.1, hn.2⟩]
  by_cases h1 : a.f0 < 0 ∨ a.f0 > 255 ∨ a.f1 < -64 ∨ a.f1 > 64 ∨ a.f2 < 0 ∨ a.f2 > 6
  · rw [if_pos h1]
    exact ⟨fun h => absurd h (by decide), fun h => by omega⟩
  · rw [if_neg h1]
    by_cases h2 : a.f1 = 64 ∨ a.f1 = -64
    · rw [if_pos h2]
      by_cases h3 : a.f0 = 0
      · rw [if_pos h3]
        exact ⟨fun _ => by omega, fun _ => rfl⟩
      · rw [if_neg h3]
        exact ⟨fun h => absurd h (by decide), fun h => by omega⟩
    · rw [if_neg h2]
      exact ⟨fun _ => by omega, fun _ => rfl⟩
theorem okP_mir {a : Am} (h : okP a) : okP (movement_Mirror.aim a) := by
  unfold okP movement_Mirror.aim at *
  obtain ⟨h1, h2, h3, h4, h5, h6, h7⟩ := h
  obtain ⟨b1, b2⟩ := am_bd a.f0
  refine ⟨b1, b2, h3, h4, h5, h6, fun h => ?_⟩
  show posture_MirrorPose.am a.f0 = 0
  rw [h7 h, am_zero]
theorem ifz {p q : Int} {P Q : Prop} (h : p = 0 ↔ P) (g : q = 0 ↔ Q) : (if p = 0 then q else p) = 0 ↔ P ∧ Q := by
  by_cases hp : p = 0
  · rw [if_pos hp, g]
    exact ⟨fun x => ⟨h.1 hp, x⟩, fun x => x.2⟩
  · rw [if_neg hp]
    exact ⟨fun x => absurd x hp, fun x => absurd (h.2 x.1) hp⟩
theorem aims_iff (p : Sp) : aims p = 0 ↔ okP p.f3.f0 ∧ okP p.f3.f1 ∧ okP p.f3.f2 ∧ okP p.f3.f3 ∧ okP p.f3.f4 ∧ okP p.f3.f5 := by
  unfold aims
  refine ifz (okA_iff 0 (by omega) _) (ifz (okA_iff 1 (by omega) _) (ifz (okA_iff 2 (by omega) _) (ifz (okA_iff 3 (by omega) _) (ifz (okA_iff 4 (by omega) _) ?_))))
  rw [← okA_iff 5 (by omega)]
  by_cases h : okA 5 p.f3.f5.f0 p.f3.f5.f1 p.f3.f5.f2 = 0
  · rw [if_pos h]; exact ⟨fun _ => h, fun _ => rfl⟩
  · rw [if_neg h]
theorem V_iff (p : Sp) : V p = 0 ↔ On p ∧ 0 ≤ p.f1 ∧ p.f1 ≤ 255 ∧ -8 ≤ p.f2 ∧ p.f2 ≤ 8 ∧ okP p.f3.f0 ∧ okP p.f3.f1 ∧ okP p.f3.f2 ∧ okP p.f3.f3 ∧ okP p.f3.f4 ∧ okP p.f3.f5 := by
  unfold V
  rw [← aims_iff]
  by_cases h0 : On p
  · rw [if_pos h0]
    by_cases h1 : p.f1 < 0
    · rw [if_pos h1]; exact ⟨fun h => absurd h (by decide), fun h => by omega⟩
    by_cases h2 : p.f1 > 255
    · rw [if_neg h1, if_pos h2]; exact ⟨fun h => absurd h (by decide), fun h => by omega⟩
    by_cases h3 : p.f2 < -8
    · rw [if_neg h1, if_neg h2, if_pos h3]; exact ⟨fun h => absurd h (by decide), fun h => by omega⟩
    by_cases h4 : p.f2 > 8
    · rw [if_neg h1, if_neg h2, if_neg h3, if_pos h4]; exact ⟨fun h => absurd h (by decide), fun h => by omega⟩
    · rw [if_neg h1, if_neg h2, if_neg h3, if_neg h4]
      exact ⟨fun h => ⟨h0, by omega, by omega, by omega, by omega, h⟩, fun h => h.2.2.2.2.2⟩
  · rw [if_neg h0]
    exact ⟨fun h => absurd h (by decide), fun h => absurd h.1 h0⟩
theorem V_mir {p : Sp} (h : V p = 0) : V (movement_Mirror.ps p) = 0 := by
  obtain ⟨h0, h1, h2, h3, h4, g0, g1, g2, g3, g4, g5⟩ := (V_iff p).1 h
  obtain ⟨b1, b2⟩ := am_bd p.f1
  refine (V_iff _).2 ⟨?_, b1, b2, h3, h4, okP_mir g1, okP_mir g0, okP_mir g2, okP_mir g4, okP_mir g3, okP_mir g5⟩
  unfold On at *
  refine ⟨?_, ?_, h0.2.2⟩
  · show -32768 ≤ wrap64 (-p.f0.f0)
    rw [w64 (by omega) (by omega)]; omega
  · show wrap64 (-p.f0.f0) ≤ 32768
    rw [w64 (by omega) (by omega)]; omega
theorem sp_bd {x : Int} (h : 0 ≤ x ∧ x ≤ 3) : 0 ≤ movement_Mirror.sp x ∧ movement_Mirror.sp x ≤ 3 := by
  have : x = 0 ∨ x = 1 ∨ x = 2 ∨ x = 3 := by omega
  rcases this with rfl | rfl | rfl | rfl
  · rw [show movement_Mirror.sp 0 = 0 by kernel_rfl]; omega
  · rw [show movement_Mirror.sp 1 = 2 by kernel_rfl]; omega
  · rw [show movement_Mirror.sp 2 = 1 by kernel_rfl]; omega
  · rw [show movement_Mirror.sp 3 = 3 by kernel_rfl]; omega
/-- A movement in the mirror. -/
def mir (m : Mv) : Mv := ⟨m.f0.map movement_Mirror.ps, m.f1.map movement_Mirror.sp⟩
/-- A movement backwards. -/
def bck (m : Mv) : Mv := ⟨m.f0.reverse, m.f1.reverse⟩
theorem chk_mir {P : List Sp} {U : List Int} (h : chk P U = 0) : chk (P.map movement_Mirror.ps) (U.map movement_Mirror.sp) = 0 := by
  obtain ⟨h1, h2, h3, h4, h5⟩ := chk_ok h
  unfold chk
  have e1 : poses (P.map movement_Mirror.ps) = 0 := (poses_iff _).2 fun p hp => by
    obtain ⟨q, hq, rfl⟩ := List.mem_map.1 hp
    exact V_mir ((poses_iff _).1 h4 q hq)
  have e2 : feet (U.map movement_Mirror.sp) = 0 := (feet_iff _).2 fun p hp => by
    obtain ⟨q, hq, rfl⟩ := List.mem_map.1 hp
    exact sp_bd ((feet_iff _).1 h5 q hq)
  rw [List.length_map, List.length_map, if_neg (by omega), if_pos e1, e2]
theorem mir_f (k : Nat) (P : List Sp) (U : List Int) (h : chk P U = 0) (hP : P.length ≤ 200) (hU : U.length ≤ 200) (hk : 17000 ≤ k) : movement_Mirror.f k P U = some (P.map movement_Mirror.ps, U.map movement_Mirror.sp, 0) := by
  obtain ⟨h1, h2, h3, h4, h5⟩ := chk_ok h
  unfold movement_Mirror.f
  rw [m_f k P U (by omega) (by omega) (by omega), Option.bind_some, if_pos h, if_pos]
  unfold movement_Mirror.good
  rw [Bool.and_eq_true]
  refine ⟨decide_eq_true (by omega), List.all_eq_true.2 fun p hp => ?_⟩
  unfold movement_Mirror.val
  rw [pv_f k (by omega), (poses_iff _).1 h4 p hp]
  rfl
end Go.Proofs.Yteflngoiebgdaaa.Cl

/- Plain geometry of moving discs: when two of them touch. -/
namespace Go.Proofs.Yteflngoiebgdaaa.Geo
open Go.RowKit Go.Proofs.YteflngoiebgdaaaW.PrintWords
set_option linter.unusedVariables false

/-- -1, 0 or 1. -/
def cmp (x y : Int) : Int := if x < y then -1 else if x > y then 1 else 0
theorem cmp_lt (x y : Int) : cmp x y < 0 ↔ x < y := by
  unfold cmp
  split
  · omega
  · split <;> omega
theorem cmp_le (x y : Int) : cmp x y ≤ 0 ↔ x ≤ y := by
  unfold cmp
  split
  · omega
  · split <;> omega
/-- The square of the least distance of the origin from the way from d on by v, held against r2. -/
def nr (dx dy vx vy r2 : Int) : Int :=
  if -(dx * vx + dy * vy) ≤ 0 then cmp (dx * dx + dy * dy) r2
  else if -(dx * vx + dy * vy) ≥ vx * vx + vy * vy then cmp ((dx + vx) * (dx + vx) + (dy + vy) * (dy + vy)) r2
  else cmp ((dx * vy - dy * vx) * (dx * vy - dy * vx)) (r2 * (vx * vx + vy * vy))
theorem sq_nonneg (x : Int) : 0 ≤ x * x := by
  rcases Int.le_total 0 x with h | h
  · exact Int.mul_nonneg h h
  · have := Int.mul_nonneg (a := -x) (b := -x) (by omega) (by omega)
    rwa [Int.neg_mul_neg] at this
theorem lagrange (a b c d : Int) : (a * d - b * c) * (a * d - b * c) + (a * c + b * d) * (a * c + b * d) = (a * a + b * b) * (c * c + d * d) := by grind
theorem nr_neg_far (dx dy vx vy r2 : Int) (h0 : dx * dx + dy * dy < r2) : nr dx dy vx vy r2 < 0 := by
  unfold nr
  have hv : 0 ≤ vx * vx + vy * vy := Int.add_nonneg (sq_nonneg _) (sq_nonneg _)
  split
  · rw [cmp_lt]; exact h0
  · rename_i h1
    split
    · rename_i h2
      rw [cmp_lt]
      have e : (dx + vx) * (dx + vx) + (dy + vy) * (dy + vy) = dx * dx + dy * dy + 2 * (dx * vx + dy * vy) + (vx * vx + vy * vy) := by grind
      omega
    · rename_i h2
      rw [cmp_lt]
      have e := lagrange dx dy vx vy
      have h3 := sq_nonneg (dx * vx + dy * vy)
      have hpos : 0 < vx * vx + vy * vy := by omega
      have h4 : (dx * dx + dy * dy) * (vx * vx + vy * vy) < r2 * (vx * vx + vy * vy) := Int.mul_lt_mul_of_pos_right h0 hpos
      omega
theorem nr_neg_end (dx dy vx vy r2 : Int) (h0 : (dx + vx) * (dx + vx) + (dy + vy) * (dy + vy) < r2) : nr dx dy vx vy r2 < 0 := by
  unfold nr
  have hv : 0 ≤ vx * vx + vy * vy := Int.add_nonneg (sq_nonneg _) (sq_nonneg _)
  have e : (dx + vx) * (dx + vx) + (dy + vy) * (dy + vy) = dx * dx + dy * dy + 2 * (dx * vx + dy * vy) + (vx * vx + vy * vy) := by grind
  split
  · rw [cmp_lt]; omega
  · rename_i h1
    split
    · rw [cmp_lt]; exact h0
    · rename_i h2
      rw [cmp_lt]
      have e2 := lagrange (dx + vx) (dy + vy) vx vy
      have h3 := sq_nonneg ((dx + vx) * vx + (dy + vy) * vy)
      have e3 : (dx + vx) * vy - (dy + vy) * vx = dx * vy - dy * vx := by grind
      rw [e3] at e2
      have hpos : 0 < vx * vx + vy * vy := by omega
      have h4 : ((dx + vx) * (dx + vx) + (dy + vy) * (dy + vy)) * (vx * vx + vy * vy) < r2 * (vx * vx + vy * vy) := Int.mul_lt_mul_of_pos_right h0 hpos
      omega
/-- The reference's way to say it. -/
theorem nr_ref (dx dy vx vy r2 : Int) : (nr dx dy vx vy r2 < 0) ↔ (dx * dx + dy * dy < r2 ∨ (dx + vx) * (dx + vx) + (dy + vy) * (dy + vy) < r2 ∨ (¬ -(dx * vx + dy * vy) ≤ 0 ∧ ¬ -(dx * vx + dy * vy) ≥ vx * vx + vy * vy ∧ (dx * vy - dy * vx) * (dx * vy - dy * vx) < r2 * (vx * vx + vy * vy))) := by
  constructor
  · intro h
    unfold nr at h
    split at h
    · exact .inl ((cmp_lt _ _).1 h)
    · rename_i h1
      split at h
      · exact .inr (.inl ((cmp_lt _ _).1 h))
      · rename_i h2
        exact .inr (.inr ⟨h1, h2, (cmp_lt _ _).1 h⟩)
  · rintro (h | h | ⟨h1, h2, h⟩)
    · exact nr_neg_far _ _ _ _ _ h
    · exact nr_neg_end _ _ _ _ _ h
    · unfold nr
      rw [if_neg h1, if_neg h2, cmp_lt]
      exact h
/-- With a lesser radius nothing more is touched. -/
theorem nr_mono (dx dy vx vy r2 s2 : Int) (h : r2 ≤ s2) (h0 : nr dx dy vx vy r2 < 0) : nr dx dy vx vy s2 < 0 := by
  have hv : 0 ≤ vx * vx + vy * vy := Int.add_nonneg (sq_nonneg _) (sq_nonneg _)
  unfold nr at h0 ⊢
  split at h0
  · rename_i h1
    rw [if_pos h1, cmp_lt]
    rw [cmp_lt] at h0
    omega
  · rename_i h1
    rw [if_neg h1]
    split at h0
    · rename_i h2
      rw [if_pos h2, cmp_lt]
      rw [cmp_lt] at h0
      omega
    · rename_i h2
      rw [if_neg h2, cmp_lt]
      rw [cmp_lt] at h0
      have := Int.mul_le_mul_of_nonneg_right h hv
      omega
/-- In the mirror. -/
theorem nr_mirror (dx dy vx vy r2 : Int) : nr (-dx) dy (-vx) vy r2 = nr dx dy vx vy r2 := by
  have e1 : -dx * -vx = dx * vx := Int.neg_mul_neg _ _
  have e2 : -vx * -vx = vx * vx := Int.neg_mul_neg _ _
  have e3 : -dx * -dx = dx * dx := Int.neg_mul_neg _ _
  have e4 : (-dx + -vx) * (-dx + -vx) = (dx + vx) * (dx + vx) := by grind
  have e5 : (-dx * vy - dy * -vx) * (-dx * vy - dy * -vx) = (dx * vy - dy * vx) * (dx * vy - dy * vx) := by grind
  unfold nr
  rw [e1, e2, e3, e4, e5]
/-- Backwards. -/
theorem nr_back (dx dy vx vy r2 : Int) : (nr (dx + vx) (dy + vy) (-vx) (-vy) r2 < 0) ↔ (nr dx dy vx vy r2 < 0) := by
  rw [nr_ref, nr_ref]
  have e0 : dx + vx + -vx = dx := by omega
  have e0' : dy + vy + -vy = dy := by omega
  have e1 : (dx + vx) * -vx + (dy + vy) * -vy = -(dx * vx + dy * vy) - (vx * vx + vy * vy) := by grind
  have e2 : -vx * -vx + -vy * -vy = vx * vx + vy * vy := by grind
  have e3 : ((dx + vx) * -vy - (dy + vy) * -vx) * ((dx + vx) * -vy - (dy + vy) * -vx) = (dx * vy - dy * vx) * (dx * vy - dy * vx) := by grind
  rw [e0, e0', e1, e2, e3]
  constructor
  · rintro (h | h | ⟨h1, h2, h⟩)
    · exact .inr (.inl h)
    · exact .inl h
    · exact .inr (.inr ⟨by omega, by omega, h⟩)
  · rintro (h | h | ⟨h1, h2, h⟩)
    · exact .inr (.inl h)
    · exact .inl h
    · exact .inr (.inr ⟨by omega, by omega, h⟩)
/-- Without touching: at every moment k / n they are apart. -/
theorem nr_apart (dx dy vx vy R n k : Int) (hn : 0 < n) (hk : 0 ≤ k) (hkn : k ≤ n) (h : ¬ nr dx dy vx vy (R * R) < 0) :
    (R * n) * (R * n) ≤ (n * dx + k * vx) * (n * dx + k * vx) + (n * dy + k * vy) * (n * dy + k * vy) := by
  have hnn := sq_nonneg n
  have hkk := sq_nonneg k
  have hjj := sq_nonneg (n - k)
  have hv : 0 ≤ vx * vx + vy * vy := Int.add_nonneg (sq_nonneg _) (sq_nonneg _)
  have eR : (R * n) * (R * n) = (n * n) * (R * R) := by grind
  have eP : (n * dx + k * vx) * (n * dx + k * vx) + (n * dy + k * vy) * (n * dy + k * vy) = (n * n) * (dx * dx + dy * dy) + 2 * (n * k) * (dx * vx + dy * vy) + (k * k) * (vx * vx + vy * vy) := by grind
  rw [eR]
  unfold nr at h
  split at h
  · rename_i h1
    rw [cmp_lt] at h
    rw [eP]
    have a1 := Int.mul_le_mul_of_nonneg_left (Int.not_lt.1 h) hnn
    have a2 : 0 ≤ 2 * (n * k) * (dx * vx + dy * vy) := Int.mul_nonneg (Int.mul_nonneg (by omega) (Int.mul_nonneg (by omega) hk)) (by omega)
    have a3 : 0 ≤ (k * k) * (vx * vx + vy * vy) := Int.mul_nonneg hkk hv
    omega
  · rename_i h1
    split at h
    · rename_i h2
      rw [cmp_lt] at h
      have eQ : (n * dx + k * vx) * (n * dx + k * vx) + (n * dy + k * vy) * (n * dy + k * vy) = (n * n) * ((dx + vx) * (dx + vx) + (dy + vy) * (dy + vy)) + 2 * (n * (n - k)) * (-(dx * vx + dy * vy) - (vx * vx + vy * vy)) + ((n - k) * (n - k)) * (vx * vx + vy * vy) := by grind
      rw [eQ]
      have a1 := Int.mul_le_mul_of_nonneg_left (Int.not_lt.1 h) hnn
      have a2 : 0 ≤ 2 * (n * (n - k)) * (-(dx * vx + dy * vy) - (vx * vx + vy * vy)) := Int.mul_nonneg (Int.mul_nonneg (by omega) (Int.mul_nonneg (by omega) (by omega))) (by omega)
      have a3 : 0 ≤ ((n - k) * (n - k)) * (vx * vx + vy * vy) := Int.mul_nonneg hjj hv
      omega
    · rename_i h2
      rw [cmp_lt] at h
      have hpos : 0 < vx * vx + vy * vy := by omega
      have e2 := lagrange (n * dx + k * vx) (n * dy + k * vy) vx vy
      have e3 : (n * dx + k * vx) * vy - (n * dy + k * vy) * vx = n * (dx * vy - dy * vx) := by grind
      rw [e3] at e2
      have e4 : n * (dx * vy - dy * vx) * (n * (dx * vy - dy * vx)) = (n * n) * ((dx * vy - dy * vx) * (dx * vy - dy * vx)) := by grind
      rw [e4] at e2
      have h3 := sq_nonneg ((n * dx + k * vx) * vx + (n * dy + k * vy) * vy)
      have a1 := Int.mul_le_mul_of_nonneg_left (Int.not_lt.1 h) hnn
      have e5 : (n * n) * (R * R * (vx * vx + vy * vy)) = ((n * n) * (R * R)) * (vx * vx + vy * vy) := by grind
      rw [e5] at a1
      exact Int.le_of_mul_le_mul_right (by omega) hpos
end Go.Proofs.Yteflngoiebgdaaa.Geo

/- The packages num and geom (and their references), as printed, compute the plain geometry. -/
namespace Go.Proofs.Yteflngoiebgdaaa.GeoImpl
open Go.RowKit Go.Proofs.YteflngoiebgdaaaW.PrintWords Go.Proofs.Yteflngoiebgdaaa.X Go.Proofs.Yteflngoiebgdaaa.Geo
set_option linter.unusedVariables false
set_option linter.unusedSimpArgs false

theorem w64 {x : Int} (h0 : -9223372036854775808 ≤ x) (h1 : x ≤ 9223372036854775807) : wrap64 x = x := by unfold wrap64; omega
theorem rd_of_drop {l : List Int} {i : Nat} {x : Int} {r : List Int} (h : l.drop i = x :: r) : rd l (i : Int) = x ∧ i < l.length ∧ l.drop (i + 1) = r := by
  have hi : i < l.length := by
    apply Nat.lt_of_not_le
    intro hh
    rw [List.drop_of_length_le hh] at h
    cases h
  rw [List.drop_eq_getElem_cons hi] at h
  simp only [List.cons.injEq] at h
  refine ⟨?_, hi, h.2⟩
  unfold rd
  simp only [Int.toNat_natCast]
  rw [List.getD_eq_getElem?_getD, List.getElem?_eq_getElem hi]
  exact h.1
theorem rdP_of_drop {l : List S49} {i : Nat} {x : S49} {r : List S49} (h : l.drop i = x :: r) : rd_T49 l (i : Int) = x ∧ i < l.length ∧ l.drop (i + 1) = r := by
  have hi : i < l.length := by
    apply Nat.lt_of_not_le
    intro hh
    rw [List.drop_of_length_le hh] at h
    cases h
  rw [List.drop_eq_getElem_cons hi] at h
  simp only [List.cons.injEq] at h
  refine ⟨?_, hi, h.2⟩
  unfold rd_T49
  simp only [Int.toNat_natCast]
  rw [List.getD_eq_getElem?_getD, List.getElem?_eq_getElem hi]
  exact h.1
/-- at most 2^50 -/
def sm (n : Int) : Prop := -1125899906842624 ≤ n ∧ n ≤ 1125899906842624
theorem small_l0 (l : List Int) (hl : l.length ≤ 1000) : ∀ (r : List Int) (i k : Nat), l.drop i = r → r.length < k → (∀ x ∈ r, sm x) → num_small.l0 k l (l.length : Int) (i : Int) = some true := by
  intro r
  induction r with
  | nil =>
    intro i k h hk _
    obtain ⟨k, rfl⟩ : ∃ m, k = m + 1 := ⟨k - 1, by omega⟩
    have : l.length ≤ i := by simpa using h
    simp only [num_small.l0]
    rw [if_neg (by omega)]
  | cons x r ih =>
    intro i k h hk hs
    obtain ⟨k, rfl⟩ : ∃ m, k = m + 1 := ⟨k - 1, by simp at hk; omega⟩
    obtain ⟨h1, h2, h3⟩ := rd_of_drop h
    have hx := hs x (by simp)
    unfold sm at hx
    simp only [num_small.l0]
    rw [if_pos (by omega), if_pos (by omega), if_pos (by omega), h1, if_neg (by omega), if_neg (by omega), w64 (by omega) (by omega), show (i : Int) + 1 = ((i + 1 : Nat) : Int) by omega]
    exact ih (i + 1) k h3 (by simp at hk; omega) (fun y hy => hs y (by simp [hy]))
theorem small_f (k : Nat) (l : List Int) (hl : l.length ≤ 1000) (hs : ∀ x ∈ l, sm x) (hk : l.length < k) : num_small.f k l = some true := by
  unfold num_small.f
  exact small_l0 l hl l 0 k (by simp) hk hs

/-! ### products -/
def sg (p : Int) : Int := if p < 0 then -1 else if p = 0 then 0 else 1
def ab (p : Int) : Int := if p < 0 then -p else p
theorem abs_f (a : Int) (h : sm a) : num_abs.f a = some (ab a) := by
  unfold num_abs.f sm at *
  rw [w64 (by omega) (by omega)]
  unfold mx ab
  congr 1
  split <;> split <;> omega
theorem ab_mul (a b : Int) : ab (a * b) = ab a * ab b := by
  have h : ∀ x, ab x = (x.natAbs : Int) := by intro x; unfold ab; split <;> omega
  rw [h, h, h, Int.natAbs_mul]
  simp
theorem mul_bd (a b A B : Int) (h : -A ≤ a ∧ a ≤ A) (h' : -B ≤ b ∧ b ≤ B) : -(A * B) ≤ a * b ∧ a * b ≤ A * B := by
  have e : ∀ x, ab x = (x.natAbs : Int) := by intro x; unfold ab; split <;> omega
  have h1 : ab (a * b) ≤ A * B := by
    rw [ab_mul]
    refine Int.mul_le_mul ?_ ?_ ?_ ?_
    · unfold ab; split <;> omega
    · unfold ab; split <;> omega
    · unfold ab; split <;> omega
    · omega
  unfold ab at h1
  split at h1 <;> omega
/-- How a product parts: high and low. -/
def hi (p : Int) : Int := ab p / 1125899906842624
def lo (p : Int) : Int := ab p % 1125899906842624
theorem sg_mul (a b : Int) (ha : a ≠ 0) (hb : b ≠ 0) : sg (a * b) = if (decide (a < 0) != decide (b < 0)) = true then -1 else 1 := by
  have hne : a * b ≠ 0 := Int.mul_ne_zero ha hb
  unfold sg
  by_cases h1 : a < 0
  · by_cases h2 : b < 0
    · have := Int.mul_pos_of_neg_of_neg h1 h2
      rw [if_neg (by omega), if_neg hne]
      simp [h1, h2]
    · have := Int.mul_neg_of_neg_of_pos h1 (show 0 < b by omega)
      rw [if_pos this]
      simp [h1, h2]
  · by_cases h2 : b < 0
    · have := Int.mul_neg_of_pos_of_neg (show 0 < a by omega) h2
      rw [if_pos this]
      simp [h1, h2]
    · have := Int.mul_pos (show 0 < a by omega) (show 0 < b by omega)
      rw [if_neg (by omega), if_neg hne]
      simp [h1, h2]
theorem parts (x y : Int) (hx0 : 0 ≤ x) (hy0 : 0 ≤ y) : x * y = (x / 33554432 * (y / 33554432)) * 1125899906842624 + (x / 33554432 * (y % 33554432) + x % 33554432 * (y / 33554432)) * 33554432 + x % 33554432 * (y % 33554432) := by
  have e1 : x = x / 33554432 * 33554432 + x % 33554432 := by omega
  have e2 : y = y / 33554432 * 33554432 + y % 33554432 := by omega
  generalize x / 33554432 = a at *
  generalize x % 33554432 = b at *
  generalize y / 33554432 = c at *
  generalize y % 33554432 = d at *
  subst e1
  subst e2
  grind
theorem times_f (k : Nat) (a b : Int) (ha : sm a) (hb : sm b) (hk : 3 ≤ k) : num_times.f k a b = some (sg (a * b), hi (a * b), lo (a * b)) := by
  obtain ⟨k, rfl⟩ : ∃ m, k = m + 1 := ⟨k - 1, by omega⟩
  unfold num_times.f
  rw [abs_f a ha, abs_f b hb, Option.bind_some, Option.bind_some]
  by_cases h1 : ab a = 0
  · rw [if_pos h1]
    have : a = 0 := by unfold ab at h1; split at h1 <;> omega
    subst this
    simp only [num_times.j0, if_true]
    rw [Int.zero_mul]
    rfl
  · rw [if_neg h1]
    by_cases h2 : ab b = 0
    · have : b = 0 := by unfold ab at h2; split at h2 <;> omega
      subst this
      rw [h2]
      simp only [num_times.j0]
      rw [if_pos (by rfl), Int.mul_zero]
      rfl
    · have hane : a ≠ 0 := by intro e; subst e; exact h1 rfl
      have hbne : b ≠ 0 := by intro e; subst e; exact h2 rfl
      have hx0 : 0 ≤ ab a := by unfold ab; split <;> omega
      have hy0 : 0 ≤ ab b := by unfold ab; split <;> omega
      have hx1 : ab a ≤ 1125899906842624 := by unfold ab; unfold sm at ha; split <;> omega
      have hy1 : ab b ≤ 1125899906842624 := by unfold ab; unfold sm at hb; split <;> omega
      have hp := parts (ab a) (ab b) hx0 hy0
      have hs := sg_mul a b hane hbne
      have hP : ab (a * b) = ab a * ab b := ab_mul a b
      have A1 := mul_bd (ab a / 33554432) (ab b / 33554432) 33554432 33554432 (by omega) (by omega)
      have B1 := mul_bd (ab a / 33554432) (ab b % 33554432) 33554432 33554432 (by omega) (by omega)
      have C1 := mul_bd (ab a % 33554432) (ab b / 33554432) 33554432 33554432 (by omega) (by omega)
      have D1 := mul_bd (ab a % 33554432) (ab b % 33554432) 33554431 33554431 (by omega) (by omega)
      have A0 := Int.mul_nonneg (a := ab a / 33554432) (b := ab b / 33554432) (by omega) (by omega)
      have B0 := Int.mul_nonneg (a := ab a / 33554432) (b := ab b % 33554432) (by omega) (by omega)
      have C0 := Int.mul_nonneg (a := ab a % 33554432) (b := ab b / 33554432) (by omega) (by omega)
      have D0 := Int.mul_nonneg (a := ab a % 33554432) (b := ab b % 33554432) (by omega) (by omega)
      simp only [num_times.j0]
      rw [show (ab b == 0) = false by simp [h2], if_neg (by simp)]
      rw [Int.tdiv_eq_ediv_of_nonneg hx0, Int.tdiv_eq_ediv_of_nonneg hy0, Int.tmod_eq_emod_of_nonneg hx0, Int.tmod_eq_emod_of_nonneg hy0]
      rw [w64 (x := ab a / 33554432) (by omega) (by omega), w64 (x := ab b / 33554432) (by omega) (by omega)]
      generalize ab a / 33554432 * (ab b / 33554432) = A at *
      generalize ab a / 33554432 * (ab b % 33554432) = B at *
      generalize ab a % 33554432 * (ab b / 33554432) = C at *
      generalize ab a % 33554432 * (ab b % 33554432) = D at *
      rw [w64 (x := A) (by omega) (by omega), w64 (x := B) (by omega) (by omega), w64 (x := C) (by omega) (by omega), w64 (x := D) (by omega) (by omega), w64 (x := B + C) (by omega) (by omega)]
      rw [Int.tdiv_eq_ediv_of_nonneg (a := B + C) (by omega), Int.tmod_eq_emod_of_nonneg (a := B + C) (by omega)]
      rw [w64 (x := (B + C) % 33554432 * 33554432) (by omega) (by omega), w64 (x := D + (B + C) % 33554432 * 33554432) (by omega) (by omega), w64 (x := (B + C) / 33554432) (by omega) (by omega)]
      rw [Int.tdiv_eq_ediv_of_nonneg (a := D + (B + C) % 33554432 * 33554432) (by omega), Int.tmod_eq_emod_of_nonneg (a := D + (B + C) % 33554432 * 33554432) (by omega)]
      rw [w64 (x := A + (B + C) / 33554432) (by omega) (by omega), w64 (x := (D + (B + C) % 33554432 * 33554432) / 1125899906842624) (by omega) (by omega), w64 (x := A + (B + C) / 33554432 + (D + (B + C) % 33554432 * 33554432) / 1125899906842624) (by omega) (by omega)]
      have e1 : A + (B + C) / 33554432 + (D + (B + C) % 33554432 * 33554432) / 1125899906842624 = hi (a * b) := by unfold hi; omega
      have e2 : (D + (B + C) % 33554432 * 33554432) % 1125899906842624 = lo (a * b) := by unfold lo; omega
      rw [e1, e2, hs]
      split <;> rfl
theorem order_f (a b : Int) : num_order.f a b = some (cmp a b) := by
  unfold num_order.f cmp
  split
  · rfl
  · split <;> rfl
theorem cmp_range (a b : Int) : -1 ≤ cmp a b ∧ cmp a b ≤ 1 := by
  unfold cmp
  split
  · omega
  · split <;> omega
theorem sg_range (a : Int) : -1 ≤ sg a ∧ sg a ≤ 1 := by
  unfold sg
  split
  · omega
  · split <;> omega
theorem cmp_sg (p q : Int) (h : sg p ≠ sg q) : cmp (sg p) (sg q) = cmp p q := by
  unfold cmp sg at *
  repeat' split at h
  all_goals (repeat' split)
  all_goals omega
theorem cmp_hi (p q : Int) (h : sg p = sg q) (h2 : hi p ≠ hi q) : sg p * cmp (hi p) (hi q) = cmp p q := by
  have e : sg p = -1 ∨ sg p = 0 ∨ sg p = 1 := by unfold sg; split; · simp
                                                 · split <;> simp
  rcases e with e | e | e <;> rw [e] at h ⊢ <;> unfold sg at e h <;> unfold cmp hi ab at * <;> (repeat' split at e) <;> (repeat' split at h) <;> first | omega | (repeat' split <;> omega)
theorem cmp_lo (p q : Int) (h : sg p = sg q) (h2 : hi p = hi q) : sg p * cmp (lo p) (lo q) = cmp p q := by
  have e : sg p = -1 ∨ sg p = 0 ∨ sg p = 1 := by unfold sg; split; · simp
                                                 · split <;> simp
  rcases e with e | e | e <;> rw [e] at h ⊢ <;> unfold sg at e h <;> unfold cmp hi lo ab at * <;> (repeat' split at e) <;> (repeat' split at h) <;> first | omega | (repeat' split <;> omega)
theorem compare_f (k : Nat) (a b c d : Int) (ha : sm a) (hb : sm b) (hc : sm c) (hd : sm d) (hk : 10 ≤ k) : num_Compare.f k a b c d = some (cmp (a * b) (c * d), 0) := by
  unfold num_Compare.f
  rw [small_f k _ (by simp) (by intro x hx; simp at hx; rcases hx with rfl | rfl | rfl | rfl <;> assumption) (by simp; omega), Option.bind_some, if_pos rfl, times_f k a b ha hb (by omega), times_f k c d hc hd (by omega), Option.bind_some, Option.bind_some]
  have r1 := sg_range (a * b)
  by_cases h1 : sg (a * b) = sg (c * d)
  · rw [if_pos h1]
    by_cases h2 : hi (a * b) = hi (c * d)
    · rw [if_pos h2, order_f, Option.bind_some, cmp_lo _ _ h1 h2]
      have := cmp_range (a * b) (c * d)
      rw [w64 (by omega) (by omega)]
    · rw [if_neg h2, order_f, Option.bind_some, cmp_hi _ _ h1 h2]
      have := cmp_range (a * b) (c * d)
      rw [w64 (by omega) (by omega)]
  · rw [if_neg h1, order_f, Option.bind_some, cmp_sg _ _ h1]

/-! ### the way of two discs -/
theorem dot_f (a b c d : Int) (ha : -262144 ≤ a ∧ a ≤ 262144) (hb : -262144 ≤ b ∧ b ≤ 262144) (hc : -262144 ≤ c ∧ c ≤ 262144) (hd : -262144 ≤ d ∧ d ≤ 262144) : geom_dot.f a b c d = some (a * c + b * d) ∧ -137438953472 ≤ a * c + b * d ∧ a * c + b * d ≤ 137438953472 := by
  have h1 := mul_bd a c 262144 262144 ha hc
  have h2 := mul_bd b d 262144 262144 hb hd
  unfold geom_dot.f
  rw [w64 (x := a * c) (by omega) (by omega), w64 (x := b * d) (by omega) (by omega), w64 (by omega) (by omega)]
  exact ⟨rfl, by omega, by omega⟩
theorem cross_f (a b c d : Int) (ha : -262144 ≤ a ∧ a ≤ 262144) (hb : -262144 ≤ b ∧ b ≤ 262144) (hc : -262144 ≤ c ∧ c ≤ 262144) (hd : -262144 ≤ d ∧ d ≤ 262144) : geom_cross.f a b c d = some (a * d - b * c) ∧ -137438953472 ≤ a * d - b * c ∧ a * d - b * c ≤ 137438953472 := by
  have h1 := mul_bd a d 262144 262144 ha hd
  have h2 := mul_bd b c 262144 262144 hb hc
  unfold geom_cross.f
  rw [w64 (x := a * d) (by omega) (by omega), w64 (x := b * c) (by omega) (by omega), w64 (by omega) (by omega)]
  exact ⟨rfl, by omega, by omega⟩
theorem nearest_f (k : Nat) (dx dy vx vy r2 : Int) (h1 : -65536 ≤ dx ∧ dx ≤ 65536) (h2 : -65536 ≤ dy ∧ dy ≤ 65536) (h3 : -131072 ≤ vx ∧ vx ≤ 131072) (h4 : -131072 ≤ vy ∧ vy ≤ 131072) (h5 : sm r2) (hk : 10 ≤ k) : geom_nearest.f k dx dy vx vy r2 = some (nr dx dy vx vy r2) := by
  obtain ⟨d1, b1, b1'⟩ := dot_f dx dy vx vy (by omega) (by omega) (by omega) (by omega)
  obtain ⟨d2, b2, b2'⟩ := dot_f vx vy vx vy (by omega) (by omega) (by omega) (by omega)
  obtain ⟨d3, b3, b3'⟩ := dot_f dx dy dx dy (by omega) (by omega) (by omega) (by omega)
  obtain ⟨d4, b4, b4'⟩ := dot_f (dx + vx) (dy + vy) (dx + vx) (dy + vy) (by omega) (by omega) (by omega) (by omega)
  obtain ⟨d5, b5, b5'⟩ := cross_f dx dy vx vy (by omega) (by omega) (by omega) (by omega)
  have one : sm 1 := ⟨by omega, by omega⟩
  unfold geom_nearest.f nr
  rw [d1, d2, Option.bind_some, Option.bind_some, w64 (x := -(dx * vx + dy * vy)) (by omega) (by omega)]
  by_cases c1 : -(dx * vx + dy * vy) ≤ 0
  · rw [if_pos c1, if_pos c1, d3, Option.bind_some, compare_f k _ _ _ _ ⟨by omega, by omega⟩ one h5 one hk, Option.bind_some, Int.mul_one, Int.mul_one]
  · rw [if_neg c1, if_neg c1]
    by_cases c2 : -(dx * vx + dy * vy) ≥ vx * vx + vy * vy
    · rw [if_pos c2, if_pos c2, w64 (x := dx + vx) (by omega) (by omega), w64 (x := dy + vy) (by omega) (by omega), d4, Option.bind_some, compare_f k _ _ _ _ ⟨by omega, by omega⟩ one h5 one hk, Option.bind_some, Int.mul_one, Int.mul_one]
    · rw [if_neg c2, if_neg c2, d5, Option.bind_some, compare_f k _ _ _ _ ⟨by omega, by omega⟩ ⟨by omega, by omega⟩ h5 ⟨by omega, by omega⟩ hk, Option.bind_some]
def pOk (x y : Int) : Bool := decide (-32768 ≤ x) && decide (x ≤ 32768) && decide (-32768 ≤ y) && decide (y ≤ 32768)
def rOk (r : Int) : Bool := decide (0 ≤ r) && decide (r ≤ 32768)
theorem pOk_iff (x y : Int) : pOk x y = true ↔ -32768 ≤ x ∧ x ≤ 32768 ∧ -32768 ≤ y ∧ y ≤ 32768 := by
  simp [pOk, and_assoc]
theorem rOk_iff (r : Int) : rOk r = true ↔ 0 ≤ r ∧ r ≤ 32768 := by
  simp [rOk]
theorem valid_l1 (l : List Int) (hl : l.length ≤ 1000) : ∀ (r : List Int) (i k : Nat), l.drop i = r → r.length < k → geom_valid.l1 k l (l.length : Int) (i : Int) = some (r.all rOk) := by
  intro r
  induction r with
  | nil =>
    intro i k h hk
    obtain ⟨k, rfl⟩ : ∃ m, k = m + 1 := ⟨k - 1, by omega⟩
    have : l.length ≤ i := by simpa using h
    simp only [geom_valid.l1]
    rw [if_neg (by omega)]
    rfl
  | cons x r ih =>
    intro i k h hk
    obtain ⟨k, rfl⟩ : ∃ m, k = m + 1 := ⟨k - 1, by simp at hk; omega⟩
    obtain ⟨h1, h2, h3⟩ := rd_of_drop h
    simp only [geom_valid.l1]
    rw [if_pos (by omega), if_pos (by omega), if_pos (by omega), h1, List.all_cons]
    by_cases c : rOk x = true
    · have c' := (rOk_iff x).1 c
      rw [if_neg (by omega), if_neg (by omega), w64 (by omega) (by omega), show (i : Int) + 1 = ((i + 1 : Nat) : Int) by omega, ih (i + 1) k h3 (by simp at hk; omega), c, Bool.true_and]
    · have c' : ¬ (0 ≤ x ∧ x ≤ 32768) := fun h => c ((rOk_iff x).2 h)
      rw [show rOk x = false by simpa using c, Bool.false_and]
      by_cases c2 : x < 0
      · rw [if_pos c2]
      · rw [if_neg c2, if_pos (by omega)]
theorem valid_l0 (rs : List Int) (hr : rs.length ≤ 1000) (l : List S49) (hl : l.length ≤ 1000) : ∀ (r : List S49) (i k : Nat), l.drop i = r → r.length + rs.length + 2 < k → geom_valid.l0 k rs l (l.length : Int) (i : Int) = some (r.all (fun p => pOk p.f0 p.f1) && rs.all rOk) := by
  intro r
  induction r with
  | nil =>
    intro i k h hk
    obtain ⟨k, rfl⟩ : ∃ m, k = m + 1 := ⟨k - 1, by omega⟩
    have : l.length ≤ i := by simpa using h
    simp only [geom_valid.l0]
    rw [if_neg (by omega)]
    have := valid_l1 rs hr rs 0 k (by simp) (by omega)
    rw [show ((0 : Nat) : Int) = 0 from rfl] at this
    rw [this]
    simp
  | cons x r ih =>
    intro i k h hk
    simp only [List.length_cons] at hk
    obtain ⟨k, rfl⟩ : ∃ m, k = m + 1 := ⟨k - 1, by omega⟩
    obtain ⟨h1, h2, h3⟩ := rdP_of_drop h
    simp only [geom_valid.l0]
    rw [if_pos (by omega), if_pos (by omega), if_pos (by omega), h1, List.all_cons]
    by_cases c : pOk x.f0 x.f1 = true
    · have c' := (pOk_iff _ _).1 c
      rw [if_neg (by omega), if_neg (by omega), if_neg (by omega), if_neg (by omega), w64 (by omega) (by omega), show (i : Int) + 1 = ((i + 1 : Nat) : Int) by omega, ih (i + 1) k h3 (by omega), c, Bool.true_and]
    · have c' : ¬ (-32768 ≤ x.f0 ∧ x.f0 ≤ 32768 ∧ -32768 ≤ x.f1 ∧ x.f1 ≤ 32768) := fun h => c ((pOk_iff x.f0 x.f1).2 h)
      rw [show pOk x.f0 x.f1 = false by simpa using c, Bool.false_and, Bool.false_and]
      by_cases c2 : x.f0 < -32768
      · rw [if_pos c2]
      · rw [if_neg c2]
        by_cases c3 : x.f0 > 32768
        · rw [if_pos c3]
        · rw [if_neg c3]
          by_cases c4 : x.f1 < -32768
          · rw [if_pos c4]
          · rw [if_neg c4, if_pos (by omega)]
theorem valid_f (k : Nat) (l : List S49) (rs : List Int) (hl : l.length ≤ 1000) (hr : rs.length ≤ 1000) (hk : l.length + rs.length + 2 < k) : geom_valid.f k l rs = some (l.all (fun p => pOk p.f0 p.f1) && rs.all rOk) := by
  unfold geom_valid.f
  exact valid_l0 rs hr l hl l 0 k (by simp) hk
def mOk (x y u v r : Int) : Bool := pOk x y && pOk u v && rOk r
theorem mOk_iff (x y u v r : Int) : mOk x y u v r = true ↔ (-32768 ≤ x ∧ x ≤ 32768 ∧ -32768 ≤ y ∧ y ≤ 32768) ∧ (-32768 ≤ u ∧ u ≤ 32768 ∧ -32768 ≤ v ∧ v ≤ 32768) ∧ 0 ≤ r ∧ r ≤ 32768 := by
  unfold mOk
  rw [Bool.and_eq_true, Bool.and_eq_true, pOk_iff, pOk_iff, rOk_iff, and_assoc]
/-- Do two moving discs touch; the error. -/
def tch (a0 a1 a2 a3 a4 b0 b1 b2 b3 b4 : Int) : Bool × Int :=
  if mOk a0 a1 a2 a3 a4 = true ∧ mOk b0 b1 b2 b3 b4 = true then (decide (nr (a0 - b0) (a1 - b1) ((a2 - a0) - (b2 - b0)) ((a3 - a1) - (b3 - b1)) ((a4 + b4) * (a4 + b4)) < 0), 0) else (false, 1)
theorem r2_sm (a b : Int) (ha : 0 ≤ a ∧ a ≤ 32768) (hb : 0 ≤ b ∧ b ≤ 32768) : 0 ≤ (a + b) * (a + b) ∧ (a + b) * (a + b) ≤ 4294967296 := by
  have := mul_bd (a + b) (a + b) 65536 65536 (by omega) (by omega)
  exact ⟨sq_nonneg _, by omega⟩
theorem touch_f (k : Nat) (a0 a1 a2 a3 a4 b0 b1 b2 b3 b4 : Int) (hk : 20 ≤ k) : geom_Touch.f k a0 a1 a2 a3 a4 b0 b1 b2 b3 b4 = some (tch a0 a1 a2 a3 a4 b0 b1 b2 b3 b4) := by
  unfold geom_Touch.f tch
  rw [valid_f k _ _ (by simp) (by simp) (by simp; omega), Option.bind_some]
  have e : ([(⟨a0, a1⟩ : S49), ⟨a2, a3⟩, ⟨b0, b1⟩, ⟨b2, b3⟩].all (fun p => pOk p.f0 p.f1) && [a4, b4].all rOk) = (mOk a0 a1 a2 a3 a4 && mOk b0 b1 b2 b3 b4) := by
    unfold mOk
    simp only [List.all_cons, List.all_nil, Bool.and_true]
    cases pOk a0 a1 <;> cases pOk a2 a3 <;> cases pOk b0 b1 <;> cases pOk b2 b3 <;> cases rOk a4 <;> cases rOk b4 <;> rfl
  rw [e]
  by_cases h : mOk a0 a1 a2 a3 a4 = true ∧ mOk b0 b1 b2 b3 b4 = true
  · rw [if_pos h, h.1, h.2, if_pos (by rfl)]
    obtain ⟨⟨p1, p2, p3, p4⟩, ⟨p5, p6, p7, p8⟩, p9, p10⟩ := (mOk_iff _ _ _ _ _).1 h.1
    obtain ⟨⟨q1, q2, q3, q4⟩, ⟨q5, q6, q7, q8⟩, q9, q10⟩ := (mOk_iff _ _ _ _ _).1 h.2
    have hr := r2_sm a4 b4 ⟨p9, p10⟩ ⟨q9, q10⟩
    unfold geom_minus.f
    rw [Option.bind_some, Option.bind_some, Option.bind_some, Option.bind_some]
    simp only
    rw [w64 (x := a0 - b0) (by omega) (by omega), w64 (x := a1 - b1) (by omega) (by omega), w64 (x := a2 - a0) (by omega) (by omega), w64 (x := a3 - a1) (by omega) (by omega), w64 (x := b2 - b0) (by omega) (by omega), w64 (x := b3 - b1) (by omega) (by omega), w64 (x := a2 - a0 - (b2 - b0)) (by omega) (by omega), w64 (x := a3 - a1 - (b3 - b1)) (by omega) (by omega), w64 (x := a4 + b4) (by omega) (by omega), w64 (x := (a4 + b4) * (a4 + b4)) (by omega) (by omega)]
    rw [nearest_f k _ _ _ _ _ (by omega) (by omega) (by omega) (by omega) ⟨by omega, by omega⟩ (by omega), Option.bind_some]
  · have e2 : (mOk a0 a1 a2 a3 a4 && mOk b0 b1 b2 b3 b4) = false := by
      rw [Bool.eq_false_iff]
      intro hh
      exact h (Bool.and_eq_true _ _ ▸ hh)
    rw [e2, if_neg (by simp), if_neg h]
end Go.Proofs.Yteflngoiebgdaaa.GeoImpl

/- Collide: contacts and meetings, as printed. -/
namespace Go.Proofs.Yteflngoiebgdaaa.Cl
open Go.RowKit Go.Proofs.YteflngoiebgdaaaW.PrintWords Go.Proofs.Yteflngoiebgdaaa.X Go.Proofs.Yteflngoiebgdaaa.Fl Go.Proofs.Yteflngoiebgdaaa.GeoImpl Go.Proofs.Yteflngoiebgdaaa.Geo
set_option linter.unusedVariables false
set_option linter.unusedSimpArgs false
theorem w64 {x : Int} (h0 : -9223372036854775808 ≤ x) (h1 : x ≤ 9223372036854775807) : wrap64 x = x := by unfold wrap64; omega
def hasB (a b t : Int) : Bool := decide (a ≤ t) && decide (t < b)
theorem has_f (a b t : Int) : collide_has.f a b t = some (hasB a b t) := by
  unfold collide_has.f hasB
  by_cases h : a ≤ t
  · rw [if_pos h, decide_eq_true h]; rfl
  · rw [if_neg h, decide_eq_false h]; rfl
def pairB (x : Ct) (a b : Int) : Bool := decide (x.f0 = a) && decide (x.f2 = b) || decide (x.f0 = b) && decide (x.f2 = a)
def isC (a b t : Int) (x : Ct) : Bool := pairB x a b && (hasB x.f4.f0 x.f4.f1 t || hasB x.f4.f0 x.f4.f1 (t + 1))
theorem or_if (p q : Bool) (o : Option Bool) : (if p = true then some true else (if q = true then some true else o)) = if (p || q) = true then some true else o := by cases p <;> cases q <;> rfl
theorem contact_l0 (c : List Ct) (a b t : Int) (hc : c.length ≤ 1000) (ht : 0 ≤ t ∧ t ≤ 10000) : ∀ (s : List Ct) (i k : Nat), c.drop i = s → s.length < k → collide_contact.l0 k a b t c (c.length : Int) (i : Int) = some (s.any (isC a b t)) := by
  intro s
  induction s with
  | nil =>
    intro i k hd hk
    obtain ⟨k, rfl⟩ : ∃ m, k = m + 1 := ⟨k - 1, by omega⟩
    have hi : c.length ≤ i := List.drop_eq_nil_iff.1 hd
    rw [collide_contact.l0, if_neg (by omega)]
    rfl
  | cons x s ih =>
    intro i k hd hk
    simp only [List.length_cons] at hk
    obtain ⟨k, rfl⟩ : ∃ m, k = m + 1 := ⟨k - 1, by omega⟩
    obtain ⟨hx, hi, hn⟩ := rdC hd
    rw [collide_contact.l0, if_pos (by omega), if_pos (by omega), if_pos (by omega), hx, w64 (x := (i : Int) + 1) (by omega) (by omega), show (i : Int) + 1 = ((i + 1 : Nat) : Int) by omega, ih (i + 1) k hn (by omega), w64 (x := t + 1) (by omega) (by omega), has_f, has_f, Option.bind_some, Option.bind_some, or_if, List.any_cons]
    unfold isC pairB
    by_cases h1 : x.f0 = a
    · rw [if_pos h1, decide_eq_true h1]
      by_cases h2 : x.f2 = b
      · rw [if_pos h2, decide_eq_true h2]
        cases hasB x.f4.f0 x.f4.f1 t || hasB x.f4.f0 x.f4.f1 (t + 1) <;> rfl
      · rw [if_neg h2, decide_eq_false h2]
        by_cases h3 : x.f0 = b
        · rw [if_pos h3, decide_eq_true h3]
          by_cases h4 : x.f2 = a
          · rw [if_pos h4, decide_eq_true h4]
            cases hasB x.f4.f0 x.f4.f1 t || hasB x.f4.f0 x.f4.f1 (t + 1) <;> rfl
          · rw [if_neg h4, decide_eq_false h4]
            rfl
        · rw [if_neg h3, decide_eq_false h3]
          rfl
    · rw [if_neg h1, decide_eq_false h1]
      by_cases h3 : x.f0 = b
      · rw [if_pos h3, decide_eq_true h3]
        by_cases h4 : x.f2 = a
        · rw [if_pos h4, decide_eq_true h4]
          cases hasB x.f4.f0 x.f4.f1 t || hasB x.f4.f0 x.f4.f1 (t + 1) <;> rfl
        · rw [if_neg h4, decide_eq_false h4]
          rfl
      · rw [if_neg h3, decide_eq_false h3]
        rfl
theorem contact_f (k : Nat) (c : List Ct) (a b t : Int) (hc : c.length ≤ 20) (ht : 0 ≤ t ∧ t ≤ 10000) (hk : 30 ≤ k) : collide_contact.f k c a b t = some (c.any (isC a b t)) := by
  unfold collide_contact.f
  exact contact_l0 c a b t (by omega) ht c 0 k (by simp) (by omega)
/-! ### meetings -/
abbrev at_ (l : List Mv) (a t : Int) : S49 := (rd_T54 (rd_T43 l a).f0 t).f0
/-- Do two dancers meet in a tick: with given radii. -/
def mtR (l : List Mv) (x y : Int) (a b t : Int) : Bool × Int :=
  tch (at_ l a t).f0 (at_ l a t).f1 (at_ l a (t + 1)).f0 (at_ l a (t + 1)).f1 x (at_ l b t).f0 (at_ l b t).f1 (at_ l b (t + 1)).f0 (at_ l b (t + 1)).f1 y
def hv (h : Bool) (x : Int) : Int := if h = true then x / 2 else x
def mt (l : List Mv) (r : List Int) (c : List Ct) (t : Nat) (p : Nat × Nat) : Bool :=
  (mtR l (hv (c.any (isC (p.1 : Int) (p.2 : Int) (t : Int))) (rd r (p.1 : Int))) (hv (c.any (isC (p.1 : Int) (p.2 : Int) (t : Int))) (rd r (p.2 : Int))) (p.1 : Int) (p.2 : Int) (t : Int)).1
theorem half64 (x : Int) (h0 : 0 ≤ x) (h1 : x ≤ 32768) : wrap64 (Int.tdiv x 2) = x / 2 := by
  rw [Int.tdiv_eq_ediv_of_nonneg h0, w64 (by omega) (by omega)]
theorem meet_f (k : Nat) (l : List Mv) (r : List Int) (c : List Ct) (hg : Good l r c) (a b t : Nat) (ha : a < l.length) (hb : b < l.length) (ht : t < tks l) (hk : 60 ≤ k) : collide_meet.f k l r c (a : Int) (b : Int) (t : Int) = some (mt l r c t (a, b)) := by
  obtain ⟨ma, _, _, a0, a1⟩ := hg.mov a ha
  obtain ⟨mb, _, _, b0, b1⟩ := hg.mov b hb
  have hr := hg.rad
  have hf := hg.few
  unfold collide_meet.f mt
  rw [w64 (x := (t : Int) + 1) (by omega) (by omega), if_pos (by omega), if_pos (by omega), if_pos (by omega), if_pos (by omega), if_pos (by omega), if_pos (by omega), if_pos (by omega), if_pos (by omega), if_pos (by omega), if_pos (by omega), if_pos (by omega), if_pos (by omega), contact_f k c _ _ _ hg.con (by omega) (by omega), Option.bind_some, half64 _ a0 a1, half64 _ b0 b1, touch_f k _ _ _ _ _ _ _ _ _ _ (by omega), touch_f k _ _ _ _ _ _ _ _ _ _ (by omega), Option.bind_some, Option.bind_some]
  dsimp only
  cases c.any (isC (a : Int) (b : Int) (t : Int)) <;> rfl
theorem length_f (l : List Mv) : collide_length.f l = some (tks l : Int) := by
  unfold collide_length.f
  by_cases h : (l.length : Int) = 0
  · rw [if_pos h]
    have : l = [] := List.eq_nil_of_length_eq_zero (by omega)
    subst this
    rfl
  · rw [if_neg h, if_pos (by omega)]
    rfl
end Go.Proofs.Yteflngoiebgdaaa.Cl

/- The pairs of dancers, from a place on. -/
namespace Go.Proofs.Yteflngoiebgdaaa.Cl
open Go.RowKit Go.Proofs.YteflngoiebgdaaaW.PrintWords Go.Proofs.Yteflngoiebgdaaa.X Go.Proofs.Yteflngoiebgdaaa.Fl Go.Proofs.Yteflngoiebgdaaa.GeoImpl Go.Proofs.Yteflngoiebgdaaa.Geo
set_option linter.unusedVariables false
set_option linter.unusedSimpArgs false
abbrev Pr := Nat × Nat
/-! ### the pairs, from a place on -/
def sg (a : Nat) : Nat → Nat → List Pr
  | _, 0 => []
  | b, d + 1 => (a, b) :: sg a (b + 1) d
def rws (n : Nat) : Nat → Nat → List Pr
  | _, 0 => []
  | a, d + 1 => sg a (a + 1) (n - (a + 1)) ++ rws n (a + 1) d
abbrev prsN (n : Nat) : List Pr := collide_pairs.prs collide_pairs.mk n
theorem sg_eq (a : Nat) : ∀ d b, sg a b d = (List.range d).map fun i => (a, b + i)
  | 0, _ => rfl
  | d + 1, b => by
    rw [sg, sg_eq a d (b + 1), List.range_succ_eq_map, List.map_cons, List.map_map]
    congr 1
    refine List.map_congr_left (fun i _ => ?_)
    show (a, b + 1 + i) = (a, b + (i + 1))
    rw [show b + 1 + i = b + (i + 1) by omega]
theorem rws_prs (n : Nat) : ∀ d a, a + d = n → collide_pairs.rows collide_pairs.mk n a ++ rws n a d = prsN n
  | 0, a, h => by
    obtain rfl : a = n := by omega
    exact List.append_nil _
  | d + 1, a, h => by
    rw [rws, ← List.append_assoc, ← rws_prs n d (a + 1) (by omega)]
    congr 2
    rw [sg_eq]
    rfl
theorem prs_rws (n : Nat) : prsN n = rws n 0 n := by rw [← rws_prs n n 0 (by omega)]; rfl
theorem sg_mem {a : Nat} {p : Pr} : ∀ {d b : Nat}, p ∈ sg a b d → p.1 = a ∧ b ≤ p.2 ∧ p.2 < b + d
  | 0, _, h => by cases h
  | d + 1, b, h => by
    rcases List.mem_cons.1 h with rfl | h
    · exact ⟨rfl, Nat.le_refl _, by show b < b + (d + 1); omega⟩
    · have := sg_mem h; omega
end Go.Proofs.Yteflngoiebgdaaa.Cl

/- First, by hand: what it answers. -/
namespace Go.Proofs.Yteflngoiebgdaaa.Cl
open Go.RowKit Go.Proofs.YteflngoiebgdaaaW.PrintWords Go.Proofs.Yteflngoiebgdaaa.X Go.Proofs.Yteflngoiebgdaaa.Fl Go.Proofs.Yteflngoiebgdaaa.GeoImpl Go.Proofs.Yteflngoiebgdaaa.Geo
set_option linter.unusedVariables false
set_option linter.unusedSimpArgs false
/-! ### First -/
def fst (l : List Mv) (r : List Int) (c : List Ct) : Nat → Nat → Int × Int × Int
  | 0, _ => (-1, 0, 0)
  | d + 1, t => match (prsN l.length).find? (mt l r c t) with
    | some p => ((t : Int), (p.1 : Int), (p.2 : Int))
    | none => fst l r c d (t + 1)
theorem ticks_f (k : Nat) (l : List Mv) (r : List Int) (c : List Ct) (hg : Good l r c) (hk : 60 ≤ k) : ∀ d t, t + d ≤ tks l → collide_First.ticks k l r c d t = some (fst l r c d t)
  | 0, _, _ => rfl
  | d + 1, t, h => by
    unfold collide_First.ticks
    rw [collide_pairs.all_map (g := mt l r c t) (fun p hp => ?_), Option.bind_some, collide_First.pick_map, fst]
    · cases (prsN l.length).find? (mt l r c t) with
      | some p => rfl
      | none => exact ticks_f k l r c hg hk d (t + 1) (by omega)
    · have := collide_pairs.prs_mem hp
      exact meet_f k l r c hg p.1 p.2 t (by omega) (by omega) (by omega) hk
theorem first_f (k : Nat) (l : List Mv) (r : List Int) (c : List Ct) (hc : collide_Check.f k l r c = some 0) (hg : Good l r c) (hk : 60 ≤ k) :
    collide_First.f k l r c = some ((fst l r c (tks l) 0).1, (fst l r c (tks l) 0).2.1, (fst l r c (tks l) 0).2.2, 0) := by
  have := hg.len
  have := hg.few
  unfold collide_First.f
  rw [hc, Option.bind_some, if_pos rfl, length_f, Option.bind_some, if_pos ⟨by omega, by omega⟩, Int.toNat_natCast, ticks_f k l r c hg hk _ _ (by omega), Option.bind_some]
end Go.Proofs.Yteflngoiebgdaaa.Cl

/- All, by hand: what it answers. -/
namespace Go.Proofs.Yteflngoiebgdaaa.Cl
open Go.RowKit Go.Proofs.YteflngoiebgdaaaW.PrintWords Go.Proofs.Yteflngoiebgdaaa.X Go.Proofs.Yteflngoiebgdaaa.Fl Go.Proofs.Yteflngoiebgdaaa.GeoImpl Go.Proofs.Yteflngoiebgdaaa.Geo
set_option linter.unusedVariables false
set_option linter.unusedSimpArgs false
/-! ### All -/
def hts (M : Nat → Pr → Bool) (p : Pr) : Nat → Nat → List Ht
  | 0, _ => []
  | d + 1, t => if M t p = true then [⟨(t : Int), (p.1 : Int), (p.2 : Int)⟩] else hts M p d (t + 1)
theorem hts_len (M : Nat → Pr → Bool) (p : Pr) : ∀ d t, (hts M p d t).length ≤ 1
  | 0, _ => Nat.zero_le _
  | d + 1, t => by
    rw [hts]
    split
    · exact Nat.le_refl _
    · exact hts_len M p d (t + 1)
def alls (M : Nat → Pr → Bool) (N : Nat) (l : List Pr) : List Ht := l.flatMap fun p => hts M p N 0
theorem alls_append (M : Nat → Pr → Bool) (N : Nat) (l m : List Pr) : alls M N (l ++ m) = alls M N l ++ alls M N m := by simp [alls]
theorem alls_cons (M : Nat → Pr → Bool) (N : Nat) (p : Pr) (m : List Pr) : alls M N (p :: m) = hts M p N 0 ++ alls M N m := by simp [alls]
theorem alls_len (M : Nat → Pr → Bool) (N : Nat) : ∀ l, (alls M N l).length ≤ l.length
  | [] => Nat.le_refl _
  | p :: l => by
    have h1 := hts_len M p N 0
    have h2 := alls_len M N l
    rw [alls_cons, List.length_append, List.length_cons]
    omega
theorem hits_f (k : Nat) (l : List Mv) (r : List Int) (c : List Ct) (hg : Good l r c) (hk : 60 ≤ k) (a b : Nat) (ha : a < l.length) (hb : b < l.length) : ∀ d t, t + d ≤ tks l → collide_All.hits k l r c a b d t = some (hts (mt l r c) (a, b) d t)
  | 0, _, _ => rfl
  | d + 1, t, h => by
    unfold collide_All.hits
    rw [meet_f k l r c hg a b t ha hb (by omega) hk, Option.bind_some, hits_f k l r c hg hk a b ha hb d (t + 1) (by omega), hts]
    cases mt l r c t (a, b) <;> rfl
theorem all_f (k : Nat) (l : List Mv) (r : List Int) (c : List Ct) (hc : collide_Check.f k l r c = some 0) (hg : Good l r c) (hk : 60 ≤ k) :
    collide_All.f k l r c = some (alls (mt l r c) (tks l) (prsN l.length), 0) := by
  have := hg.len
  have := hg.few
  unfold collide_All.f
  rw [hc, Option.bind_some, if_pos rfl, length_f, Option.bind_some, if_pos ⟨by omega, by omega⟩, Int.toNat_natCast, collide_pairs.all_map (g := fun p => hts (mt l r c) p (tks l) 0) (fun p hp => ?_), Option.bind_some]
  · unfold alls
    rw [List.flatMap_def]
  · have := collide_pairs.prs_mem hp
    exact hits_f k l r c hg hk p.1 p.2 (by omega) (by omega) _ _ (by omega)
theorem prs_len (n : Nat) (h : n ≤ 5) : (prsN n).length ≤ 25 := by
  have := collide_All.rows_length collide_pairs.mk n n
  have h2 : n * n ≤ 5 * 5 := Nat.mul_le_mul h h
  show (collide_pairs.rows collide_pairs.mk n n).length ≤ 25
  omega
end Go.Proofs.Yteflngoiebgdaaa.Cl

/- Collide: what First found, and what All then holds. -/
namespace Go.Proofs.Yteflngoiebgdaaa.Cl
open Go.RowKit Go.Proofs.YteflngoiebgdaaaW.PrintWords Go.Proofs.Yteflngoiebgdaaa.X Go.Proofs.Yteflngoiebgdaaa.Fl Go.Proofs.Yteflngoiebgdaaa.GeoImpl Go.Proofs.Yteflngoiebgdaaa.Geo
set_option linter.unusedVariables false
set_option linter.unusedSimpArgs false
theorem find_split {α : Type} {M : α → Bool} : ∀ {l : List α} {p : α}, l.find? M = some p → ∃ l1 l2, l = l1 ++ p :: l2 ∧ M p = true ∧ ∀ q ∈ l1, M q = false
  | [], _, h => by cases h
  | x :: l, p, h => by
    rw [List.find?_cons] at h
    cases hx : M x with
    | true =>
      rw [hx] at h
      cases h
      exact ⟨[], l, rfl, hx, fun q hq => by cases hq⟩
    | false =>
      rw [hx] at h
      obtain ⟨l1, l2, e, h1, h2⟩ := find_split h
      refine ⟨x :: l1, l2, by rw [e]; rfl, h1, fun q hq => ?_⟩
      rcases List.mem_cons.1 hq with rfl | hq
      · exact hx
      · exact h2 q hq
theorem fst_cases (l : List Mv) (r : List Int) (c : List Ct) : ∀ d t, (fst l r c d t = (-1, 0, 0) ∧ ∀ s, t ≤ s → s < t + d → ∀ p ∈ prsN l.length, mt l r c s p = false) ∨
    (∃ (t0 : Nat) (p0 : Pr) (P1 P2 : List Pr), t ≤ t0 ∧ t0 < t + d ∧ fst l r c d t = ((t0 : Int), (p0.1 : Int), (p0.2 : Int)) ∧ prsN l.length = P1 ++ p0 :: P2 ∧ mt l r c t0 p0 = true ∧ (∀ p ∈ P1, mt l r c t0 p = false) ∧ ∀ s, t ≤ s → s < t0 → ∀ p ∈ prsN l.length, mt l r c s p = false)
  | 0, t => .inl ⟨rfl, fun s h1 h2 => by omega⟩
  | d + 1, t => by
    rw [fst]
    cases hf : (prsN l.length).find? (mt l r c t) with
    | some p =>
      obtain ⟨P1, P2, e, h1, h2⟩ := find_split hf
      exact .inr ⟨t, p, P1, P2, Nat.le_refl _, by omega, rfl, e, h1, h2, fun s h3 h4 => by omega⟩
    | none =>
      have hn : ∀ p ∈ prsN l.length, mt l r c t p = false := fun p hp => by
        have := List.find?_eq_none.1 hf p hp
        cases hm : mt l r c t p
        · rfl
        · exact absurd hm this
      rcases fst_cases l r c d (t + 1) with ⟨h1, h2⟩ | ⟨t0, p0, P1, P2, h1, h2, h3, h4, h5, h6, h7⟩
      · refine .inl ⟨h1, fun s h3 h4 => ?_⟩
        rcases Nat.eq_or_lt_of_le h3 with rfl | h3
        · exact hn
        · exact h2 s h3 (by omega)
      · refine .inr ⟨t0, p0, P1, P2, by omega, by omega, h3, h4, h5, h6, fun s h8 h9 => ?_⟩
        rcases Nat.eq_or_lt_of_le h8 with rfl | h8
        · exact hn
        · exact h7 s h8 h9
/-- The hits of a pair: at its first tick. -/
theorem hts_mem {M : Nat → Pr → Bool} {p : Pr} {x : Ht} : ∀ {d t : Nat}, x ∈ hts M p d t → ∃ s : Nat, x = ⟨(s : Int), (p.1 : Int), (p.2 : Int)⟩ ∧ t ≤ s ∧ s < t + d ∧ M s p = true
  | 0, _, h => by cases h
  | d + 1, t, h => by
    rw [hts] at h
    by_cases hm : M t p = true
    · rw [if_pos hm] at h
      obtain rfl := List.mem_singleton.1 h
      exact ⟨t, rfl, Nat.le_refl _, by omega, hm⟩
    · rw [if_neg hm] at h
      obtain ⟨s, h1, h2, h3, h4⟩ := hts_mem h
      exact ⟨s, h1, by omega, by omega, h4⟩
theorem hts_of {M : Nat → Pr → Bool} {p : Pr} {s : Nat} (hs : M s p = true) : ∀ d t, t ≤ s → s < t + d → ∃ u : Nat, hts M p d t = [⟨(u : Int), (p.1 : Int), (p.2 : Int)⟩] ∧ t ≤ u ∧ u ≤ s
  | 0, t, h1, h2 => by omega
  | d + 1, t, h1, h2 => by
    rw [hts]
    by_cases hm : M t p = true
    · exact ⟨t, if_pos hm, Nat.le_refl _, h1⟩
    · rw [if_neg hm]
      have : t ≠ s := by rintro rfl; exact hm hs
      obtain ⟨u, a, b, e⟩ := hts_of hs d (t + 1) (by omega) (by omega)
      exact ⟨u, a, by omega, e⟩
theorem hts_none {M : Nat → Pr → Bool} {p : Pr} : ∀ d t, (∀ s, t ≤ s → s < t + d → M s p = false) → hts M p d t = []
  | 0, _, _ => rfl
  | d + 1, t, h => by rw [hts, if_neg (by rw [h t (Nat.le_refl _) (by omega)]; decide), hts_none d (t + 1) (fun s h1 h2 => h s (by omega) (by omega))]
theorem alls_mem {M : Nat → Pr → Bool} {N : Nat} {P : List Pr} {x : Ht} (h : x ∈ alls M N P) : ∃ (p : Pr) (s : Nat), p ∈ P ∧ x = ⟨(s : Int), (p.1 : Int), (p.2 : Int)⟩ ∧ s < N ∧ M s p = true ∧ x ∈ hts M p N 0 := by
  unfold alls at h
  obtain ⟨p, hp, hx⟩ := List.mem_flatMap.1 h
  obtain ⟨s, h1, h2, h3, h4⟩ := hts_mem hx
  exact ⟨p, s, hp, h1, by omega, h4, hx⟩
theorem alls_none {M : Nat → Pr → Bool} {N : Nat} {P : List Pr} (h : ∀ s, s < N → ∀ p ∈ P, M s p = false) : alls M N P = [] := by
  unfold alls
  rw [List.flatMap_eq_nil_iff]
  exact fun p hp => hts_none N 0 (fun s _ h2 => h s (by omega) p hp)
end Go.Proofs.Yteflngoiebgdaaa.Cl

/- Lists of movements in the mirror and backwards. -/
namespace Go.Proofs.Yteflngoiebgdaaa.Cl
open Go.RowKit Go.Proofs.YteflngoiebgdaaaW.PrintWords Go.Proofs.Yteflngoiebgdaaa.X Go.Proofs.Yteflngoiebgdaaa.Fl Go.Proofs.Yteflngoiebgdaaa.GeoImpl Go.Proofs.Yteflngoiebgdaaa.Geo
set_option linter.unusedVariables false
set_option linter.unusedSimpArgs false
/-- What turns movements into movements as long. -/
structure Turn (g : Mv → Mv) : Prop where
  ok : ∀ m, chk m.f0 m.f1 = 0 → chk (g m).f0 (g m).f1 = 0
  f0 : ∀ m, (g m).f0.length = m.f0.length
  f1 : ∀ m, (g m).f1.length = m.f1.length
theorem turn_mir : Turn mir := ⟨fun m h => chk_mir h, fun m => List.length_map _, fun m => List.length_map _⟩
theorem turn_bck : Turn bck := ⟨fun m h => chk_rev h, fun m => List.length_reverse, fun m => List.length_reverse⟩
theorem rdM_map {g : Mv → Mv} (l : List Mv) (i : Nat) (hi : i < l.length) : rd_T43 (l.map g) (i : Int) = g (rd_T43 l (i : Int)) := by
  unfold rd_T43
  rw [Int.toNat_natCast, List.getD_eq_getElem?_getD, List.getD_eq_getElem?_getD, List.getElem?_map, List.getElem?_eq_getElem hi]
  rfl
theorem tks_map {g : Mv → Mv} (hg : Turn g) (l : List Mv) : tks (l.map g) = tks l := by
  unfold tks
  cases l with
  | nil => rfl
  | cons x l =>
    have := rdM_map (g := g) (x :: l) 0 (by simp)
    rw [show ((0 : Nat) : Int) = 0 from rfl] at this
    rw [this, hg.f1]
theorem cw_map {g : Mv → Mv} (hg : Turn g) : ∀ (l : List Mv) (r : List Int), cw l r = 0 → cw (l.map g) r = 0
  | [], _, _ => by cases ‹List Int› <;> rfl
  | m :: l, [], _ => rfl
  | m :: l, y :: r, h => by
    rw [cw] at h
    rw [List.map_cons, cw]
    by_cases h0 : chk m.f0 m.f1 = 0
    · rw [if_pos h0] at h
      rw [if_pos (hg.ok m h0)]
      by_cases h1 : y < 0
      · rw [if_pos h1] at h; cases h
      · rw [if_neg h1] at h ⊢
        by_cases h2 : y > 32768
        · rw [if_pos h2] at h; cases h
        · rw [if_neg h2] at h ⊢
          exact cw_map hg l r h
    · rw [if_neg h0] at h
      exact absurd h h0
theorem okN_map {g : Mv → Mv} (hg : Turn g) (l : List Mv) (m : Mv) : okN (l.map g) (g m) = okN l m := by
  have := tks_map hg l
  unfold tks at this
  unfold okN
  rw [this, hg.f1]
theorem cchk_map {g : Mv → Mv} (hg : Turn g) {l : List Mv} {r : List Int} {c : List Ct} (h : cchk l r c = 0) : cchk (l.map g) r c = 0 := by
  unfold cchk at h ⊢
  rw [List.length_map]
  by_cases h1 : 12 < l.length
  · rw [if_pos h1] at h; cases h
  · rw [if_neg h1] at h ⊢
    by_cases h2 : r.length = l.length
    · rw [if_pos h2] at h ⊢
      by_cases h3 : cw l r = 0
      · rw [if_pos h3] at h
        rw [if_pos (cw_map hg l r h3)]
        unfold cend at h ⊢
        have e : (l.map g).all (okN (l.map g)) = l.all (okN l) := by
          rw [List.all_map]
          congr 1
          funext m
          exact okN_map hg l m
        rw [e, List.length_map]
        exact h
      · rw [if_neg h3] at h; exact absurd h h3
    · rw [if_neg h2] at h; cases h
theorem cchk_nil {l : List Mv} {r : List Int} {c : List Ct} (h : cchk l r c = 0) : cchk l r [] = 0 := by
  unfold cchk at h ⊢
  by_cases h1 : 12 < l.length
  · rw [if_pos h1] at h; cases h
  · rw [if_neg h1] at h ⊢
    by_cases h2 : r.length = l.length
    · rw [if_pos h2] at h ⊢
      by_cases h3 : cw l r = 0
      · rw [if_pos h3] at h ⊢
        unfold cend at h ⊢
        by_cases h4 : l.all (okN l) = true
        · rw [if_pos h4]; rfl
        · rw [if_neg h4] at h; cases h
      · rw [if_neg h3] at h; exact absurd h h3
    · rw [if_neg h2] at h; cases h
theorem light_map {g : Mv → Mv} (hg : Turn g) {l : List Mv} {n : Nat} (h : light l n = true) : light (l.map g) n = true := by
  unfold light at h ⊢
  have e : (l.map g).all fewB = l.all fewB := by
    rw [List.all_map]
    congr 1
    funext m
    show fewB (g m) = fewB m
    unfold fewB
    rw [hg.f0, hg.f1]
  rw [e, List.length_map]
  exact h
theorem light_nil {l : List Mv} {n : Nat} (h : light l n = true) : light l ([] : List Ct).length = true := by
  unfold light at h ⊢
  rw [Bool.and_eq_true, Bool.not_eq_true', decide_eq_false_iff_not] at h ⊢
  refine ⟨?_, h.2⟩
  have := h.1
  simp only [List.length_nil]
  omega
/-! ### touching -/
theorem tch_dec {a0 a1 a2 a3 a4 b0 b1 b2 b3 b4 : Int} (ha : mOk a0 a1 a2 a3 a4 = true) (hb : mOk b0 b1 b2 b3 b4 = true) : (tch a0 a1 a2 a3 a4 b0 b1 b2 b3 b4).1 = decide (nr (a0 - b0) (a1 - b1) ((a2 - a0) - (b2 - b0)) ((a3 - a1) - (b3 - b1)) ((a4 + b4) * (a4 + b4)) < 0) := by
  unfold tch
  rw [if_pos ⟨ha, hb⟩]
theorem tch_mir {a0 a1 a2 a3 a4 b0 b1 b2 b3 b4 : Int} (ha : mOk a0 a1 a2 a3 a4 = true) (hb : mOk b0 b1 b2 b3 b4 = true) : (tch (-a0) a1 (-a2) a3 a4 (-b0) b1 (-b2) b3 b4).1 = (tch a0 a1 a2 a3 a4 b0 b1 b2 b3 b4).1 := by
  have ga := (mOk_iff _ _ _ _ _).1 ha
  have gb := (mOk_iff _ _ _ _ _).1 hb
  rw [tch_dec ha hb, tch_dec ((mOk_iff _ _ _ _ _).2 (by omega)) ((mOk_iff _ _ _ _ _).2 (by omega)), show -a0 - -b0 = -(a0 - b0) by omega, show -a2 - -a0 - (-b2 - -b0) = -(a2 - a0 - (b2 - b0)) by omega, nr_mirror]
theorem tch_bck {a0 a1 a2 a3 a4 b0 b1 b2 b3 b4 : Int} (ha : mOk a0 a1 a2 a3 a4 = true) (hb : mOk b0 b1 b2 b3 b4 = true) : (tch a2 a3 a0 a1 a4 b2 b3 b0 b1 b4).1 = (tch a0 a1 a2 a3 a4 b0 b1 b2 b3 b4).1 := by
  have ga := (mOk_iff _ _ _ _ _).1 ha
  have gb := (mOk_iff _ _ _ _ _).1 hb
  rw [tch_dec ha hb, tch_dec ((mOk_iff _ _ _ _ _).2 (by omega)) ((mOk_iff _ _ _ _ _).2 (by omega)), decide_eq_decide]
  have := nr_back (a0 - b0) (a1 - b1) ((a2 - a0) - (b2 - b0)) ((a3 - a1) - (b3 - b1)) ((a4 + b4) * (a4 + b4))
  rw [show a0 - b0 + (a2 - a0 - (b2 - b0)) = a2 - b2 by omega, show a1 - b1 + (a3 - a1 - (b3 - b1)) = a3 - b3 by omega, show -(a2 - a0 - (b2 - b0)) = a0 - a2 - (b0 - b2) by omega, show -(a3 - a1 - (b3 - b1)) = a1 - a3 - (b1 - b3) by omega] at this
  exact this
/-! ### where they stand -/
theorem on_at {l : List Mv} {r : List Int} {c : List Ct} (hg : Good l r c) {a : Nat} (ha : a < l.length) {t : Nat} (h1 : t ≤ tks l) : -32768 ≤ (at_ l (a : Int) (t : Int)).f0 ∧ (at_ l (a : Int) (t : Int)).f0 ≤ 32768 ∧ -32768 ≤ (at_ l (a : Int) (t : Int)).f1 ∧ (at_ l (a : Int) (t : Int)).f1 ≤ 32768 := by
  obtain ⟨ma, _, on, _, _⟩ := hg.mov a ha
  refine on _ ?_
  unfold rd_T54
  rw [Int.toNat_natCast, List.getD_eq_getElem?_getD, List.getElem?_eq_getElem (by omega)]
  exact List.getElem_mem _
theorem at_mir {l : List Mv} {r : List Int} {c : List Ct} (hg : Good l r c) {a : Nat} (ha : a < l.length) {t : Nat} (ht : t ≤ tks l) : at_ (l.map mir) (a : Int) (t : Int) = ⟨-(at_ l (a : Int) (t : Int)).f0, (at_ l (a : Int) (t : Int)).f1⟩ := by
  obtain ⟨ma, _, _, _, _⟩ := hg.mov a ha
  have on := on_at hg ha ht
  have e : rd_T54 (rd_T43 (l.map mir) (a : Int)).f0 (t : Int) = movement_Mirror.ps (rd_T54 (rd_T43 l (a : Int)).f0 (t : Int)) := by
    rw [rdM_map l a ha]
    unfold rd_T54 mir
    rw [Int.toNat_natCast, List.getD_eq_getElem?_getD, List.getD_eq_getElem?_getD, List.getElem?_map, List.getElem?_eq_getElem (by omega)]
    rfl
  unfold at_ at on ⊢
  rw [e]
  generalize rd_T54 (rd_T43 l (a : Int)).f0 (t : Int) = x at on
  show (⟨wrap64 (-x.f0.f0), x.f0.f1⟩ : S49) = _
  rw [Fl.w64 (by omega) (by omega)]
theorem at_bck {l : List Mv} {r : List Int} {c : List Ct} (hg : Good l r c) {a : Nat} (ha : a < l.length) {t : Nat} (ht : t ≤ tks l) : at_ (l.map bck) (a : Int) (t : Int) = at_ l (a : Int) ((tks l - t : Nat) : Int) := by
  obtain ⟨ma, _, _, _, _⟩ := hg.mov a ha
  unfold at_
  rw [rdM_map l a ha]
  unfold rd_T54 bck
  rw [Int.toNat_natCast, Int.toNat_natCast, List.getD_eq_getElem?_getD, List.getD_eq_getElem?_getD]
  dsimp only
  rw [List.getElem?_reverse (by omega), ma, show tks l + 1 - 1 - t = tks l - t by omega]
theorem hv_bd (h : Bool) {x : Int} (h0 : 0 ≤ x) (h1 : x ≤ 32768) : 0 ≤ hv h x ∧ hv h x ≤ 32768 := by
  unfold hv
  split <;> omega
theorem mt_mir {l : List Mv} {r : List Int} {c : List Ct} (hg : Good l r c) {t : Nat} {p : Pr} (h1 : p.1 < l.length) (h2 : p.2 < l.length) (ht : t < tks l) : mt (l.map mir) r c t p = mt l r c t p := by
  obtain ⟨_, _, _, a1, a2⟩ := hg.mov p.1 h1
  obtain ⟨_, _, _, b1, b2⟩ := hg.mov p.2 h2
  unfold mt mtR
  have e : (t : Int) + 1 = ((t + 1 : Nat) : Int) := by omega
  rw [e, at_mir hg h1 (show t ≤ tks l by omega), at_mir hg h1 (show t + 1 ≤ tks l by omega), at_mir hg h2 (show t ≤ tks l by omega), at_mir hg h2 (show t + 1 ≤ tks l by omega)]
  exact tch_mir ((mOk_iff _ _ _ _ _).2 ⟨on_at hg h1 (by omega), on_at hg h1 (by omega), hv_bd _ a1 a2⟩) ((mOk_iff _ _ _ _ _).2 ⟨on_at hg h2 (by omega), on_at hg h2 (by omega), hv_bd _ b1 b2⟩)
theorem mt_bck {l : List Mv} {r : List Int} (hg : Good l r []) {t : Nat} {p : Pr} (h1 : p.1 < l.length) (h2 : p.2 < l.length) (ht : t < tks l) : mt (l.map bck) r [] t p = mt l r [] (tks l - 1 - t) p := by
  obtain ⟨_, _, _, a1, a2⟩ := hg.mov p.1 h1
  obtain ⟨_, _, _, b1, b2⟩ := hg.mov p.2 h2
  unfold mt mtR
  rw [show ∀ s : Int, ([] : List Ct).any (isC (p.1 : Int) (p.2 : Int) s) = false from fun s => rfl, show ∀ s : Int, ([] : List Ct).any (isC (p.1 : Int) (p.2 : Int) s) = false from fun s => rfl]
  have e : (t : Int) + 1 = ((t + 1 : Nat) : Int) := by omega
  rw [e, at_bck hg h1 (show t ≤ tks l by omega), at_bck hg h1 (show t + 1 ≤ tks l by omega), at_bck hg h2 (show t ≤ tks l by omega), at_bck hg h2 (show t + 1 ≤ tks l by omega),
    show ((tks l - 1 - t : Nat) : Int) + 1 = ((tks l - t : Nat) : Int) by omega, show tks l - (t + 1) = tks l - 1 - t by omega]
  exact tch_bck ((mOk_iff _ _ _ _ _).2 ⟨on_at hg h1 (by omega), on_at hg h1 (by omega), hv_bd _ a1 a2⟩) ((mOk_iff _ _ _ _ _).2 ⟨on_at hg h2 (by omega), on_at hg h2 (by omega), hv_bd _ b1 b2⟩)
/-! ### all hits -/
theorem hts_congr {M M' : Nat → Pr → Bool} {p : Pr} : ∀ d t, (∀ s, t ≤ s → s < t + d → M s p = M' s p) → hts M p d t = hts M' p d t
  | 0, _, _ => rfl
  | d + 1, t, h => by rw [hts, hts, h t (Nat.le_refl _) (by omega), hts_congr d (t + 1) (fun s h1 h2 => h s (by omega) (by omega))]
theorem alls_congr {M M' : Nat → Pr → Bool} {N : Nat} : ∀ (P : List Pr), (∀ p ∈ P, ∀ s, s < N → M s p = M' s p) → alls M N P = alls M' N P
  | [], _ => rfl
  | p :: P, h => by rw [alls_cons, alls_cons, hts_congr N 0 (fun s _ h2 => h p (List.mem_cons_self ..) s (by omega)), alls_congr P (fun q hq => h q (List.mem_cons_of_mem _ hq))]
/-- Who hits whom. -/
def who (x : Ht) : Int × Int := (x.f1, x.f2)
theorem hts_who {M M' : Nat → Pr → Bool} {N : Nat} {p : Pr} (h : (∃ s, s < N ∧ M s p = true) ↔ (∃ s, s < N ∧ M' s p = true)) : (hts M p N 0).map who = (hts M' p N 0).map who := by
  by_cases hs : ∃ s, s < N ∧ M s p = true
  · obtain ⟨s', h1', h2'⟩ := h.1 hs
    obtain ⟨s, h1, h2⟩ := hs
    obtain ⟨u, e, _⟩ := hts_of h2 N 0 (Nat.zero_le _) (by omega)
    obtain ⟨u', e', _⟩ := hts_of h2' N 0 (Nat.zero_le _) (by omega)
    rw [e, e']
    rfl
  · have hs' : ¬ ∃ s, s < N ∧ M' s p = true := fun g => hs (h.2 g)
    rw [hts_none N 0 (fun s _ h2 => ?_), hts_none N 0 (fun s _ h2 => ?_)]
    · cases hm : M' s p with
      | false => rfl
      | true => exact absurd ⟨s, by omega, hm⟩ hs'
    · cases hm : M s p with
      | false => rfl
      | true => exact absurd ⟨s, by omega, hm⟩ hs
theorem alls_who {M M' : Nat → Pr → Bool} {N : Nat} : ∀ (P : List Pr), (∀ p ∈ P, (∃ s, s < N ∧ M s p = true) ↔ (∃ s, s < N ∧ M' s p = true)) → (alls M N P).map who = (alls M' N P).map who
  | [], _ => rfl
  | p :: P, h => by rw [alls_cons, alls_cons, List.map_append, List.map_append, hts_who (h p (List.mem_cons_self ..)), alls_who P (fun q hq => h q (List.mem_cons_of_mem _ hq))]
theorem mir_alls {l : List Mv} {r : List Int} {c : List Ct} (hg : Good l r c) : alls (mt (l.map mir) r c) (tks (l.map mir)) (prsN (l.map mir).length) = alls (mt l r c) (tks l) (prsN l.length) := by
  rw [tks_map turn_mir, List.length_map]
  refine alls_congr _ (fun p hp s hs => ?_)
  have := collide_pairs.prs_mem hp
  exact mt_mir hg (by omega) (by omega) hs
theorem bck_alls {l : List Mv} {r : List Int} (hg : Good l r []) : (alls (mt l r []) (tks l) (prsN l.length)).map who = (alls (mt (l.map bck) r []) (tks (l.map bck)) (prsN (l.map bck).length)).map who := by
  rw [tks_map turn_bck, List.length_map]
  refine alls_who _ (fun p hp => ?_)
  have := collide_pairs.prs_mem hp
  constructor
  · rintro ⟨s, h1, h2⟩
    refine ⟨tks l - 1 - s, by omega, ?_⟩
    rw [mt_bck hg (by omega) (by omega) (by omega), show tks l - 1 - (tks l - 1 - s) = s by omega]
    exact h2
  · rintro ⟨s, h1, h2⟩
    refine ⟨tks l - 1 - s, by omega, ?_⟩
    rw [← mt_bck hg (by omega) (by omega) h1]
    exact h2
end Go.Proofs.Yteflngoiebgdaaa.Cl

/- A list of hits and itself. -/
namespace Go.Proofs.Yteflngoiebgdaaa.Cl
open Go.RowKit Go.Proofs.YteflngoiebgdaaaW.PrintWords Go.Proofs.Yteflngoiebgdaaa.X Go.Proofs.Yteflngoiebgdaaa.Fl Go.Proofs.Yteflngoiebgdaaa.GeoImpl Go.Proofs.Yteflngoiebgdaaa.Geo
set_option linter.unusedVariables false
set_option linter.unusedSimpArgs false
theorem same_l0 (x : List Ht) (hx : x.length ≤ 1000) : ∀ (s : List Ht) (i k : Nat), x.drop i = s → s.length < k → dancestudioref44_Same.l0 k x x (i : Int) = some true := by
  intro s
  induction s with
  | nil =>
    intro i k hd hk
    obtain ⟨k, rfl⟩ : ∃ m, k = m + 1 := ⟨k - 1, by omega⟩
    have hi : x.length ≤ i := List.drop_eq_nil_iff.1 hd
    rw [dancestudioref44_Same.l0, if_neg (by omega)]
  | cons y s ih =>
    intro i k hd hk
    simp only [List.length_cons] at hk
    obtain ⟨k, rfl⟩ : ∃ m, k = m + 1 := ⟨k - 1, by omega⟩
    obtain ⟨hy, hi, hn⟩ := rdH hd
    rw [dancestudioref44_Same.l0, if_pos (by omega), if_pos (by omega), if_pos (by omega), beq_self_eq_true, beq_self_eq_true, beq_self_eq_true, if_neg (by decide), w64 (by omega) (by omega), show (i : Int) + 1 = ((i + 1 : Nat) : Int) by omega, ih (i + 1) k hn (by omega)]
theorem same_f (k : Nat) (x : List Ht) (hx : x.length ≤ 100) (hk : 200 ≤ k) : dancestudioref44_Same.f k x x = some true := by
  unfold dancestudioref44_Same.f
  rw [if_pos rfl, show (0 : Int) = ((0 : Nat) : Int) from rfl, same_l0 x (by omega) x 0 k (by simp) (by omega)]
end Go.Proofs.Yteflngoiebgdaaa.Cl

/- Collide: the chapter's examples. -/
namespace Go.Proofs.Yteflngoiebgdaaa.Cl
open Go.RowKit Go.Proofs.YteflngoiebgdaaaW.PrintWords Go.Proofs.Yteflngoiebgdaaa.X
set_option maxRecDepth 100000 in
theorem awake_40 : dancestudiolaw44_awake.f 40 = some true := by kernel_rfl
theorem awake_ge : ∀ d, dancestudiolaw44_awake.f (40 + d) = some true
  | 0 => awake_40
  | d + 1 => dancestudiolaw44_awake.mono (40 + d) _ (awake_ge d)
theorem awake_f (k : Nat) (h : 40 ≤ k) : dancestudiolaw44_awake.f k = some true := by
  obtain ⟨d, rfl⟩ : ∃ d, k = 40 + d := ⟨k - 40, by omega⟩
  exact awake_ge d
end Go.Proofs.Yteflngoiebgdaaa.Cl

/- The law CollideMirror over numbers and lists. -/
namespace Go.Proofs.Yteflngoiebgdaaa.Cl
open Go.RowKit Go.Proofs.YteflngoiebgdaaaW.PrintWords Go.Proofs.Yteflngoiebgdaaa.X Go.Proofs.Yteflngoiebgdaaa.Fl
set_option linter.unusedVariables false
set_option linter.unusedSimpArgs false
theorem mi_l1 (x y : List Ht) (hx : x.length ≤ 1000) (hw : x.map who = y.map who) : ∀ d i k, i + d = x.length → d + 41 ≤ k → dancestudiolaw44_CollideMirror.l1 k x y (i : Int) = some true := by
  have hy : x.length = y.length := by rw [← List.length_map (f := who), hw, List.length_map]
  intro d
  induction d with
  | zero =>
    intro i k hd hk
    obtain ⟨k, rfl⟩ : ∃ m, k = m + 1 := ⟨k - 1, by omega⟩
    rw [dancestudiolaw44_CollideMirror.l1, if_neg (by omega), awake_f k (by omega)]
    rfl
  | succ d ih =>
    intro i k hd hk
    obtain ⟨k, rfl⟩ : ∃ m, k = m + 1 := ⟨k - 1, by omega⟩
    obtain ⟨hx1, hi, _⟩ := rdH (List.drop_eq_getElem_cons (show i < x.length by omega))
    obtain ⟨hy1, hj, _⟩ := rdH (List.drop_eq_getElem_cons (show i < y.length by omega))
    have he : who x[i] = who y[i] := by
      have h1 : (x.map who)[i]? = some (who x[i]) := by rw [List.getElem?_map, List.getElem?_eq_getElem hi]; rfl
      have h2 : (y.map who)[i]? = some (who y[i]) := by rw [List.getElem?_map, List.getElem?_eq_getElem hj]; rfl
      rw [hw, h2] at h1
      exact (Option.some.inj h1).symm
    have e1 : x[i].f1 = y[i].f1 := congrArg Prod.fst he
    have e2 : x[i].f2 = y[i].f2 := congrArg Prod.snd he
    rw [dancestudiolaw44_CollideMirror.l1, hx1, hy1, if_pos (by omega), if_pos (by omega), if_pos (by omega), if_pos e1, if_pos e2, Fl.w64 (by omega) (by omega), show (i : Int) + 1 = ((i + 1 : Nat) : Int) by omega]
    exact ih (i + 1) k (by omega) (by omega)
theorem mi_l0 (l : List Mv) (r : List Int) (c : List Ct) (hl : l.length ≤ 1000) (hm : ∀ m ∈ l, chk m.f0 m.f1 = 0 ∧ m.f0.length ≤ 60 ∧ m.f1.length ≤ 60) (k0 : Nat) (h0 : 17000 ≤ k0)
    (K : ∀ k, k0 ≤ k → dancestudiolaw44_CollideMirror.l0 k l r c (l.map mir) (l.map bck) (l.length : Int) = some true) :
    ∀ (s : List Mv) (i k : Nat) (M B : List Mv), l.drop i = s → M ++ s.map mir = l.map mir → B ++ s.map bck = l.map bck → k0 + s.length ≤ k → dancestudiolaw44_CollideMirror.l0 k l r c M B (i : Int) = some true := by
  intro s
  induction s with
  | nil =>
    intro i k M B hd hM hB hk
    have hi : l.length ≤ i := List.drop_eq_nil_iff.1 hd
    rw [List.map_nil, List.append_nil] at hM hB
    subst hM hB
    have hk' : k0 ≤ k := hk
    have := K k hk'
    obtain ⟨k, rfl⟩ : ∃ m, k = m + 1 := ⟨k - 1, by omega⟩
    rw [dancestudiolaw44_CollideMirror.l0, if_neg (by omega)] at this ⊢
    exact this
  | cons x s ih =>
    intro i k M B hd hM hB hk
    simp only [List.length_cons] at hk
    obtain ⟨k, rfl⟩ : ∃ m, k = m + 1 := ⟨k - 1, by omega⟩
    obtain ⟨hx, hi, hn⟩ := rdM hd
    have hxm : x ∈ l := List.mem_of_mem_drop (i := i) (by rw [hd]; exact List.mem_cons_self ..)
    obtain ⟨q0, q1, q2⟩ := hm x hxm
    have hMl : M.length ≤ 1000 := by
      have := congrArg List.length hM
      simp only [List.length_append, List.length_map, List.length_cons] at this
      omega
    have hBl : B.length ≤ 1000 := by
      have := congrArg List.length hB
      simp only [List.length_append, List.length_map, List.length_cons] at this
      omega
    have hrev := rev_f k x.f0 x.f1 (by omega) (by omega) (by omega)
    unfold revV at hrev
    rw [if_pos q0] at hrev
    rw [dancestudiolaw44_CollideMirror.l0, if_pos (by omega), if_pos (by omega), hx, mir_f k x.f0 x.f1 q0 (by omega) (by omega) (by omega), hrev, Option.bind_some, Option.bind_some]
    dsimp only
    rw [if_pos rfl, if_pos rfl, if_pos (by omega), if_pos (by omega), Fl.w64 (by omega) (by omega), show (i : Int) + 1 = ((i + 1 : Nat) : Int) by omega]
    exact ih (i + 1) k _ _ hn (by rw [List.append_assoc]; exact hM) (by rw [List.append_assoc]; exact hB) (by omega)
theorem rdM_get (l : List Mv) (m : Mv) (h : m ∈ l) : ∃ i, i < l.length ∧ l.getD i zM = m := by
  obtain ⟨i, hi, e⟩ := List.getElem_of_mem h
  exact ⟨i, hi, by rw [List.getD_eq_getElem?_getD, List.getElem?_eq_getElem hi]; exact e⟩
theorem cchk_all {l : List Mv} {r : List Int} {c : List Ct} (h : cchk l r c = 0) : ∀ m ∈ l, chk m.f0 m.f1 = 0 := by
  intro m hm
  obtain ⟨i, hi, e⟩ := rdM_get l m hm
  unfold cchk at h
  by_cases h1 : 12 < l.length
  · rw [if_pos h1] at h; cases h
  · rw [if_neg h1] at h
    by_cases h2 : r.length = l.length
    · rw [if_pos h2] at h
      by_cases h3 : cw l r = 0
      · have := (cw_ok l r h2 h3 i hi).1
        rw [e] at this
        exact this
      · rw [if_neg h3] at h; exact absurd h h3
    · rw [if_neg h2] at h; cases h
end Go.Proofs.Yteflngoiebgdaaa.Cl
namespace Go.Proofs.Yteflngoiebgdaaa.Pure
open Go.RowKit Go.Proofs.YteflngoiebgdaaaW.PrintWords Go.Proofs.Yteflngoiebgdaaa.X Go.Proofs.Yteflngoiebgdaaa.Cl
set_option linter.unusedVariables false
set_option linter.unusedSimpArgs false
theorem CollideMirror (l : List Mv) (r : List Int) (c : List Ct) : ∃ k, X.dancestudiolaw44_CollideMirror.f k l r c = some true := by
  refine ⟨20000, ?_⟩
  generalize hk : 20000 = k
  obtain ⟨k, rfl⟩ : ∃ m, k = m + 1 := ⟨k - 1, by omega⟩
  have ht : dancestudiolaw44_CollideMirror.j0 (k + 1) l r c true = some true := by rw [dancestudiolaw44_CollideMirror.j0, if_pos rfl, awake_f k (by omega)]; rfl
  unfold dancestudiolaw44_CollideMirror.f
  rw [light_f (k + 1) l c (by omega), Option.bind_some]
  by_cases hL : light l c.length = true
  · obtain ⟨_, _, hc, hm⟩ := light_ok hL
    rw [if_pos hL, c_f (k + 1) l r c hc hm (by omega), Option.bind_some]
    by_cases h0 : cchk l r c = 0
    · have hg := good_of hL h0
      have hl := hg.len
      have hall := cchk_all h0
      have hLn : light l ([] : List Ct).length = true := light_nil hL
      have h0n := cchk_nil h0
      have hgn : Cl.Good l r [] := good_of hLn h0n
      have hLm : light (l.map mir) c.length = true := light_map turn_mir hL
      have h0m := cchk_map turn_mir h0
      have hgm : Cl.Good (l.map mir) r c := good_of hLm h0m
      have hLb : light (l.map bck) ([] : List Ct).length = true := light_map turn_bck hLn
      have h0b := cchk_map turn_bck h0n
      have hgb : Cl.Good (l.map bck) r [] := good_of hLb h0b
      rw [h0, show ((0 : Int) != 0) = false from rfl, dancestudiolaw44_CollideMirror.j0, if_neg (by decide), show (0 : Int) = ((0 : Nat) : Int) from rfl]
      refine mi_l0 l r c (by omega) (fun m hmm => ⟨hall m hmm, hm m hmm⟩) 19000 (by omega) (fun k' hk' => ?_) l 0 k [] [] (by simp) (by simp) (by simp) (by omega)
      obtain ⟨k', rfl⟩ : ∃ m, k' = m + 1 := ⟨k' - 1, by omega⟩
      have C1 := c_f k' l r c hc hm (by omega)
      rw [h0] at C1
      have C2 := c_f k' (l.map mir) r c hc (light_ok hLm).2.2.2 (by omega)
      rw [h0m] at C2
      have C3 := c_f k' l r [] (by simp) hm (by omega)
      rw [h0n] at C3
      have C4 := c_f k' (l.map bck) r [] (by simp) (light_ok hLb).2.2.2 (by omega)
      rw [h0b] at C4
      have hlen := prs_len _ hg.len
      rw [dancestudiolaw44_CollideMirror.l0, if_neg (by omega), all_f k' l r c C1 hg (by omega), all_f k' (l.map mir) r c C2 hgm (by omega), all_f k' l r [] C3 hgn (by omega), all_f k' (l.map bck) r [] C4 hgb (by omega), Option.bind_some, Option.bind_some, Option.bind_some, Option.bind_some]
      dsimp only
      rw [if_pos rfl, if_pos rfl, if_pos rfl, if_pos rfl, mir_alls hg, same_f k' _ (Nat.le_trans (alls_len _ _ _) (Nat.le_trans hlen (by omega))) (by omega), Option.bind_some, if_pos rfl]
      have hw := bck_alls hgn
      have hwl := congrArg List.length hw
      rw [List.length_map, List.length_map] at hwl
      rw [if_pos (by omega), show (0 : Int) = ((0 : Nat) : Int) from rfl]
      have hal := Nat.le_trans (alls_len (mt l r []) (tks l) (prsN l.length)) hlen
      exact mi_l1 _ _ (by omega) hw _ 0 k' (Nat.zero_add _) (by omega)
    · rw [bne_iff_ne.2 h0]
      exact ht
  · rw [if_neg hL]
    exact ht
end Go.Proofs.Yteflngoiebgdaaa.Pure

/- CollideMirror: WHATEVER THE INPUT, the law returns true and its arguments read as they did: the row over the printed walk and the plain statement. -/
namespace Go.Proofs.Yteflngoiebgdaaa.collideMirror
open Go.ChangeShapes Go.WideShapes Go.ChangeAt Go.RowKit Go.Proofs.YteflngoiebgdaaaW.PrintWords
open Go.ChangeMaps (open_string shut_string)
set_option linter.unusedVariables false
set_option linter.unusedSimpArgs false
theorem own : ownKnob Try.prog.godebug = none := by kernel_rfl
theorem laidOut : laidOutB Try.prog = true := by kernel_rfl
set_option maxRecDepth 100000 in
theorem contract (H : Type) (enc : TypeId × Value → H) (W : World) (base : Nat) (args : Array Value) (ds gs : List (DataW H)) (before : List MemPlace)
    (hval : ∀ (j : Nat) t v, Try.f10.params[j]? = some t → args[j]? = some v → Value.okWide Try.prog W .any base t v)
    (hW : DataW.Whole enc Try.prog Try.f10.params.toList Rows.collideMirrorSpec.vars false W args.toList ds gs before) :
    Calls Try.prog 10 args W fun e W' => ∃ v, e = .returned v ∧ Rows.collideMirrorSpec.post enc Try.prog Try.f10 false true false false W args v W' := by
  have hW' := hW
  obtain ⟨p, q, hA0, hV, rfl, hfz, hnd⟩ := hW
  have hA : DataW.TrodAll enc Try.prog W 0 (fun _ => true) true Try.f10.params.toList args.toList ds p := hA0
  rw [Try.params10] at hA hval
  obtain ⟨v0, vs0, d0, ds0, p0, q0, hargs, rfl, rfl, h0, r0⟩ := trodAll_cons hA
  obtain ⟨v1, vs1, d1, ds1, p1, q1, rfl, rfl, rfl, h1, r1⟩ := trodAll_cons r0
  obtain ⟨v2, vs2, d2, ds2, p2, q2, rfl, rfl, rfl, h2, r2⟩ := trodAll_cons r1
  obtain ⟨rfl, rfl, rfl⟩ := trodAll_nil r2
  obtain rfl : args = #[v0, v1, v2] := by cases args; simp_all
  obtain ⟨rfl, rfl⟩ := trodVars_none hV
  have k0 := h0
  have lt0 : ∀ x ∈ p0, x.block < W.heap.size := by obtain ⟨m, hm⟩ := k0; exact DataW.trod_lt m _ _ _ hm
  have o0 : Opens enc Try.prog W (Kd.slice 43 X.k43) 22 _ _ := (Opens.slice Try.underlying22 (by kernel_rfl) (show Opens enc Try.prog W X.k43 43 _ _ from Opens.struct Try.underlying43 (by kernel_rfl) (fun x : X.S43 => (x.f0, x.f1)) (fun p => ⟨p.1, p.2⟩) (fun _ => rfl) (OpensFs.cons rfl (Opens.slice Try.underlying41 (by kernel_rfl) (show Opens enc Try.prog W X.k54 54 _ _ from Opens.struct Try.underlying54 (by kernel_rfl) (fun x : X.S54 => (x.f0, x.f1, x.f2, x.f3)) (fun p => ⟨p.1, p.2.1, p.2.2.1, p.2.2.2⟩) (fun _ => rfl) (OpensFs.cons rfl (show Opens enc Try.prog W X.k49 49 _ _ from Opens.struct Try.underlying49 (by kernel_rfl) (fun x : X.S49 => (x.f0, x.f1)) (fun p => ⟨p.1, p.2⟩) (fun _ => rfl) (OpensFs.cons rfl (Opens.int Try.underlying3 (by kernel_rfl)) (OpensFs.last rfl (Opens.int Try.underlying3 (by kernel_rfl))))) (OpensFs.cons rfl (Opens.int Try.underlying3 (by kernel_rfl)) (OpensFs.cons rfl (Opens.int Try.underlying3 (by kernel_rfl)) (OpensFs.last rfl (show Opens enc Try.prog W X.k52 52 _ _ from Opens.structA Try.underlying52 (by kernel_rfl) (fun x : X.S52 => (x.f0, x.f1, x.f2, x.f3, x.f4, x.f5)) (fun p => ⟨p.1, p.2.1, p.2.2.1, p.2.2.2.1, p.2.2.2.2.1, p.2.2.2.2.2⟩) (fun _ => rfl) (OpensAs.cons (show Opens enc Try.prog W X.k51 51 _ _ from Opens.struct Try.underlying51 (by kernel_rfl) (fun x : X.S51 => (x.f0, x.f1, x.f2)) (fun p => ⟨p.1, p.2.1, p.2.2⟩) (fun _ => rfl) (OpensFs.cons rfl (Opens.int Try.underlying3 (by kernel_rfl)) (OpensFs.cons rfl (Opens.int Try.underlying3 (by kernel_rfl)) (OpensFs.last rfl (Opens.int Try.underlying3 (by kernel_rfl)))))) (OpensAs.cons (show Opens enc Try.prog W X.k51 51 _ _ from Opens.struct Try.underlying51 (by kernel_rfl) (fun x : X.S51 => (x.f0, x.f1, x.f2)) (fun p => ⟨p.1, p.2.1, p.2.2⟩) (fun _ => rfl) (OpensFs.cons rfl (Opens.int Try.underlying3 (by kernel_rfl)) (OpensFs.cons rfl (Opens.int Try.underlying3 (by kernel_rfl)) (OpensFs.last rfl (Opens.int Try.underlying3 (by kernel_rfl)))))) (OpensAs.cons (show Opens enc Try.prog W X.k51 51 _ _ from Opens.struct Try.underlying51 (by kernel_rfl) (fun x : X.S51 => (x.f0, x.f1, x.f2)) (fun p => ⟨p.1, p.2.1, p.2.2⟩) (fun _ => rfl) (OpensFs.cons rfl (Opens.int Try.underlying3 (by kernel_rfl)) (OpensFs.cons rfl (Opens.int Try.underlying3 (by kernel_rfl)) (OpensFs.last rfl (Opens.int Try.underlying3 (by kernel_rfl)))))) (OpensAs.cons (show Opens enc Try.prog W X.k51 51 _ _ from Opens.struct Try.underlying51 (by kernel_rfl) (fun x : X.S51 => (x.f0, x.f1, x.f2)) (fun p => ⟨p.1, p.2.1, p.2.2⟩) (fun _ => rfl) (OpensFs.cons rfl (Opens.int Try.underlying3 (by kernel_rfl)) (OpensFs.cons rfl (Opens.int Try.underlying3 (by kernel_rfl)) (OpensFs.last rfl (Opens.int Try.underlying3 (by kernel_rfl)))))) (OpensAs.cons (show Opens enc Try.prog W X.k51 51 _ _ from Opens.struct Try.underlying51 (by kernel_rfl) (fun x : X.S51 => (x.f0, x.f1, x.f2)) (fun p => ⟨p.1, p.2.1, p.2.2⟩) (fun _ => rfl) (OpensFs.cons rfl (Opens.int Try.underlying3 (by kernel_rfl)) (OpensFs.cons rfl (Opens.int Try.underlying3 (by kernel_rfl)) (OpensFs.last rfl (Opens.int Try.underlying3 (by kernel_rfl)))))) (OpensAs.last (show Opens enc Try.prog W X.k51 51 _ _ from Opens.struct Try.underlying51 (by kernel_rfl) (fun x : X.S51 => (x.f0, x.f1, x.f2)) (fun p => ⟨p.1, p.2.1, p.2.2⟩) (fun _ => rfl) (OpensFs.cons rfl (Opens.int Try.underlying3 (by kernel_rfl)) (OpensFs.cons rfl (Opens.int Try.underlying3 (by kernel_rfl)) (OpensFs.last rfl (Opens.int Try.underlying3 (by kernel_rfl))))))))))))))))))) (OpensFs.last rfl (Opens.slice Try.underlying23 (by kernel_rfl) (Opens.int Try.underlying3 (by kernel_rfl)))))))
  obtain ⟨x0, A0, c0, rfl, l0, C0, G0, b0⟩ := o0.arg_slice Try.underlying22 (hval 0 22 v0 rfl rfl) k0
  have k1 := h1
  have lt1 : ∀ x ∈ p1, x.block < W.heap.size := by obtain ⟨m, hm⟩ := k1; exact DataW.trod_lt m _ _ _ hm
  have o1 : Opens enc Try.prog W (Kd.slice 3 (Kd.int .i64)) 23 _ _ := (Opens.slice Try.underlying23 (by kernel_rfl) (Opens.int Try.underlying3 (by kernel_rfl)))
  obtain ⟨x1, A1, c1, rfl, l1, C1, G1, b1⟩ := o1.arg_slice Try.underlying23 (hval 1 23 v1 rfl rfl) k1
  have k2 := h2
  have lt2 : ∀ x ∈ p2, x.block < W.heap.size := by obtain ⟨m, hm⟩ := k2; exact DataW.trod_lt m _ _ _ hm
  have o2 : Opens enc Try.prog W (Kd.slice 62 X.k62) 24 _ _ := (Opens.slice Try.underlying24 (by kernel_rfl) (show Opens enc Try.prog W X.k62 62 _ _ from Opens.struct Try.underlying62 (by kernel_rfl) (fun x : X.S62 => (x.f0, x.f1, x.f2, x.f3, x.f4)) (fun p => ⟨p.1, p.2.1, p.2.2.1, p.2.2.2.1, p.2.2.2.2⟩) (fun _ => rfl) (OpensFs.cons rfl (Opens.int Try.underlying3 (by kernel_rfl)) (OpensFs.cons rfl (Opens.int Try.underlying3 (by kernel_rfl)) (OpensFs.cons rfl (Opens.int Try.underlying3 (by kernel_rfl)) (OpensFs.cons rfl (Opens.int Try.underlying3 (by kernel_rfl)) (OpensFs.last rfl (show Opens enc Try.prog W X.k60 60 _ _ from Opens.struct Try.underlying60 (by kernel_rfl) (fun x : X.S60 => (x.f0, x.f1)) (fun p => ⟨p.1, p.2⟩) (fun _ => rfl) (OpensFs.cons rfl (Opens.int Try.underlying3 (by kernel_rfl)) (OpensFs.last rfl (Opens.int Try.underlying3 (by kernel_rfl))))))))))))
  obtain ⟨x2, A2, c2, rfl, l2, C2, G2, b2⟩ := o2.arg_slice Try.underlying24 (hval 2 24 v2 rfl rfl) k2
  obtain ⟨k, hf⟩ := Pure.CollideMirror x0 x1 x2 
  refine (X.dancestudiolaw44_CollideMirror.calls k _ _ x0 _ _ x1 _ _ x2 true W C0 l0 C1 l1 C2 l2 hf).mono ?_
  rintro e W' ⟨rfl, hd⟩
  have bel : Below W.heap.size W W' := hd
  exact ⟨_, rfl, _, _, _, [], _, [], hW', trodAll_mk1 (shut_bool Try.underlying4 _), (trodAll_cons_mk (Below.trod laidOut (by kernel_rfl) (of_decide_eq_true (by kernel_rfl)) k0 bel lt0) (trodAll_cons_mk (Below.trod laidOut (by kernel_rfl) (of_decide_eq_true (by kernel_rfl)) k1 bel lt1) (trodAll_cons_mk (Below.trod laidOut (by kernel_rfl) (of_decide_eq_true (by kernel_rfl)) k2 bel lt2) trodAll_mk0))), rfl, bel.frame _, fun h => by cases h⟩
set_option maxRecDepth 100000 in
theorem lifted (os : Os) (started : os.Started) (H : Type) (enc : TypeId × Value → H) :
    ReturnsInHanded {} Try.checked os 10 .any (Rows.collideMirrorSpec.pre6 enc Try.prog Try.f10 Rows.collideMirrorRow.domain false) (Rows.collideMirrorSpec.post enc Try.prog Try.f10 false true false false) := by
  refine returnsInHanded_of_change_sized (C := Try.checked) own started (by kernel_rfl) Try.func10
    (ChangeSpec.witness6 (enc := enc) (C := Try.checked) false ⟨#[], #[.slice none 0 0, .slice none 0 0, .slice none 0 0], []⟩ 8 (by kernel_rfl) (by kernel_rfl) (by kernel_rfl) (by kernel_rfl)) ?_
  intro W base args ds gs before hval hW _ _ _
  exact contract H enc W base args ds gs before hval hW
theorem over : Rows.collideMirrorRow.holds Try.pinned (OpenSpec.ofChange Rows.collideMirrorSpec) :=
  OpenClaim.holds_of_wide 10 Try.f10 rfl rfl rfl rfl rfl rfl rfl ⟨rfl, rfl, rfl, rfl, rfl⟩ rfl rfl rfl rfl rfl (by kernel_rfl) Try.func10 (by kernel_rfl)
    (of_decide_eq_true (by kernel_rfl)) (by unfold Func.isWrapper; first | (rw [if_pos (by decide +kernel)]; kernel_rfl) | (rw [if_neg (by decide +kernel)]; exact ⟨rfl, rfl⟩))
    (fun os started H enc _ => lifted os started H enc)
end Go.Proofs.Yteflngoiebgdaaa.collideMirror
namespace Go.Proofs.Yteflngoiebgdaaa
/-- The row, under a short name. -/
theorem collideMirror_holds : Rows.CollideMirrorSaid := collideMirror.over
#print axioms collideMirror_holds
end Go.Proofs.Yteflngoiebgdaaa
