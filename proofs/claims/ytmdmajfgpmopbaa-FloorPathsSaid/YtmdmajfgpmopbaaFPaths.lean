import Derived.Test.YtmdmajfgpmopbaaX9
import Derived.Test.YtmdmajfgpmopbaaX8
import Derived.Test.YtmdmajfgpmopbaaX7
import Derived.Test.YtmdmajfgpmopbaaX6
import Derived.Test.YtmdmajfgpmopbaaX5
import Derived.Test.YtmdmajfgpmopbaaX10
import Derived.Test.YtmdmajfgpmopbaaX0
import Derived.Test.YtmdmajfgpmopbaaX15
import Derived.Test.YtmdmajfgpmopbaaX42
import Derived.Test.YtmdmajfgpmopbaaX41
import Derived.Test.YtmdmajfgpmopbaaX40
import Derived.Test.YtmdmajfgpmopbaaX39
import Derived.Test.YtmdmajfgpmopbaaX38
import Derived.Test.YtmdmajfgpmopbaaX37
import Derived.Test.YtmdmajfgpmopbaaX45
import Derived.Test.YtmdmajfgpmopbaaX14
import Derived.Test.YtmdmajfgpmopbaaX13
import Derived.Test.YtmdmajfgpmopbaaX12
import Derived.Test.YtmdmajfgpmopbaaX11
import Derived.Test.YtmdmajfgpmopbaaX16
import Derived.Test.YtmdmajfgpmopbaaX17
import Derived.Test.YtmdmajfgpmopbaaX44
import Derived.Test.YtmdmajfgpmopbaaX43
import Derived.Test.YtmdmajfgpmopbaaX46
import Derived.Test.YtmdmajfgpmopbaaX47
import Derived.Test.YtmdmajfgpmopbaaX4
import Derived.Test.YtmdmajfgpmopbaaX48
import Derived.Test.YtmdmajfgpmopbaaRows
import Derived.Test.YtmdmajfgpmopbaaXOpen
import Derived.WalkKit
import Derived.ProofKit
import Derived.OpenShut
import Derived.ShutString
import Derived.ChangeOld
import Derived.Below
import Derived.SizedLaws
import Derived.JoinedCond
import Derived.Carry
/- Movements: the checks of the package and of the reference, as printed, are one. -/
namespace Go.Proofs.Ytmdmajfgpmopbaa.Fl
open Go.RowKit Go.Proofs.YtmdmajfgpmopbaaW.PrintWords Go.Proofs.Ytmdmajfgpmopbaa.X
set_option linter.unusedVariables false
set_option linter.unusedSimpArgs false

abbrev Sp := S53
theorem w64 {x : Int} (h0 : -9223372036854775808 ≤ x) (h1 : x ≤ 9223372036854775807) : wrap64 x = x := by unfold wrap64; omega
theorem rdP {l : List Sp} {i : Nat} {x : Sp} {r : List Sp} (h : l.drop i = x :: r) : rd_T53 l (i : Int) = x ∧ i < l.length ∧ l.drop (i + 1) = r := by
  have hi : i < l.length := by
    apply Nat.lt_of_not_le
    intro hh
    rw [List.drop_of_length_le hh] at h
    cases h
  rw [List.drop_eq_getElem_cons hi] at h
  simp only [List.cons.injEq] at h
  refine ⟨?_, hi, h.2⟩
  unfold rd_T53
  simp only [Int.toNat_natCast]
  rw [List.getD_eq_getElem?_getD, List.getElem?_eq_getElem hi]
  exact h.1
theorem rdI {l : List Int} {i : Nat} {x : Int} {r : List Int} (h : l.drop i = x :: r) : rd l (i : Int) = x ∧ i < l.length ∧ l.drop (i + 1) = r := by
  have hi : i < l.length := by
    apply Nat.lt_of_not_le
    intro hh
    rw [List.drop_of_length_le hh] at h
    cases h
  rw [List.drop_eq_getElem_cons hi] at h
  simp only [List.cons.injEq] at h
  refine ⟨?_, hi, h.2⟩
  unfold rd
  simp only [Int.toNat_natCast]
  rw [List.getD_eq_getElem?_getD, List.getElem?_eq_getElem hi]
  exact h.1

/-! ### a limb's aim -/
def okA (limb a b c : Int) : Int :=
  if limb ≥ 0 ∧ limb < 6 then (if a < 0 ∨ a > 255 ∨ b < -64 ∨ b > 64 ∨ c < 0 ∨ c > 6 then 1 else if b = 64 ∨ b = -64 then (if a = 0 then 0 else 2) else 0) else 9
theorem aim_j (k : Nat) (x : Bool) (a b c : Int) : aim_Check.j0 (k + 1) x a b c = some (if x = true then 1 else if b = 64 ∨ b = -64 then (if a = 0 then 0 else 2) else 0) := by
  rw [aim_Check.j0]
  cases x with
  | true => rw [if_pos rfl, if_pos rfl]
  | false =>
    simp only [Bool.false_eq_true, if_false, aim_upright.f]
    by_cases h : b = 64
    · rw [if_pos h, Option.bind_some, if_pos rfl, if_pos (show b = 64 ∨ b = -64 from Or.inl h)]
      by_cases h2 : a = 0
      · rw [if_pos h2, if_pos h2]
      · rw [if_neg h2, if_neg h2]
    · rw [if_neg h, Option.bind_some]
      by_cases h3 : b = -64
      · rw [if_pos (show (b == -64) = true by simpa using h3), if_pos (show b = 64 ∨ b = -64 from Or.inr h3)]
        by_cases h2 : a = 0
        · rw [if_pos h2, if_pos h2]
        · rw [if_neg h2, if_neg h2]
      · rw [if_neg (show ¬ (b == -64) = true by simpa using h3), if_neg (show ¬ (b = 64 ∨ b = -64) by omega)]
theorem okA_of (limb a b c : Int) (hl : 0 ≤ limb ∧ limb < 6) : okA limb a b c =
    if a < 0 then 1 else if a > 255 then 1 else if b < (-64) then 1 else if b > 64 then 1 else if c < 0 then 1 else
      if decide (c > 6) = true then 1 else if b = 64 ∨ b = -64 then (if a = 0 then 0 else 2) else 0 := by
  unfold okA
  rw [if_pos ⟨hl.1, hl.2⟩]
  by_cases h1 : a < 0
  · rw [if_pos (by omega), if_pos h1]
  by_cases h2 : a > 255
  · rw [if_pos (by omega), if_neg h1, if_pos h2]
  by_cases h3 : b < -64
  · rw [if_pos (by omega), if_neg h1, if_neg h2, if_pos h3]
  by_cases h4 : b > 64
  · rw [if_pos (by omega), if_neg h1, if_neg h2, if_neg h3, if_pos h4]
  by_cases h5 : c < 0
  · rw [if_pos (by omega), if_neg h1, if_neg h2, if_neg h3, if_neg h4, if_pos h5]
  by_cases h6 : c > 6
  · rw [if_pos (by omega), if_neg h1, if_neg h2, if_neg h3, if_neg h4, if_neg h5, if_pos (show decide (c > 6) = true by simpa using h6)]
  · rw [if_neg (show ¬ (a < 0 ∨ a > 255 ∨ b < -64 ∨ b > 64 ∨ c < 0 ∨ c > 6) by omega), if_neg h1, if_neg h2, if_neg h3, if_neg h4, if_neg h5, if_neg (show ¬ decide (c > 6) = true by simpa using h6)]
theorem push {c : Prop} [Decidable c] (a : Int) (o : Option Int) (b : Int) (h : o = some b) : (if c then some a else o) = some (if c then a else b) := by split <;> first | rfl | exact h
theorem aim_f (k : Nat) (hk : 1 ≤ k) (limb a b c : Int) (hl : 0 ≤ limb ∧ limb < 6) : aim_Check.f k limb a b c = some (okA limb a b c) := by
  obtain ⟨k, rfl⟩ : ∃ m, k = m + 1 := ⟨k - 1, by omega⟩
  unfold aim_Check.f aim_known.f
  rw [if_pos hl.1, Option.bind_some, if_pos (by simpa using hl.2), okA_of limb a b c hl]
  simp only [aim_j, if_true]
  refine push _ _ _ (push _ _ _ (push _ _ _ (push _ _ _ (push _ _ _ rfl))))
/-! ### a pose -/
def On (p : Sp) : Prop := -32768 ≤ p.f0.f0 ∧ p.f0.f0 ≤ 32768 ∧ -32768 ≤ p.f0.f1 ∧ p.f0.f1 ≤ 32768
instance (p : Sp) : Decidable (On p) := by unfold On; infer_instance
def aims (p : Sp) : Int :=
  if okA 0 p.f3.f0.f0 p.f3.f0.f1 p.f3.f0.f2 = 0 then
  if okA 1 p.f3.f1.f0 p.f3.f1.f1 p.f3.f1.f2 = 0 then
  if okA 2 p.f3.f2.f0 p.f3.f2.f1 p.f3.f2.f2 = 0 then
  if okA 3 p.f3.f3.f0 p.f3.f3.f1 p.f3.f3.f2 = 0 then
  if okA 4 p.f3.f4.f0 p.f3.f4.f1 p.f3.f4.f2 = 0 then
  if okA 5 p.f3.f5.f0 p.f3.f5.f1 p.f3.f5.f2 = 0 then 0
  else okA 5 p.f3.f5.f0 p.f3.f5.f1 p.f3.f5.f2 else okA 4 p.f3.f4.f0 p.f3.f4.f1 p.f3.f4.f2 else okA 3 p.f3.f3.f0 p.f3.f3.f1 p.f3.f3.f2
  else okA 2 p.f3.f2.f0 p.f3.f2.f1 p.f3.f2.f2 else okA 1 p.f3.f1.f0 p.f3.f1.f1 p.f3.f1.f2 else okA 0 p.f3.f0.f0 p.f3.f0.f1 p.f3.f0.f2
def V (p : Sp) : Int := if On p then (if p.f1 < 0 then 1 else if p.f1 > 255 then 1 else if p.f2 < (-8) then 1 else if p.f2 > 8 then 1 else aims p) else 1
theorem pull {c : Prop} [Decidable c] (a b : Int) (o : Option Int) (h : o = some a) : (if c then o else some b) = some (if c then a else b) := by split <;> first | exact h | rfl
theorem on_f (p : Sp) : posture_on.f p.f0.f0 p.f0.f1 = some (decide (On p)) := by
  unfold posture_on.f
  by_cases h1 : p.f0.f0 ≥ (-32768)
  · rw [if_pos h1]
    by_cases h2 : p.f0.f0 ≤ 32768
    · rw [if_pos h2]
      by_cases h3 : p.f0.f1 ≥ (-32768)
      · rw [if_pos h3]
        by_cases h4 : p.f0.f1 ≤ 32768
        · rw [decide_eq_true h4, decide_eq_true (show On p from ⟨h1, h2, h3, h4⟩)]
        · rw [decide_eq_false h4, decide_eq_false (fun h : On p => h4 h.2.2.2)]
      · rw [if_neg h3, decide_eq_false (fun h : On p => h3 h.2.2.1)]
    · rw [if_neg h2, decide_eq_false (fun h : On p => h2 h.2.1)]
  · rw [if_neg h1, decide_eq_false (fun h : On p => h1 h.1)]
theorem pv_f (k : Nat) (hk : 1 ≤ k) (p : Sp) : posture_Valid.f k p.f0.f0 p.f0.f1 p.f1 p.f2 p.f3.f0.f0 p.f3.f0.f1 p.f3.f0.f2 p.f3.f1.f0 p.f3.f1.f1 p.f3.f1.f2 p.f3.f2.f0 p.f3.f2.f1 p.f3.f2.f2 p.f3.f3.f0 p.f3.f3.f1 p.f3.f3.f2 p.f3.f4.f0 p.f3.f4.f1 p.f3.f4.f2 p.f3.f5.f0 p.f3.f5.f1 p.f3.f5.f2 = some (V p) := by
  unfold posture_Valid.f
  rw [on_f, Option.bind_some, V]
  by_cases h : On p
  · rw [if_pos (by simpa using h), if_pos h]
    refine push _ _ _ (push _ _ _ (push _ _ _ (push _ _ _ ?_)))
    rw [aim_f k hk _ _ _ _ (by omega), aim_f k hk _ _ _ _ (by omega), aim_f k hk _ _ _ _ (by omega), aim_f k hk _ _ _ _ (by omega), aim_f k hk _ _ _ _ (by omega), aim_f k hk _ _ _ _ (by omega)]
    rw [Option.bind_some, Option.bind_some, Option.bind_some, Option.bind_some, Option.bind_some, Option.bind_some]
    unfold aims
    exact pull _ _ _ (pull _ _ _ (pull _ _ _ (pull _ _ _ (pull _ _ _ (pull _ _ _ rfl)))))
  · rw [if_neg (by simpa using h), if_neg h]
/-! ### a movement -/
def poses : List Sp → Int
  | [] => 0
  | p :: l => if V p = 0 then poses l else V p
def feet : List Int → Int
  | [] => 0
  | x :: l => if x < 0 then 1 else if x > 3 then 1 else feet l
def chk (P : List Sp) (U : List Int) : Int :=
  if U.length < 1 ∨ 8192 < U.length ∨ P.length ≠ U.length + 1 then 2 else if poses P = 0 then feet U else poses P
theorem m_l1 (U : List Int) (hU : U.length ≤ 8192) : ∀ (s : List Int) (i k : Nat), U.drop i = s → s.length < k → movement_Check.l1 k U (U.length : Int) (i : Int) = some (feet s) := by
  intro s
  induction s with
  | nil =>
    intro i k hd hk
    obtain ⟨k, rfl⟩ : ∃ m, k = m + 1 := ⟨k - 1, by omega⟩
    have hi : U.length ≤ i := List.drop_eq_nil_iff.1 hd
    rw [movement_Check.l1, if_neg (by omega)]
    rfl
  | cons x s ih =>
    intro i k hd hk
    simp only [List.length_cons] at hk
    obtain ⟨k, rfl⟩ : ∃ m, k = m + 1 := ⟨k - 1, by omega⟩
    obtain ⟨hx, hi, hn⟩ := rdI hd
    rw [movement_Check.l1, if_pos (by omega), if_pos (by omega), if_pos (by omega), hx, w64 (by omega) (by omega), show (i : Int) + 1 = ((i + 1 : Nat) : Int) by omega, feet]
    exact push _ _ _ (push _ _ _ (ih (i + 1) k hn (by omega)))
theorem m_l0 (P : List Sp) (U : List Int) (hP : P.length ≤ 8193) (hU : U.length ≤ 8192) : ∀ (s : List Sp) (i k : Nat), P.drop i = s → s.length + U.length + 1 < k →
    movement_Check.l0 k P (P.length : Int) (i : Int) P U = some (if poses s = 0 then feet U else poses s) := by
  intro s
  induction s with
  | nil =>
    intro i k hd hk
    obtain ⟨k, rfl⟩ : ∃ m, k = m + 1 := ⟨k - 1, by omega⟩
    have hi : P.length ≤ i := List.drop_eq_nil_iff.1 hd
    rw [movement_Check.l0, if_neg (by omega), show (0 : Int) = ((0 : Nat) : Int) by rfl, m_l1 U hU U 0 k (by simp) (by simp at hk; omega), poses]
    rfl
  | cons x s ih =>
    intro i k hd hk
    simp only [List.length_cons] at hk
    obtain ⟨k, rfl⟩ : ∃ m, k = m + 1 := ⟨k - 1, by omega⟩
    obtain ⟨hx, hi, hn⟩ := rdP hd
    rw [movement_Check.l0, if_pos (by omega), if_pos (by omega), if_pos (by omega), hx, pv_f k (by omega), Option.bind_some, w64 (by omega) (by omega), show (i : Int) + 1 = ((i + 1 : Nat) : Int) by omega, ih (i + 1) k hn (by omega), poses]
    by_cases h : V x = 0
    · rw [if_pos h, if_pos h]
    · rw [if_neg h, if_neg h, if_neg h]
theorem m_f (k : Nat) (P : List Sp) (U : List Int) (hP : P.length ≤ 9223372036854775000) (hU : U.length ≤ 9223372036854775000) (hk : 16500 ≤ k) : movement_Check.f k P U = some (chk P U) := by
  obtain ⟨k, rfl⟩ : ∃ m, k = m + 1 := ⟨k - 1, by omega⟩
  unfold movement_Check.f chk
  rw [w64 (by omega) (by omega)]
  by_cases h1 : U.length < 1
  · rw [if_pos (by omega), if_pos (Or.inl h1), movement_Check.j0, if_pos rfl]
  rw [if_neg (by omega)]
  by_cases h2 : 8192 < U.length
  · rw [if_pos (by omega), if_pos (Or.inr (Or.inl h2)), movement_Check.j0, if_pos rfl]
  rw [if_neg (by omega)]
  by_cases h3 : P.length = U.length + 1
  · rw [if_neg (by omega), show ((P.length : Int) != (U.length : Int) + 1) = false from bne_eq_false_iff_eq.mpr (by omega), movement_Check.j0, if_neg (by simp), show (0 : Int) = ((0 : Nat) : Int) by rfl, m_l0 P U (by omega) (by omega) P 0 k (by simp) (by omega)]
    rfl
  · rw [if_pos (Or.inr (Or.inr h3)), show ((P.length : Int) != (U.length : Int) + 1) = true from bne_iff_ne.mpr (by omega), movement_Check.j0, if_pos rfl]
/-- What a movement that is taken is like. -/
theorem chk_ok {P : List Sp} {U : List Int} (h : chk P U = 0) : 1 ≤ U.length ∧ U.length ≤ 8192 ∧ P.length = U.length + 1 ∧ poses P = 0 ∧ feet U = 0 := by
  unfold chk at h
  split at h
  · cases h
  · rename_i h1
    split at h
    · rename_i h2; exact ⟨by omega, by omega, by omega, h2, h⟩
    · rename_i h2; exact absurd h h2
theorem poses_on {P : List Sp} (h : poses P = 0) : ∀ p ∈ P, On p := by
  induction P with
  | nil => intro q hq; cases hq
  | cons p l ih =>
    intro q hq
    rw [poses] at h
    by_cases hv : V p = 0
    · rw [if_pos hv] at h
      rcases List.mem_cons.1 hq with e | hq
      · subst e
        apply Decidable.byContradiction
        intro hn
        rw [V, if_neg hn] at hv
        exact absurd hv (by decide)
      · exact ih h q hq
    · rw [if_neg hv] at h
      exact absurd h hv
end Go.Proofs.Ytmdmajfgpmopbaa.Fl

/- The box of a movement: the package's and the reference's, as printed, are one. -/
namespace Go.Proofs.Ytmdmajfgpmopbaa.Fl
open Go.RowKit Go.Proofs.YtmdmajfgpmopbaaW.PrintWords Go.Proofs.Ytmdmajfgpmopbaa.X
set_option linter.unusedVariables false
set_option linter.unusedSimpArgs false
/-- The box of what follows, from a box on. -/
def box : List Sp → Int → Int → Int → Int → Int × Int × Int × Int
  | [], a, b, c, d => (a, b, c, d)
  | p :: l, a, b, c, d => box l (mn a p.f0.f0) (mn b p.f0.f1) (mx c p.f0.f0) (mx d p.f0.f1)
theorem fb_l0 (P : List Sp) (hP : P.length ≤ 8193) : ∀ (s : List Sp) (i k : Nat) (a b c d : Int), P.drop i = s → s.length < k →
    floor_Box.l0 k P (P.length : Int) (i : Int) a b c d = some ((box s a b c d).1, (box s a b c d).2.1, (box s a b c d).2.2.1, (box s a b c d).2.2.2, 0) := by
  intro s
  induction s with
  | nil =>
    intro i k a b c d hd hk
    obtain ⟨k, rfl⟩ : ∃ m, k = m + 1 := ⟨k - 1, by omega⟩
    have hi : P.length ≤ i := List.drop_eq_nil_iff.1 hd
    rw [floor_Box.l0, if_neg (by omega)]
    rfl
  | cons x s ih =>
    intro i k a b c d hd hk
    simp only [List.length_cons] at hk
    obtain ⟨k, rfl⟩ : ∃ m, k = m + 1 := ⟨k - 1, by omega⟩
    obtain ⟨hx, hi, hn⟩ := rdP hd
    rw [floor_Box.l0, if_pos (by omega), if_pos (by omega), if_pos (by omega), hx, w64 (by omega) (by omega), show (i : Int) + 1 = ((i + 1 : Nat) : Int) by omega, ih (i + 1) k _ _ _ _ hn (by omega), box]
/-- The box's answer. -/
def boxV (P : List Sp) (U : List Int) : Int × Int × Int × Int × Int :=
  if chk P U = 0 then
    let z := rd_T53 P 0
    let r := box P z.f0.f0 z.f0.f1 z.f0.f0 z.f0.f1
    (r.1, r.2.1, r.2.2.1, r.2.2.2, 0)
  else (0, 0, 0, 0, chk P U)
theorem fb_f (k : Nat) (P : List Sp) (U : List Int) (hP : P.length ≤ 200) (hU : U.length ≤ 200) (hk : 17000 ≤ k) : floor_Box.f k P U = some (boxV P U) := by
  unfold floor_Box.f boxV
  rw [m_f k P U (by omega) (by omega) (by omega), Option.bind_some]
  by_cases h : chk P U = 0
  · rw [if_pos h, if_pos h]
    obtain ⟨h1, h2, h3, _, _⟩ := chk_ok h
    rw [if_pos (by omega), show (floor_Box.l0 k P (P.length : Int) 0 _ _ _ _) = floor_Box.l0 k P (P.length : Int) ((0 : Nat) : Int) _ _ _ _ from rfl, fb_l0 P (by omega) P 0 k _ _ _ _ (by simp) (by omega)]
  · rw [if_neg h, if_neg h]
end Go.Proofs.Ytmdmajfgpmopbaa.Fl

/- FlChk: the reference's side. -/
namespace Go.Proofs.Ytmdmajfgpmopbaa.Fl
open Go.RowKit Go.Proofs.YtmdmajfgpmopbaaW.PrintWords Go.Proofs.Ytmdmajfgpmopbaa.X
set_option linter.unusedVariables false
set_option linter.unusedSimpArgs false

theorem ref_j (k : Nat) (x : Bool) (a b c : Int) : dancestudioref18_Check.j0 (k + 1) x a b c = some (if x = true then 1 else if b = 64 ∨ b = -64 then (if a = 0 then 0 else 2) else 0) := by
  rw [dancestudioref18_Check.j0]
  cases x with
  | true => rw [if_pos rfl, if_pos rfl]
  | false =>
    simp only [Bool.false_eq_true, if_false, dancestudioref18_Pole.f]
    by_cases h : b = 64
    · rw [if_pos h, Option.bind_some, if_pos rfl, if_pos (show b = 64 ∨ b = -64 from Or.inl h)]
      by_cases h2 : a = 0
      · rw [if_pos h2, if_pos h2]
      · rw [if_neg h2, if_neg h2]
    · rw [if_neg h, Option.bind_some]
      by_cases h3 : b = -64
      · rw [if_pos (show (b == -64) = true by simpa using h3), if_pos (show b = 64 ∨ b = -64 from Or.inr h3)]
        by_cases h2 : a = 0
        · rw [if_pos h2, if_pos h2]
        · rw [if_neg h2, if_neg h2]
      · rw [if_neg (show ¬ (b == -64) = true by simpa using h3), if_neg (show ¬ (b = 64 ∨ b = -64) by omega)]
theorem ref_f (k : Nat) (hk : 1 ≤ k) (limb a b c : Int) (hl : 0 ≤ limb ∧ limb < 6) : dancestudioref18_Check.f k limb a b c = some (okA limb a b c) := by
  obtain ⟨k, rfl⟩ : ∃ m, k = m + 1 := ⟨k - 1, by omega⟩
  unfold dancestudioref18_Check.f dancestudioref18_limbed.f
  rw [if_pos hl.1, Option.bind_some, if_pos (by simpa using hl.2), okA_of limb a b c hl]
  simp only [ref_j, if_true]
  refine push _ _ _ (push _ _ _ (push _ _ _ (push _ _ _ (push _ _ _ rfl))))

theorem rv_f (k : Nat) (hk : 1 ≤ k) (p : Sp) : dancestudioref19_Valid.f k p.f0.f0 p.f0.f1 p.f1 p.f2 p.f3.f0.f0 p.f3.f0.f1 p.f3.f0.f2 p.f3.f1.f0 p.f3.f1.f1 p.f3.f1.f2 p.f3.f2.f0 p.f3.f2.f1 p.f3.f2.f2 p.f3.f3.f0 p.f3.f3.f1 p.f3.f3.f2 p.f3.f4.f0 p.f3.f4.f1 p.f3.f4.f2 p.f3.f5.f0 p.f3.f5.f1 p.f3.f5.f2 = some (V p) := by
  unfold dancestudioref19_Valid.f dancestudioref19_On.f
  have hx : (if p.f0.f0 ≥ (-32768) then (some (decide (p.f0.f0 ≤ 32768))) else (some false)) = some (decide (-32768 ≤ p.f0.f0 ∧ p.f0.f0 ≤ 32768)) := by
    split
    · congr 1; rw [decide_eq_decide]; omega
    · rw [decide_eq_false (by omega)]
  have hy : (if p.f0.f1 ≥ (-32768) then (some (decide (p.f0.f1 ≤ 32768))) else (some false)) = some (decide (-32768 ≤ p.f0.f1 ∧ p.f0.f1 ≤ 32768)) := by
    split
    · congr 1; rw [decide_eq_decide]; omega
    · rw [decide_eq_false (by omega)]
  rw [hx, hy, Option.bind_some, Option.bind_some, V]
  by_cases h1 : -32768 ≤ p.f0.f0 ∧ p.f0.f0 ≤ 32768
  · rw [if_pos (by simpa using h1)]
    by_cases h2 : -32768 ≤ p.f0.f1 ∧ p.f0.f1 ≤ 32768
    · rw [if_pos (by simpa using h2), if_pos (show On p from ⟨h1.1, h1.2, h2.1, h2.2⟩)]
      refine push _ _ _ (push _ _ _ (push _ _ _ (push _ _ _ ?_)))
      rw [ref_f k hk _ _ _ _ (by omega), ref_f k hk _ _ _ _ (by omega), ref_f k hk _ _ _ _ (by omega), ref_f k hk _ _ _ _ (by omega), ref_f k hk _ _ _ _ (by omega), ref_f k hk _ _ _ _ (by omega)]
      rw [Option.bind_some, Option.bind_some, Option.bind_some, Option.bind_some, Option.bind_some, Option.bind_some]
      unfold aims
      exact pull _ _ _ (pull _ _ _ (pull _ _ _ (pull _ _ _ (pull _ _ _ (pull _ _ _ rfl)))))
    · rw [if_neg (by simpa using h2), if_neg (fun h => h2 ⟨h.2.2.1, h.2.2.2⟩)]
  · rw [if_neg (by simpa using h1), if_neg (fun h => h1 ⟨h.1, h.2.1⟩)]

theorem r_l1 (P : List Sp) (U : List Int) (hU : U.length ≤ 8192) : ∀ (s : List Int) (i k : Nat), U.drop i = s → s.length < k → dancestudioref29_Check.l1 k (i : Int) P U = some (feet s) := by
  intro s
  induction s with
  | nil =>
    intro i k hd hk
    obtain ⟨k, rfl⟩ : ∃ m, k = m + 1 := ⟨k - 1, by omega⟩
    have hi : U.length ≤ i := List.drop_eq_nil_iff.1 hd
    rw [dancestudioref29_Check.l1, if_neg (by omega)]
    rfl
  | cons x s ih =>
    intro i k hd hk
    simp only [List.length_cons] at hk
    obtain ⟨k, rfl⟩ : ∃ m, k = m + 1 := ⟨k - 1, by omega⟩
    obtain ⟨hx, hi, hn⟩ := rdI hd
    rw [dancestudioref29_Check.l1, if_pos (by omega), if_pos (by omega), hx, w64 (by omega) (by omega), show (i : Int) + 1 = ((i + 1 : Nat) : Int) by omega, feet]
    exact push _ _ _ (push _ _ _ (ih (i + 1) k hn (by omega)))
theorem r_l0 (P : List Sp) (U : List Int) (hP : P.length ≤ 8193) (hU : U.length ≤ 8192) : ∀ (s : List Sp) (i k : Nat), P.drop i = s → s.length + U.length + 1 < k →
    dancestudioref29_Check.l0 k (i : Int) P U = some (if poses s = 0 then feet U else poses s) := by
  intro s
  induction s with
  | nil =>
    intro i k hd hk
    obtain ⟨k, rfl⟩ : ∃ m, k = m + 1 := ⟨k - 1, by omega⟩
    have hi : P.length ≤ i := List.drop_eq_nil_iff.1 hd
    rw [dancestudioref29_Check.l0, if_neg (by omega), show (0 : Int) = ((0 : Nat) : Int) by rfl, r_l1 P U hU U 0 k (by simp) (by simp at hk; omega), poses]
    rfl
  | cons x s ih =>
    intro i k hd hk
    simp only [List.length_cons] at hk
    obtain ⟨k, rfl⟩ : ∃ m, k = m + 1 := ⟨k - 1, by omega⟩
    obtain ⟨hx, hi, hn⟩ := rdP hd
    rw [dancestudioref29_Check.l0, if_pos (by omega), if_pos (by omega), hx, rv_f k (by omega), Option.bind_some, w64 (by omega) (by omega), show (i : Int) + 1 = ((i + 1 : Nat) : Int) by omega, ih (i + 1) k hn (by omega), poses]
    by_cases h : V x = 0
    · rw [if_pos h, if_pos h]
    · rw [if_neg h, if_neg h, if_neg h]
theorem r_f (k : Nat) (P : List Sp) (U : List Int) (hP : P.length ≤ 9223372036854775000) (hU : U.length ≤ 9223372036854775000) (hk : 16500 ≤ k) : dancestudioref29_Check.f k P U = some (chk P U) := by
  obtain ⟨k, rfl⟩ : ∃ m, k = m + 1 := ⟨k - 1, by omega⟩
  unfold dancestudioref29_Check.f chk
  rw [w64 (by omega) (by omega)]
  by_cases h3 : P.length = U.length + 1
  · rw [if_pos (by omega)]
    by_cases h1 : U.length < 1
    · rw [if_pos (by omega), if_pos (Or.inl h1), dancestudioref29_Check.j0, if_pos rfl]
    rw [if_neg (by omega)]
    by_cases h2 : 8192 < U.length
    · rw [if_pos (Or.inr (Or.inl h2)), decide_eq_true (by omega), dancestudioref29_Check.j0, if_pos rfl]
    rw [if_neg (by omega), decide_eq_false (by omega), dancestudioref29_Check.j0, if_neg (by simp), show (0 : Int) = ((0 : Nat) : Int) by rfl, r_l0 P U (by omega) (by omega) P 0 k (by simp) (by omega)]
    rfl
  · rw [if_neg (by omega), if_pos (Or.inr (Or.inr h3)), dancestudioref29_Check.j0, if_pos rfl]
end Go.Proofs.Ytmdmajfgpmopbaa.Fl

/- FlBox: the reference's side. -/
namespace Go.Proofs.Ytmdmajfgpmopbaa.Fl
open Go.RowKit Go.Proofs.YtmdmajfgpmopbaaW.PrintWords Go.Proofs.Ytmdmajfgpmopbaa.X
set_option linter.unusedVariables false
set_option linter.unusedSimpArgs false
theorem rb_l0 (P : List Sp) (U : List Int) (hP : P.length ≤ 8193) : ∀ (s : List Sp) (i k : Nat) (a b c d : Int), P.drop i = s → s.length < k →
    dancestudioref43_Box.l0 k (i : Int) P U a b c d = some ((box s a b c d).1, (box s a b c d).2.1, (box s a b c d).2.2.1, (box s a b c d).2.2.2, 0) := by
  intro s
  induction s with
  | nil =>
    intro i k a b c d hd hk
    obtain ⟨k, rfl⟩ : ∃ m, k = m + 1 := ⟨k - 1, by omega⟩
    have hi : P.length ≤ i := List.drop_eq_nil_iff.1 hd
    rw [dancestudioref43_Box.l0, if_neg (by omega)]
    rfl
  | cons x s ih =>
    intro i k a b c d hd hk
    simp only [List.length_cons] at hk
    obtain ⟨k, rfl⟩ : ∃ m, k = m + 1 := ⟨k - 1, by omega⟩
    obtain ⟨hx, hi, hn⟩ := rdP hd
    rw [dancestudioref43_Box.l0, if_pos (by omega), if_pos (by omega), hx, w64 (by omega) (by omega), show (i : Int) + 1 = ((i + 1 : Nat) : Int) by omega, ih (i + 1) k _ _ _ _ hn (by omega), box]
theorem rb_f (k : Nat) (P : List Sp) (U : List Int) (hP : P.length ≤ 200) (hU : U.length ≤ 200) (hk : 17000 ≤ k) : dancestudioref43_Box.f k P U = some (boxV P U) := by
  unfold dancestudioref43_Box.f boxV
  rw [r_f k P U (by omega) (by omega) (by omega), Option.bind_some]
  by_cases h : chk P U = 0
  · rw [if_pos h, if_pos h]
    obtain ⟨h1, h2, h3, _, _⟩ := chk_ok h
    rw [if_pos (by omega), show (dancestudioref43_Box.l0 k 0 P U _ _ _ _) = dancestudioref43_Box.l0 k ((0 : Nat) : Int) P U _ _ _ _ from rfl, rb_l0 P U (by omega) P 0 k _ _ _ _ (by simp) (by omega)]
  · rw [if_neg h, if_neg h]
end Go.Proofs.Ytmdmajfgpmopbaa.Fl

/- The path of a movement: the package's and the reference's, as printed, are one. -/
namespace Go.Proofs.Ytmdmajfgpmopbaa.Fl
open Go.RowKit Go.Proofs.YtmdmajfgpmopbaaW.PrintWords Go.Proofs.Ytmdmajfgpmopbaa.X
set_option linter.unusedVariables false
set_option linter.unusedSimpArgs false
theorem nt {b : Bool} (h : ¬ b = true) : (!b) = true := by cases b <;> simp_all
abbrev Pt := S35
/-- The pose at a tick. -/
def ps (P : List Sp) (i : Nat) : Sp := rd_T53 P (i : Int)
def pt (P : List Sp) (i : Nat) : Pt := ⟨(ps P i).f0.f0, (ps P i).f0.f1⟩
/-- The step from a tick to the next one. -/
def sx (P : List Sp) (i : Nat) : Int := wrap64 ((ps P (i + 1)).f0.f0 - (ps P i).f0.f0)
def sy (P : List Sp) (i : Nat) : Int := wrap64 ((ps P (i + 1)).f0.f1 - (ps P i).f0.f1)
theorem step_f (P : List Sp) (U : List Int) (i : Nat) (h : i + 1 < P.length) (hP : P.length ≤ 8193) : floor_step.f P U (i : Int) = some (sx P i, sy P i) := by
  unfold floor_step.f sx sy ps
  rw [w64 (x := (i : Int) + 1) (by omega) (by omega), if_pos (by omega), if_pos (by omega), if_pos (by omega), if_pos (by omega), show (i : Int) + 1 = ((i + 1 : Nat) : Int) by omega]
/-- Is a tick kept. -/
def keep (P : List Sp) (n i : Nat) : Bool := decide (i = 0) || decide (i = n) || !(sx P (i - 1) == sx P i && sy P (i - 1) == sy P i)
def ids (P : List Sp) (n i m : Nat) : List Nat := (List.range' i m).filter (keep P n)
theorem ids_zero (P : List Sp) (n i : Nat) : ids P n i 0 = [] := rfl
theorem ids_succ (P : List Sp) (n i m : Nat) : ids P n i (m + 1) = if keep P n i = true then i :: ids P n (i + 1) m else ids P n (i + 1) m := by
  unfold ids
  rw [List.range'_succ, List.filter_cons]
theorem keep_end (P : List Sp) (n i : Nat) (h : i = 0 ∨ i = n) : keep P n i = true := by
  unfold keep
  rcases h with h | h
  · rw [decide_eq_true h]; rfl
  · rw [decide_eq_true h, Bool.or_true]; rfl
theorem keep_mid (P : List Sp) (n i : Nat) (h : 0 < i) (h2 : i ≠ n) : keep P n i = !(sx P (i - 1) == sx P i && sy P (i - 1) == sy P i) := by
  unfold keep
  rw [decide_eq_false (by omega), decide_eq_false h2]
  rfl
theorem fp_l0 (P : List Sp) (U : List Int) (hl : P.length = U.length + 1) (hU : U.length ≤ 8192) : ∀ (m i k : Nat) (A : List Pt) (B : List Int), i + m = P.length → m < k → A.length ≤ i → B.length ≤ i →
    floor_Path.l0 k A B P (P.length : Int) (i : Int) P U = some (A ++ (ids P U.length i m).map (pt P), B ++ (ids P U.length i m).map (fun (j : Nat) => (j : Int)), 0) := by
  intro m
  induction m with
  | zero =>
    intro i k A B hi hk hA hB
    obtain ⟨k, rfl⟩ : ∃ m, k = m + 1 := ⟨k - 1, by omega⟩
    rw [floor_Path.l0, if_neg (by omega), ids_zero, List.map_nil, List.map_nil, List.append_nil, List.append_nil]
  | succ m ih =>
    intro i k A B hi hk hA hB
    obtain ⟨k, rfl⟩ : ∃ m, k = m + 1 := ⟨k - 1, by omega⟩
    have next : keep P U.length i = true → floor_Path.l0 k (A ++ [(⟨(rd_T53 P (i : Int)).f0.f0, (rd_T53 P (i : Int)).f0.f1⟩ : Pt)]) (B ++ [(i : Int)]) P (P.length : Int) (((i + 1 : Nat) : Int)) P U
        = some (A ++ (ids P U.length i (m + 1)).map (pt P), B ++ (ids P U.length i (m + 1)).map (fun (j : Nat) => (j : Int)), 0) := by
      intro hkeep
      rw [ih (i + 1) k _ _ (by omega) (by omega) (by simp; omega) (by simp; omega), ids_succ, if_pos hkeep, List.map_cons, List.map_cons, List.append_assoc, List.append_assoc]
      rfl
    rw [floor_Path.l0, if_pos (by omega), if_pos (by omega), if_pos (by omega), w64 (x := (i : Int) + 1) (by omega) (by omega), show (i : Int) + 1 = ((i + 1 : Nat) : Int) by omega]
    by_cases h0 : i = 0
    · rw [if_neg (by omega), if_pos (by omega), if_pos (by omega)]
      exact next (keep_end _ _ _ (Or.inl h0))
    · rw [if_pos (by omega)]
      by_cases h1 : i < U.length
      · rw [if_pos (by omega), w64 (x := (i : Int) - 1) (by omega) (by omega), show (i : Int) - 1 = ((i - 1 : Nat) : Int) by omega, step_f P U (i - 1) (by omega) (by omega), step_f P U i (by omega) (by omega), Option.bind_some, Option.bind_some]
        by_cases hs : (sx P (i - 1) == sx P i && (sy P (i - 1) == sy P i)) = true
        · rw [if_pos hs, ih (i + 1) k _ _ (by omega) (by omega) (by omega) (by omega), ids_succ, if_neg (by rw [keep_mid _ _ _ (by omega) (by omega), hs]; simp)]
        · rw [if_neg hs, if_pos (by omega), if_pos (by omega)]
          exact next (by rw [keep_mid _ _ _ (by omega) (by omega)]; exact nt hs)
      · rw [if_neg (by omega), if_pos (by omega), if_pos (by omega)]
        exact next (keep_end _ _ _ (Or.inr (by omega)))
/-- The path's answer. -/
def pathV (P : List Sp) (U : List Int) : List Pt × List Int × Int :=
  if chk P U = 0 then ((ids P U.length 0 P.length).map (pt P), (ids P U.length 0 P.length).map (fun (j : Nat) => (j : Int)), 0) else ([], [], chk P U)
theorem fp_f (k : Nat) (P : List Sp) (U : List Int) (hP : P.length ≤ 200) (hU : U.length ≤ 200) (hk : 17000 ≤ k) : floor_Path.f k P U = some (pathV P U) := by
  unfold floor_Path.f pathV
  rw [m_f k P U (by omega) (by omega) (by omega), Option.bind_some]
  by_cases h : chk P U = 0
  · rw [if_pos h, if_pos h]
    obtain ⟨h1, h2, h3, _, _⟩ := chk_ok h
    rw [show (floor_Path.l0 k [] [] P (P.length : Int) 0 P U) = floor_Path.l0 k [] [] P (P.length : Int) ((0 : Nat) : Int) P U from rfl, fp_l0 P U h3 h2 P.length 0 k [] [] (by omega) (by omega) (by simp) (by simp)]
    rfl
  · rw [if_neg h, if_neg h]
theorem pathV_len (P : List Sp) (U : List Int) (hP : P.length ≤ 200) : (pathV P U).1.length ≤ 200 ∧ (pathV P U).2.1.length ≤ 200 := by
  have hl : (ids P U.length 0 P.length).length ≤ P.length := by
    unfold ids
    exact Nat.le_trans (List.length_filter_le _ _) (by rw [List.length_range']; exact Nat.le_refl _)
  unfold pathV
  split
  · simp only [List.length_map]; omega
  · simp
/-! ### lists that are equal -/
theorem same_l0 (L : List Pt) (hL : L.length ≤ 1000) : ∀ (m i k : Nat), i + m = L.length → m < k → dancestudioref43_Same.l0 k L L (i : Int) = some true := by
  intro m
  induction m with
  | zero =>
    intro i k hi hk
    obtain ⟨k, rfl⟩ : ∃ m, k = m + 1 := ⟨k - 1, by omega⟩
    rw [dancestudioref43_Same.l0, if_neg (by omega)]
  | succ m ih =>
    intro i k hi hk
    obtain ⟨k, rfl⟩ : ∃ m, k = m + 1 := ⟨k - 1, by omega⟩
    rw [dancestudioref43_Same.l0, if_pos (by omega), if_pos (by omega), if_pos (by omega), beq_self_eq_true, beq_self_eq_true, if_neg (by simp), w64 (by omega) (by omega), show (i : Int) + 1 = ((i + 1 : Nat) : Int) by omega]
    exact ih (i + 1) k (by omega) (by omega)
theorem ints_l0 (L : List Int) (hL : L.length ≤ 1000) : ∀ (m i k : Nat), i + m = L.length → m < k → dancestudioref25_Ints.l0 k L L (i : Int) = some true := by
  intro m
  induction m with
  | zero =>
    intro i k hi hk
    obtain ⟨k, rfl⟩ : ∃ m, k = m + 1 := ⟨k - 1, by omega⟩
    rw [dancestudioref25_Ints.l0, if_neg (by omega)]
  | succ m ih =>
    intro i k hi hk
    obtain ⟨k, rfl⟩ : ∃ m, k = m + 1 := ⟨k - 1, by omega⟩
    rw [dancestudioref25_Ints.l0, if_pos (by omega), if_pos (by omega), if_pos (by omega), if_pos rfl, w64 (by omega) (by omega), show (i : Int) + 1 = ((i + 1 : Nat) : Int) by omega]
    exact ih (i + 1) k (by omega) (by omega)
theorem same_f (k : Nat) (L : List Pt) (hL : L.length ≤ 200) (hk : 300 ≤ k) : dancestudioref43_Same.f k L L = some true := by
  unfold dancestudioref43_Same.f
  rw [if_pos rfl]
  exact same_l0 L (by omega) L.length 0 k (by omega) (by omega)
theorem ints_f (k : Nat) (L : List Int) (hL : L.length ≤ 200) (hk : 300 ≤ k) : dancestudioref25_Ints.f k L L = some true := by
  unfold dancestudioref25_Ints.f
  rw [if_pos rfl]
  exact ints_l0 L (by omega) L.length 0 k (by omega) (by omega)
end Go.Proofs.Ytmdmajfgpmopbaa.Fl

/- The root: the package's and the reference's, as printed, are one. -/
namespace Go.Proofs.Ytmdmajfgpmopbaa.Fl
open Go.RowKit Go.Proofs.YtmdmajfgpmopbaaW.PrintWords Go.Proofs.Ytmdmajfgpmopbaa.X
set_option linter.unusedVariables false
set_option linter.unusedSimpArgs false
/-- r is the whole root of x. -/
def IsRt (x r : Int) : Prop := 0 ≤ r ∧ r * r ≤ x ∧ x < (r + 1) * (r + 1)
theorem sq_le {a b : Int} (h0 : 0 ≤ a) (h : a ≤ b) : a * a ≤ b * b := Int.mul_le_mul h h h0 (by omega)
theorem sq_lt_of {a b : Int} (hb : 0 ≤ b) (h : a * a < b * b) : a < b := by
  apply Decidable.byContradiction
  intro hn
  have := sq_le hb (show b ≤ a by omega)
  omega
theorem rt_unique {x a b : Int} (ha : IsRt x a) (hb : IsRt x b) : a = b := by
  have h1 : a < b + 1 := sq_lt_of (by have := hb.1; omega) (by have := ha.2.1; have := hb.2.2; omega)
  have h2 : b < a + 1 := sq_lt_of (by have := ha.1; omega) (by have := hb.2.1; have := ha.2.2; omega)
  omega
theorem shl_one (e : Nat) (he : e ≤ 25) : shl .i64 1 (e : Int) = ((2 ^ e : Nat) : Int) ∧ 1 ≤ 2 ^ e ∧ 2 ^ e ≤ 33554432 := by
  rcases (show e = 0 ∨ e = 1 ∨ e = 2 ∨ e = 3 ∨ e = 4 ∨ e = 5 ∨ e = 6 ∨ e = 7 ∨ e = 8 ∨ e = 9 ∨ e = 10 ∨ e = 11 ∨ e = 12 ∨ e = 13 ∨ e = 14 ∨ e = 15 ∨ e = 16 ∨ e = 17 ∨ e = 18 ∨ e = 19 ∨ e = 20 ∨ e = 21 ∨ e = 22 ∨ e = 23 ∨ e = 24 ∨ e = 25 by omega) with h | h | h | h | h | h | h | h | h | h | h | h | h | h | h | h | h | h | h | h | h | h | h | h | h | h <;> subst h <;> exact ⟨rfl, by decide, by decide⟩
theorem rt_l0 (x : Int) (hx : 0 ≤ x) : ∀ (e k : Nat) (y : Int), e ≤ 26 → e < k → 0 ≤ y → y + ((2 ^ e : Nat) : Int) ≤ 67108864 → y * y ≤ x → x < (y + ((2 ^ e : Nat) : Int)) * (y + ((2 ^ e : Nat) : Int)) →
    ∃ r, IsRt x r ∧ num_Root.l0 k x y (26 - (e : Int)) = some (r, 0) := by
  intro e
  induction e with
  | zero =>
    intro k y he hk hy hb h1 h2
    obtain ⟨k, rfl⟩ : ∃ m, k = m + 1 := ⟨k - 1, by omega⟩
    refine ⟨y, ⟨hy, h1, h2⟩, ?_⟩
    rw [num_Root.l0, if_neg (by omega)]
  | succ e ih =>
    intro k y he hk hy hb h1 h2
    obtain ⟨k, rfl⟩ : ∃ m, k = m + 1 := ⟨k - 1, by omega⟩
    obtain ⟨s1, s2, s3⟩ := shl_one e (by omega)
    rw [show (2 ^ (e + 1) : Nat) = 2 * 2 ^ e by rw [Nat.pow_succ, Nat.mul_comm]] at hb h2
    generalize hp : (2 ^ e : Nat) = p at s1 s2 s3 hb h2 ih
    rw [num_Root.l0, if_pos (by omega), w64 (x := 25 - (26 - ((e + 1 : Nat) : Int))) (by omega) (by omega), show 25 - (26 - ((e + 1 : Nat) : Int)) = (e : Int) by omega, s1, if_pos (by omega), w64 (x := y + (p : Int)) (by omega) (by omega)]
    have hq : (y + (p : Int)) * (y + (p : Int)) ≤ 67108864 * 67108864 := sq_le (by omega) (by omega)
    have hq0 : 0 ≤ (y + (p : Int)) * (y + (p : Int)) := Int.mul_nonneg (by omega) (by omega)
    rw [w64 (x := (y + (p : Int)) * (y + (p : Int))) (by omega) (by omega), w64 (x := 26 - ((e + 1 : Nat) : Int) + 1) (by omega) (by omega), show 26 - ((e + 1 : Nat) : Int) + 1 = 26 - (e : Int) by omega]
    rw [show y + ((2 * p : Nat) : Int) = y + (p : Int) + (p : Int) by omega] at h2
    by_cases hc : (y + (p : Int)) * (y + (p : Int)) ≤ x
    · rw [if_pos hc]
      exact ih k (y + (p : Int)) (by omega) (by omega) (by omega) (by omega) hc h2
    · rw [if_neg hc]
      exact ih k y (by omega) (by omega) hy (by omega) h1 (by omega)
/-- The root of a number, as the package takes it. -/
def rt (x : Int) : Int := ((num_Root.f 100 x).getD (0, 0)).1
theorem root_ex (k : Nat) (hk : 40 ≤ k) (x : Int) (h0 : 0 ≤ x) (h1 : x ≤ 1125899906842624) : ∃ r, IsRt x r ∧ num_Root.f k x = some (r, 0) := by
  obtain ⟨k, rfl⟩ : ∃ m, k = m + 1 := ⟨k - 1, by omega⟩
  unfold num_Root.f
  rw [if_neg (by omega), decide_eq_false (by omega), num_Root.j0, if_neg (by simp)]
  exact rt_l0 x h0 26 k 0 (by omega) (by omega) (by omega) (by decide) (by omega) (by have : ((0 : Int) + ((2 ^ 26 : Nat) : Int)) * (0 + ((2 ^ 26 : Nat) : Int)) = 4503599627370496 := (by decide); omega)
theorem rt_is (x : Int) (h0 : 0 ≤ x) (h1 : x ≤ 1125899906842624) : IsRt x (rt x) := by
  obtain ⟨r, hr, he⟩ := root_ex 100 (by omega) x h0 h1
  unfold rt
  rw [he]
  exact hr
theorem root_f (k : Nat) (hk : 40 ≤ k) (x : Int) (h0 : 0 ≤ x) (h1 : x ≤ 1125899906842624) : num_Root.f k x = some (rt x, 0) := by
  obtain ⟨r, hr, he⟩ := root_ex k hk x h0 h1
  rw [he, rt_unique hr (rt_is x h0 h1)]
end Go.Proofs.Ytmdmajfgpmopbaa.Fl

/- The way of a movement: the package's and the reference's, as printed, are one. -/
namespace Go.Proofs.Ytmdmajfgpmopbaa.Fl
open Go.RowKit Go.Proofs.YtmdmajfgpmopbaaW.PrintWords Go.Proofs.Ytmdmajfgpmopbaa.X
set_option linter.unusedVariables false
set_option linter.unusedSimpArgs false
theorem ps_mem {P : List Sp} {i : Nat} (h : i < P.length) : ps P i ∈ P := by
  unfold ps rd_T53
  rw [Int.toNat_natCast, List.getD_eq_getElem?_getD, List.getElem?_eq_getElem h]
  exact List.getElem_mem h
theorem ps_on {P : List Sp} {U : List Int} (h : chk P U = 0) {i : Nat} (hi : i < P.length) : On (ps P i) := poses_on (chk_ok h).2.2.2.1 _ (ps_mem hi)
theorem sx_eq {P : List Sp} {U : List Int} (h : chk P U = 0) {i : Nat} (hi : i + 1 < P.length) : sx P i = (ps P (i + 1)).f0.f0 - (ps P i).f0.f0 ∧ -65536 ≤ sx P i ∧ sx P i ≤ 65536 := by
  obtain ⟨a1, a2, a3, a4⟩ := ps_on h (show i < P.length by omega)
  obtain ⟨b1, b2, b3, b4⟩ := ps_on h hi
  unfold sx
  rw [w64 (by omega) (by omega)]
  omega
theorem sy_eq {P : List Sp} {U : List Int} (h : chk P U = 0) {i : Nat} (hi : i + 1 < P.length) : sy P i = (ps P (i + 1)).f0.f1 - (ps P i).f0.f1 ∧ -65536 ≤ sy P i ∧ sy P i ≤ 65536 := by
  obtain ⟨a1, a2, a3, a4⟩ := ps_on h (show i < P.length by omega)
  obtain ⟨b1, b2, b3, b4⟩ := ps_on h hi
  unfold sy
  rw [w64 (by omega) (by omega)]
  omega
theorem sq_bd {a b : Int} (hb : 0 ≤ b) (h1 : -b ≤ a) (h2 : a ≤ b) : 0 ≤ a * a ∧ a * a ≤ b * b := by
  by_cases h : 0 ≤ a
  · exact ⟨Int.mul_nonneg h h, sq_le h h2⟩
  · rw [show a * a = -a * -a by rw [Int.neg_mul_neg]]
    exact ⟨Int.mul_nonneg (by omega) (by omega), sq_le (by omega) (by omega)⟩
/-- The square of a step's length. -/
def qs (P : List Sp) (i : Nat) : Int := sx P i * sx P i + sy P i * sy P i
theorem qs_bd {P : List Sp} {U : List Int} (h : chk P U = 0) {i : Nat} (hi : i + 1 < P.length) : 0 ≤ sx P i * sx P i ∧ sx P i * sx P i ≤ 4294967296 ∧ 0 ≤ sy P i * sy P i ∧ sy P i * sy P i ≤ 4294967296 := by
  have h1 := sq_bd (b := 65536) (by omega) (sx_eq h hi).2.1 (sx_eq h hi).2.2
  have h2 := sq_bd (b := 65536) (by omega) (sy_eq h hi).2.1 (sy_eq h hi).2.2
  omega
/-- The way's sum from a tick on. -/
def wy (P : List Sp) : Nat → Nat → Int → Int
  | 0, _, s => s
  | m + 1, i, s => wy P m (i + 1) (wrap64 (s + rt (qs P i)))
theorem fw_l0 (P : List Sp) (U : List Int) (h : chk P U = 0) : ∀ (m i k : Nat) (s : Int), i + m = U.length → m + 50 < k →
    floor_Way.l0 k s (U.length : Int) (i : Int) P U = some (wy P m i s, 0) := by
  obtain ⟨c1, c2, c3, _, _⟩ := chk_ok h
  intro m
  induction m with
  | zero =>
    intro i k s hi hk
    obtain ⟨k, rfl⟩ : ∃ m, k = m + 1 := ⟨k - 1, by omega⟩
    rw [floor_Way.l0, if_neg (by omega)]
    rfl
  | succ m ih =>
    intro i k s hi hk
    obtain ⟨k, rfl⟩ : ∃ m, k = m + 1 := ⟨k - 1, by omega⟩
    obtain ⟨q1, q2, q3, q4⟩ := qs_bd h (show i + 1 < P.length by omega)
    rw [floor_Way.l0, if_pos (by omega), step_f P U i (by omega) (by omega), Option.bind_some, w64 (x := sx P i * sx P i) (by omega) (by omega), w64 (x := sy P i * sy P i) (by omega) (by omega), w64 (x := sx P i * sx P i + sy P i * sy P i) (by omega) (by omega), root_f k (by omega) _ (by omega) (by omega), Option.bind_some, w64 (x := (i : Int) + 1) (by omega) (by omega), show (i : Int) + 1 = ((i + 1 : Nat) : Int) by omega]
    exact ih (i + 1) k _ (by omega) (by omega)
/-- The way's answer. -/
def wayV (P : List Sp) (U : List Int) : Int × Int := if chk P U = 0 then (wy P U.length 0 0, 0) else (0, chk P U)
theorem fw_f (k : Nat) (P : List Sp) (U : List Int) (hP : P.length ≤ 200) (hU : U.length ≤ 200) (hk : 17000 ≤ k) : floor_Way.f k P U = some (wayV P U) := by
  unfold floor_Way.f wayV
  rw [m_f k P U (by omega) (by omega) (by omega), Option.bind_some]
  by_cases h : chk P U = 0
  · rw [if_pos h, if_pos h]
    exact fw_l0 P U h U.length 0 k 0 (by omega) (by omega)
  · rw [if_neg h, if_neg h]
end Go.Proofs.Ytmdmajfgpmopbaa.Fl

/- FlPath: the reference's side. -/
namespace Go.Proofs.Ytmdmajfgpmopbaa.Fl
open Go.RowKit Go.Proofs.YtmdmajfgpmopbaaW.PrintWords Go.Proofs.Ytmdmajfgpmopbaa.X
set_option linter.unusedVariables false
set_option linter.unusedSimpArgs false
theorem rstep_f (P : List Sp) (U : List Int) (i : Nat) (h : i + 1 < P.length) (hP : P.length ≤ 8193) : dancestudioref43_step.f P U (i : Int) = some (sx P i, sy P i) := by
  unfold dancestudioref43_step.f sx sy ps
  rw [w64 (x := (i : Int) + 1) (by omega) (by omega), if_pos (by omega), if_pos (by omega), if_pos (by omega), if_pos (by omega), show (i : Int) + 1 = ((i + 1 : Nat) : Int) by omega]
theorem rp_l0 (P : List Sp) (U : List Int) (hl : P.length = U.length + 1) (hU : U.length ≤ 8192) : ∀ (m i k : Nat) (A : List Pt) (B : List Int), i + m = P.length → m < k → A.length ≤ i → B.length ≤ i →
    dancestudioref43_Path.l0 k A B (U.length : Int) (i : Int) P U = some (A ++ (ids P U.length i m).map (pt P), B ++ (ids P U.length i m).map (fun (j : Nat) => (j : Int)), 0) := by
  intro m
  induction m with
  | zero =>
    intro i k A B hi hk hA hB
    obtain ⟨k, rfl⟩ : ∃ m, k = m + 1 := ⟨k - 1, by omega⟩
    rw [dancestudioref43_Path.l0, if_neg (by omega), ids_zero, List.map_nil, List.map_nil, List.append_nil, List.append_nil]
  | succ m ih =>
    intro i k A B hi hk hA hB
    obtain ⟨k, rfl⟩ : ∃ m, k = m + 1 := ⟨k - 1, by omega⟩
    have next : keep P U.length i = true → dancestudioref43_Path.l0 k (A ++ [(⟨(rd_T53 P (i : Int)).f0.f0, (rd_T53 P (i : Int)).f0.f1⟩ : Pt)]) (B ++ [(i : Int)]) (U.length : Int) (((i + 1 : Nat) : Int)) P U
        = some (A ++ (ids P U.length i (m + 1)).map (pt P), B ++ (ids P U.length i (m + 1)).map (fun (j : Nat) => (j : Int)), 0) := by
      intro hkeep
      rw [ih (i + 1) k _ _ (by omega) (by omega) (by simp; omega) (by simp; omega), ids_succ, if_pos hkeep, List.map_cons, List.map_cons, List.append_assoc, List.append_assoc]
      rfl
    rw [dancestudioref43_Path.l0, if_pos (by omega), w64 (x := (i : Int) + 1) (by omega) (by omega), show (i : Int) + 1 = ((i + 1 : Nat) : Int) by omega]
    by_cases h0 : i = 0
    · rw [if_pos (show (i : Int) = 0 by omega), if_pos (by omega), if_pos (by omega), if_pos (by omega), if_pos (by omega)]
      exact next (keep_end _ _ _ (Or.inl h0))
    · rw [if_neg (show ¬ (i : Int) = 0 by omega)]
      by_cases h1 : i < U.length
      · rw [if_neg (show ¬ (i : Int) = (U.length : Int) by omega), w64 (x := (i : Int) - 1) (by omega) (by omega), show (i : Int) - 1 = ((i - 1 : Nat) : Int) by omega, rstep_f P U (i - 1) (by omega) (by omega), rstep_f P U i (by omega) (by omega), Option.bind_some, Option.bind_some]
        have hb : (!(sx P (i - 1) == sx P i) || !(sy P (i - 1) == sy P i)) = !(sx P (i - 1) == sx P i && sy P (i - 1) == sy P i) := by rw [Bool.not_and]
        by_cases hs : (sx P (i - 1) == sx P i && (sy P (i - 1) == sy P i)) = true
        · rw [if_neg (show ¬ (!(sx P (i - 1) == sx P i) || !(sy P (i - 1) == sy P i)) = true by rw [hb, hs]; simp), ih (i + 1) k _ _ (by omega) (by omega) (by omega) (by omega), ids_succ, if_neg (by rw [keep_mid _ _ _ (by omega) (by omega), hs]; simp)]
        · rw [if_pos (show (!(sx P (i - 1) == sx P i) || !(sy P (i - 1) == sy P i)) = true by rw [hb]; exact nt hs), if_pos (by omega), if_pos (by omega), if_pos (by omega), if_pos (by omega)]
          exact next (by rw [keep_mid _ _ _ (by omega) (by omega)]; exact nt hs)
      · rw [if_pos (show (i : Int) = (U.length : Int) by omega), if_pos (by omega), if_pos (by omega), if_pos (by omega), if_pos (by omega)]
        exact next (keep_end _ _ _ (Or.inr (by omega)))
theorem rp_f (k : Nat) (P : List Sp) (U : List Int) (hP : P.length ≤ 200) (hU : U.length ≤ 200) (hk : 17000 ≤ k) : dancestudioref43_Path.f k P U = some (pathV P U) := by
  unfold dancestudioref43_Path.f pathV
  rw [r_f k P U (by omega) (by omega) (by omega), Option.bind_some]
  by_cases h : chk P U = 0
  · rw [if_pos h, if_pos h]
    obtain ⟨h1, h2, h3, _, _⟩ := chk_ok h
    rw [show (dancestudioref43_Path.l0 k [] [] (U.length : Int) 0 P U) = dancestudioref43_Path.l0 k [] [] (U.length : Int) ((0 : Nat) : Int) P U from rfl, rp_l0 P U h3 h2 P.length 0 k [] [] (by omega) (by omega) (by simp) (by simp)]
    rfl
  · rw [if_neg h, if_neg h]
end Go.Proofs.Ytmdmajfgpmopbaa.Fl

/- FlRoot: the reference's side. -/
namespace Go.Proofs.Ytmdmajfgpmopbaa.Fl
open Go.RowKit Go.Proofs.YtmdmajfgpmopbaaW.PrintWords Go.Proofs.Ytmdmajfgpmopbaa.X
set_option linter.unusedVariables false
set_option linter.unusedSimpArgs false
theorem rr_l0 (x : Int) (hx : 0 ≤ x) : ∀ (e k : Nat) (a b : Int), e < k → 0 ≤ a → a ≤ b → b ≤ 33554432 → b - a < ((2 ^ e : Nat) : Int) → a * a ≤ x → x < (b + 1) * (b + 1) →
    ∃ r, IsRt x r ∧ dancestudioref01_Root.l0 k x a b = some (r, 0) := by
  intro e
  induction e with
  | zero =>
    intro k a b hk ha hab hb hd h1 h2
    obtain ⟨k, rfl⟩ : ∃ m, k = m + 1 := ⟨k - 1, by omega⟩
    have : a = b := by simp at hd; omega
    subst this
    refine ⟨a, ⟨ha, h1, h2⟩, ?_⟩
    rw [dancestudioref01_Root.l0, if_neg (by omega)]
  | succ e ih =>
    intro k a b hk ha hab hb hd h1 h2
    obtain ⟨k, rfl⟩ : ∃ m, k = m + 1 := ⟨k - 1, by omega⟩
    rw [show (2 ^ (e + 1) : Nat) = 2 * 2 ^ e by rw [Nat.pow_succ, Nat.mul_comm]] at hd
    generalize hp : (2 ^ e : Nat) = p at hd ih
    by_cases hc : a < b
    · obtain ⟨c, hcc, hc1, hc2, hc3⟩ : ∃ c, wrap64 (Int.tdiv (wrap64 ((wrap64 (a + b)) + 1)) 2) = c ∧ a < c ∧ c ≤ b ∧ (a + b ≤ 2 * c ∧ 2 * c ≤ a + b + 1) := by
        rw [w64 (x := a + b) (by omega) (by omega), w64 (x := a + b + 1) (by omega) (by omega), Int.tdiv_eq_ediv_of_nonneg (by omega)]
        refine ⟨_, w64 (by omega) (by omega), by omega, by omega, by omega, by omega⟩
      rw [dancestudioref01_Root.l0, if_pos hc, hcc]
      have hq : c * c ≤ 33554432 * 33554432 := sq_le (by omega) (by omega)
      have hq0 : 0 ≤ c * c := Int.mul_nonneg (by omega) (by omega)
      rw [w64 (x := c * c) (by omega) (by omega)]
      by_cases hd2 : c * c ≤ x
      · rw [if_pos hd2]
        exact ih k c b (by omega) (by omega) hc2 hb (by omega) hd2 h2
      · rw [if_neg hd2, w64 (x := c - 1) (by omega) (by omega)]
        exact ih k a (c - 1) (by omega) ha (by omega) (by omega) (by omega) h1 (by rw [show c - 1 + 1 = c by omega]; omega)
    · have : a = b := by omega
      subst this
      refine ⟨a, ⟨ha, h1, h2⟩, ?_⟩
      rw [dancestudioref01_Root.l0, if_neg (by omega)]
theorem rroot_ex (k : Nat) (hk : 40 ≤ k) (x : Int) (h0 : 0 ≤ x) (h1 : x ≤ 1125899906842624) : ∃ r, IsRt x r ∧ dancestudioref01_Root.f k x = some (r, 0) := by
  obtain ⟨k, rfl⟩ : ∃ m, k = m + 1 := ⟨k - 1, by omega⟩
  unfold dancestudioref01_Root.f
  rw [if_neg (by omega), decide_eq_false (by omega), dancestudioref01_Root.j0, if_neg (by simp)]
  exact rr_l0 x h0 26 k 0 33554432 (by omega) (by omega) (by omega) (by omega) (by decide) (by omega) (by have : ((33554432 : Int) + 1) * (33554432 + 1) = 1125899973951489 := (by decide); omega)
theorem rroot_f (k : Nat) (hk : 40 ≤ k) (x : Int) (h0 : 0 ≤ x) (h1 : x ≤ 1125899906842624) : dancestudioref01_Root.f k x = some (rt x, 0) := by
  obtain ⟨r, hr, he⟩ := rroot_ex k hk x h0 h1
  rw [he, rt_unique hr (rt_is x h0 h1)]
end Go.Proofs.Ytmdmajfgpmopbaa.Fl

/- FlWay: the reference's side. -/
namespace Go.Proofs.Ytmdmajfgpmopbaa.Fl
open Go.RowKit Go.Proofs.YtmdmajfgpmopbaaW.PrintWords Go.Proofs.Ytmdmajfgpmopbaa.X
set_option linter.unusedVariables false
set_option linter.unusedSimpArgs false
theorem rw_l0 (P : List Sp) (U : List Int) (h : chk P U = 0) : ∀ (m i k : Nat) (s : Int), i + m = U.length → m + 50 < k →
    dancestudioref43_Way.l0 k s (i : Int) P U = some (wy P m i s, 0) := by
  obtain ⟨c1, c2, c3, _, _⟩ := chk_ok h
  intro m
  induction m with
  | zero =>
    intro i k s hi hk
    obtain ⟨k, rfl⟩ : ∃ m, k = m + 1 := ⟨k - 1, by omega⟩
    rw [dancestudioref43_Way.l0, if_neg (by omega)]
    rfl
  | succ m ih =>
    intro i k s hi hk
    obtain ⟨k, rfl⟩ : ∃ m, k = m + 1 := ⟨k - 1, by omega⟩
    obtain ⟨q1, q2, q3, q4⟩ := qs_bd h (show i + 1 < P.length by omega)
    rw [dancestudioref43_Way.l0, if_pos (by omega), rstep_f P U i (by omega) (by omega), Option.bind_some, w64 (x := sx P i * sx P i) (by omega) (by omega), w64 (x := sy P i * sy P i) (by omega) (by omega), w64 (x := sx P i * sx P i + sy P i * sy P i) (by omega) (by omega), rroot_f k (by omega) _ (by omega) (by omega), Option.bind_some, w64 (x := (i : Int) + 1) (by omega) (by omega), show (i : Int) + 1 = ((i + 1 : Nat) : Int) by omega]
    exact ih (i + 1) k _ (by omega) (by omega)
theorem rw_f (k : Nat) (P : List Sp) (U : List Int) (hP : P.length ≤ 200) (hU : U.length ≤ 200) (hk : 17000 ≤ k) : dancestudioref43_Way.f k P U = some (wayV P U) := by
  unfold dancestudioref43_Way.f wayV
  rw [r_f k P U (by omega) (by omega) (by omega), Option.bind_some]
  by_cases h : chk P U = 0
  · rw [if_pos h, if_pos h]
    exact rw_l0 P U h U.length 0 k 0 (by omega) (by omega)
  · rw [if_neg h, if_neg h]
end Go.Proofs.Ytmdmajfgpmopbaa.Fl

/- The law FloorPaths over numbers and lists. -/
namespace Go.Proofs.Ytmdmajfgpmopbaa.Pure
open Go.RowKit Go.Proofs.YtmdmajfgpmopbaaW.PrintWords Go.Proofs.Ytmdmajfgpmopbaa.X Go.Proofs.Ytmdmajfgpmopbaa.Fl
set_option linter.unusedVariables false
set_option linter.unusedSimpArgs false
theorem great_f (P : List Sp) (U : List Int) : dancestudiolaw43_great.f P U = some (decide (200 < P.length ∨ 200 < U.length)) := by
  unfold dancestudiolaw43_great.f
  by_cases h : 200 < P.length
  · rw [if_pos (by omega), decide_eq_true (Or.inl h)]
  · rw [if_neg (by omega)]
    congr 1
    rw [decide_eq_decide]
    omega
theorem FloorPaths (P : List Sp) (U : List Int) : ∃ k, X.dancestudiolaw43_FloorPaths.f k P U = some true := by
  refine ⟨20000, ?_⟩
  generalize hk : 20000 = k
  unfold dancestudiolaw43_FloorPaths.f
  rw [great_f, Option.bind_some]
  by_cases hg : 200 < P.length ∨ 200 < U.length
  · rw [decide_eq_true hg, if_pos rfl]
    rfl
  · rw [decide_eq_false hg, if_neg (by simp), fp_f k P U (by omega) (by omega) (by omega), rp_f k P U (by omega) (by omega) (by omega), Option.bind_some, Option.bind_some]
    obtain ⟨l1, l2⟩ := pathV_len P U (by omega)
    rw [same_f k _ l1 (by omega), Option.bind_some, if_pos rfl, ints_f k _ l2 (by omega), Option.bind_some, if_pos rfl, if_pos rfl]
    rw [fb_f k P U (by omega) (by omega) (by omega), rb_f k P U (by omega) (by omega) (by omega), fw_f k P U (by omega) (by omega) (by omega), rw_f k P U (by omega) (by omega) (by omega), Option.bind_some, Option.bind_some, Option.bind_some, Option.bind_some]
    rw [beq_self_eq_true, beq_self_eq_true, beq_self_eq_true, beq_self_eq_true, if_pos rfl, if_pos rfl, if_pos rfl]
    rfl
end Go.Proofs.Ytmdmajfgpmopbaa.Pure

/- FloorPaths: WHATEVER THE INPUT, the law returns true and its arguments read as they did: the row over the printed walk and the plain statement. -/
namespace Go.Proofs.Ytmdmajfgpmopbaa.floorPaths
open Go.ChangeShapes Go.WideShapes Go.ChangeAt Go.RowKit Go.Proofs.YtmdmajfgpmopbaaW.PrintWords
open Go.ChangeMaps (open_string shut_string)
set_option linter.unusedVariables false
set_option linter.unusedSimpArgs false
theorem own : ownKnob Try.prog.godebug = none := by kernel_rfl
theorem laidOut : laidOutB Try.prog = true := by kernel_rfl
set_option maxRecDepth 100000 in
theorem contract (H : Type) (enc : TypeId × Value → H) (W : World) (base : Nat) (args : Array Value) (ds gs : List (DataW H)) (before : List MemPlace)
    (hval : ∀ (j : Nat) t v, Try.f3.params[j]? = some t → args[j]? = some v → Value.okWide Try.prog W .any base t v)
    (hW : DataW.Whole enc Try.prog Try.f3.params.toList Rows.floorPathsSpec.vars false W args.toList ds gs before) :
    Calls Try.prog 3 args W fun e W' => ∃ v, e = .returned v ∧ Rows.floorPathsSpec.post enc Try.prog Try.f3 false true false false W args v W' := by
  have hW' := hW
  obtain ⟨p, q, hA0, hV, rfl, hfz, hnd⟩ := hW
  have hA : DataW.TrodAll enc Try.prog W 0 (fun _ => true) true Try.f3.params.toList args.toList ds p := hA0
  rw [Try.params3] at hA hval
  obtain ⟨v0, vs0, d0, ds0, p0, q0, hargs, rfl, rfl, h0, r0⟩ := trodAll_cons hA
  obtain ⟨rfl, rfl, rfl⟩ := trodAll_nil r0
  obtain rfl : args = #[v0] := by cases args; simp_all
  obtain ⟨rfl, rfl⟩ := trodVars_none hV
  have k0 := h0
  have lt0 : ∀ x ∈ p0, x.block < W.heap.size := by obtain ⟨m, hm⟩ := k0; exact DataW.trod_lt m _ _ _ hm
  have o0 : Opens enc Try.prog W (Kd.pair (Kd.slice 53 X.k53) (Kd.slice 3 (Kd.int .i64))) 25 _ _ := (Opens.agg Try.underlying25 (by kernel_rfl) (OpensFs.cons rfl (Opens.slice Try.underlying22 (by kernel_rfl) (show Opens enc Try.prog W X.k53 53 _ _ from Opens.struct Try.underlying53 (by kernel_rfl) (fun x : X.S53 => (x.f0, x.f1, x.f2, x.f3)) (fun p => ⟨p.1, p.2.1, p.2.2.1, p.2.2.2⟩) (fun _ => rfl) (OpensFs.cons rfl (show Opens enc Try.prog W X.k35 35 _ _ from Opens.struct Try.underlying35 (by kernel_rfl) (fun x : X.S35 => (x.f0, x.f1)) (fun p => ⟨p.1, p.2⟩) (fun _ => rfl) (OpensFs.cons rfl (Opens.int Try.underlying3 (by kernel_rfl)) (OpensFs.last rfl (Opens.int Try.underlying3 (by kernel_rfl))))) (OpensFs.cons rfl (Opens.int Try.underlying3 (by kernel_rfl)) (OpensFs.cons rfl (Opens.int Try.underlying3 (by kernel_rfl)) (OpensFs.last rfl (show Opens enc Try.prog W X.k51 51 _ _ from Opens.structA Try.underlying51 (by kernel_rfl) (fun x : X.S51 => (x.f0, x.f1, x.f2, x.f3, x.f4, x.f5)) (fun p => ⟨p.1, p.2.1, p.2.2.1, p.2.2.2.1, p.2.2.2.2.1, p.2.2.2.2.2⟩) (fun _ => rfl) (OpensAs.cons (show Opens enc Try.prog W X.k50 50 _ _ from Opens.struct Try.underlying50 (by kernel_rfl) (fun x : X.S50 => (x.f0, x.f1, x.f2)) (fun p => ⟨p.1, p.2.1, p.2.2⟩) (fun _ => rfl) (OpensFs.cons rfl (Opens.int Try.underlying3 (by kernel_rfl)) (OpensFs.cons rfl (Opens.int Try.underlying3 (by kernel_rfl)) (OpensFs.last rfl (Opens.int Try.underlying3 (by kernel_rfl)))))) (OpensAs.cons (show Opens enc Try.prog W X.k50 50 _ _ from Opens.struct Try.underlying50 (by kernel_rfl) (fun x : X.S50 => (x.f0, x.f1, x.f2)) (fun p => ⟨p.1, p.2.1, p.2.2⟩) (fun _ => rfl) (OpensFs.cons rfl (Opens.int Try.underlying3 (by kernel_rfl)) (OpensFs.cons rfl (Opens.int Try.underlying3 (by kernel_rfl)) (OpensFs.last rfl (Opens.int Try.underlying3 (by kernel_rfl)))))) (OpensAs.cons (show Opens enc Try.prog W X.k50 50 _ _ from Opens.struct Try.underlying50 (by kernel_rfl) (fun x : X.S50 => (x.f0, x.f1, x.f2)) (fun p => ⟨p.1, p.2.1, p.2.2⟩) (fun _ => rfl) (OpensFs.cons rfl (Opens.int Try.underlying3 (by kernel_rfl)) (OpensFs.cons rfl (Opens.int Try.underlying3 (by kernel_rfl)) (OpensFs.last rfl (Opens.int Try.underlying3 (by kernel_rfl)))))) (OpensAs.cons (show Opens enc Try.prog W X.k50 50 _ _ from Opens.struct Try.underlying50 (by kernel_rfl) (fun x : X.S50 => (x.f0, x.f1, x.f2)) (fun p => ⟨p.1, p.2.1, p.2.2⟩) (fun _ => rfl) (OpensFs.cons rfl (Opens.int Try.underlying3 (by kernel_rfl)) (OpensFs.cons rfl (Opens.int Try.underlying3 (by kernel_rfl)) (OpensFs.last rfl (Opens.int Try.underlying3 (by kernel_rfl)))))) (OpensAs.cons (show Opens enc Try.prog W X.k50 50 _ _ from Opens.struct Try.underlying50 (by kernel_rfl) (fun x : X.S50 => (x.f0, x.f1, x.f2)) (fun p => ⟨p.1, p.2.1, p.2.2⟩) (fun _ => rfl) (OpensFs.cons rfl (Opens.int Try.underlying3 (by kernel_rfl)) (OpensFs.cons rfl (Opens.int Try.underlying3 (by kernel_rfl)) (OpensFs.last rfl (Opens.int Try.underlying3 (by kernel_rfl)))))) (OpensAs.last (show Opens enc Try.prog W X.k50 50 _ _ from Opens.struct Try.underlying50 (by kernel_rfl) (fun x : X.S50 => (x.f0, x.f1, x.f2)) (fun p => ⟨p.1, p.2.1, p.2.2⟩) (fun _ => rfl) (OpensFs.cons rfl (Opens.int Try.underlying3 (by kernel_rfl)) (OpensFs.cons rfl (Opens.int Try.underlying3 (by kernel_rfl)) (OpensFs.last rfl (Opens.int Try.underlying3 (by kernel_rfl))))))))))))))))))) (OpensFs.last rfl (Opens.slice Try.underlying23 (by kernel_rfl) (Opens.int Try.underlying3 (by kernel_rfl))))))
  obtain ⟨y0, cs0, rfl, K0, G0, b0⟩ := o0.arg_agg Try.underlying25 (hval 0 25 v0 rfl rfl) k0
  obtain ⟨x0_0, x0_1⟩ := y0
  obtain ⟨_, _, hcs0, ⟨A0_0, c0_0, rfl, l0_0, C0_0⟩, ⟨A0_1, c0_1, rfl, l0_1, C0_1⟩⟩ := K0
  obtain rfl : cs0 = #[.slice A0_0 x0_0.length c0_0, .slice A0_1 x0_1.length c0_1] := by apply Array.toList_inj.1; simpa using hcs0
  obtain ⟨g0_0, g0_1⟩ := G0
  obtain ⟨k, hf⟩ := Pure.FloorPaths x0_0 x0_1 
  refine (X.dancestudiolaw43_FloorPaths.calls k _ _ x0_0 _ _ x0_1 true W C0_0 l0_0 C0_1 l0_1 hf).mono ?_
  rintro e W' ⟨rfl, hd⟩
  have bel : Below W.heap.size W W' := hd
  exact ⟨_, rfl, _, _, _, [], _, [], hW', trodAll_mk1 (shut_bool Try.underlying4 _), (trodAll_cons_mk (Below.trod laidOut (by kernel_rfl) (of_decide_eq_true (by kernel_rfl)) k0 bel lt0) trodAll_mk0), rfl, bel.frame _, fun h => by cases h⟩
set_option maxRecDepth 100000 in
theorem lifted (os : Os) (started : os.Started) (H : Type) (enc : TypeId × Value → H) :
    ReturnsInHanded {} Try.checked os 3 .any (Rows.floorPathsSpec.pre6 enc Try.prog Try.f3 Rows.floorPathsRow.domain false) (Rows.floorPathsSpec.post enc Try.prog Try.f3 false true false false) := by
  refine returnsInHanded_of_change_sized (C := Try.checked) own started (by kernel_rfl) Try.func3
    (ChangeSpec.witness6 (enc := enc) (C := Try.checked) false ⟨#[], #[.agg #[.slice none 0 0, .slice none 0 0]], []⟩ 8 (by kernel_rfl) (by kernel_rfl) (by kernel_rfl) (by kernel_rfl)) ?_
  intro W base args ds gs before hval hW _ _ _
  exact contract H enc W base args ds gs before hval hW
theorem over : Rows.floorPathsRow.holds Try.pinned (OpenSpec.ofChange Rows.floorPathsSpec) :=
  OpenClaim.holds_of_wide 3 Try.f3 rfl rfl rfl rfl rfl rfl rfl ⟨rfl, rfl, rfl, rfl, rfl⟩ rfl rfl rfl rfl rfl (by kernel_rfl) Try.func3 (by kernel_rfl)
    (of_decide_eq_true (by kernel_rfl)) (by unfold Func.isWrapper; first | (rw [if_pos (by decide +kernel)]; kernel_rfl) | (rw [if_neg (by decide +kernel)]; exact ⟨rfl, rfl⟩))
    (fun os started H enc _ => lifted os started H enc)
end Go.Proofs.Ytmdmajfgpmopbaa.floorPaths
namespace Go.Proofs.Ytmdmajfgpmopbaa
/-- The row, under a short name. -/
theorem floorPaths_holds : Rows.FloorPathsSaid := floorPaths.over
#print axioms floorPaths_holds
end Go.Proofs.Ytmdmajfgpmopbaa
