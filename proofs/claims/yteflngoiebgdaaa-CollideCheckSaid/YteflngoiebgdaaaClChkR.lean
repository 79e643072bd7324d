/- Collide: the reference's check, as printed. -/
import Derived.Test.YteflngoiebgdaaaX41
import Derived.Test.YteflngoiebgdaaaClChk
import Derived.Test.YteflngoiebgdaaaFlChkR
namespace Go.Proofs.Yteflngoiebgdaaa.Cl
open Go.RowKit Go.Proofs.YteflngoiebgdaaaW.PrintWords Go.Proofs.Yteflngoiebgdaaa.X Go.Proofs.Yteflngoiebgdaaa.Fl
set_option linter.unusedVariables false
set_option linter.unusedSimpArgs false
/-! ### the reference's check -/
theorem rc_l2 (l : List Mv) (c : List Ct) (hc : c.length ≤ 1000) : ∀ (s : List Ct) (i k : Nat), c.drop i = s → s.length < k → dancestudioref44_Check.l2 k l c (i : Int) = some (if s.all (okC l.length) = true then 0 else 31) := by
  intro s
  induction s with
  | nil =>
    intro i k hd hk
    obtain ⟨k, rfl⟩ : ∃ m, k = m + 1 := ⟨k - 1, by omega⟩
    have hi : c.length ≤ i := List.drop_eq_nil_iff.1 hd
    rw [dancestudioref44_Check.l2, if_neg (by omega)]
    rfl
  | cons x s ih =>
    intro i k hd hk
    simp only [List.length_cons] at hk
    obtain ⟨k, rfl⟩ : ∃ m, k = m + 1 := ⟨k - 1, by omega⟩
    obtain ⟨hx, hi, hn⟩ := rdC hd
    rw [dancestudioref44_Check.l2, if_pos (by omega), if_pos (by omega), hx, w64 (by omega) (by omega), show (i : Int) + 1 = ((i + 1 : Nat) : Int) by omega, ih (i + 1) k hn (by omega), okC_if, List.all_cons]
    cases okC l.length x <;> rfl
theorem rc_l1 (l : List Mv) (c : List Ct) (hl : l.length ≤ 1000) (hc : c.length ≤ 1000) : ∀ (s : List Mv) (i k : Nat), l.drop i = s → s.length + c.length + 1 < k → dancestudioref44_Check.l1 k l c (i : Int) = some (cend l c s) := by
  intro s
  induction s with
  | nil =>
    intro i k hd hk
    simp only [List.length_nil] at hk
    obtain ⟨k, rfl⟩ : ∃ m, k = m + 1 := ⟨k - 1, by omega⟩
    have hi : l.length ≤ i := List.drop_eq_nil_iff.1 hd
    rw [dancestudioref44_Check.l1, if_neg (by omega), show (0 : Int) = ((0 : Nat) : Int) from rfl, rc_l2 l c hc c 0 k (by simp) (by omega)]
    rfl
  | cons x s ih =>
    intro i k hd hk
    simp only [List.length_cons] at hk
    obtain ⟨k, rfl⟩ : ∃ m, k = m + 1 := ⟨k - 1, by omega⟩
    obtain ⟨hx, hi, hn⟩ := rdM hd
    rw [dancestudioref44_Check.l1, if_pos (by omega), if_pos (by omega), if_pos (by omega), hx, w64 (by omega) (by omega), show (i : Int) + 1 = ((i + 1 : Nat) : Int) by omega, ih (i + 1) k hn (by omega)]
    unfold cend
    rw [List.all_cons]
    unfold okN
    by_cases h : x.f1.length = (rd_T43 l 0).f1.length
    · rw [if_pos (by omega), decide_eq_true h]
      rfl
    · rw [if_neg (by omega), decide_eq_false h]
      rfl
theorem rc_l0 (l : List Mv) (r : List Int) (c : List Ct) (hl : l.length ≤ 1000) (hc : c.length ≤ 1000) (hr : r.length = l.length) (hm : ∀ m ∈ l, m.f0.length ≤ 60 ∧ m.f1.length ≤ 60) : ∀ (s : List Mv) (t : List Int) (i k : Nat), l.drop i = s → r.drop i = t → s.length + l.length + c.length + 16600 < k →
    dancestudioref44_Check.l0 k l r c (i : Int) = some (if cw s t = 0 then cend l c l else cw s t) := by
  intro s
  induction s with
  | nil =>
    intro t i k hd ht hk
    simp only [List.length_nil] at hk
    obtain ⟨k, rfl⟩ : ∃ m, k = m + 1 := ⟨k - 1, by omega⟩
    have hi : l.length ≤ i := List.drop_eq_nil_iff.1 hd
    rw [dancestudioref44_Check.l0, if_neg (by omega), show (0 : Int) = ((0 : Nat) : Int) from rfl, rc_l1 l c hl hc l 0 k (by simp) (by omega)]
    rfl
  | cons x s ih =>
    intro t i k hd ht hk
    simp only [List.length_cons] at hk
    obtain ⟨k, rfl⟩ : ∃ m, k = m + 1 := ⟨k - 1, by omega⟩
    obtain ⟨hx, hi, hn⟩ := rdM hd
    obtain ⟨y, t, rfl⟩ : ∃ y t', t = y :: t' := by
      cases t with
      | nil => have := List.drop_eq_nil_iff.1 ht; omega
      | cons y t => exact ⟨y, t, rfl⟩
    obtain ⟨hy, hi2, hn2⟩ := rdI ht
    have hxm : x ∈ l := List.mem_of_mem_drop (i := i) (by rw [hd]; exact List.mem_cons_self ..)
    obtain ⟨q1, q2⟩ := hm x hxm
    rw [dancestudioref44_Check.l0, if_pos (by omega), if_pos (by omega), hx, r_f k x.f0 x.f1 (by omega) (by omega) (by omega), Option.bind_some, hy, w64 (by omega) (by omega), show (i : Int) + 1 = ((i + 1 : Nat) : Int) by omega, ih t (i + 1) k hn hn2 (by omega), cw]
    by_cases h : chk x.f0 x.f1 = 0
    · rw [if_pos h, if_pos h, if_pos (by omega)]
      by_cases h1 : y < 0
      · rw [if_pos h1, if_pos h1]; rfl
      · rw [if_neg h1, if_neg h1]
        by_cases h2 : y > 32768
        · rw [if_pos h2, if_pos h2]; rfl
        · rw [if_neg h2, if_neg h2]
    · rw [if_neg h, if_neg h, if_neg h]
theorem rc_f (k : Nat) (l : List Mv) (r : List Int) (c : List Ct) (hc : c.length ≤ 20) (hm : ∀ m ∈ l, m.f0.length ≤ 60 ∧ m.f1.length ≤ 60) (hk : 17000 ≤ k) : dancestudioref44_Check.f k l r c = some (cchk l r c) := by
  unfold dancestudioref44_Check.f cchk
  by_cases h : 12 < l.length
  · rw [if_pos (by omega), if_pos h]
  · rw [if_neg (by omega), if_neg h]
    by_cases h1 : r.length = l.length
    · rw [if_pos (by omega), if_pos h1, show (0 : Int) = ((0 : Nat) : Int) from rfl, rc_l0 l r c (by omega) (by omega) h1 hm l r 0 k (by simp) (by simp) (by omega)]
      rfl
    · rw [if_neg (by omega), if_neg h1]
end Go.Proofs.Yteflngoiebgdaaa.Cl
