/- Cues: the package's and the reference's answers over numbers. -/
import Derived.Test.YtljjgcfifhfhdaaX4
import Derived.Test.YtljjgcfifhfhdaaTmImpl
import Derived.Test.YtljjgcfifhfhdaaX8
import Derived.Test.YtljjgcfifhfhdaaX3
namespace Go.Proofs.Ytljjgcfifhfhdaa.Cu
open Go.RowKit Go.Proofs.YtljjgcfifhfhdaaW.PrintWords Go.Proofs.Ytljjgcfifhfhdaa.X Go.Proofs.Ytljjgcfifhfhdaa.Tm Go.Proofs.Ytljjgcfifhfhdaa.TmImpl
set_option linter.unusedVariables false
set_option linter.unusedSimpArgs false

abbrev Sc := S40
theorem rdC {l : List Sc} {i : Nat} {x : Sc} {r : List Sc} (h : l.drop i = x :: r) : rd_T40 l (i : Int) = x ∧ i < l.length ∧ l.drop (i + 1) = r := by
  have hi : i < l.length := by
    apply Nat.lt_of_not_le
    intro hh
    rw [List.drop_of_length_le hh] at h
    cases h
  rw [List.drop_eq_getElem_cons hi] at h
  simp only [List.cons.injEq] at h
  refine ⟨?_, hi, h.2⟩
  unfold rd_T40
  simp only [Int.toNat_natCast]
  rw [List.getD_eq_getElem?_getD, List.getElem?_eq_getElem hi]
  exact h.1
/-! ### neighbours -/
def prs : Sc → List Sc → List (Sc × Sc)
  | _, [] => []
  | a, b :: l => (a, b) :: prs b l
theorem upto_cons {α : Type} (f : Nat → α) (n : Nat) : cue_Check.upto f (n + 1) = f 0 :: cue_Check.upto (fun k => f (k + 1)) n := by
  unfold cue_Check.upto
  rw [List.range_succ_eq_map, List.map_cons, List.map_map]
  rfl
theorem upto_pr : ∀ (l : List Sc) (a : Sc), cue_Check.upto (cue_Check.pr (a :: l)) l.length = prs a l
  | [], _ => rfl
  | b :: l, a => by
    rw [List.length_cons, upto_cons]
    have h := upto_pr l b
    rw [prs, ← h]
    rfl
theorem ps_cons (a : Sc) (l : List Sc) : cue_Fit.ps (a :: l) = prs a l := by
  unfold cue_Fit.ps
  rw [List.length_cons, Nat.add_sub_cancel]
  exact upto_pr l a
def cha : Sc → List Sc → Bool
  | _, [] => true
  | p, x :: l => cue_Check.good (p, x) && cha x l
theorem allg_prs : ∀ (l : List Sc) (a : Sc), cue_Check.allg (prs a l) = cha a l
  | [], _ => rfl
  | b :: l, a => by
    unfold cue_Check.allg
    rw [prs, List.all_cons, cha]
    have h := allg_prs l b
    unfold cue_Check.allg at h
    rw [h]
def ordc : List Sc → Int
  | [] => 0
  | a :: l => if a.f0 = 0 then (if cha a l = true then 0 else 5) else 5
theorem chk_eq (l : List Sc) : cue_Check.chk l = if l.length < 2 then 4 else if 64 < l.length then 3 else if l.all cue_Check.okc = true then ordc l else 1 := by
  unfold cue_Check.chk
  by_cases h : l.length < 2
  · rw [if_pos h, if_pos h]
  · rw [if_neg h, if_neg h]
    cases l with
    | nil => simp at h
    | cons a l =>
      have e := ps_cons a l
      unfold cue_Fit.ps at e
      rw [e, allg_prs]
      rfl
/-! ### the reference's Check -/
theorem rc_l1 (l : List Sc) (hl : l.length ≤ 64) : ∀ (s : List Sc) (i k : Nat) (p : Sc), 1 ≤ i → l.drop i = s → rd_T40 l ((i - 1 : Nat) : Int) = p → s.length < k →
    dancestudioref15_Check.l1 k l (i : Int) = some (if cha p s = true then 0 else 5) := by
  intro s
  induction s with
  | nil =>
    intro i k p h1 hd hp hk
    obtain ⟨k, rfl⟩ : ∃ m, k = m + 1 := ⟨k - 1, by omega⟩
    have hi : l.length ≤ i := List.drop_eq_nil_iff.1 hd
    rw [dancestudioref15_Check.l1, if_neg (by omega)]
    rfl
  | cons x s ih =>
    intro i k p h1 hd hp hk
    simp only [List.length_cons] at hk
    obtain ⟨k, rfl⟩ : ∃ m, k = m + 1 := ⟨k - 1, by omega⟩
    obtain ⟨hx, hi, hn⟩ := rdC hd
    rw [dancestudioref15_Check.l1, if_pos (by omega), if_pos (by omega), w64 (by omega) (by omega), if_pos (by omega), if_pos (by omega), hx, show (i : Int) - 1 = ((i - 1 : Nat) : Int) by omega, hp]
    by_cases h : x.f0 ≤ p.f0
    · rw [if_pos h, cha, show cue_Check.good (p, x) = false by unfold cue_Check.good; exact decide_eq_false (by simp only; omega), Bool.false_and]
      rfl
    · rw [if_neg h]
      by_cases h2 : x.f1 ≤ p.f1
      · rw [if_pos h2, cha, show cue_Check.good (p, x) = false by unfold cue_Check.good; exact decide_eq_false (by simp only; omega), Bool.false_and]
        rfl
      · rw [if_neg h2, w64 (by omega) (by omega), show (i : Int) + 1 = ((i + 1 : Nat) : Int) by omega, ih (i + 1) k x (by omega) hn (by rw [Nat.add_sub_cancel]; exact hx) (by omega), cha,
          show cue_Check.good (p, x) = true by unfold cue_Check.good; exact decide_eq_true (by simp only; omega), Bool.true_and]
theorem rc_l0 (l : List Sc) (hl : l.length ≤ 64) (hne : 0 < l.length) : ∀ (s : List Sc) (i k : Nat), l.drop i = s → s.length + l.length + 2 < k →
    dancestudioref15_Check.l0 k l (i : Int) = some (if s.all cue_Check.okc = true then ordc l else 1) := by
  intro s
  induction s with
  | nil =>
    intro i k hd hk
    obtain ⟨k, rfl⟩ : ∃ m, k = m + 1 := ⟨k - 1, by omega⟩
    have hi : l.length ≤ i := List.drop_eq_nil_iff.1 hd
    simp only [List.length_nil] at hk
    rw [dancestudioref15_Check.l0, if_neg (by omega), if_pos (by omega)]
    cases l with
    | nil => simp at hne
    | cons x l =>
      have hx : rd_T40 (x :: l) 0 = x := rfl
      rw [hx, List.all_nil, if_pos rfl, ordc]
      simp only [List.length_cons] at hl hk
      by_cases h : x.f0 = 0
      · rw [if_pos h, if_pos h]
        have := rc_l1 (x :: l) (by simp; omega) l 1 k x (by omega) rfl hx (by omega)
        exact this
      · rw [if_neg h, if_neg h]
  | cons x s ih =>
    intro i k hd hk
    simp only [List.length_cons] at hk
    obtain ⟨k, rfl⟩ : ∃ m, k = m + 1 := ⟨k - 1, by omega⟩
    obtain ⟨hx, hi, hn⟩ := rdC hd
    rw [dancestudioref15_Check.l0, if_pos (by omega), if_pos (by omega), hx, List.all_cons]
    by_cases h : 0 ≤ x.f0 ∧ x.f0 ≤ 8192 ∧ 0 ≤ x.f1 ∧ x.f1 ≤ 1099511627776
    · rw [if_neg (by omega), if_neg (by omega), if_neg (by omega), if_neg (by omega), w64 (by omega) (by omega), show (i : Int) + 1 = ((i + 1 : Nat) : Int) by omega, ih (i + 1) k hn (by omega),
        show cue_Check.okc x = true by unfold cue_Check.okc; exact decide_eq_true h, Bool.true_and]
    · rw [show cue_Check.okc x = false by unfold cue_Check.okc; exact decide_eq_false h, Bool.false_and, if_neg (show ¬ (false = true) by simp)]
      by_cases h1 : x.f0 < 0
      · rw [if_pos h1]
      · rw [if_neg h1]
        by_cases h2 : x.f0 > 8192
        · rw [if_pos h2]
        · rw [if_neg h2]
          by_cases h3 : x.f1 < 0
          · rw [if_pos h3]
          · rw [if_neg h3, if_pos (by omega)]
theorem rc_f (k : Nat) (l : List Sc) (hk : 200 ≤ k) : dancestudioref15_Check.f k l = some (cue_Check.chk l) := by
  rw [chk_eq]
  unfold dancestudioref15_Check.f
  by_cases h0 : l.length < 2
  · rw [if_pos (by omega), if_pos h0]
  · rw [if_neg (by omega), if_neg h0]
    by_cases h1 : 64 < l.length
    · rw [if_pos (by omega), if_pos h1]
    · rw [if_neg (by omega), if_neg h1]
      exact rc_l0 l (by omega) (by omega) l 0 k rfl (by omega)
end Go.Proofs.Ytljjgcfifhfhdaa.Cu
