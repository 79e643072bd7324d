/- Cues: lists, Drift, Worst. -/
import Derived.Test.YtljjgcfifhfhdaaX9
import Derived.Test.YtljjgcfifhfhdaaX23
import Derived.Test.YtljjgcfifhfhdaaX22
import Derived.Test.YtljjgcfifhfhdaaX14
import Derived.Test.YtljjgcfifhfhdaaX13
import Derived.Test.YtljjgcfifhfhdaaX12
import Derived.Test.YtljjgcfifhfhdaaCuFit
namespace Go.Proofs.Ytljjgcfifhfhdaa.Cu
open Go.RowKit Go.Proofs.YtljjgcfifhfhdaaW.PrintWords Go.Proofs.Ytljjgcfifhfhdaa.X Go.Proofs.Ytljjgcfifhfhdaa.Tm Go.Proofs.Ytljjgcfifhfhdaa.TmImpl
set_option linter.unusedVariables false
set_option linter.unusedSimpArgs false
theorem res_len (l : List Sc) : (cue_Fit.res l).1.length ≤ 64 := by
  unfold cue_Fit.res
  split
  · split
    · split
      · simp
      · rename_i h; simpa using h
    · simp
  · simp
/-! ### lists of tempos and of numbers -/
theorem rt_l0 (l : List St) (hl : l.length ≤ 1000) : ∀ (s : List St) (i k : Nat), l.drop i = s → s.length < k → dancestudioref15_Tempos.l0 k l l (i : Int) = some true := by
  intro s
  induction s with
  | nil =>
    intro i k hd hk
    obtain ⟨k, rfl⟩ : ∃ m, k = m + 1 := ⟨k - 1, by omega⟩
    have hi : l.length ≤ i := List.drop_eq_nil_iff.1 hd
    rw [dancestudioref15_Tempos.l0, if_neg (by omega)]
  | cons x s ih =>
    intro i k hd hk
    simp only [List.length_cons] at hk
    obtain ⟨k, rfl⟩ : ∃ m, k = m + 1 := ⟨k - 1, by omega⟩
    obtain ⟨hx, hi, hn⟩ := rdT hd
    rw [dancestudioref15_Tempos.l0, if_pos (by omega), if_pos (by omega), if_pos (by omega), if_neg (by simp), w64 (by omega) (by omega), show (i : Int) + 1 = ((i + 1 : Nat) : Int) by omega]
    exact ih (i + 1) k hn (by omega)
theorem rt_f (k : Nat) (l : List St) (hl : l.length ≤ 150) (hk : 200 ≤ k) : dancestudioref15_Tempos.f k l l = some true := by
  unfold dancestudioref15_Tempos.f
  rw [if_pos rfl]
  exact rt_l0 l (by omega) l 0 k rfl (by omega)
theorem rdI {l : List Int} {i : Nat} {x : Int} {r : List Int} (h : l.drop i = x :: r) : rd l (i : Int) = x ∧ i < l.length ∧ l.drop (i + 1) = r := by
  have hi : i < l.length := by
    apply Nat.lt_of_not_le
    intro hh
    rw [List.drop_of_length_le hh] at h
    cases h
  rw [List.drop_eq_getElem_cons hi] at h
  simp only [List.cons.injEq] at h
  refine ⟨?_, hi, h.2⟩
  unfold rd
  simp only [Int.toNat_natCast]
  first
    | (rw [List.getD_eq_getElem?_getD, List.getElem?_eq_getElem hi]; exact h.1)
    | (simp [hi]; exact h.1)
theorem ri_l0 (l : List Int) (hl : l.length ≤ 1000) : ∀ (s : List Int) (i k : Nat), l.drop i = s → s.length < k → dancestudioref15_Ints.l0 k l l (i : Int) = some true := by
  intro s
  induction s with
  | nil =>
    intro i k hd hk
    obtain ⟨k, rfl⟩ : ∃ m, k = m + 1 := ⟨k - 1, by omega⟩
    have hi : l.length ≤ i := List.drop_eq_nil_iff.1 hd
    rw [dancestudioref15_Ints.l0, if_neg (by omega)]
  | cons x s ih =>
    intro i k hd hk
    simp only [List.length_cons] at hk
    obtain ⟨k, rfl⟩ : ∃ m, k = m + 1 := ⟨k - 1, by omega⟩
    obtain ⟨hx, hi, hn⟩ := rdI hd
    rw [dancestudioref15_Ints.l0, if_pos (by omega), if_pos (by omega), if_pos (by omega), if_pos rfl, w64 (by omega) (by omega), show (i : Int) + 1 = ((i + 1 : Nat) : Int) by omega]
    exact ih (i + 1) k hn (by omega)
theorem ri_f (k : Nat) (l : List Int) (hl : l.length ≤ 150) (hk : 200 ≤ k) : dancestudioref15_Ints.f k l l = some true := by
  unfold dancestudioref15_Ints.f
  rw [if_pos rfl]
  exact ri_l0 l (by omega) l 0 k rfl (by omega)
/-! ### Drift and Worst -/
def late (t : List St) (l : List Sc) (c : Sc) : Int := wrap64 ((whn t c.f0).1 - wrap64 (c.f1 - (l.getD 0 z40).f1))
def drf (l : List Sc) (t : List St) : List Int × Int := if cue_Check.chk l = 0 then (if chk t = 0 then (l.map (late t l), 0) else ([], chk t)) else ([], cue_Check.chk l)
theorem late_f (k : Nat) (t : List St) (l : List Sc) (c : Sc) (hk : 200 ≤ k) : cue_Drift.late k t l c = some (late t l c) := by
  unfold cue_Drift.late
  rw [tWhen_f k t c.f0 hk, Option.bind_some]
  rfl
theorem go_f (k : Nat) (t : List St) (l : List Sc) (hk : 200 ≤ k) : ∀ (s : List Sc) (acc : List Int), cue_Drift.go k t l s acc = some (acc ++ s.map (late t l))
  | [], acc => by rw [cue_Drift.go, List.map_nil, List.append_nil]
  | c :: s, acc => by
    rw [cue_Drift.go, late_f k t l c hk, Option.bind_some, go_f k t l hk s, List.map_cons, List.append_assoc]
    rfl
theorem drf_f (k : Nat) (l : List Sc) (t : List St) (hk : 200 ≤ k) : cue_Drift.f k l t = some (drf l t) := by
  unfold cue_Drift.f drf
  by_cases h : cue_Check.chk l = 0
  · rw [if_pos h, if_pos h, tCheck_f k t hk, Option.bind_some]
    by_cases h2 : chk t = 0
    · rw [if_pos h2, if_pos h2, go_f k t l hk, Option.bind_some]
      rfl
    · rw [if_neg h2, if_neg h2]
  · rw [if_neg h, if_neg h]
theorem rd_l0 (l : List Sc) (hl : l.length ≤ 64) (h0 : 0 < l.length) (t : List St) : ∀ (s : List Sc) (i k : Nat) (acc : List Int), l.drop i = s → s.length + 200 ≤ k → acc.length ≤ i →
    dancestudioref15_Drift.l0 k l t acc (i : Int) = some (acc ++ s.map (late t l), 0) := by
  intro s
  induction s with
  | nil =>
    intro i k acc hd hk ha
    obtain ⟨k, rfl⟩ : ∃ m, k = m + 1 := ⟨k - 1, by omega⟩
    have hi : l.length ≤ i := List.drop_eq_nil_iff.1 hd
    rw [dancestudioref15_Drift.l0, if_neg (by omega), List.map_nil, List.append_nil]
  | cons x s ih =>
    intro i k acc hd hk ha
    simp only [List.length_cons] at hk
    obtain ⟨k, rfl⟩ : ∃ m, k = m + 1 := ⟨k - 1, by omega⟩
    obtain ⟨hx, hi, hn⟩ := rdC hd
    rw [dancestudioref15_Drift.l0, if_pos (by omega), if_pos (by omega), hx, rWhen_f k t x.f0 (by omega), Option.bind_some, if_pos (by omega), if_pos (by omega), w64 (x := (i : Int) + 1) (by omega) (by omega), show (i : Int) + 1 = ((i + 1 : Nat) : Int) by omega,
      ih (i + 1) k _ hn (by omega) (by simp; omega), List.map_cons, List.append_assoc]
    rfl
theorem rdrf_f (k : Nat) (l : List Sc) (t : List St) (hk : 400 ≤ k) : dancestudioref15_Drift.f k l t = some (drf l t) := by
  unfold dancestudioref15_Drift.f drf
  rw [rc_f k l (by omega), Option.bind_some]
  by_cases h : cue_Check.chk l = 0
  · rw [if_pos h, if_pos h, rCheck_f k t (by omega), Option.bind_some]
    by_cases h2 : chk t = 0
    · obtain ⟨a, b, s, rfl, _, hl, _⟩ := chk_ok h
      rw [if_pos h2, if_pos h2]
      exact rd_l0 (a :: b :: s) hl (by simp) t (a :: b :: s) 0 k [] rfl (by omega) (by simp)
    · rw [if_neg h2, if_neg h2]
  · rw [if_neg h, if_neg h]
theorem drf_len (l : List Sc) (t : List St) : (drf l t).1.length ≤ 64 := by
  unfold drf
  split
  · rename_i h
    obtain ⟨a, b, s, rfl, _, hl, _⟩ := chk_ok h
    split
    · simpa using hl
    · simp
  · simp
def wst : Int → List Int → Int
  | m, [] => m
  | m, n :: l => wst (mx (mx m n) (wrap64 (-n))) l
theorem tw_l0 (l : List Int) (hl : l.length ≤ 1000) : ∀ (s : List Int) (i k : Nat) (m : Int), l.drop i = s → s.length < k → cue_Worst.l0 k m l (l.length : Int) (i : Int) = some (wst m s, 0) := by
  intro s
  induction s with
  | nil =>
    intro i k m hd hk
    obtain ⟨k, rfl⟩ : ∃ m, k = m + 1 := ⟨k - 1, by omega⟩
    have hi : l.length ≤ i := List.drop_eq_nil_iff.1 hd
    rw [cue_Worst.l0, if_neg (by omega)]
    rfl
  | cons x s ih =>
    intro i k m hd hk
    simp only [List.length_cons] at hk
    obtain ⟨k, rfl⟩ : ∃ m, k = m + 1 := ⟨k - 1, by omega⟩
    obtain ⟨hx, hi, hn⟩ := rdI hd
    rw [cue_Worst.l0, if_pos (by omega), if_pos (by omega), if_pos (by omega), hx, w64 (x := (i : Int) + 1) (by omega) (by omega), show (i : Int) + 1 = ((i + 1 : Nat) : Int) by omega, ih (i + 1) k _ hn (by omega)]
    rfl
theorem rw_l0 (l : List Int) (hl : l.length ≤ 1000) : ∀ (s : List Int) (i k : Nat) (m : Int), l.drop i = s → s.length < k → dancestudioref15_Worst.l0 k l m (i : Int) = some (wst m s, 0) := by
  intro s
  induction s with
  | nil =>
    intro i k m hd hk
    obtain ⟨k, rfl⟩ : ∃ m, k = m + 1 := ⟨k - 1, by omega⟩
    have hi : l.length ≤ i := List.drop_eq_nil_iff.1 hd
    rw [dancestudioref15_Worst.l0, if_neg (by omega)]
    rfl
  | cons x s ih =>
    intro i k m hd hk
    simp only [List.length_cons] at hk
    obtain ⟨k, rfl⟩ : ∃ m, k = m + 1 := ⟨k - 1, by omega⟩
    obtain ⟨hx, hi, hn⟩ := rdI hd
    rw [dancestudioref15_Worst.l0, if_pos (by omega), if_pos (by omega), hx, w64 (x := (i : Int) + 1) (by omega) (by omega), show (i : Int) + 1 = ((i + 1 : Nat) : Int) by omega, ih (i + 1) k _ hn (by omega)]
    rfl
def wor (l : List Sc) (t : List St) : Int × Int := if (drf l t).2 = 0 then (wst 0 (drf l t).1, 0) else (0, (drf l t).2)
theorem wor_f (k : Nat) (l : List Sc) (t : List St) (hk : 400 ≤ k) : cue_Worst.f k l t = some (wor l t) := by
  unfold cue_Worst.f wor
  rw [drf_f k l t (by omega), Option.bind_some]
  have hd := drf_len l t
  by_cases h : (drf l t).2 = 0
  · rw [if_pos h, if_pos h]
    exact tw_l0 _ (by omega) _ 0 k 0 rfl (by omega)
  · rw [if_neg h, if_neg h]
theorem rwor_f (k : Nat) (l : List Sc) (t : List St) (hk : 400 ≤ k) : dancestudioref15_Worst.f k l t = some (wor l t) := by
  unfold dancestudioref15_Worst.f wor
  rw [rdrf_f k l t (by omega), Option.bind_some]
  have hd := drf_len l t
  by_cases h : (drf l t).2 = 0
  · rw [if_pos h, if_pos h]
    exact rw_l0 _ (by omega) _ 0 k 0 rfl (by omega)
  · rw [if_neg h, if_neg h]
end Go.Proofs.Ytljjgcfifhfhdaa.Cu
