/- Tempo maps: the package's checks and moments, and the reference's, as printed. -/
import Derived.Test.YtljjgcfifhfhdaaX26
import Derived.Test.YtljjgcfifhfhdaaX25
import Derived.Test.YtljjgcfifhfhdaaX21
import Derived.Test.YtljjgcfifhfhdaaX20
import Derived.Test.YtljjgcfifhfhdaaX19
import Derived.Test.YtljjgcfifhfhdaaX11
import Derived.Test.YtljjgcfifhfhdaaX10
import Derived.Test.YtljjgcfifhfhdaaTm
namespace Go.Proofs.Ytljjgcfifhfhdaa.TmImpl
open Go.RowKit Go.Proofs.YtljjgcfifhfhdaaW.PrintWords Go.Proofs.Ytljjgcfifhfhdaa.X Go.Proofs.Ytljjgcfifhfhdaa.Tm
set_option linter.unusedVariables false
set_option linter.unusedSimpArgs false

theorem w64 {x : Int} (h0 : -9223372036854775808 ≤ x) (h1 : x ≤ 9223372036854775807) : wrap64 x = x := by unfold wrap64; omega
theorem rdT {l : List St} {i : Nat} {x : St} {r : List St} (h : l.drop i = x :: r) : rd_T45 l (i : Int) = x ∧ i < l.length ∧ l.drop (i + 1) = r := by
  have hi : i < l.length := by
    apply Nat.lt_of_not_le
    intro hh
    rw [List.drop_of_length_le hh] at h
    cases h
  rw [List.drop_eq_getElem_cons hi] at h
  simp only [List.cons.injEq] at h
  refine ⟨?_, hi, h.2⟩
  unfold rd_T45
  simp only [Int.toNat_natCast]
  rw [List.getD_eq_getElem?_getD, List.getElem?_eq_getElem hi]
  exact h.1
theorem rng_yes {x : St} (s : List St) (h : Ok x) : rng (x :: s) = rng s := by
  simp only [rng]
  rw [decide_eq_true h, Bool.true_and]
theorem rng_no {x : St} (s : List St) (h : ¬ Ok x) : rng (x :: s) = false := by
  simp only [rng]
  rw [decide_eq_false h, Bool.false_and]
theorem within_f (a b c : Int) : tempo_within.f a b c = some (decide (b ≤ a ∧ a ≤ c)) := by
  unfold tempo_within.f
  split
  · rename_i h
    congr 1
    simp [h]
  · rename_i h
    congr 1
    simp [h]
theorem tCheck_l1 (l : List St) (hl : l.length ≤ 64) : ∀ (s : List St) (i k : Nat) (p : St), 1 ≤ i → l.drop i = s → rd_T45 l ((i - 1 : Nat) : Int) = p → s.length < k →
    tempo_Check.l1 k l l (l.length : Int) (i : Int) = some (if asc p.f0 s = true then 0 else 5) := by
  intro s
  induction s with
  | nil =>
    intro i k p h1 hd hp hk
    obtain ⟨k, rfl⟩ : ∃ m, k = m + 1 := ⟨k - 1, by omega⟩
    have hi : l.length ≤ i := List.drop_eq_nil_iff.1 hd
    rw [tempo_Check.l1, if_neg (by omega)]
    rfl
  | cons x s ih =>
    intro i k p h1 hd hp hk
    simp only [List.length_cons] at hk
    obtain ⟨k, rfl⟩ : ∃ m, k = m + 1 := ⟨k - 1, by omega⟩
    obtain ⟨hx, hi, hn⟩ := rdT hd
    rw [tempo_Check.l1, if_pos (by omega), if_pos (by omega), if_pos (by omega), if_neg (by omega), if_pos (by omega), w64 (by omega) (by omega), if_pos (by omega), if_pos (by omega), hx, show (i : Int) - 1 = ((i - 1 : Nat) : Int) by omega, hp]
    by_cases h : x.f0 ≤ p.f0
    · rw [if_pos h, show asc p.f0 (x :: s) = false by simp only [asc]; rw [decide_eq_false (by omega), Bool.false_and]]
      rfl
    · rw [if_neg h, w64 (by omega) (by omega), show (i : Int) + 1 = ((i + 1 : Nat) : Int) by omega, ih (i + 1) k x (by omega) hn (by rw [Nat.add_sub_cancel]; exact hx) (by omega), show asc p.f0 (x :: s) = asc x.f0 s by simp only [asc]; rw [decide_eq_true (by omega), Bool.true_and]]
theorem tCheck_ord (l : List St) (hl : l.length ≤ 64) (k : Nat) (hk : l.length + 1 < k) : tempo_Check.l1 k l l (l.length : Int) 0 = some (ord l) := by
  cases l with
  | nil =>
    obtain ⟨k, rfl⟩ : ∃ m, k = m + 1 := ⟨k - 1, by omega⟩
    rw [tempo_Check.l1, if_neg (by simp)]
    rfl
  | cons x l =>
    obtain ⟨k, rfl⟩ : ∃ m, k = m + 1 := ⟨k - 1, by omega⟩
    have hx : rd_T45 (x :: l) 0 = x := rfl
    simp only [List.length_cons] at hl hk
    rw [tempo_Check.l1, if_pos (by simp only [List.length_cons]; omega), if_pos (by omega), if_pos (by simp only [List.length_cons]; omega), if_pos rfl, hx]
    simp only [ord]
    by_cases h : x.f0 = 0
    · rw [if_pos h, if_pos h, if_neg (by omega), show wrap64 (0 + 1) = ((1 : Nat) : Int) by unfold wrap64; omega]
      exact tCheck_l1 (x :: l) (by simp; omega) l 1 k x (by omega) rfl hx (by omega)
    · rw [if_neg h, if_neg h]
theorem tCheck_l0 (l : List St) (hl : l.length ≤ 64) : ∀ (s : List St) (i k : Nat), l.drop i = s → s.length + l.length + 2 < k →
    tempo_Check.l0 k l l (l.length : Int) (i : Int) = some (if rng s = true then ord l else 1) := by
  intro s
  induction s with
  | nil =>
    intro i k hd hk
    obtain ⟨k, rfl⟩ : ∃ m, k = m + 1 := ⟨k - 1, by omega⟩
    have hi : l.length ≤ i := List.drop_eq_nil_iff.1 hd
    simp only [List.length_nil] at hk
    rw [tempo_Check.l0, if_neg (by omega), tCheck_ord l hl k (by omega)]
    rfl
  | cons x s ih =>
    intro i k hd hk
    simp only [List.length_cons] at hk
    obtain ⟨k, rfl⟩ : ∃ m, k = m + 1 := ⟨k - 1, by omega⟩
    obtain ⟨hx, hi, hn⟩ := rdT hd
    rw [tempo_Check.l0, if_pos (by omega), if_pos (by omega), if_pos (by omega), hx, within_f, Option.bind_some]
    by_cases h : 0 ≤ x.f0 ∧ x.f0 ≤ 8192
    · rw [decide_eq_true h, if_pos rfl, within_f, Option.bind_some]
      by_cases h' : 1 ≤ x.f1 ∧ x.f1 ≤ 4194304
      · rw [decide_eq_true h', if_pos rfl, w64 (by omega) (by omega), show (i : Int) + 1 = ((i + 1 : Nat) : Int) by omega, ih (i + 1) k hn (by omega), rng_yes s (by unfold Ok; omega)]
      · rw [decide_eq_false h', if_neg (by simp), rng_no s (by unfold Ok; omega)]
        rfl
    · rw [decide_eq_false h, if_neg (by simp), rng_no s (by unfold Ok; omega)]
      rfl
theorem tCheck_f (k : Nat) (l : List St) (hk : 200 ≤ k) : tempo_Check.f k l = some (chk l) := by
  unfold tempo_Check.f chk
  by_cases h0 : l.length = 0
  · rw [if_pos (by omega), if_pos h0]
  · rw [if_neg (by omega), if_neg h0]
    by_cases h1 : 64 < l.length
    · rw [if_pos (by omega), if_pos h1]
    · rw [if_neg (by omega), if_neg h1]
      exact tCheck_l0 l (by omega) l 0 k rfl (by omega)
theorem rCheck_l1 (l : List St) (hl : l.length ≤ 64) : ∀ (s : List St) (i k : Nat) (p : St), 1 ≤ i → l.drop i = s → rd_T45 l ((i - 1 : Nat) : Int) = p → s.length < k →
    dancestudioref14_Check.l1 k l (i : Int) = some (if asc p.f0 s = true then 0 else 5) := by
  intro s
  induction s with
  | nil =>
    intro i k p h1 hd hp hk
    obtain ⟨k, rfl⟩ : ∃ m, k = m + 1 := ⟨k - 1, by omega⟩
    have hi : l.length ≤ i := List.drop_eq_nil_iff.1 hd
    rw [dancestudioref14_Check.l1, if_neg (by omega)]
    rfl
  | cons x s ih =>
    intro i k p h1 hd hp hk
    simp only [List.length_cons] at hk
    obtain ⟨k, rfl⟩ : ∃ m, k = m + 1 := ⟨k - 1, by omega⟩
    obtain ⟨hx, hi, hn⟩ := rdT hd
    rw [dancestudioref14_Check.l1, if_pos (by omega), if_pos (by omega), w64 (by omega) (by omega), if_pos (by omega), if_pos (by omega), hx, show (i : Int) - 1 = ((i - 1 : Nat) : Int) by omega, hp]
    by_cases h : x.f0 ≤ p.f0
    · rw [if_pos h, show asc p.f0 (x :: s) = false by simp only [asc]; rw [decide_eq_false (by omega), Bool.false_and]]
      rfl
    · rw [if_neg h, w64 (by omega) (by omega), show (i : Int) + 1 = ((i + 1 : Nat) : Int) by omega, ih (i + 1) k x (by omega) hn (by rw [Nat.add_sub_cancel]; exact hx) (by omega), show asc p.f0 (x :: s) = asc x.f0 s by simp only [asc]; rw [decide_eq_true (by omega), Bool.true_and]]
theorem rCheck_l0 (l : List St) (hl : l.length ≤ 64) (hne : 0 < l.length) : ∀ (s : List St) (i k : Nat), l.drop i = s → s.length + l.length + 2 < k →
    dancestudioref14_Check.l0 k l (i : Int) = some (if rng s = true then ord l else 1) := by
  intro s
  induction s with
  | nil =>
    intro i k hd hk
    obtain ⟨k, rfl⟩ : ∃ m, k = m + 1 := ⟨k - 1, by omega⟩
    have hi : l.length ≤ i := List.drop_eq_nil_iff.1 hd
    simp only [List.length_nil] at hk
    rw [dancestudioref14_Check.l0, if_neg (by omega), if_pos (by omega)]
    cases l with
    | nil => simp at hne
    | cons x l =>
      have hx : rd_T45 (x :: l) 0 = x := rfl
      rw [hx]
      simp only [ord, rng]
      simp only [List.length_cons] at hl hk
      by_cases h : x.f0 = 0
      · rw [if_pos h, if_pos h]
        have := rCheck_l1 (x :: l) (by simp; omega) l 1 k x (by omega) rfl hx (by omega)
        exact this
      · rw [if_neg h, if_neg h]
        rfl
  | cons x s ih =>
    intro i k hd hk
    simp only [List.length_cons] at hk
    obtain ⟨k, rfl⟩ : ∃ m, k = m + 1 := ⟨k - 1, by omega⟩
    obtain ⟨hx, hi, hn⟩ := rdT hd
    rw [dancestudioref14_Check.l0, if_pos (by omega), if_pos (by omega), hx]
    by_cases h : 0 ≤ x.f0 ∧ x.f0 ≤ 8192 ∧ 1 ≤ x.f1 ∧ x.f1 ≤ 4194304
    · rw [if_neg (by omega), if_neg (by omega), if_neg (by omega), if_neg (by omega), w64 (by omega) (by omega), show (i : Int) + 1 = ((i + 1 : Nat) : Int) by omega, ih (i + 1) k hn (by omega), rng_yes s (by unfold Ok; omega)]
    · rw [rng_no s (by unfold Ok; omega), if_neg (c := false = true) (by simp)]
      by_cases h1 : x.f0 < 0
      · rw [if_pos h1]
      · rw [if_neg h1]
        by_cases h2 : x.f0 > 8192
        · rw [if_pos h2]
        · rw [if_neg h2]
          by_cases h3 : x.f1 < 1
          · rw [if_pos h3]
          · rw [if_neg h3, if_pos (by omega)]
theorem rCheck_f (k : Nat) (l : List St) (hk : 200 ≤ k) : dancestudioref14_Check.f k l = some (chk l) := by
  unfold dancestudioref14_Check.f chk
  by_cases h0 : l.length = 0
  · rw [if_pos (by omega), if_pos h0]
  · rw [if_neg (by omega), if_neg h0]
    by_cases h1 : 64 < l.length
    · rw [if_pos (by omega), if_pos h1]
    · rw [if_neg (by omega), if_neg h1]
      exact rCheck_l0 l (by omega) (by omega) l 0 k rfl (by omega)
/-! ### moments -/
theorem mx_eq (a b : Int) : mx a b = max a b := by unfold mx; omega
theorem mn_eq (a b : Int) : mn a b = min a b := by unfold mn; omega
theorem tMoment_l0 (l : List St) (hl : l.length ≤ 64) (hok : ∀ x ∈ l, Ok x) (t : Int) (h0 : 0 ≤ t) (h1 : t ≤ 8192) : ∀ (s : List St) (i k : Nat) (acc : Int), l.drop i = s → s.length < k → 0 ≤ acc → acc ≤ i * 34359738368 →
    tempo_moment.l0 k l t acc l (l.length : Int) (i : Int) = some (acc + mom t s) := by
  intro s
  induction s with
  | nil =>
    intro i k acc hd hk ha hb
    obtain ⟨k, rfl⟩ : ∃ m, k = m + 1 := ⟨k - 1, by omega⟩
    have hi : l.length ≤ i := List.drop_eq_nil_iff.1 hd
    rw [tempo_moment.l0, if_neg (by omega)]
    simp [mom]
  | cons x s ih =>
    intro i k acc hd hk ha hb
    simp only [List.length_cons] at hk
    obtain ⟨k, rfl⟩ : ∃ m, k = m + 1 := ⟨k - 1, by omega⟩
    obtain ⟨hx, hi, hn⟩ := rdT hd
    have hxk := hok x (List.mem_of_mem_drop (hd ▸ List.mem_cons_self ..))
    obtain ⟨q0, q1, q2, q3⟩ := hxk
    rw [tempo_moment.l0, if_pos (by omega), if_pos (by omega), if_pos (by omega), hx, w64 (x := (i : Int) + 1) (by omega) (by omega), show (i : Int) + 1 = ((i + 1 : Nat) : Int) by omega]
    cases s with
    | nil =>
      have hi2 : l.length ≤ i + 1 := List.drop_eq_nil_iff.1 hn
      rw [if_neg (by omega), mx_eq, w64 (x := t - x.f0) (by omega) (by omega)]
      have hp := prod_bd (a := max (t - x.f0) 0) (b := x.f1) (by omega) (by omega) (by omega) q3
      rw [w64 (x := max (t - x.f0) 0 * x.f1) (by omega) (by omega), w64 (by omega) (by omega)]
      rw [ih (i + 1) k _ hn (by simp; omega) (by omega) (by omega)]
      simp [mom]
    | cons y s =>
      obtain ⟨hy, hi2, _⟩ := rdT hn
      have hyk := hok y (List.mem_of_mem_drop (hn ▸ List.mem_cons_self ..))
      obtain ⟨u0, u1, u2, u3⟩ := hyk
      rw [if_pos (by omega), if_pos (by omega), hy, mx_eq, mn_eq, w64 (x := min t y.f0 - x.f0) (by omega) (by omega)]
      have hp := prod_bd (a := max (min t y.f0 - x.f0) 0) (b := x.f1) (by omega) (by omega) (by omega) q3
      rw [w64 (x := max (min t y.f0 - x.f0) 0 * x.f1) (by omega) (by omega), w64 (by omega) (by omega)]
      rw [ih (i + 1) k _ hn (by simp only [List.length_cons] at hk ⊢; omega) (by omega) (by omega)]
      have e : mom t (x :: y :: s) = max (min t y.f0 - x.f0) 0 * x.f1 + mom t (y :: s) := rfl
      rw [e, Int.add_assoc]
theorem tMoment_f (k : Nat) (l : List St) (hV : V l) (t : Int) (h0 : 0 ≤ t) (h1 : t ≤ 8192) (hk : 200 ≤ k) : tempo_moment.f k l t = some (mom t l) := by
  unfold tempo_moment.f
  have hl := hV.le
  have := tMoment_l0 l hl hV.ok t h0 h1 l 0 k 0 rfl (by omega) (by omega) (by omega)
  rw [Int.zero_add] at this
  exact this
theorem rMoment_l0 (l : List St) (hl : l.length ≤ 64) (hok : ∀ x ∈ l, Ok x) (t : Int) (h0 : 0 ≤ t) (h1 : t ≤ 8192) : ∀ (s : List St) (i k : Nat) (acc : Int), (∀ x s', s = x :: s' → asc x.f0 s' = true) → l.drop i = s → 2 * s.length + 1 < k → 0 ≤ acc → acc ≤ i * 34359738368 →
    dancestudioref14_moment.l0 k l t acc (i : Int) = some (acc + mom t s) := by
  intro s
  induction s with
  | nil =>
    intro i k acc hs hd hk ha hb
    obtain ⟨k, rfl⟩ : ∃ m, k = m + 2 := ⟨k - 2, by simp at hk; omega⟩
    have hi : l.length ≤ i := List.drop_eq_nil_iff.1 hd
    rw [dancestudioref14_moment.l0, if_neg (by omega), dancestudioref14_moment.j1, if_neg (by simp)]
    simp [mom]
  | cons x s ih =>
    intro i k acc hs hd hk ha hb
    simp only [List.length_cons] at hk
    obtain ⟨k, rfl⟩ : ∃ m, k = m + 2 := ⟨k - 2, by omega⟩
    obtain ⟨hx, hi, hn⟩ := rdT hd
    have has := hs x s rfl
    have hlt := asc_lt has
    have hxk := hok x (List.mem_of_mem_drop (hd ▸ List.mem_cons_self ..))
    obtain ⟨q0, q1, q2, q3⟩ := hxk
    rw [dancestudioref14_moment.l0, if_pos (by omega), if_pos (by omega), hx, dancestudioref14_moment.j1]
    by_cases hc : x.f0 < t
    · rw [decide_eq_true hc, if_pos rfl, hx, w64 (x := (i : Int) + 1) (by omega) (by omega), show (i : Int) + 1 = ((i + 1 : Nat) : Int) by omega]
      cases s with
      | nil =>
        have hi2 : l.length ≤ i + 1 := List.drop_eq_nil_iff.1 hn
        rw [if_neg (by omega), if_pos (by omega), if_pos (by omega), w64 (x := t - x.f0) (by omega) (by omega)]
        have hp := prod_bd (a := t - x.f0) (b := x.f1) (by omega) (by omega) (by omega) q3
        rw [w64 (x := (t - x.f0) * x.f1) (by omega) (by omega), w64 (by omega) (by omega)]
        rw [ih (i + 1) k _ (fun _ _ h => by cases h) hn (by simp only [List.length_nil] at hk ⊢; omega) (by omega) (by omega)]
        simp only [mom]
        rw [show max (t - x.f0) 0 = t - x.f0 by omega, Int.add_zero]
      | cons y s =>
        obtain ⟨hy, hi2, _⟩ := rdT hn
        have hyk := hok y (List.mem_of_mem_drop (hn ▸ List.mem_cons_self ..))
        obtain ⟨u0, u1, u2, u3⟩ := hyk
        have hxy := hlt y (by simp)
        have has2 : asc y.f0 s = true := by
          simp only [asc, Bool.and_eq_true] at has
          exact has.2
        rw [if_pos (by omega), if_pos (by omega), hy]
        have e : mom t (x :: y :: s) = max (min t y.f0 - x.f0) 0 * x.f1 + mom t (y :: s) := rfl
        by_cases hy2 : y.f0 < t
        · rw [if_pos hy2, if_pos (by omega), if_pos (by omega), w64 (x := y.f0 - x.f0) (by omega) (by omega)]
          have hp := prod_bd (a := y.f0 - x.f0) (b := x.f1) (by omega) (by omega) (by omega) q3
          rw [w64 (x := (y.f0 - x.f0) * x.f1) (by omega) (by omega), w64 (by omega) (by omega)]
          rw [ih (i + 1) k _ (fun _ _ h => by cases h; exact has2) hn (by simp only [List.length_cons] at hk ⊢; omega) (by omega) (by omega)]
          rw [e, show max (min t y.f0 - x.f0) 0 = y.f0 - x.f0 by omega, Int.add_assoc]
        · rw [if_neg hy2, if_pos (by omega), if_pos (by omega), w64 (x := t - x.f0) (by omega) (by omega)]
          have hp := prod_bd (a := t - x.f0) (b := x.f1) (by omega) (by omega) (by omega) q3
          rw [w64 (x := (t - x.f0) * x.f1) (by omega) (by omega), w64 (by omega) (by omega)]
          rw [ih (i + 1) k _ (fun _ _ h => by cases h; exact has2) hn (by simp only [List.length_cons] at hk ⊢; omega) (by omega) (by omega)]
          rw [e, show max (min t y.f0 - x.f0) 0 = t - x.f0 by omega, Int.add_assoc]
    · rw [decide_eq_false hc, if_neg (by simp)]
      rw [mom_zero (x :: s) (fun z hz => (List.mem_cons.1 hz).elim (fun e => by rw [e]; omega) (fun hz => by have := hlt z hz; omega)), Int.add_zero]
theorem rMoment_f (k : Nat) (l : List St) (hV : V l) (t : Int) (h0 : 0 ≤ t) (h1 : t ≤ 8192) (hk : 200 ≤ k) : dancestudioref14_moment.f k l t = some (mom t l) := by
  unfold dancestudioref14_moment.f
  have hl := hV.le
  obtain ⟨x, l', rfl, hx, ha⟩ := hV.ne
  have := rMoment_l0 (x :: l') hl hV.ok t h0 h1 (x :: l') 0 k 0 (fun _ _ h => by cases h; exact ha) rfl (by omega) (by omega) (by omega)
  rw [Int.zero_add] at this
  exact this
/-- What When returns. -/
def whn (l : List St) (t : Int) : Int × Int := if chk l = 0 then (if 0 ≤ t ∧ t ≤ 8192 then (mom t l, 0) else (0, 1)) else (0, chk l)
theorem tWhen_f (k : Nat) (l : List St) (t : Int) (hk : 200 ≤ k) : tempo_When.f k l t = some (whn l t) := by
  unfold tempo_When.f whn
  rw [tCheck_f k l hk, Option.bind_some]
  by_cases h : chk l = 0
  · rw [if_pos h, if_pos h, within_f, Option.bind_some]
    by_cases h2 : 0 ≤ t ∧ t ≤ 8192
    · rw [decide_eq_true h2, if_pos rfl, if_pos h2, tMoment_f k l (chk_V h) t h2.1 h2.2 hk, Option.bind_some]
    · rw [decide_eq_false h2, if_neg (by simp), if_neg h2]
  · rw [if_neg h, if_neg h]
theorem rWhen_f (k : Nat) (l : List St) (t : Int) (hk : 200 ≤ k) : dancestudioref14_When.f k l t = some (whn l t) := by
  unfold dancestudioref14_When.f whn
  rw [rCheck_f k l hk, Option.bind_some]
  by_cases h : chk l = 0
  · rw [if_pos h, if_pos h]
    by_cases h1 : t < 0
    · rw [if_pos h1, if_neg (by omega)]
    · rw [if_neg h1]
      by_cases h2 : t > 8192
      · rw [if_pos h2, if_neg (by omega)]
      · rw [if_neg h2, if_pos (by omega), rMoment_f k l (chk_V h) t (by omega) (by omega) hk, Option.bind_some]
  · rw [if_neg h, if_neg h]
end Go.Proofs.Ytljjgcfifhfhdaa.TmImpl
