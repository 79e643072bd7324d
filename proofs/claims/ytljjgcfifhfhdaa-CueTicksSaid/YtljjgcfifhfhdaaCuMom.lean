/- Fitted tempos meet every cue. -/
import Derived.Test.YtljjgcfifhfhdaaCuAwake
namespace Go.Proofs.Ytljjgcfifhfhdaa.Cu
open Go.RowKit Go.Proofs.YtljjgcfifhfhdaaW.PrintWords Go.Proofs.Ytljjgcfifhfhdaa.X Go.Proofs.Ytljjgcfifhfhdaa.Tm Go.Proofs.Ytljjgcfifhfhdaa.TmImpl
set_option linter.unusedVariables false
set_option linter.unusedSimpArgs false
/-! ### the fitted tempos' moments -/
theorem fairs_le : ∀ (l : List Sc) (a : Sc), fairs a l → ∀ c ∈ l, a.f0 < c.f0
  | [], _, _, c, hc => by simp at hc
  | x :: l, a, h, c, hc => by
    obtain ⟨⟨⟨_, h1, _⟩, _⟩, h2⟩ := h
    simp only at h1
    rcases List.mem_cons.1 hc with rfl | hc
    · exact h1
    · have := fairs_le l x h2 c hc
      omega
/-- All tempos of the pairs from a on start at a or later. -/
theorem segs_from : ∀ (l : List Sc) (a : Sc), fairs a l → ∀ x ∈ cue_Fit.segs (prs a l), a.f0 ≤ x.f0
  | [], _, _, x, hx => by simp [prs, cue_Fit.segs] at hx
  | b :: l, a, h, x, hx => by
    obtain ⟨⟨⟨h0, h1, _⟩, h3, h4, _⟩, h2⟩ := h
    simp only at h0 h1 h3 h4
    rw [segs_cons] at hx
    have hR0 : 0 ≤ cue_Fit.rm (a, b) := Int.emod_nonneg _ (by simp only; omega)
    rcases List.mem_append.1 hx with hx | hx
    · unfold cue_Fit.seg at hx
      split at hx
      · rcases List.mem_cons.1 hx with rfl | hx
        · exact Int.le_refl _
        · rw [List.mem_singleton] at hx
          subst hx
          show a.f0 ≤ a.f0 + cue_Fit.rm (a, b)
          omega
      · rw [List.mem_singleton] at hx
        subst hx
        show a.f0 ≤ a.f0 + cue_Fit.rm (a, b)
        omega
    · have := segs_from l b h2 x hx
      omega
/-- A pair's share: so long after the first of it. -/
def part (p : Sc × Sc) (d : Int) : Int := d * cue_Fit.q p + min d (cue_Fit.rm p)
theorem part_full (p : Sc × Sc) (h : cue_Fit.fair p) : part p (p.2.f0 - p.1.f0) = p.2.f1 - p.1.f1 := by
  obtain ⟨⟨h0, h1, _⟩, h3, h4, _⟩ := h
  have hR0 : 0 ≤ cue_Fit.rm p := Int.emod_nonneg _ (by omega)
  have hR1 : cue_Fit.rm p < p.2.f0 - p.1.f0 := Int.emod_lt_of_pos _ (by omega)
  unfold part
  rw [show min (p.2.f0 - p.1.f0) (cue_Fit.rm p) = cue_Fit.rm p by omega]
  exact Int.mul_ediv_add_emod _ _
theorem mom_cons2 (t : Int) (x y : St) (l : List St) : mom t (x :: y :: l) = max (min t y.f0 - x.f0) 0 * x.f1 + mom t (y :: l) := rfl
/-- The moment before the first pair's end. -/
theorem mom_in (a b : Sc) (l : List Sc) (h : fairs a (b :: l)) (t : Int) (h0 : a.f0 ≤ t) (h1 : t ≤ b.f0) : mom t (cue_Fit.segs (prs a (b :: l))) = part (a, b) (t - a.f0) := by
  obtain ⟨hfair, hfs⟩ := h
  have hz : mom t (cue_Fit.segs (prs b l)) = 0 := mom_zero _ (fun x hx => by have := segs_from l b hfs x hx; omega)
  have hfr := segs_from l b hfs
  obtain ⟨⟨g0, g1, _⟩, g3, g4, _⟩ := hfair
  simp only at g0 g1 g3 g4
  have hR0 : 0 ≤ cue_Fit.rm (a, b) := Int.emod_nonneg _ (by simp only; omega)
  have hR1 : cue_Fit.rm (a, b) < b.f0 - a.f0 := Int.emod_lt_of_pos _ (by simp only; omega)
  rw [segs_cons]
  unfold cue_Fit.seg part
  generalize cue_Fit.rm (a, b) = R at *
  generalize cue_Fit.q (a, b) = Q at *
  generalize cue_Fit.segs (prs b l) = S at *
  have last : ∀ (y : St), y.f0 ≤ b.f0 → mom t (y :: S) = max (t - y.f0) 0 * y.f1 := by
    intro y hy
    cases S with
    | nil => rfl
    | cons z S =>
      have := hfr z (by simp)
      rw [mom_cons2, hz, show min t z.f0 = t by omega, Int.add_zero]
  by_cases hr : 0 < R
  · rw [if_pos hr, List.cons_append, List.cons_append, List.nil_append, mom_cons2, last ⟨a.f0 + R, Q⟩ (by show a.f0 + R ≤ b.f0; omega)]
    show max (min t (a.f0 + R) - a.f0) 0 * (Q + 1) + max (t - (a.f0 + R)) 0 * Q = (t - a.f0) * Q + min (t - a.f0) R
    by_cases hc : t - a.f0 ≤ R
    · rw [show max (min t (a.f0 + R) - a.f0) 0 = t - a.f0 by omega, show max (t - (a.f0 + R)) 0 = 0 by omega, show min (t - a.f0) R = t - a.f0 by omega, Int.mul_add, Int.mul_one, Int.zero_mul, Int.add_zero]
    · rw [show max (min t (a.f0 + R) - a.f0) 0 = R by omega, show max (t - (a.f0 + R)) 0 = (t - a.f0) - R by omega, show min (t - a.f0) R = R by omega, Int.mul_add, Int.mul_one, Int.sub_mul]
      omega
  · obtain rfl : R = 0 := by omega
    rw [if_neg hr, List.cons_append, List.nil_append, last ⟨a.f0 + 0, Q⟩ (by show a.f0 + 0 ≤ b.f0; omega)]
    show max (t - (a.f0 + 0)) 0 * Q = (t - a.f0) * Q + min (t - a.f0) 0
    rw [show max (t - (a.f0 + 0)) 0 = t - a.f0 by omega, show min (t - a.f0) 0 = 0 by omega, Int.add_zero]
/-- The moment behind the first pair's end. -/
theorem mom_behind (a b c : Sc) (l : List Sc) (h : fairs a (b :: c :: l)) (t : Int) (h1 : b.f0 ≤ t) : mom t (cue_Fit.segs (prs a (b :: c :: l))) = (b.f1 - a.f1) + mom t (cue_Fit.segs (prs b (c :: l))) := by
  have hful := part_full (a, b) h.1
  obtain ⟨⟨⟨g0, g1, _⟩, g3, g4, _⟩, hfs⟩ := h
  simp only at g0 g1 g3 g4 hful
  have hR0 : 0 ≤ cue_Fit.rm (a, b) := Int.emod_nonneg _ (by simp only; omega)
  have hR1 : cue_Fit.rm (a, b) < b.f0 - a.f0 := Int.emod_lt_of_pos _ (by simp only; omega)
  rw [segs_cons a b]
  -- the next pair's tempos start at b
  obtain ⟨z, S, hS, hz⟩ : ∃ z S, cue_Fit.segs (prs b (c :: l)) = z :: S ∧ z.f0 = b.f0 := by
    rw [segs_cons]
    unfold cue_Fit.seg
    by_cases hr : 0 < cue_Fit.rm (b, c)
    · rw [if_pos hr]; exact ⟨_, _, rfl, rfl⟩
    · have e0 : cue_Fit.rm (b, c) = 0 := by
        have : 0 ≤ cue_Fit.rm (b, c) := Int.emod_nonneg _ (by have := hfs.1.1.2.1; simp only at this ⊢; omega)
        omega
      rw [if_neg hr]
      exact ⟨_, _, rfl, by show b.f0 + cue_Fit.rm (b, c) = b.f0; omega⟩
  rw [hS]
  unfold part at hful
  unfold cue_Fit.seg
  generalize cue_Fit.rm (a, b) = R at *
  generalize cue_Fit.q (a, b) = Q at *
  by_cases hr : 0 < R
  · rw [if_pos hr, List.cons_append, List.cons_append, List.nil_append, mom_cons2, mom_cons2]
    show max (min t (a.f0 + R) - a.f0) 0 * (Q + 1) + (max (min t z.f0 - (a.f0 + R)) 0 * Q + mom t (z :: S)) = _
    rw [show max (min t (a.f0 + R) - a.f0) 0 = R by omega, show max (min t z.f0 - (a.f0 + R)) 0 = (b.f0 - a.f0) - R by omega, Int.mul_add, Int.mul_one, Int.sub_mul, ← hful, show min (b.f0 - a.f0) R = R by omega]
    omega
  · obtain rfl : R = 0 := by omega
    rw [if_neg hr, List.cons_append, List.nil_append, mom_cons2]
    show max (min t z.f0 - (a.f0 + 0)) 0 * Q + mom t (z :: S) = _
    rw [show max (min t z.f0 - (a.f0 + 0)) 0 = b.f0 - a.f0 by omega, ← hful, show min (b.f0 - a.f0) 0 = 0 by omega, Int.add_zero]
/-- Every cue falls on its moment. -/
theorem mom_at : ∀ (l : List Sc) (a : Sc), l ≠ [] → fairs a l → ∀ c ∈ a :: l, mom c.f0 (cue_Fit.segs (prs a l)) = c.f1 - a.f1
  | [], _, hne, _, _, _ => absurd rfl hne
  | [b], a, _, h, c, hc => by
    have hf := h.1
    obtain ⟨⟨h0, h1, _⟩, _⟩ := h.1
    simp only at h0 h1
    rcases List.mem_cons.1 hc with rfl | hc
    · rw [mom_in c b [] h c.f0 (Int.le_refl _) (by omega), Int.sub_self, Int.sub_self]
      have : 0 ≤ cue_Fit.rm (c, b) := Int.emod_nonneg _ (by simp only; omega)
      unfold part
      rw [Int.zero_mul]
      omega
    · rw [List.mem_singleton] at hc
      subst hc
      rw [mom_in a c [] h c.f0 (by omega) (Int.le_refl _)]
      exact part_full (a, c) hf
  | b :: d :: l, a, _, h, c, hc => by
    have hf := h.1
    have ih := mom_at (d :: l) b (by simp) h.2
    obtain ⟨⟨h0, h1, _⟩, _⟩ := h.1
    simp only at h0 h1
    rcases List.mem_cons.1 hc with rfl | hc
    · rw [mom_in c b _ h c.f0 (Int.le_refl _) (by omega), Int.sub_self, Int.sub_self]
      have : 0 ≤ cue_Fit.rm (c, b) := Int.emod_nonneg _ (by simp only; omega)
      unfold part
      rw [Int.zero_mul]
      omega
    · have hle : b.f0 ≤ c.f0 := by
        rcases List.mem_cons.1 hc with rfl | hc
        · exact Int.le_refl _
        · have := fairs_le _ _ h.2 c hc
          omega
      rw [mom_behind a b d l h c.f0 hle, ih c hc]
      omega
/-! ### the fitted tempos are a tempo map -/
theorem segs_ok : ∀ (l : List Sc) (a : Sc), fairs a l → cue_Fit.allo (prs a l) = true → ∀ x ∈ cue_Fit.segs (prs a l), Ok x
  | [], _, _, _, x, hx => by simp [prs, cue_Fit.segs] at hx
  | b :: l, a, h, ha, x, hx => by
    obtain ⟨⟨⟨h0, h1, h5⟩, h3, h4, _⟩, h2⟩ := h
    simp only at h0 h1 h3 h4 h5
    rw [allo_cons, Bool.and_eq_true] at ha
    have ho := of_decide_eq_true (show decide _ = true from ha.1)
    rw [segs_cons] at hx
    have hR0 : 0 ≤ cue_Fit.rm (a, b) := Int.emod_nonneg _ (by simp only; omega)
    have hR1 : cue_Fit.rm (a, b) < b.f0 - a.f0 := Int.emod_lt_of_pos _ (by simp only; omega)
    rcases List.mem_append.1 hx with hx | hx
    · unfold cue_Fit.seg at hx
      by_cases hr : 0 < cue_Fit.rm (a, b)
      · rw [if_pos hr] at hx ho
        rcases List.mem_cons.1 hx with rfl | hx
        · exact ⟨h0, by show a.f0 ≤ 8192; omega, by show 1 ≤ cue_Fit.q (a, b) + 1; omega, ho.2⟩
        · rw [List.mem_singleton] at hx
          subst hx
          exact ⟨by show 0 ≤ a.f0 + cue_Fit.rm (a, b); omega, by show a.f0 + cue_Fit.rm (a, b) ≤ 8192; omega, ho.1, by show cue_Fit.q (a, b) ≤ 4194304; omega⟩
      · rw [if_neg hr] at hx ho
        rw [List.mem_singleton] at hx
        subst hx
        exact ⟨by show 0 ≤ a.f0 + cue_Fit.rm (a, b); omega, by show a.f0 + cue_Fit.rm (a, b) ≤ 8192; omega, ho.1, ho.2⟩
    · exact segs_ok l b h2 ha.2 x hx
theorem segs_asc : ∀ (l : List Sc) (a : Sc) (p : Int), fairs a l → p < a.f0 → asc p (cue_Fit.segs (prs a l)) = true
  | [], _, _, _, _ => rfl
  | b :: l, a, p, h, hp => by
    obtain ⟨⟨⟨h0, h1, h5⟩, h3, h4, _⟩, h2⟩ := h
    simp only at h0 h1 h3 h4 h5
    have hR0 : 0 ≤ cue_Fit.rm (a, b) := Int.emod_nonneg _ (by simp only; omega)
    have hR1 : cue_Fit.rm (a, b) < b.f0 - a.f0 := Int.emod_lt_of_pos _ (by simp only; omega)
    rw [segs_cons]
    unfold cue_Fit.seg
    have ih := segs_asc l b (a.f0 + cue_Fit.rm (a, b)) h2 (by omega)
    by_cases hr : 0 < cue_Fit.rm (a, b)
    · rw [if_pos hr, List.cons_append, List.cons_append, List.nil_append, asc, asc, ih]
      show (decide (p < a.f0) && (decide (a.f0 < a.f0 + cue_Fit.rm (a, b)) && true)) = true
      rw [decide_eq_true hp, decide_eq_true (by omega)]
      rfl
    · rw [if_neg hr, List.cons_append, List.nil_append, asc, ih]
      show (decide (p < a.f0 + cue_Fit.rm (a, b)) && true) = true
      rw [decide_eq_true (by omega)]
      rfl
theorem segs_V (a b : Sc) (l : List Sc) (h0 : a.f0 = 0) (hf : fairs a (b :: l)) (ha : cue_Fit.allo (prs a (b :: l)) = true) (hl : (cue_Fit.segs (prs a (b :: l))).length ≤ 64) : V (cue_Fit.segs (prs a (b :: l))) := by
  have hasc := segs_asc (b :: l) a (-1) hf (by omega)
  refine ⟨?_, hl, segs_ok _ _ hf ha⟩
  obtain ⟨z, S, hS, hz⟩ : ∃ z S, cue_Fit.segs (prs a (b :: l)) = z :: S ∧ z.f0 = a.f0 := by
    rw [segs_cons]
    unfold cue_Fit.seg
    by_cases hr : 0 < cue_Fit.rm (a, b)
    · rw [if_pos hr]; exact ⟨_, _, rfl, rfl⟩
    · have e0 : cue_Fit.rm (a, b) = 0 := by
        have : 0 ≤ cue_Fit.rm (a, b) := Int.emod_nonneg _ (by have := hf.1.1.2.1; simp only at this ⊢; omega)
        omega
      rw [if_neg hr]
      exact ⟨_, _, rfl, by show a.f0 + cue_Fit.rm (a, b) = a.f0; omega⟩
  refine ⟨z, S, hS, by omega, ?_⟩
  rw [hS, asc, Bool.and_eq_true] at hasc
  exact hasc.2
/-- What Fit's 0 says. -/
theorem res_ok {l : List Sc} (h : (cue_Fit.res l).2 = 0) : ∃ a b s, l = a :: b :: s ∧ a.f0 = 0 ∧ l.length ≤ 64 ∧ cue_Check.chk l = 0 ∧ fairs a (b :: s) ∧ (cue_Fit.res l).1 = cue_Fit.segs (prs a (b :: s)) ∧ V (cue_Fit.segs (prs a (b :: s))) := by
  by_cases hc : cue_Check.chk l = 0
  · obtain ⟨a, b, s, rfl, h0, hl, hf⟩ := chk_ok hc
    rw [res_eq hc] at h
    have e := res_eq hc
    unfold fin at h e
    by_cases h1 : cue_Fit.allo (prs a (b :: s)) = true
    · rw [if_pos h1] at h e
      by_cases h2 : 64 < (cue_Fit.segs (prs a (b :: s))).length
      · rw [if_pos h2] at h; cases h
      · rw [if_neg h2] at e
        exact ⟨a, b, s, rfl, h0, hl, hc, hf, by rw [e], segs_V a b s h0 hf h1 (by omega)⟩
    · rw [if_neg h1] at h; cases h
  · unfold cue_Fit.res at h
    rw [if_neg hc] at h
    exact absurd h hc
theorem res_bad {l : List Sc} (h : ¬ (cue_Fit.res l).2 = 0) : (cue_Fit.res l).1 = [] := by
  unfold cue_Fit.res at h ⊢
  split
  · split
    · split
      · rfl
      · rename_i h1 h2 h3
        rw [if_pos h1, if_pos h2, if_neg h3] at h
        exact absurd rfl h
    · rfl
  · rfl
end Go.Proofs.Ytljjgcfifhfhdaa.Cu
