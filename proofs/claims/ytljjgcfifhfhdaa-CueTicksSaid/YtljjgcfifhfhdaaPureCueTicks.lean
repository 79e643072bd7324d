/- The statement CueTicks over numbers and lists. -/
import Derived.Test.YtljjgcfifhfhdaaX8
import Derived.Test.YtljjgcfifhfhdaaX28
import Derived.Test.YtljjgcfifhfhdaaPureCueExact
namespace Go.Proofs.Ytljjgcfifhfhdaa.Cu
open Go.RowKit Go.Proofs.YtljjgcfifhfhdaaW.PrintWords Go.Proofs.Ytljjgcfifhfhdaa.X Go.Proofs.Ytljjgcfifhfhdaa.Tm Go.Proofs.Ytljjgcfifhfhdaa.TmImpl
set_option linter.unusedVariables false
set_option linter.unusedSimpArgs false
/-- Within each pair the moments are the pair's share. -/
theorem mom_seg : ∀ (u l : List Sc) (a : Sc), fairs a l → ∀ (p x : Sc) (v : List Sc), a :: l = u ++ p :: x :: v →
    cue_Fit.fair (p, x) ∧ ∀ t, p.f0 ≤ t → t ≤ x.f0 → mom t (cue_Fit.segs (prs a l)) = (p.f1 - a.f1) + part (p, x) (t - p.f0)
  | [], l, a, hf, p, x, v, he => by
    rw [List.nil_append] at he
    injection he with e1 e2
    subst e1 e2
    exact ⟨hf.1, fun t h0 h1 => by rw [mom_in a x v hf t h0 h1]; omega⟩
  | c :: u, l, a, hf, p, x, v, he => by
    rw [List.cons_append] at he
    injection he with e1 e2
    subst e1
    match l, hf, e2 with
    | [], _, e2 => exact absurd (congrArg List.length e2) (by simp)
    | [b], _, e2 => exact absurd (congrArg List.length e2) (by simp; omega)
    | b :: d :: l, hf, e2 =>
      obtain ⟨h1, h2⟩ := mom_seg u (d :: l) b hf.2 p x v e2
      refine ⟨h1, fun t h3 h4 => ?_⟩
      have hmem : p ∈ b :: d :: l := by rw [e2]; simp
      have hle : b.f0 ≤ p.f0 := by
        rcases List.mem_cons.1 hmem with rfl | hm
        · exact Int.le_refl _
        · have := fairs_le _ _ hf.2 p hm
          omega
      rw [mom_behind a b d l hf t (by omega), h2 t h3 h4]
      omega
theorem wfu16 {x : Int} (h : (Lit.int .u16 x).wf = true) : 0 ≤ x ∧ x ≤ 65535 := by
  simp only [Lit.wf, IntKind.min, IntKind.max, IntKind.signed, IntKind.bits, Bool.and_eq_true, decide_eq_true_eq] at h
  simp at h
  omega
theorem tk0 (l : List Sc) (a : Sc) (l' : List Sc) (hal : l = a :: l') (at' : Int) (g0 : 0 ≤ at') (g1 : at' ≤ 65535) (t : List St) (ht : t = cue_Fit.segs (prs a l')) (hf : fairs a l') (hV : V t) (hl : l.length ≤ 64) : ∀ (s u : List Sc) (p : Sc) (k : Nat), l = u ++ p :: s → 2 * s.length + 1500 ≤ k →
    dancestudiolaw15_CueTicks.l0 k l at' t ((u.length + 1 : Nat) : Int) = some true := by
  intro s
  induction s with
  | nil =>
    intro u p k he hk
    obtain ⟨k, rfl⟩ : ∃ m, k = m + 1 := ⟨k - 1, by omega⟩
    have hi : l.length = u.length + 1 := by rw [he]; simp
    rw [dancestudiolaw15_CueTicks.l0, if_neg (by omega), awake_f k (by omega), Option.bind_some]
  | cons x s ih =>
    intro u p k he hk
    simp only [List.length_cons] at hk
    obtain ⟨k, rfl⟩ : ∃ m, k = m + 2 := ⟨k - 2, by omega⟩
    obtain ⟨hp, hi0, _⟩ := rdC (l := l) (i := u.length) (x := p) (r := x :: s) (by rw [he]; simp)
    obtain ⟨hx, hi, hn⟩ := rdC (l := l) (i := u.length + 1) (x := x) (r := s) (by rw [he, show u ++ p :: x :: s = (u ++ [p]) ++ x :: s by simp, show u.length + 1 = (u ++ [p]).length by simp]; simp)
    obtain ⟨⟨⟨f0, f1, f2⟩, f3, f4, f5⟩, hm⟩ := mom_seg u l' a hf p x s (by rw [← hal]; exact he)
    simp only at f0 f1 f2 f3 f4 f5
    rw [← ht] at hm
    have hnx := ih (u ++ [p]) x k (by rw [he]; simp) (by omega)
    rw [List.length_append, List.length_singleton] at hnx
    have hw1 : wrap64 (((u.length + 1 : Nat) : Int) - 1) = ((u.length : Nat) : Int) := by rw [w64 (by omega) (by omega)]; omega
    have hw2 : wrap64 (((u.length + 1 : Nat) : Int) + 1) = ((u.length + 1 + 1 : Nat) : Int) := by rw [w64 (by omega) (by omega)]; omega
    rw [dancestudiolaw15_CueTicks.l0, if_pos (by clear hw1 hw2; omega), if_pos (by clear hw1 hw2; omega), hw1, if_pos (by clear hw1 hw2; omega), if_pos (by clear hw1 hw2; omega), hx, hp, w64 (x := x.f0 - p.f0) (by clear hw1 hw2; omega) (by clear hw1 hw2; omega), w64 (x := x.f1 - p.f1) (by clear hw1 hw2; omega) (by clear hw1 hw2; omega),
      if_neg (by clear hw1 hw2; omega), decide_eq_false (by clear hw1 hw2; omega)]
    rw [dancestudiolaw15_CueTicks.j1, if_neg (by simp), hw1, hw2]
    clear hw1 hw2
    rw [if_pos (by omega), if_pos (by omega), if_neg (by omega), hp]
    have hw3 : wrap64 at' = at' := w64 (by omega) (by omega)
    rw [hw3]
    clear hw3
    rw [Int.tmod_eq_emod_of_nonneg g0, Int.tmod_eq_emod_of_nonneg (show 0 ≤ x.f1 - p.f1 by omega), Int.tdiv_eq_ediv_of_nonneg (show 0 ≤ x.f1 - p.f1 by omega)]
    have hd0 : 0 ≤ at' % (x.f0 - p.f0) := Int.emod_nonneg _ (by omega)
    have hd1 : at' % (x.f0 - p.f0) < x.f0 - p.f0 := Int.emod_lt_of_pos _ (by omega)
    generalize at' % (x.f0 - p.f0) = d at hd0 hd1 ⊢
    have hqr : (x.f0 - p.f0) * cue_Fit.q (p, x) + cue_Fit.rm (p, x) = x.f1 - p.f1 := Int.mul_ediv_add_emod _ _
    have hq : (x.f1 - p.f1) / (x.f0 - p.f0) = cue_Fit.q (p, x) := rfl
    have hr : (x.f1 - p.f1) % (x.f0 - p.f0) = cue_Fit.rm (p, x) := rfl
    have hQ0 : 0 ≤ cue_Fit.q (p, x) := Int.ediv_nonneg (by simp only; omega) (by simp only; omega)
    have hR0 : 0 ≤ cue_Fit.rm (p, x) := Int.emod_nonneg _ (by simp only; omega)
    have hR1 : cue_Fit.rm (p, x) < x.f0 - p.f0 := Int.emod_lt_of_pos _ (by simp only; omega)
    have mA := hm p.f0 (Int.le_refl _) (by omega)
    have mB := hm (p.f0 + d) (by omega) (by omega)
    have mC := hm (p.f0 + d + 1) (by omega) (by omega)
    unfold part at mA mB mC
    rw [hq, hr]
    generalize cue_Fit.q (p, x) = Q at *
    generalize cue_Fit.rm (p, x) = R at *
    rw [show p.f0 - p.f0 = 0 by omega, Int.zero_mul, show min 0 R = 0 by omega] at mA
    rw [show p.f0 + d - p.f0 = d by omega] at mB
    rw [show p.f0 + d + 1 - p.f0 = d + 1 by omega, Int.add_mul, Int.one_mul] at mC
    have hz0 : 0 ≤ d * Q := Int.mul_nonneg hd0 hQ0
    have hz1 : d * Q + Q ≤ (x.f0 - p.f0) * Q := by
      have := Int.mul_le_mul_of_nonneg_right (show d + 1 ≤ x.f0 - p.f0 by omega) hQ0
      rwa [Int.add_mul, Int.one_mul] at this
    have hw4 : wrap64 (p.f0 + d) = p.f0 + d := w64 (by omega) (by omega)
    have hw5 : wrap64 (p.f0 + d + 1) = p.f0 + d + 1 := w64 (by omega) (by omega)
    rw [hw4, hw5]
    clear hw4 hw5
    have hw6 : wrap64 (p.f0 + d - p.f0) = d := by rw [w64 (by omega) (by omega)]; omega
    rw [hw6]
    clear hw6
    have hw7 : wrap64 Q = Q := w64 (by omega) (by omega)
    rw [hw7]
    clear hw7
    rw [tWhen_f k t p.f0 (by omega), tWhen_f k t (p.f0 + d) (by omega), tWhen_f k t (p.f0 + d + 1) (by omega), whn_in hV p.f0 (by omega) (by omega), whn_in hV (p.f0 + d) (by omega) (by omega), whn_in hV (p.f0 + d + 1) (by omega) (by omega), Option.bind_some, Option.bind_some, Option.bind_some, if_pos rfl, if_pos rfl, if_pos rfl, mA, mB, mC]
    have hup : Q + (min (d + 1) R - min d R) ≤ (x.f1 - p.f1 + (x.f0 - p.f0) - 1) / (x.f0 - p.f0) := by
      refine Int.le_ediv_of_mul_le (by omega) ?_
      have e : Q * (x.f0 - p.f0) = (x.f0 - p.f0) * Q := Int.mul_comm _ _
      by_cases h : d < R
      · rw [show min (d + 1) R - min d R = 1 by omega, Int.add_mul, Int.one_mul, e]
        omega
      · rw [show min (d + 1) R - min d R = 0 by omega, Int.add_zero, e]
        omega
    have hup2 : 0 ≤ (x.f1 - p.f1 + (x.f0 - p.f0) - 1) / (x.f0 - p.f0) := Int.ediv_nonneg (by omega) (by omega)
    have hup3 : (x.f1 - p.f1 + (x.f0 - p.f0) - 1) / (x.f0 - p.f0) ≤ x.f1 - p.f1 + (x.f0 - p.f0) - 1 := Int.ediv_le_self _ (by omega)
    have hw8 : wrap64 (wrap64 (x.f1 - p.f1 + (x.f0 - p.f0)) - 1) = x.f1 - p.f1 + (x.f0 - p.f0) - 1 := by rw [w64 (x := x.f1 - p.f1 + (x.f0 - p.f0)) (by omega) (by omega), w64 (by omega) (by omega)]
    rw [hw8]
    clear hw8
    rw [Int.tdiv_eq_ediv_of_nonneg (show 0 ≤ x.f1 - p.f1 + (x.f0 - p.f0) - 1 by omega)]
    generalize (x.f1 - p.f1 + (x.f0 - p.f0) - 1) / (x.f0 - p.f0) = U at *
    generalize (x.f0 - p.f0) * Q = NQ at *
    generalize d * Q = Z at *
    obtain ⟨m0, hm0⟩ : ∃ m, m = min d R := ⟨_, rfl⟩
    obtain ⟨m1, hm1⟩ : ∃ m, m = min (d + 1) R := ⟨_, rfl⟩
    rw [← hm0, ← hm1] at hup
    have hm00 : 0 ≤ m0 ∧ m0 ≤ m1 ∧ m1 ≤ R := by omega
    rw [mn_eq, ← hm0, ← hm1]
    have hw9 : wrap64 (p.f1 - a.f1 + (Z + Q + m1) - (p.f1 - a.f1 + (Z + m0))) = Q + (m1 - m0) := by rw [w64 (by omega) (by omega)]; omega
    have hw10 : wrap64 U = U := w64 (by omega) (by omega)
    have hw11 : wrap64 (p.f1 - a.f1 + (Z + m0) - (p.f1 - a.f1 + (0 + 0))) = Z + m0 := by rw [w64 (by omega) (by omega)]; omega
    have hw12 : wrap64 (wrap64 Z + m0) = Z + m0 := by rw [w64 (x := Z) (by omega) (by omega), w64 (by omega) (by omega)]
    dsimp only
    rw [hw9, hw10, hw11, hw12]
    clear hw9 hw10 hw11 hw12
    rw [if_neg (by omega), if_neg (by omega), if_pos rfl]
    exact hnx
end Go.Proofs.Ytljjgcfifhfhdaa.Cu
namespace Go.Proofs.Ytljjgcfifhfhdaa.Pure
open Go.RowKit Go.Proofs.YtljjgcfifhfhdaaW.PrintWords Go.Proofs.Ytljjgcfifhfhdaa.X Go.Proofs.Ytljjgcfifhfhdaa.Tm Go.Proofs.Ytljjgcfifhfhdaa.TmImpl Go.Proofs.Ytljjgcfifhfhdaa.Cu
set_option linter.unusedVariables false
set_option linter.unusedSimpArgs false
theorem CueTicks (l : List Sc) (b : Int) (g1 : (Lit.int .u16 b).wf = true) : ∃ k, X.dancestudiolaw15_CueTicks.f k l b = some true := by
  refine ⟨2001, ?_⟩
  generalize hk : 2001 = k
  obtain ⟨hb0, hb1⟩ := wfu16 g1
  unfold dancestudiolaw15_CueTicks.f
  rw [awake_f k (by omega), Option.bind_some]
  by_cases h1 : (l.length : Int) > 20
  · rw [if_pos h1]
  rw [if_neg h1]
  unfold cue_Fit.f
  rw [Option.bind_some]
  by_cases h2 : (cue_Fit.res l).2 = 0
  · rw [if_pos h2]
    obtain ⟨a, c, s, rfl, h0, hl, hc, hf, e, hV⟩ := res_ok h2
    rw [e]
    exact tk0 _ a (c :: s) rfl b hb0 hb1 _ rfl hf hV hl (c :: s) [] a k rfl (by simp only [List.length_cons] at h1 ⊢; omega)
  · rw [if_neg h2, res_bad h2, if_pos (by rfl)]
end Go.Proofs.Ytljjgcfifhfhdaa.Pure
