/- Cues: the reference's Fit. -/
import Derived.Test.YtljjgcfifhfhdaaX17
import Derived.Test.YtljjgcfifhfhdaaCu
namespace Go.Proofs.Ytljjgcfifhfhdaa.Cu
open Go.RowKit Go.Proofs.YtljjgcfifhfhdaaW.PrintWords Go.Proofs.Ytljjgcfifhfhdaa.X Go.Proofs.Ytljjgcfifhfhdaa.Tm Go.Proofs.Ytljjgcfifhfhdaa.TmImpl
set_option linter.unusedVariables false
set_option linter.unusedSimpArgs false
/-! ### the reference's Fit -/
def fairs : Sc → List Sc → Prop
  | _, [] => True
  | p, x :: l => cue_Fit.fair (p, x) ∧ fairs x l
theorem fairs_of : ∀ (l : List Sc) (p : Sc), cue_Check.okc p = true → l.all cue_Check.okc = true → cha p l = true → fairs p l
  | [], _, _, _, _ => trivial
  | x :: l, p, hp, ha, hc => by
    rw [List.all_cons, Bool.and_eq_true] at ha
    rw [cha, Bool.and_eq_true] at hc
    refine ⟨?_, fairs_of l x ha.1 ha.2 hc.2⟩
    have h1 := of_decide_eq_true (show decide _ = true from hp)
    have h2 := of_decide_eq_true (show decide _ = true from ha.1)
    have h3 := of_decide_eq_true (show decide _ = true from hc.1)
    exact ⟨⟨h1.1, h3.1, h2.2.1⟩, h1.2.2.1, h3.2, h2.2.2.2⟩
/-- A list that Check takes. -/
theorem chk_ok {l : List Sc} (h : cue_Check.chk l = 0) : ∃ a b s, l = a :: b :: s ∧ a.f0 = 0 ∧ l.length ≤ 64 ∧ fairs a (b :: s) := by
  rw [chk_eq] at h
  by_cases h0 : l.length < 2
  · rw [if_pos h0] at h; cases h
  rw [if_neg h0] at h
  by_cases h1 : 64 < l.length
  · rw [if_pos h1] at h; cases h
  rw [if_neg h1] at h
  by_cases h2 : l.all cue_Check.okc = true
  · rw [if_pos h2] at h
    match l, h0, h1, h2, h with
    | [], h0, _, _, _ => simp at h0
    | [a], h0, _, _, _ => simp at h0
    | a :: b :: s, h0, h1, h2, h =>
      rw [ordc] at h
      by_cases h3 : a.f0 = 0
      · rw [if_pos h3] at h
        by_cases h4 : cha a (b :: s) = true
        · rw [List.all_cons, Bool.and_eq_true] at h2
          exact ⟨a, b, s, rfl, h3, by omega, fairs_of _ _ h2.1 h2.2 h4⟩
        · rw [if_neg h4] at h; cases h
      · rw [if_neg h3] at h; cases h
  · rw [if_neg h2] at h; cases h
/-- The same the other way. -/
theorem allo_cons (p x : Sc) (s : List Sc) : cue_Fit.allo (prs p (x :: s)) = (cue_Fit.oks (p, x) && cue_Fit.allo (prs x s)) := by unfold cue_Fit.allo; rw [prs, List.all_cons]
theorem segs_cons (p x : Sc) (s : List Sc) : cue_Fit.segs (prs p (x :: s)) = cue_Fit.seg (p, x) ++ cue_Fit.segs (prs x s) := by unfold cue_Fit.segs; rw [prs, List.flatMap_cons]
def fin (ok : Bool) (ts : List St) : List St × Int := if ok = true then (if 64 < ts.length then ([], 3) else (ts, 0)) else ([], 1)

theorem rf_l0 (l : List Sc) (hl : l.length ≤ 64) : ∀ (s : List Sc) (i k : Nat) (acc : List St) (p : Sc), 1 ≤ i → l.drop i = s → rd_T40 l ((i - 1 : Nat) : Int) = p → fairs p s → s.length < k → acc.length ≤ 2 * i →
    dancestudioref15_Fit.l0 k l acc (i : Int) = some (fin (cue_Fit.allo (prs p s)) (acc ++ cue_Fit.segs (prs p s))) := by
  intro s
  induction s with
  | nil =>
    intro i k acc p h1 hd hp hf hk ha
    obtain ⟨k, rfl⟩ : ∃ m, k = m + 1 := ⟨k - 1, by omega⟩
    have hi : l.length ≤ i := List.drop_eq_nil_iff.1 hd
    have e : fin (cue_Fit.allo (prs p [])) (acc ++ cue_Fit.segs (prs p [])) = (if 64 < acc.length then ([], 3) else (acc, 0)) := by
      rw [show acc ++ cue_Fit.segs (prs p []) = acc from List.append_nil acc]
      rfl
    rw [dancestudioref15_Fit.l0, if_neg (by omega), e]
    by_cases h : 64 < acc.length
    · rw [if_pos (by omega), if_pos h]
    · rw [if_neg (by omega), if_neg h]
  | cons x s ih =>
    intro i k acc p h1 hd hp hf hk ha
    simp only [List.length_cons] at hk
    obtain ⟨k, rfl⟩ : ∃ m, k = m + 1 := ⟨k - 1, by omega⟩
    obtain ⟨hx, hi, hn⟩ := rdC hd
    obtain ⟨⟨⟨f0, f1, f2⟩, f3, f4, f5⟩, hfs⟩ := hf
    simp only at f0 f1 f2 f3 f4 f5
    have hQ0 : 0 ≤ (x.f1 - p.f1) / (x.f0 - p.f0) := Int.ediv_nonneg (by omega) (by omega)
    have hQ1 : (x.f1 - p.f1) / (x.f0 - p.f0) ≤ x.f1 - p.f1 := Int.ediv_le_self _ (by omega)
    have hR0 : 0 ≤ (x.f1 - p.f1) % (x.f0 - p.f0) := Int.emod_nonneg _ (by omega)
    have hR1 : (x.f1 - p.f1) % (x.f0 - p.f0) < x.f0 - p.f0 := Int.emod_lt_of_pos _ (by omega)
    rw [dancestudioref15_Fit.l0, if_pos (by omega), if_pos (by omega), w64 (x := (i : Int) - 1) (by omega) (by omega), if_pos (by omega), if_pos (by omega), hx, show (i : Int) - 1 = ((i - 1 : Nat) : Int) by omega, hp,
      w64 (x := x.f0 - p.f0) (by omega) (by omega), w64 (x := x.f1 - p.f1) (by omega) (by omega), if_neg (by omega), Int.tdiv_eq_ediv_of_nonneg (show 0 ≤ x.f1 - p.f1 by omega), Int.tmod_eq_emod_of_nonneg (show 0 ≤ x.f1 - p.f1 by omega)]
    rw [allo_cons, segs_cons]
    have eo : cue_Fit.oks (p, x) = decide (1 ≤ (x.f1 - p.f1) / (x.f0 - p.f0) ∧ (if 0 < (x.f1 - p.f1) % (x.f0 - p.f0) then (x.f1 - p.f1) / (x.f0 - p.f0) + 1 else (x.f1 - p.f1) / (x.f0 - p.f0)) ≤ 4194304) := rfl
    have es : cue_Fit.seg (p, x) = if 0 < (x.f1 - p.f1) % (x.f0 - p.f0) then [⟨p.f0, (x.f1 - p.f1) / (x.f0 - p.f0) + 1⟩, ⟨p.f0 + (x.f1 - p.f1) % (x.f0 - p.f0), (x.f1 - p.f1) / (x.f0 - p.f0)⟩] else [⟨p.f0 + (x.f1 - p.f1) % (x.f0 - p.f0), (x.f1 - p.f1) / (x.f0 - p.f0)⟩] := rfl
    rw [eo, es]
    generalize (x.f1 - p.f1) / (x.f0 - p.f0) = Q at *
    generalize (x.f1 - p.f1) % (x.f0 - p.f0) = R at *
    rw [w64 (x := Q) (by omega) (by omega), w64 (x := Q + 1) (by omega) (by omega), w64 (x := p.f0 + R) (by omega) (by omega)]
    have hi1 : wrap64 ((i : Int) + 1) = ((i + 1 : Nat) : Int) := by rw [w64 (by omega) (by omega)]; omega
    rw [hi1]
    clear hi1 eo es
    by_cases hr : 0 < R
    · rw [if_pos hr, if_pos (by omega), Option.bind_some, if_pos (by simp; omega), if_pos hr, if_pos hr]
      by_cases hq : Q < 1
      · rw [if_pos hq, decide_eq_false (by omega), Bool.false_and]; rfl
      · rw [if_neg hq]
        by_cases hm : Q + 1 > 4194304
        · rw [if_pos hm, decide_eq_false (by omega), Bool.false_and]; rfl
        · rw [if_neg hm, decide_eq_true (by omega), Bool.true_and, ih (i + 1) k _ x (by omega) hn (by rw [Nat.add_sub_cancel]; exact hx) hfs (by omega) (by simp; omega)]
          simp only [List.append_assoc, List.cons_append, List.nil_append]
    · rw [if_neg hr, if_pos (by omega), if_neg hr, if_neg hr]
      by_cases hq : Q < 1
      · rw [if_pos hq, decide_eq_false (by omega), Bool.false_and]; rfl
      · rw [if_neg hq]
        by_cases hm : Q > 4194304
        · rw [if_pos hm, decide_eq_false (by omega), Bool.false_and]; rfl
        · rw [if_neg hm, decide_eq_true (by omega), Bool.true_and, ih (i + 1) k _ x (by omega) hn (by rw [Nat.add_sub_cancel]; exact hx) hfs (by omega) (by simp; omega)]
          simp only [List.append_assoc, List.cons_append, List.nil_append]
theorem res_eq {a : Sc} {l : List Sc} (h : cue_Check.chk (a :: l) = 0) : cue_Fit.res (a :: l) = fin (cue_Fit.allo (prs a l)) (cue_Fit.segs (prs a l)) := by
  unfold cue_Fit.res
  rw [if_pos h, ps_cons]
  rfl
theorem rf_f (k : Nat) (l : List Sc) (hk : 200 ≤ k) : dancestudioref15_Fit.f k l = some (cue_Fit.res l) := by
  unfold dancestudioref15_Fit.f
  rw [rc_f k l hk, Option.bind_some]
  by_cases h : cue_Check.chk l = 0
  · rw [if_pos h]
    obtain ⟨a, b, s, rfl, h0, hl, hf⟩ := chk_ok h
    rw [res_eq h]
    have := rf_l0 (a :: b :: s) hl (b :: s) 1 k [] a (by omega) rfl rfl hf (by simp only [List.length_cons] at hl ⊢; omega) (by simp)
    exact this
  · rw [if_neg h]
    unfold cue_Fit.res
    rw [if_neg h]
end Go.Proofs.Ytljjgcfifhfhdaa.Cu
