/- The statement CueShifts over numbers and lists. -/
import Derived.Test.YtljjgcfifhfhdaaX8
import Derived.Test.YtljjgcfifhfhdaaX29
import Derived.Test.YtljjgcfifhfhdaaCuAwake
namespace Go.Proofs.Ytljjgcfifhfhdaa.Cu
open Go.RowKit Go.Proofs.YtljjgcfifhfhdaaW.PrintWords Go.Proofs.Ytljjgcfifhfhdaa.X Go.Proofs.Ytljjgcfifhfhdaa.Tm Go.Proofs.Ytljjgcfifhfhdaa.TmImpl
set_option linter.unusedVariables false
set_option linter.unusedSimpArgs false
def sh (b : Int) (x : Sc) : Sc := ⟨x.f0, x.f1 + b⟩
def In (b : Int) (x : Sc) : Prop := 0 ≤ x.f1 ∧ x.f1 + b ≤ 1099511627776
theorem good_sh (b : Int) (x y : Sc) : cue_Check.good (sh b x, sh b y) = cue_Check.good (x, y) := by
  unfold cue_Check.good
  refine decide_eq_decide.2 ?_
  show x.f0 < y.f0 ∧ x.f1 + b < y.f1 + b ↔ x.f0 < y.f0 ∧ x.f1 < y.f1
  omega
theorem okc_sh (b : Int) (hb : 0 ≤ b) (x : Sc) (h : In b x) : cue_Check.okc (sh b x) = cue_Check.okc x := by
  unfold cue_Check.okc
  refine decide_eq_decide.2 ?_
  obtain ⟨h1, h2⟩ := h
  show 0 ≤ x.f0 ∧ x.f0 ≤ 8192 ∧ 0 ≤ x.f1 + b ∧ x.f1 + b ≤ 1099511627776 ↔ 0 ≤ x.f0 ∧ x.f0 ≤ 8192 ∧ 0 ≤ x.f1 ∧ x.f1 ≤ 1099511627776
  omega
theorem all_sh (b : Int) (hb : 0 ≤ b) : ∀ (l : List Sc), (∀ x ∈ l, In b x) → (l.map (sh b)).all cue_Check.okc = l.all cue_Check.okc
  | [], _ => rfl
  | x :: l, h => by rw [List.map_cons, List.all_cons, List.all_cons, okc_sh b hb x (h x (by simp)), all_sh b hb l (fun y hy => h y (by simp [hy]))]
theorem cha_sh (b : Int) : ∀ (l : List Sc) (a : Sc), cha (sh b a) (l.map (sh b)) = cha a l
  | [], _ => rfl
  | x :: l, a => by rw [List.map_cons, cha, cha, good_sh, cha_sh b l x]
theorem chk_sh (b : Int) (hb : 0 ≤ b) (l : List Sc) (h : ∀ x ∈ l, In b x) : cue_Check.chk (l.map (sh b)) = cue_Check.chk l := by
  rw [chk_eq, chk_eq, List.length_map, all_sh b hb l h]
  cases l with
  | nil => rfl
  | cons a l => rw [List.map_cons, ordc, ordc, cha_sh]; rfl
def sh2 (b : Int) (p : Sc × Sc) : Sc × Sc := (sh b p.1, sh b p.2)
theorem prs_sh (b : Int) : ∀ (l : List Sc) (a : Sc), prs (sh b a) (l.map (sh b)) = (prs a l).map (sh2 b)
  | [], _ => rfl
  | x :: l, a => by rw [List.map_cons, prs, prs, List.map_cons, prs_sh b l x]; rfl
theorem q_sh (b : Int) (p : Sc × Sc) : cue_Fit.q (sh2 b p) = cue_Fit.q p := by
  show (p.2.f1 + b - (p.1.f1 + b)) / (p.2.f0 - p.1.f0) = (p.2.f1 - p.1.f1) / (p.2.f0 - p.1.f0)
  rw [show p.2.f1 + b - (p.1.f1 + b) = p.2.f1 - p.1.f1 by omega]
theorem rm_sh (b : Int) (p : Sc × Sc) : cue_Fit.rm (sh2 b p) = cue_Fit.rm p := by
  show (p.2.f1 + b - (p.1.f1 + b)) % (p.2.f0 - p.1.f0) = (p.2.f1 - p.1.f1) % (p.2.f0 - p.1.f0)
  rw [show p.2.f1 + b - (p.1.f1 + b) = p.2.f1 - p.1.f1 by omega]
theorem oks_sh (b : Int) (p : Sc × Sc) : cue_Fit.oks (sh2 b p) = cue_Fit.oks p := by
  unfold cue_Fit.oks
  rw [q_sh, rm_sh]
theorem seg_sh (b : Int) (p : Sc × Sc) : cue_Fit.seg (sh2 b p) = cue_Fit.seg p := by
  unfold cue_Fit.seg
  rw [q_sh, rm_sh]
  rfl
theorem res_sh (b : Int) (hb : 0 ≤ b) (l : List Sc) (h : ∀ x ∈ l, In b x) : cue_Fit.res (l.map (sh b)) = cue_Fit.res l := by
  cases l with
  | nil => rfl
  | cons a l =>
    have e1 : cue_Fit.allo ((prs a l).map (sh2 b)) = cue_Fit.allo (prs a l) := by
      unfold cue_Fit.allo
      rw [List.all_map]
      congr 1
      exact funext (oks_sh b)
    have e2 : cue_Fit.segs ((prs a l).map (sh2 b)) = cue_Fit.segs (prs a l) := by
      unfold cue_Fit.segs
      rw [List.flatMap_map]
      congr 1
      exact funext (seg_sh b)
    have e3 : cue_Fit.ps ((a :: l).map (sh b)) = (prs a l).map (sh2 b) := by rw [List.map_cons, ps_cons, prs_sh]
    unfold cue_Fit.res
    rw [chk_sh b hb _ h, e3, ps_cons, e1, e2]
theorem drf_sh (b : Int) (hb : 0 ≤ b) (l : List Sc) (t : List St) (h : ∀ x ∈ l, In b x) : drf (l.map (sh b)) t = drf l t := by
  cases l with
  | nil => rfl
  | cons a l =>
    unfold drf
    rw [chk_sh b hb _ h]
    have e : ((a :: l).map (sh b)).map (late t ((a :: l).map (sh b))) = (a :: l).map (late t (a :: l)) := by
      rw [List.map_map]
      refine List.map_congr_left fun c _ => ?_
      show wrap64 ((whn t c.f0).1 - wrap64 (c.f1 + b - (a.f1 + b))) = wrap64 ((whn t c.f0).1 - wrap64 (c.f1 - a.f1))
      rw [show c.f1 + b - (a.f1 + b) = c.f1 - a.f1 by omega]
    rw [e]
theorem shl0 (l : List Sc) (t : List St) (b : Int) (hb : 0 ≤ b) (hb2 : b ≤ 1099511627776) (hl : l.length ≤ 80) : ∀ (s pre : List Sc) (k : Nat), l = pre ++ s → (∀ x ∈ pre, In b x) → s.length + 1500 ≤ k →
    dancestudiolaw15_CueShifts.l0 k l t b (pre.map (sh b)) (pre.length : Int) = some true := by
  intro s
  induction s with
  | nil =>
    intro pre k he hp hk
    obtain ⟨k, rfl⟩ : ∃ m, k = m + 1 := ⟨k - 1, by omega⟩
    rw [List.append_nil] at he
    subst he
    simp only [List.length_nil] at hk
    have hl1 := res_len l
    have hl2 := drf_len l t
    rw [dancestudiolaw15_CueShifts.l0, if_neg (by omega), drf_f k l t (by omega), drf_f k (l.map (sh b)) t (by omega)]
    unfold cue_Fit.f
    rw [res_sh b hb l hp, drf_sh b hb l t hp, Option.bind_some, Option.bind_some, Option.bind_some, Option.bind_some, rt_f k _ (by omega) (by omega), Option.bind_some, if_pos rfl, if_pos rfl, ri_f k _ (by omega) (by omega), Option.bind_some, if_pos rfl, if_pos rfl, awake_f k (by omega), Option.bind_some]
  | cons x s ih =>
    intro pre k he hp hk
    simp only [List.length_cons] at hk
    obtain ⟨k, rfl⟩ : ∃ m, k = m + 1 := ⟨k - 1, by omega⟩
    have hd : l.drop pre.length = x :: s := by rw [he]; simp
    obtain ⟨hx, hi, hn⟩ := rdC hd
    rw [dancestudiolaw15_CueShifts.l0, if_pos (by omega), if_pos (by omega), hx, w64 (x := 1099511627776 - b) (by omega) (by omega)]
    by_cases h1 : x.f1 < 0
    · rw [if_pos h1, awake_f k (by omega), Option.bind_some]
    · rw [if_neg h1]
      by_cases h2 : x.f1 > 1099511627776 - b
      · rw [if_pos h2, awake_f k (by omega), Option.bind_some]
      · rw [if_neg h2, if_pos (by rw [List.length_map]; omega), w64 (x := x.f1 + b) (by omega) (by omega), w64 (x := (pre.length : Int) + 1) (by omega) (by omega)]
        have := ih (pre ++ [x]) k (by rw [he]; simp) (by
          intro y hy
          rcases List.mem_append.1 hy with hy | hy
          · exact hp y hy
          · rw [List.mem_singleton] at hy
            subst hy
            exact ⟨by omega, by omega⟩) (by omega)
        rw [List.map_append, List.length_append, List.length_singleton] at this
        exact this
end Go.Proofs.Ytljjgcfifhfhdaa.Cu
namespace Go.Proofs.Ytljjgcfifhfhdaa.Pure
open Go.RowKit Go.Proofs.YtljjgcfifhfhdaaW.PrintWords Go.Proofs.Ytljjgcfifhfhdaa.X Go.Proofs.Ytljjgcfifhfhdaa.Tm Go.Proofs.Ytljjgcfifhfhdaa.TmImpl Go.Proofs.Ytljjgcfifhfhdaa.Cu
set_option linter.unusedVariables false
set_option linter.unusedSimpArgs false
theorem CueShifts (l : List Sc) (t : List St) (b : Int) : ∃ k, X.dancestudiolaw15_CueShifts.f k l t b = some true := by
  refine ⟨2001, ?_⟩
  generalize hk : 2001 = k
  obtain ⟨j, rfl⟩ : ∃ m, k = m + 1 := ⟨k - 1, by omega⟩
  have hm : dancestudiolaw15_CueShifts.j0 (j + 1) l t b true = some true := by
    rw [dancestudiolaw15_CueShifts.j0, if_pos rfl, awake_f j (by omega), Option.bind_some]
  unfold dancestudiolaw15_CueShifts.f
  by_cases h1 : (l.length : Int) > 80
  · rw [if_pos h1, hm]
  · rw [if_neg h1]
    by_cases h2 : (t.length : Int) > 80
    · rw [if_pos h2, hm]
    · rw [if_neg h2]
      by_cases h3 : b < 0
      · rw [if_pos h3, hm]
      · rw [if_neg h3]
        by_cases h4 : b > 1099511627776
        · rw [decide_eq_true h4, hm]
        · rw [decide_eq_false h4, dancestudiolaw15_CueShifts.j0, if_neg (by simp)]
          exact shl0 l t b (by omega) (by omega) (by omega) l [] j rfl (by simp) (by omega)
end Go.Proofs.Ytljjgcfifhfhdaa.Pure
