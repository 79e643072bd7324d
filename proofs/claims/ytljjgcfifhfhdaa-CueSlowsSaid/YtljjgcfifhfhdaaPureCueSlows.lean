/- The statement CueSlows over numbers and lists. -/
import Derived.Test.YtljjgcfifhfhdaaX30
import Derived.Test.YtljjgcfifhfhdaaCuAwake
namespace Go.Proofs.Ytljjgcfifhfhdaa.Cu
open Go.RowKit Go.Proofs.YtljjgcfifhfhdaaW.PrintWords Go.Proofs.Ytljjgcfifhfhdaa.X Go.Proofs.Ytljjgcfifhfhdaa.Tm Go.Proofs.Ytljjgcfifhfhdaa.TmImpl
set_option linter.unusedVariables false
set_option linter.unusedSimpArgs false
def slw (x : St) : St := ⟨x.f0, x.f1 + 1⟩
def slw64 (x : St) : St := ⟨x.f0, wrap64 (x.f1 + 1)⟩
theorem slw_map : ∀ (t : List St), (∀ x ∈ t, Ok x) → t.map slw64 = t.map slw
  | [], _ => rfl
  | x :: t, h => by
    have hx := h x (by simp)
    obtain ⟨_, _, h3, h4⟩ := hx
    rw [List.map_cons, List.map_cons, slw_map t (fun y hy => h y (by simp [hy]))]
    unfold slw64 slw
    rw [w64 (by omega) (by omega)]
theorem asc_slw : ∀ (t : List St) (p : Int), asc p (t.map slw) = asc p t
  | [], _ => rfl
  | x :: t, p => by rw [List.map_cons, asc, asc, asc_slw t]; rfl
theorem V_slw {t : List St} (h : V t) (hm : ∀ x ∈ t, x.f1 < 4194304) : V (t.map slw) := by
  obtain ⟨x, t', rfl, h0, h1⟩ := h.ne
  refine ⟨⟨slw x, t'.map slw, by rw [List.map_cons], h0, by rw [asc_slw]; exact h1⟩, by rw [List.length_map]; exact h.le, ?_⟩
  intro y hy
  obtain ⟨z, hz, rfl⟩ := List.mem_map.1 hy
  have h1 := h.ok z hz
  have h2 := hm z hz
  obtain ⟨a, b, c, d⟩ := h1
  exact ⟨a, b, by show 1 ≤ z.f1 + 1; omega, by show z.f1 + 1 ≤ 4194304; omega⟩
theorem mom_slw {t : Int} : ∀ (l : List St) (x : St), asc x.f0 l = true → mom t ((x :: l).map slw) = mom t (x :: l) + max (t - x.f0) 0
  | [], x, _ => by
    simp only [List.map_cons, List.map_nil, mom, slw]
    rw [Int.mul_add, Int.mul_one]
  | y :: l, x, h => by
    simp only [asc, Bool.and_eq_true, decide_eq_true_eq] at h
    have ih := mom_slw (t := t) l y h.2
    have e1 : mom t ((x :: y :: l).map slw) = max (min t y.f0 - x.f0) 0 * (x.f1 + 1) + mom t ((y :: l).map slw) := rfl
    have e2 : mom t (x :: y :: l) = max (min t y.f0 - x.f0) 0 * x.f1 + mom t (y :: l) := rfl
    rw [e1, e2, ih, Int.mul_add, Int.mul_one]
    have := h.1
    omega
theorem slow_late {l : List Sc} {t : List St} (hl : cue_Check.chk l = 0) (hV : V t) (hm : ∀ x ∈ t, x.f1 < 4194304) (c : Sc) (hc : c ∈ l) : late (t.map slw) l c = wrap64 (late t l c + c.f0) := by
  have hV2 := V_slw hV hm
  obtain ⟨a, b, s, rfl, h0, hlen, hf⟩ := chk_ok hl
  have hall : (a :: b :: s).all cue_Check.okc = true := by
    have h := hl
    rw [chk_eq] at h
    by_cases h1 : (a :: b :: s).length < 2
    · rw [if_pos h1] at h; cases h
    rw [if_neg h1] at h
    by_cases h2 : 64 < (a :: b :: s).length
    · rw [if_pos h2] at h; cases h
    rw [if_neg h2] at h
    by_cases h3 : (a :: b :: s).all cue_Check.okc = true
    · exact h3
    · rw [if_neg h3] at h; cases h
  have hoc := of_decide_eq_true (show decide _ = true from (List.all_eq_true.1 hall) c hc)
  have hoa := of_decide_eq_true (show decide _ = true from (List.all_eq_true.1 hall) a (by simp))
  unfold late whn
  rw [hV.chk, hV2.chk, if_pos rfl, if_pos rfl, if_pos ⟨hoc.1, hoc.2.1⟩, if_pos ⟨hoc.1, hoc.2.1⟩]
  show wrap64 (mom c.f0 (t.map slw) - wrap64 (c.f1 - a.f1)) = wrap64 (wrap64 (mom c.f0 t - wrap64 (c.f1 - a.f1)) + c.f0)
  have hbd := hV.bd hoc.1 hoc.2.1
  have e : mom c.f0 (t.map slw) = mom c.f0 t + c.f0 := by
    obtain ⟨x, t', rfl, h0, h1⟩ := hV.ne
    rw [mom_slw t' x h1, h0]
    have := hoc.1
    omega
  rw [e]
  obtain ⟨c1, c2, c3, c4⟩ := hoc
  obtain ⟨d1, d2, d3, d4⟩ := hoa
  rw [w64 (x := c.f1 - a.f1) (by omega) (by omega), w64 (x := mom c.f0 t - (c.f1 - a.f1)) (by omega) (by omega)]
  congr 1
  omega
theorem sl1 (l : List Sc) (A B : List Int) (f g : Sc → Int) (hl : l.length ≤ 80) (hA : A = l.map f) (hB : B = l.map g) (hfg : ∀ c ∈ l, g c = wrap64 (f c + c.f0)) : ∀ (s : List Sc) (i k : Nat), l.drop i = s → s.length + 1100 ≤ k →
    dancestudiolaw15_CueSlows.l1 k l A B (i : Int) = some true := by
  intro s
  induction s with
  | nil =>
    intro i k hd hk
    obtain ⟨k, rfl⟩ : ∃ m, k = m + 1 := ⟨k - 1, by omega⟩
    have hi : l.length ≤ i := List.drop_eq_nil_iff.1 hd
    rw [dancestudiolaw15_CueSlows.l1, if_neg (by omega), awake_f k (by omega), Option.bind_some]
  | cons x s ih =>
    intro i k hd hk
    simp only [List.length_cons] at hk
    obtain ⟨k, rfl⟩ : ∃ m, k = m + 1 := ⟨k - 1, by omega⟩
    obtain ⟨hx, hi, hn⟩ := rdC hd
    have ha := rdI (l := A) (i := i) (x := f x) (r := s.map f) (by rw [hA, ← List.map_drop, hd, List.map_cons])
    have hb := rdI (l := B) (i := i) (x := g x) (r := s.map g) (by rw [hB, ← List.map_drop, hd, List.map_cons])
    have hmem : x ∈ l := by
      have : x ∈ l.drop i := by rw [hd]; simp
      exact List.mem_of_mem_drop this
    rw [dancestudiolaw15_CueSlows.l1, if_pos (by omega), if_pos (by omega), if_pos (by have := hb.2.1; omega), if_pos (by have := ha.2.1; omega), hx, ha.1, hb.1, if_pos (hfg x hmem), w64 (x := (i : Int) + 1) (by omega) (by omega)]
    exact ih (i + 1) k hn (by omega)
theorem sll0 (l : List Sc) (t : List St) (hl : l.length ≤ 80) (ht : t.length ≤ 80) : ∀ (s pre : List St) (k : Nat), t = pre ++ s → (∀ x ∈ pre, x.f1 < 4194304) → s.length + 1500 ≤ k →
    dancestudiolaw15_CueSlows.l0 k l t (pre.map slw64) (pre.length : Int) = some true := by
  intro s
  induction s with
  | nil =>
    intro pre k he hp hk
    obtain ⟨k, rfl⟩ : ∃ m, k = m + 1 := ⟨k - 1, by omega⟩
    rw [List.append_nil] at he
    subst he
    simp only [List.length_nil] at hk
    rw [dancestudiolaw15_CueSlows.l0, if_neg (by omega), drf_f k l t (by omega), drf_f k l (t.map slw64) (by omega), Option.bind_some, Option.bind_some]
    by_cases hc : cue_Check.chk l = 0
    · by_cases ht0 : chk t = 0
      · have hV := chk_V ht0
        have hV2 := V_slw hV hp
        have e1 : drf l t = (l.map (late t l), 0) := by unfold drf; rw [if_pos hc, if_pos ht0]
        have e2 : drf l (t.map slw64) = (l.map (late (t.map slw) l), 0) := by unfold drf; rw [slw_map t hV.ok, if_pos hc, if_pos hV2.chk]
        rw [e1, e2, if_pos rfl, if_pos rfl, if_pos (by rw [List.length_map])]
        obtain ⟨k, rfl⟩ : ∃ m, k = m + 1 := ⟨k - 1, by omega⟩
        rw [dancestudiolaw15_CueSlows.j2, if_neg (by simp)]
        exact sl1 l _ _ _ _ hl rfl rfl (fun c hc' => slow_late hc hV hp c hc') l 0 k rfl (by omega)
      · have e1 : drf l t = ([], chk t) := by unfold drf; rw [if_pos hc, if_neg ht0]
        rw [e1, if_neg ht0, if_pos (by rfl), awake_f k (by omega), Option.bind_some]
    · have e1 : drf l t = ([], cue_Check.chk l) := by unfold drf; rw [if_neg hc]
      rw [e1, if_neg hc, if_pos (by rfl), awake_f k (by omega), Option.bind_some]
  | cons x s ih =>
    intro pre k he hp hk
    simp only [List.length_cons] at hk
    obtain ⟨k, rfl⟩ : ∃ m, k = m + 1 := ⟨k - 1, by omega⟩
    have hd : t.drop pre.length = x :: s := by rw [he]; simp
    obtain ⟨hx, hi, hn⟩ := rdT hd
    rw [dancestudiolaw15_CueSlows.l0, if_pos (by omega), if_pos (by omega), hx]
    by_cases h1 : x.f1 ≥ 4194304
    · rw [if_pos h1, awake_f k (by omega), Option.bind_some]
    · rw [if_neg h1, if_pos (by rw [List.length_map]; omega), w64 (x := (pre.length : Int) + 1) (by omega) (by omega)]
      have := ih (pre ++ [x]) k (by rw [he]; simp) (by
        intro y hy
        rcases List.mem_append.1 hy with hy | hy
        · exact hp y hy
        · rw [List.mem_singleton] at hy
          subst hy
          omega) (by omega)
      rw [List.map_append, List.length_append, List.length_singleton] at this
      exact this
end Go.Proofs.Ytljjgcfifhfhdaa.Cu
namespace Go.Proofs.Ytljjgcfifhfhdaa.Pure
open Go.RowKit Go.Proofs.YtljjgcfifhfhdaaW.PrintWords Go.Proofs.Ytljjgcfifhfhdaa.X Go.Proofs.Ytljjgcfifhfhdaa.Tm Go.Proofs.Ytljjgcfifhfhdaa.TmImpl Go.Proofs.Ytljjgcfifhfhdaa.Cu
set_option linter.unusedVariables false
set_option linter.unusedSimpArgs false
theorem CueSlows (l : List Sc) (t : List St) : ∃ k, X.dancestudiolaw15_CueSlows.f k l t = some true := by
  refine ⟨2001, ?_⟩
  generalize hk : 2001 = k
  obtain ⟨j, rfl⟩ : ∃ m, k = m + 1 := ⟨k - 1, by omega⟩
  have hm : dancestudiolaw15_CueSlows.j0 (j + 1) l t true = some true := by
    rw [dancestudiolaw15_CueSlows.j0, if_pos rfl, awake_f j (by omega), Option.bind_some]
  unfold dancestudiolaw15_CueSlows.f
  by_cases h1 : (l.length : Int) > 80
  · rw [if_pos h1, hm]
  · rw [if_neg h1]
    by_cases h2 : (t.length : Int) > 80
    · rw [decide_eq_true h2, hm]
    · rw [decide_eq_false h2, dancestudiolaw15_CueSlows.j0, if_neg (by simp)]
      exact sll0 l t (by omega) (by omega) t [] j rfl (by simp) (by omega)
end Go.Proofs.Ytljjgcfifhfhdaa.Pure
