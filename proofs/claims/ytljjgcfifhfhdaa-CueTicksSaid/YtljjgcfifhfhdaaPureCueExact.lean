/- The statement CueExact over numbers and lists. -/
import Derived.Test.YtljjgcfifhfhdaaX8
import Derived.Test.YtljjgcfifhfhdaaX27
import Derived.Test.YtljjgcfifhfhdaaCuMom
namespace Go.Proofs.Ytljjgcfifhfhdaa.Cu
open Go.RowKit Go.Proofs.YtljjgcfifhfhdaaW.PrintWords Go.Proofs.Ytljjgcfifhfhdaa.X Go.Proofs.Ytljjgcfifhfhdaa.Tm Go.Proofs.Ytljjgcfifhfhdaa.TmImpl
set_option linter.unusedVariables false
set_option linter.unusedSimpArgs false
theorem okc_mem {l : List Sc} (hl : cue_Check.chk l = 0) (c : Sc) (hc : c ∈ l) : 0 ≤ c.f0 ∧ c.f0 ≤ 8192 ∧ 0 ≤ c.f1 ∧ c.f1 ≤ 1099511627776 := by
  have h := hl
  rw [chk_eq] at h
  by_cases h1 : l.length < 2
  · rw [if_pos h1] at h; cases h
  rw [if_neg h1] at h
  by_cases h2 : 64 < l.length
  · rw [if_pos h2] at h; cases h
  rw [if_neg h2] at h
  by_cases h3 : l.all cue_Check.okc = true
  · exact of_decide_eq_true (show decide _ = true from (List.all_eq_true.1 h3) c hc)
  · rw [if_neg h3] at h; cases h
theorem whn_in {t : List St} (hV : V t) (x : Int) (h0 : 0 ≤ x) (h1 : x ≤ 8192) : whn t x = (mom x t, 0) := by
  unfold whn
  rw [if_pos hV.chk, if_pos ⟨h0, h1⟩]
theorem wst_zero : ∀ (l : List Int), (∀ x ∈ l, x = 0) → wst 0 l = 0
  | [], _ => rfl
  | x :: l, h => by
    have hx := h x (by simp)
    subst hx
    rw [wst, show mx (mx 0 0) (wrap64 (-0)) = 0 from by decide +kernel]
    exact wst_zero l (fun y hy => h y (by simp [hy]))
theorem ex0 (l : List Sc) (a : Sc) (t : List St) (D : List Int) (hl : l.length ≤ 64) (ha : rd_T40 l 0 = a) (hV : V t) (hm : ∀ c ∈ l, (0 ≤ c.f0 ∧ c.f0 ≤ 8192) ∧ mom c.f0 t = wrap64 (c.f1 - a.f1)) (hD : D = l.map (fun _ => 0)) : ∀ (s : List Sc) (i k : Nat), l.drop i = s → s.length + 1100 ≤ k →
    dancestudiolaw15_CueExact.l0 k l t D (i : Int) = some true := by
  intro s
  induction s with
  | nil =>
    intro i k hd hk
    obtain ⟨k, rfl⟩ : ∃ m, k = m + 1 := ⟨k - 1, by omega⟩
    have hi : l.length ≤ i := List.drop_eq_nil_iff.1 hd
    rw [dancestudiolaw15_CueExact.l0, if_neg (by omega), awake_f k (by omega), Option.bind_some]
  | cons x s ih =>
    intro i k hd hk
    simp only [List.length_cons] at hk
    obtain ⟨k, rfl⟩ : ∃ m, k = m + 1 := ⟨k - 1, by omega⟩
    obtain ⟨hx, hi, hn⟩ := rdC hd
    have hd' := rdI (l := D) (i := i) (x := 0) (r := s.map (fun _ => 0)) (by rw [hD, ← List.map_drop, hd, List.map_cons])
    have hmem : x ∈ l := by
      have : x ∈ l.drop i := by rw [hd]; simp
      exact List.mem_of_mem_drop this
    obtain ⟨⟨h0, h1⟩, h2⟩ := hm x hmem
    have hw := whn_in hV x.f0 h0 h1
    rw [dancestudiolaw15_CueExact.l0, if_pos (by omega), if_pos (by omega), hx, tWhen_f k t x.f0 (by omega), hw, Option.bind_some, if_pos rfl, if_pos (by have := hd'.2.1; omega), hd'.1, if_pos rfl, if_pos (by omega), ha, if_pos h2]
    clear h2 hw hm
    rw [w64 (x := (i : Int) + 1) (by omega) (by omega)]
    exact ih (i + 1) k hn (by omega)
end Go.Proofs.Ytljjgcfifhfhdaa.Cu
namespace Go.Proofs.Ytljjgcfifhfhdaa.Pure
open Go.RowKit Go.Proofs.YtljjgcfifhfhdaaW.PrintWords Go.Proofs.Ytljjgcfifhfhdaa.X Go.Proofs.Ytljjgcfifhfhdaa.Tm Go.Proofs.Ytljjgcfifhfhdaa.TmImpl Go.Proofs.Ytljjgcfifhfhdaa.Cu
set_option linter.unusedVariables false
set_option linter.unusedSimpArgs false
theorem CueExact (l : List Sc) : ∃ k, X.dancestudiolaw15_CueExact.f k l = some true := by
  refine ⟨2001, ?_⟩
  generalize hk : 2001 = k
  unfold dancestudiolaw15_CueExact.f
  rw [awake_f k (by omega), Option.bind_some]
  by_cases h1 : (l.length : Int) > 80
  · rw [if_pos h1]
  rw [if_neg h1]
  unfold cue_Fit.f
  rw [Option.bind_some]
  by_cases h2 : (cue_Fit.res l).2 = 0
  · rw [if_pos h2]
    obtain ⟨a, b, s, rfl, h0, hl, hc, hf, e, hV⟩ := res_ok h2
    rw [e]
    have hmom := mom_at (b :: s) a (by simp) hf
    generalize cue_Fit.segs (prs a (b :: s)) = t at e hV hmom
    have hmw : ∀ c ∈ a :: b :: s, (0 ≤ c.f0 ∧ c.f0 ≤ 8192) ∧ mom c.f0 t = wrap64 (c.f1 - a.f1) := by
      intro c hc'
      obtain ⟨o1, o2, o3, o4⟩ := okc_mem hc c hc'
      obtain ⟨p1, p2, p3, p4⟩ := okc_mem hc a (by simp)
      exact ⟨⟨o1, o2⟩, by rw [hmom c hc', w64 (by omega) (by omega)]⟩
    have hlate : (a :: b :: s).map (late t (a :: b :: s)) = (a :: b :: s).map (fun _ => 0) := by
      refine List.map_congr_left fun c hc' => ?_
      obtain ⟨⟨o1, o2⟩, o3⟩ := hmw c hc'
      unfold late
      rw [whn_in hV c.f0 o1 o2]
      show wrap64 (mom c.f0 t - wrap64 (c.f1 - a.f1)) = 0
      rw [o3, Int.sub_self]
      decide +kernel
    have hd : drf (a :: b :: s) t = ((a :: b :: s).map (fun _ => 0), 0) := by
      unfold drf
      rw [if_pos hc, if_pos hV.chk, hlate]
    have hw : wor (a :: b :: s) t = (0, 0) := by
      unfold wor
      rw [hd, if_pos rfl, wst_zero _ (fun x hx => by obtain ⟨y, _, rfl⟩ := List.mem_map.1 hx; rfl)]
    rw [drf_f k _ t (by omega), wor_f k _ t (by omega), hd, hw, Option.bind_some, Option.bind_some, if_pos rfl, if_pos rfl, if_pos rfl]
    obtain ⟨k, rfl⟩ : ∃ m, k = m + 1 := ⟨k - 1, by omega⟩
    rw [dancestudiolaw15_CueExact.j0, if_neg (by rw [List.length_map]; simp)]
    exact ex0 (a :: b :: s) a t _ hl rfl hV hmw rfl (a :: b :: s) 0 k rfl (by omega)
  · rw [if_neg h2, res_bad h2, if_pos (by rfl)]
end Go.Proofs.Ytljjgcfifhfhdaa.Pure
