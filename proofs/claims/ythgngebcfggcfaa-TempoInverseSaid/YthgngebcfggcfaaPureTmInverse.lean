/- The statement TempoInverse over numbers and lists. -/
import Derived.Test.YthgngebcfggcfaaX40
import Derived.Test.YthgngebcfggcfaaTmAwake
namespace Go.Proofs.Ythgngebcfggcfaa.Pure
open Go.RowKit Go.Proofs.YthgngebcfggcfaaW.PrintWords Go.Proofs.Ythgngebcfggcfaa.X Go.Proofs.Ythgngebcfggcfaa.Tm Go.Proofs.Ythgngebcfggcfaa.TmImpl
set_option linter.unusedVariables false
set_option linter.unusedSimpArgs false
theorem inv_l0 (l : List St) (hl : l.length ≤ 64) (x1 x2 x7 x9 x11 : Int) (R : Option Bool) : ∀ (s : List St) (i k : Nat) (d : Int), l.drop i = s → s.length + 15000 < k →
    (∀ k, 14000 ≤ k → ∃ k', 13000 ≤ k' ∧ dancestudiolaw14_TempoInverse.l0 (k + 1) l x1 x2 x7 x9 x11 (off x1 d s) (l.length : Int) = dancestudiolaw14_TempoInverse.l0 (k + 1) l x1 x2 x7 x9 x11 (off x1 d s) (l.length : Int)) →
    (∀ k, 14000 ≤ k → dancestudiolaw14_TempoInverse.l0 k l x1 x2 x7 x9 x11 (off x1 d s) (l.length : Int) = R) →
    dancestudiolaw14_TempoInverse.l0 k l x1 x2 x7 x9 x11 d (i : Int) = R := by
  intro s
  induction s with
  | nil =>
    intro i k d hd hk _ hR
    have hi : l.length ≤ i := List.drop_eq_nil_iff.1 hd
    obtain ⟨k, rfl⟩ : ∃ m, k = m + 1 := ⟨k - 1, by omega⟩
    have := hR (k + 1) (by omega)
    rw [dancestudiolaw14_TempoInverse.l0, if_neg (by omega)] at this
    rw [dancestudiolaw14_TempoInverse.l0, if_neg (by omega)]
    exact this
  | cons x s ih =>
    intro i k d hd hk hT hR
    simp only [List.length_cons] at hk
    obtain ⟨k, rfl⟩ : ∃ m, k = m + 1 := ⟨k - 1, by omega⟩
    obtain ⟨hx, hi, hn⟩ := rdT hd
    rw [dancestudiolaw14_TempoInverse.l0, if_pos (by omega), if_pos (by omega), hx, w64 (by omega) (by omega), show (i : Int) + 1 = ((i + 1 : Nat) : Int) by omega]
    simp only [off] at hR hT
    by_cases h : x.f0 ≤ x1
    · rw [if_pos h] at hR ⊢
      exact ih (i + 1) k _ hn (by omega) (fun k hk => ⟨k, by omega, rfl⟩) hR
    · rw [if_neg h] at hR ⊢
      exact ih (i + 1) k _ hn (by omega) (fun k hk => ⟨k, by omega, rfl⟩) hR
theorem TempoInverse (l : List St) (t p : Int) : ∃ k, X.dancestudiolaw14_TempoInverse.f k l t p = some true := by
  refine ⟨20000, ?_⟩
  generalize hk : 20000 = k
  obtain ⟨k, rfl⟩ : ∃ m, k = m + 1 := ⟨k - 1, by omega⟩
  have out : dancestudiolaw14_TempoInverse.j0 (k + 1) l t p true = some true := by
    rw [dancestudiolaw14_TempoInverse.j0, if_pos rfl, awake_f k (by omega), Option.bind_some]
  unfold dancestudiolaw14_TempoInverse.f
  rw [tCheck_f (k + 1) l (by omega), Option.bind_some]
  by_cases h : chk l = 0
  · rw [if_pos h]
    by_cases h0 : t < 0
    · rw [if_pos h0, out]
    · rw [if_neg h0]
      by_cases h1 : t ≥ 8192
      · rw [decide_eq_true h1, out]
      · rw [decide_eq_false h1]
        have hV := chk_V h
        have hl := hV.le
        have hs := hV.step (t := t) (by omega)
        have ho := hV.off (t := t) (by omega)
        have hb := hV.bd (t := t) (by omega) (by omega)
        have hb1 := hV.bd (t := t + 1) (by omega) (by omega)
        have hlast := hV.lt (a := t + 1) (b := 8192) (by omega) (by omega)
        have hb2 := hV.bd (t := 8192) (by omega) (by omega)
        have wn : ∀ s, 0 ≤ s → s ≤ 8192 → whn l s = (mom s l, 0) := fun s a b => by unfold whn; rw [if_pos h, if_pos ⟨a, b⟩]
        rw [dancestudiolaw14_TempoInverse.j0, if_neg (by simp), tWhen_f k l t (by omega), wn t (by omega) (by omega), Option.bind_some, w64 (x := t + 1) (by omega) (by omega), tWhen_f k l (t + 1) (by omega), wn (t + 1) (by omega) (by omega), Option.bind_some, tWhen_f k l 8192 (by omega), wn 8192 (by omega) (by omega), Option.bind_some]
        rw [if_pos rfl, if_pos rfl, if_pos rfl]
        show (if mom t l < 0 then _ else _) = _
        rw [if_neg (by omega), if_neg (by omega), if_neg (by omega), w64 (by omega) (by omega), decide_eq_false (by omega)]
        obtain ⟨k, rfl⟩ : ∃ m, k = m + 1 := ⟨k - 1, by omega⟩
        rw [dancestudiolaw14_TempoInverse.j1, if_neg (by simp), show (0 : Int) = ((0 : Nat) : Int) from rfl]
        refine inv_l0 l hl _ _ _ _ _ _ l 0 k 0 rfl (by omega) (fun k hk => ⟨k, by omega, rfl⟩) ?_
        intro k hk
        obtain ⟨k, rfl⟩ : ∃ m, k = m + 1 := ⟨k - 1, by omega⟩
        have T0 : IsTick l (mom t l) t := ⟨by omega, by omega, by omega, fun _ => by omega⟩
        have T1 : IsTick l (mom (t + 1) l) (t + 1) := ⟨by omega, by omega, by omega, fun hh => by
          have a := hV.step (t := t + 1) (by omega)
          have b := hV.off (t := t + 1) (by omega)
          omega⟩
        have T2 : IsTick l (mom (t + 1) l - 1) t := ⟨by omega, by omega, by omega, fun _ => by omega⟩
        have T3 : IsTick l (mom 8192 l) 8192 := ⟨by omega, by omega, by omega, fun hh => by omega⟩
        rw [dancestudiolaw14_TempoInverse.l0, if_neg (by omega), w64 (x := mom (t + 1) l - mom t l) (by omega) (by omega), if_pos (by omega)]
        rw [back_ok k l hV _ _ T0 (by omega) (by omega) (by omega), Option.bind_some, if_pos rfl, w64 (x := t + 1) (by omega) (by omega), back_ok k l hV _ _ T1 (by omega) (by omega) (by omega), Option.bind_some, if_pos rfl, w64 (x := mom (t + 1) l - 1) (by omega) (by omega), back_ok k l hV _ _ T2 (by omega) (by omega) (by omega), Option.bind_some, if_pos rfl, back_ok k l hV _ _ T3 (by omega) (by omega) (by omega), Option.bind_some]
        have fin4 : ∀ k, 12000 ≤ k → dancestudiolaw14_TempoInverse.j4 k l false = some true := by
          intro k hk
          obtain ⟨k, rfl⟩ : ∃ m, k = m + 1 := ⟨k - 1, by omega⟩
          rw [dancestudiolaw14_TempoInverse.j4, if_neg (by simp), when_ok k l 0 0 (by rw [wn 0 (by omega) (by omega), hV.zero]) (by omega), Option.bind_some, if_pos rfl, awake_f k (by omega), Option.bind_some]
        obtain ⟨k, rfl⟩ : ∃ m, k = m + 1 := ⟨k - 1, by omega⟩
        rw [dancestudiolaw14_TempoInverse.j3, if_neg (by simp)]
        by_cases c1 : p ≥ 0
        · rw [if_pos c1, w64 (x := mom (t + 1) l - mom t l) (by omega) (by omega)]
          by_cases c2 : p < mom (t + 1) l - mom t l
          · rw [if_pos c2, w64 (x := mom t l + p) (by omega) (by omega), back_ok k l hV _ t ⟨by omega, by omega, by omega, fun _ => by omega⟩ (by omega) (by omega) (by omega), Option.bind_some]
            exact fin4 k (by omega)
          · rw [if_neg c2, fin4 k (by omega)]
        · rw [if_neg c1, fin4 k (by omega)]
  · rw [if_neg h, out]
end Go.Proofs.Ythgngebcfggcfaa.Pure
