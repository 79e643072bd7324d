/- The statement TempoTimes over numbers and lists. -/
import Derived.Test.YthgngebcfggcfaaX42
import Derived.Test.YthgngebcfggcfaaTmAwake
namespace Go.Proofs.Ythgngebcfggcfaa.Pure
open Go.RowKit Go.Proofs.YthgngebcfggcfaaW.PrintWords Go.Proofs.Ythgngebcfggcfaa.X Go.Proofs.Ythgngebcfggcfaa.Tm Go.Proofs.Ythgngebcfggcfaa.TmImpl
set_option linter.unusedVariables false
set_option linter.unusedSimpArgs false
theorem nr_same {m p : Int} (hp : 1 ≤ p) : nr (m * p) p = m := by
  unfold nr
  rw [Int.mul_emod_left, Int.mul_ediv_cancel _ (by omega), if_neg (by omega), if_neg (by omega)]
theorem nr_one (m : Int) : nr m 1 = m := by
  unfold nr
  rw [Int.emod_one, Int.ediv_one, if_neg (by omega), if_neg (by omega)]
theorem scl_same (p : Int) (hp : 1 ≤ p) : ∀ (l : List St), (∀ x ∈ l, Ok x) → scl p p l = some l := by
  intro l
  induction l with
  | nil => intro _; rfl
  | cons x l ih =>
    intro h
    obtain ⟨q0, q1, q2, q3⟩ := h x (by simp)
    simp only [scl]
    rw [nr_same hp, if_neg (by omega), ih (fun y hy => h y (by simp [hy])), Option.map_some, show max x.f1 1 = x.f1 by omega]
def tms (p : Int) (l : List St) : List St := l.map (fun x => (⟨x.f0, x.f1 * p⟩ : St))
def far (p : Int) : List St → Bool
  | [] => false
  | x :: l => decide (x.f1 * p > 4194304) || far p l
theorem scl_one (p : Int) (hp : 1 ≤ p) : ∀ (l : List St), (∀ x ∈ l, Ok x) → scl p 1 l = if far p l = true then none else some (tms p l) := by
  intro l
  induction l with
  | nil => intro _; rfl
  | cons x l ih =>
    intro h
    obtain ⟨q0, q1, q2, q3⟩ := h x (by simp)
    have hm : 1 ≤ x.f1 * p := by
      have := Int.mul_le_mul q2 hp (by omega) (by omega)
      omega
    simp only [scl]
    rw [nr_one, ih (fun y hy => h y (by simp [hy]))]
    by_cases c : x.f1 * p > 4194304
    · rw [if_pos c, if_pos (by simp only [far]; rw [decide_eq_true c, Bool.true_or])]
    · rw [if_neg c, show far p (x :: l) = far p l by simp only [far]; rw [decide_eq_false c, Bool.false_or]]
      by_cases c2 : far p l = true
      · rw [if_pos c2, if_pos c2, Option.map_none]
      · rw [if_neg c2, if_neg c2, Option.map_some, show max (x.f1 * p) 1 = x.f1 * p by omega]
        rfl
theorem tms_asc (p : Int) : ∀ (l : List St) (a : Int), asc a (tms p l) = asc a l := by
  intro l
  induction l with
  | nil => intro a; rfl
  | cons x l ih =>
    intro a
    show (decide (a < x.f0) && asc x.f0 (tms p l)) = (decide (a < x.f0) && asc x.f0 l)
    rw [ih x.f0]
theorem far_no {p : Int} : ∀ {l : List St}, far p l = false → ∀ x ∈ l, x.f1 * p ≤ 4194304 := by
  intro l
  induction l with
  | nil => intro _ x hx; simp at hx
  | cons y l ih =>
    intro h x hx
    simp only [far, Bool.or_eq_false_iff, decide_eq_false_iff_not] at h
    rcases List.mem_cons.1 hx with rfl | hx
    · omega
    · exact ih h.2 x hx
theorem tms_V {p : Int} (hp : 1 ≤ p) {l : List St} (h : V l) (hf : far p l = false) : V (tms p l) := by
  have hno := far_no hf
  obtain ⟨x, l', rfl, h0, h1⟩ := h.ne
  refine ⟨⟨⟨x.f0, x.f1 * p⟩, tms p l', rfl, h0, by rw [tms_asc]; exact h1⟩, by have := h.le; simpa [tms] using this, ?_⟩
  intro z hz
  obtain ⟨y, hy, rfl⟩ := List.mem_map.1 hz
  obtain ⟨q0, q1, q2, q3⟩ := h.ok y hy
  have := hno y hy
  have hm : 1 ≤ y.f1 * p := by
    have := Int.mul_le_mul q2 hp (by omega) (by omega)
    omega
  exact ⟨q0, q1, hm, this⟩
theorem tms_mom (p t : Int) : ∀ (l : List St), mom t (tms p l) = mom t l * p
  | [] => by simp [tms, mom]
  | [x] => by
    simp only [tms, List.map_cons, List.map_nil, mom]
    rw [Int.mul_assoc]
  | x :: y :: l => by
    have ih := tms_mom p t (y :: l)
    have e : mom t (tms p (x :: y :: l)) = max (min t y.f0 - x.f0) 0 * (x.f1 * p) + mom t (tms p (y :: l)) := rfl
    have e2 : mom t (x :: y :: l) = max (min t y.f0 - x.f0) 0 * x.f1 + mom t (y :: l) := rfl
    rw [e, e2, ih, Int.add_mul, Int.mul_assoc]
theorem times_loop (l q : List St) (p t e : Int) (hp : 1 ≤ p ∧ p ≤ 1000) (hl : l.length ≤ 64) (hok : ∀ x ∈ l, Ok x) (hbad : far p l = true → q = [] ∧ e = 1) (hR : far p l = false → ∀ k, 14000 ≤ k → dancestudiolaw14_TempoTimes.l0 k l p t q e (l.length : Int) = some true) :
    ∀ (s : List St) (i k : Nat), l.drop i = s → far p l = far p s → s.length + 14000 < k → dancestudiolaw14_TempoTimes.l0 k l p t q e (i : Int) = some true := by
  intro s
  induction s with
  | nil =>
    intro i k hd hf hk
    have hi : l.length ≤ i := List.drop_eq_nil_iff.1 hd
    obtain ⟨k, rfl⟩ : ∃ m, k = m + 1 := ⟨k - 1, by omega⟩
    have := hR hf (k + 1) (by omega)
    rw [dancestudiolaw14_TempoTimes.l0, if_neg (by omega)] at this
    rw [dancestudiolaw14_TempoTimes.l0, if_neg (by omega)]
    exact this
  | cons x s ih =>
    intro i k hd hf hk
    simp only [List.length_cons] at hk
    obtain ⟨k, rfl⟩ : ∃ m, k = m + 1 := ⟨k - 1, by omega⟩
    obtain ⟨hx, hi, hn⟩ := rdT hd
    obtain ⟨q0, q1, q2, q3⟩ := hok x (List.mem_of_mem_drop (hd ▸ List.mem_cons_self ..))
    have hm := mul_bd q2 q3 hp.1 hp.2
    rw [dancestudiolaw14_TempoTimes.l0, if_pos (by omega), if_pos (by omega), hx, w64 (x := x.f1 * p) (by omega) (by omega)]
    by_cases c : x.f1 * p > 4194304
    · obtain ⟨rfl, rfl⟩ := hbad (by rw [hf]; simp only [far]; rw [decide_eq_true c, Bool.true_or])
      rw [if_pos c, if_pos (by rfl), if_pos rfl, awake_f k (by omega), Option.bind_some]
    · rw [if_neg c, w64 (by omega) (by omega), show (i : Int) + 1 = ((i + 1 : Nat) : Int) by omega]
      exact ih (i + 1) k hn (by rw [hf]; simp only [far]; rw [decide_eq_false c, Bool.false_or]) (by omega)
theorem TempoTimes (l : List St) (p t : Int) : ∃ k, X.dancestudiolaw14_TempoTimes.f k l p t = some true := by
  refine ⟨20000, ?_⟩
  generalize hk : 20000 = k
  obtain ⟨k, rfl⟩ : ∃ m, k = m + 1 := ⟨k - 1, by omega⟩
  have out : dancestudiolaw14_TempoTimes.j0 (k + 1) l p t true = some true := by
    rw [dancestudiolaw14_TempoTimes.j0, if_pos rfl, awake_f k (by omega), Option.bind_some]
  unfold dancestudiolaw14_TempoTimes.f
  rw [tCheck_f (k + 1) l (by omega), Option.bind_some]
  by_cases h : chk l = 0
  · rw [if_pos h]
    by_cases h0 : p < 1
    · rw [if_pos h0, out]
    · rw [if_neg h0]
      by_cases h1 : p > 1000
      · rw [if_pos h1, out]
      · rw [if_neg h1]
        by_cases h2 : t < 0
        · rw [if_pos h2, out]
        · rw [if_neg h2]
          by_cases h3 : t > 8192
          · rw [decide_eq_true h3, out]
          · rw [decide_eq_false h3]
            have hV := chk_V h
            have hl := hV.le
            have e1 : scd l p p = (l, 0) := by
              unfold scd
              rw [if_pos h, if_pos ⟨⟨by omega, by omega⟩, ⟨by omega, by omega⟩⟩, scl_same p (by omega) l hV.ok]
              rfl
            have e2 : scd l p 1 = fin [] (if far p l = true then none else some (tms p l)) := by
              unfold scd
              rw [if_pos h, if_pos ⟨⟨by omega, by omega⟩, ⟨by omega, by omega⟩⟩, scl_one p (by omega) l hV.ok]
            rw [dancestudiolaw14_TempoTimes.j0, if_neg (by simp), tScaled_f k l p p (by omega), e1, Option.bind_some, if_pos rfl, same_f k l (by omega) (by omega), Option.bind_some]
            obtain ⟨k, rfl⟩ : ∃ m, k = m + 1 := ⟨k - 1, by omega⟩
            rw [dancestudiolaw14_TempoTimes.j1, if_neg (by simp), tScaled_f k l p 1 (by omega), e2, Option.bind_some, show (0 : Int) = ((0 : Nat) : Int) from rfl]
            have hb := hV.bd (t := t) (by omega) (by omega)
            have hw : ∀ q, V q → whn q t = (mom t q, 0) := fun q hq => by unfold whn; rw [if_pos hq.chk, if_pos (by omega)]
            refine times_loop l _ p t _ ⟨by omega, by omega⟩ hl hV.ok ?_ ?_ l 0 k rfl rfl (by omega)
            · intro hf
              rw [if_pos hf]
              exact ⟨rfl, rfl⟩
            · intro hf k hk
              obtain ⟨k, rfl⟩ : ∃ m, k = m + 1 := ⟨k - 1, by omega⟩
              have hT := tms_V (p := p) (by omega) hV hf
              have e3 : fin [] (if far p l = true then none else some (tms p l)) = (tms p l, 0) := by
                rw [if_neg (by rw [hf]; simp)]
                rfl
              have hmul : 0 ≤ mom t l * p ∧ mom t l * p ≤ 34359738368000 := ⟨Int.mul_nonneg (by omega) (by omega), Int.le_trans (Int.mul_le_mul hb.2 (show p ≤ 1000 by omega) (by omega) (by omega)) (by decide)⟩
              rw [e3, dancestudiolaw14_TempoTimes.l0, if_neg (by omega), tWhen_f k l t (by omega), hw l hV, Option.bind_some, if_pos rfl, if_pos rfl, w64 (by simp only; omega) (by simp only; omega), when_ok k _ t _ (by rw [hw _ hT, tms_mom]) (by omega), Option.bind_some, if_pos rfl, awake_f k (by omega), Option.bind_some]
  · rw [if_neg h, out]
end Go.Proofs.Ythgngebcfggcfaa.Pure
