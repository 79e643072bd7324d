/- Tempo maps: the ticks of moments, normal forms, and maps that are scaled, as printed. -/
import Derived.Test.YthgngebcfggcfaaX9
import Derived.Test.YthgngebcfggcfaaX7
import Derived.Test.YthgngebcfggcfaaX38
import Derived.Test.YthgngebcfggcfaaX37
import Derived.Test.YthgngebcfggcfaaX36
import Derived.Test.YthgngebcfggcfaaX35
import Derived.Test.YthgngebcfggcfaaX31
import Derived.Test.YthgngebcfggcfaaX30
import Derived.Test.YthgngebcfggcfaaX28
import Derived.Test.YthgngebcfggcfaaX27
import Derived.Test.YthgngebcfggcfaaX18
import Derived.Test.YthgngebcfggcfaaX15
import Derived.Test.YthgngebcfggcfaaX14
import Derived.Test.YthgngebcfggcfaaX13
import Derived.Test.YthgngebcfggcfaaX12
import Derived.Test.YthgngebcfggcfaaX11
import Derived.Test.YthgngebcfggcfaaX10
import Derived.Test.YthgngebcfggcfaaTmImpl
namespace Go.Proofs.Ythgngebcfggcfaa.TmImpl
open Go.RowKit Go.Proofs.YthgngebcfggcfaaW.PrintWords Go.Proofs.Ythgngebcfggcfaa.X Go.Proofs.Ythgngebcfggcfaa.Tm
set_option linter.unusedVariables false
set_option linter.unusedSimpArgs false

/-! ### ticks -/
theorem tTick_l0 (l : List St) (hV : V l) (x : Int) : ∀ (d : Nat) (lo hi : Int) (k : Nat), 0 ≤ lo → lo < hi → hi ≤ 8193 → hi - lo ≤ d → mom lo l ≤ x → (hi = 8193 ∨ x < mom hi l) → d + 201 ≤ k →
    ∃ r, tempo_Tick.l0 k l x lo hi = some r ∧ IsTick l x r := by
  intro d
  induction d with
  | zero => intro lo hi k h0 h1 h2 h3; omega
  | succ d ih =>
    intro lo hi k h0 h1 h2 h3 hlo hhi hk
    obtain ⟨k, rfl⟩ : ∃ m, k = m + 1 := ⟨k - 1, by omega⟩
    rw [tempo_Tick.l0]
    by_cases c : hi - lo > 1
    · rw [if_pos c, tMoment_f k l hV _ (by omega) (by omega) (by omega), Option.bind_some]
      by_cases c2 : mom ((lo + hi) / 2) l ≤ x
      · rw [if_pos c2]
        exact ih _ hi k (by omega) (by omega) h2 (by omega) c2 hhi (by omega)
      · rw [if_neg c2]
        exact ih lo _ k h0 (by omega) (by omega) (by omega) hlo (.inr (by omega)) (by omega)
    · rw [if_neg c]
      refine ⟨lo, rfl, h0, by omega, hlo, fun h => ?_⟩
      rcases hhi with h4 | h4
      · omega
      · rwa [show lo + 1 = hi by omega]
theorem tTick_ok (k : Nat) (l : List St) (hV : V l) (x : Int) (h0 : 0 ≤ x) (h1 : x ≤ mom 8192 l) (hk : 9000 ≤ k) : ∃ r, tempo_Tick.f k l x = some (r, 0) ∧ IsTick l x r := by
  obtain ⟨r, hr, ht⟩ := tTick_l0 l hV x 8193 0 8193 k (by omega) (by omega) (by omega) (by omega) (by rw [hV.zero]; exact h0) (.inl rfl) (by omega)
  refine ⟨r, ?_, ht⟩
  unfold tempo_Tick.f
  rw [tCheck_f k l (by omega), Option.bind_some, if_pos hV.chk, tMoment_f k l hV 8192 (by omega) (by omega) (by omega), Option.bind_some, within_f, Option.bind_some, decide_eq_true ⟨h0, h1⟩, if_pos rfl, hr, Option.bind_some]
theorem tTick_out (k : Nat) (l : List St) (hV : V l) (x : Int) (h : ¬ (0 ≤ x ∧ x ≤ mom 8192 l)) (hk : 9000 ≤ k) : tempo_Tick.f k l x = some (0, 1) := by
  unfold tempo_Tick.f
  rw [tCheck_f k l (by omega), Option.bind_some, if_pos hV.chk, tMoment_f k l hV 8192 (by omega) (by omega) (by omega), Option.bind_some, within_f, Option.bind_some, decide_eq_false h, if_neg (by simp)]
theorem tTick_bad (k : Nat) (l : List St) (x : Int) (h : chk l ≠ 0) (hk : 9000 ≤ k) : tempo_Tick.f k l x = some (0, chk l) := by
  unfold tempo_Tick.f
  rw [tCheck_f k l (by omega), Option.bind_some, if_neg h]
theorem rOf_l0 (l : List St) (hl : l.length ≤ 64) (t : Int) : ∀ (s : List St) (i k : Nat) (d : Int), l.drop i = s → s.length < k → dancestudioref14_Of.l0 k l t d (i : Int) = some (off t d s) := by
  intro s
  induction s with
  | nil =>
    intro i k d hd hk
    obtain ⟨k, rfl⟩ : ∃ m, k = m + 1 := ⟨k - 1, by omega⟩
    have hi : l.length ≤ i := List.drop_eq_nil_iff.1 hd
    rw [dancestudioref14_Of.l0, if_neg (by omega)]
    rfl
  | cons x s ih =>
    intro i k d hd hk
    simp only [List.length_cons] at hk
    obtain ⟨k, rfl⟩ : ∃ m, k = m + 1 := ⟨k - 1, by omega⟩
    obtain ⟨hx, hi, hn⟩ := rdT hd
    rw [dancestudioref14_Of.l0, if_pos (by omega), if_pos (by omega), hx, w64 (by omega) (by omega), show (i : Int) + 1 = ((i + 1 : Nat) : Int) by omega]
    simp only [off]
    by_cases h : x.f0 ≤ t
    · rw [if_pos h, if_pos h, ih (i + 1) k _ hn (by omega)]
    · rw [if_neg h, if_neg h, ih (i + 1) k _ hn (by omega)]
theorem rTick_l0 (l : List St) (hV : V l) (x : Int) : ∀ (d : Nat) (t : Int) (k : Nat), 0 ≤ t → t + d = 8192 → mom t l ≤ x → d + 201 ≤ k → ∃ r, dancestudioref14_Tick.l0 k l x t (mom t l) = some (r, 0) ∧ IsTick l x r := by
  intro d
  induction d with
  | zero =>
    intro t k h0 h1 h2 hk
    obtain ⟨k, rfl⟩ : ∃ m, k = m + 1 := ⟨k - 1, by omega⟩
    refine ⟨t, by rw [dancestudioref14_Tick.l0, if_neg (by omega)], h0, by omega, h2, fun h => by omega⟩
  | succ d ih =>
    intro t k h0 h1 h2 hk
    obtain ⟨k, rfl⟩ : ∃ m, k = m + 1 := ⟨k - 1, by omega⟩
    have hl := hV.le
    have hb := hV.bd (t := t + 1) (by omega) (by omega)
    have hs := hV.step (t := t) h0
    rw [dancestudioref14_Tick.l0, if_pos (by omega)]
    unfold dancestudioref14_Of.f
    have ho := rOf_l0 l hl t l 0 k 0 rfl (by omega)
    rw [show (((0 : Nat) : Int)) = 0 from rfl] at ho
    rw [ho, Option.bind_some, ← hs, w64 (x := mom (t + 1) l) (by omega) (by omega)]
    by_cases c : mom (t + 1) l > x
    · rw [if_pos c]
      exact ⟨t, rfl, h0, by omega, h2, fun _ => c⟩
    · rw [if_neg c, w64 (by omega) (by omega)]
      exact ih (t + 1) k (by omega) (by omega) (by omega) (by omega)
theorem rTick_ok (k : Nat) (l : List St) (hV : V l) (x : Int) (h0 : 0 ≤ x) (h1 : x ≤ mom 8192 l) (hk : 9000 ≤ k) : ∃ r, dancestudioref14_Tick.f k l x = some (r, 0) ∧ IsTick l x r := by
  obtain ⟨k, rfl⟩ : ∃ m, k = m + 1 := ⟨k - 1, by omega⟩
  obtain ⟨r, hr, ht⟩ := rTick_l0 l hV x 8192 0 k (by omega) (by omega) (by rw [hV.zero]; exact h0) (by omega)
  refine ⟨r, ?_, ht⟩
  rw [hV.zero] at hr
  unfold dancestudioref14_Tick.f
  rw [rCheck_f (k + 1) l (by omega), Option.bind_some, if_pos hV.chk, if_neg (by omega), rMoment_f (k + 1) l hV 8192 (by omega) (by omega) (by omega), Option.bind_some, decide_eq_false (by omega), dancestudioref14_Tick.j0, if_neg (by simp), hr]
theorem rTick_out (k : Nat) (l : List St) (hV : V l) (x : Int) (h : ¬ (0 ≤ x ∧ x ≤ mom 8192 l)) (hk : 9000 ≤ k) : dancestudioref14_Tick.f k l x = some (0, 1) := by
  obtain ⟨k, rfl⟩ : ∃ m, k = m + 1 := ⟨k - 1, by omega⟩
  unfold dancestudioref14_Tick.f
  rw [rCheck_f (k + 1) l (by omega), Option.bind_some, if_pos hV.chk]
  by_cases c : x < 0
  · rw [if_pos c, dancestudioref14_Tick.j0, if_pos rfl]
  · rw [if_neg c, rMoment_f (k + 1) l hV 8192 (by omega) (by omega) (by omega), Option.bind_some, decide_eq_true (by omega), dancestudioref14_Tick.j0, if_pos rfl]
theorem rTick_bad (k : Nat) (l : List St) (x : Int) (h : chk l ≠ 0) (hk : 9000 ≤ k) : dancestudioref14_Tick.f k l x = some (0, chk l) := by
  unfold dancestudioref14_Tick.f
  rw [rCheck_f k l (by omega), Option.bind_some, if_neg h]
/-! ### normal forms -/
theorem chk_pos {l : List St} (h : chk l = 0) : 0 < l.length := by
  obtain ⟨x, l', rfl, _⟩ := (chk_V h).ne
  simp
def nor (l : List St) : List St × Int := if chk l = 0 then (tempo_Norm.nrm l, 0) else ([], chk l)
theorem tNorm_f (k : Nat) (l : List St) (hk : 200 ≤ k) : tempo_Norm.f k l = some (nor l) := by
  unfold tempo_Norm.f nor
  rw [tCheck_f k l hk, Option.bind_some]
  by_cases h : chk l = 0
  · have := (chk_V h).le
    rw [if_pos h, if_pos h, if_pos (chk_pos h), if_pos (by omega)]
  · rw [if_neg h, if_neg h]
theorem rNorm_l0 (l : List St) (hl : l.length ≤ 64) : ∀ (s : List St) (i k : Nat) (acc : List St) (p : St), 1 ≤ i → l.drop i = s → rd_T38 l ((i - 1 : Nat) : Int) = p → acc.length ≤ i → s.length < k →
    dancestudioref14_Norm.l0 k l acc (i : Int) = some (acc ++ tempo_Norm.go p.f1 s, 0) := by
  intro s
  induction s with
  | nil =>
    intro i k acc p h1 hd hp ha hk
    obtain ⟨k, rfl⟩ : ∃ m, k = m + 1 := ⟨k - 1, by omega⟩
    have hi : l.length ≤ i := List.drop_eq_nil_iff.1 hd
    rw [dancestudioref14_Norm.l0, if_neg (by omega)]
    simp [tempo_Norm.go]
  | cons x s ih =>
    intro i k acc p h1 hd hp ha hk
    simp only [List.length_cons] at hk
    obtain ⟨k, rfl⟩ : ∃ m, k = m + 1 := ⟨k - 1, by omega⟩
    obtain ⟨hx, hi, hn⟩ := rdT hd
    rw [dancestudioref14_Norm.l0, if_pos (by omega), if_neg (by omega), if_pos (by omega), w64 (x := (i : Int) - 1) (by omega) (by omega), if_pos (by omega), if_pos (by omega), hx, show (i : Int) - 1 = ((i - 1 : Nat) : Int) by omega, hp, w64 (by omega) (by omega), show (i : Int) + 1 = ((i + 1 : Nat) : Int) by omega]
    by_cases h : x.f1 = p.f1
    · rw [if_pos h, ih (i + 1) k acc x (by omega) hn (by rw [Nat.add_sub_cancel]; exact hx) (by omega) (by omega)]
      simp only [tempo_Norm.go]
      rw [if_pos h]
    · rw [if_neg h, if_pos (by omega), ih (i + 1) k _ x (by omega) hn (by rw [Nat.add_sub_cancel]; exact hx) (by simp; omega) (by omega)]
      simp only [tempo_Norm.go]
      rw [if_neg h, List.append_assoc]
      rfl
theorem rNorm_f (k : Nat) (l : List St) (hk : 200 ≤ k) : dancestudioref14_Norm.f k l = some (nor l) := by
  unfold dancestudioref14_Norm.f nor
  rw [rCheck_f k l hk, Option.bind_some]
  by_cases h : chk l = 0
  · rw [if_pos h, if_pos h]
    have hl := (chk_V h).le
    obtain ⟨k, rfl⟩ : ∃ m, k = m + 1 := ⟨k - 1, by omega⟩
    obtain ⟨x, l', rfl, _⟩ := (chk_V h).ne
    have hx : rd_T38 (x :: l') 0 = x := rfl
    simp only [List.length_cons] at hl
    rw [dancestudioref14_Norm.l0, if_pos (by simp only [List.length_cons]; omega), if_pos rfl, if_pos (by omega), if_pos (by simp), hx, show wrap64 (0 + 1) = ((1 : Nat) : Int) by unfold wrap64; omega]
    rw [rNorm_l0 (x :: l') (by simp; omega) l' 1 k _ x (by omega) rfl hx (by simp) (by omega)]
    rfl
  · rw [if_neg h, if_neg h]
/-! ### scaled -/
def nr (a b : Int) : Int := if 2 * (a % b) > b then a / b + 1 else if 2 * (a % b) = b then (if a / b % 2 = 0 then a / b else a / b + 1) else a / b
theorem div_bd {a b : Int} (h0 : 0 ≤ a) (hb : 1 ≤ b) : 0 ≤ a / b ∧ a / b ≤ a ∧ 0 ≤ a % b ∧ a % b < b :=
  ⟨Int.ediv_nonneg h0 (by omega), Int.ediv_le_self _ h0, Int.emod_nonneg _ (by omega), Int.emod_lt_of_pos _ (by omega)⟩
theorem nr_bd {a b : Int} (h0 : 0 ≤ a) (hb : 1 ≤ b) : 0 ≤ nr a b ∧ nr a b ≤ a + 1 := by
  have := div_bd h0 hb
  unfold nr
  split
  · omega
  · split
    · split <;> omega
    · omega
theorem nDivide_f {a b : Int} (h0 : 0 ≤ a) (h1 : a ≤ 1125899906842624) (hb : 1 ≤ b) (hb2 : b ≤ 1125899906842624) : num_divide.f a b = some (a / b, a % b) := by
  have := div_bd h0 hb
  unfold num_divide.f
  rw [if_neg (by omega), Int.tmod_eq_emod_of_nonneg h0, Int.tdiv_eq_ediv_of_nonneg h0, if_neg (by omega), w64 (by omega) (by omega)]
theorem nNearest_f {a b : Int} (h0 : 0 ≤ a) (h1 : a ≤ 1125899906842624) (hb : 1 ≤ b) (hb2 : b ≤ 1125899906842624) : num_nearest.f a b = some (nr a b) := by
  have := div_bd h0 hb
  unfold num_nearest.f nr
  rw [nDivide_f h0 h1 hb hb2, Option.bind_some]
  simp only
  rw [w64 (x := 2 * (a % b)) (by omega) (by omega), w64 (x := a / b + 1) (by omega) (by omega), Int.tmod_eq_emod_of_nonneg (by omega)]
  split
  · rfl
  · split
    · split <;> rfl
    · rfl
theorem nSmall_f (k : Nat) (a b : Int) (ha : -1125899906842624 ≤ a ∧ a ≤ 1125899906842624) (hb : -1125899906842624 ≤ b ∧ b ≤ 1125899906842624) (hk : 5 ≤ k) : num_small.f k [a, b] = some true := by
  obtain ⟨k, rfl⟩ : ∃ m, k = m + 3 := ⟨k - 3, by omega⟩
  unfold num_small.f
  have e0 : rd [a, b] 0 = a := rfl
  have e1 : rd [a, b] 1 = b := rfl
  rw [num_small.l0, if_pos (by simp), if_pos (by omega), if_pos (by simp), e0, if_neg (by omega), if_neg (by omega), show wrap64 (0 + 1) = 1 by unfold wrap64; omega]
  rw [num_small.l0, if_pos (by simp), if_pos (by omega), if_pos (by simp), e1, if_neg (by omega), if_neg (by omega), show wrap64 (1 + 1) = 2 by unfold wrap64; omega]
  rw [num_small.l0, if_neg (by simp)]
theorem nRound_f (k : Nat) {a b : Int} (h0 : 0 ≤ a) (h1 : a ≤ 1125899906842624) (hb : 1 ≤ b) (hb2 : b ≤ 1125899906842624) (hk : 5 ≤ k) : num_Round.f k a b = some (nr a b, 0) := by
  unfold num_Round.f
  rw [nSmall_f k a b (by omega) (by omega) hk, Option.bind_some, if_pos rfl, if_neg (by omega), if_neg (by omega), nNearest_f h0 h1 hb hb2, Option.bind_some]
theorem rDown_f {a b : Int} (h0 : 0 ≤ a) (h1 : a ≤ 1125899906842624) (hb : 1 ≤ b) (hb2 : b ≤ 1125899906842624) : dancestudioref01_down.f a b = some (a / b, a % b) := by
  have := div_bd h0 hb
  unfold dancestudioref01_down.f
  rw [if_neg (by omega), Int.tmod_eq_emod_of_nonneg h0, Int.tdiv_eq_ediv_of_nonneg h0, if_neg (by omega), w64 (by omega) (by omega)]
theorem rNearest_f {a b : Int} (h0 : 0 ≤ a) (h1 : a ≤ 1125899906842624) (hb : 1 ≤ b) (hb2 : b ≤ 1125899906842624) : dancestudioref01_nearest.f a b = some (nr a b) := by
  have := div_bd h0 hb
  unfold dancestudioref01_nearest.f nr
  rw [rDown_f h0 h1 hb hb2, Option.bind_some]
  simp only
  rw [w64 (x := b - a % b) (by omega) (by omega), w64 (x := a / b + 1) (by omega) (by omega), Int.tmod_eq_emod_of_nonneg (by omega)]
  by_cases c : a % b > b - a % b
  · rw [if_pos c, if_pos (c := 2 * (a % b) > b) (by omega)]
  · rw [if_neg c, if_neg (c := 2 * (a % b) > b) (by omega)]
    by_cases c2 : a % b = b - a % b
    · rw [if_pos c2, if_pos (c := 2 * (a % b) = b) (by omega)]
      split <;> rfl
    · rw [if_neg c2, if_neg (c := 2 * (a % b) = b) (by omega)]
theorem rSmall_f {a : Int} (ha : -1125899906842624 ≤ a ∧ a ≤ 1125899906842624) : dancestudioref01_Small.f a = some true := by
  unfold dancestudioref01_Small.f
  rw [if_pos (by omega), decide_eq_true ha.2]
theorem rRound_f (k : Nat) {a b : Int} (h0 : 0 ≤ a) (h1 : a ≤ 1125899906842624) (hb : 1 ≤ b) (hb2 : b ≤ 1125899906842624) (hk : 5 ≤ k) : dancestudioref01_Round.f k a b = some (nr a b, 0) := by
  obtain ⟨k, rfl⟩ : ∃ m, k = m + 1 := ⟨k - 1, by omega⟩
  unfold dancestudioref01_Round.f
  rw [rSmall_f (by omega), Option.bind_some, if_pos rfl, rSmall_f (by omega), Option.bind_some, dancestudioref01_Round.j0, if_neg (by simp), if_neg (by omega), if_neg (by omega), rNearest_f h0 h1 hb hb2, Option.bind_some]
/-- Each tempo scaled, where none is too long. -/
def scl (p q : Int) : List St → Option (List St)
  | [] => some []
  | x :: l => if nr (x.f1 * p) q > 4194304 then none else (scl p q l).map (fun s => (⟨x.f0, max (nr (x.f1 * p) q) 1⟩ : St) :: s)
def fin (acc : List St) : Option (List St) → List St × Int
  | none => ([], 1)
  | some s => (acc ++ s, 0)
theorem mul_bd {a p : Int} (h0 : 1 ≤ a) (h1 : a ≤ 4194304) (hp : 1 ≤ p) (hp2 : p ≤ 1000) : 0 ≤ a * p ∧ a * p ≤ 4194304000 :=
  ⟨Int.mul_nonneg (by omega) (by omega), Int.le_trans (Int.mul_le_mul h1 hp2 (by omega) (by omega)) (by decide)⟩
theorem tScaled_l0 (l : List St) (hl : l.length ≤ 64) (hok : ∀ x ∈ l, Ok x) (p q : Int) (hp : 1 ≤ p ∧ p ≤ 1000) (hq : 1 ≤ q ∧ q ≤ 1000) : ∀ (s : List St) (i k : Nat) (acc : List St), l.drop i = s → acc.length = i → s.length + 10 < k →
    tempo_Scaled.l0 k p q (acc ++ s) l (l.length : Int) (i : Int) = some (fin acc (scl p q s)) := by
  intro s
  induction s with
  | nil =>
    intro i k acc hd ha hk
    obtain ⟨k, rfl⟩ : ∃ m, k = m + 1 := ⟨k - 1, by omega⟩
    have hi : l.length ≤ i := List.drop_eq_nil_iff.1 hd
    rw [tempo_Scaled.l0, if_neg (by omega)]
    rfl
  | cons x s ih =>
    intro i k acc hd ha hk
    simp only [List.length_cons] at hk
    obtain ⟨k, rfl⟩ : ∃ m, k = m + 1 := ⟨k - 1, by omega⟩
    obtain ⟨hx, hi, hn⟩ := rdT hd
    obtain ⟨q0, q1, q2, q3⟩ := hok x (List.mem_of_mem_drop (hd ▸ List.mem_cons_self ..))
    have hm := mul_bd q2 q3 hp.1 hp.2
    rw [tempo_Scaled.l0, if_pos (by omega), if_pos (by omega), if_pos (by omega), hx, w64 (x := x.f1 * p) (by omega) (by omega), nRound_f k hm.1 (by omega) hq.1 (by omega) (by omega), Option.bind_some]
    simp only [scl]
    by_cases c : nr (x.f1 * p) q > 4194304
    · rw [if_pos trivial, if_pos c, if_pos c]
      rfl
    · have er : rd_T38 (acc ++ x :: s) (i : Int) = x := by
        unfold rd_T38
        simp [List.getD_eq_getElem?_getD, ha]
      rw [if_pos trivial, if_neg c, if_neg c, if_pos (by simp; omega), er, mx_eq, Int.toNat_natCast, ← ha, List.set_append_right _ _ (Nat.le_refl _), Nat.sub_self, List.set_cons_zero, w64 (by omega) (by omega), show (acc.length : Int) + 1 = ((i + 1 : Nat) : Int) by omega]
      have := ih (i + 1) k (acc ++ [⟨x.f0, max (nr (x.f1 * p) q) 1⟩]) hn (by simp [ha]) (by omega)
      rw [List.append_assoc] at this
      rw [List.cons_append, List.nil_append] at this
      rw [this]
      cases scl p q s with
      | none => rfl
      | some s' => simp [fin]
theorem rScaled_l0 (l : List St) (hl : l.length ≤ 64) (hok : ∀ x ∈ l, Ok x) (p q : Int) (hp : 1 ≤ p ∧ p ≤ 1000) (hq : 1 ≤ q ∧ q ≤ 1000) : ∀ (s : List St) (i k : Nat) (acc : List St), l.drop i = s → acc.length = i → s.length + 10 < k →
    dancestudioref14_Scaled.l0 k l p q acc (i : Int) = some (fin acc (scl p q s)) := by
  intro s
  induction s with
  | nil =>
    intro i k acc hd ha hk
    obtain ⟨k, rfl⟩ : ∃ m, k = m + 1 := ⟨k - 1, by omega⟩
    have hi : l.length ≤ i := List.drop_eq_nil_iff.1 hd
    rw [dancestudioref14_Scaled.l0, if_neg (by omega)]
    simp [scl, fin]
  | cons x s ih =>
    intro i k acc hd ha hk
    simp only [List.length_cons] at hk
    obtain ⟨k, rfl⟩ : ∃ m, k = m + 1 := ⟨k - 1, by omega⟩
    obtain ⟨hx, hi, hn⟩ := rdT hd
    obtain ⟨q0, q1, q2, q3⟩ := hok x (List.mem_of_mem_drop (hd ▸ List.mem_cons_self ..))
    have hm := mul_bd q2 q3 hp.1 hp.2
    rw [dancestudioref14_Scaled.l0, if_pos (by omega), if_pos (by omega), hx, w64 (x := x.f1 * p) (by omega) (by omega), rRound_f k hm.1 (by omega) hq.1 (by omega) (by omega), Option.bind_some, w64 (by omega) (by omega), show (i : Int) + 1 = ((i + 1 : Nat) : Int) by omega]
    simp only [scl]
    have key : ∀ v : St, dancestudioref14_Scaled.l0 k l p q (acc ++ [v]) ((i + 1 : Nat) : Int) = some (fin acc ((scl p q s).map (fun s => v :: s))) := by
      intro v
      rw [ih (i + 1) k _ hn (by simp [ha]) (by omega)]
      cases scl p q s with
      | none => rfl
      | some s' => simp [fin]
    by_cases c1 : nr (x.f1 * p) q < 1
    · rw [if_pos c1, if_neg (by decide), if_pos (by omega), key, if_neg (by omega), show max (nr (x.f1 * p) q) 1 = 1 by omega]
    · rw [if_neg c1]
      by_cases c : nr (x.f1 * p) q > 4194304
      · rw [if_pos c, if_pos c]
        rfl
      · rw [if_neg c, if_neg c, if_pos (by omega), key, show max (nr (x.f1 * p) q) 1 = nr (x.f1 * p) q by omega]
def scd (l : List St) (p q : Int) : List St × Int := if chk l = 0 then (if (1 ≤ p ∧ p ≤ 1000) ∧ (1 ≤ q ∧ q ≤ 1000) then fin [] (scl p q l) else ([], 1)) else ([], chk l)
theorem tScaled_f (k : Nat) (l : List St) (p q : Int) (hk : 200 ≤ k) : tempo_Scaled.f k l p q = some (scd l p q) := by
  obtain ⟨k, rfl⟩ : ∃ m, k = m + 1 := ⟨k - 1, by omega⟩
  unfold tempo_Scaled.f scd
  rw [tCheck_f (k + 1) l hk, Option.bind_some]
  by_cases h : chk l = 0
  · have hV := chk_V h
    have hl := hV.le
    rw [if_pos h, if_pos h, within_f, Option.bind_some]
    by_cases c1 : 1 ≤ p ∧ p ≤ 1000
    · rw [decide_eq_true c1, if_pos rfl, within_f, Option.bind_some, tempo_Scaled.j0]
      by_cases c2 : 1 ≤ q ∧ q ≤ 1000
      · rw [decide_eq_true c2, if_neg (by simp), if_pos ⟨c1, c2⟩]
        unfold api_Tempo_32.f
        rw [Option.bind_some, if_pos (by simp; omega), Option.bind_some]
        exact tScaled_l0 l hl hV.ok p q c1 c2 l 0 k [] rfl rfl (by omega)
      · rw [decide_eq_false c2, if_pos (by simp), if_neg (by omega)]
    · rw [decide_eq_false c1, if_neg (by simp), tempo_Scaled.j0, if_pos rfl, if_neg (by omega)]
  · rw [if_neg h, if_neg h]
theorem rScaled_f (k : Nat) (l : List St) (p q : Int) (hk : 200 ≤ k) : dancestudioref14_Scaled.f k l p q = some (scd l p q) := by
  obtain ⟨k, rfl⟩ : ∃ m, k = m + 1 := ⟨k - 1, by omega⟩
  unfold dancestudioref14_Scaled.f scd
  rw [rCheck_f (k + 1) l hk, Option.bind_some]
  by_cases h : chk l = 0
  · have hV := chk_V h
    have hl := hV.le
    rw [if_pos h, if_pos h]
    simp only [dancestudioref14_Scaled.j0]
    rw [if_pos trivial]
    by_cases c1 : p < 1
    · rw [if_pos c1, if_neg (by omega)]
    · rw [if_neg c1]
      by_cases c2 : p > 1000
      · rw [if_pos c2, if_neg (by omega)]
      · rw [if_neg c2]
        by_cases c3 : q < 1
        · rw [if_pos c3, if_neg (by omega)]
        · rw [if_neg c3]
          by_cases c4 : q > 1000
          · rw [decide_eq_true c4, if_pos rfl, if_neg (by omega)]
          · rw [decide_eq_false c4, if_neg (by simp), if_pos (by omega)]
            exact rScaled_l0 l hl hV.ok p q (by omega) (by omega) l 0 k [] rfl rfl (by omega)
  · rw [if_neg h, if_neg h]
/-! ### equal lists -/
theorem same_l0 (a : List St) (ha : a.length ≤ 1000000) : ∀ (d i k : Nat), i + d = a.length → d < k → dancestudioref14_Same.l0 k a a (i : Int) = some true := by
  intro d
  induction d with
  | zero =>
    intro i k h hk
    obtain ⟨k, rfl⟩ : ∃ q, k = q + 1 := ⟨k - 1, by omega⟩
    rw [dancestudioref14_Same.l0, if_neg (by omega)]
  | succ d ih =>
    intro i k h hk
    obtain ⟨k, rfl⟩ : ∃ q, k = q + 1 := ⟨k - 1, by omega⟩
    rw [dancestudioref14_Same.l0, if_pos (by omega), if_pos (by omega), if_pos (by omega), if_neg (by simp), w64 (by omega) (by omega), show (i : Int) + 1 = ((i + 1 : Nat) : Int) by omega]
    exact ih (i + 1) k (by omega) (by omega)
theorem same_f (k : Nat) (a : List St) (ha : a.length ≤ 1000000) (hk : a.length < k) : dancestudioref14_Same.f k a a = some true := by
  unfold dancestudioref14_Same.f
  rw [if_pos rfl]
  exact same_l0 a ha a.length 0 k (by omega) hk
end Go.Proofs.Ythgngebcfggcfaa.TmImpl
