/- The statement TempoRamp over numbers and lists. -/
import Derived.Test.YthgngebcfggcfaaX33
import Derived.Test.YthgngebcfggcfaaX32
import Derived.Test.YthgngebcfggcfaaX17
import Derived.Test.YthgngebcfggcfaaX16
import Derived.Test.YthgngebcfggcfaaTmAwake
import Derived.Test.YthgngebcfggcfaaX90
namespace Go.Proofs.Ythgngebcfggcfaa.Pure
open Go.RowKit Go.Proofs.YthgngebcfggcfaaW.PrintWords Go.Proofs.Ythgngebcfggcfaa.X Go.Proofs.Ythgngebcfggcfaa.Tm Go.Proofs.Ythgngebcfggcfaa.TmImpl
set_option linter.unusedVariables false
set_option linter.unusedSimpArgs false
theorem lerp_arg {a b i n : Int} (ha : 1 ≤ a ∧ a ≤ 1048576) (hb : 1 ≤ b ∧ b ≤ 1048576) (hi : 0 ≤ i ∧ i ≤ n) (hn : 1 ≤ n ∧ n ≤ 63) :
    wrap64 (wrap64 (a * wrap64 (n - i)) + wrap64 (b * i)) = a * (n - i) + b * i ∧ 0 ≤ a * (n - i) + b * i ∧ a * (n - i) + b * i ≤ 1125899906842624 := by
  have h1 : 0 ≤ a * (n - i) ∧ a * (n - i) ≤ 66060288 := ⟨Int.mul_nonneg (by omega) (by omega), Int.le_trans (Int.mul_le_mul ha.2 (show n - i ≤ 63 by omega) (by omega) (by omega)) (by decide)⟩
  have h2 : 0 ≤ b * i ∧ b * i ≤ 66060288 := ⟨Int.mul_nonneg (by omega) (by omega), Int.le_trans (Int.mul_le_mul hb.2 (show i ≤ 63 by omega) (by omega) (by omega)) (by decide)⟩
  rw [w64 (x := n - i) (by omega) (by omega), w64 (x := a * (n - i)) (by omega) (by omega), w64 (x := b * i) (by omega) (by omega), w64 (by omega) (by omega)]
  exact ⟨rfl, by omega, by omega⟩
theorem nLerp_f {a b i n : Int} (ha : 1 ≤ a ∧ a ≤ 1048576) (hb : 1 ≤ b ∧ b ≤ 1048576) (hi : 0 ≤ i ∧ i ≤ n) (hn : 1 ≤ n ∧ n ≤ 63) : num_Lerp.f a b i n = some (nr (a * (n - i) + b * i) n, 0) := by
  obtain ⟨e, h0, h1⟩ := lerp_arg ha hb hi hn
  unfold num_Lerp.f
  rw [if_neg (by omega), if_neg (by omega), if_neg (by omega), if_neg (by omega), if_neg (by omega), if_neg (by omega), if_neg (by omega), if_neg (by omega), e, nNearest_f h0 h1 hn.1 (by omega), Option.bind_some]
theorem rLerp_f {a b i n : Int} (ha : 1 ≤ a ∧ a ≤ 1048576) (hb : 1 ≤ b ∧ b ≤ 1048576) (hi : 0 ≤ i ∧ i ≤ n) (hn : 1 ≤ n ∧ n ≤ 63) : dancestudioref01_Lerp.f a b i n = some (nr (a * (n - i) + b * i) n, 0) := by
  obtain ⟨e, h0, h1⟩ := lerp_arg ha hb hi hn
  unfold dancestudioref01_Lerp.f
  rw [if_neg (by omega), if_neg (by omega), if_neg (by omega), if_neg (by omega), if_neg (by omega), if_neg (by omega), if_neg (by omega), if_neg (by omega), e, rNearest_f h0 h1 hn.1 (by omega), Option.bind_some]
def rl (s n e a b : Int) : Nat → Int → List St
  | 0, _ => [⟨wrap64 (s + wrap64 (n * e)), b⟩]
  | d + 1, i => ⟨wrap64 (s + wrap64 (i * e)), nr (a * (n - i) + b * i) n⟩ :: rl s n e a b d (i + 1)
theorem rl_len (s n e a b : Int) : ∀ (d : Nat) (i : Int), (rl s n e a b d i).length = d + 1 := by
  intro d
  induction d with
  | zero => intro i; rfl
  | succ d ih => intro i; simp only [rl, List.length_cons]; rw [ih]
theorem tRamp_l0 (s n e a b : Int) (ha : 1 ≤ a ∧ a ≤ 1048576) (hb : 1 ≤ b ∧ b ≤ 1048576) (hn : 1 ≤ n ∧ n ≤ 63) : ∀ (d : Nat) (i : Int) (k : Nat) (acc : List St), 0 ≤ i → i + d = n → (acc.length : Int) = i → d < k →
    tempo_Ramp.l0 k s n e a b acc n i = some (acc ++ rl s n e a b d i, 0) := by
  intro d
  induction d with
  | zero =>
    intro i k acc h0 h1 h2 hk
    obtain ⟨k, rfl⟩ : ∃ m, k = m + 1 := ⟨k - 1, by omega⟩
    rw [tempo_Ramp.l0, if_neg (by omega), if_pos (by omega)]
    rfl
  | succ d ih =>
    intro i k acc h0 h1 h2 hk
    obtain ⟨k, rfl⟩ : ∃ m, k = m + 1 := ⟨k - 1, by omega⟩
    rw [tempo_Ramp.l0, if_pos (by omega), nLerp_f ha hb ⟨h0, by omega⟩ hn, Option.bind_some, if_pos rfl, if_pos (by omega), w64 (x := i + 1) (by omega) (by omega)]
    rw [ih (i + 1) k _ (by omega) (by omega) (by simp; omega) (by omega), List.append_assoc]
    rfl
theorem rRamp_l0 (s n e a b : Int) (ha : 1 ≤ a ∧ a ≤ 1048576) (hb : 1 ≤ b ∧ b ≤ 1048576) (hn : 1 ≤ n ∧ n ≤ 63) : ∀ (d : Nat) (i : Int) (k : Nat) (acc : List St), 0 ≤ i → i + d = n → (acc.length : Int) = i → d < k →
    dancestudioref14_Ramp.l0 k s n e a b acc i = some (acc ++ rl s n e a b d i, 0) := by
  intro d
  induction d with
  | zero =>
    intro i k acc h0 h1 h2 hk
    obtain ⟨k, rfl⟩ : ∃ m, k = m + 1 := ⟨k - 1, by omega⟩
    rw [dancestudioref14_Ramp.l0, if_neg (by omega), if_pos (by omega)]
    rfl
  | succ d ih =>
    intro i k acc h0 h1 h2 hk
    obtain ⟨k, rfl⟩ : ∃ m, k = m + 1 := ⟨k - 1, by omega⟩
    rw [dancestudioref14_Ramp.l0, if_pos (by omega), rLerp_f ha hb ⟨h0, by omega⟩ hn, Option.bind_some, if_pos (by omega), w64 (x := i + 1) (by omega) (by omega)]
    rw [ih (i + 1) k _ (by omega) (by omega) (by simp; omega) (by omega), List.append_assoc]
    rfl
def rmp (s n e a b : Int) : List St × Int :=
  if (0 ≤ s ∧ s ≤ 8192) ∧ (1 ≤ a ∧ a ≤ 1048576) ∧ (1 ≤ b ∧ b ≤ 1048576) ∧ (1 ≤ n ∧ n ≤ 63) ∧ (1 ≤ e ∧ e ≤ 24) ∧ wrap64 (s + wrap64 (n * e)) ≤ 8192 then (rl s n e a b n.toNat 0, 0) else ([], 1)
theorem tRamp_f (k : Nat) (s n e a b : Int) (hk : 200 ≤ k) : tempo_Ramp.f k s n e a b = some (rmp s n e a b) := by
  obtain ⟨k, rfl⟩ : ∃ m, k = m + 2 := ⟨k - 2, by omega⟩
  have j0 : tempo_Ramp.j0 (k + 2) s n e a b true = some ([], 1) := by rw [tempo_Ramp.j0, if_pos rfl]
  have j1 : tempo_Ramp.j1 (k + 1) s n e a b true = some ([], 1) := by rw [tempo_Ramp.j1, if_pos rfl]
  unfold tempo_Ramp.f rmp
  rw [within_f, Option.bind_some]
  by_cases c1 : 0 ≤ s ∧ s ≤ 8192
  · rw [decide_eq_true c1, if_pos rfl, within_f, Option.bind_some]
    by_cases c2 : 1 ≤ a ∧ a ≤ 1048576
    · rw [decide_eq_true c2, if_pos rfl, within_f, Option.bind_some]
      by_cases c3 : 1 ≤ b ∧ b ≤ 1048576
      · rw [decide_eq_true c3, Bool.not_true, tempo_Ramp.j0, if_neg (by simp), within_f, Option.bind_some]
        by_cases c4 : 1 ≤ n ∧ n ≤ 63
        · rw [decide_eq_true c4, if_pos rfl, within_f, Option.bind_some]
          by_cases c5 : 1 ≤ e ∧ e ≤ 24
          · rw [decide_eq_true c5, Bool.not_true, tempo_Ramp.j1, if_neg (by simp)]
            by_cases c6 : wrap64 (s + wrap64 (n * e)) > 8192
            · rw [if_pos c6, if_neg (fun h => by have := h.2.2.2.2.2; omega)]
            · rw [if_neg c6, if_pos ⟨c1, c2, c3, c4, c5, by omega⟩, tRamp_l0 s n e a b c2 c3 c4 n.toNat 0 k [] (by omega) (by omega) rfl (by omega)]
              rfl
          · rw [decide_eq_false c5, Bool.not_false, j1, if_neg (fun h => c5 h.2.2.2.2.1)]
        · rw [decide_eq_false c4, if_neg (by simp), j1, if_neg (fun h => c4 h.2.2.2.1)]
      · rw [decide_eq_false c3, Bool.not_false, j0, if_neg (fun h => c3 h.2.2.1)]
    · rw [decide_eq_false c2, if_neg (by simp), j0, if_neg (fun h => c2 h.2.1)]
  · rw [decide_eq_false c1, if_neg (by simp), if_neg (fun h => c1 h.1)]
theorem rRamp_f (k : Nat) (s n e a b : Int) (hk : 200 ≤ k) : dancestudioref14_Ramp.f k s n e a b = some (rmp s n e a b) := by
  obtain ⟨k, rfl⟩ : ∃ m, k = m + 2 := ⟨k - 2, by omega⟩
  have j0 : dancestudioref14_Ramp.j0 (k + 2) s n e a b true = some ([], 1) := by rw [dancestudioref14_Ramp.j0, if_pos rfl]
  have j1 : dancestudioref14_Ramp.j1 (k + 1) s n e a b true = some ([], 1) := by rw [dancestudioref14_Ramp.j1, if_pos rfl]
  unfold dancestudioref14_Ramp.f rmp
  by_cases c : (0 ≤ s ∧ s ≤ 8192) ∧ (1 ≤ a ∧ a ≤ 1048576) ∧ (1 ≤ b ∧ b ≤ 1048576)
  · obtain ⟨c1, c2, c3⟩ := c
    rw [if_neg (by omega), if_neg (by omega), if_neg (by omega), if_neg (by omega), if_neg (by omega), decide_eq_false (by omega), dancestudioref14_Ramp.j0, if_neg (by simp)]
    by_cases d : (1 ≤ n ∧ n ≤ 63) ∧ (1 ≤ e ∧ e ≤ 24)
    · obtain ⟨c4, c5⟩ := d
      rw [if_neg (by omega), if_neg (by omega), if_neg (by omega), if_neg (by omega)]
      by_cases c6 : wrap64 (s + wrap64 (n * e)) > 8192
      · rw [decide_eq_true c6, j1, if_neg (fun h => by have := h.2.2.2.2.2; omega)]
      · rw [decide_eq_false c6, dancestudioref14_Ramp.j1, if_neg (by simp), if_pos ⟨c1, c2, c3, c4, c5, by omega⟩, rRamp_l0 s n e a b c2 c3 c4 n.toNat 0 k [] (by omega) (by omega) rfl (by omega)]
        rfl
    · rw [if_neg (c := (0 ≤ s ∧ s ≤ 8192) ∧ (1 ≤ a ∧ a ≤ 1048576) ∧ (1 ≤ b ∧ b ≤ 1048576) ∧ (1 ≤ n ∧ n ≤ 63) ∧ (1 ≤ e ∧ e ≤ 24) ∧ wrap64 (s + wrap64 (n * e)) ≤ 8192) (fun h => d ⟨h.2.2.2.1, h.2.2.2.2.1⟩)]
      by_cases d1 : n < 1
      · rw [if_pos d1, j1]
      · rw [if_neg d1]
        by_cases d2 : n > 63
        · rw [if_pos d2, j1]
        · rw [if_neg d2]
          by_cases d3 : e < 1
          · rw [if_pos d3, j1]
          · rw [if_neg d3, if_pos (by omega), j1]
  · rw [if_neg (c := (0 ≤ s ∧ s ≤ 8192) ∧ (1 ≤ a ∧ a ≤ 1048576) ∧ (1 ≤ b ∧ b ≤ 1048576) ∧ (1 ≤ n ∧ n ≤ 63) ∧ (1 ≤ e ∧ e ≤ 24) ∧ wrap64 (s + wrap64 (n * e)) ≤ 8192) (fun h => c ⟨h.1, h.2.1, h.2.2.1⟩)]
    by_cases d1 : s < 0
    · rw [if_pos d1, j0]
    · rw [if_neg d1]
      by_cases d2 : s > 8192
      · rw [if_pos d2, j0]
      · rw [if_neg d2]
        by_cases d3 : a < 1
        · rw [if_pos d3, j0]
        · rw [if_neg d3]
          by_cases d4 : a > 1048576
          · rw [if_pos d4, j0]
          · rw [if_neg d4]
            by_cases d5 : b < 1
            · rw [if_pos d5, j0]
            · rw [if_neg d5, decide_eq_true (by omega), j0]
theorem rmp_len (s n e a b : Int) : (rmp s n e a b).1.length ≤ 100 := by
  unfold rmp
  split
  · rename_i h
    simp only
    rw [rl_len]
    have := h.2.2.2.1
    omega
  · simp
theorem TempoRamp (s n e a b : Int) : ∃ k, X.dancestudiolaw14_TempoRamp.f k s n e a b = some true := by
  refine ⟨20000, ?_⟩
  generalize hk : 20000 = k
  have hl := rmp_len s n e a b
  unfold dancestudiolaw14_TempoRamp.f
  rw [tRamp_f k _ _ _ _ _ (by omega), Option.bind_some, rRamp_f k _ _ _ _ _ (by omega), Option.bind_some, if_pos rfl, same_f k _ (by omega) (by omega), Option.bind_some, if_pos rfl, awake_f k (by omega), Option.bind_some]
end Go.Proofs.Ythgngebcfggcfaa.Pure
