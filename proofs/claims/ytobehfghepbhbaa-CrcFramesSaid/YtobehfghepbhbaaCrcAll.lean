/- The package crc and its reference, as printed: All. -/
import Derived.Test.YtobehfghepbhbaaX29
import Derived.Test.YtobehfghepbhbaaX28
import Derived.Test.YtobehfghepbhbaaX27
import Derived.Test.YtobehfghepbhbaaCrcWf
namespace Go.Proofs.Ytobehfghepbhbaa.CrcImpl
open Go.RowKit Go.Proofs.YtobehfghepbhbaaW.PrintWords Go.Proofs.Ytobehfghepbhbaa.X Go.Proofs.Ytobehfghepbhbaa.WPlain Go.Proofs.Ytobehfghepbhbaa.WImpl Go.Proofs.Ytobehfghepbhbaa.Crc
set_option linter.unusedVariables false
set_option linter.unusedSimpArgs false

/-- What All returns, in at most n rounds. -/
def alls : Nat → List Int → List (List Int) × Int
  | 0, _ => ([], 0)
  | n + 1, l => if (opn l).2.2 = 0 then ((opn l).1 :: (alls n (l.drop (opn l).2.1.toNat)).1, (opn l).2.1 + (alls n (l.drop (opn l).2.1.toNat)).2) else ([], 0)
theorem tki_one (l : List Int) (h : (tki l).2.2 = 0) : 0 ≤ (tki l).2.1 := (tki_len l).1
theorem opn_len (l : List Int) (h : (opn l).2.2 = 0) : 4 ≤ (opn l).2.1 ∧ (opn l).2.1 ≤ l.length := by
  have hn := tki_len l
  unfold opn at h ⊢
  by_cases h0 : (tki l).2.2 = 0
  · rw [if_pos h0] at h ⊢
    by_cases h1 : (tki l).1 < 0
    · rw [if_pos h1] at h; simp at h
    · rw [if_neg h1] at h ⊢
      by_cases h2 : (tki l).1 > 65536
      · rw [if_pos h2] at h; simp at h
      · rw [if_neg h2] at h ⊢
        by_cases h3 : (l.length : Int) < (tki l).2.1 + 4 + (tki l).1
        · rw [if_pos h3] at h; simp at h
        · rw [if_neg h3] at h ⊢
          split at h
          · rename_i hh; rw [if_pos hh]; simp only; omega
          · simp at h
  · rw [if_neg h0] at h; exact absurd h h0
theorem drop_to (l : List Int) (a : Nat) (n : Int) (h : 0 ≤ n) : l.drop (((a : Int) + n).toNat) = (l.drop a).drop n.toNat := by
  rw [List.drop_drop]
  congr 1
  omega
theorem all_l0 (l : List Int) (hb : BY l) (hl : l.length ≤ 1000000) : ∀ (n a k : Nat) (acc : List (List Int)), a ≤ l.length → l.length - a < n → acc.length ≤ a → 10 * l.length + 60 + n < k →
    crc_All.l0 k l acc (a : Int) = some (acc ++ (alls n (l.drop a)).1, (a : Int) + (alls n (l.drop a)).2) := by
  intro n
  induction n with
  | zero => intro a k acc h1 h2; omega
  | succ n ih =>
    intro a k acc h1 h2 h3 hk
    obtain ⟨k, rfl⟩ : ∃ q, k = q + 1 := ⟨k - 1, by omega⟩
    have hD : BY (l.drop a) := fun y hy => hb y (List.mem_of_mem_drop hy)
    have hlD : (l.drop a).length ≤ l.length := by simp
    rw [crc_All.l0, if_pos (by omega), if_pos (by omega), Int.toNat_natCast, open_f k _ hD (by omega) (by omega), Option.bind_some]
    simp only [alls]
    by_cases h : (opn (l.drop a)).2.2 = 0
    · have hn := opn_len _ h
      have hd : (l.drop a).length = l.length - a := by simp
      rw [if_pos h, if_pos h, if_pos (by omega), w64 (by omega) (by omega)]
      have e : (a : Int) + (opn (l.drop a)).2.1 = ((a + (opn (l.drop a)).2.1.toNat : Nat) : Int) := by omega
      rw [e, ih _ k _ (by omega) (by omega) (by simp; omega) (by omega), ← List.drop_drop]
      simp only [List.append_assoc, List.singleton_append]
      congr 2
      omega
    · rw [if_neg h, if_neg h]
      simp
theorem rall_l0 (l : List Int) (hb : BY l) (hl : l.length ≤ 1000000) : ∀ (n a k : Nat) (acc : List (List Int)), a ≤ l.length → l.length - a < n → acc.length ≤ a → 10 * l.length + 60 + n < k →
    dancestudioref08_All.l0 k l acc (a : Int) = some (acc ++ (alls n (l.drop a)).1, (a : Int) + (alls n (l.drop a)).2) := by
  intro n
  induction n with
  | zero => intro a k acc h1 h2; omega
  | succ n ih =>
    intro a k acc h1 h2 h3 hk
    obtain ⟨k, rfl⟩ : ∃ q, k = q + 1 := ⟨k - 1, by omega⟩
    have hD : BY (l.drop a) := fun y hy => hb y (List.mem_of_mem_drop hy)
    have hlD : (l.drop a).length ≤ l.length := by simp
    rw [dancestudioref08_All.l0, if_pos (by omega), if_pos (by omega), Int.toNat_natCast, ropen_f k _ hD (by omega) (by omega), Option.bind_some]
    simp only [alls]
    by_cases h : (opn (l.drop a)).2.2 = 0
    · have hn := opn_len _ h
      have hd : (l.drop a).length = l.length - a := by simp
      rw [if_pos h, if_pos h, if_pos (by omega), w64 (by omega) (by omega)]
      have e : (a : Int) + (opn (l.drop a)).2.1 = ((a + (opn (l.drop a)).2.1.toNat : Nat) : Int) := by omega
      rw [e, ih _ k _ (by omega) (by omega) (by simp; omega) (by omega), ← List.drop_drop]
      simp only [List.append_assoc, List.singleton_append]
      congr 2
      omega
    · rw [if_neg h, if_neg h]
      simp
theorem all_f (k n : Nat) (l : List Int) (hb : BY l) (hl : l.length ≤ 1000000) (hn : l.length < n) (hk : 10 * l.length + 60 + n < k) : crc_All.f k l = some (alls n l) := by
  unfold crc_All.f
  have h := all_l0 l hb hl n 0 k [] (by omega) (by omega) (by simp) hk
  rw [show (0 : Int) = ((0 : Nat) : Int) from rfl, h]
  simp
theorem rall_f (k n : Nat) (l : List Int) (hb : BY l) (hl : l.length ≤ 1000000) (hn : l.length < n) (hk : 10 * l.length + 60 + n < k) : dancestudioref08_All.f k l = some (alls n l) := by
  unfold dancestudioref08_All.f
  have h := rall_l0 l hb hl n 0 k [] (by omega) (by omega) (by simp) hk
  rw [show (0 : Int) = ((0 : Nat) : Int) from rfl, h]
  simp
theorem alls_len : ∀ (n : Nat) (l : List Int), (alls n l).1.length ≤ n := by
  intro n
  induction n with
  | zero => intro l; simp [alls]
  | succ n ih => intro l; simp only [alls]; split
                 · simp only [List.length_cons]; have := ih (l.drop (opn l).2.1.toNat); omega
                 · simp
theorem lists_l0 (a : List (List Int)) (ha : a.length ≤ 100000000) : ∀ (d i k : Nat), i + d = a.length → d < k → dancestudiolaw08_lists.l0 k a a (i : Int) = some true := by
  intro d
  induction d with
  | zero =>
    intro i k h hk
    obtain ⟨k, rfl⟩ : ∃ q, k = q + 1 := ⟨k - 1, by omega⟩
    rw [dancestudiolaw08_lists.l0, if_neg (by omega)]
  | succ d ih =>
    intro i k h hk
    obtain ⟨k, rfl⟩ : ∃ q, k = q + 1 := ⟨k - 1, by omega⟩
    rw [dancestudiolaw08_lists.l0, if_pos (by omega), if_pos (by omega), if_pos (by omega), if_pos rfl, w64 (by omega) (by omega), show (i : Int) + 1 = ((i + 1 : Nat) : Int) by omega]
    exact ih (i + 1) k (by omega) (by omega)
theorem lists_f (k : Nat) (a : List (List Int)) (ha : a.length ≤ 100000000) (hk : a.length < k) : dancestudiolaw08_lists.f k a a = some true := by
  unfold dancestudiolaw08_lists.f
  rw [if_pos rfl]
  exact lists_l0 a ha a.length 0 k (by omega) (by omega)
end Go.Proofs.Ytobehfghepbhbaa.CrcImpl
