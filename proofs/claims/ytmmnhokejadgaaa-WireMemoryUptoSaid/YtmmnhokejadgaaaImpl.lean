/- The wire package and its reference, as printed, compute the plain encoding. -/
import Derived.Test.YtmmnhokejadgaaaX7
import Derived.Test.YtmmnhokejadgaaaX6
import Derived.Test.YtmmnhokejadgaaaX4
import Derived.Test.YtmmnhokejadgaaaX3
import Derived.Test.YtmmnhokejadgaaaX2
import Derived.Test.YtmmnhokejadgaaaPlain
namespace Go.Proofs.Ytmmnhokejadgaaa.WImpl
open Go.RowKit Go.Proofs.YtmmnhokejadgaaaW.PrintWords Go.Proofs.Ytmmnhokejadgaaa.X Go.Proofs.Ytmmnhokejadgaaa.WPlain
set_option linter.unusedVariables false

theorem w64 {x : Int} (h0 : -9223372036854775808 ≤ x) (h1 : x ≤ 9223372036854775807) : wrap64 x = x := by unfold wrap64; omega
theorem u64w {x : Int} (h0 : 0 ≤ x) (h1 : x < 18446744073709551616) : IntKind.u64.wrap x = x := by rw [IntKind.wrap_u64]; omega
theorem or128 (x : Int) (h0 : 0 ≤ x) (h1 : x < 256) : Go.bits .or .u8 x 128 = x % 128 + 128 := by
  rw [u8_or x 128 h0 h1 (by omega) (by omega)]
  have h : ∀ n : Fin 256, (n.val ||| 128) = n.val % 128 + 128 := by decide +kernel
  have := h ⟨x.toNat, by omega⟩
  simp only at this
  rw [show (128 : Int).toNat = 128 from rfl, this]
  omega
theorem and127 (x : Int) (h0 : 0 ≤ x) (h1 : x < 256) : Go.bits .and .u8 x 127 = x % 128 := by
  rw [u8_and x 127 h0 h1 (by omega) (by omega), show (127 : Int).toNat = 127 from rfl, nat_mask7]
  omega
theorem and1 (x : Int) (h0 : 0 ≤ x) (h1 : x < 18446744073709551616) : Go.bits .and .u64 x 1 = x % 2 := by
  rw [u64_and x 1 h0 h1 (by omega) (by omega), show (1 : Int).toNat = 1 from rfl, nat_mask1]
  omega
theorem not64 (x : Int) (h0 : 0 ≤ x) (h1 : x < 18446744073709551616) : Go.bits .xor .u64 18446744073709551615 x = 18446744073709551615 - x := by
  rw [u64_xor _ x (by omega) (by omega) h0 h1]
  have h := BitVec.allOnes_xor (x := BitVec.ofNat 64 x.toNat)
  have h2 := congrArg BitVec.toNat h
  rw [BitVec.toNat_xor, BitVec.toNat_not, BitVec.toNat_allOnes, BitVec.toNat_ofNat, Nat.mod_eq_of_lt (by omega)] at h2
  rw [show (18446744073709551615 : Int).toNat = 2 ^ 64 - 1 from rfl, h2]
  omega

theorem rd_of_drop {l : List Int} {i : Nat} {x : Int} {r : List Int} (h : l.drop i = x :: r) : rd l (i : Int) = x ∧ i < l.length ∧ l.drop (i + 1) = r := by
  have hi : i < l.length := by
    apply Nat.lt_of_not_le
    intro hh
    rw [List.drop_of_length_le hh] at h
    cases h
  rw [List.drop_eq_getElem_cons hi] at h
  simp only [List.cons.injEq] at h
  refine ⟨?_, hi, h.2⟩
  unfold rd
  simp only [Int.toNat_natCast]
  rw [List.getD_eq_getElem?_getD, List.getElem?_eq_getElem hi]
  exact h.1

/-! ### writing -/
theorem put_l0 (u : Nat) : ∀ (k : Nat) (x0 : List Int), x0.length + (vi u).length ≤ 140737488355328 → (vi u).length < k → wire_put.l0 k x0 (u : Int) = some (x0 ++ vi u) := by
  induction u using Nat.strongRecOn with
  | _ u ih =>
    intro k x0 hl hk
    obtain ⟨k, rfl⟩ : ∃ m, k = m + 1 := ⟨k - 1, by omega⟩
    have hp := vi_pos u
    simp only [wire_put.l0]
    by_cases hs : u < 128
    · rw [if_neg (by omega), if_pos (by omega), vi_small u hs, show (u : Int) % 256 = u by omega]
    · rw [vi_big u hs] at hl hk ⊢
      simp only [List.length_cons] at hl hk
      rw [if_pos (by omega), if_pos (by omega), or128 _ (by omega) (by omega), show (u : Int) / 128 = ((u / 128 : Nat) : Int) by omega, ih (u / 128) (by omega) k _ (by simp; omega) (by omega)]
      rw [show ((u : Int) % 256 % 128 + 128) = ((u % 128 + 128 : Nat) : Int) by omega]
      simp
/-- The encoding of an integer. -/
def enc (n : Int) : List Int := vi (zz n)
def I64 (n : Int) : Prop := -9223372036854775808 ≤ n ∧ n ≤ 9223372036854775807
theorem enc_len (n : Int) (h : I64 n) : (enc n).length ≤ 10 := vi_len10 _ (zz_lt n h.1 h.2)
theorem enc_pos (n : Int) : 1 ≤ (enc n).length := vi_pos _
theorem enc_bytes (n : Int) : ∀ x ∈ enc n, 0 ≤ x ∧ x ≤ 255 := vi_bytes _
theorem put_f (k : Nat) (l : List Int) (n : Int) (hn : I64 n) (hl : l.length + 10 ≤ 140737488355328) (hk : 12 ≤ k) : wire_put.f k l n = some (l ++ enc n) := by
  obtain ⟨k, rfl⟩ : ∃ m, k = m + 1 := ⟨k - 1, by omega⟩
  obtain ⟨h1, h2⟩ := hn
  have hlen := enc_len n ⟨h1, h2⟩
  unfold enc at hlen ⊢
  unfold wire_put.f
  by_cases h : n < 0
  · rw [if_pos h]
    simp only [wire_put.j0]
    rw [show IntKind.u64.wrap (IntKind.u64.wrap n * 2) = 2 * n + 18446744073709551616 by rw [IntKind.wrap_u64, IntKind.wrap_u64]; omega, not64 _ (by omega) (by omega)]
    rw [show 18446744073709551615 - (2 * n + 18446744073709551616) = ((zz n : Nat) : Int) by unfold zz; rw [if_pos h]; omega]
    exact put_l0 _ _ _ (by omega) (by omega)
  · rw [if_neg h]
    simp only [wire_put.j0]
    rw [show IntKind.u64.wrap (IntKind.u64.wrap n * 2) = ((zz n : Nat) : Int) by unfold zz; rw [if_neg h, IntKind.wrap_u64, IntKind.wrap_u64]; omega]
    exact put_l0 _ _ _ (by omega) (by omega)
theorem copied_f (l : List Int) (n : Int) (h0 : 0 ≤ n) (h1 : (l.length : Int) + n ≤ 281474976710656) (hl : l.length < 140737488355328) : wire_copied.f l n = some l := by
  unfold wire_copied.f
  rw [w64 (by omega) (by omega), if_pos (by omega), if_pos (by omega)]
  simp only [Option.bind_some, List.length_nil, Nat.zero_add]
  rw [if_pos hl]
  rfl
theorem putInt_f (k : Nat) (l : List Int) (n : Int) (hn : I64 n) (hl : l.length + 10 ≤ 140737488355328) (hk : 12 ≤ k) : wire_PutInt.f k l n = some (l ++ enc n) := by
  unfold wire_PutInt.f
  rw [copied_f l 10 (by omega) (by omega) (by omega)]
  simp only [Option.bind_some]
  rw [put_f k l n hn hl hk]
  rfl
/-! ### reading -/
def BY (l : List Int) : Prop := ∀ x ∈ l, 0 ≤ x ∧ x ≤ 255
theorem length_l0 : ∀ (r : List Int) (l : List Int) (i k : Nat), l.drop i = r → r.length < k → l.length ≤ 140737488355328 →
    wire_length.l0 k l (l.length : Int) (i : Int) = some (match spl r with | none => 0 | some (p, _, _) => (i : Int) + p.length + 1) := by
  intro r
  induction r with
  | nil =>
    intro l i k h hk hl
    obtain ⟨k, rfl⟩ : ∃ m, k = m + 1 := ⟨k - 1, by omega⟩
    have : l.length ≤ i := by simpa using h
    simp only [wire_length.l0]
    rw [if_neg (by omega)]
    rfl
  | cons x r ih =>
    intro l i k h hk hl
    obtain ⟨k, rfl⟩ : ∃ m, k = m + 1 := ⟨k - 1, by simp at hk; omega⟩
    obtain ⟨h1, h2, h3⟩ := rd_of_drop h
    simp only [wire_length.l0]
    rw [if_pos (by omega), if_pos (by omega), if_pos (by omega), h1]
    by_cases hx : x < 128
    · rw [if_pos hx, w64 (by omega) (by omega)]
      simp [spl, hx]
    · rw [if_neg hx, w64 (by omega) (by omega), show (i : Int) + 1 = ((i + 1 : Nat) : Int) by omega, ih l (i + 1) k h3 (by simp at hk; omega) hl]
      simp only [spl, if_neg hx]
      cases spl r with
      | none => rfl
      | some z => obtain ⟨p, c, q⟩ := z; simp; omega
theorem val_take (q : List Int) (i : Nat) (hi : i < q.length) : val (q.take (i + 1)) = val (q.take i) + 128 ^ i * ((q[i]).toNat % 128) := by
  rw [List.take_succ_eq_append_getElem hi, val_append, List.length_take, Nat.min_eq_left (by omega)]
theorem val_take_le (q : List Int) : ∀ (i : Nat), i ≤ q.length → val (q.take i) ≤ val q := by
  intro i hi
  have : ∀ d, ∀ j, j + d = q.length → val (q.take j) ≤ val q := by
    intro d
    induction d with
    | zero => intro j hj; rw [List.take_of_length_le (by omega)]; exact Nat.le_refl _
    | succ d ih =>
      intro j hj
      have h1 := ih (j + 1) (by omega)
      rw [val_take q j (by omega)] at h1
      omega
  exact this (q.length - i) i (by omega)
theorem pow128 (i : Nat) : (128 : Nat) ^ i = 2 ^ (7 * i) := by rw [Nat.pow_mul]
theorem take_l0 (q r : List Int) (hb : BY q) (hq : q.length ≤ 10) (hv : val q < 18446744073709551616) : ∀ (d i k : Nat), i + d = q.length → d < k →
    wire_TakeInt.l0 k (q ++ r) (q.length : Int) ((val (q.take i) : Nat) : Int) (q.length : Int) (i : Int) = some (unzz (val q), (q.length : Int), 0) := by
  intro d
  induction d with
  | zero =>
    intro i k hi hk
    obtain ⟨k, rfl⟩ : ∃ m, k = m + 1 := ⟨k - 1, by omega⟩
    simp only [wire_TakeInt.l0]
    rw [if_neg (by omega), List.take_of_length_le (by omega), and1 _ (by omega) (by omega)]
    unfold unzz
    by_cases ho : val q % 2 = 1
    · rw [if_pos (by omega), if_pos ho, not64 _ (by omega) (by omega)]
      congr 2
      unfold wrap64
      omega
    · rw [if_neg (by omega), if_neg ho]
      congr 2
      unfold wrap64
      omega
  | succ d ih =>
    intro i k hi hk
    obtain ⟨k, rfl⟩ : ∃ m, k = m + 1 := ⟨k - 1, by omega⟩
    have hiq : i < q.length := by omega
    simp only [wire_TakeInt.l0]
    have hrd : rd (q ++ r) (i : Int) = q[i] := by
      unfold rd
      simp only [Int.toNat_natCast]
      rw [List.getD_eq_getElem?_getD, List.getElem?_append_left hiq, List.getElem?_eq_getElem hiq]
      rfl
    have hbi := hb q[i] (List.getElem_mem hiq)
    rw [if_pos (by omega), if_pos (by omega), if_pos (by simp; omega), w64 (x := 7 * (i : Int)) (by omega) (by omega), if_pos (by omega), hrd, and127 _ hbi.1 (by omega), u64w (by omega) (by omega)]
    have hs := val_take q i hiq
    have hle := val_take_le q (i + 1) (by omega)
    have hlt := val_lt (q.take i)
    rw [List.length_take, Nat.min_eq_left (by omega), pow128] at hlt
    rw [pow128] at hs
    have hsh : shl .u64 (q[i] % 128) (7 * (i : Int)) = ((2 ^ (7 * i) * (q[i].toNat % 128) : Nat) : Int) := by
      unfold shl
      rw [show (7 * (i : Int)).toNat = 7 * i by omega, show min (7 * i) IntKind.u64.bits = 7 * i from Nat.min_eq_left (by simp [IntKind.bits]; omega)]
      rw [show q[i] % 128 = ((q[i].toNat % 128 : Nat) : Int) by omega]
      rw [show ((2 : Int) ^ (7 * i)) = ((2 ^ (7 * i) : Nat) : Int) by simp]
      rw [← Int.natCast_mul, Nat.mul_comm]
      exact u64w (by omega) (by omega)
    rw [hsh, u64_or _ _ (by omega) (by omega) (by omega) (by omega)]
    simp only [Int.toNat_natCast]
    rw [Nat.or_comm, nat_join (7 * i) _ _ (Nat.mul_mod_right _ _) hlt, Nat.add_comm, ← hs, w64 (by omega) (by omega), show (i : Int) + 1 = ((i + 1 : Nat) : Int) by omega]
    exact ih (i + 1) k (by omega) (by omega)
theorem val_drop (q : List Int) (i : Nat) (hi : i < q.length) : val (q.drop i) = q[i].toNat % 128 + 128 * val (q.drop (i + 1)) := by
  rw [List.drop_eq_getElem_cons hi]
  rfl
theorem val_drop_le (q : List Int) : ∀ (i : Nat), i ≤ q.length → val (q.drop i) ≤ val q := by
  intro i
  induction i with
  | zero => intro _; exact Nat.le_refl _
  | succ i ih =>
    intro hi
    have h1 := ih (by omega)
    rw [val_drop q i (by omega)] at h1
    omega
theorem takeInt_f (k : Nat) (l : List Int) (hb : BY l) (hl : l.length ≤ 140737488355328) (hk : l.length + 20 ≤ k) : wire_TakeInt.f k l = some (tki l) := by
  have hlen : wire_length.f k l = _ := length_l0 l l 0 k (by simp) (by omega) hl
  unfold wire_TakeInt.f
  rw [hlen]
  simp only [Option.bind_some]
  obtain ⟨k, rfl⟩ : ∃ m, k = m + 1 := ⟨k - 1, by omega⟩
  unfold tki
  cases hs : spl l with
  | none => simp
  | some z =>
    obtain ⟨p, c, r⟩ := z
    obtain ⟨rfl, h2, h3⟩ := spl_some hs
    have hbc := hb c (by simp)
    have hbq : BY (p ++ [c]) := fun x hx => hb x (by
      rcases List.mem_append.1 hx with hx | hx
      · simp [hx]
      · simp at hx; simp [hx])
    simp only [Int.natCast_zero, Int.zero_add]
    rw [if_neg (by omega)]
    by_cases h9 : 9 < p.length
    · rw [if_pos (by omega), if_pos (.inl h9)]
      simp only [wire_TakeInt.j0, if_true]
    · rw [if_neg (by omega)]
      have hrd : rd (p ++ c :: r) (p.length : Int) = c := (rd_of_drop (l := p ++ c :: r) (i := p.length) (x := c) (r := r) (by simp)).1
      have hj : ¬ (9 < p.length ∨ (p.length = 9 ∧ 1 < c)) → wire_TakeInt.j0 (k + 1) (p ++ c :: r) ((p.length : Int) + 1) false = some (if 0 < p.length ∧ c = 0 then (0, 0, 2) else (unzz (val (p ++ [c])), (p.length : Int) + 1, 0)) := by
        intro hn
        have hv := val_lt64 p c hn h3 hbc.1
        have hend : ∀ k', 20 ≤ k' → wire_TakeInt.j1 k' (p ++ c :: r) ((p.length : Int) + 1) = some (unzz (val (p ++ [c])), (p.length : Int) + 1, 0) := by
          intro k' hk'
          obtain ⟨k', rfl⟩ : ∃ m, k' = m + 1 := ⟨k' - 1, by omega⟩
          simp only [wire_TakeInt.j1]
          have := take_l0 (p ++ [c]) r hbq (by simp; omega) hv (p.length + 1) 0 k' (by simp) (by omega)
          simpa [val] using this
        simp only [wire_TakeInt.j0]
        rw [if_neg (by simp)]
        by_cases h1 : 0 < p.length
        · rw [if_pos (by omega), w64 (by omega) (by omega), if_pos (by omega), if_pos (by simp; omega)]
          rw [show (p.length : Int) + 1 - 1 = p.length by omega, hrd]
          by_cases hc : c = 0
          · rw [if_pos hc, if_pos ⟨h1, hc⟩]
          · rw [if_neg hc, if_neg (fun h => hc h.2)]
            exact hend k (by simp at hk; omega)
        · rw [if_neg (by omega), if_neg (fun h => h1 h.1)]
          exact hend k (by simp at hk; omega)
      by_cases h8 : p.length = 9
      · rw [if_pos (by omega), if_pos (by simp; omega)]
        have hrd9 : rd (p ++ c :: r) 9 = c := by rw [h8] at hrd; exact hrd
        rw [hrd9]
        by_cases hc : 1 < c
        · rw [if_pos (.inr ⟨h8, hc⟩), show decide (c > 1) = true from decide_eq_true hc]
          simp only [wire_TakeInt.j0, if_true]
        · rw [if_neg (by omega), show decide (c > 1) = false from decide_eq_false (by omega)]
          exact hj (by omega)
      · rw [if_neg (by omega), if_neg (by omega)]
        exact hj (by omega)
end Go.Proofs.Ytmmnhokejadgaaa.WImpl
