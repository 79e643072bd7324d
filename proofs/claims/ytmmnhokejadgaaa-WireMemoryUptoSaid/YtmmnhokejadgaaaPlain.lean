/- The plain mathematics of the wire encoding: zigzag, varints, and how they are read. -/
import Derived.Test.YtmmnhokejadgaaaXWInvWordsMore
import Derived.Laws.BitsAllLaws
import Derived.Laws.Bits64
namespace Go.Proofs.Ytmmnhokejadgaaa.WPlain
open Go.RowKit Go.Proofs.YtmmnhokejadgaaaW.PrintWords

/-- The unsigned number by which an integer is encoded. -/
def zz (n : Int) : Nat := if n < 0 then (-2 * n - 1).toNat else (2 * n).toNat
/-- The integer of an unsigned number. -/
def unzz (u : Nat) : Int := if u % 2 = 1 then -((u / 2 : Nat) : Int) - 1 else ((u / 2 : Nat) : Int)
theorem unzz_zz (n : Int) : unzz (zz n) = n := by
  unfold unzz zz
  split <;> split <;> omega
theorem zz_unzz (u : Nat) : zz (unzz u) = u := by
  unfold unzz zz
  split <;> split <;> omega
theorem zz_lt (n : Int) (h1 : -9223372036854775808 ≤ n) (h2 : n ≤ 9223372036854775807) : zz n < 18446744073709551616 := by
  unfold zz
  split <;> omega
theorem unzz_range (u : Nat) (h : u < 18446744073709551616) : -9223372036854775808 ≤ unzz u ∧ unzz u ≤ 9223372036854775807 := by
  unfold unzz
  split <;> omega

/-- The varint of an unsigned number. -/
def vi (u : Nat) : List Int := if u < 128 then [(u : Int)] else (((u % 128 + 128 : Nat)) : Int) :: vi (u / 128)
termination_by u
decreasing_by omega
theorem vi_small (u : Nat) (h : u < 128) : vi u = [(u : Int)] := by rw [vi, if_pos h]
theorem vi_big (u : Nat) (h : ¬ u < 128) : vi u = (((u % 128 + 128 : Nat)) : Int) :: vi (u / 128) := by rw [vi, if_neg h]
theorem vi_len : ∀ (f u : Nat), u < 128 ^ (f + 1) → (vi u).length ≤ f + 1 := by
  intro f
  induction f with
  | zero =>
    intro u h
    rw [vi_small u (by simpa using h)]
    simp
  | succ f ih =>
    intro u h
    by_cases hs : u < 128
    · rw [vi_small u hs]; simp
    · rw [vi_big u hs]
      have : (vi (u / 128)).length ≤ f + 1 := ih _ (by
        rw [Nat.div_lt_iff_lt_mul (by omega)]
        rw [Nat.pow_succ] at h
        exact h)
      simp only [List.length_cons]
      omega
theorem vi_pos (u : Nat) : 1 ≤ (vi u).length := by
  by_cases hs : u < 128
  · rw [vi_small u hs]; simp
  · rw [vi_big u hs]; simp
theorem vi_len10 (u : Nat) (h : u < 18446744073709551616) : (vi u).length ≤ 10 := vi_len 9 u (by omega)
/-- Its bytes are bytes. -/
theorem vi_bytes (u : Nat) : ∀ x ∈ vi u, 0 ≤ x ∧ x ≤ 255 := by
  induction u using Nat.strongRecOn with
  | _ u ih =>
    by_cases hs : u < 128
    · rw [vi_small u hs]
      intro x hx
      simp at hx
      omega
    · rw [vi_big u hs]
      intro x hx
      rcases List.mem_cons.1 hx with rfl | hx
      · omega
      · exact ih _ (by omega) x hx

/-- The bytes up to the first one below 128, that one, and the rest. -/
def spl : List Int → Option (List Int × Int × List Int)
  | [] => none
  | x :: r => if x < 128 then some ([], x, r) else match spl r with
    | none => none
    | some (p, c, q) => some (x :: p, c, q)
/-- The number that bytes tell. -/
def val : List Int → Nat
  | [] => 0
  | x :: r => x.toNat % 128 + 128 * val r
theorem spl_none {l : List Int} (h : spl l = none) : ∀ x ∈ l, 128 ≤ x := by
  induction l with
  | nil => intro x hx; cases hx
  | cons y r ih =>
    simp only [spl] at h
    split at h
    · cases h
    · rename_i hy
      cases hs : spl r with
      | some z => rw [hs] at h; cases h
      | none =>
        intro x hx
        rcases List.mem_cons.1 hx with rfl | hx
        · omega
        · exact ih hs x hx
theorem spl_some {l p q : List Int} {c : Int} (h : spl l = some (p, c, q)) : l = p ++ c :: q ∧ (∀ x ∈ p, 128 ≤ x) ∧ c < 128 := by
  induction l generalizing p with
  | nil => cases h
  | cons y r ih =>
    simp only [spl] at h
    split at h
    · rename_i hy
      simp only [Option.some.injEq, Prod.mk.injEq] at h
      obtain ⟨rfl, rfl, rfl⟩ := h
      exact ⟨rfl, fun x hx => (by cases hx), hy⟩
    · rename_i hy
      cases hs : spl r with
      | none => rw [hs] at h; cases h
      | some z =>
        obtain ⟨p', c', q'⟩ := z
        rw [hs] at h
        simp only [Option.some.injEq, Prod.mk.injEq] at h
        obtain ⟨rfl, rfl, rfl⟩ := h
        obtain ⟨h1, h2, h3⟩ := ih hs
        refine ⟨by rw [h1]; rfl, fun x hx => ?_, h3⟩
        rcases List.mem_cons.1 hx with rfl | hx
        · omega
        · exact h2 x hx
theorem spl_mk {p q : List Int} {c : Int} (hp : ∀ x ∈ p, 128 ≤ x) (hc : c < 128) : spl (p ++ c :: q) = some (p, c, q) := by
  induction p with
  | nil => simp [spl, hc]
  | cons y r ih =>
    have hy := hp y List.mem_cons_self
    simp only [List.cons_append, spl]
    rw [if_neg (by omega), ih (fun x hx => hp x (List.mem_cons_of_mem _ hx))]
theorem spl_all {l : List Int} (h : ∀ x ∈ l, 128 ≤ x) : spl l = none := by
  induction l with
  | nil => rfl
  | cons y r ih =>
    have hy := h y List.mem_cons_self
    simp only [spl]
    rw [if_neg (by omega), ih (fun x hx => h x (List.mem_cons_of_mem _ hx))]

/-- What TakeInt returns. -/
def tki (l : List Int) : Int × Int × Int := match spl l with
  | none => (0, 0, 13)
  | some (p, c, _) => if 9 < p.length ∨ (p.length = 9 ∧ 1 < c) then (0, 0, 12) else if 0 < p.length ∧ c = 0 then (0, 0, 2) else (unzz (val (p ++ [c])), (p.length : Int) + 1, 0)

/-- A varint, parted. -/
theorem vi_spl (u : Nat) : ∃ p c, vi u = p ++ [c] ∧ (∀ x ∈ p, 128 ≤ x) ∧ c < 128 ∧ 0 ≤ c ∧ (p ≠ [] → c ≠ 0) ∧ val (p ++ [c]) = u := by
  induction u using Nat.strongRecOn with
  | _ u ih =>
    by_cases hs : u < 128
    · refine ⟨[], u, vi_small u hs, fun x hx => (by cases hx), by omega, by omega, fun h => absurd rfl h, ?_⟩
      simp [val]; omega
    · obtain ⟨p, c, h1, h2, h3, h4, h5, h6⟩ := ih (u / 128) (by omega)
      refine ⟨((u % 128 + 128 : Nat) : Int) :: p, c, by rw [vi_big u hs, h1]; rfl, fun x hx => ?_, h3, h4, fun _ => ?_, ?_⟩
      · rcases List.mem_cons.1 hx with rfl | hx
        · omega
        · exact h2 x hx
      · cases p with
        | nil =>
          intro hc
          simp [val, hc] at h6
          omega
        | cons a b => exact h5 (by simp)
      · simp only [List.cons_append, val, h6]; omega
/-- A number's bytes, written again. -/
theorem vi_val (p : List Int) : ∀ (c : Int), (∀ x ∈ p, 128 ≤ x ∧ x ≤ 255) → 0 ≤ c → c < 128 → (p ≠ [] → c ≠ 0) → vi (val (p ++ [c])) = p ++ [c] := by
  induction p with
  | nil =>
    intro c _ h0 h1 _
    have : val ([] ++ [c]) = c.toNat := by simp [val]; omega
    rw [this, vi_small _ (by omega)]
    simp; omega
  | cons y r ih =>
    intro c hp h0 h1 hc
    have hy := hp y List.mem_cons_self
    have hr : vi (val (r ++ [c])) = r ++ [c] := ih c (fun x hx => hp x (List.mem_cons_of_mem _ hx)) h0 h1 (fun _ => hc (by simp))
    have hpos : 0 < val (r ++ [c]) := by
      apply Nat.pos_of_ne_zero
      intro e
      rw [e, vi_small 0 (by omega)] at hr
      cases r with
      | nil => simp at hr; exact hc (by simp) hr.symm
      | cons a b => have := congrArg List.length hr; simp at this
    simp only [List.cons_append, val]
    rw [vi_big _ (by omega)]
    rw [show (y.toNat % 128 + 128 * val (r ++ [c])) / 128 = val (r ++ [c]) by omega, hr]
    congr 1
    omega
theorem val_lt : ∀ (l : List Int), val l < 128 ^ l.length := by
  intro l
  induction l with
  | nil => simp [val]
  | cons y r ih =>
    simp only [val, List.length_cons, Nat.pow_succ]
    omega
theorem val_append (p : List Int) (c : Int) : val (p ++ [c]) = val p + 128 ^ p.length * (c.toNat % 128) := by
  induction p with
  | nil => simp [val]
  | cons y r ih =>
    simp only [List.cons_append, val, ih, List.length_cons, Nat.pow_succ]
    rw [Nat.mul_add, Nat.mul_comm (128 ^ r.length) 128, Nat.mul_assoc]
    omega
/-- A number that TakeInt takes has 64 bits. -/
theorem val_lt64 (p : List Int) (c : Int) (h : ¬ (9 < p.length ∨ (p.length = 9 ∧ 1 < c))) (h1 : c < 128) (h0 : 0 ≤ c) : val (p ++ [c]) < 18446744073709551616 := by
  by_cases h9 : p.length = 9
  · rw [val_append]
    have := val_lt p
    rw [h9] at this ⊢
    have : c.toNat % 128 ≤ 1 := by omega
    have h2 : 128 ^ 9 * (c.toNat % 128) ≤ 128 ^ 9 * 1 := Nat.mul_le_mul_left _ this
    omega
  · have := val_lt (p ++ [c])
    have hl : (p ++ [c]).length ≤ 9 := by simp; omega
    have := Nat.pow_le_pow_right (n := 128) (by omega) hl
    omega

/-- What was written is read back, with any bytes after it. -/
theorem tki_vi (u : Nat) (h : u < 18446744073709551616) (r : List Int) : tki (vi u ++ r) = (unzz u, ((vi u).length : Int), 0) := by
  obtain ⟨p, c, h1, h2, h3, h4, h5, h6⟩ := vi_spl u
  have hl := vi_len10 u h
  rw [h1, List.append_assoc]
  unfold tki
  rw [show p ++ ([c] ++ r) = p ++ c :: r from rfl, spl_mk h2 h3]
  simp only
  rw [h1] at hl
  simp at hl
  rw [if_neg, if_neg, h6]
  · simp
  · intro hh
    exact h5 (by intro e; rw [e] at hh; simp at hh) hh.2
  · intro hh
    rcases hh with hh | ⟨h9, hc⟩
    · omega
    · rw [val_append, h9] at h6
      have : 2 ≤ c.toNat % 128 := by omega
      have h2 : 128 ^ 9 * 2 ≤ 128 ^ 9 * (c.toNat % 128) := Nat.mul_le_mul_left _ this
      omega
/-- A part of an encoding is truncated. -/
theorem tki_cut (u : Nat) (j : Nat) (hj : j < (vi u).length) : tki ((vi u).take j) = (0, 0, 13) := by
  obtain ⟨p, c, h1, h2, _⟩ := vi_spl u
  rw [h1] at hj ⊢
  simp at hj
  rw [List.take_append_of_le_length (by omega)]
  unfold tki
  rw [spl_all (fun x hx => h2 x (List.mem_of_mem_take hx))]
/-- What is read was written so. -/
theorem tki_once (l : List Int) (hb : ∀ x ∈ l, 0 ≤ x ∧ x ≤ 255) (h : (tki l).2.2 = 0) :
    ∃ u r, u < 18446744073709551616 ∧ l = vi u ++ r ∧ tki l = (unzz u, ((vi u).length : Int), 0) := by
  unfold tki at h ⊢
  cases hs : spl l with
  | none => rw [hs] at h; simp at h
  | some z =>
    obtain ⟨p, c, q⟩ := z
    obtain ⟨rfl, h2, h3⟩ := spl_some hs
    have h0 : 0 ≤ c := (hb c (by simp)).1
    rw [hs] at h
    simp only at h ⊢
    split at h
    · simp at h
    · rename_i h9
      split at h
      · simp at h
      · rename_i hz
        refine ⟨val (p ++ [c]), q, val_lt64 p c h9 h3 h0, ?_, ?_⟩
        · rw [vi_val p c (fun x hx => ⟨h2 x hx, (hb x (by simp [hx])).2⟩) h0 h3 (fun hp hc => hz ⟨by cases p <;> simp at hp ⊢, hc⟩)]
          simp
        · rw [if_neg h9, if_neg hz, vi_val p c (fun x hx => ⟨h2 x hx, (hb x (by simp [hx])).2⟩) h0 h3 (fun hp hc => hz ⟨by cases p <;> simp at hp ⊢, hc⟩)]
          simp
/-- Any outcome: a failure returns nothing else. -/
theorem tki_bad (l : List Int) (h : (tki l).2.2 ≠ 0) : (tki l).1 = 0 ∧ (tki l).2.1 = 0 := by
  unfold tki at h ⊢
  split <;> simp_all
  split <;> simp_all
  split <;> simp_all
/-- What is taken lies in the bytes. -/
theorem tki_len (l : List Int) : 0 ≤ (tki l).2.1 ∧ (tki l).2.1 ≤ l.length ∧ (tki l).2.1 ≤ 10 := by
  unfold tki
  cases hs : spl l with
  | none => simp
  | some z =>
    obtain ⟨p, c, q⟩ := z
    obtain ⟨rfl, h2, h3⟩ := spl_some hs
    simp only
    split
    · simp; omega
    · split
      · simp; omega
      · simp; omega
end Go.Proofs.Ytmmnhokejadgaaa.WPlain
