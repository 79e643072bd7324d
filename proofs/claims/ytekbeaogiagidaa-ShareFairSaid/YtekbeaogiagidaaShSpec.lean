/- What share.Split gives, number by number. -/
import Derived.Test.YtekbeaogiagidaaX5
import Derived.Test.YtekbeaogiagidaaX4
import Derived.Test.YtekbeaogiagidaaShCnt
import Derived.Test.YtekbeaogiagidaaShDivF
import Derived.Test.YtekbeaogiagidaaShStages
import Derived.Test.YtekbeaogiagidaaX16
namespace Go.Proofs.Ytekbeaogiagidaa.Sh
open Go.RowKit Go.Proofs.YtekbeaogiagidaaW.PrintWords Go.Proofs.Ytekbeaogiagidaa.X Go.Proofs.Ytekbeaogiagidaa.So
set_option linter.unusedVariables false
set_option linter.unusedSimpArgs false
/-- An amount. -/
def am (x : Int) : Bool := decide (0 ≤ x ∧ x ≤ 1099511627776)
theorem am_iff (x : Int) : am x = true ↔ 0 ≤ x ∧ x ≤ 1099511627776 := by unfold am; exact decide_eq_true_iff
theorem rd_nat (l : List Int) (i : Nat) (h : i < l.length) : rd l (i : Int) = l[i] := by unfold rd; rw [Int.toNat_natCast, List.getD_eq_getElem?_getD, List.getElem?_eq_getElem h]; rfl
theorem sum_take (l : List Int) (i : Nat) (h : i < l.length) : (l.take (i + 1)).sum = (l.take i).sum + rd l (i : Int) := by
  rw [List.take_succ_eq_append_getElem h, List.sum_append, rd_nat l i h]; simp
theorem sum_range (l : List Int) : (∀ x ∈ l, 0 ≤ x ∧ x ≤ 1099511627776) → 0 ≤ l.sum ∧ l.sum ≤ (l.length : Int) * 1099511627776 := by
  induction l with
  | nil => intro _; simp
  | cons x l ih =>
    intro h
    have a := h x (by simp)
    have b := ih (fun y hy => h y (by simp [hy]))
    rw [List.sum_cons, List.length_cons]
    push_cast
    omega
theorem take_range (l : List Int) (h : ∀ x ∈ l, 0 ≤ x ∧ x ≤ 1099511627776) (hl : l.length ≤ 600) (i : Nat) : 0 ≤ (l.take i).sum ∧ (l.take i).sum ≤ 659706976665600 := by
  have a := sum_range (l.take i) (fun x hx => h x (List.mem_of_mem_take hx))
  have b : (l.take i).length ≤ 600 := Nat.le_trans (by rw [List.length_take]; exact Nat.min_le_right _ _) hl
  omega
theorem sum_run (l : List Int) (h : ∀ x ∈ l, 0 ≤ x ∧ x ≤ 1099511627776) (hl : l.length ≤ 600) : ∀ (d i k : Nat), i + d = l.length → 1 + d ≤ k → share_sum_int.l0 k ((l.take i).sum) l (l.length : Int) (i : Int) = some l.sum
  | 0, i, k, hi, hk => by
    obtain ⟨k, rfl⟩ : ∃ k', k = k' + 1 := ⟨k - 1, by omega⟩
    rw [share_sum_int.l0, if_neg (by omega), List.take_of_length_le (by omega)]
  | d + 1, i, k, hi, hk => by
    obtain ⟨k, rfl⟩ : ∃ k', k = k' + 1 := ⟨k - 1, by omega⟩
    have t := take_range l h hl (i + 1)
    have e := sum_take l i (by omega)
    have c1 : (i : Int) < (l.length : Int) := by omega
    have c2 : (0 : Int) ≤ (i : Int) := by omega
    have b2 : -9223372036854775808 ≤ (i : Int) + 1 ∧ (i : Int) + 1 ≤ 9223372036854775807 := by omega
    have := sum_run l h hl d (i + 1) k (by omega) (by omega)
    push_cast at this
    rw [share_sum_int.l0, if_pos c1, if_pos c2, if_pos c1, ← e, wrap_in _ (by omega) (by omega), wrap_in _ b2.1 b2.2]
    exact this
theorem sum_f (l : List Int) (h : ∀ x ∈ l, 0 ≤ x ∧ x ≤ 1099511627776) (hl : l.length ≤ 600) (k : Nat) (hk : 1 + l.length ≤ k) : share_sum_int.f k l = some l.sum := by
  unfold share_sum_int.f
  have := sum_run l h hl l.length 0 k (by omega) hk
  simpa using this
/-- What is wrong with the weights, and else their sum. -/
def wchk (l : List Int) : Int × Int := if l.all am = true then (if l.sum = 0 then (0, 11) else if l.sum > 1099511627776 then (0, 12) else (l.sum, 0)) else (0, 1)
def chk (a0 : Int) (l : List Int) : Int × Int := if am a0 = true then (if (l.length : Int) = 0 then (0, 4) else if (l.length : Int) > 512 then (0, 3) else wchk l) else (0, 1)
theorem all_mem {l : List Int} (h : l.all am = true) : ∀ x ∈ l, 0 ≤ x ∧ x ≤ 1099511627776 := fun x hx => (am_iff x).mp (List.all_eq_true.mp h x hx)
theorem not_all {l : List Int} {i : Nat} (hi : i < l.length) (h : am (rd l (i : Int)) = false) : l.all am = false := by
  rw [Bool.eq_false_iff]
  intro h2
  have := List.all_eq_true.mp h2 l[i] (List.getElem_mem hi)
  rw [rd_nat l i hi, this] at h
  cases h
theorem all_of {l : List Int} (h : ∀ j : Nat, j < l.length → am (rd l (j : Int)) = true) : l.all am = true := by
  rw [List.all_eq_true]
  intro x hx
  obtain ⟨j, hj, rfl⟩ := List.mem_iff_getElem.mp hx
  have := h j hj
  rwa [rd_nat l j hj] at this
theorem check_run (l : List Int) (hl : l.length ≤ 600) : ∀ (d i k : Nat), i + d = l.length → (∀ j : Nat, j < i → am (rd l (j : Int)) = true) → 2 + l.length + d ≤ k → share_check.l0 k l l (l.length : Int) (i : Int) = some (wchk l)
  | 0, i, k, hi, hp, hk => by
    obtain ⟨k, rfl⟩ : ∃ k', k = k' + 1 := ⟨k - 1, by omega⟩
    have ha : l.all am = true := all_of (fun j hj => hp j (by omega))
    unfold wchk
    rw [share_check.l0, if_neg (by omega), sum_f l (all_mem ha) hl k (by omega), Option.bind_some, if_pos ha]
    by_cases h1 : l.sum = 0
    · rw [if_pos h1, if_pos h1]
    · rw [if_neg h1, if_neg h1]
      by_cases h2 : l.sum > 1099511627776
      · rw [if_pos h2, if_pos h2]
      · rw [if_neg h2, if_neg h2]
  | d + 1, i, k, hi, hp, hk => by
    obtain ⟨k, rfl⟩ : ∃ k', k = k' + 1 := ⟨k - 1, by omega⟩
    have c1 : (i : Int) < (l.length : Int) := by omega
    have c2 : (0 : Int) ≤ (i : Int) := by omega
    have b2 : -9223372036854775808 ≤ (i : Int) + 1 ∧ (i : Int) + 1 ≤ 9223372036854775807 := by omega
    rw [share_check.l0, if_pos c1, if_pos c2, if_pos c1]
    by_cases hx : am (rd l (i : Int)) = true
    · have := check_run l hl d (i + 1) k (by omega) (fun j hj => by
        rcases Nat.lt_or_ge j i with h | h
        · exact hp j h
        · obtain rfl : j = i := by omega
          exact hx) (by omega)
      push_cast at this
      have hy := (am_iff _).mp hx
      rw [if_neg (by omega), if_neg (by omega), wrap_in _ b2.1 b2.2]
      exact this
    · have hn := not_all (i := i) (by omega) (Bool.eq_false_iff.mpr hx)
      rw [am_iff] at hx
      have ew : wchk l = (0, 1) := by unfold wchk; rw [hn]; rfl
      rw [ew]
      by_cases h1 : rd l (i : Int) < 0
      · rw [if_pos h1]
      · rw [if_neg h1, if_pos (by omega)]
theorem check_f (a0 : Int) (l : List Int) (k : Nat) (hk : 1210 ≤ k) : share_check.f k a0 l = some (chk a0 l) := by
  obtain ⟨k, rfl⟩ : ∃ k', k = k' + 1 := ⟨k - 1, by omega⟩
  have main : share_check.j0 (k + 1) l false = some (if (l.length : Int) = 0 then (0, 4) else if (l.length : Int) > 512 then (0, 3) else wchk l) := by
    rw [share_check.j0, if_neg (by decide)]
    by_cases h1 : (l.length : Int) = 0
    · rw [if_pos h1, if_pos h1]
    · rw [if_neg h1, if_neg h1]
      by_cases h2 : (l.length : Int) > 512
      · rw [if_pos h2, if_pos h2]
      · rw [if_neg h2, if_neg h2]
        have := check_run l (by omega) l.length 0 k (by omega) (fun j hj => by omega) (by omega)
        simpa using this
  unfold share_check.f chk
  by_cases h0 : a0 < 0
  · rw [if_pos h0, share_check.j0, if_pos rfl, if_neg (by rw [am_iff]; omega)]
  · rw [if_neg h0]
    by_cases h1 : a0 > 1099511627776
    · rw [decide_eq_true h1, share_check.j0, if_pos rfl, if_neg (by rw [am_iff]; omega)]
    · rw [decide_eq_false h1, main, if_pos ((am_iff a0).mpr (by omega))]
end Go.Proofs.Ytekbeaogiagidaa.Sh
