/- What share.Stages gives, number by number. -/
import Derived.Test.YtekbeaogiagidaaX19
namespace Go.Proofs.Ytekbeaogiagidaa.Sh
open Go.RowKit Go.Proofs.YtekbeaogiagidaaW.PrintWords Go.Proofs.Ytekbeaogiagidaa.X
set_option linter.unusedVariables false
set_option linter.unusedSimpArgs false
/-- What is given out in the stage j. -/
def dv (T n : Int) (j : Nat) : Int := T * ((j : Int) + 1) / n - T * (j : Int) / n
def dvs (T n : Int) (k : Nat) : List Int := (List.range k).map (dv T n)
theorem dvs_length (T n : Int) (k : Nat) : (dvs T n k).length = k := by simp [dvs]
theorem dvs_succ (T n : Int) (k : Nat) : dvs T n (k + 1) = dvs T n k ++ [dv T n k] := by simp [dvs, List.range_succ]
theorem rd_dvs (T n : Int) (k j : Nat) (h : j < k) : rd (dvs T n k) (j : Int) = dv T n j := by
  unfold rd dvs
  rw [Int.toNat_natCast, List.getD_eq_getElem?_getD, List.getElem?_map, List.getElem?_range h]
  rfl
theorem div_add_le (a b n : Int) (h : 0 < n) : a / n + b / n ≤ (a + b) / n := by
  refine Int.le_ediv_of_mul_le h ?_
  rw [Int.add_mul]
  have := Int.ediv_mul_le a (show n ≠ 0 by omega)
  have := Int.ediv_mul_le b (show n ≠ 0 by omega)
  omega
theorem div_add_ge (a b n : Int) (h : 0 < n) : (a + b) / n ≤ a / n + b / n + 1 := by
  have h1 : (a + b) / n < a / n + b / n + 2 := by
    refine Int.ediv_lt_of_lt_mul h ?_
    have x := Int.lt_ediv_add_one_mul_self a h
    have y := Int.lt_ediv_add_one_mul_self b h
    have e : (a / n + b / n + 2) * n = (a / n + 1) * n + (b / n + 1) * n := by rw [← Int.add_mul]; congr 1; omega
    omega
  omega
theorem dv_range {T n : Int} (hT : 0 ≤ T) (hn : 1 ≤ n) (j : Nat) : T / n ≤ dv T n j ∧ dv T n j ≤ T / n + 1 := by
  have e : T * ((j : Int) + 1) = T * (j : Int) + T := by rw [Int.mul_add, Int.mul_one]
  have a := div_add_le (T * (j : Int)) T n (by omega)
  have b := div_add_ge (T * (j : Int)) T n (by omega)
  unfold dv
  rw [e]
  omega
theorem wrap_in (x : Int) (h0 : -9223372036854775808 ≤ x) (h1 : x ≤ 9223372036854775807) : wrap64 x = x := by unfold wrap64; omega
theorem div_range {T n : Int} (hT : 0 ≤ T) (hT1 : T ≤ 1099511627776) (hn : 1 ≤ n) : 0 ≤ T / n ∧ T / n ≤ 1099511627776 := ⟨Int.ediv_nonneg hT (by omega), Int.le_trans (Int.ediv_le_self _ hT) hT1⟩
theorem st_upto {T n : Int} (hT : 0 ≤ T) (hT1 : T ≤ 1099511627776) (hn : 1 ≤ n) : ∀ k, share_Stages.st (share_Stages.upto (share_Stages.q T n) k) = (dvs T n k, T * (k : Int) / n)
  | 0 => by simp [share_Stages.upto, share_Stages.st, dvs]
  | k + 1 => by
    rw [share_Stages.upto_succ, share_Stages.st_snoc, st_upto hT hT1 hn k, dvs_succ]
    have h := dv_range hT hn k
    have h2 := div_range hT hT1 hn
    have e : share_Stages.q T n k - T * (k : Int) / n = dv T n k := by unfold share_Stages.q dv; push_cast; rfl
    show (dvs T n k ++ [wrap64 (share_Stages.q T n k - T * (k : Int) / n)], share_Stages.q T n k) = _
    rw [e, wrap_in _ (by omega) (by omega)]
    rfl
theorem stages_ok {T n : Int} (hT : 0 ≤ T) (hT1 : T ≤ 1099511627776) (hn : 1 ≤ n) (hn1 : n ≤ 512) : share_Stages.f T n = some (dvs T n n.toNat, 0) := by
  unfold share_Stages.f share_Stages.res
  rw [if_pos ⟨hT, hT1, hn, hn1⟩, st_upto hT hT1 hn]
theorem stages_bad {T n : Int} (h : ¬ (0 ≤ T ∧ T ≤ 1099511627776 ∧ 1 ≤ n ∧ n ≤ 512)) : share_Stages.f T n = some ([], 1) := by
  unfold share_Stages.f share_Stages.res
  rw [if_neg h]
/-- Products that the laws form. -/
theorem mul_in {T i : Int} (hT : 0 ≤ T) (hT1 : T ≤ 1099511627776) (hi : 0 ≤ i) (hi1 : i ≤ 512) : 0 ≤ T * i ∧ T * i ≤ 562949953421312 := by
  refine ⟨Int.mul_nonneg hT hi, ?_⟩
  have := Int.mul_le_mul hT1 hi1 hi (show (0 : Int) ≤ 1099511627776 by omega)
  omega
/-- The quotient as the laws form it. -/
theorem quo_eq {T n i : Int} (hT : 0 ≤ T) (hT1 : T ≤ 1099511627776) (hn : 1 ≤ n) (hi : 0 ≤ i) (hi1 : i ≤ 512) : wrap64 (Int.tdiv (wrap64 (T * i)) n) = T * i / n := by
  obtain ⟨h0, h1⟩ := mul_in hT hT1 hi hi1
  rw [wrap_in (T * i) (by omega) (by omega), Int.tdiv_eq_ediv_of_nonneg h0]
  have h2 : 0 ≤ T * i / n := Int.ediv_nonneg h0 (by omega)
  have h3 : T * i / n ≤ T * i := Int.ediv_le_self _ h0
  rw [wrap_in _ (by omega) (by omega)]
theorem quo1_eq {T n : Int} (hT : 0 ≤ T) (hT1 : T ≤ 1099511627776) (hn : 1 ≤ n) : wrap64 (Int.tdiv T n) = T / n := by
  rw [Int.tdiv_eq_ediv_of_nonneg hT]
  obtain ⟨h2, h3⟩ := div_range hT hT1 hn
  rw [wrap_in _ (by omega) (by omega)]
end Go.Proofs.Ytekbeaogiagidaa.Sh
