/- The law ShareEven over numbers and lists. -/
import Derived.Test.YtekbeaogiagidaaShStages
import Derived.Test.YtekbeaogiagidaaShAwake
import Derived.Test.YtekbeaogiagidaaX31
namespace Go.Proofs.Ytekbeaogiagidaa.Sh
open Go.RowKit Go.Proofs.YtekbeaogiagidaaW.PrintWords Go.Proofs.Ytekbeaogiagidaa.X
set_option linter.unusedVariables false
set_option linter.unusedSimpArgs false
set_option maxHeartbeats 2000000 in
theorem even_run {T : Int} {n : Nat} (hT : 0 ≤ T) (hT1 : T ≤ 1099511627776) (hn : 1 ≤ n) (hn1 : n ≤ 512) (L : List Int) (hL : L = dvs T n n) : ∀ (d i k : Nat), i + d = n → 41 + d ≤ k → dancestudiolaw12_ShareEven.l0 k T (n : Int) L (T * (i : Int) / (n : Int)) (i : Int) = some true
  | 0, i, k, hi, hk => by
    obtain ⟨k, rfl⟩ : ∃ k', k = k' + 1 := ⟨k - 1, by omega⟩
    obtain rfl : i = n := by omega
    rw [dancestudiolaw12_ShareEven.l0, if_neg (by omega), Int.mul_ediv_cancel _ (show (i : Int) ≠ 0 by omega), if_pos rfl, awake_f k (by omega), Option.bind_some]
  | d + 1, i, k, hi, hk => by
    obtain ⟨k, rfl⟩ : ∃ k', k = k' + 1 := ⟨k - 1, by omega⟩
    have hd := dv_range (n := (n : Int)) hT (by omega) i
    have hq := div_range (n := (n : Int)) hT hT1 (by omega)
    have hl : (L.length : Int) = n := by rw [hL, dvs_length]
    have hr : rd L (i : Int) = dv T n i := by rw [hL]; exact rd_dvs _ _ _ _ (by omega)
    have hp := mul_in hT hT1 (i := (i : Int)) (by omega) (by omega)
    have hp1 := mul_in hT hT1 (i := (i : Int) + 1) (by omega) (by omega)
    have hz : T * (i : Int) / (n : Int) ≤ T * (i : Int) := Int.ediv_le_self _ hp.1
    have hz0 : 0 ≤ T * (i : Int) / (n : Int) := Int.ediv_nonneg hp.1 (by omega)
    have c1 : (i : Int) < (n : Int) := by omega
    have c2 : (0 : Int) ≤ (i : Int) := by omega
    have c3 : (i : Int) < (L.length : Int) := by omega
    have c4 : ¬ (n : Int) = 0 := by omega
    have c5 : ¬ dv T n i < T / (n : Int) := by omega
    have c6 : ¬ dv T n i > T / (n : Int) + 1 := by omega
    have b1 : -9223372036854775808 ≤ T * (i : Int) / (n : Int) + dv T n i ∧ T * (i : Int) / (n : Int) + dv T n i ≤ 9223372036854775807 := by omega
    have e1 : T * (i : Int) / (n : Int) + dv T n i = T * ((i : Int) + 1) / (n : Int) := by unfold dv; omega
    have hq1 := quo1_eq (n := (n : Int)) hT hT1 (by omega)
    have hq2 := quo_eq (n := (n : Int)) (i := (i : Int) + 1) hT hT1 (by omega) (by omega) (by omega)
    have b2 : -9223372036854775808 ≤ (i : Int) + 1 ∧ (i : Int) + 1 ≤ 9223372036854775807 := by omega
    have b3 : -9223372036854775808 ≤ T / (n : Int) + 1 ∧ T / (n : Int) + 1 ≤ 9223372036854775807 := by omega
    have kk : 41 + d ≤ k := by omega
    have ii : i + 1 + d = n := by omega
    rw [dancestudiolaw12_ShareEven.l0, hr, wrap_in _ b1.1 b1.2, e1, wrap_in _ b2.1 b2.2, hq1, wrap_in _ b3.1 b3.2, hq2, if_pos c1, if_pos c2, if_pos c3, if_neg c4, if_neg c5, if_neg c6, if_pos rfl]
    have := even_run hT hT1 hn hn1 L hL d (i + 1) k ii kk
    push_cast at this
    exact this
end Go.Proofs.Ytekbeaogiagidaa.Sh
namespace Go.Proofs.Ytekbeaogiagidaa.Pure
open Go.RowKit Go.Proofs.YtekbeaogiagidaaW.PrintWords Go.Proofs.Ytekbeaogiagidaa.X Go.Proofs.Ytekbeaogiagidaa.Sh
theorem ShareEven (x0 : Int) (x1 : Int) : ∃ k, X.dancestudiolaw12_ShareEven.f k x0 x1 = some true := by
  refine ⟨600, ?_⟩
  unfold dancestudiolaw12_ShareEven.f
  by_cases h : 0 ≤ x0 ∧ x0 ≤ 1099511627776 ∧ 1 ≤ x1 ∧ x1 ≤ 512
  · obtain ⟨n, rfl⟩ : ∃ n : Nat, x1 = (n : Int) := ⟨x1.toNat, by omega⟩
    rw [stages_ok h.1 h.2.1 h.2.2.1 h.2.2.2, Option.bind_some, if_pos rfl, Int.toNat_natCast, if_pos (by rw [dvs_length])]
    have := even_run h.1 h.2.1 (n := n) (by omega) (by omega) (dvs x0 n n) rfl n 0 600 (by omega) (by omega)
    simpa using this
  · rw [stages_bad h, Option.bind_some, if_neg (by decide), if_pos (by rfl), awake_f 600 (by omega), Option.bind_some]
end Go.Proofs.Ytekbeaogiagidaa.Pure
