/- The law ShareStages over numbers and lists. -/
import Derived.Test.YtekbeaogiagidaaX28
import Derived.Test.YtekbeaogiagidaaX21
import Derived.Test.YtekbeaogiagidaaShSame
import Derived.Test.YtekbeaogiagidaaShAwake
import Derived.Test.YtekbeaogiagidaaX29
namespace Go.Proofs.Ytekbeaogiagidaa.Sh
open Go.RowKit Go.Proofs.YtekbeaogiagidaaW.PrintWords Go.Proofs.Ytekbeaogiagidaa.X
set_option linter.unusedVariables false
set_option linter.unusedSimpArgs false
theorem amount_f (a : Int) : dancestudioref12_amount.f a = some (decide (0 ≤ a ∧ a ≤ 1099511627776)) := by
  unfold dancestudioref12_amount.f
  by_cases h0 : 0 ≤ a <;> by_cases h1 : a ≤ 1099511627776 <;> simp [h0, h1]
theorem ref_run {T : Int} {n : Nat} (hT : 0 ≤ T) (hT1 : T ≤ 1099511627776) (hn : 1 ≤ n) (hn1 : n ≤ 512) : ∀ (d i k : Nat), i + d = n → 1 + d ≤ k → dancestudioref12_Stages.l0 k T (n : Int) (dvs T n i) ((i : Int) + 1) = some (dvs T n n, 0)
  | 0, i, k, hi, hk => by
    obtain ⟨k, rfl⟩ : ∃ k', k = k' + 1 := ⟨k - 1, by omega⟩
    obtain rfl : i = n := by omega
    rw [dancestudioref12_Stages.l0, if_neg (by omega)]
  | d + 1, i, k, hi, hk => by
    obtain ⟨k, rfl⟩ : ∃ k', k = k' + 1 := ⟨k - 1, by omega⟩
    have hd := dv_range (n := (n : Int)) hT (by omega) i
    have hq := div_range (n := (n : Int)) hT hT1 (by omega)
    have c1 : (i : Int) + 1 ≤ (n : Int) := by omega
    have c4 : ¬ (n : Int) = 0 := by omega
    have c5 : (dvs T (n : Int) i).length < 17592186044416 := by rw [dvs_length]; omega
    have b2 : -9223372036854775808 ≤ (i : Int) + 1 + 1 ∧ (i : Int) + 1 + 1 ≤ 9223372036854775807 := by omega
    have b3 : -9223372036854775808 ≤ (i : Int) + 1 - 1 ∧ (i : Int) + 1 - 1 ≤ 9223372036854775807 := by omega
    have b4 : -9223372036854775808 ≤ dv T (n : Int) i ∧ dv T (n : Int) i ≤ 9223372036854775807 := by omega
    have hq1 := quo_eq (n := (n : Int)) (i := (i : Int)) hT hT1 (by omega) (by omega) (by omega)
    have hq2 := quo_eq (n := (n : Int)) (i := (i : Int) + 1) hT hT1 (by omega) (by omega) (by omega)
    have e3 : (i : Int) + 1 - 1 = (i : Int) := by omega
    have := ref_run hT hT1 hn hn1 d (i + 1) k (by omega) (by omega)
    push_cast at this
    rw [dancestudioref12_Stages.l0, wrap_in _ b2.1 b2.2, wrap_in _ b3.1 b3.2, e3, hq1, hq2, show T * ((i : Int) + 1) / (n : Int) - T * (i : Int) / (n : Int) = dv T (n : Int) i from rfl, wrap_in _ b4.1 b4.2, if_pos c1, if_neg c4, if_pos c5, ← dvs_succ]
    exact this
theorem ref_stages_ok {T : Int} {n : Nat} (hT : 0 ≤ T) (hT1 : T ≤ 1099511627776) (hn : 1 ≤ n) (hn1 : n ≤ 512) : dancestudioref12_Stages.f 600 T (n : Int) = some (dvs T n n, 0) := by
  unfold dancestudioref12_Stages.f
  rw [amount_f, Option.bind_some, decide_eq_true (show 0 ≤ T ∧ T ≤ 1099511627776 from ⟨hT, hT1⟩), if_pos rfl, if_neg (by omega), decide_eq_false (by omega), dancestudioref12_Stages.j0, if_neg (by decide)]
  have := ref_run hT hT1 hn hn1 n 0 599 (by omega) (by omega)
  simpa [dvs] using this
theorem ref_stages_bad {T n : Int} (h : ¬ (0 ≤ T ∧ T ≤ 1099511627776 ∧ 1 ≤ n ∧ n ≤ 512)) : dancestudioref12_Stages.f 600 T n = some ([], 1) := by
  unfold dancestudioref12_Stages.f
  rw [amount_f, Option.bind_some]
  by_cases h0 : 0 ≤ T ∧ T ≤ 1099511627776
  · rw [decide_eq_true h0, if_pos rfl]
    by_cases h1 : n < 1
    · rw [if_pos h1, dancestudioref12_Stages.j0, if_pos rfl]
    · rw [if_neg h1, decide_eq_true (by omega), dancestudioref12_Stages.j0, if_pos rfl]
  · rw [decide_eq_false h0, if_neg (by decide), dancestudioref12_Stages.j0, if_pos rfl]
end Go.Proofs.Ytekbeaogiagidaa.Sh
namespace Go.Proofs.Ytekbeaogiagidaa.Pure
open Go.RowKit Go.Proofs.YtekbeaogiagidaaW.PrintWords Go.Proofs.Ytekbeaogiagidaa.X Go.Proofs.Ytekbeaogiagidaa.Sh
theorem ShareStages (x0 : Int) (x1 : Int) : ∃ k, X.dancestudiolaw12_ShareStages.f k x0 x1 = some true := by
  refine ⟨600, ?_⟩
  unfold dancestudiolaw12_ShareStages.f
  by_cases h : 0 ≤ x0 ∧ x0 ≤ 1099511627776 ∧ 1 ≤ x1 ∧ x1 ≤ 512
  · obtain ⟨n, rfl⟩ : ∃ n : Nat, x1 = (n : Int) := ⟨x1.toNat, by omega⟩
    rw [stages_ok h.1 h.2.1 h.2.2.1 h.2.2.2, Option.bind_some, ref_stages_ok h.1 h.2.1 (by omega) (by omega), Option.bind_some, Int.toNat_natCast, same_f _ _ rfl (by rw [dvs_length]; omega) 600 (by rw [dvs_length]; omega), Option.bind_some, if_pos rfl, if_pos rfl, awake_f 600 (by omega), Option.bind_some]
  · rw [stages_bad h, Option.bind_some, ref_stages_bad h, Option.bind_some, same_f _ _ rfl (by simp) 600 (by simp), Option.bind_some, if_pos rfl, if_pos rfl, awake_f 600 (by omega), Option.bind_some]
end Go.Proofs.Ytekbeaogiagidaa.Pure
