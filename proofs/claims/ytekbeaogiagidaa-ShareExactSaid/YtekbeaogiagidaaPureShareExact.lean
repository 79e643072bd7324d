/- The law ShareExact over numbers and lists. -/
import Derived.Test.YtekbeaogiagidaaX16
import Derived.Test.YtekbeaogiagidaaShParts
import Derived.Test.YtekbeaogiagidaaShSame
import Derived.Test.YtekbeaogiagidaaShAwake
import Derived.Test.YtekbeaogiagidaaX32
namespace Go.Proofs.Ytekbeaogiagidaa.Sh
open Go.RowKit Go.Proofs.YtekbeaogiagidaaW.PrintWords Go.Proofs.Ytekbeaogiagidaa.X Go.Proofs.Ytekbeaogiagidaa.So
set_option linter.unusedVariables false
set_option linter.unusedSimpArgs false
theorem qs_self {l : List Int} (h : 0 < l.sum) : qs l.sum l.sum l = l := by
  unfold qs
  conv => rhs; rw [← List.map_id l]
  exact List.map_congr_left fun x _ => by rw [Int.mul_comm, Int.mul_ediv_cancel _ (by omega)]; rfl
theorem parts_self {l : List Int} (h : 0 < l.sum) : parts l.sum l = l := by
  have hl : lft l.sum l = 0 := by unfold lft; rw [qs_self h]; omega
  refine List.ext_getElem? fun i => ?_
  rcases Nat.lt_or_ge i l.length with hi | hi
  · have hp := rd_nat (parts l.sum l) i (by rw [parts_length]; exact hi)
    rw [rd_parts _ _ _ hi] at hp
    rw [List.getElem?_eq_getElem hi, List.getElem?_eq_getElem (by rw [parts_length]; exact hi), ← hp]
    unfold pt
    rw [hl, if_neg (by omega), Int.mul_comm, Int.mul_ediv_cancel _ (by omega), rd_nat l i hi, Int.add_zero]
  · rw [List.getElem?_eq_none hi, List.getElem?_eq_none (by rw [parts_length]; exact hi)]
theorem exact_end (l : List Int) (hl : l.length ≤ 60) (h : l.all am = true) (k : Nat) (hk : 1300 ≤ k) : ((share_Split.f k l.sum l).bind fun bt286 => (if l.sum = 0 then (dancestudiolaw12_ShareExact.j1 k l bt286.1 bt286.2 true) else (dancestudiolaw12_ShareExact.j1 k l bt286.1 bt286.2 (decide (l.sum > 1099511627776))))) = some true := by
  obtain ⟨k, rfl⟩ : ∃ k', k = k' + 1 := ⟨k - 1, by omega⟩
  have hr := sum_range l (all_mem h)
  by_cases hs : 0 < l.sum ∧ l.sum ≤ 1099511627776
  · have hn : 0 < l.length := by
      rcases Nat.eq_zero_or_pos l.length with e | e
      · rw [List.length_eq_zero_iff] at e; subst e; simp at hs
      · exact e
    have g : Good l.sum l := ⟨by omega, hs.2, hn, by omega, all_mem h, hs.1, hs.2⟩
    rw [split_ok g _ (by omega), Option.bind_some, if_neg (by omega), decide_eq_false (by omega), parts_self hs.1]
    show dancestudiolaw12_ShareExact.j1 (k + 1) l l 0 false = _
    rw [dancestudiolaw12_ShareExact.j1, if_neg (by decide), if_pos rfl, same_f l l rfl (by omega) k (by omega), Option.bind_some, if_pos rfl, awake_f k (by omega), Option.bind_some]
  · have hb : (chk l.sum l).2 ≠ 0 := fun e => by
      obtain ⟨g, _⟩ := chk_good e
      exact hs ⟨g.s0, g.s1⟩
    have e : ∀ b : Bool, b = true → dancestudiolaw12_ShareExact.j1 (k + 1) l [] (chk l.sum l).2 b = some true := fun b eb => by
      subst eb
      rw [dancestudiolaw12_ShareExact.j1, if_pos rfl, if_neg hb, if_pos (by rfl), awake_f k (by omega), Option.bind_some]
    rw [split_bad hb _ (by omega), Option.bind_some]
    by_cases h0 : l.sum = 0
    · rw [if_pos h0]; exact e _ rfl
    · rw [if_neg h0]; exact e _ (decide_eq_true (by omega))
theorem exact_run (l : List Int) (hl : l.length ≤ 60) : ∀ (d i k : Nat), i + d = l.length → (∀ j : Nat, j < i → am (rd l (j : Int)) = true) → 1400 + d ≤ k → dancestudiolaw12_ShareExact.l0 k l ((l.take i).sum) (i : Int) = some true
  | 0, i, k, hi, hp, hk => by
    obtain ⟨k, rfl⟩ : ∃ k', k = k' + 1 := ⟨k - 1, by omega⟩
    have ha : l.all am = true := all_of (fun j hj => hp j (by omega))
    rw [dancestudiolaw12_ShareExact.l0, if_neg (by omega), List.take_of_length_le (by omega)]
    exact exact_end l hl ha k (by omega)
  | d + 1, i, k, hi, hp, hk => by
    obtain ⟨k, rfl⟩ : ∃ k', k = k' + 1 := ⟨k - 1, by omega⟩
    have c1 : (i : Int) < (l.length : Int) := by omega
    have c2 : (0 : Int) ≤ (i : Int) := by omega
    have b2 : -9223372036854775808 ≤ (i : Int) + 1 ∧ (i : Int) + 1 ≤ 9223372036854775807 := by omega
    rw [dancestudiolaw12_ShareExact.l0, if_pos c1, if_pos c2]
    by_cases hx : am (rd l (i : Int)) = true
    · have hp2 : ∀ j : Nat, j < i + 1 → am (rd l (j : Int)) = true := fun j hj => by
        rcases Nat.lt_or_ge j i with h | h
        · exact hp j h
        · obtain rfl : j = i := by omega
          exact hx
      have := exact_run l hl d (i + 1) k (by omega) hp2 (by omega)
      push_cast at this
      have hy := (am_iff _).mp hx
      have e := sum_take l i (by omega)
      have t : ∀ y ∈ l.take (i + 1), 0 ≤ y ∧ y ≤ 1099511627776 := fun y hy => by
        obtain ⟨j, hj, rfl⟩ := List.mem_iff_getElem.mp hy
        rw [List.length_take] at hj
        have := hp2 j (by omega)
        rw [rd_nat l j (by omega)] at this
        rw [List.getElem_take]
        exact (am_iff _).mp this
      have t2 := sum_range _ t
      rw [List.length_take] at t2
      rw [if_neg (by omega), if_neg (by omega), ← e, wrap_in _ (by omega) (by omega), wrap_in _ b2.1 b2.2]
      exact this
    · rw [am_iff] at hx
      by_cases h1 : rd l (i : Int) < 0
      · rw [if_pos h1, awake_f k (by omega), Option.bind_some]
      · rw [if_neg h1, if_pos (by omega), awake_f k (by omega), Option.bind_some]
end Go.Proofs.Ytekbeaogiagidaa.Sh
namespace Go.Proofs.Ytekbeaogiagidaa.Pure
open Go.RowKit Go.Proofs.YtekbeaogiagidaaW.PrintWords Go.Proofs.Ytekbeaogiagidaa.X Go.Proofs.Ytekbeaogiagidaa.Sh
theorem ShareExact (x0 : List Int) : ∃ k, X.dancestudiolaw12_ShareExact.f k x0 = some true := by
  refine ⟨1500, ?_⟩
  unfold dancestudiolaw12_ShareExact.f
  by_cases h : (x0.length : Int) > 60
  · rw [if_pos h, awake_f 1500 (by omega), Option.bind_some]
  · rw [if_neg h]
    have := exact_run x0 (by omega) x0.length 0 1500 (by omega) (fun j hj => by omega) (by omega)
    simpa using this
end Go.Proofs.Ytekbeaogiagidaa.Pure
