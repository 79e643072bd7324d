/- The law ShareScales over numbers and lists. -/
import Derived.Test.YtekbeaogiagidaaX20
import Derived.Test.YtekbeaogiagidaaX17
import Derived.Test.YtekbeaogiagidaaX16
import Derived.Test.YtekbeaogiagidaaShParts
import Derived.Test.YtekbeaogiagidaaShSame
import Derived.Test.YtekbeaogiagidaaShAwake
import Derived.Test.YtekbeaogiagidaaX30
namespace Go.Proofs.Ytekbeaogiagidaa.Sh
open Go.RowKit Go.Proofs.YtekbeaogiagidaaW.PrintWords Go.Proofs.Ytekbeaogiagidaa.X Go.Proofs.Ytekbeaogiagidaa.So
set_option linter.unusedVariables false
set_option linter.unusedSimpArgs false
/-- The weights, each multiplied. -/
def tms (f : Int) (l : List Int) : List Int := l.map (fun x => x * f)
theorem tms_length (f : Int) (l : List Int) : (tms f l).length = l.length := by simp [tms]
theorem tms_sum (f : Int) (l : List Int) : (tms f l).sum = l.sum * f := by
  induction l with
  | nil => simp [tms]
  | cons x l ih => show (x * f :: tms f l).sum = _; rw [List.sum_cons, List.sum_cons, ih, Int.add_mul]
theorem tms_rd (f : Int) (l : List Int) (i : Nat) (h : i < l.length) : rd (tms f l) (i : Int) = rd l (i : Int) * f := by
  rw [rd_nat (tms f l) i (by rw [tms_length]; exact h), rd_nat l i h]; simp [tms]
theorem tms_qs {f : Int} (hf : 0 < f) (a0 s : Int) (l : List Int) : qs a0 (s * f) (tms f l) = qs a0 s l := by
  unfold qs tms
  rw [List.map_map]
  refine List.map_congr_left fun x _ => ?_
  show a0 * (x * f) / (s * f) = a0 * x / s
  rw [← Int.mul_assoc, Int.mul_ediv_mul_of_pos_left _ _ hf]
theorem tms_rl {f : Int} (hf : 0 < f) (a0 s : Int) (l : List Int) : rl a0 (s * f) (tms f l) = tms f (rl a0 s l) := by
  unfold rl tms
  rw [List.map_map, List.map_map]
  refine List.map_congr_left fun x _ => ?_
  show a0 * (x * f) % (s * f) = a0 * x % s * f
  rw [← Int.mul_assoc, Int.mul_comm _ f, Int.mul_comm s f, Int.mul_emod_mul_of_pos _ _ hf, Int.mul_comm]
theorem tms_rest {f : Nat} (R : List Int) (hR : ∀ x ∈ R, 0 ≤ x) (j : Nat) : share_Split.rest (tms (f : Int) R) j = share_Split.rest R j * f := by
  unfold share_Split.rest tms
  rw [List.getD_eq_getElem?_getD, List.getD_eq_getElem?_getD, List.getElem?_map]
  rcases Nat.lt_or_ge j R.length with h | h
  · rw [List.getElem?_eq_getElem h]
    have := hR _ (List.getElem_mem h)
    obtain ⟨n, hn⟩ : ∃ n : Nat, R[j] = (n : Int) := ⟨R[j].toNat, by omega⟩
    show (R[j] * (f : Int)).toNat = R[j].toNat * f
    rw [hn, ← Int.natCast_mul, Int.toNat_natCast, Int.toNat_natCast]
  · rw [List.getElem?_eq_none h]; simp
theorem bf_scale {rs rs' : Nat → Nat} {f : Nat} (hf : 0 < f) (e : ∀ j, rs' j = rs j * f) (N i : Nat) : bf rs' N i = bf rs N i := by
  unfold bf
  congr 1
  funext j
  rw [decide_eq_decide]
  unfold prR
  rw [e, e, Nat.mul_lt_mul_right hf, Nat.mul_left_inj (by omega)]
theorem tms_parts {a0 : Int} {f : Nat} {l : List Int} (hf : 0 < f) (hs : 0 < l.sum) : parts a0 (tms (f : Int) l) = parts a0 l := by
  have hlf : lft a0 (tms (f : Int) l) = lft a0 l := by unfold lft; rw [tms_sum, tms_qs (by omega)]
  refine List.ext_getElem? fun i => ?_
  rcases Nat.lt_or_ge i l.length with hi | hi
  · have hi2 : i < (tms (f : Int) l).length := by rw [tms_length]; exact hi
    have h1 := rd_nat (parts a0 (tms (f : Int) l)) i (by rw [parts_length]; exact hi2)
    have h2 := rd_nat (parts a0 l) i (by rw [parts_length]; exact hi)
    rw [rd_parts _ _ _ hi2] at h1
    rw [rd_parts _ _ _ hi] at h2
    rw [List.getElem?_eq_getElem (by rw [parts_length]; exact hi2), List.getElem?_eq_getElem (by rw [parts_length]; exact hi), ← h1, ← h2]
    unfold pt
    have hq : a0 * (rd l (i : Int) * (f : Int)) / (l.sum * (f : Int)) = a0 * rd l (i : Int) / l.sum := by rw [← Int.mul_assoc, Int.mul_ediv_mul_of_pos_left _ _ (by omega)]
    have hn : ∀ x ∈ rl a0 l.sum l, 0 ≤ x := fun x hx => by
      obtain ⟨y, _, rfl⟩ := List.mem_map.mp hx
      exact Int.emod_nonneg _ (by omega)
    rw [hlf, tms_rd _ _ _ hi, tms_sum, hq, tms_rl (by omega), tms_length, bf_scale hf (tms_rest _ hn)]
  · rw [List.getElem?_eq_none (by rw [parts_length, tms_length]; exact hi), List.getElem?_eq_none (by rw [parts_length]; exact hi)]
theorem good_tms {a0 : Int} {f : Nat} {l : List Int} (hf : 0 < f) (h : l.all am = true) (g : Good a0 (tms (f : Int) l)) : Good a0 l := by
  have hr := sum_range l (all_mem h)
  have s0 := g.s0
  have s1 := g.s1
  have n0 := g.n0
  have n1 := g.n1
  rw [tms_sum] at s0 s1
  rw [tms_length] at n0 n1
  have e : 0 < l.sum := by
    rcases Int.lt_or_le 0 l.sum with h | h
    · exact h
    · have : l.sum = 0 := by omega
      rw [this, Int.zero_mul] at s0; omega
  have e2 : l.sum * 1 ≤ l.sum * (f : Int) := Int.mul_le_mul_of_nonneg_left (by omega) (by omega)
  exact ⟨g.t0, g.t1, n0, n1, all_mem h, e, by omega⟩
theorem scales_end (a0 : Int) (l : List Int) (f : Nat) (hl : l.length ≤ 60) (hf : 0 < f) (h : l.all am = true) (k : Nat) (hk : 1300 ≤ k) : ((share_Split.f k a0 l).bind fun bt239 => ((share_Split.f k a0 (tms (f : Int) l)).bind fun bt243 => (if bt239.2 = 0 then (if bt243.2 = 0 then ((dancestudioref12_Same.f k bt239.1 bt243.1).bind fun t247 => (if t247 = true then ((dancestudiolaw12_awake.f k).bind fun t248 => (some t248)) else (none))) else ((dancestudiolaw12_awake.f k).bind fun t249 => (some t249))) else (if bt243.2 = 0 then (none) else ((dancestudiolaw12_awake.f k).bind fun t250 => (some t250)))))) = some true := by
  have aw := awake_f k (by omega)
  by_cases hg : (chk a0 (tms (f : Int) l)).2 = 0
  · have g2 := (chk_good hg).1
    have g := good_tms hf h g2
    rw [split_ok g k (by omega), Option.bind_some, split_ok g2 k (by omega), Option.bind_some, if_pos rfl, if_pos rfl, same_f _ _ (tms_parts hf g.s0).symm (by rw [parts_length]; omega) k (by rw [parts_length]; omega), Option.bind_some, if_pos rfl, aw, Option.bind_some]
  · by_cases hg1 : (chk a0 l).2 = 0
    · have g := (chk_good hg1).1
      rw [split_ok g k (by omega), Option.bind_some, split_bad hg k (by omega), Option.bind_some, if_pos rfl, if_neg hg, aw, Option.bind_some]
    · rw [split_bad hg1 k (by omega), Option.bind_some, split_bad hg k (by omega), Option.bind_some, if_neg hg1, if_neg hg, aw, Option.bind_some]
theorem tms_take (f : Int) (l : List Int) (i : Nat) (h : i < l.length) : tms f (l.take (i + 1)) = tms f (l.take i) ++ [rd l (i : Int) * f] := by
  unfold tms
  rw [List.take_succ_eq_append_getElem h, rd_nat l i h, List.map_append]; rfl
theorem scales_run (a0 : Int) (l : List Int) (f : Nat) (hl : l.length ≤ 60) (hf : 0 < f) (hf1 : f ≤ 1000) : ∀ (d i k : Nat), i + d = l.length → (∀ j : Nat, j < i → am (rd l (j : Int)) = true) → 1400 + d ≤ k → dancestudiolaw12_ShareScales.l0 k a0 l (f : Int) (tms (f : Int) (l.take i)) (i : Int) = some true
  | 0, i, k, hi, hp, hk => by
    obtain ⟨k, rfl⟩ : ∃ k', k = k' + 1 := ⟨k - 1, by omega⟩
    have ha : l.all am = true := all_of (fun j hj => hp j (by omega))
    rw [dancestudiolaw12_ShareScales.l0, if_neg (by omega), List.take_of_length_le (by omega)]
    exact scales_end a0 l f hl hf ha k (by omega)
  | d + 1, i, k, hi, hp, hk => by
    obtain ⟨k, rfl⟩ : ∃ k', k = k' + 1 := ⟨k - 1, by omega⟩
    have c1 : (i : Int) < (l.length : Int) := by omega
    have c2 : (0 : Int) ≤ (i : Int) := by omega
    have c3 : (tms (f : Int) (l.take i)).length < 17592186044416 := by rw [tms_length, List.length_take]; omega
    have b2 : -9223372036854775808 ≤ (i : Int) + 1 ∧ (i : Int) + 1 ≤ 9223372036854775807 := by omega
    rw [dancestudiolaw12_ShareScales.l0, if_pos c1, if_pos c2]
    by_cases hx : am (rd l (i : Int)) = true
    · have hp2 : ∀ j : Nat, j < i + 1 → am (rd l (j : Int)) = true := fun j hj => by
        rcases Nat.lt_or_ge j i with h | h
        · exact hp j h
        · obtain rfl : j = i := by omega
          exact hx
      have := scales_run a0 l f hl hf hf1 d (i + 1) k (by omega) hp2 (by omega)
      push_cast at this
      have hy := (am_iff _).mp hx
      have m0 : 0 ≤ rd l (i : Int) * (f : Int) := Int.mul_nonneg hy.1 (by omega)
      have m1 : rd l (i : Int) * (f : Int) ≤ 1099511627776 * 1000 := Int.mul_le_mul hy.2 (by omega) (by omega) (by omega)
      rw [if_neg (by omega), if_neg (by omega), if_pos c3, wrap_in _ (by omega) (by omega), wrap_in _ b2.1 b2.2, ← tms_take _ _ _ (by omega)]
      exact this
    · rw [am_iff] at hx
      by_cases h1 : rd l (i : Int) < 0
      · rw [if_pos h1, awake_f k (by omega), Option.bind_some]
      · rw [if_neg h1, if_pos (by omega), awake_f k (by omega), Option.bind_some]
end Go.Proofs.Ytekbeaogiagidaa.Sh
namespace Go.Proofs.Ytekbeaogiagidaa.Pure
open Go.RowKit Go.Proofs.YtekbeaogiagidaaW.PrintWords Go.Proofs.Ytekbeaogiagidaa.X Go.Proofs.Ytekbeaogiagidaa.Sh
theorem ShareScales (x0 : Int) (x1 : List Int) (x2 : Int) : ∃ k, X.dancestudiolaw12_ShareScales.f k x0 x1 x2 = some true := by
  refine ⟨1501, ?_⟩
  unfold dancestudiolaw12_ShareScales.f
  have j0t : ∀ b : Bool, b = true → dancestudiolaw12_ShareScales.j0 1501 x0 x1 x2 b = some true := fun b e => by
    subst e
    rw [dancestudiolaw12_ShareScales.j0, if_pos rfl, awake_f 1500 (by omega), Option.bind_some]
  by_cases h : (x1.length : Int) > 60
  · rw [if_pos h]; exact j0t _ rfl
  · rw [if_neg h]
    by_cases h1 : x2 < 1
    · rw [if_pos h1]; exact j0t _ rfl
    · rw [if_neg h1]
      by_cases h2 : x2 > 1000
      · exact j0t _ (decide_eq_true h2)
      · obtain ⟨f, rfl⟩ : ∃ f : Nat, x2 = (f : Int) := ⟨x2.toNat, by omega⟩
        have := scales_run x0 x1 f (by omega) (by omega) (by omega) x1.length 0 1500 (by omega) (fun j hj => by omega) (by omega)
        rw [decide_eq_false h2, dancestudiolaw12_ShareScales.j0, if_neg (by decide)]
        simpa [tms] using this
end Go.Proofs.Ytekbeaogiagidaa.Pure
