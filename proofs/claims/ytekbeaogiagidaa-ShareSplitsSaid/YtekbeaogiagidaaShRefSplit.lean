/- The document's Split gives the same parts. -/
import Derived.Test.YtekbeaogiagidaaX26
import Derived.Test.YtekbeaogiagidaaShRef
namespace Go.Proofs.Ytekbeaogiagidaa.Sh
open Go.RowKit Go.Proofs.YtekbeaogiagidaaW.PrintWords Go.Proofs.Ytekbeaogiagidaa.X Go.Proofs.Ytekbeaogiagidaa.So
set_option linter.unusedVariables false
set_option linter.unusedSimpArgs false
/-- How many of the first j stand before i. -/
def cnt (rs : Nat → Nat) (i j : Nat) : Nat := (List.range j).countP (fun m => decide (prR rs m i))
theorem cnt_succ (rs : Nat → Nat) (i j : Nat) : cnt rs i (j + 1) = cnt rs i j + (if prR rs j i then 1 else 0) := by
  unfold cnt
  rw [List.range_succ, List.countP_append]
  by_cases h : prR rs j i
  · rw [if_pos h]; simp [h]
  · rw [if_neg h]; simp [h]
theorem cnt_le (rs : Nat → Nat) (i j : Nat) : cnt rs i j ≤ j := by
  have := List.countP_le_length (p := fun m => decide (prR rs m i)) (l := List.range j)
  rwa [List.length_range] at this
theorem rest_rd {R : List Int} (hR : ∀ x ∈ R, 0 ≤ x) {j : Nat} (h : j < R.length) : rd R (j : Int) = (share_Split.rest R j : Int) := by
  unfold share_Split.rest rd
  rw [Int.toNat_natCast]
  refine (Int.toNat_of_nonneg ?_).symm
  rw [List.getD_eq_getElem?_getD, List.getElem?_eq_getElem h]
  exact hR _ (List.getElem_mem h)
theorem l3_run {X R : List Int} {left : Int} {i N : Nat} (hX : X.length = N) (hRl : R.length = N) (hN : N ≤ 600) (hR : ∀ x ∈ R, 0 ≤ x) (hi : i < N) (K : Nat) : ∀ (d j : Nat), j + d = N → dancestudioref12_Split.l3 (K + d + 1) X R left (i : Int) (cnt (share_Split.rest R) i j : Int) (j : Int) =
    (if (cnt (share_Split.rest R) i N : Int) < left then dancestudioref12_Split.l2 K (X.set i (wrap64 (rd X (i : Int) + 1))) R left ((i + 1 : Nat) : Int) else dancestudioref12_Split.l2 K X R left ((i + 1 : Nat) : Int))
  | 0, j, hj => by
    obtain rfl : j = N := by omega
    have hw : wrap64 ((i : Int) + 1) = ((i + 1 : Nat) : Int) := wrap_in _ (by omega) (by omega)
    rw [dancestudioref12_Split.l3, if_neg (by omega), hw]
    by_cases h : (cnt (share_Split.rest R) i j : Int) < left
    · rw [if_pos h, if_pos h, if_pos (Int.natCast_nonneg _), if_pos (Int.ofNat_lt.mpr (by rw [hX]; exact hi)), Int.toNat_natCast]
    · rw [if_neg h, if_neg h]
  | d + 1, j, hj => by
    have ih := l3_run (left := left) hX hRl hN hR hi K d (j + 1) (by omega)
    have hc := cnt_le (share_Split.rest R) i j
    have b1 : -9223372036854775808 ≤ (cnt (share_Split.rest R) i j : Int) + 1 ∧ (cnt (share_Split.rest R) i j : Int) + 1 ≤ 9223372036854775807 := by omega
    have b2 : -9223372036854775808 ≤ (j : Int) + 1 ∧ (j : Int) + 1 ≤ 9223372036854775807 := by omega
    have c1 : (j : Int) < (X.length : Int) := by omega
    have c2 : (j : Int) < (R.length : Int) := by omega
    have c3 : (i : Int) < (R.length : Int) := by omega
    have rj := rest_rd hR (j := j) (by omega)
    have ri := rest_rd hR (j := i) (by omega)
    rw [cnt_succ] at ih
    rw [show K + (d + 1) + 1 = K + d + 1 + 1 by omega, dancestudioref12_Split.l3, if_pos c1, if_pos (Int.natCast_nonneg _), if_pos c2, if_pos (Int.natCast_nonneg _), if_pos c3, rj, ri, wrap_in _ b1.1 b1.2, wrap_in _ b2.1 b2.2]
    by_cases h : prR (share_Split.rest R) j i
    · rw [if_pos h] at ih
      push_cast at ih
      unfold prR at h
      by_cases h1 : (share_Split.rest R j : Int) > (share_Split.rest R i : Int)
      · rw [if_pos h1]; exact ih
      · rw [if_neg h1, if_pos (by omega), if_pos (by omega)]; exact ih
    · rw [if_neg h] at ih
      push_cast at ih
      rw [Int.add_zero] at ih
      unfold prR at h
      rw [if_neg (by omega)]
      by_cases h1 : (share_Split.rest R j : Int) = (share_Split.rest R i : Int)
      · rw [if_pos h1, if_neg (by omega)]; exact ih
      · rw [if_neg h1]; exact ih
/-- The state of the last loop: the first i are done. -/
def mixd (P Q : List Int) (i : Nat) : List Int := P.take i ++ Q.drop i
theorem mixd_step {P Q : List Int} (h : P.length = Q.length) {i : Nat} (hi : i < Q.length) (x : Int) (hx : rd P (i : Int) = x) : (mixd P Q i).set i x = mixd P Q (i + 1) := by
  unfold mixd
  rw [List.set_append_right _ _ (by rw [List.length_take]; omega), List.length_take, Nat.min_eq_left (by omega), Nat.sub_self, List.drop_eq_getElem_cons hi, List.set_cons_zero, List.take_succ_eq_append_getElem (by omega), ← rd_nat P i (by omega), hx, List.append_assoc]
  rfl
theorem mixd_same {P Q : List Int} (h : P.length = Q.length) {i : Nat} (hi : i < Q.length) (hx : rd P (i : Int) = rd Q (i : Int)) : mixd P Q (i + 1) = mixd P Q i := by
  unfold mixd
  rw [List.take_succ_eq_append_getElem (by omega), ← rd_nat P i (by omega), hx, List.drop_eq_getElem_cons hi, rd_nat Q i hi, List.append_assoc]
  rfl
theorem mixd_rd {P Q : List Int} (h : P.length = Q.length) {i : Nat} (hi : i < Q.length) : rd (mixd P Q i) (i : Int) = rd Q (i : Int) := by
  unfold rd mixd
  rw [Int.toNat_natCast, List.getD_eq_getElem?_getD, List.getD_eq_getElem?_getD, List.getElem?_append_right (by rw [List.length_take]; omega), List.length_take, Nat.min_eq_left (by omega), Nat.sub_self, List.getElem?_drop, Nat.add_zero]
theorem mixd_length {P Q : List Int} (h : P.length = Q.length) {i : Nat} (hi : i ≤ Q.length) : (mixd P Q i).length = Q.length := by
  unfold mixd; rw [List.length_append, List.length_take, List.length_drop]; omega
theorem rd_qs {a0 s : Int} {l : List Int} {i : Nat} (hi : i < l.length) : rd (qs a0 s l) (i : Int) = a0 * rd l (i : Int) / s := by
  rw [rd_nat _ i (by rw [qs_length]; exact hi), rd_nat l i hi]; simp [qs]
theorem rd_rl {a0 s : Int} {l : List Int} {i : Nat} (hi : i < l.length) : rd (rl a0 s l) (i : Int) = a0 * rd l (i : Int) % s := by
  rw [rd_nat _ i (by rw [rl_length]; exact hi), rd_nat l i hi]; simp [rl]
theorem rl_nonneg {a0 s : Int} (hs : 0 < s) (l : List Int) : ∀ x ∈ rl a0 s l, 0 ≤ x := fun x hx => by
  obtain ⟨y, _, rfl⟩ := List.mem_map.mp hx
  exact Int.emod_nonneg _ (by omega)
theorem l2_run {a0 : Int} {l : List Int} (g : Good a0 l) (K : Nat) : ∀ (d i : Nat), i + d = l.length → dancestudioref12_Split.l2 (K + d * (l.length + 2) + 1) (mixd (parts a0 l) (qs a0 l.sum l) i) (rl a0 l.sum l) (lft a0 l) (i : Int) = some (parts a0 l, 0)
  | 0, i, hi => by
    obtain rfl : i = l.length := by omega
    have hml := mixd_length (P := parts a0 l) (Q := qs a0 l.sum l) (by rw [parts_length, qs_length]) (i := l.length) (by rw [qs_length]; omega)
    rw [qs_length] at hml
    rw [dancestudioref12_Split.l2, hml, if_neg (by omega)]
    unfold mixd
    rw [List.take_of_length_le (by rw [parts_length]; omega), List.drop_eq_nil_of_le (by rw [qs_length]; omega), List.append_nil]
  | d + 1, i, hi => by
    have n1 := g.n1
    have hl : (parts a0 l).length = (qs a0 l.sum l).length := by rw [parts_length, qs_length]
    have hiq : i < (qs a0 l.sum l).length := by rw [qs_length]; omega
    have hml := mixd_length hl (i := i) (by omega)
    rw [qs_length] at hml
    have ih := l2_run g K d (i + 1) (by omega)
    have h3 := l3_run (left := lft a0 l) hml (rl_length a0 l.sum l) (by omega) (rl_nonneg g.s0 l) (i := i) (by omega) (K + d * (l.length + 2) + 1) l.length 0 (by omega)
    have em : (d + 1) * (l.length + 2) = d * (l.length + 2) + (l.length + 2) := Nat.succ_mul _ _
    have ek : K + (d + 1) * (l.length + 2) + 1 = K + d * (l.length + 2) + 1 + l.length + 1 + 1 := by omega
    have c0 : cnt (share_Split.rest (rl a0 l.sum l)) i 0 = 0 := rfl
    have cN : cnt (share_Split.rest (rl a0 l.sum l)) i l.length = bf (share_Split.rest (rl a0 l.sum l)) l.length i := rfl
    rw [c0, cN, mixd_rd hl hiq, rd_qs (by omega)] at h3
    have hpt := rd_parts a0 l i (by omega)
    unfold pt at hpt
    have q := quo_in g.t0 g.t1 g.s0 (g.le _ (rd_mem (l := l) (i := i) (by omega))).1 (g.le _ (rd_mem (l := l) (i := i) (by omega))).2
    rw [ek, dancestudioref12_Split.l2, hml, if_pos (by omega)]
    refine Eq.trans h3 ?_
    by_cases h : (bf (share_Split.rest (rl a0 l.sum l)) l.length i : Int) < lft a0 l
    · rw [if_pos h] at hpt ⊢
      rw [wrap_in _ (by omega) (by omega), mixd_step hl hiq _ hpt]
      exact ih
    · rw [if_neg h] at hpt ⊢
      rw [Int.add_zero] at hpt
      rw [← mixd_same hl hiq (by rw [hpt, rd_qs (by omega)])]
      exact ih
theorem take_app {l : List Int} {i : Nat} (h : i < l.length) : l.take i ++ [rd l (i : Int)] = l.take (i + 1) := by rw [List.take_succ_eq_append_getElem h, rd_nat l i h]
theorem l1_run {a0 : Int} {l : List Int} (g : Good a0 l) (K : Nat) (hK : 43 ≤ K) (res : List Int × Int) (hr : dancestudioref12_Split.l2 K (qs a0 l.sum l) (rl a0 l.sum l) (lft a0 l) 0 = some res) : ∀ (d i : Nat), i + d = l.length → dancestudioref12_Split.l1 (K + d + 1) a0 l l.sum ((qs a0 l.sum l).take i) ((rl a0 l.sum l).take i) (a0 - ((qs a0 l.sum l).take i).sum) (i : Int) = some res
  | 0, i, hi => by
    obtain rfl : i = l.length := by omega
    rw [dancestudioref12_Split.l1, if_neg (by omega), List.take_of_length_le (by rw [qs_length]; omega), List.take_of_length_le (by rw [rl_length]; omega)]
    exact hr
  | d + 1, i, hi => by
    have n1 := g.n1
    have hm := g.le _ (rd_mem (l := l) (i := i) (by omega))
    have ih := l1_run g K hK res hr d (i + 1) (by omega)
    have q := quo_in g.t0 g.t1 g.s0 hm.1 hm.2
    have hqm : ∀ x ∈ qs a0 l.sum l, 0 ≤ x ∧ x ≤ 1099511627776 := fun x hx => by
      obtain ⟨y, hy, rfl⟩ := List.mem_map.mp hx
      exact quo_in g.t0 g.t1 g.s0 (g.le y hy).1 (g.le y hy).2
    have t := take_range _ hqm (by rw [qs_length]; omega) (i + 1)
    have ha := take_app (l := qs a0 l.sum l) (i := i) (by rw [qs_length]; omega)
    have hb := take_app (l := rl a0 l.sum l) (i := i) (by rw [rl_length]; omega)
    rw [rd_qs (by omega)] at ha
    rw [rd_rl (by omega)] at hb
    have es : ((qs a0 l.sum l).take (i + 1)).sum = ((qs a0 l.sum l).take i).sum + a0 * rd l (i : Int) / l.sum := by rw [← ha, List.sum_append]; simp
    have c1 : (i : Int) < (l.length : Int) := by omega
    have b2 : -9223372036854775808 ≤ (i : Int) + 1 ∧ (i : Int) + 1 ≤ 9223372036854775807 := by omega
    have b3 : -9223372036854775808 ≤ a0 - ((qs a0 l.sum l).take i).sum - a0 * rd l (i : Int) / l.sum ∧ a0 - ((qs a0 l.sum l).take i).sum - a0 * rd l (i : Int) / l.sum ≤ 9223372036854775807 := by have := g.t0; have := g.t1; omega
    have e3 : a0 - ((qs a0 l.sum l).take i).sum - a0 * rd l (i : Int) / l.sum = a0 - ((qs a0 l.sum l).take (i + 1)).sum := by omega
    rw [show K + (d + 1) + 1 = K + d + 1 + 1 by omega, dancestudioref12_Split.l1, if_pos c1, if_pos (Int.natCast_nonneg _), over_f g.t0 g.t1 hm.1 hm.2 g.s0 g.s1 (K + d + 1) (by omega), Option.bind_some, if_pos (by rw [List.length_take, qs_length]; omega), if_pos (by rw [List.length_take, rl_length]; omega)]
    show dancestudioref12_Split.l1 (K + d + 1) a0 l l.sum ((qs a0 l.sum l).take i ++ [a0 * rd l (i : Int) / l.sum]) ((rl a0 l.sum l).take i ++ [a0 * rd l (i : Int) % l.sum]) (wrap64 (a0 - ((qs a0 l.sum l).take i).sum - a0 * rd l (i : Int) / l.sum)) (wrap64 ((i : Int) + 1)) = _
    rw [ha, hb, wrap_in _ b3.1 b3.2, e3, wrap_in _ b2.1 b2.2]
    exact ih
theorem l0_run {a0 : Int} {l : List Int} (hl : l.length ≤ 512) (K : Nat) : ∀ (d i : Nat), i + d = l.length → (∀ j : Nat, j < i → am (rd l (j : Int)) = true) → dancestudioref12_Split.l0 (K + d + 1) a0 l ((l.take i).sum) (i : Int) = (if (wchk l).2 = 0 then dancestudioref12_Split.l1 K a0 l l.sum [] [] a0 0 else some ([], (wchk l).2))
  | 0, i, hi, hp => by
    obtain rfl : i = l.length := by omega
    have ha : l.all am = true := all_of hp
    rw [dancestudioref12_Split.l0, if_neg (by omega), List.take_of_length_le (by omega)]
    unfold wchk
    rw [if_pos ha]
    by_cases h1 : l.sum = 0
    · rw [if_pos h1, if_pos h1]; rfl
    · rw [if_neg h1, if_neg h1]
      by_cases h2 : l.sum > 1099511627776
      · rw [if_pos h2, if_pos h2]; rfl
      · rw [if_neg h2, if_neg h2]; rfl
  | d + 1, i, hi, hp => by
    have c1 : (i : Int) < (l.length : Int) := by omega
    have b2 : -9223372036854775808 ≤ (i : Int) + 1 ∧ (i : Int) + 1 ≤ 9223372036854775807 := by omega
    rw [show K + (d + 1) + 1 = K + d + 1 + 1 by omega, dancestudioref12_Split.l0, if_pos c1, if_pos (Int.natCast_nonneg _), amount_f, Option.bind_some]
    by_cases hx : am (rd l (i : Int)) = true
    · have hp2 : ∀ j : Nat, j < i + 1 → am (rd l (j : Int)) = true := fun j hj => by
        rcases Nat.lt_or_ge j i with h | h
        · exact hp j h
        · obtain rfl : j = i := by omega
          exact hx
      have ih := l0_run (a0 := a0) hl K d (i + 1) (by omega) hp2
      push_cast at ih
      have e := sum_take l i (by omega)
      have t : ∀ y ∈ l.take (i + 1), 0 ≤ y ∧ y ≤ 1099511627776 := fun y hy => by
        obtain ⟨j, hj, rfl⟩ := List.mem_iff_getElem.mp hy
        rw [List.length_take] at hj
        have := hp2 j (by omega)
        rw [rd_nat l j (by omega)] at this
        rw [List.getElem_take]
        exact (am_iff _).mp this
      have t2 := sum_range _ t
      rw [List.length_take] at t2
      rw [if_pos hx, ← e, wrap_in _ (by omega) (by omega), wrap_in _ b2.1 b2.2]
      exact ih
    · have ew : wchk l = (0, 1) := by unfold wchk; rw [not_all (i := i) (by omega) (Bool.eq_false_iff.mpr hx)]; rfl
      rw [if_neg hx, ew]; rfl
theorem ref_split (a0 : Int) (l : List Int) (K : Nat) (hK : 43 ≤ K) : dancestudioref12_Split.f (K + l.length * (l.length + 2) + 1 + l.length + 1 + l.length + 1) a0 l = (if (chk a0 l).2 = 0 then some (parts a0 l, 0) else some ([], (chk a0 l).2)) := by
  unfold dancestudioref12_Split.f
  rw [amount_f, Option.bind_some]
  by_cases h0 : am a0 = true
  · rw [if_pos h0]
    by_cases h1 : (l.length : Int) = 0
    · have e : chk a0 l = (0, 4) := by unfold chk; rw [if_pos h0, if_pos h1]
      rw [if_pos h1, e]; rfl
    · rw [if_neg h1]
      by_cases h2 : (l.length : Int) > 512
      · have e : chk a0 l = (0, 3) := by unfold chk; rw [if_pos h0, if_neg h1, if_pos h2]
        rw [if_pos h2, e]; rfl
      · have e : chk a0 l = wchk l := by unfold chk; rw [if_pos h0, if_neg h1, if_neg h2]
        have h3 := l0_run (a0 := a0) (l := l) (by omega) (K + l.length * (l.length + 2) + 1 + l.length + 1) l.length 0 (by omega) (fun j hj => by omega)
        rw [if_neg h2, e]
        refine Eq.trans ?_ (Eq.trans h3 ?_)
        · simp
        · by_cases hc : (wchk l).2 = 0
          · rw [if_pos hc, if_pos hc]
            have g := (chk_good (a0 := a0) (l := l) (by rw [e]; exact hc)).1
            have h4 := l2_run g K l.length 0 (by omega)
            have h5 := l1_run g (K + l.length * (l.length + 2) + 1) (by omega) _ (by
              have em : mixd (parts a0 l) (qs a0 l.sum l) 0 = qs a0 l.sum l := by unfold mixd; simp
              rw [em] at h4
              exact h4) l.length 0 (by omega)
            simpa using h5
          · rw [if_neg hc, if_neg hc]
  · have e : chk a0 l = (0, 1) := by unfold chk; rw [if_neg h0]
    rw [if_neg h0, e]; rfl
end Go.Proofs.Ytekbeaogiagidaa.Sh
