/- The parts are fair: they add up, are the exact ones rounded, and ascend with the weights. -/
import Derived.Test.YtekbeaogiagidaaShParts
namespace Go.Proofs.Ytekbeaogiagidaa.Sh
open Go.RowKit Go.Proofs.YtekbeaogiagidaaW.PrintWords Go.Proofs.Ytekbeaogiagidaa.X Go.Proofs.Ytekbeaogiagidaa.So
set_option linter.unusedVariables false
set_option linter.unusedSimpArgs false
/-- Exactly m stand among the first m. -/
theorem bf_count (rs : Nat → Nat) (N m : Nat) (hm : m ≤ N) : (List.range N).countP (fun i => decide (bf rs N i < m)) = m := by
  rw [← (ord_perm rs N).countP_eq, ← List.take_append_drop m (ord rs N), List.countP_append]
  have hn := ord_nodup rs N
  rw [← List.take_append_drop m (ord rs N), List.nodup_append] at hn
  have h1 : ((ord rs N).take m).countP (fun i => decide (bf rs N i < m)) = ((ord rs N).take m).length := List.countP_eq_length.mpr fun i hi => decide_eq_true ((ord_take rs N m i ((ord_mem rs N i).mp (List.mem_of_mem_take hi))).mp hi)
  have h2 : ((ord rs N).drop m).countP (fun i => decide (bf rs N i < m)) = 0 := List.countP_eq_zero.mpr fun i hi => by
    rw [decide_eq_true_iff, ← ord_take rs N m i ((ord_mem rs N i).mp (List.mem_of_mem_drop hi))]
    exact fun h => hn.2.2 i h i hi rfl
  rw [h1, h2, List.length_take, ord_length]
  omega
theorem bf_mono {rs : Nat → Nat} {N i j : Nat} (h : prR rs j i) : bf rs N j ≤ bf rs N i := by
  unfold bf
  refine List.countP_mono_left fun m _ hm => ?_
  have := of_decide_eq_true hm
  refine decide_eq_true ?_
  unfold prR at *
  omega
/-- Whose rest is nothing gets nothing more. -/
theorem rl_count {s : Int} (hs : 0 < s) (R : List Int) (h : ∀ x ∈ R, 0 ≤ x ∧ x < s) : R.sum ≤ (R.countP (fun r => decide (0 < r)) : Int) * (s - 1) := by
  induction R with
  | nil => simp
  | cons x R ih =>
    have hx := h x (by simp)
    have := ih (fun y hy => h y (by simp [hy]))
    rw [List.sum_cons, List.countP_cons]
    by_cases h0 : 0 < x
    · rw [if_pos (decide_eq_true h0)]
      push_cast
      rw [Int.add_mul, Int.one_mul]
      omega
    · rw [if_neg (by rw [decide_eq_false h0]; decide), Nat.add_zero]
      omega
theorem range_map (R : List Int) : R = (List.range R.length).map (fun j : Nat => rd R (j : Int)) := by
  refine List.ext_getElem? fun i => ?_
  rcases Nat.lt_or_ge i R.length with h | h
  · rw [List.getElem?_map, List.getElem?_range h, Option.map_some, rd_nat R i h, List.getElem?_eq_getElem h]
  · rw [List.getElem?_eq_none h, List.getElem?_eq_none (by rw [List.length_map, List.length_range]; exact h)]
theorem bf_zero {R : List Int} (hR : ∀ x ∈ R, 0 ≤ x) {i : Nat} (hi : i < R.length) (h : rd R (i : Int) = 0) : R.countP (fun r => decide (0 < r)) ≤ bf (share_Split.rest R) R.length i := by
  have e : R.countP (fun r => decide (0 < r)) = (List.range R.length).countP (fun j : Nat => decide (0 < rd R (j : Int))) := by
    conv => lhs; rw [range_map R]
    rw [List.countP_map]
    rfl
  rw [e]
  unfold bf
  refine List.countP_mono_left fun m hm h2 => ?_
  have h3 := of_decide_eq_true h2
  have hm := List.mem_range.mp hm
  have a := rest_rd hR hm
  have b := rest_rd hR hi
  refine decide_eq_true ?_
  unfold prR
  omega
theorem bumped_pos {a0 : Int} {l : List Int} (g : Good a0 l) {i : Nat} (hi : i < l.length) (h : (bf (share_Split.rest (rl a0 l.sum l)) l.length i : Int) < lft a0 l) : 0 < a0 * rd l (i : Int) % l.sum := by
  have s0 := g.s0
  have hb : ∀ x ∈ rl a0 l.sum l, 0 ≤ x ∧ x < l.sum := fun x hx => by
    obtain ⟨y, _, rfl⟩ := List.mem_map.mp hx
    exact ⟨Int.emod_nonneg _ (by omega), Int.emod_lt_of_pos _ s0⟩
  have r0 : 0 ≤ a0 * rd l (i : Int) % l.sum := Int.emod_nonneg _ (by omega)
  rcases Int.lt_or_le 0 (a0 * rd l (i : Int) % l.sum) with h0 | h0
  · exact h0
  · have hz := bf_zero (fun x hx => (hb x hx).1) (i := i) (by rw [rl_length]; exact hi) (by rw [rd_rl hi]; omega)
    have hc := rl_count s0 _ hb
    rw [← lft_mul] at hc
    rw [rl_length] at hz
    generalize (rl a0 l.sum l).countP (fun r => decide (0 < r)) = n at hz hc
    have h1 : l.sum * ((n : Int) + 1) ≤ l.sum * lft a0 l := Int.mul_le_mul_of_nonneg_left (by omega) (by omega)
    rw [Int.mul_add, Int.mul_one, Int.mul_comm] at h1
    rw [Int.mul_sub, Int.mul_one] at hc
    omega
/-- The exact share lies between a part less one and a part more one. -/
theorem pt_near {a0 : Int} {l : List Int} (g : Good a0 l) {i : Nat} (hi : i < l.length) : 0 ≤ pt a0 l i ∧ pt a0 l i ≤ 1099511627777 ∧ (pt a0 l i - 1) * l.sum < a0 * rd l (i : Int) ∧ a0 * rd l (i : Int) < (pt a0 l i + 1) * l.sum ∧ (rd l (i : Int) = 0 → pt a0 l i = 0) := by
  have s0 := g.s0
  have hm := g.le _ (rd_mem hi)
  have q := quo_in g.t0 g.t1 g.s0 hm.1 hm.2
  have e := Int.mul_ediv_add_emod (a0 * rd l (i : Int)) l.sum
  rw [Int.mul_comm] at e
  have r0 := Int.emod_nonneg (a0 * rd l (i : Int)) (show l.sum ≠ 0 by omega)
  have r1 := Int.emod_lt_of_pos (a0 * rd l (i : Int)) s0
  unfold pt
  by_cases h : (bf (share_Split.rest (rl a0 l.sum l)) l.length i : Int) < lft a0 l
  · have hp := bumped_pos g hi h
    rw [if_pos h]
    refine ⟨by omega, by omega, ?_, ?_, fun hz => ?_⟩
    · rw [show a0 * rd l (i : Int) / l.sum + 1 - 1 = a0 * rd l (i : Int) / l.sum by omega]; omega
    · rw [Int.add_mul, Int.add_mul, Int.one_mul]; omega
    · rw [hz, Int.mul_zero, Int.zero_emod] at hp; omega
  · rw [if_neg h, Int.add_zero]
    refine ⟨by omega, by omega, ?_, ?_, fun hz => ?_⟩
    · rw [Int.sub_mul, Int.one_mul]; omega
    · rw [Int.add_mul, Int.one_mul]; omega
    · rw [hz, Int.mul_zero, Int.zero_ediv]
theorem pt_bounds (a0 : Int) (l : List Int) (i : Nat) : a0 * rd l (i : Int) / l.sum ≤ pt a0 l i ∧ pt a0 l i ≤ a0 * rd l (i : Int) / l.sum + 1 := by
  unfold pt
  split <;> omega
theorem pt_of_pr {a0 : Int} {l : List Int} {i j : Nat} (hq : a0 * rd l (i : Int) / l.sum = a0 * rd l (j : Int) / l.sum) (h : prR (share_Split.rest (rl a0 l.sum l)) j i) : pt a0 l i ≤ pt a0 l j := by
  have hb := bf_mono (N := l.length) h
  unfold pt
  rw [hq]
  split
  · rw [if_pos (by omega)]; omega
  · split <;> omega
theorem lft_zero {l : List Int} : lft 0 l = 0 := by
  have h : ∀ (s : Int) (m : List Int), (qs 0 s m).sum = 0 := fun s m => by
    induction m with
    | nil => simp [qs]
    | cons x m ih => show ((0 * x / s) :: qs 0 s m).sum = 0; rw [List.sum_cons, ih]; simp
  unfold lft
  rw [h]; rfl
/-- A larger weight doesn't get less. -/
theorem pt_mono {a0 : Int} {l : List Int} (g : Good a0 l) {i j : Nat} (hi : i < l.length) (hj : j < l.length) (h : rd l (i : Int) < rd l (j : Int)) : pt a0 l i ≤ pt a0 l j := by
  have s0 := g.s0
  have ei := Int.mul_ediv_add_emod (a0 * rd l (i : Int)) l.sum
  have ej := Int.mul_ediv_add_emod (a0 * rd l (j : Int)) l.sum
  have bi := pt_bounds a0 l i
  have bj := pt_bounds a0 l j
  have hle : a0 * rd l (i : Int) ≤ a0 * rd l (j : Int) := Int.mul_le_mul_of_nonneg_left (by omega) g.t0
  have hq : a0 * rd l (i : Int) / l.sum ≤ a0 * rd l (j : Int) / l.sum := Int.ediv_le_ediv s0 hle
  rcases Int.lt_or_le (a0 * rd l (i : Int) / l.sum) (a0 * rd l (j : Int) / l.sum) with h1 | h1
  · omega
  · have he : a0 * rd l (i : Int) / l.sum = a0 * rd l (j : Int) / l.sum := by omega
    have ri := rest_rd (rl_nonneg (a0 := a0) s0 l) (j := i) (by rw [rl_length]; exact hi)
    have rj := rest_rd (rl_nonneg (a0 := a0) s0 l) (j := j) (by rw [rl_length]; exact hj)
    rw [rd_rl hi] at ri
    rw [rd_rl hj] at rj
    rw [he] at ei
    rcases Int.lt_or_le (a0 * rd l (i : Int)) (a0 * rd l (j : Int)) with h2 | h2
    · exact pt_of_pr he (by unfold prR; omega)
    · have h0 : a0 = 0 := by
        rcases Int.lt_or_le 0 a0 with h3 | h3
        · have := Int.mul_lt_mul_of_pos_left h h3; omega
        · have := g.t0; omega
      subst h0
      have hz : ∀ m : Nat, pt 0 l m = 0 := fun m => by
        unfold pt
        rw [lft_zero, if_neg (by omega)]
        simp
      rw [hz, hz]
      exact Int.le_refl _
/-- Of equal weights the earlier doesn't get less. -/
theorem pt_same {a0 : Int} {l : List Int} (g : Good a0 l) {i j : Nat} (hi : i < l.length) (hj : j < i) (h : rd l (j : Int) = rd l (i : Int)) : pt a0 l i ≤ pt a0 l j := by
  have s0 := g.s0
  have ri := rest_rd (rl_nonneg (a0 := a0) s0 l) (j := i) (by rw [rl_length]; exact hi)
  have rj := rest_rd (rl_nonneg (a0 := a0) s0 l) (j := j) (by rw [rl_length]; omega)
  rw [rd_rl hi] at ri
  rw [rd_rl (by omega), h] at rj
  exact pt_of_pr (by rw [h]) (by unfold prR; omega)
theorem sum_add (f g : Nat → Int) (L : List Nat) : (L.map (fun i => f i + g i)).sum = (L.map f).sum + (L.map g).sum := by
  induction L with
  | nil => simp
  | cons x L ih => simp only [List.map_cons, List.sum_cons, ih]; omega
theorem sum_if (p : Nat → Prop) [DecidablePred p] (L : List Nat) : (L.map (fun i => if p i then (1 : Int) else 0)).sum = (L.countP (fun i => decide (p i)) : Int) := by
  induction L with
  | nil => simp
  | cons x L ih =>
    rw [List.map_cons, List.sum_cons, ih, List.countP_cons]
    by_cases h : p x
    · rw [if_pos h, if_pos (decide_eq_true h)]; push_cast; omega
    · rw [if_neg h, if_neg (by rw [decide_eq_false h]; decide)]; omega
/-- The parts add up. -/
theorem parts_sum {a0 : Int} {l : List Int} (g : Good a0 l) : (parts a0 l).sum = a0 := by
  have t := lft_range (a0 := a0) g.s0
  have hq : (List.range l.length).map (fun i : Nat => a0 * rd l (i : Int) / l.sum) = qs a0 l.sum l := by
    refine List.ext_getElem? fun i => ?_
    rcases Nat.lt_or_ge i l.length with h | h
    · rw [List.getElem?_map, List.getElem?_range h, Option.map_some, rd_nat l i h]
      unfold qs
      rw [List.getElem?_map, List.getElem?_eq_getElem h]; rfl
    · rw [List.getElem?_eq_none (by rw [List.length_map, List.length_range]; exact h), List.getElem?_eq_none (by rw [qs_length]; exact h)]
  have hb := bf_count (share_Split.rest (rl a0 l.sum l)) l.length (lft a0 l).toNat (by omega)
  have hc : (List.range l.length).countP (fun i => decide ((bf (share_Split.rest (rl a0 l.sum l)) l.length i : Int) < lft a0 l)) = (lft a0 l).toNat := by
    rw [← hb]
    congr 1
    funext i
    rw [decide_eq_decide]
    omega
  have e : (parts a0 l).sum = ((List.range l.length).map (fun i : Nat => a0 * rd l (i : Int) / l.sum)).sum + ((List.range l.length).map (fun i => if (bf (share_Split.rest (rl a0 l.sum l)) l.length i : Int) < lft a0 l then (1 : Int) else 0)).sum := sum_add _ _ _
  rw [e, hq, sum_if (fun i => (bf (share_Split.rest (rl a0 l.sum l)) l.length i : Int) < lft a0 l), hc]
  have : lft a0 l = a0 - (qs a0 l.sum l).sum := rfl
  omega
theorem parts_take {a0 : Int} {l : List Int} (g : Good a0 l) (i : Nat) : 0 ≤ ((parts a0 l).take i).sum ∧ ((parts a0 l).take i).sum ≤ a0 := by
  have h : ∀ x ∈ parts a0 l, 0 ≤ x := fun x hx => by
    obtain ⟨j, hj, rfl⟩ := List.mem_map.mp hx
    exact (pt_near g (List.mem_range.mp hj)).1
  have h0 : ∀ m : List Int, (∀ z ∈ m, 0 ≤ z) → 0 ≤ m.sum := fun m => by
    induction m with
    | nil => intro _; simp
    | cons a m ihm => intro hm; rw [List.sum_cons]; have := hm a (by simp); have := ihm (fun z hz => hm z (by simp [hz])); omega
  have a := h0 _ (fun z hz => h z (List.mem_of_mem_take (i := i) hz))
  have b := h0 _ (fun z hz => h z (List.mem_of_mem_drop (i := i) hz))
  have e := parts_sum g
  rw [← List.take_append_drop i (parts a0 l), List.sum_append] at e
  omega
end Go.Proofs.Ytekbeaogiagidaa.Sh
