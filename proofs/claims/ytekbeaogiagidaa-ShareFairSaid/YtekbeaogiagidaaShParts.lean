/- The shares: quotients, rests, and who gets one more. -/
import Derived.Test.YtekbeaogiagidaaX9
import Derived.Test.YtekbeaogiagidaaX4
import Derived.Test.YtekbeaogiagidaaX16
import Derived.Test.YtekbeaogiagidaaShSpec
namespace Go.Proofs.Ytekbeaogiagidaa.Sh
open Go.RowKit Go.Proofs.YtekbeaogiagidaaW.PrintWords Go.Proofs.Ytekbeaogiagidaa.X Go.Proofs.Ytekbeaogiagidaa.So
set_option linter.unusedVariables false
set_option linter.unusedSimpArgs false
def qs (a0 s : Int) (l : List Int) : List Int := l.map (fun x => a0 * x / s)
def rl (a0 s : Int) (l : List Int) : List Int := l.map (fun x => a0 * x % s)
theorem qs_length (a0 s : Int) (l : List Int) : (qs a0 s l).length = l.length := by simp [qs]
theorem rl_length (a0 s : Int) (l : List Int) : (rl a0 s l).length = l.length := by simp [rl]
theorem quo_in {a0 s x : Int} (h0 : 0 ≤ a0) (h1 : a0 ≤ 1099511627776) (hs : 0 < s) (hx : 0 ≤ x) (hxs : x ≤ s) : 0 ≤ a0 * x / s ∧ a0 * x / s ≤ 1099511627776 := by
  refine ⟨Int.ediv_nonneg (Int.mul_nonneg h0 hx) (by omega), Int.ediv_le_of_le_mul hs ?_⟩
  have := Int.mul_le_mul h1 hxs hx (show (0 : Int) ≤ 1099511627776 by omega)
  exact this
theorem qr_f {a0 s : Int} (h0 : 0 ≤ a0) (h1 : a0 ≤ 1099511627776) (hs : 0 < s) (hs1 : s ≤ 1099511627776) (k : Nat) : ∀ l : List Int, (∀ x ∈ l, 0 ≤ x ∧ x ≤ s) → share_Split.qr (k + 12) a0 s l = some (qs a0 s l, rl a0 s l)
  | [], _ => rfl
  | x :: l, h => by
    have hx := h x (by simp)
    have p0 : 0 ≤ a0 * x := Int.mul_nonneg h0 hx.1
    have p1 : a0 * x ≤ 1099511627776 * s := Int.mul_le_mul h1 hx.2 hx.1 (by omega)
    have q := quo_in h0 h1 hs hx.1 hx.2
    have hh : a0 * x / 18446744073709551616 < s := Int.ediv_lt_of_lt_mul (by omega) (by omega)
    have e := Int.mul_ediv_add_emod (a0 * x) 18446744073709551616
    rw [Int.mul_comm] at e
    rw [share_Split.qr, wr_in a0 h0 (by omega), wr_in x hx.1 (by omega), mul_f a0 x h0 (by omega) hx.1 (by omega), Option.bind_some]
    show ((bits_Div64.f (k + 12) (a0 * x / 18446744073709551616) (a0 * x % 18446744073709551616) (IntKind.u64.wrap s)).bind _) = _
    rw [wr_in s (by omega) (by omega), div_f _ _ _ hs hs1 (Int.ediv_nonneg p0 (by omega)) hh (Int.emod_nonneg _ (by omega)) (Int.emod_lt_of_pos _ (by omega)), e, Option.bind_some]
    show (if 0 ≤ a0 * x % s then _ else _) = _
    rw [if_pos (Int.emod_nonneg _ (by omega)), qr_f h0 h1 hs hs1 k l (fun y hy => h y (by simp [hy])), Option.bind_some]
    show some (wrap64 (a0 * x / s) :: qs a0 s l, a0 * x % s :: rl a0 s l) = _
    rw [wrap_in _ (by omega) (by omega)]
    rfl
theorem qs_sum (a0 s : Int) (l : List Int) : s * (qs a0 s l).sum + (rl a0 s l).sum = a0 * l.sum := by
  induction l with
  | nil => simp [qs, rl]
  | cons x l ih =>
    have e := Int.mul_ediv_add_emod (a0 * x) s
    show s * ((a0 * x / s) :: qs a0 s l).sum + ((a0 * x % s) :: rl a0 s l).sum = _
    rw [List.sum_cons, List.sum_cons, List.sum_cons, Int.mul_add, Int.mul_add]
    omega
theorem rl_sum {s : Int} (hs : 0 < s) (a0 : Int) (l : List Int) : 0 ≤ (rl a0 s l).sum ∧ (rl a0 s l).sum ≤ (l.length : Int) * (s - 1) := by
  induction l with
  | nil => simp [rl]
  | cons x l ih =>
    have r0 := Int.emod_nonneg (a0 * x) (show s ≠ 0 by omega)
    have r1 := Int.emod_lt_of_pos (a0 * x) hs
    show 0 ≤ ((a0 * x % s) :: rl a0 s l).sum ∧ ((a0 * x % s) :: rl a0 s l).sum ≤ _
    rw [List.sum_cons, List.length_cons]
    push_cast
    rw [Int.add_mul, Int.one_mul]
    omega
/-- What is left over. -/
def lft (a0 : Int) (l : List Int) : Int := a0 - (qs a0 l.sum l).sum
theorem lft_mul {a0 : Int} {l : List Int} : l.sum * lft a0 l = (rl a0 l.sum l).sum := by
  have := qs_sum a0 l.sum l
  unfold lft
  rw [Int.mul_sub, Int.mul_comm l.sum a0]
  omega
theorem lft_range {a0 : Int} {l : List Int} (hs : 0 < l.sum) : 0 ≤ lft a0 l ∧ lft a0 l ≤ (l.length : Int) := by
  have e := lft_mul (a0 := a0) (l := l)
  obtain ⟨r0, r1⟩ := rl_sum hs a0 l
  rw [← e] at r0 r1
  generalize lft a0 l = t at r0 r1 ⊢
  refine ⟨?_, ?_⟩
  · rcases Int.lt_or_le t 0 with h | h
    · have := Int.mul_neg_of_pos_of_neg hs h; omega
    · exact h
  · rcases Int.lt_or_le (l.length : Int) t with h | h
    · have h2 : l.sum * ((l.length : Int) + 1) ≤ l.sum * t := Int.mul_le_mul_of_nonneg_left (by omega) (by omega)
      rw [Int.mul_add, Int.mul_one, Int.mul_comm] at h2
      rw [Int.mul_sub, Int.mul_one] at r1
      omega
    · exact h
theorem bump_get : ∀ (L : List Nat) (Q : List Int), L.Nodup → ∀ i, i < Q.length → (share_Split.bump Q L).getD i 0 = if i ∈ L then wrap64 (Q.getD i 0 + 1) else Q.getD i 0
  | [], Q, _, i, hi => by simp [share_Split.bump]
  | x :: t, Q, hn, i, hi => by
    rw [List.nodup_cons] at hn
    have e : share_Split.bump Q (x :: t) = share_Split.bump (Q.set x (wrap64 (Q.getD x 0 + 1))) t := rfl
    rw [e, bump_get t _ hn.2 i (by rw [List.length_set]; exact hi)]
    have g : (Q.set x (wrap64 (Q.getD x 0 + 1))).getD i 0 = if x = i then wrap64 (Q.getD x 0 + 1) else Q.getD i 0 := by
      rw [List.getD_eq_getElem?_getD, List.getElem?_set]
      by_cases h : x = i
      · subst h; rw [if_pos rfl, if_pos rfl, if_pos hi]; rfl
      · rw [if_neg h, if_neg h, List.getD_eq_getElem?_getD]
    rw [g]
    by_cases h : x = i
    · subst h
      rw [if_neg hn.1, if_pos rfl, if_pos (by simp)]
    · rw [if_neg h]
      by_cases h2 : i ∈ t
      · rw [if_pos h2, if_pos (by simp [h2])]
      · rw [if_neg h2, if_neg (by simp [h2]; omega)]
/-- The share of i. -/
def pt (a0 : Int) (l : List Int) (i : Nat) : Int := a0 * rd l (i : Int) / l.sum + (if (bf (share_Split.rest (rl a0 l.sum l)) l.length i : Int) < lft a0 l then 1 else 0)
def parts (a0 : Int) (l : List Int) : List Int := (List.range l.length).map (pt a0 l)
theorem parts_length (a0 : Int) (l : List Int) : (parts a0 l).length = l.length := by simp [parts]
theorem rd_parts (a0 : Int) (l : List Int) (i : Nat) (h : i < l.length) : rd (parts a0 l) (i : Int) = pt a0 l i := by
  unfold rd parts
  rw [Int.toNat_natCast, List.getD_eq_getElem?_getD, List.getElem?_map, List.getElem?_range h]
  rfl
/-- What the weights are where Check finds nothing. -/
structure Good (a0 : Int) (l : List Int) : Prop where
  t0 : 0 ≤ a0
  t1 : a0 ≤ 1099511627776
  n0 : 0 < l.length
  n1 : l.length ≤ 512
  ws : ∀ x ∈ l, 0 ≤ x ∧ x ≤ 1099511627776
  s0 : 0 < l.sum
  s1 : l.sum ≤ 1099511627776
theorem chk_good {a0 : Int} {l : List Int} (h : (chk a0 l).2 = 0) : Good a0 l ∧ (chk a0 l).1 = l.sum := by
  unfold chk at h ⊢
  by_cases h0 : am a0 = true
  · rw [if_pos h0] at h ⊢
    by_cases h1 : (l.length : Int) = 0
    · rw [if_pos h1] at h; exact absurd h (by decide)
    · rw [if_neg h1] at h ⊢
      by_cases h2 : (l.length : Int) > 512
      · rw [if_pos h2] at h; exact absurd h (by decide)
      · rw [if_neg h2] at h ⊢
        unfold wchk at h ⊢
        by_cases h3 : l.all am = true
        · rw [if_pos h3] at h ⊢
          by_cases h4 : l.sum = 0
          · rw [if_pos h4] at h; exact absurd h (by decide)
          · rw [if_neg h4] at h ⊢
            by_cases h5 : l.sum > 1099511627776
            · rw [if_pos h5] at h; exact absurd h (by decide)
            · rw [if_neg h5]
              have := (am_iff a0).mp h0
              have hr := sum_range l (all_mem h3)
              exact ⟨⟨this.1, this.2, by omega, by omega, all_mem h3, by omega, by omega⟩, rfl⟩
        · rw [if_neg h3] at h; exact absurd h (by decide)
  · rw [if_neg h0] at h; exact absurd h (by decide)
theorem good_chk {a0 : Int} {l : List Int} (g : Good a0 l) : chk a0 l = (l.sum, 0) := by
  have ha : l.all am = true := List.all_eq_true.mpr fun x hx => (am_iff x).mpr (g.ws x hx)
  have n0 := g.n0
  have n1 := g.n1
  have s0 := g.s0
  have s1 := g.s1
  unfold chk wchk
  rw [if_pos ((am_iff a0).mpr ⟨g.t0, g.t1⟩), if_neg (by omega), if_neg (by omega), if_pos ha, if_neg (by omega), if_neg (by omega)]
theorem le_sum {l : List Int} (h : ∀ x ∈ l, 0 ≤ x) : ∀ x ∈ l, x ≤ l.sum := by
  induction l with
  | nil => intro x hx; cases hx
  | cons y l ih =>
    intro x hx
    have hy := h y (by simp)
    have hn : ∀ z ∈ l, 0 ≤ z := fun z hz => h z (by simp [hz])
    have h0 : ∀ m : List Int, (∀ z ∈ m, 0 ≤ z) → 0 ≤ m.sum := fun m => by
      induction m with
      | nil => intro _; simp
      | cons a m ihm => intro hm; rw [List.sum_cons]; have := hm a (by simp); have := ihm (fun z hz => hm z (by simp [hz])); omega
    have := h0 l hn
    rw [List.sum_cons]
    rcases List.mem_cons.mp hx with rfl | hx
    · omega
    · have := ih hn x hx; omega
theorem Good.le {a0 : Int} {l : List Int} (g : Good a0 l) : ∀ x ∈ l, 0 ≤ x ∧ x ≤ l.sum := fun x hx => ⟨(g.ws x hx).1, le_sum (fun y hy => (g.ws y hy).1) x hx⟩
theorem rd_mem {l : List Int} {i : Nat} (h : i < l.length) : rd l (i : Int) ∈ l := by rw [rd_nat l i h]; exact List.getElem_mem h
theorem split_ok {a0 : Int} {l : List Int} (g : Good a0 l) (k : Nat) (hk : 1210 ≤ k) : share_Split.f k a0 l = some (parts a0 l, 0) := by
  obtain ⟨j, rfl⟩ : ∃ j, k = j + 12 := ⟨k - 12, by omega⟩
  have n1 := g.n1
  have hq := qr_f g.t0 g.t1 g.s0 g.s1 j l g.le
  have hqm : ∀ x ∈ qs a0 l.sum l, 0 ≤ x ∧ x ≤ 1099511627776 := fun x hx => by
    obtain ⟨y, hy, rfl⟩ := List.mem_map.mp hx
    exact quo_in g.t0 g.t1 g.s0 (g.le y hy).1 (g.le y hy).2
  have hsum := sum_f (qs a0 l.sum l) hqm (by rw [qs_length]; omega) (j + 12) (by rw [qs_length]; omega)
  obtain ⟨t0, t1⟩ := lft_range (a0 := a0) g.s0
  have hw : wrap64 (a0 - (qs a0 l.sum l).sum) = lft a0 l := by
    show wrap64 (lft a0 l) = _
    exact wrap_in _ (by omega) (by omega)
  unfold share_Split.f
  rw [check_f _ _ _ hk, good_chk g, Option.bind_some]
  show (if (0 : Int) = 0 then _ else _) = _
  rw [if_pos rfl, if_pos (by omega), hq, Option.bind_some]
  show ((share_sum_int.f (j + 12) (qs a0 l.sum l)).bind _) = _
  rw [hsum, Option.bind_some, hw, if_pos t0, if_pos t1]
  show some (share_Split.bump (qs a0 l.sum l) ((So.ord (share_Split.rest (rl a0 l.sum l)) l.length).take (lft a0 l).toNat), (0 : Int)) = _
  congr 2
  refine List.ext_getElem? fun i => ?_
  have hbl : (share_Split.bump (qs a0 l.sum l) ((So.ord (share_Split.rest (rl a0 l.sum l)) l.length).take (lft a0 l).toNat)).length = l.length := (share_Split.bump_length _ _).trans (qs_length _ _ _)
  rcases Nat.lt_or_ge i l.length with hi | hi
  · have hb := bump_get ((So.ord (share_Split.rest (rl a0 l.sum l)) l.length).take (lft a0 l).toNat) (qs a0 l.sum l) ((ord_nodup _ _).sublist (List.take_sublist _ _)) i (by rw [qs_length]; exact hi)
    have hq2 : (qs a0 l.sum l).getD i 0 = a0 * rd l (i : Int) / l.sum := by
      rw [List.getD_eq_getElem?_getD]
      unfold qs
      rw [List.getElem?_map, List.getElem?_eq_getElem hi, rd_nat l i hi]; rfl
    have q := quo_in g.t0 g.t1 g.s0 (g.le _ (rd_mem hi)).1 (g.le _ (rd_mem hi)).2
    have hp := rd_parts a0 l i hi
    unfold rd at hp
    rw [Int.toNat_natCast] at hp
    rw [List.getElem?_eq_getElem (by rw [hbl]; exact hi), List.getElem?_eq_getElem (by rw [parts_length]; exact hi)]
    rw [List.getD_eq_getElem?_getD, List.getElem?_eq_getElem (by rw [hbl]; exact hi), Option.getD_some] at hb
    rw [List.getD_eq_getElem?_getD, List.getElem?_eq_getElem (by rw [parts_length]; exact hi), Option.getD_some] at hp
    rw [hb, hp, hq2]
    have ht := ord_take (share_Split.rest (rl a0 l.sum l)) l.length (lft a0 l).toNat i hi
    unfold pt
    by_cases hm : bf (share_Split.rest (rl a0 l.sum l)) l.length i < (lft a0 l).toNat
    · have c : (bf (share_Split.rest (rl a0 l.sum l)) l.length i : Int) < lft a0 l := by omega
      rw [if_pos (ht.mpr hm), if_pos c, wrap_in _ (by omega) (by omega)]
    · have c : ¬ (bf (share_Split.rest (rl a0 l.sum l)) l.length i : Int) < lft a0 l := by omega
      rw [if_neg (fun h => hm (ht.mp h)), if_neg c, Int.add_zero]
  · rw [List.getElem?_eq_none (by rw [hbl]; exact hi), List.getElem?_eq_none (by rw [parts_length]; exact hi)]
theorem split_bad {a0 : Int} {l : List Int} (h : (chk a0 l).2 ≠ 0) (k : Nat) (hk : 1210 ≤ k) : share_Split.f k a0 l = some ([], (chk a0 l).2) := by
  unfold share_Split.f
  rw [check_f _ _ _ hk, Option.bind_some, if_neg h]
theorem rest_rd {R : List Int} (hR : ∀ x ∈ R, 0 ≤ x) {j : Nat} (h : j < R.length) : rd R (j : Int) = (share_Split.rest R j : Int) := by
  unfold share_Split.rest rd
  rw [Int.toNat_natCast]
  refine (Int.toNat_of_nonneg ?_).symm
  rw [List.getD_eq_getElem?_getD, List.getElem?_eq_getElem h]
  exact hR _ (List.getElem_mem h)
theorem rd_qs {a0 s : Int} {l : List Int} {i : Nat} (hi : i < l.length) : rd (qs a0 s l) (i : Int) = a0 * rd l (i : Int) / s := by
  rw [rd_nat _ i (by rw [qs_length]; exact hi), rd_nat l i hi]; simp [qs]
theorem rd_rl {a0 s : Int} {l : List Int} {i : Nat} (hi : i < l.length) : rd (rl a0 s l) (i : Int) = a0 * rd l (i : Int) % s := by
  rw [rd_nat _ i (by rw [rl_length]; exact hi), rd_nat l i hi]; simp [rl]
theorem rl_nonneg {a0 s : Int} (hs : 0 < s) (l : List Int) : ∀ x ∈ rl a0 s l, 0 ≤ x := fun x hx => by
  obtain ⟨y, _, rfl⟩ := List.mem_map.mp hx
  exact Int.emod_nonneg _ (by omega)
end Go.Proofs.Ytekbeaogiagidaa.Sh
