/- Movements backwards: lists, checks, boxes and ways. -/
import Derived.Test.YtmdmajfgpmopbaaX73
import Derived.Test.YtmdmajfgpmopbaaX72
import Derived.Test.YtmdmajfgpmopbaaX71
import Derived.Test.YtmdmajfgpmopbaaX70
import Derived.Test.YtmdmajfgpmopbaaX69
import Derived.Test.YtmdmajfgpmopbaaFlBoxes
import Derived.Test.YtmdmajfgpmopbaaFlWay
namespace Go.Proofs.Ytmdmajfgpmopbaa.Fl
open Go.RowKit Go.Proofs.YtmdmajfgpmopbaaW.PrintWords Go.Proofs.Ytmdmajfgpmopbaa.X
set_option linter.unusedVariables false
set_option linter.unusedSimpArgs false
/-! ### a list that is turned about step by step -/
def Half {α : Type} (X Y : List α) (i : Nat) : Prop := Y.length = X.length ∧ ∀ j, j < X.length → Y[j]? = if j < i ∨ X.length < j + 1 + i then X[X.length - 1 - j]? else X[j]?
theorem half_start {α : Type} (X : List α) : Half X X 0 := ⟨rfl, fun j hj => by rw [if_neg (by omega)]⟩
theorem half_step {α : Type} {X Y : List α} {i : Nat} (h : Half X Y i) (hi : i + 1 + i < X.length) (x y : α) (hx : Y[i]? = some x) (hy : Y[X.length - 1 - i]? = some y) : Half X ((Y.set i y).set (X.length - 1 - i) x) (i + 1) := by
  obtain ⟨h1, h2⟩ := h
  refine ⟨by simp [h1], fun j hj => ?_⟩
  have a1 := h2 i (by omega)
  rw [if_neg (by omega), hx] at a1
  have a2 := h2 (X.length - 1 - i) (by omega)
  rw [if_neg (by omega), hy] at a2
  rw [List.getElem?_set, List.getElem?_set, List.length_set, h1]
  by_cases e1 : X.length - 1 - i = j
  · subst e1
    rw [if_pos rfl, if_pos (by omega), if_pos (by omega), show X.length - 1 - (X.length - 1 - i) = i by omega, ← a1]
  · rw [if_neg e1]
    by_cases e2 : i = j
    · subst e2
      rw [if_pos rfl, if_pos (by omega), if_pos (by omega), ← a2]
    · rw [if_neg e2, h2 j hj]
      by_cases e3 : j < i ∨ X.length < j + 1 + i
      · rw [if_pos e3, if_pos (by omega)]
      · rw [if_neg e3, if_neg (by omega)]
theorem half_end {α : Type} {X Y : List α} {i : Nat} (h : Half X Y i) (hi : X.length ≤ i + 1 + i) : Y = X.reverse := by
  obtain ⟨h1, h2⟩ := h
  apply List.ext_getElem?
  intro j
  by_cases hj : j < X.length
  · rw [h2 j hj, List.getElem?_reverse hj]
    by_cases e : j < i ∨ X.length < j + 1 + i
    · rw [if_pos e]
    · rw [if_neg e, show X.length - 1 - j = j by omega]
  · rw [List.getElem?_eq_none (by omega), List.getElem?_eq_none (by rw [List.length_reverse]; omega)]
theorem rd_get {l : List Int} {i : Nat} (h : i < l.length) : l[i]? = some (rd l (i : Int)) := by
  unfold rd
  rw [Int.toNat_natCast, List.getD_eq_getElem?_getD, List.getElem?_eq_getElem h]
  rfl
theorem rdP_get {l : List Sp} {i : Nat} (h : i < l.length) : l[i]? = some (rd_T53 l (i : Int)) := by
  unfold rd_T53
  rw [Int.toNat_natCast, List.getD_eq_getElem?_getD, List.getElem?_eq_getElem h]
  rfl
theorem revI_l0 (X : List Int) (hX : X.length ≤ 9000) : ∀ (m i k : Nat) (Y : List Int), X.length ≤ i + 1 + i + m → i ≤ X.length → m + 1 ≤ k → Half X Y i →
    slices_Reverse_int_int.l0 k Y (i : Int) ((X.length : Int) - 1 - (i : Int)) = some X.reverse := by
  intro m
  induction m with
  | zero =>
    intro i k Y hm hi hk h
    obtain ⟨k, rfl⟩ : ∃ m, k = m + 1 := ⟨k - 1, by omega⟩
    rw [slices_Reverse_int_int.l0, if_neg (by omega), half_end h (by omega)]
  | succ m ih =>
    intro i k Y hm hi hk h
    obtain ⟨k, rfl⟩ : ∃ m, k = m + 1 := ⟨k - 1, by omega⟩
    by_cases hc : i + 1 + i < X.length
    · have hl := h.1
      rw [slices_Reverse_int_int.l0, if_pos (by omega), if_pos (by omega), if_pos (by omega), if_pos (by omega), if_pos (by omega), w64 (x := (i : Int) + 1) (by omega) (by omega), w64 (x := (X.length : Int) - 1 - (i : Int) - 1) (by omega) (by omega),
        show (X.length : Int) - 1 - (i : Int) = ((X.length - 1 - i : Nat) : Int) by omega, Int.toNat_natCast, Int.toNat_natCast, show (i : Int) + 1 = ((i + 1 : Nat) : Int) by omega, show ((X.length - 1 - i : Nat) : Int) - 1 = (X.length : Int) - 1 - ((i + 1 : Nat) : Int) by omega]
      exact ih (i + 1) k _ (by omega) (by omega) (by omega) (half_step h hc _ _ (rd_get (by omega)) (rd_get (by omega)))
    · rw [slices_Reverse_int_int.l0, if_neg (by omega), half_end h (by omega)]
theorem revI_f (k : Nat) (X : List Int) (hX : X.length ≤ 9000) (hk : X.length + 2 ≤ k) : slices_Reverse_int_int.f k X = some X.reverse := by
  unfold slices_Reverse_int_int.f
  rw [w64 (by omega) (by omega), show (slices_Reverse_int_int.l0 k X 0 ((X.length : Int) - 1)) = slices_Reverse_int_int.l0 k X ((0 : Nat) : Int) ((X.length : Int) - 1 - ((0 : Nat) : Int)) by rw [show (X.length : Int) - 1 - ((0 : Nat) : Int) = (X.length : Int) - 1 by omega]; rfl]
  exact revI_l0 X hX X.length 0 k X (by omega) (by omega) (by omega) (half_start X)
theorem revP_l0 (X : List Sp) (hX : X.length ≤ 9000) : ∀ (m i k : Nat) (Y : List Sp), X.length ≤ i + 1 + i + m → i ≤ X.length → m + 1 ≤ k → Half X Y i →
    api_Pose_39.l0 k Y (i : Int) ((X.length : Int) - 1 - (i : Int)) = some X.reverse := by
  intro m
  induction m with
  | zero =>
    intro i k Y hm hi hk h
    obtain ⟨k, rfl⟩ : ∃ m, k = m + 1 := ⟨k - 1, by omega⟩
    rw [api_Pose_39.l0, if_neg (by omega), half_end h (by omega)]
  | succ m ih =>
    intro i k Y hm hi hk h
    obtain ⟨k, rfl⟩ : ∃ m, k = m + 1 := ⟨k - 1, by omega⟩
    by_cases hc : i + 1 + i < X.length
    · have hl := h.1
      rw [api_Pose_39.l0, if_pos (by omega), if_pos (by omega), if_pos (by omega), if_pos (by omega), if_pos (by omega), w64 (x := (i : Int) + 1) (by omega) (by omega), w64 (x := (X.length : Int) - 1 - (i : Int) - 1) (by omega) (by omega),
        show (X.length : Int) - 1 - (i : Int) = ((X.length - 1 - i : Nat) : Int) by omega, Int.toNat_natCast, Int.toNat_natCast, show (i : Int) + 1 = ((i + 1 : Nat) : Int) by omega, show ((X.length - 1 - i : Nat) : Int) - 1 = (X.length : Int) - 1 - ((i + 1 : Nat) : Int) by omega]
      exact ih (i + 1) k _ (by omega) (by omega) (by omega) (half_step h hc _ _ (rdP_get (by omega)) (rdP_get (by omega)))
    · rw [api_Pose_39.l0, if_neg (by omega), half_end h (by omega)]
theorem revP_f (k : Nat) (X : List Sp) (hX : X.length ≤ 9000) (hk : X.length + 2 ≤ k) : api_Pose_39.f k X = some X.reverse := by
  unfold api_Pose_39.f
  rw [w64 (by omega) (by omega), show (api_Pose_39.l0 k X 0 ((X.length : Int) - 1)) = api_Pose_39.l0 k X ((0 : Nat) : Int) ((X.length : Int) - 1 - ((0 : Nat) : Int)) by rw [show (X.length : Int) - 1 - ((0 : Nat) : Int) = (X.length : Int) - 1 by omega]; rfl]
  exact revP_l0 X hX X.length 0 k X (by omega) (by omega) (by omega) (half_start X)
/-- What Reverse returns. -/
def revV (P : List Sp) (U : List Int) : List Sp × List Int × Int := if chk P U = 0 then (P.reverse, U.reverse, 0) else ([], [], chk P U)
theorem rev_f (k : Nat) (P : List Sp) (U : List Int) (hP : P.length ≤ 200) (hU : U.length ≤ 200) (hk : 17000 ≤ k) : movement_Reverse.f k P U = some (revV P U) := by
  unfold movement_Reverse.f revV
  rw [m_f k P U (by omega) (by omega) (by omega), Option.bind_some]
  by_cases h : chk P U = 0
  · rw [if_pos h, if_pos h]
    unfold api_Pose_37.f slices_Clone_int_int.f
    rw [Option.bind_some, List.nil_append, if_pos (by simp only [List.length_nil]; omega), Option.bind_some, Option.bind_some, List.nil_append, if_pos (by simp only [List.length_nil]; omega), Option.bind_some, revP_f k P (by omega) (by omega), Option.bind_some, revI_f k U (by omega) (by omega), Option.bind_some]
  · rw [if_neg h, if_neg h]
/-! ### the checks -/
theorem poses_iff (P : List Sp) : poses P = 0 ↔ ∀ p ∈ P, V p = 0 := by
  induction P with
  | nil => exact ⟨fun _ p hp => absurd hp List.not_mem_nil, fun _ => rfl⟩
  | cons p l ih =>
    rw [poses]
    by_cases h : V p = 0
    · rw [if_pos h, ih]
      exact ⟨fun g q hq => by rcases List.mem_cons.1 hq with e | hq; (subst e; exact h); exact g q hq, fun g q hq => g q (List.mem_cons_of_mem _ hq)⟩
    · rw [if_neg h]
      exact ⟨fun g => absurd g h, fun g => g p List.mem_cons_self⟩
theorem feet_iff (U : List Int) : feet U = 0 ↔ ∀ x ∈ U, 0 ≤ x ∧ x ≤ 3 := by
  induction U with
  | nil => exact ⟨fun _ p hp => absurd hp List.not_mem_nil, fun _ => rfl⟩
  | cons x l ih =>
    rw [feet]
    by_cases h : x < 0
    · rw [if_pos h]
      exact ⟨fun g => by omega, fun g => by have := g x List.mem_cons_self; omega⟩
    · rw [if_neg h]
      by_cases h2 : x > 3
      · rw [if_pos h2]
        exact ⟨fun g => by omega, fun g => by have := g x List.mem_cons_self; omega⟩
      · rw [if_neg h2, ih]
        exact ⟨fun g q hq => by rcases List.mem_cons.1 hq with e | hq; (subst e; omega); exact g q hq, fun g q hq => g q (List.mem_cons_of_mem _ hq)⟩
theorem chk_rev {P : List Sp} {U : List Int} (h : chk P U = 0) : chk P.reverse U.reverse = 0 := by
  obtain ⟨h1, h2, h3, h4, h5⟩ := chk_ok h
  unfold chk
  have e1 : poses P.reverse = 0 := (poses_iff _).2 fun p hp => (poses_iff _).1 h4 p (List.mem_reverse.1 hp)
  have e2 : feet U.reverse = 0 := (feet_iff _).2 fun p hp => (feet_iff _).1 h5 p (List.mem_reverse.1 hp)
  rw [List.length_reverse, List.length_reverse, if_neg (by omega), if_pos e1, e2]
/-! ### the box -/
theorem boxV_rev {P : List Sp} {U : List Int} (h : chk P U = 0) : boxV P.reverse U.reverse = boxV P U := by
  obtain ⟨h1, h2, h3, h4, h5⟩ := chk_ok h
  have mem : ∀ L : List Sp, L ≠ [] → rd_T53 L 0 ∈ L := by
    intro L hL
    cases L with
    | nil => exact absurd rfl hL
    | cons a l => exact List.mem_cons_self
  have n1 : P ≠ [] := by intro e; rw [e] at h3; simp at h3
  have n2 : P.reverse ≠ [] := by intro e; exact n1 (List.reverse_eq_nil_iff.1 e)
  obtain ⟨a1, a2, a3, a4, a5⟩ := box_own P.reverse _ (mem _ n2)
  obtain ⟨b1, b2, b3, b4, b5⟩ := box_own P _ (mem _ n1)
  unfold boxV
  rw [if_pos h, if_pos (chk_rev h)]
  dsimp only
  generalize box P.reverse _ _ _ _ = x at *
  generalize box P _ _ _ _ = y at *
  have low : ∀ (f : Sp → Int) (v w : Int), (∀ p ∈ P.reverse, v ≤ f p) → (∀ p ∈ P, w ≤ f p) → (∃ p ∈ P.reverse, f p = v) → (∃ p ∈ P, f p = w) → v = w := by
    rintro f v w c1 c2 ⟨p, hp, e⟩ ⟨q, hq, e'⟩
    have := c1 q (List.mem_reverse.2 hq)
    have := c2 p (List.mem_reverse.1 hp)
    omega
  have up : ∀ (f : Sp → Int) (v w : Int), (∀ p ∈ P.reverse, f p ≤ v) → (∀ p ∈ P, f p ≤ w) → (∃ p ∈ P.reverse, f p = v) → (∃ p ∈ P, f p = w) → v = w := by
    rintro f v w c1 c2 ⟨p, hp, e⟩ ⟨q, hq, e'⟩
    have := c1 q (List.mem_reverse.2 hq)
    have := c2 p (List.mem_reverse.1 hp)
    omega
  rw [low (fun p => p.f0.f0) _ _ (fun p hp => (a1 p hp).1) (fun p hp => (b1 p hp).1) a2 b2, low (fun p => p.f0.f1) _ _ (fun p hp => (a1 p hp).2.1) (fun p hp => (b1 p hp).2.1) a3 b3,
    up (fun p => p.f0.f0) _ _ (fun p hp => (a1 p hp).2.2.1) (fun p hp => (b1 p hp).2.2.1) a4 b4, up (fun p => p.f0.f1) _ _ (fun p hp => (a1 p hp).2.2.2) (fun p hp => (b1 p hp).2.2.2) a5 b5]
/-! ### sums -/
def sm (f : Nat → Int) : Nat → Nat → Int
  | _, 0 => 0
  | i, m + 1 => f i + sm f (i + 1) m
theorem sm_snoc (f : Nat → Int) : ∀ (m i : Nat), sm f i (m + 1) = sm f i m + f (i + m) := by
  intro m
  induction m with
  | zero => intro i; simp [sm]
  | succ m ih =>
    intro i
    rw [sm, ih (i + 1), sm, show i + 1 + m = i + (m + 1) by omega]
    omega
theorem sm_rev (f : Nat → Int) (n : Nat) : ∀ m, m ≤ n → sm (fun j => f (n - 1 - j)) 0 m = sm f (n - m) m := by
  intro m
  induction m with
  | zero => intro _; rfl
  | succ m ih =>
    intro h
    rw [sm_snoc, ih (by omega), sm, show n - (m + 1) + 1 = n - m by omega, show 0 + m = m by omega, show n - 1 - m = n - (m + 1) by omega]
    omega
theorem sm_le (f g : Nat → Int) (n : Nat) (h : ∀ j, j < n → f j ≤ g j) : ∀ (m i : Nat), i + m ≤ n → sm f i m ≤ sm g i m := by
  intro m
  induction m with
  | zero => intro i _; exact Int.le_refl _
  | succ m ih =>
    intro i hi
    have := ih (i + 1) (by omega)
    have := h i (by omega)
    rw [sm, sm]
    omega
theorem sm_congr (f g : Nat → Int) (n : Nat) (h : ∀ j, j < n → f j = g j) (m i : Nat) (hi : i + m ≤ n) : sm f i m = sm g i m :=
  Int.le_antisymm (sm_le f g n (fun j hj => by rw [h j hj]; exact Int.le_refl _) m i hi) (sm_le g f n (fun j hj => by rw [h j hj]; exact Int.le_refl _) m i hi)
theorem sm_bd (f : Nat → Int) (n : Nat) (B : Int) (h : ∀ j, j < n → 0 ≤ f j ∧ f j ≤ B) : ∀ (m i : Nat), i + m ≤ n → 0 ≤ sm f i m ∧ sm f i m ≤ (m : Int) * B := by
  intro m
  induction m with
  | zero => intro i _; simp [sm]
  | succ m ih =>
    intro i hi
    have := ih (i + 1) (by omega)
    have := h i (by omega)
    rw [sm, show ((m + 1 : Nat) : Int) * B = (m : Int) * B + B by rw [show ((m + 1 : Nat) : Int) = (m : Int) + 1 by omega, Int.add_mul, Int.one_mul]]
    omega
/-! ### the way -/
theorem rt_bd {P : List Sp} {U : List Int} (h : chk P U = 0) {i : Nat} (hi : i + 1 < P.length) : IsRt (qs P i) (rt (qs P i)) ∧ 0 ≤ rt (qs P i) ∧ rt (qs P i) ≤ 131072 := by
  obtain ⟨q1, q2, q3, q4⟩ := qs_bd h hi
  have hr := rt_is (qs P i) (by unfold qs; omega) (by unfold qs; omega)
  refine ⟨hr, hr.1, ?_⟩
  have : rt (qs P i) < 131073 := sq_lt_of (by omega) (by have := hr.2.1; have : qs P i ≤ 8589934592 := (by unfold qs; omega); omega)
  omega
theorem wy_sm {P : List Sp} {U : List Int} (h : chk P U = 0) (hU : U.length ≤ 200) : ∀ (m i : Nat) (s : Int), i + m ≤ U.length → 0 ≤ s → s + (m : Int) * 131072 ≤ 1000000000 → wy P m i s = s + sm (fun j => rt (qs P j)) i m := by
  obtain ⟨c1, c2, c3, _, _⟩ := chk_ok h
  intro m
  induction m with
  | zero => intro i s hi h0 h1; simp [wy, sm]
  | succ m ih =>
    intro i s hi h0 h1
    obtain ⟨_, r1, r2⟩ := rt_bd h (show i + 1 < P.length by omega)
    rw [wy, w64 (by omega) (by omega), ih (i + 1) _ (by omega) (by omega) (by omega), sm]
    omega
theorem ps_rev (P : List Sp) (i : Nat) (h : i < P.length) : ps P.reverse i = ps P (P.length - 1 - i) := by
  unfold ps rd_T53
  rw [Int.toNat_natCast, Int.toNat_natCast, List.getD_eq_getElem?_getD, List.getD_eq_getElem?_getD, List.getElem?_reverse h]
theorem qs_rev {P : List Sp} {U : List Int} (h : chk P U = 0) {i : Nat} (hi : i < U.length) : qs P.reverse i = qs P (U.length - 1 - i) := by
  obtain ⟨c1, c2, c3, _, _⟩ := chk_ok h
  have hr := chk_rev h
  have l : P.reverse.length = P.length := List.length_reverse
  have e1 := (sx_eq hr (show i + 1 < P.reverse.length by omega)).1
  have e2 := (sy_eq hr (show i + 1 < P.reverse.length by omega)).1
  have f1 := (sx_eq h (show U.length - 1 - i + 1 < P.length by omega)).1
  have f2 := (sy_eq h (show U.length - 1 - i + 1 < P.length by omega)).1
  rw [ps_rev P (i + 1) (by omega), ps_rev P i (by omega), show P.length - 1 - (i + 1) = U.length - 1 - i by omega, show P.length - 1 - i = U.length - 1 - i + 1 by omega] at e1 e2
  unfold qs
  rw [show sx P.reverse i = -sx P (U.length - 1 - i) by omega, show sy P.reverse i = -sy P (U.length - 1 - i) by omega, Int.neg_mul_neg, Int.neg_mul_neg]
theorem wayV_eq {P : List Sp} {U : List Int} (h : chk P U = 0) (hU : U.length ≤ 200) : wayV P U = (sm (fun j => rt (qs P j)) 0 U.length, 0) := by
  unfold wayV
  rw [if_pos h, wy_sm h hU U.length 0 0 (by omega) (by omega) (by omega), Int.zero_add]
theorem wayV_rev {P : List Sp} {U : List Int} (h : chk P U = 0) (hU : U.length ≤ 200) : wayV P.reverse U.reverse = wayV P U := by
  rw [wayV_eq h hU, wayV_eq (chk_rev h) (by rw [List.length_reverse]; exact hU), List.length_reverse,
    sm_congr (fun j => rt (qs P.reverse j)) (fun j => rt (qs P (U.length - 1 - j))) U.length (fun j hj => by show rt _ = rt _; rw [qs_rev h hj]) U.length 0 (by omega),
    sm_rev (fun j => rt (qs P j)) U.length U.length (Nat.le_refl _), Nat.sub_self]
/-! ### how long a way is -/
theorem tri {S t a b c d : Int} (hS : 0 ≤ S) (ht : 0 ≤ t) (h1 : a * a + b * b ≤ S * S) (h2 : c * c + d * d ≤ t * t) : (a + c) * (a + c) + (b + d) * (b + d) ≤ (S + t) * (S + t) := by
  have q1 : 0 ≤ a * a + b * b := Int.add_nonneg (by by_cases h : 0 ≤ a; exact Int.mul_nonneg h h; rw [← Int.neg_mul_neg]; exact Int.mul_nonneg (by omega) (by omega)) (by by_cases h : 0 ≤ b; exact Int.mul_nonneg h h; rw [← Int.neg_mul_neg]; exact Int.mul_nonneg (by omega) (by omega))
  have key : a * c + b * d ≤ S * t := by
    apply Decidable.byContradiction
    intro hn
    have hst : 0 ≤ S * t := Int.mul_nonneg hS ht
    have p1 : (S * t) * (S * t) < (a * c + b * d) * (a * c + b * d) := by
      have e1 := sq_le (show 0 ≤ S * t + 1 by omega) (show S * t + 1 ≤ a * c + b * d by omega)
      have e2 : (S * t + 1) * (S * t + 1) = (S * t) * (S * t) + 2 * (S * t) + 1 := by grind
      omega
    have p2 : (a * c + b * d) * (a * c + b * d) + (a * d - b * c) * (a * d - b * c) = (a * a + b * b) * (c * c + d * d) := by grind
    have p3 : 0 ≤ (a * d - b * c) * (a * d - b * c) := by by_cases h : 0 ≤ a * d - b * c; exact Int.mul_nonneg h h; rw [← Int.neg_mul_neg]; exact Int.mul_nonneg (by omega) (by omega)
    have p4 : (a * a + b * b) * (c * c + d * d) ≤ (S * S) * (t * t) := by
      have g1 := Int.mul_le_mul_of_nonneg_left h2 q1
      have g2 := Int.mul_le_mul_of_nonneg_right h1 (Int.mul_nonneg ht ht)
      omega
    have p5 : (S * S) * (t * t) = (S * t) * (S * t) := by grind
    omega
  have e1 : (a + c) * (a + c) + (b + d) * (b + d) = (a * a + b * b) + 2 * (a * c + b * d) + (c * c + d * d) := by grind
  have e2 : (S + t) * (S + t) = S * S + 2 * (S * t) + t * t := by grind
  omega
theorem sm_add (f g : Nat → Int) : ∀ (m i : Nat), sm (fun j => f j + g j) i m = sm f i m + sm g i m := by
  intro m
  induction m with
  | zero => intro i; rfl
  | succ m ih => intro i; rw [sm, sm, sm, ih]; omega
theorem sm_one : ∀ (m i : Nat), sm (fun _ => 1) i m = (m : Int) := by
  intro m
  induction m with
  | zero => intro i; rfl
  | succ m ih => intro i; rw [sm, ih]; omega
/-- What lies between two poses, step by step. -/
theorem tele {P : List Sp} {U : List Int} (h : chk P U = 0) : ∀ (m i : Nat), i + m ≤ U.length → (ps P (i + m)).f0.f0 = (ps P i).f0.f0 + sm (sx P) i m ∧ (ps P (i + m)).f0.f1 = (ps P i).f0.f1 + sm (sy P) i m := by
  obtain ⟨c1, c2, c3, _, _⟩ := chk_ok h
  intro m
  induction m with
  | zero => intro i _; simp [sm]
  | succ m ih =>
    intro i hi
    obtain ⟨a1, a2⟩ := ih (i + 1) (by omega)
    have e1 := (sx_eq h (show i + 1 < P.length by omega)).1
    have e2 := (sy_eq h (show i + 1 < P.length by omega)).1
    rw [sm, sm, show i + (m + 1) = i + 1 + m by omega]
    omega
theorem far {P : List Sp} {U : List Int} (h : chk P U = 0) : ∀ (m i : Nat), i + m ≤ U.length →
    sm (sx P) i m * sm (sx P) i m + sm (sy P) i m * sm (sy P) i m ≤ (sm (fun j => rt (qs P j)) i m + (m : Int)) * (sm (fun j => rt (qs P j)) i m + (m : Int)) ∧ 0 ≤ sm (fun j => rt (qs P j)) i m := by
  obtain ⟨c1, c2, c3, _, _⟩ := chk_ok h
  intro m
  induction m with
  | zero => intro i _; simp [sm]
  | succ m ih =>
    intro i hi
    obtain ⟨a1, a2⟩ := ih (i + 1) (by omega)
    obtain ⟨r1, r2, r3⟩ := rt_bd h (show i + 1 < P.length by omega)
    have hq : sx P i * sx P i + sy P i * sy P i ≤ (rt (qs P i) + 1) * (rt (qs P i) + 1) := by
      have := r1.2.2
      unfold qs at this
      unfold qs
      omega
    have := tri (show 0 ≤ rt (qs P i) + 1 by omega) (show 0 ≤ sm (fun j => rt (qs P j)) (i + 1) m + (m : Int) by omega) hq a1
    rw [sm, sm, sm]
    refine ⟨?_, by omega⟩
    rw [show rt (qs P i) + sm (fun j => rt (qs P j)) (i + 1) m + ((m + 1 : Nat) : Int) = rt (qs P i) + 1 + (sm (fun j => rt (qs P j)) (i + 1) m + (m : Int)) by omega]
    exact this
def ab (x : Int) : Int := mx x (-x)
theorem ab_spec (x : Int) : 0 ≤ ab x ∧ x ≤ ab x ∧ -x ≤ ab x ∧ ab x * ab x = x * x := by
  unfold ab mx
  split
  · exact ⟨by omega, by omega, by omega, Int.neg_mul_neg _ _⟩
  · exact ⟨by omega, by omega, by omega, rfl⟩
theorem rt_le {P : List Sp} {U : List Int} (h : chk P U = 0) {i : Nat} (hi : i + 1 < P.length) : rt (qs P i) ≤ ab (sx P i) + ab (sy P i) := by
  obtain ⟨r1, r2, r3⟩ := rt_bd h hi
  obtain ⟨a1, a2, a3, a4⟩ := ab_spec (sx P i)
  obtain ⟨b1, b2, b3, b4⟩ := ab_spec (sy P i)
  have hp : 0 ≤ ab (sx P i) * ab (sy P i) := Int.mul_nonneg a1 b1
  have e : (ab (sx P i) + ab (sy P i)) * (ab (sx P i) + ab (sy P i)) = ab (sx P i) * ab (sx P i) + 2 * (ab (sx P i) * ab (sy P i)) + ab (sy P i) * ab (sy P i) := by grind
  have hle : rt (qs P i) * rt (qs P i) ≤ (ab (sx P i) + ab (sy P i)) * (ab (sx P i) + ab (sy P i)) := by
    have := r1.2.1
    have e2 : qs P i = sx P i * sx P i + sy P i * sy P i := rfl
    omega
  apply Decidable.byContradiction
  intro hn
  have := sq_le (show 0 ≤ ab (sx P i) + ab (sy P i) + 1 by omega) (show ab (sx P i) + ab (sy P i) + 1 ≤ rt (qs P i) by omega)
  have e3 : (ab (sx P i) + ab (sy P i) + 1) * (ab (sx P i) + ab (sy P i) + 1) = (ab (sx P i) + ab (sy P i)) * (ab (sx P i) + ab (sy P i)) + 2 * (ab (sx P i) + ab (sy P i)) + 1 := by grind
  omega
end Go.Proofs.Ytmdmajfgpmopbaa.Fl
