/- Collide: the checks of the package and of the reference, as printed, are one. -/
import Derived.Test.YteflngoiebgdaaaX9
import Derived.Test.YteflngoiebgdaaaX2
import Derived.Test.YteflngoiebgdaaaFlChk
namespace Go.Proofs.Yteflngoiebgdaaa.Cl
open Go.RowKit Go.Proofs.YteflngoiebgdaaaW.PrintWords Go.Proofs.Yteflngoiebgdaaa.X Go.Proofs.Yteflngoiebgdaaa.Fl
set_option linter.unusedVariables false
set_option linter.unusedSimpArgs false
abbrev Mv := S43
abbrev Ct := S62
abbrev Ht := S30
abbrev zM : Mv := z43
theorem drop_at {α : Type} {l : List α} {i : Nat} {x : α} {r : List α} (h : l.drop i = x :: r) (z : α) : l.getD i z = x ∧ i < l.length ∧ l.drop (i + 1) = r := by
  have hi : i < l.length := by
    rcases Nat.lt_or_ge i l.length with h1 | h1
    · exact h1
    · rw [List.drop_eq_nil_iff.2 h1] at h; cases h
  have h2 := List.drop_eq_getElem_cons hi
  rw [h2] at h
  injection h with h3 h4
  exact ⟨by rw [List.getD_eq_getElem?_getD, List.getElem?_eq_getElem hi, h3]; rfl, hi, h4⟩
theorem rdM {l : List Mv} {i : Nat} {x : Mv} {r : List Mv} (h : l.drop i = x :: r) : rd_T43 l (i : Int) = x ∧ i < l.length ∧ l.drop (i + 1) = r := by
  obtain ⟨a, b⟩ := drop_at h zM
  exact ⟨by unfold rd_T43; rw [Int.toNat_natCast]; exact a, b⟩
theorem rdC {l : List Ct} {i : Nat} {x : Ct} {r : List Ct} (h : l.drop i = x :: r) : rd_T62 l (i : Int) = x ∧ i < l.length ∧ l.drop (i + 1) = r := by
  obtain ⟨a, b⟩ := drop_at h z62
  exact ⟨by unfold rd_T62; rw [Int.toNat_natCast]; exact a, b⟩
theorem rdH {l : List Ht} {i : Nat} {x : Ht} {r : List Ht} (h : l.drop i = x :: r) : rd_T30 l (i : Int) = x ∧ i < l.length ∧ l.drop (i + 1) = r := by
  obtain ⟨a, b⟩ := drop_at h z30
  exact ⟨by unfold rd_T30; rw [Int.toNat_natCast]; exact a, b⟩
/-! ### what is light -/
def fewB (m : Mv) : Bool := decide (m.f0.length ≤ 60) && decide (m.f1.length ≤ 60)
def light (l : List Mv) (n : Nat) : Bool := !decide (5 < l.length ∧ l.length ≤ 12 ∨ 20 < l.length ∨ 20 < n) && l.all fewB
theorem light_l0 (l : List Mv) (hl : l.length ≤ 1000) : ∀ (s : List Mv) (i k : Nat), l.drop i = s → s.length < k → dancestudioref44_Light.l0 k l (i : Int) = some (s.all fewB) := by
  intro s
  induction s with
  | nil =>
    intro i k hd hk
    obtain ⟨k, rfl⟩ : ∃ m, k = m + 1 := ⟨k - 1, by omega⟩
    have hi : l.length ≤ i := List.drop_eq_nil_iff.1 hd
    rw [dancestudioref44_Light.l0, if_neg (by omega)]
    rfl
  | cons x s ih =>
    intro i k hd hk
    simp only [List.length_cons] at hk
    obtain ⟨k, rfl⟩ : ∃ m, k = m + 1 := ⟨k - 1, by omega⟩
    obtain ⟨hx, hi, hn⟩ := rdM hd
    rw [dancestudioref44_Light.l0, if_pos (by omega), if_pos (by omega), hx, w64 (by omega) (by omega), show (i : Int) + 1 = ((i + 1 : Nat) : Int) by omega, ih (i + 1) k hn (by omega), List.all_cons]
    unfold fewB
    by_cases h1 : x.f0.length ≤ 60
    · rw [if_neg (by omega), decide_eq_true h1]
      by_cases h2 : x.f1.length ≤ 60
      · rw [if_neg (by omega), decide_eq_true h2]
        rfl
      · rw [if_pos (by omega), decide_eq_false h2]
        rfl
    · rw [if_pos (by omega), decide_eq_false h1]
      rfl
theorem light_f (k : Nat) (l : List Mv) (c : List Ct) (hk : 30 ≤ k) : dancestudioref44_Light.f k l c = some (light l c.length) := by
  obtain ⟨k, rfl⟩ : ∃ m, k = m + 1 := ⟨k - 1, by omega⟩
  have hj : ∀ b, (b = false → l.length ≤ 20) → dancestudioref44_Light.j0 (k + 1) l b = some (!b && l.all fewB) := by
    intro b hb
    cases b with
    | true => rw [dancestudioref44_Light.j0, if_pos rfl]; rfl
    | false =>
      have := hb rfl
      rw [dancestudioref44_Light.j0, if_neg (by decide), show (0 : Int) = ((0 : Nat) : Int) from rfl, light_l0 l (by omega) l 0 k (by simp) (by omega)]
      rfl
  unfold dancestudioref44_Light.f light
  by_cases h5 : 5 < l.length
  · rw [if_pos (by omega)]
    by_cases h12 : l.length ≤ 12
    · rw [if_pos (by omega), hj true (by simp), decide_eq_true (Or.inl ⟨h5, h12⟩)]
    · rw [if_neg (by omega)]
      by_cases h20 : 20 < l.length
      · rw [if_pos (by omega), hj true (by simp), decide_eq_true (Or.inr (Or.inl h20))]
      · rw [if_neg (by omega), hj _ (fun _ => by omega)]
        congr 3
        rw [decide_eq_decide]
        omega
  · rw [if_neg (by omega), if_neg (by omega), hj _ (fun _ => by omega)]
    congr 3
    rw [decide_eq_decide]
    omega
theorem light_ok {l : List Mv} {n : Nat} (h : light l n = true) : (l.length ≤ 5 ∨ 12 < l.length) ∧ l.length ≤ 20 ∧ n ≤ 20 ∧ ∀ m ∈ l, m.f0.length ≤ 60 ∧ m.f1.length ≤ 60 := by
  unfold light at h
  rw [Bool.and_eq_true, Bool.not_eq_true', decide_eq_false_iff_not, List.all_eq_true] at h
  refine ⟨by omega, by omega, by omega, fun m hm => ?_⟩
  have := h.2 m hm
  unfold fewB at this
  rw [Bool.and_eq_true, decide_eq_true_eq, decide_eq_true_eq] at this
  exact this
/-! ### the check -/
def cw : List Mv → List Int → Int
  | m :: l, r :: rs => if chk m.f0 m.f1 = 0 then (if r < 0 then 1 else if r > 32768 then 1 else cw l rs) else chk m.f0 m.f1
  | _, _ => 0
def okC (n : Nat) (x : Ct) : Bool := decide (x.f0 ≠ x.f2 ∧ 0 ≤ x.f0 ∧ x.f0 < n ∧ 0 ≤ x.f2 ∧ x.f2 < n)
def okN (l : List Mv) (m : Mv) : Bool := decide (m.f1.length = (rd_T43 l 0).f1.length)
def cend (l : List Mv) (c : List Ct) (s : List Mv) : Int := if s.all (okN l) = true then (if c.all (okC l.length) = true then 0 else 31) else 33
def cchk (l : List Mv) (r : List Int) (c : List Ct) : Int :=
  if 12 < l.length then 3 else if r.length = l.length then (if cw l r = 0 then cend l c l else cw l r) else 2
theorem okC_if {α : Type} (n : Nat) (x : Ct) (a b : α) : (if x.f0 = x.f2 then a else if x.f0 < 0 then a else if x.f0 ≥ (n : Int) then a else if x.f2 < 0 then a else if x.f2 ≥ (n : Int) then a else b) = if okC n x = true then b else a := by
  unfold okC
  by_cases h : x.f0 ≠ x.f2 ∧ 0 ≤ x.f0 ∧ x.f0 < n ∧ 0 ≤ x.f2 ∧ x.f2 < n
  · rw [if_neg (by omega), if_neg (by omega), if_neg (by omega), if_neg (by omega), if_neg (by omega), if_pos (decide_eq_true h)]
  · rw [if_neg (c := decide _ = true) (by rw [decide_eq_false h]; decide)]
    repeat' split
    all_goals first | rfl | (exfalso; omega)
theorem c_l2 (l : List Mv) (c : List Ct) (hc : c.length ≤ 1000) : ∀ (s : List Ct) (i k : Nat), c.drop i = s → s.length < k → collide_Check.l2 k l c (c.length : Int) (i : Int) = some (if s.all (okC l.length) = true then 0 else 31) := by
  intro s
  induction s with
  | nil =>
    intro i k hd hk
    obtain ⟨k, rfl⟩ : ∃ m, k = m + 1 := ⟨k - 1, by omega⟩
    have hi : c.length ≤ i := List.drop_eq_nil_iff.1 hd
    rw [collide_Check.l2, if_neg (by omega)]
    rfl
  | cons x s ih =>
    intro i k hd hk
    simp only [List.length_cons] at hk
    obtain ⟨k, rfl⟩ : ∃ m, k = m + 1 := ⟨k - 1, by omega⟩
    obtain ⟨hx, hi, hn⟩ := rdC hd
    rw [collide_Check.l2, if_pos (by omega), if_pos (by omega), if_pos (by omega), hx, w64 (by omega) (by omega), show (i : Int) + 1 = ((i + 1 : Nat) : Int) by omega, ih (i + 1) k hn (by omega), okC_if, List.all_cons]
    cases okC l.length x <;> rfl
theorem c_l1 (l : List Mv) (c : List Ct) (hl : l.length ≤ 1000) (hc : c.length ≤ 1000) : ∀ (s : List Mv) (i k : Nat), l.drop i = s → s.length + c.length + 1 < k → collide_Check.l1 k l c l (l.length : Int) (i : Int) = some (cend l c s) := by
  intro s
  induction s with
  | nil =>
    intro i k hd hk
    simp only [List.length_nil] at hk
    obtain ⟨k, rfl⟩ : ∃ m, k = m + 1 := ⟨k - 1, by omega⟩
    have hi : l.length ≤ i := List.drop_eq_nil_iff.1 hd
    rw [collide_Check.l1, if_neg (by omega), show (0 : Int) = ((0 : Nat) : Int) from rfl, c_l2 l c hc c 0 k (by simp) (by omega)]
    rfl
  | cons x s ih =>
    intro i k hd hk
    simp only [List.length_cons] at hk
    obtain ⟨k, rfl⟩ : ∃ m, k = m + 1 := ⟨k - 1, by omega⟩
    obtain ⟨hx, hi, hn⟩ := rdM hd
    rw [collide_Check.l1, if_pos (by omega), if_pos (by omega), if_pos (by omega), if_pos (by omega), hx, w64 (by omega) (by omega), show (i : Int) + 1 = ((i + 1 : Nat) : Int) by omega, ih (i + 1) k hn (by omega)]
    unfold cend
    rw [List.all_cons]
    unfold okN
    by_cases h : x.f1.length = (rd_T43 l 0).f1.length
    · rw [if_pos (by omega), decide_eq_true h]
      rfl
    · rw [if_neg (by omega), decide_eq_false h]
      rfl
theorem c_l0 (l : List Mv) (r : List Int) (c : List Ct) (hl : l.length ≤ 1000) (hc : c.length ≤ 1000) (hr : r.length = l.length) (hm : ∀ m ∈ l, m.f0.length ≤ 60 ∧ m.f1.length ≤ 60) : ∀ (s : List Mv) (t : List Int) (i k : Nat), l.drop i = s → r.drop i = t → s.length + l.length + c.length + 16600 < k →
    collide_Check.l0 k l r c l (l.length : Int) (i : Int) = some (if cw s t = 0 then cend l c l else cw s t) := by
  intro s
  induction s with
  | nil =>
    intro t i k hd ht hk
    simp only [List.length_nil] at hk
    obtain ⟨k, rfl⟩ : ∃ m, k = m + 1 := ⟨k - 1, by omega⟩
    have hi : l.length ≤ i := List.drop_eq_nil_iff.1 hd
    rw [collide_Check.l0, if_neg (by omega), show (0 : Int) = ((0 : Nat) : Int) from rfl, c_l1 l c hl hc l 0 k (by simp) (by omega)]
    rfl
  | cons x s ih =>
    intro t i k hd ht hk
    simp only [List.length_cons] at hk
    obtain ⟨k, rfl⟩ : ∃ m, k = m + 1 := ⟨k - 1, by omega⟩
    obtain ⟨hx, hi, hn⟩ := rdM hd
    obtain ⟨y, t, rfl⟩ : ∃ y t', t = y :: t' := by
      cases t with
      | nil => have := List.drop_eq_nil_iff.1 ht; omega
      | cons y t => exact ⟨y, t, rfl⟩
    obtain ⟨hy, hi2, hn2⟩ := rdI ht
    have hxm : x ∈ l := List.mem_of_mem_drop (i := i) (by rw [hd]; exact List.mem_cons_self ..)
    obtain ⟨q1, q2⟩ := hm x hxm
    rw [collide_Check.l0, if_pos (by omega), if_pos (by omega), if_pos (by omega), hx, m_f k x.f0 x.f1 (by omega) (by omega) (by omega), Option.bind_some, hy, w64 (by omega) (by omega), show (i : Int) + 1 = ((i + 1 : Nat) : Int) by omega, ih t (i + 1) k hn hn2 (by omega), cw]
    by_cases h : chk x.f0 x.f1 = 0
    · rw [if_pos h, if_pos h, if_pos (by omega)]
      by_cases h1 : y < 0
      · rw [if_pos h1, if_pos h1]; rfl
      · rw [if_neg h1, if_neg h1]
        by_cases h2 : y > 32768
        · rw [if_pos h2, if_pos h2]; rfl
        · rw [if_neg h2, if_neg h2]
    · rw [if_neg h, if_neg h, if_neg h]
theorem c_f (k : Nat) (l : List Mv) (r : List Int) (c : List Ct) (hc : c.length ≤ 20) (hm : ∀ m ∈ l, m.f0.length ≤ 60 ∧ m.f1.length ≤ 60) (hk : 17000 ≤ k) : collide_Check.f k l r c = some (cchk l r c) := by
  unfold collide_Check.f cchk
  by_cases h : 12 < l.length
  · rw [if_pos (by omega), if_pos h]
  · rw [if_neg (by omega), if_neg h]
    by_cases h1 : r.length = l.length
    · rw [if_pos (by omega), if_pos h1, show (0 : Int) = ((0 : Nat) : Int) from rfl, c_l0 l r c (by omega) (by omega) h1 hm l r 0 k (by simp) (by simp) (by omega)]
      rfl
    · rw [if_neg (by omega), if_neg h1]
/-! ### what a good list is like -/
def tks (l : List Mv) : Nat := (rd_T43 l 0).f1.length
structure Good (l : List Mv) (r : List Int) (c : List Ct) : Prop where
  len : l.length ≤ 5
  rad : r.length = l.length
  mov : ∀ i : Nat, i < l.length → (rd_T43 l (i : Int)).f0.length = tks l + 1 ∧ (rd_T43 l (i : Int)).f1.length = tks l ∧ (∀ p ∈ (rd_T43 l (i : Int)).f0, On p) ∧ 0 ≤ rd r (i : Int) ∧ rd r (i : Int) ≤ 32768
  few : tks l ≤ 59
  con : c.length ≤ 20
theorem cw_ok : ∀ (l : List Mv) (r : List Int), r.length = l.length → cw l r = 0 → ∀ i : Nat, i < l.length → chk (l.getD i zM).f0 (l.getD i zM).f1 = 0 ∧ 0 ≤ r.getD i 0 ∧ r.getD i 0 ≤ 32768
  | [], _, _, _, i, hi => absurd hi (by simp)
  | m :: l, [], hr, _, _, _ => by simp at hr
  | m :: l, y :: r, hr, h, i, hi => by
    rw [cw] at h
    by_cases h0 : chk m.f0 m.f1 = 0
    · rw [if_pos h0] at h
      by_cases h1 : y < 0
      · rw [if_pos h1] at h; cases h
      · rw [if_neg h1] at h
        by_cases h2 : y > 32768
        · rw [if_pos h2] at h; cases h
        · rw [if_neg h2] at h
          cases i with
          | zero => exact ⟨h0, by show 0 ≤ y; omega, by show y ≤ 32768; omega⟩
          | succ i => exact cw_ok l r (by simpa using hr) h i (by simpa using hi)
    · rw [if_neg h0] at h
      exact absurd h h0
theorem good_of {l : List Mv} {r : List Int} {c : List Ct} (hl : light l c.length = true) (h : cchk l r c = 0) : Good l r c := by
  obtain ⟨h1, h2, h3, h4⟩ := light_ok hl
  unfold cchk at h
  by_cases h12 : 12 < l.length
  · rw [if_pos h12] at h; cases h
  · rw [if_neg h12] at h
    by_cases hr : r.length = l.length
    · rw [if_pos hr] at h
      by_cases hw : cw l r = 0
      · rw [if_pos hw] at h
        unfold cend at h
        by_cases ha : l.all (okN l) = true
        · have hmov : ∀ i : Nat, i < l.length → (rd_T43 l (i : Int)).f0.length = tks l + 1 ∧ (rd_T43 l (i : Int)).f1.length = tks l ∧ (∀ p ∈ (rd_T43 l (i : Int)).f0, On p) ∧ 0 ≤ rd r (i : Int) ∧ rd r (i : Int) ≤ 32768 := by
            intro i hi
            obtain ⟨a, b, d⟩ := cw_ok l r hr hw i hi
            obtain ⟨_, _, e3, e4, _⟩ := chk_ok a
            have hg : rd_T43 l (i : Int) = l.getD i zM := by unfold rd_T43; rw [Int.toNat_natCast]
            have hg2 : rd r (i : Int) = r.getD i 0 := by unfold rd; rw [Int.toNat_natCast]
            have hmem : l.getD i zM ∈ l := by rw [List.getD_eq_getElem?_getD, List.getElem?_eq_getElem hi]; exact List.getElem_mem hi
            have hn := of_decide_eq_true (List.all_eq_true.1 ha _ hmem)
            rw [hg, hg2]
            exact ⟨by unfold tks; omega, hn, poses_on e4, b, d⟩
          refine ⟨by omega, hr, hmov, ?_, h3⟩
          by_cases h0 : l.length = 0
          · have : l = [] := List.eq_nil_of_length_eq_zero h0
            subst this
            exact Nat.zero_le _
          · have hm0 := hmov 0 (by omega)
            have hg : rd_T43 l ((0 : Nat) : Int) ∈ l := by
              unfold rd_T43
              rw [Int.toNat_natCast, List.getD_eq_getElem?_getD, List.getElem?_eq_getElem (by omega)]
              exact List.getElem_mem _
            have := (h4 _ hg).1
            omega
        · rw [if_neg ha] at h; cases h
      · rw [if_neg hw] at h; exact absurd h hw
    · rw [if_neg hr] at h; cases h
end Go.Proofs.Yteflngoiebgdaaa.Cl
