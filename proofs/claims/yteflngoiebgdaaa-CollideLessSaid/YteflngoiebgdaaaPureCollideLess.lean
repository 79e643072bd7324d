/- The law CollideLess over numbers and lists. -/
import Derived.Test.YteflngoiebgdaaaClCases
import Derived.Test.YteflngoiebgdaaaClAwake
import Derived.Test.YteflngoiebgdaaaX69
namespace Go.Proofs.Yteflngoiebgdaaa.Cl
open Go.RowKit Go.Proofs.YteflngoiebgdaaaW.PrintWords Go.Proofs.Yteflngoiebgdaaa.X Go.Proofs.Yteflngoiebgdaaa.Fl Go.Proofs.Yteflngoiebgdaaa.GeoImpl Go.Proofs.Yteflngoiebgdaaa.Geo
set_option linter.unusedVariables false
set_option linter.unusedSimpArgs false
theorem cw_rad : ∀ (l : List Mv) (r r' : List Int), r.length = l.length → r'.length = l.length → (∀ x ∈ r', 0 ≤ x ∧ x ≤ 32768) → cw l r = 0 → cw l r' = 0
  | [], _, _, _, _, _, _ => by cases ‹List Int› <;> rfl
  | m :: l, [], _, h, _, _, _ => by simp at h
  | m :: l, _ :: _, [], _, h, _, _ => by simp at h
  | m :: l, y :: r, y' :: r', h1, h2, h3, h => by
    rw [cw] at h ⊢
    by_cases h0 : chk m.f0 m.f1 = 0
    · have := h3 y' (List.mem_cons_self ..)
      rw [if_pos h0] at h ⊢
      rw [if_neg (by omega), if_neg (by omega)]
      by_cases a : y < 0
      · rw [if_pos a] at h; cases h
      · rw [if_neg a] at h
        by_cases b : y > 32768
        · rw [if_pos b] at h; cases h
        · rw [if_neg b] at h
          exact cw_rad l r r' (by simpa using h1) (by simpa using h2) (fun x hx => h3 x (List.mem_cons_of_mem _ hx)) h
    · rw [if_neg h0] at h; exact absurd h h0
theorem cchk_rad {l : List Mv} {r r' : List Int} {c : List Ct} (h : cchk l r c = 0) (h1 : r'.length = l.length) (h2 : ∀ x ∈ r', 0 ≤ x ∧ x ≤ 32768) : cchk l r' c = 0 := by
  unfold cchk at h ⊢
  by_cases h12 : 12 < l.length
  · rw [if_pos h12] at h; cases h
  · rw [if_neg h12] at h ⊢
    by_cases hr : r.length = l.length
    · rw [if_pos hr] at h
      rw [if_pos h1]
      by_cases hw : cw l r = 0
      · rw [if_pos hw] at h
        rw [if_pos (cw_rad l r r' hr h1 h2 hw)]
        exact h
      · rw [if_neg hw] at h; exact absurd h hw
    · rw [if_neg hr] at h; cases h
theorem tch_mono {a0 a1 a2 a3 a4 b0 b1 b2 b3 b4 a4' b4' : Int} (ha : a4 ≤ a4') (hb : b4 ≤ b4') (ha' : a4' ≤ 32768) (hb' : b4' ≤ 32768) (h : (tch a0 a1 a2 a3 a4 b0 b1 b2 b3 b4).1 = true) : (tch a0 a1 a2 a3 a4' b0 b1 b2 b3 b4').1 = true := by
  unfold tch at h ⊢
  by_cases hm : mOk a0 a1 a2 a3 a4 = true ∧ mOk b0 b1 b2 b3 b4 = true
  · rw [if_pos hm] at h
    obtain ⟨q1, q2, q3, q4⟩ := (mOk_iff _ _ _ _ _).1 hm.1
    obtain ⟨q5, q6, q7, q8⟩ := (mOk_iff _ _ _ _ _).1 hm.2
    rw [if_pos ⟨(mOk_iff _ _ _ _ _).2 ⟨q1, q2, by omega, ha'⟩, (mOk_iff _ _ _ _ _).2 ⟨q5, q6, by omega, hb'⟩⟩]
    refine decide_eq_true (nr_mono _ _ _ _ _ _ ?_ (of_decide_eq_true h))
    exact Int.mul_le_mul (by omega) (by omega) (by omega) (by omega)
  · rw [if_neg hm] at h; cases h
theorem tch_zero (a0 a1 a2 a3 b0 b1 b2 b3 : Int) : (tch a0 a1 a2 a3 0 b0 b1 b2 b3 0).1 = false := by
  unfold tch
  split
  · refine decide_eq_false (fun h => ?_)
    rw [show (0 + 0 : Int) * (0 + 0) = 0 by decide, nr_ref] at h
    rcases h with h | h | ⟨_, _, h⟩
    · have h1 := sq_nonneg (a0 - b0)
      have h2 := sq_nonneg (a1 - b1)
      omega
    · have h1 := sq_nonneg (a0 - b0 + (a2 - a0 - (b2 - b0)))
      have h2 := sq_nonneg (a1 - b1 + (a3 - a1 - (b3 - b1)))
      omega
    · have h1 := sq_nonneg ((a0 - b0) * (a3 - a1 - (b3 - b1)) - (a1 - b1) * (a2 - a0 - (b2 - b0)))
      rw [Int.zero_mul] at h
      omega
  · rfl
theorem hv_mono {h : Bool} {x y : Int} (hxy : x ≤ y) : hv h x ≤ hv h y := by
  unfold hv
  cases h
  · exact hxy
  · show x / 2 ≤ y / 2
    omega
theorem hv_le {h : Bool} {x : Int} (h0 : 0 ≤ x) : hv h x ≤ x := by
  unfold hv
  cases h
  · exact Int.le_refl _
  · show x / 2 ≤ x
    omega
theorem mt_mono {l : List Mv} {r r' : List Int} {c : List Ct} {t : Nat} {p : Pr} (h1 : rd r' (p.1 : Int) ≤ rd r (p.1 : Int)) (h2 : rd r' (p.2 : Int) ≤ rd r (p.2 : Int)) (h3 : 0 ≤ rd r (p.1 : Int) ∧ rd r (p.1 : Int) ≤ 32768) (h4 : 0 ≤ rd r (p.2 : Int) ∧ rd r (p.2 : Int) ≤ 32768) (h : mt l r' c t p = true) : mt l r c t p = true :=
  tch_mono (hv_mono h1) (hv_mono h2) (Int.le_trans (hv_le h3.1) h3.2) (Int.le_trans (hv_le h4.1) h4.2) h
theorem mt_zero {l : List Mv} {r : List Int} {c : List Ct} {t : Nat} {p : Pr} (h1 : rd r (p.1 : Int) = 0) (h2 : rd r (p.2 : Int) = 0) : mt l r c t p = false := by
  unfold mt mtR
  have e : ∀ h, hv h 0 = 0 := fun h => by cases h <;> rfl
  rw [h1, h2, e]
  exact tch_zero _ _ _ _ _ _ _ _
/-! ### the loops -/
def same2 (y x : Ht) : Prop := y.f1 = x.f1 ∧ y.f2 = x.f2 ∧ y.f0 ≤ x.f0
theorem less_l2 (A B : List Ht) (hA : A.length ≤ 1000) (hB : B.length ≤ 1000) (i : Nat) (x : Ht) (r : List Ht) (hx : B.drop i = x :: r) (k0 : Nat) (K : ∀ k, k0 ≤ k → dancestudiolaw44_CollideLess.l1 k A B ((i + 1 : Nat) : Int) = some true) :
    ∀ (s : List Ht) (j k : Nat) (b : Bool), A.drop j = s → k0 + s.length < k → (b = true ∨ ∃ y ∈ s, same2 y x) → dancestudiolaw44_CollideLess.l2 k A B (i : Int) b (j : Int) = some true := by
  obtain ⟨hx1, hx2, _⟩ := rdH hx
  intro s
  induction s with
  | nil =>
    intro j k b hd hk hb
    obtain ⟨k, rfl⟩ : ∃ m, k = m + 1 := ⟨k - 1, by omega⟩
    have hi : A.length ≤ j := List.drop_eq_nil_iff.1 hd
    have : b = true := by
      rcases hb with h | ⟨y, hy, _⟩
      · exact h
      · cases hy
    subst this
    rw [dancestudiolaw44_CollideLess.l2, if_neg (by omega), if_pos rfl, w64 (by omega) (by omega), show (i : Int) + 1 = ((i + 1 : Nat) : Int) by omega]
    exact K k (by omega)
  | cons y s ih =>
    intro j k b hd hk hb
    simp only [List.length_cons] at hk
    obtain ⟨k, rfl⟩ : ∃ m, k = m + 1 := ⟨k - 1, by omega⟩
    obtain ⟨hy1, hy2, hy3⟩ := rdH hd
    rw [dancestudiolaw44_CollideLess.l2, if_pos (by omega), w64 (x := (j : Int) + 1) (by omega) (by omega), show (j : Int) + 1 = ((j + 1 : Nat) : Int) by omega]
    cases b with
    | true =>
      rw [if_pos rfl]
      exact ih (j + 1) k true hy3 (by omega) (.inl rfl)
    | false =>
      have hb' : same2 y x ∨ ∃ z ∈ s, same2 z x := by
        rcases hb with h | ⟨z, hz, h⟩
        · cases h
        · rcases List.mem_cons.1 hz with rfl | hz
          · exact .inl h
          · exact .inr ⟨z, hz, h⟩
      rw [if_neg (by decide), if_pos (by omega), if_pos (by omega), if_pos (by omega), hx1, hy1]
      by_cases e1 : y.f1 = x.f1
      · rw [if_pos e1]
        by_cases e2 : y.f2 = x.f2
        · rw [if_pos e2]
          by_cases e3 : y.f0 ≤ x.f0
          · rw [decide_eq_true e3]
            exact ih (j + 1) k true hy3 (by omega) (.inl rfl)
          · rw [decide_eq_false e3]
            exact ih (j + 1) k false hy3 (by omega) (.inr (hb'.resolve_left (fun h => e3 h.2.2)))
        · rw [if_neg e2]
          exact ih (j + 1) k false hy3 (by omega) (.inr (hb'.resolve_left (fun h => e2 h.2.1)))
      · rw [if_neg e1]
        exact ih (j + 1) k false hy3 (by omega) (.inr (hb'.resolve_left (fun h => e1 h.1)))
theorem less_l1 (A B : List Ht) (hA : A.length ≤ 50) (hB : B.length ≤ 50) (hall : ∀ x ∈ B, ∃ y ∈ A, same2 y x) : ∀ (s : List Ht) (i k : Nat), B.drop i = s → 60 * s.length + 45 < k → dancestudiolaw44_CollideLess.l1 k A B (i : Int) = some true := by
  intro s
  induction s with
  | nil =>
    intro i k hd hk
    obtain ⟨k, rfl⟩ : ∃ m, k = m + 1 := ⟨k - 1, by omega⟩
    have hi : B.length ≤ i := List.drop_eq_nil_iff.1 hd
    rw [dancestudiolaw44_CollideLess.l1, if_neg (by omega), awake_f k (by simp at hk; omega)]
    rfl
  | cons x s ih =>
    intro i k hd hk
    simp only [List.length_cons] at hk
    obtain ⟨k, rfl⟩ : ∃ m, k = m + 1 := ⟨k - 1, by omega⟩
    obtain ⟨_, hi, hn⟩ := rdH hd
    have hxm : x ∈ B := List.mem_of_mem_drop (i := i) (by rw [hd]; exact List.mem_cons_self ..)
    rw [dancestudiolaw44_CollideLess.l1, if_pos (by omega)]
    exact less_l2 A B (by omega) (by omega) i x s hd (60 * s.length + 46) (fun k' hk' => ih (i + 1) k' hn (by omega)) A 0 k false rfl (by omega) (.inr (hall x hxm))
def lessR (b : Int) (r : List Int) : List Int := r.map fun x => mx 0 (x - b)
def zeroR (r : List Int) : List Int := r.map fun _ => 0
theorem less_l0 (l : List Mv) (r : List Int) (c : List Ct) (b : Int) (hb : 0 ≤ b ∧ b ≤ 65535) (hr : r.length ≤ 1000) (hrr : ∀ x ∈ r, 0 ≤ x ∧ x ≤ 32768) (k0 : Nat) (K : ∀ k, k0 ≤ k → dancestudiolaw44_CollideLess.l0 k l r c b (lessR b r) (zeroR r) (r.length : Int) = some true) :
    ∀ (s : List Int) (i k : Nat) (x y : List Int), r.drop i = s → x ++ lessR b s = lessR b r → y ++ zeroR s = zeroR r → k0 + s.length ≤ k → dancestudiolaw44_CollideLess.l0 k l r c b x y (i : Int) = some true := by
  intro s
  induction s with
  | nil =>
    intro i k x y hd hx hy hk
    have hi : r.length ≤ i := List.drop_eq_nil_iff.1 hd
    have hx' : x = lessR b r := by rw [← hx]; exact (List.append_nil _).symm
    have hy' : y = zeroR r := by rw [← hy]; exact (List.append_nil _).symm
    subst hx'
    subst hy'
    have h := K k (by simp at hk; omega)
    cases k with
    | zero => simp [dancestudiolaw44_CollideLess.l0] at h
    | succ k =>
      rw [dancestudiolaw44_CollideLess.l0, if_neg (by omega)] at h ⊢
      exact h
  | cons z s ih =>
    intro i k x y hd hx hy hk
    simp only [List.length_cons] at hk
    obtain ⟨k, rfl⟩ : ∃ m, k = m + 1 := ⟨k - 1, by omega⟩
    obtain ⟨h1, hi, hn⟩ := rdI hd
    have hzm : z ∈ r := List.mem_of_mem_drop (i := i) (by rw [hd]; exact List.mem_cons_self ..)
    have hz := hrr z hzm
    have lx : x.length ≤ r.length := by
      have := congrArg List.length hx
      unfold lessR at this
      rw [List.length_append, List.length_map, List.length_map] at this
      omega
    have ly : y.length ≤ r.length := by
      have := congrArg List.length hy
      unfold zeroR at this
      rw [List.length_append, List.length_map, List.length_map] at this
      omega
    rw [dancestudiolaw44_CollideLess.l0, if_pos (by omega), if_pos (by omega), if_pos (by omega), if_pos (by omega), h1, w64 (x := b) (by omega) (by omega), w64 (x := z - b) (by omega) (by omega), w64 (x := (i : Int) + 1) (by omega) (by omega), show (i : Int) + 1 = ((i + 1 : Nat) : Int) by omega]
    refine ih (i + 1) k _ _ hn ?_ ?_ (by omega)
    · rw [List.append_assoc]; exact hx
    · rw [List.append_assoc]; exact hy
theorem rd_map {r : List Int} {f : Int → Int} {i : Nat} (hi : i < r.length) : rd (r.map f) (i : Int) = f (rd r (i : Int)) := by
  unfold rd
  rw [Int.toNat_natCast, List.getD_eq_getElem?_getD, List.getD_eq_getElem?_getD, List.getElem?_map, List.getElem?_eq_getElem hi]
  rfl
theorem mx_le {x b : Int} (hx : 0 ≤ x) (hb : 0 ≤ b) : 0 ≤ mx 0 (x - b) ∧ mx 0 (x - b) ≤ x := by unfold mx; omega
end Go.Proofs.Yteflngoiebgdaaa.Cl
namespace Go.Proofs.Yteflngoiebgdaaa.Pure
open Go.RowKit Go.Proofs.YteflngoiebgdaaaW.PrintWords Go.Proofs.Yteflngoiebgdaaa.X Go.Proofs.Yteflngoiebgdaaa.Cl
set_option linter.unusedVariables false
set_option linter.unusedSimpArgs false
theorem CollideLess (l : List Mv) (r : List Int) (c : List Ct) (b : Int) (hb : (Lit.int .u16 b).wf = true) : ∃ k, X.dancestudiolaw44_CollideLess.f k l r c b = some true := by
  have hb' : 0 ≤ b ∧ b ≤ 65535 := by
    have h := hb
    unfold Lit.wf at h
    rw [Bool.and_eq_true, decide_eq_true_eq, decide_eq_true_eq] at h
    exact h
  refine ⟨40000, ?_⟩
  generalize hk : 40000 = k
  obtain ⟨k, rfl⟩ : ∃ m, k = m + 1 := ⟨k - 1, by omega⟩
  have ht : dancestudiolaw44_CollideLess.j0 (k + 1) l r c b true = some true := by rw [dancestudiolaw44_CollideLess.j0, if_pos rfl, awake_f k (by omega)]; rfl
  unfold dancestudiolaw44_CollideLess.f
  rw [light_f _ l c (by omega), Option.bind_some]
  by_cases hL : light l c.length = true
  · obtain ⟨_, _, hc, hm⟩ := light_ok hL
    rw [if_pos hL, c_f (k + 1) l r c hc hm (by omega), Option.bind_some]
    by_cases h0 : cchk l r c = 0
    · have hg := good_of hL h0
      have hr := hg.rad
      have hl := hg.len
      have hrr : ∀ x ∈ r, 0 ≤ x ∧ x ≤ 32768 := by
        intro x hx
        obtain ⟨i, hi, rfl⟩ := List.mem_iff_getElem.1 hx
        obtain ⟨_, _, _, h1, h2⟩ := hg.mov i (by omega)
        have e : rd r (i : Int) = r[i] := by unfold rd; rw [Int.toNat_natCast, List.getD_eq_getElem?_getD, List.getElem?_eq_getElem hi]; rfl
        rw [e] at h1 h2
        exact ⟨h1, h2⟩
      have hA0 : cchk l (lessR b r) c = 0 := cchk_rad h0 (by unfold lessR; rw [List.length_map]; exact hr) (fun x hx => by
        obtain ⟨y, hy, rfl⟩ := List.mem_map.1 hx
        have h1 := hrr y hy
        have h2 := mx_le h1.1 hb'.1
        omega)
      have hZ0 : cchk l (zeroR r) c = 0 := cchk_rad h0 (by unfold zeroR; rw [List.length_map]; exact hr) (fun x hx => by
        obtain ⟨y, hy, rfl⟩ := List.mem_map.1 hx
        decide)
      have hgA := good_of hL hA0
      have hgZ := good_of hL hZ0
      rw [h0, show ((0 : Int) != 0) = false from rfl, dancestudiolaw44_CollideLess.j0, if_neg (by decide), show (0 : Int) = ((0 : Nat) : Int) from rfl]
      refine less_l0 l r c b hb' (by omega) hrr 20000 (fun k' hk' => ?_) r 0 k [] [] rfl rfl rfl (by omega)
      obtain ⟨k', rfl⟩ : ∃ m, k' = m + 1 := ⟨k' - 1, by omega⟩
      have c1 := c_f k' l r c hc hm (by omega)
      have c2 := c_f k' l (lessR b r) c hc hm (by omega)
      have c3 := c_f k' l (zeroR r) c hc hm (by omega)
      rw [h0] at c1
      rw [hA0] at c2
      rw [hZ0] at c3
      rw [dancestudiolaw44_CollideLess.l0, if_neg (by omega), all_f k' l r c c1 hg (by omega), all_f k' l (lessR b r) c c2 hgA (by omega), first_f k' l (zeroR r) c c3 hgZ (by omega), Option.bind_some, Option.bind_some, Option.bind_some]
      have hz : fst l (zeroR r) c (tks l) 0 = (-1, 0, 0) := by
        rcases fst_cases l (zeroR r) c (tks l) 0 with ⟨h1, _⟩ | ⟨t0, p0, P1, P2, h1, h2, h3, h4, h5, h6, h7⟩
        · exact h1
        · have hp := collide_pairs.prs_mem (n := l.length) (p := p0) (by show p0 ∈ prsN l.length; rw [h4]; simp)
          rw [mt_zero (by unfold zeroR; exact rd_map (by omega)) (by unfold zeroR; exact rd_map (by omega))] at h5
          cases h5
      rw [hz]
      dsimp only
      rw [if_pos rfl, if_pos rfl, if_pos rfl, if_neg (by decide)]
      have la : (alls (mt l r c) (tks l) (prsN l.length)).length ≤ 25 := Nat.le_trans (alls_len _ _ _) (prs_len _ hl)
      have lb : (alls (mt l (lessR b r) c) (tks l) (prsN l.length)).length ≤ 25 := Nat.le_trans (alls_len _ _ _) (prs_len _ hl)
      refine less_l1 _ _ (by omega) (by omega) (fun x hx => ?_) _ 0 k' rfl (by rw [List.drop_zero]; omega)
      obtain ⟨p, s, q1, rfl, q2, q3, _⟩ := alls_mem hx
      have hp := collide_pairs.prs_mem q1
      obtain ⟨_, _, _, a1, a2⟩ := hg.mov p.1 (by omega)
      obtain ⟨_, _, _, b1, b2⟩ := hg.mov p.2 (by omega)
      have e1 : rd (lessR b r) (p.1 : Int) ≤ rd r (p.1 : Int) := by unfold lessR; rw [rd_map (by omega)]; exact (mx_le a1 hb'.1).2
      have e2 : rd (lessR b r) (p.2 : Int) ≤ rd r (p.2 : Int) := by unfold lessR; rw [rd_map (by omega)]; exact (mx_le b1 hb'.1).2
      obtain ⟨u, f1, f2, f3⟩ := hts_of (M := mt l r c) (mt_mono e1 e2 ⟨a1, a2⟩ ⟨b1, b2⟩ q3) (tks l) 0 (Nat.zero_le _) (by omega)
      refine ⟨⟨(u : Int), (p.1 : Int), (p.2 : Int)⟩, ?_, rfl, rfl, by show (u : Int) ≤ (s : Int); omega⟩
      unfold alls
      exact List.mem_flatMap.2 ⟨p, q1, by rw [f1]; exact List.mem_singleton.2 rfl⟩
    · rw [show (cchk l r c != 0) = true from bne_iff_ne.2 h0]
      exact ht
  · rw [if_neg hL]
    exact ht
end Go.Proofs.Yteflngoiebgdaaa.Pure
