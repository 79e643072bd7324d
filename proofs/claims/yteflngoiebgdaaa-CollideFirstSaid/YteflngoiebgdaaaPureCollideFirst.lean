/- The law CollideFirst over numbers and lists. -/
import Derived.Test.YteflngoiebgdaaaX66
import Derived.Test.YteflngoiebgdaaaX65
import Derived.Test.YteflngoiebgdaaaClFirst
import Derived.Test.YteflngoiebgdaaaClAwake
import Derived.Test.YteflngoiebgdaaaX67
namespace Go.Proofs.Yteflngoiebgdaaa.Cl
open Go.RowKit Go.Proofs.YteflngoiebgdaaaW.PrintWords Go.Proofs.Yteflngoiebgdaaa.X Go.Proofs.Yteflngoiebgdaaa.Fl Go.Proofs.Yteflngoiebgdaaa.GeoImpl Go.Proofs.Yteflngoiebgdaaa.Geo
set_option linter.unusedVariables false
set_option linter.unusedSimpArgs false
theorem has_if (a b t : Int) (v : Option Bool) : (if a ≤ t then (if t < b then some true else (if a ≤ t + 1 then (if t + 1 < b then some true else v) else v)) else (if a ≤ t + 1 then (if t + 1 < b then some true else v) else v)) = if (hasB a b t || hasB a b (t + 1)) = true then some true else v := by
  unfold hasB
  by_cases h1 : a ≤ t
  · rw [if_pos h1, decide_eq_true h1]
    by_cases h2 : t < b
    · rw [if_pos h2, decide_eq_true h2]; rfl
    · rw [if_neg h2, decide_eq_false h2]
      by_cases h3 : a ≤ t + 1
      · rw [if_pos h3, decide_eq_true h3]
        by_cases h4 : t + 1 < b
        · rw [if_pos h4, decide_eq_true h4]; rfl
        · rw [if_neg h4, decide_eq_false h4]; rfl
      · rw [if_neg h3, decide_eq_false h3]; rfl
  · rw [if_neg h1, decide_eq_false h1]
    by_cases h3 : a ≤ t + 1
    · rw [if_pos h3, decide_eq_true h3]
      by_cases h4 : t + 1 < b
      · rw [if_pos h4, decide_eq_true h4]; rfl
      · rw [if_neg h4, decide_eq_false h4]; rfl
    · rw [if_neg h3, decide_eq_false h3]; rfl
theorem partners_l0 (c : List Ct) (a b t : Int) (hc : c.length ≤ 1000) (ht : 0 ≤ t ∧ t ≤ 10000) : ∀ (s : List Ct) (i k : Nat), c.drop i = s → s.length < k → dancestudiolaw44_partners.l0 k c a b t (i : Int) = some (s.any (isC a b t)) := by
  intro s
  induction s with
  | nil =>
    intro i k hd hk
    obtain ⟨k, rfl⟩ : ∃ m, k = m + 1 := ⟨k - 1, by omega⟩
    have hi : c.length ≤ i := List.drop_eq_nil_iff.1 hd
    rw [dancestudiolaw44_partners.l0, if_neg (by omega)]
    rfl
  | cons x s ih =>
    intro i k hd hk
    simp only [List.length_cons] at hk
    obtain ⟨k, rfl⟩ : ∃ m, k = m + 1 := ⟨k - 1, by omega⟩
    obtain ⟨hx, hi, hn⟩ := rdC hd
    rw [dancestudiolaw44_partners.l0, if_pos (by omega), if_pos (by omega), hx, w64 (x := (i : Int) + 1) (by omega) (by omega), show (i : Int) + 1 = ((i + 1 : Nat) : Int) by omega, ih (i + 1) k hn (by omega), w64 (x := t + 1) (by omega) (by omega), has_if, List.any_cons]
    unfold isC pairB
    by_cases h1 : x.f0 = a
    · rw [if_pos h1, decide_eq_true h1]
      by_cases h2 : x.f2 = b
      · rw [if_pos h2, decide_eq_true h2]
        cases hasB x.f4.f0 x.f4.f1 t || hasB x.f4.f0 x.f4.f1 (t + 1) <;> rfl
      · rw [if_neg h2, decide_eq_false h2]
        by_cases h3 : x.f0 = b
        · rw [if_pos h3, decide_eq_true h3]
          by_cases h4 : x.f2 = a
          · rw [if_pos h4, decide_eq_true h4]
            cases hasB x.f4.f0 x.f4.f1 t || hasB x.f4.f0 x.f4.f1 (t + 1) <;> rfl
          · rw [if_neg h4, decide_eq_false h4]
            rfl
        · rw [if_neg h3, decide_eq_false h3]
          rfl
    · rw [if_neg h1, decide_eq_false h1]
      by_cases h3 : x.f0 = b
      · rw [if_pos h3, decide_eq_true h3]
        by_cases h4 : x.f2 = a
        · rw [if_pos h4, decide_eq_true h4]
          cases hasB x.f4.f0 x.f4.f1 t || hasB x.f4.f0 x.f4.f1 (t + 1) <;> rfl
        · rw [if_neg h4, decide_eq_false h4]
          rfl
      · rw [if_neg h3, decide_eq_false h3]
        rfl
theorem partners_f (k : Nat) (c : List Ct) (a b t : Int) (hc : c.length ≤ 20) (ht : 0 ≤ t ∧ t ≤ 10000) (hk : 30 ≤ k) : dancestudiolaw44_partners.f k c a b t = some (c.any (isC a b t)) := by
  unfold dancestudiolaw44_partners.f
  exact partners_l0 c a b t (by omega) ht c 0 k (by simp) (by omega)
theorem tch_true (a0 a1 a2 a3 a4 b0 b1 b2 b3 b4 : Int) : (if (tch a0 a1 a2 a3 a4 b0 b1 b2 b3 b4).1 = true then some ((tch a0 a1 a2 a3 a4 b0 b1 b2 b3 b4).2 == 0) else some false) = some (tch a0 a1 a2 a3 a4 b0 b1 b2 b3 b4).1 := by
  unfold tch
  by_cases h : mOk a0 a1 a2 a3 a4 = true ∧ mOk b0 b1 b2 b3 b4 = true
  · rw [if_pos h]
    dsimp only
    split
    · rename_i h2; rw [h2]; rfl
    · rename_i h2; rw [Bool.not_eq_true] at h2; rw [h2]
  · rw [if_neg h]
    rfl
theorem near_f (k : Nat) (l : List Mv) (r : List Int) (c : List Ct) (hg : Good l r c) (a b t : Nat) (ha : a < l.length) (hb : b < l.length) (ht : t < tks l) (hk : 60 ≤ k) : dancestudiolaw44_near.f k l r (a : Int) (b : Int) (t : Int) (c.any (isC (a : Int) (b : Int) (t : Int))) = some (mt l r c t (a, b)) := by
  obtain ⟨ma, _, _, a0, a1⟩ := hg.mov a ha
  obtain ⟨mb, _, _, b0, b1⟩ := hg.mov b hb
  have hr := hg.rad
  have hf := hg.few
  unfold dancestudiolaw44_near.f mt
  rw [if_pos (by omega), if_pos (by omega), if_pos (by omega), if_pos (by omega)]
  dsimp only
  cases c.any (isC (a : Int) (b : Int) (t : Int))
  · rw [if_neg (by decide), w64 (x := (t : Int) + 1) (by omega) (by omega), if_pos (by omega), if_pos (by omega), if_pos (by omega), if_pos (by omega), if_pos (by omega), if_pos (by omega), if_pos (by omega), if_pos (by omega), touch_f k _ _ _ _ _ _ _ _ _ _ (by omega), Option.bind_some, tch_true]
    rfl
  · rw [if_pos rfl, w64 (x := (t : Int) + 1) (by omega) (by omega), if_pos (by omega), if_pos (by omega), if_pos (by omega), if_pos (by omega), if_pos (by omega), if_pos (by omega), if_pos (by omega), if_pos (by omega), half64 _ a0 a1, half64 _ b0 b1, touch_f k _ _ _ _ _ _ _ _ _ _ (by omega), Option.bind_some, tch_true]
    rfl
def fn3 (M : Pr → Bool) (t : Int) (v : Int × Int × Int) : List Pr → Int × Int × Int
  | [] => v
  | p :: l => if M p = true then (t, (p.1 : Int), (p.2 : Int)) else fn3 M t v l
theorem fn3_append (M : Pr → Bool) (t : Int) (v : Int × Int × Int) : ∀ l m, fn3 M t v (l ++ m) = fn3 M t (fn3 M t v m) l
  | [], _ => rfl
  | p :: l, m => by rw [List.cons_append, fn3, fn3, fn3_append M t v l m]
theorem fn3_find (M : Pr → Bool) (t : Int) (v : Int × Int × Int) : ∀ l, fn3 M t v l = match l.find? M with | some p => (t, (p.1 : Int), (p.2 : Int)) | none => v
  | [] => rfl
  | p :: l => by
    rw [fn3, List.find?_cons, fn3_find M t v l]
    cases M p <;> rfl
theorem cf_l2 (l : List Mv) (r : List Int) (c : List Ct) (hg : Good l r c) (h : Int × Int × Int) (t a : Nat) (ht : t < tks l) (ha : a < l.length) (v : Int × Int × Int) (k0 : Nat) (hk0 : 60 ≤ k0) (K : ∀ k, k0 ≤ k → h = v → dancestudiolaw44_CollideFirst.l1 k l r c (tks l : Int) (t : Int) ((a + 1 : Nat) : Int) h.1 h.2.1 h.2.2 = some true) :
    ∀ d b k, b + d = l.length → k0 + d < k → h = fn3 (mt l r c t) (t : Int) v (sg a b d) → dancestudiolaw44_CollideFirst.l2 k l r c (tks l : Int) (t : Int) (a : Int) (b : Int) h.1 h.2.1 h.2.2 = some true := by
  have := hg.len
  have := hg.few
  have hma := (hg.mov a ha).1
  intro d
  induction d with
  | zero =>
    intro b k hb hk hh
    obtain ⟨k, rfl⟩ : ∃ m, k = m + 1 := ⟨k - 1, by omega⟩
    rw [dancestudiolaw44_CollideFirst.l2, if_neg (by omega), w64 (by omega) (by omega), show (a : Int) + 1 = ((a + 1 : Nat) : Int) by omega, K k (by omega) hh]
  | succ d ih =>
    intro b k hb hk hh
    obtain ⟨k, rfl⟩ : ∃ m, k = m + 1 := ⟨k - 1, by omega⟩
    have hmb := (hg.mov b (by omega)).1
    rw [dancestudiolaw44_CollideFirst.l2, w64 (x := (tks l : Int) + 1) (by omega) (by omega), if_pos (by omega), if_pos (by omega), if_pos (by omega), if_pos (by omega), if_pos (by omega), if_pos (by omega), partners_f k c _ _ _ hg.con (by omega) (by omega), Option.bind_some, near_f k l r c hg a b t ha (by omega) ht (by omega), Option.bind_some, awake_f k (by omega), w64 (x := (b : Int) + 1) (by omega) (by omega), show (b : Int) + 1 = ((b + 1 : Nat) : Int) by omega]
    rw [sg, fn3] at hh
    cases hm : mt l r c t (a, b) with
    | true =>
      rw [hm, if_pos rfl] at hh
      rw [if_pos rfl, hh, beq_self_eq_true, beq_self_eq_true, beq_self_eq_true]
      rfl
    | false =>
      rw [hm, if_neg (by decide)] at hh
      rw [if_neg (by decide)]
      exact ih (b + 1) k (by omega) (by omega) hh
theorem cf_l1 (l : List Mv) (r : List Int) (c : List Ct) (hg : Good l r c) (h : Int × Int × Int) (t : Nat) (ht : t < tks l) (v : Int × Int × Int) (k0 : Nat) (hk0 : 60 ≤ k0) (K : ∀ k, k0 ≤ k → h = v → dancestudiolaw44_CollideFirst.l0 k l r c (tks l : Int) ((t + 1 : Nat) : Int) h.1 h.2.1 h.2.2 = some true) :
    ∀ d a k, a + d = l.length → k0 + 10 * d < k → h = fn3 (mt l r c t) (t : Int) v (rws l.length a d) → dancestudiolaw44_CollideFirst.l1 k l r c (tks l : Int) (t : Int) (a : Int) h.1 h.2.1 h.2.2 = some true := by
  have := hg.len
  have := hg.few
  intro d
  induction d with
  | zero =>
    intro a k hb hk hh
    obtain ⟨k, rfl⟩ : ∃ m, k = m + 1 := ⟨k - 1, by omega⟩
    rw [dancestudiolaw44_CollideFirst.l1, if_neg (by omega), w64 (by omega) (by omega), show (t : Int) + 1 = ((t + 1 : Nat) : Int) by omega, K k (by omega) hh]
  | succ d ih =>
    intro a k hb hk hh
    obtain ⟨k, rfl⟩ : ∃ m, k = m + 1 := ⟨k - 1, by omega⟩
    rw [rws, fn3_append] at hh
    rw [dancestudiolaw44_CollideFirst.l1, if_pos (by omega), w64 (by omega) (by omega), show (a : Int) + 1 = ((a + 1 : Nat) : Int) by omega]
    exact cf_l2 l r c hg h t a ht (by omega) _ (k0 + 10 * d + 1) (by omega) (fun k' hk' hv => ih (a + 1) k' (by omega) (by omega) hv) (l.length - (a + 1)) (a + 1) k (by omega) (by omega) hh
theorem cf_l0 (l : List Mv) (r : List Int) (c : List Ct) (hg : Good l r c) (h : Int × Int × Int) : ∀ d t k, t + d = tks l → 60 + 60 * d < k → h = fst l r c d t → dancestudiolaw44_CollideFirst.l0 k l r c (tks l : Int) (t : Int) h.1 h.2.1 h.2.2 = some true := by
  have := hg.len
  intro d
  induction d with
  | zero =>
    intro t k hb hk hh
    obtain ⟨k, rfl⟩ : ∃ m, k = m + 1 := ⟨k - 1, by omega⟩
    rw [dancestudiolaw44_CollideFirst.l0, if_neg (by omega), hh, awake_f k (by omega)]
    rfl
  | succ d ih =>
    intro t k hb hk hh
    obtain ⟨k, rfl⟩ : ∃ m, k = m + 1 := ⟨k - 1, by omega⟩
    rw [dancestudiolaw44_CollideFirst.l0, if_pos (by omega)]
    exact cf_l1 l r c hg h t (by omega) (fst l r c d (t + 1)) (60 + 60 * d + 1) (by omega) (fun k' hk' hv => ih (t + 1) k' (by omega) (by omega) hv) l.length 0 k (by omega) (by omega) (by
      rw [← prs_rws, fn3_find, hh, fst]
      cases (prsN l.length).find? (mt l r c t) <;> rfl)
end Go.Proofs.Yteflngoiebgdaaa.Cl
namespace Go.Proofs.Yteflngoiebgdaaa.Pure
open Go.RowKit Go.Proofs.YteflngoiebgdaaaW.PrintWords Go.Proofs.Yteflngoiebgdaaa.X Go.Proofs.Yteflngoiebgdaaa.Cl
set_option linter.unusedVariables false
set_option linter.unusedSimpArgs false
theorem CollideFirst (l : List Mv) (r : List Int) (c : List Ct) : ∃ k, X.dancestudiolaw44_CollideFirst.f k l r c = some true := by
  refine ⟨20000, ?_⟩
  generalize hk : 20000 = k
  obtain ⟨k, rfl⟩ : ∃ m, k = m + 1 := ⟨k - 1, by omega⟩
  have ht : dancestudiolaw44_CollideFirst.j0 (k + 1) l r c true = some true := by rw [dancestudiolaw44_CollideFirst.j0, if_pos rfl, awake_f k (by omega)]; rfl
  unfold dancestudiolaw44_CollideFirst.f
  rw [light_f _ l c (by omega), Option.bind_some]
  by_cases hL : light l c.length = true
  · obtain ⟨_, _, hc, hm⟩ := light_ok hL
    have hC := c_f (k + 1) l r c hc hm (by omega)
    rw [if_pos hL, hC, Option.bind_some]
    by_cases h0 : cchk l r c = 0
    · have hg := good_of hL h0
      have hC' := c_f k l r c hc hm (by omega)
      rw [h0] at hC'
      rw [if_pos h0]
      by_cases hz : (l.length : Int) = 0
      · rw [beq_iff_eq.2 hz]
        exact ht
      · rw [beq_eq_false_iff_ne.2 hz, dancestudiolaw44_CollideFirst.j0, if_neg (by decide), first_f k l r c hC' hg (by omega), Option.bind_some]
        dsimp only
        have hr := hg.rad
        have hf := hg.few
        rw [if_pos rfl, if_pos (by omega), if_pos (by omega)]
        exact cf_l0 l r c hg (fst l r c (tks l) 0) (tks l) 0 k (by omega) (by omega) rfl
    · rw [if_neg h0]
      exact ht
  · rw [if_neg hL]
    exact ht
end Go.Proofs.Yteflngoiebgdaaa.Pure
