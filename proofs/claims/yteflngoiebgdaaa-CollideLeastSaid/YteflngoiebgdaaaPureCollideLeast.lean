/- The law CollideLeast over numbers and lists. -/
import Derived.Test.YteflngoiebgdaaaX32
import Derived.Test.YteflngoiebgdaaaX26
import Derived.Test.YteflngoiebgdaaaClCases
import Derived.Test.YteflngoiebgdaaaClAwake
import Derived.Test.YteflngoiebgdaaaX68
namespace Go.Proofs.Yteflngoiebgdaaa.Cl
open Go.RowKit Go.Proofs.YteflngoiebgdaaaW.PrintWords Go.Proofs.Yteflngoiebgdaaa.X Go.Proofs.Yteflngoiebgdaaa.Fl Go.Proofs.Yteflngoiebgdaaa.GeoImpl Go.Proofs.Yteflngoiebgdaaa.Geo
set_option linter.unusedVariables false
set_option linter.unusedSimpArgs false
/-- One pair is ahead of another. -/
def lex (p q : Pr) : Prop := p.1 < q.1 ∨ p.1 = q.1 ∧ p.2 < q.2
theorem sg_sorted (a : Nat) : ∀ d b, (sg a b d).Pairwise lex
  | 0, _ => List.Pairwise.nil
  | d + 1, b => by
    rw [sg]
    exact List.Pairwise.cons (fun q hq => by have := sg_mem hq; exact .inr ⟨this.1.symm, by show b < q.2; omega⟩) (sg_sorted a d (b + 1))
theorem rws_mem {n : Nat} {p : Pr} : ∀ {d a : Nat}, p ∈ rws n a d → a ≤ p.1 ∧ p.1 < p.2
  | 0, _, h => by cases h
  | d + 1, a, h => by
    rw [rws] at h
    rcases List.mem_append.1 h with h | h
    · have := sg_mem h; omega
    · have := rws_mem h; omega
theorem rws_sorted (n : Nat) : ∀ d a, (rws n a d).Pairwise lex
  | 0, _ => List.Pairwise.nil
  | d + 1, a => by
    rw [rws, List.pairwise_append]
    refine ⟨sg_sorted a _ _, rws_sorted n d (a + 1), fun p hp q hq => .inl ?_⟩
    have h1 := sg_mem hp
    have h2 := rws_mem hq
    omega
def before (x y : Ht) : Prop := x.f1 < y.f1 ∨ x.f1 = y.f1 ∧ x.f2 < y.f2
theorem alls_sorted (M : Nat → Pr → Bool) (N n : Nat) : (alls M N (prsN n)).Pairwise before := by
  rw [prs_rws]
  unfold alls
  rw [List.pairwise_flatMap]
  refine ⟨fun p _ => ?_, (rws_sorted n n 0).imp (fun {p q} hpq => ?_)⟩
  · have := hts_len M p N 0
    match hh : hts M p N 0 with
    | [] => exact List.Pairwise.nil
    | [x] => exact List.pairwise_singleton _ _
    | x :: y :: l => rw [hh] at this; simp at this
  · intro x hx y hy
    obtain ⟨s, rfl, _⟩ := hts_mem hx
    obtain ⟨u, rfl, _⟩ := hts_mem hy
    unfold lex at hpq
    unfold before
    dsimp only
    omega
/-- The least of a list by its tick, the first of them. -/
def mn : Ht → List Ht → Ht
  | y, [] => y
  | y, x :: l => if x.f0 < y.f0 then mn x l else mn y l
theorem mn_same {y : Ht} : ∀ {l : List Ht}, (∀ x ∈ l, y.f0 ≤ x.f0) → mn y l = y
  | [], _ => rfl
  | x :: l, h => by
    rw [mn, if_neg (by have := h x (List.mem_cons_self ..); omega)]
    exact mn_same (fun z hz => h z (List.mem_cons_of_mem _ hz))
theorem mn_to {r : Ht} {B : List Ht} (hB : ∀ x ∈ B, r.f0 ≤ x.f0) : ∀ {A : List Ht} {y : Ht}, r.f0 < y.f0 → (∀ x ∈ A, r.f0 < x.f0) → mn y (A ++ r :: B) = r
  | [], y, hy, _ => by
    rw [List.nil_append, mn, if_pos hy]
    exact mn_same hB
  | x :: A, y, hy, hA => by
    rw [List.cons_append, mn]
    split
    · exact mn_to hB (hA x (List.mem_cons_self ..)) (fun z hz => hA z (List.mem_cons_of_mem _ hz))
    · exact mn_to hB hy (fun z hz => hA z (List.mem_cons_of_mem _ hz))
theorem least_l0 (A : List Ht) (hA : A.length ≤ 1000) (hs : A.Pairwise before) (hp : ∀ x ∈ A, x.f1 < x.f2 ∧ 0 ≤ x.f0) (r : Ht) : ∀ (s : List Ht) (i k : Nat) (y : Ht), A.drop i = s → 2 * s.length + 45 < k → mn y s = r →
    dancestudiolaw44_CollideLeast.l0 k A (i : Int) r.f0 r.f1 r.f2 y.f0 y.f1 y.f2 = some true := by
  intro s
  induction s with
  | nil =>
    intro i k y hd hk hm
    obtain ⟨k, rfl⟩ : ∃ m, k = m + 1 := ⟨k - 1, by omega⟩
    have hi : A.length ≤ i := List.drop_eq_nil_iff.1 hd
    rw [mn] at hm
    subst hm
    rw [dancestudiolaw44_CollideLeast.l0, if_neg (by omega), beq_self_eq_true, beq_self_eq_true, beq_self_eq_true, awake_f k (by simp at hk; omega)]
    rfl
  | cons x s ih =>
    intro i k y hd hk hm
    simp only [List.length_cons] at hk
    obtain ⟨k, rfl⟩ : ∃ m, k = m + 2 := ⟨k - 2, by omega⟩
    obtain ⟨hx, hi, hn⟩ := rdH hd
    have hxm : x ∈ A := List.mem_of_mem_drop (i := i) (by rw [hd]; exact List.mem_cons_self ..)
    obtain ⟨p1, p2⟩ := hp x hxm
    have hj : dancestudiolaw44_CollideLeast.j1 (k + 1) A (i : Int) false r.f0 r.f1 r.f2 y.f0 y.f1 y.f2 x.f0 x.f1 x.f2 = some true := by
      rw [dancestudiolaw44_CollideLeast.j1, if_neg (by decide), w64 (by omega) (by omega), show (i : Int) + 1 = ((i + 1 : Nat) : Int) by omega]
      rw [mn] at hm
      by_cases h : x.f0 < y.f0
      · rw [if_pos h] at hm ⊢
        exact ih (i + 1) k x hn (by omega) hm
      · rw [if_neg h] at hm ⊢
        exact ih (i + 1) k y hn (by omega) hm
    rw [dancestudiolaw44_CollideLeast.l0, if_pos (by omega), if_pos (by omega), hx, if_neg (by omega), if_neg (by omega)]
    by_cases h0 : (i : Int) > 0
    · rw [if_pos h0, w64 (x := (i : Int) - 1) (by omega) (by omega), if_pos (by omega), if_pos (by omega), show (i : Int) - 1 = ((i - 1 : Nat) : Int) by omega]
      have hb : before (rd_T30 A ((i - 1 : Nat) : Int)) x := by
        have h1 := List.pairwise_iff_getElem.1 hs (i - 1) i (by omega) hi (by omega)
        unfold rd_T30
        rw [Int.toNat_natCast, List.getD_eq_getElem?_getD, List.getElem?_eq_getElem (by omega)]
        have h2 : A[i] = x := by
          unfold rd_T30 at hx
          rw [Int.toNat_natCast, List.getD_eq_getElem?_getD, List.getElem?_eq_getElem hi] at hx
          exact hx
        rw [h2] at h1
        exact h1
      unfold before at hb
      rw [if_neg (by omega)]
      by_cases he : x.f1 = (rd_T30 A ((i - 1 : Nat) : Int)).f1
      · rw [if_pos he, decide_eq_false (by omega)]
        exact hj
      · rw [if_neg he]
        exact hj
    · rw [if_neg h0]
      exact hj
end Go.Proofs.Yteflngoiebgdaaa.Cl
namespace Go.Proofs.Yteflngoiebgdaaa.Pure
open Go.RowKit Go.Proofs.YteflngoiebgdaaaW.PrintWords Go.Proofs.Yteflngoiebgdaaa.X Go.Proofs.Yteflngoiebgdaaa.Cl
set_option linter.unusedVariables false
set_option linter.unusedSimpArgs false
theorem CollideLeast (l : List Mv) (r : List Int) (c : List Ct) : ∃ k, X.dancestudiolaw44_CollideLeast.f k l r c = some true := by
  refine ⟨20000, ?_⟩
  generalize hk : 20000 = k
  unfold dancestudiolaw44_CollideLeast.f
  rw [light_f k l c (by omega), Option.bind_some]
  by_cases hL : light l c.length = true
  · obtain ⟨_, _, hc, hm⟩ := light_ok hL
    have hC := c_f k l r c hc hm (by omega)
    rw [if_pos hL]
    by_cases h0 : cchk l r c = 0
    · rw [h0] at hC
      have hg := good_of hL h0
      rw [first_f k l r c hC hg (by omega), all_f k l r c hC hg (by omega), Option.bind_some, Option.bind_some]
      dsimp only
      rw [if_pos rfl, if_pos rfl]
      have hlen : (alls (mt l r c) (tks l) (prsN l.length)).length ≤ 25 := Nat.le_trans (alls_len _ _ _) (prs_len _ hg.len)
      have hsrt := alls_sorted (mt l r c) (tks l) l.length
      have hprp : ∀ x ∈ alls (mt l r c) (tks l) (prsN l.length), x.f1 < x.f2 ∧ 0 ≤ x.f0 := by
        intro x hx
        obtain ⟨p, s, h1, rfl, _⟩ := alls_mem hx
        have := collide_pairs.prs_mem h1
        exact ⟨by show (p.1 : Int) < (p.2 : Int); omega, Int.natCast_nonneg _⟩
      rcases fst_cases l r c (tks l) 0 with ⟨h1, h2⟩ | ⟨t0, p0, P1, P2, h1, h2, h3, h4, h5, h6, h7⟩
      · rw [h1, alls_none (fun s hs p hp => h2 s (Nat.zero_le _) (by omega) p hp), awake_f k (by omega)]
        rfl
      · have hA : alls (mt l r c) (tks l) (prsN l.length) = alls (mt l r c) (tks l) P1 ++ ⟨(t0 : Int), (p0.1 : Int), (p0.2 : Int)⟩ :: alls (mt l r c) (tks l) P2 := by
          obtain ⟨u, e1, e2, e3⟩ := hts_of (M := mt l r c) h5 (tks l) 0 (Nat.zero_le _) (by omega)
          have hu : u = t0 := by
            rcases Nat.lt_or_ge u t0 with h | h
            · have hx : (⟨(u : Int), (p0.1 : Int), (p0.2 : Int)⟩ : Ht) ∈ hts (mt l r c) p0 (tks l) 0 := by rw [e1]; exact List.mem_singleton.2 rfl
              obtain ⟨s, e4, _, _, e5⟩ := hts_mem hx
              injection e4 with e4
              have : s = u := by omega
              subst this
              rw [h7 s (Nat.zero_le _) h p0 (by rw [h4]; simp)] at e5
              cases e5
            · omega
          subst hu
          rw [h4, alls_append, alls_cons, e1]
          rfl
        have hlow : ∀ x ∈ alls (mt l r c) (tks l) P1, (t0 : Int) < x.f0 := by
          intro x hx
          obtain ⟨p, s, q1, rfl, q2, q3, _⟩ := alls_mem hx
          show (t0 : Int) < (s : Int)
          rcases Nat.lt_trichotomy s t0 with h | h | h
          · rw [h7 s (Nat.zero_le _) h p (by rw [h4]; exact List.mem_append_left _ q1)] at q3; cases q3
          · rw [h, h6 p q1] at q3; cases q3
          · omega
        have hhigh : ∀ x ∈ alls (mt l r c) (tks l) P2, (t0 : Int) ≤ x.f0 := by
          intro x hx
          obtain ⟨p, s, q1, rfl, q2, q3, _⟩ := alls_mem hx
          show (t0 : Int) ≤ (s : Int)
          rcases Nat.lt_or_ge s t0 with h | h
          · rw [h7 s (Nat.zero_le _) h p (by rw [h4]; exact List.mem_append_right _ (List.mem_cons_of_mem _ q1))] at q3; cases q3
          · omega
        have hpos : ¬ ((alls (mt l r c) (tks l) (prsN l.length)).length : Int) = 0 := by rw [hA]; simp; omega
        have hd : rd_T30 (alls (mt l r c) (tks l) (prsN l.length)) 0 = (alls (mt l r c) (tks l) (prsN l.length)).headD z30 := by
          unfold rd_T30
          cases alls (mt l r c) (tks l) (prsN l.length) <;> rfl
        rw [if_neg hpos, if_pos (by omega), h3]
        dsimp only
        refine least_l0 _ (by omega) hsrt hprp ⟨(t0 : Int), (p0.1 : Int), (p0.2 : Int)⟩ _ 0 k (rd_T30 (alls (mt l r c) (tks l) (prsN l.length)) 0) rfl (by rw [List.drop_zero]; omega) ?_
        rw [List.drop_zero, hd, hA]
        cases hP : alls (mt l r c) (tks l) P1 with
        | nil =>
          rw [List.nil_append, List.headD_cons, mn, if_neg (by omega)]
          exact mn_same hhigh
        | cons y B =>
          rw [hP] at hlow
          rw [List.cons_append, List.headD_cons, mn, if_neg (by omega)]
          exact mn_to hhigh (hlow y (List.mem_cons_self ..)) (fun z hz => hlow z (List.mem_cons_of_mem _ hz))
    · unfold collide_First.f collide_All.f
      rw [hC, Option.bind_some, Option.bind_some, if_neg h0, if_neg h0, Option.bind_some, Option.bind_some, if_pos rfl, if_neg h0, awake_f k (by omega)]
      rfl
  · rw [if_neg hL, awake_f k (by omega)]
    rfl
end Go.Proofs.Yteflngoiebgdaaa.Pure
