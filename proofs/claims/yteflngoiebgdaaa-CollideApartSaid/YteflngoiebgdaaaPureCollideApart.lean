/- The law CollideApart over numbers and lists. -/
import Derived.Test.YteflngoiebgdaaaClCases
import Derived.Test.YteflngoiebgdaaaClRoom
import Derived.Test.YteflngoiebgdaaaClAwake
import Derived.Test.YteflngoiebgdaaaX70
namespace Go.Proofs.Yteflngoiebgdaaa.Cl
open Go.RowKit Go.Proofs.YteflngoiebgdaaaW.PrintWords Go.Proofs.Yteflngoiebgdaaa.X Go.Proofs.Yteflngoiebgdaaa.Fl Go.Proofs.Yteflngoiebgdaaa.GeoImpl Go.Proofs.Yteflngoiebgdaaa.Geo
set_option linter.unusedVariables false
set_option linter.unusedSimpArgs false
theorem mt_no {l : List Mv} {r : List Int} (hg : Good l r []) {t : Nat} (ht : t < tks l) {p : Pr} (h1 : p.1 < l.length) (h2 : p.2 < l.length) (h : mt l r [] t p = false) :
    (rd r (p.1 : Int) + rd r (p.2 : Int)) * (rd r (p.1 : Int) + rd r (p.2 : Int)) ≤ dst l (t : Int) p ∧ (rd r (p.1 : Int) + rd r (p.2 : Int)) * (rd r (p.1 : Int) + rd r (p.2 : Int)) ≤ dst l ((t : Int) + 1) p := by
  obtain ⟨_, _, _, a1, a2⟩ := hg.mov p.1 h1
  obtain ⟨_, _, _, b1, b2⟩ := hg.mov p.2 h2
  have oa := at_on hg p.1 h1 (t : Int) (by omega) (by omega)
  have oa' := at_on hg p.1 h1 ((t : Int) + 1) (by omega) (by omega)
  have ob := at_on hg p.2 h2 (t : Int) (by omega) (by omega)
  have ob' := at_on hg p.2 h2 ((t : Int) + 1) (by omega) (by omega)
  unfold mt mtR at h
  rw [show ([] : List Ct).any (isC (p.1 : Int) (p.2 : Int) (t : Int)) = false from rfl] at h
  unfold hv at h
  rw [if_neg (by decide), if_neg (by decide)] at h
  unfold tch at h
  rw [if_pos ⟨(mOk_iff _ _ _ _ _).2 ⟨oa, oa', a1, a2⟩, (mOk_iff _ _ _ _ _).2 ⟨ob, ob', b1, b2⟩⟩] at h
  have hn := of_decide_eq_false h
  unfold dst d2
  constructor
  · rcases Int.lt_or_le ((at_ l (p.1 : Int) (t : Int)).f0 - (at_ l (p.2 : Int) (t : Int)).f0) 0 with _ | _
    all_goals
      apply Decidable.byContradiction
      intro hh
      exact hn (nr_neg_far _ _ _ _ _ (by omega))
  · apply Decidable.byContradiction
    intro hh
    refine hn (nr_neg_end _ _ _ _ _ ?_)
    rw [show ∀ a b c d : Int, a - b + (c - a - (d - b)) = c - d from fun a b c d => by omega, show ∀ a b c d : Int, a - b + (c - a - (d - b)) = c - d from fun a b c d => by omega]
    omega
theorem dst_nonneg (l : List Mv) (t : Int) (p : Pr) : 0 ≤ dst l t p := by
  unfold dst d2
  exact Int.add_nonneg (sq_nonneg _) (sq_nonneg _)
/-- The least of a list of what is not negative. -/
theorem less_min : ∀ (L : List Int) (a : Int), (∀ x ∈ L, 0 ≤ x) → (0 ≤ a → (L.foldl collide_Room.less a ≤ a ∧ (∀ x ∈ L, L.foldl collide_Room.less a ≤ x) ∧ (L.foldl collide_Room.less a = a ∨ L.foldl collide_Room.less a ∈ L)))
  | [], a, _, _ => ⟨Int.le_refl _, (fun x hx => by cases hx), .inl rfl⟩
  | y :: L, a, h, ha => by
    have hy := h y (List.mem_cons_self ..)
    rw [List.foldl_cons]
    unfold collide_Room.less
    by_cases hya : y < a
    · rw [if_pos (Or.inr hya)]
      obtain ⟨e1, e2, e3⟩ := less_min L y (fun x hx => h x (List.mem_cons_of_mem _ hx)) hy
      refine ⟨by unfold collide_Room.less at e1; omega, fun x hx => ?_, ?_⟩
      · rcases List.mem_cons.1 hx with rfl | hx
        · exact e1
        · exact e2 x hx
      · rcases e3 with e3 | e3
        · exact .inr (List.mem_cons.2 (.inl e3))
        · exact .inr (List.mem_cons_of_mem _ e3)
    · rw [if_neg (by omega)]
      obtain ⟨e1, e2, e3⟩ := less_min L a (fun x hx => h x (List.mem_cons_of_mem _ hx)) ha
      refine ⟨e1, fun x hx => ?_, ?_⟩
      · rcases List.mem_cons.1 hx with rfl | hx
        · unfold collide_Room.less at e1; omega
        · exact e2 x hx
      · rcases e3 with e3 | e3
        · exact .inl e3
        · exact .inr (List.mem_cons_of_mem _ e3)
theorem room_min (l : List Mv) (t : Int) (h2 : 2 ≤ l.length) : (∀ p ∈ prsN l.length, room l t ≤ dst l t p) ∧ ∃ p ∈ prsN l.length, dst l t p = room l t := by
  have hne : (0, 1) ∈ prsN l.length := collide_pairs.mem_prs (by decide) (by omega)
  unfold room
  obtain ⟨p0, P, hP⟩ : ∃ p0 P, prsN l.length = p0 :: P := by
    cases h : prsN l.length with
    | nil => rw [h] at hne; cases hne
    | cons p P => exact ⟨p, P, rfl⟩
  rw [hP, List.map_cons, List.foldl_cons, show collide_Room.less (-1) (dst l t p0) = dst l t p0 from if_pos (.inl (by decide))]
  obtain ⟨e1, e2, e3⟩ := less_min (P.map (dst l t)) (dst l t p0) (fun x hx => by obtain ⟨q, _, rfl⟩ := List.mem_map.1 hx; exact dst_nonneg l t q) (dst_nonneg l t p0)
  refine ⟨fun p hp => ?_, ?_⟩
  · rcases List.mem_cons.1 hp with rfl | hp
    · exact e1
    · exact e2 _ (List.mem_map.2 ⟨p, hp, rfl⟩)
  · rcases e3 with e3 | e3
    · exact ⟨p0, List.mem_cons_self .., e3.symm⟩
    · obtain ⟨q, hq, e⟩ := List.mem_map.1 e3
      exact ⟨q, List.mem_cons_of_mem _ hq, e⟩
theorem ap_l1 (l : List Mv) (r : List Int) (hg : Good l r []) (t : Nat) (ht : t ≤ tks l) (m : Int) (hm : ∀ p ∈ prsN l.length, m ≤ dst l (t : Int) p ∧ (rd r (p.1 : Int) + rd r (p.2 : Int)) * (rd r (p.1 : Int) + rd r (p.2 : Int)) ≤ dst l (t : Int) p) (a : Nat) (ha : a < l.length) (k0 : Nat) (Q : Prop)
    (K : ∀ k f, k0 ≤ k → (f = true ∨ Q) → dancestudiolaw44_CollideApart.l0 k l r (t : Int) (tks l : Int) m f ((a + 1 : Nat) : Int) = some true) :
    ∀ d b k f, a + 1 ≤ b → b + d = l.length → k0 + d < k → (f = true ∨ (∃ p ∈ sg a b d, dst l (t : Int) p = m) ∨ Q) → dancestudiolaw44_CollideApart.l1 k l r (t : Int) (tks l : Int) m f (a : Int) (b : Int) = some true := by
  have := hg.len
  have := hg.few
  have hr := hg.rad
  obtain ⟨ma, _, _, ra1, ra2⟩ := hg.mov a ha
  intro d
  induction d with
  | zero =>
    intro b k f hab hb hk hf
    obtain ⟨k, rfl⟩ : ∃ m, k = m + 1 := ⟨k - 1, by omega⟩
    rw [dancestudiolaw44_CollideApart.l1, if_neg (by omega), w64 (by omega) (by omega), show (a : Int) + 1 = ((a + 1 : Nat) : Int) by omega]
    refine K k f (by omega) ?_
    rcases hf with h | ⟨p, hp, _⟩ | h
    · exact .inl h
    · cases hp
    · exact .inr h
  | succ d ih =>
    intro b k f hab hb hk hf
    obtain ⟨k, rfl⟩ : ∃ m, k = m + 1 := ⟨k - 1, by omega⟩
    obtain ⟨mb, _, _, rb1, rb2⟩ := hg.mov b (by omega)
    have oa := at_on hg a ha (t : Int) (by omega) (by omega)
    have ob := at_on hg b (by omega) (t : Int) (by omega) (by omega)
    obtain ⟨h1, h2⟩ := hm (a, b) (collide_pairs.mem_prs (by omega) (by omega))
    have hD : wrap64 (wrap64 (wrap64 ((at_ l (a : Int) (t : Int)).f0 - (at_ l (b : Int) (t : Int)).f0) * wrap64 ((at_ l (a : Int) (t : Int)).f0 - (at_ l (b : Int) (t : Int)).f0)) + wrap64 (wrap64 ((at_ l (a : Int) (t : Int)).f1 - (at_ l (b : Int) (t : Int)).f1) * wrap64 ((at_ l (a : Int) (t : Int)).f1 - (at_ l (b : Int) (t : Int)).f1))) = dst l (t : Int) (a, b) := by
      unfold dst d2
      have m1 := mul_bd ((at_ l (a : Int) (t : Int)).f0 - (at_ l (b : Int) (t : Int)).f0) ((at_ l (a : Int) (t : Int)).f0 - (at_ l (b : Int) (t : Int)).f0) 65536 65536 (by omega) (by omega)
      have m2 := mul_bd ((at_ l (a : Int) (t : Int)).f1 - (at_ l (b : Int) (t : Int)).f1) ((at_ l (a : Int) (t : Int)).f1 - (at_ l (b : Int) (t : Int)).f1) 65536 65536 (by omega) (by omega)
      rw [w64 (x := (at_ l (a : Int) (t : Int)).f0 - (at_ l (b : Int) (t : Int)).f0) (by omega) (by omega), w64 (x := (at_ l (a : Int) (t : Int)).f1 - (at_ l (b : Int) (t : Int)).f1) (by omega) (by omega)]
      rw [w64 (x := ((at_ l (a : Int) (t : Int)).f0 - (at_ l (b : Int) (t : Int)).f0) * ((at_ l (a : Int) (t : Int)).f0 - (at_ l (b : Int) (t : Int)).f0)) (by omega) (by omega), w64 (x := ((at_ l (a : Int) (t : Int)).f1 - (at_ l (b : Int) (t : Int)).f1) * ((at_ l (a : Int) (t : Int)).f1 - (at_ l (b : Int) (t : Int)).f1)) (by omega) (by omega), w64 (by omega) (by omega)]
    have hS : wrap64 (wrap64 (rd r (a : Int) + rd r (b : Int)) * wrap64 (rd r (a : Int) + rd r (b : Int))) = (rd r (a : Int) + rd r (b : Int)) * (rd r (a : Int) + rd r (b : Int)) := by
      have m1 := mul_bd (rd r (a : Int) + rd r (b : Int)) (rd r (a : Int) + rd r (b : Int)) 65536 65536 (by omega) (by omega)
      rw [w64 (x := rd r (a : Int) + rd r (b : Int)) (by omega) (by omega), w64 (by omega) (by omega)]
    rw [dancestudiolaw44_CollideApart.l1, hD, hS, w64 (x := (tks l : Int) + 1) (by omega) (by omega), w64 (x := (b : Int) + 1) (by omega) (by omega), show (b : Int) + 1 = ((b + 1 : Nat) : Int) by omega]
    rw [if_pos (by omega), if_pos (by omega), if_pos (by omega), if_pos (by omega), if_pos (by omega), if_pos (by omega), if_pos (by omega), if_pos (by omega), if_pos (by omega), if_pos (by omega), if_pos (by omega), if_pos (by omega), if_neg (Int.not_lt.2 h2), if_neg (Int.not_lt.2 h1)]
    cases f with
    | true =>
      rw [if_pos rfl]
      exact ih (b + 1) k true (by omega) (by omega) (by omega) (.inl rfl)
    | false =>
      rw [if_neg (by decide)]
      refine ih (b + 1) k _ (by omega) (by omega) (by omega) ?_
      rcases hf with h | ⟨p, hp, he⟩ | h
      · cases h
      · rw [sg] at hp
        rcases List.mem_cons.1 hp with rfl | hp
        · exact .inl (beq_iff_eq.2 he)
        · exact .inr (.inl ⟨p, hp, he⟩)
      · exact .inr (.inr h)
theorem ap_l0 (l : List Mv) (r : List Int) (hg : Good l r []) (t : Nat) (ht : t ≤ tks l) (m : Int) (hm : ∀ p ∈ prsN l.length, m ≤ dst l (t : Int) p ∧ (rd r (p.1 : Int) + rd r (p.2 : Int)) * (rd r (p.1 : Int) + rd r (p.2 : Int)) ≤ dst l (t : Int) p) :
    ∀ d a k f, a + d = l.length → 45 + 10 * d < k → (f = true ∨ ∃ p ∈ rws l.length a d, dst l (t : Int) p = m) → dancestudiolaw44_CollideApart.l0 k l r (t : Int) (tks l : Int) m f (a : Int) = some true := by
  have := hg.len
  intro d
  induction d with
  | zero =>
    intro a k f hb hk hf
    obtain ⟨k, rfl⟩ : ∃ m, k = m + 1 := ⟨k - 1, by omega⟩
    have : f = true := by
      rcases hf with h | ⟨p, hp, _⟩
      · exact h
      · cases hp
    subst this
    rw [dancestudiolaw44_CollideApart.l0, if_neg (by omega), if_pos rfl, awake_f k (by omega)]
    rfl
  | succ d ih =>
    intro a k f hb hk hf
    obtain ⟨k, rfl⟩ : ∃ m, k = m + 1 := ⟨k - 1, by omega⟩
    rw [dancestudiolaw44_CollideApart.l0, if_pos (by omega), w64 (by omega) (by omega), show (a : Int) + 1 = ((a + 1 : Nat) : Int) by omega]
    refine ap_l1 l r hg t ht m hm a (by omega) (45 + 10 * d + 1) (∃ p ∈ rws l.length (a + 1) d, dst l (t : Int) p = m) (fun k' f' hk' hf' => ih (a + 1) k' f' (by omega) (by omega) hf') (l.length - (a + 1)) (a + 1) k f (Nat.le_refl _) (by omega) (by omega) ?_
    rcases hf with h | ⟨p, hp, he⟩
    · exact .inl h
    · rw [rws] at hp
      rcases List.mem_append.1 hp with hp | hp
      · exact .inr (.inl ⟨p, hp, he⟩)
      · exact .inr (.inr ⟨p, hp, he⟩)
end Go.Proofs.Yteflngoiebgdaaa.Cl
namespace Go.Proofs.Yteflngoiebgdaaa.Pure
open Go.RowKit Go.Proofs.YteflngoiebgdaaaW.PrintWords Go.Proofs.Yteflngoiebgdaaa.X Go.Proofs.Yteflngoiebgdaaa.Cl
set_option linter.unusedVariables false
set_option linter.unusedSimpArgs false
theorem CollideApart (l : List Mv) (r : List Int) (t : Int) : ∃ k, X.dancestudiolaw44_CollideApart.f k l r t = some true := by
  refine ⟨20000, ?_⟩
  generalize hk : 20000 = k
  obtain ⟨k, rfl⟩ : ∃ m, k = m + 2 := ⟨k - 2, by omega⟩
  have ht : dancestudiolaw44_CollideApart.j0 (k + 2) l r t true = some true := by rw [dancestudiolaw44_CollideApart.j0, if_pos rfl, awake_f _ (by omega)]; rfl
  have ht1 : dancestudiolaw44_CollideApart.j1 (k + 1) l r t (tks l : Int) true = some true := by rw [dancestudiolaw44_CollideApart.j1, if_pos rfl, awake_f _ (by omega)]; rfl
  unfold dancestudiolaw44_CollideApart.f
  rw [light_f _ l [] (by omega), Option.bind_some]
  by_cases hL : light l ([] : List Ct).length = true
  · obtain ⟨_, _, hc, hm⟩ := light_ok hL
    rw [if_pos hL, c_f _ l r [] hc hm (by omega), Option.bind_some]
    by_cases h0 : cchk l r [] = 0
    · have hg := good_of hL h0
      have hl := hg.len
      have hC := c_f (k + 1) l r [] hc hm (by omega)
      have hC2 := c_f k l r [] hc hm (by omega)
      rw [h0] at hC hC2
      rw [if_pos h0]
      by_cases h2 : (l.length : Int) < 2
      · rw [decide_eq_true h2]
        exact ht
      · rw [decide_eq_false h2, dancestudiolaw44_CollideApart.j0, if_neg (by decide), first_f (k + 1) l r [] hC hg (by omega), Option.bind_some]
        dsimp only
        rw [if_pos rfl, if_pos (by omega), show (((rd_T43 l 0).f1).length : Int) = (tks l : Int) from rfl]
        by_cases hf : (fst l r [] (tks l) 0).1 = -1
        · rw [if_pos hf]
          by_cases h3 : t < 0
          · rw [if_pos h3]
            exact ht1
          · rw [if_neg h3]
            by_cases h4 : t > (tks l : Int)
            · rw [decide_eq_true h4]
              exact ht1
            · rw [decide_eq_false h4, dancestudiolaw44_CollideApart.j1, if_neg (by decide), room_f k l r [] t hC2 hg (by omega), if_neg (by omega), if_neg h3, if_neg (by omega), Option.bind_some]
              dsimp only
              rw [if_pos rfl, show (0 : Int) = ((0 : Nat) : Int) from rfl]
              obtain ⟨n, rfl⟩ := Int.eq_ofNat_of_zero_le (Int.not_lt.1 h3)
              have hn1 : 1 ≤ tks l := by
                have h5 := (hg.mov 0 (by omega)).2.1
                have hw : Fl.chk (l.getD 0 zM).f0 (l.getD 0 zM).f1 = 0 := by
                  unfold cchk at h0
                  rw [if_neg (by omega), if_pos hg.rad] at h0
                  by_cases hw : cw l r = 0
                  · exact (cw_ok l r hg.rad hw 0 (by omega)).1
                  · rw [if_neg hw] at h0; exact absurd h0 hw
                obtain ⟨h6, _⟩ := Fl.chk_ok hw
                unfold rd_T43 at h5
                rw [Int.toNat_natCast] at h5
                have h7 : (l.getD 0 zM).f1.length = tks l := h5
                omega
              have hno : ∀ s, s < tks l → ∀ p ∈ prsN l.length, mt l r [] s p = false := by
                rcases fst_cases l r [] (tks l) 0 with ⟨_, e2⟩ | ⟨t0, p0, P1, P2, e1, e2, e3, _⟩
                · exact fun s hs p hp => e2 s (Nat.zero_le _) (by omega) p hp
                · rw [e3] at hf
                  simp only at hf
                  omega
              obtain ⟨r1, r2⟩ := room_min l (n : Int) (by omega)
              refine ap_l0 l r hg n (by omega) (room l (n : Int)) (fun p hp => ⟨r1 p hp, ?_⟩) l.length 0 k false (by omega) (by omega) (.inr (by rw [← prs_rws]; exact r2))
              have hpm := collide_pairs.prs_mem hp
              by_cases h7 : n < tks l
              · exact (mt_no hg h7 (by omega) (by omega) (hno n h7 p hp)).1
              · have h8 := (mt_no hg (t := n - 1) (by omega) (p := p) (by omega) (by omega) (hno (n - 1) (by omega) p hp)).2
                rw [show ((n - 1 : Nat) : Int) + 1 = (n : Int) by omega] at h8
                exact h8
        · rw [if_neg hf]
          exact ht1
    · rw [if_neg h0]
      exact ht
  · rw [if_neg hL]
    exact ht
end Go.Proofs.Yteflngoiebgdaaa.Pure
