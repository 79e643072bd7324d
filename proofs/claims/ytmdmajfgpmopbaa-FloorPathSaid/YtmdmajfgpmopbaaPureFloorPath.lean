/- The law FloorPath over numbers and lists. -/
import Derived.Test.YtmdmajfgpmopbaaX4
import Derived.Test.YtmdmajfgpmopbaaFlIds
import Derived.Test.YtmdmajfgpmopbaaX66
namespace Go.Proofs.Ytmdmajfgpmopbaa.Pure
open Go.RowKit Go.Proofs.YtmdmajfgpmopbaaW.PrintWords Go.Proofs.Ytmdmajfgpmopbaa.X Go.Proofs.Ytmdmajfgpmopbaa.Fl
set_option linter.unusedVariables false
set_option linter.unusedSimpArgs false
theorem great_f (P : List Sp) (U : List Int) : dancestudiolaw43_great.f P U = some (decide (200 < P.length ∨ 200 < U.length)) := by
  unfold dancestudiolaw43_great.f
  by_cases h : 200 < P.length
  · rw [if_pos (by omega), decide_eq_true (Or.inl h)]
  · rw [if_neg (by omega)]
    congr 1
    rw [decide_eq_decide]
    omega
theorem fl_l1 (P : List Sp) (U : List Int) (h : chk P U = 0) (hU : U.length ≤ 200) (pts : List Pt) (ts : List Int) (i a b K : Nat) (hi : 1 ≤ i) (hi2 : i < pts.length) (hi3 : pts.length ≤ 300) (hpt : rd_T35 pts ((i - 1 : Nat) : Int) = pt P a)
    (hab : a < b) (hb : b ≤ U.length) (hk : ∀ c, a < c → c < b → keep P U.length c = false) (h5 : 1 < i → 0 < a ∧ keep P U.length a = true)
    (next : ∀ k, K ≤ k → dancestudiolaw43_FloorPath.l0 k pts ts (U.length : Int) ((i + 1 : Nat) : Int) P U = some true) :
    ∀ (m c k : Nat), c + m = b + 1 → a ≤ c → K + m < k → dancestudiolaw43_FloorPath.l1 k pts ts (U.length : Int) (i : Int) (a : Int) (b : Int) (sx P a) (sy P a) (c : Int) P U = some true := by
  obtain ⟨c1, c2, c3, _, _⟩ := chk_ok h
  intro m
  induction m with
  | zero =>
    intro c k hc hac hK
    obtain ⟨k, rfl⟩ : ∃ m, k = m + 1 := ⟨k - 1, by omega⟩
    rw [dancestudiolaw43_FloorPath.l1, if_neg (by omega), w64 (x := (i : Int) + 1) (by omega) (by omega), show (i : Int) + 1 = ((i + 1 : Nat) : Int) by omega, next k (by omega)]
    by_cases h1 : 1 < i
    · obtain ⟨h51, h52⟩ := h5 h1
      rw [if_pos (by omega), if_pos (by omega), if_pos (by omega), w64 (x := (a : Int) - 1) (by omega) (by omega), if_pos (by omega), if_pos (by omega), show (a : Int) - 1 = ((a - 1 : Nat) : Int) by omega]
      have e1 : wrap64 ((rd_T53 P (a : Int)).f0.f0 - (rd_T53 P ((a - 1 : Nat) : Int)).f0.f0) = sx P (a - 1) := by
        unfold sx ps
        rw [show a - 1 + 1 = a by omega]
      have e2 : wrap64 ((rd_T53 P (a : Int)).f0.f1 - (rd_T53 P ((a - 1 : Nat) : Int)).f0.f1) = sy P (a - 1) := by
        unfold sy ps
        rw [show a - 1 + 1 = a by omega]
      rw [e1, e2]
      rw [keep_mid _ _ _ h51 (by omega)] at h52
      by_cases g1 : sx P (a - 1) = sx P a
      · rw [if_pos g1]
        by_cases g2 : sy P (a - 1) = sy P a
        · rw [g1, g2, beq_self_eq_true, beq_self_eq_true] at h52
          cases h52
        · rw [if_neg g2]
      · rw [if_neg g1]
    · rw [if_neg (by omega)]
  | succ m ih =>
    intro c k hc hac hK
    obtain ⟨k, rfl⟩ : ∃ m, k = m + 1 := ⟨k - 1, by omega⟩
    obtain ⟨d, rfl⟩ : ∃ d, c = a + d := ⟨c - a, by omega⟩
    obtain ⟨r1, r2, _⟩ := run h hb hk d (by omega)
    obtain ⟨p1, p2, p3, p4⟩ := ps_on h (show a < P.length by omega)
    obtain ⟨q1, q2, q3, q4⟩ := ps_on h (show a + d < P.length by omega)
    have hx : (rd_T53 P ((a + d : Nat) : Int)).f0.f0 = wrap64 ((pt P a).f0 + wrap64 (wrap64 (((a + d : Nat) : Int) - (a : Int)) * sx P a)) := by
      rw [w64 (x := ((a + d : Nat) : Int) - (a : Int)) (by omega) (by omega), show ((a + d : Nat) : Int) - (a : Int) = (d : Int) by omega]
      change (ps P (a + d)).f0.f0 = wrap64 ((ps P a).f0.f0 + _)
      generalize (d : Int) * sx P a = z at *
      rw [w64 (x := z) (by omega) (by omega), w64 (by omega) (by omega)]
      omega
    have hy : (rd_T53 P ((a + d : Nat) : Int)).f0.f1 = wrap64 ((pt P a).f1 + wrap64 (wrap64 (((a + d : Nat) : Int) - (a : Int)) * sy P a)) := by
      rw [w64 (x := ((a + d : Nat) : Int) - (a : Int)) (by omega) (by omega), show ((a + d : Nat) : Int) - (a : Int) = (d : Int) by omega]
      change (ps P (a + d)).f0.f1 = wrap64 ((ps P a).f0.f1 + _)
      generalize (d : Int) * sy P a = z at *
      rw [w64 (x := z) (by omega) (by omega), w64 (by omega) (by omega)]
      omega
    rw [dancestudiolaw43_FloorPath.l1, if_pos (by omega), if_pos (by omega), if_pos (by omega), w64 (x := (i : Int) - 1) (by omega) (by omega), if_pos (by omega), if_pos (by omega), show (i : Int) - 1 = ((i - 1 : Nat) : Int) by omega, hpt, if_pos hx, if_pos hy, w64 (x := ((a + d : Nat) : Int) + 1) (by omega) (by omega), show ((a + d : Nat) : Int) + 1 = ((a + d + 1 : Nat) : Int) by omega]
    exact ih (a + d + 1) k (by omega) (by omega) (by omega)
theorem fl_l0 (P : List Sp) (U : List Int) (h : chk P U = 0) (hU : U.length ≤ 200) (hlen : (tk P U.length).length ≤ 201) : ∀ (m i k : Nat), i + m = (tk P U.length).length → 300 * m + 10 ≤ k →
    dancestudiolaw43_FloorPath.l0 k ((tk P U.length).map (pt P)) ((tk P U.length).map (fun (j : Nat) => (j : Int))) (U.length : Int) (i : Int) P U = some true := by
  obtain ⟨c1, c2, c3, _, _⟩ := chk_ok h
  intro m
  induction m with
  | zero =>
    intro i k hi hk
    obtain ⟨k, rfl⟩ : ∃ m, k = m + 1 := ⟨k - 1, by omega⟩
    rw [dancestudiolaw43_FloorPath.l0, List.length_map, if_neg (by omega)]
    rfl
  | succ m ih =>
    intro i k hi hk
    obtain ⟨k, rfl⟩ : ∃ m, k = m + 1 := ⟨k - 1, by omega⟩
    obtain ⟨t1, t2⟩ := tk_at (P := P) (n := U.length) (i := i) (by omega)
    have hl1 : ((tk P U.length).map (pt P)).length = (tk P U.length).length := List.length_map _
    have hl2 : ((tk P U.length).map (fun (j : Nat) => (j : Int))).length = (tk P U.length).length := List.length_map _
    rw [dancestudiolaw43_FloorPath.l0, hl1, hl2, rd_ts (by omega), rd_pts (by omega), if_pos (by omega), if_pos (by omega), if_neg (by omega), if_neg (by omega), if_pos (by omega), if_pos (by omega), if_pos (by omega)]
    have hb : ∀ z : Int, (!(z == z)) = false := fun z => by simp
    rw [show (pt P (at' (tk P U.length) i)).f0 = (rd_T53 P ((at' (tk P U.length) i : Nat) : Int)).f0.f0 from rfl, show (pt P (at' (tk P U.length) i)).f1 = (rd_T53 P ((at' (tk P U.length) i : Nat) : Int)).f0.f1 from rfl, hb, hb, Bool.or_self, if_neg (by simp)]
    by_cases h0 : i = 0
    · rw [if_pos (by omega), w64 (x := (i : Int) + 1) (by omega) (by omega), show (i : Int) + 1 = ((i + 1 : Nat) : Int) by omega]
      exact ih (i + 1) k (by omega) (by omega)
    · obtain ⟨i, rfl⟩ : ∃ j, i = j + 1 := ⟨i - 1, by omega⟩
      have hlt := tk_lt (P := P) (n := U.length) (show i < i + 1 by omega) (by omega)
      rw [if_neg (by omega), w64 (x := ((i + 1 : Nat) : Int) - 1) (by omega) (by omega), show ((i + 1 : Nat) : Int) - 1 = (i : Int) by omega, rd_ts (show i < _ by omega), rd_pts (show i < _ by omega)]
      have h5 : 1 < i + 1 → 0 < at' (tk P U.length) i ∧ keep P U.length (at' (tk P U.length) i) = true := by
        intro h1
        have := tk_lt (P := P) (n := U.length) (show 0 < i by omega) (by omega)
        exact ⟨by omega, (tk_at (by omega)).2⟩
      have hg : ∀ c, at' (tk P U.length) i < c → c < at' (tk P U.length) (i + 1) → keep P U.length c = false := fun c => tk_gap (by omega)
      have hr : rd_T35 ((tk P U.length).map (pt P)) ((i + 1 - 1 : Nat) : Int) = pt P (at' (tk P U.length) i) := by
        rw [show i + 1 - 1 = i by omega]
        exact rd_pts (by omega)
      have go := fl_l1 P U h hU _ ((tk P U.length).map (fun (j : Nat) => (j : Int))) (i + 1) _ _ (300 * m + 10) (by omega) (by omega) (by omega) hr hlt t1 hg h5 (fun k hk => ih (i + 1 + 1) k (by omega) (by omega))
        (at' (tk P U.length) (i + 1) + 1 - at' (tk P U.length) i) (at' (tk P U.length) i) k (by omega) (by omega) (by omega)
      generalize at' (tk P U.length) i = a at *
      generalize at' (tk P U.length) (i + 1) = b at *
      rw [if_pos (by omega), if_pos (by omega), if_neg (by omega), w64 (x := (a : Int) + 1) (by omega) (by omega), if_pos (by omega), if_pos (by omega), if_pos (by omega), show (a : Int) + 1 = ((a + 1 : Nat) : Int) by omega]
      exact go
theorem FloorPath (P : List Sp) (U : List Int) : ∃ k, X.dancestudiolaw43_FloorPath.f k P U = some true := by
  refine ⟨80000, ?_⟩
  generalize hk : 80000 = k
  unfold dancestudiolaw43_FloorPath.f
  rw [great_f, Option.bind_some]
  by_cases hg : 200 < P.length ∨ 200 < U.length
  · rw [decide_eq_true hg, if_pos rfl]
    rfl
  · rw [decide_eq_false hg, if_neg (by simp), fp_f k P U (by omega) (by omega) (by omega), Option.bind_some]
    by_cases h : chk P U = 0
    · obtain ⟨c1, c2, c3, _, _⟩ := chk_ok h
      have hv : pathV P U = ((tk P U.length).map (pt P), (tk P U.length).map (fun (j : Nat) => (j : Int)), 0) := by
        unfold pathV
        rw [if_pos h, c3]
      have hlen : (tk P U.length).length ≤ 201 := by
        have : (tk P U.length).length ≤ U.length + 1 := by
          unfold tk ids
          exact Nat.le_trans (List.length_filter_le _ _) (by rw [List.length_range']; exact Nat.le_refl _)
        omega
      obtain ⟨e1, e2, e3⟩ := tk_ends (P := P) (n := U.length) (by omega)
      have hl1 : ((tk P U.length).map (pt P)).length = (tk P U.length).length := List.length_map _
      have hl2 : ((tk P U.length).map (fun (j : Nat) => (j : Int))).length = (tk P U.length).length := List.length_map _
      rw [hv, if_pos rfl, hl1, hl2, if_pos rfl, if_neg (by omega), if_pos (by omega), show (rd ((tk P U.length).map (fun (j : Nat) => (j : Int))) 0) = rd ((tk P U.length).map (fun (j : Nat) => (j : Int))) ((0 : Nat) : Int) from rfl, rd_ts (show 0 < (tk P U.length).length by omega), e2, if_pos (show ((0 : Nat) : Int) = 0 from rfl),
        w64 (x := ((tk P U.length).length : Int) - 1) (by omega) (by omega), if_pos (by omega), if_pos (by omega), show ((tk P U.length).length : Int) - 1 = (((tk P U.length).length - 1 : Nat) : Int) by omega, rd_ts (show (tk P U.length).length - 1 < (tk P U.length).length by omega), e3, if_pos rfl, w64 (x := (U.length : Int) + 1) (by omega) (by omega), show (P.length : Int) = (U.length : Int) + 1 by omega, if_pos rfl]
      exact fl_l0 P U h (by omega) hlen (tk P U.length).length 0 k (by omega) (by omega)
    · have hv : pathV P U = ([], [], chk P U) := by
        unfold pathV
        rw [if_neg h]
      rw [hv, if_neg h, if_pos (by rfl), if_pos (by rfl), m_f k P U (by omega) (by omega) (by omega), Option.bind_some, if_pos rfl]
      rfl
end Go.Proofs.Ytmdmajfgpmopbaa.Pure
