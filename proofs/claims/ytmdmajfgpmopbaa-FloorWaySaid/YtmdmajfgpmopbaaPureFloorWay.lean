/- The law FloorWay over numbers and lists. -/
import Derived.Test.YtmdmajfgpmopbaaX4
import Derived.Test.YtmdmajfgpmopbaaFlRev
import Derived.Test.YtmdmajfgpmopbaaX74
namespace Go.Proofs.Ytmdmajfgpmopbaa.Pure
open Go.RowKit Go.Proofs.YtmdmajfgpmopbaaW.PrintWords Go.Proofs.Ytmdmajfgpmopbaa.X Go.Proofs.Ytmdmajfgpmopbaa.Fl
set_option linter.unusedVariables false
set_option linter.unusedSimpArgs false
theorem great_f (P : List Sp) (U : List Int) : dancestudiolaw43_great.f P U = some (decide (200 < P.length ∨ 200 < U.length)) := by
  unfold dancestudiolaw43_great.f
  by_cases h : 200 < P.length
  · rw [if_pos (by omega), decide_eq_true (Or.inl h)]
  · rw [if_neg (by omega)]
    congr 1
    rw [decide_eq_decide]
    omega
def st (P : List Sp) (j : Nat) : Int := ab (sx P j) + ab (sy P j)
theorem st_bd {P : List Sp} {U : List Int} (h : chk P U = 0) {j : Nat} (hj : j + 1 < P.length) : 0 ≤ st P j ∧ st P j ≤ 131072 ∧ 0 ≤ ab (sx P j) ∧ 0 ≤ ab (sy P j) ∧ mx (sx P j) (wrap64 (-(sx P j))) = ab (sx P j) ∧ mx (sy P j) (wrap64 (-(sy P j))) = ab (sy P j) := by
  obtain ⟨e1, e2, e3⟩ := sx_eq h hj
  obtain ⟨f1, f2, f3⟩ := sy_eq h hj
  rw [w64 (x := -(sx P j)) (by omega) (by omega), w64 (x := -(sy P j)) (by omega) (by omega)]
  unfold st ab mx
  split <;> split <;> omega
theorem lw_l0 (P : List Sp) (U : List Int) (h : chk P U = 0) (hU : U.length ≤ 200) (n : Int) (hn0 : 0 ≤ n) (hn1 : n ≤ 1000000000)
    (hfar : (ps P U.length).f0.f0 - (ps P 0).f0.f0 = sm (sx P) 0 U.length ∧ (ps P U.length).f0.f1 - (ps P 0).f0.f1 = sm (sy P) 0 U.length)
    (hd : sm (sx P) 0 U.length * sm (sx P) 0 U.length + sm (sy P) 0 U.length * sm (sy P) 0 U.length ≤ (n + (U.length : Int)) * (n + (U.length : Int))) :
    ∀ (m i k : Nat) (s : Int), i + m = U.length → m + 60 < k → 0 ≤ s → s + (m : Int) * 131072 ≤ 1000000000 → n ≤ s + sm (st P) i m →
    dancestudiolaw43_FloorWay.l0 k n s ((i + 1 : Nat) : Int) P U = some true := by
  obtain ⟨c1, c2, c3, _, _⟩ := chk_ok h
  intro m
  induction m with
  | zero =>
    intro i k s hi hk hs0 hs1 hle
    obtain ⟨k, rfl⟩ : ∃ m, k = m + 1 := ⟨k - 1, by omega⟩
    obtain ⟨p1, p2, p3, p4⟩ := ps_on h (show 0 < P.length by omega)
    obtain ⟨q1, q2, q3, q4⟩ := ps_on h (show U.length < P.length by omega)
    rw [dancestudiolaw43_FloorWay.l0, if_neg (by omega), if_pos (by omega), w64 (x := (P.length : Int) - 1) (by omega) (by omega), if_pos (by omega), if_pos (by omega), show (P.length : Int) - 1 = (U.length : Int) by omega]
    rw [show (rd_T53 P (U.length : Int)) = ps P U.length from rfl, show (rd_T53 P 0) = ps P 0 from rfl]
    rw [w64 (x := (ps P U.length).f0.f0 - (ps P 0).f0.f0) (by omega) (by omega), w64 (x := (ps P U.length).f0.f1 - (ps P 0).f0.f1) (by omega) (by omega)]
    obtain ⟨g1, g2⟩ := sq_bd (a := (ps P U.length).f0.f0 - (ps P 0).f0.f0) (b := 65536) (by omega) (by omega) (by omega)
    obtain ⟨g3, g4⟩ := sq_bd (a := (ps P U.length).f0.f1 - (ps P 0).f0.f1) (b := 65536) (by omega) (by omega) (by omega)
    rw [hfar.1, hfar.2] at *
    generalize hX : sm (sx P) 0 U.length = X at *
    generalize hY : sm (sy P) 0 U.length = Y at *
    rw [w64 (x := X * X) (by omega) (by omega), w64 (x := Y * Y) (by omega) (by omega), w64 (x := X * X + Y * Y) (by omega) (by omega), root_f k (by omega) _ (by omega) (by omega), Option.bind_some, if_pos rfl]
    have hr := rt_is (X * X + Y * Y) (by omega) (by omega)
    have hlt : rt (X * X + Y * Y) < n + (U.length : Int) + 1 := by
      apply sq_lt_of (by omega)
      have := hr.2.1
      have e : (n + (U.length : Int) + 1) * (n + (U.length : Int) + 1) = (n + (U.length : Int)) * (n + (U.length : Int)) + 2 * (n + (U.length : Int)) + 1 := by grind
      omega
    rw [if_pos (by simpa [sm] using hle), w64 (x := n + (U.length : Int)) (by omega) (by omega), if_pos (show n + (U.length : Int) ≥ (rt (X * X + Y * Y), (0 : Int)).1 by show rt _ ≤ _; omega)]
    rfl
  | succ m ih =>
    intro i k s hi hk hs0 hs1 hle
    obtain ⟨k, rfl⟩ : ∃ m, k = m + 1 := ⟨k - 1, by omega⟩
    obtain ⟨b1, b2, b3, b4, b5, b6⟩ := st_bd h (show i + 1 < P.length by omega)
    rw [dancestudiolaw43_FloorWay.l0, if_pos (by omega), if_pos (by omega), w64 (x := ((i + 1 : Nat) : Int) - 1) (by omega) (by omega), if_pos (by omega), if_pos (by omega), w64 (x := ((i + 1 : Nat) : Int) + 1) (by omega) (by omega), show ((i + 1 : Nat) : Int) - 1 = (i : Int) by omega, show ((i + 1 : Nat) : Int) + 1 = ((i + 1 + 1 : Nat) : Int) by omega]
    rw [show wrap64 ((rd_T53 P ((i + 1 : Nat) : Int)).f0.f0 - (rd_T53 P (i : Int)).f0.f0) = sx P i from rfl, show wrap64 ((rd_T53 P ((i + 1 : Nat) : Int)).f0.f1 - (rd_T53 P (i : Int)).f0.f1) = sy P i from rfl, b5, b6]
    unfold st at b1 b2
    have e : ((m + 1 : Nat) : Int) * 131072 = (m : Int) * 131072 + 131072 := by omega
    rw [w64 (x := s + ab (sx P i)) (by omega) (by omega), w64 (by omega) (by omega)]
    rw [sm] at hle
    refine ih (i + 1) k _ (by omega) (by omega) (by omega) (by omega) ?_
    show n ≤ s + ab (sx P i) + ab (sy P i) + sm (st P) (i + 1) m
    have : st P i = ab (sx P i) + ab (sy P i) := rfl
    omega
theorem FloorWay (P : List Sp) (U : List Int) : ∃ k, X.dancestudiolaw43_FloorWay.f k P U = some true := by
  refine ⟨20000, ?_⟩
  generalize hk : 20000 = k
  unfold dancestudiolaw43_FloorWay.f
  rw [great_f, Option.bind_some]
  by_cases hg : 200 < P.length ∨ 200 < U.length
  · rw [decide_eq_true hg, if_pos rfl]
    rfl
  · rw [decide_eq_false hg, if_neg (by simp), fw_f k P U (by omega) (by omega) (by omega), Option.bind_some]
    by_cases h : chk P U = 0
    · obtain ⟨c1, c2, c3, _, _⟩ := chk_ok h
      have hv : revV P U = (P.reverse, U.reverse, 0) := by
        unfold revV
        rw [if_pos h]
      have hl1 : P.reverse.length = P.length := List.length_reverse
      have hl2 : U.reverse.length = U.length := List.length_reverse
      have hb0 : (boxV P U).2.2.2.2 = 0 := by
        unfold boxV
        rw [if_pos h]
      have hw := wayV_eq h (show U.length ≤ 200 by omega)
      rw [rev_f k P U (by omega) (by omega) (by omega), fb_f k P U (by omega) (by omega) (by omega), hv, hw, if_pos rfl, Option.bind_some, fw_f k P.reverse U.reverse (by omega) (by omega) (by omega), fb_f k P.reverse U.reverse (by omega) (by omega) (by omega), wayV_rev h (by omega), boxV_rev h, hw,
        Option.bind_some, Option.bind_some, Option.bind_some, if_pos rfl, if_pos rfl, if_pos hb0, if_pos hb0, if_pos rfl]
      have hb : ∀ z : Int, (!(z == z)) = false := fun z => by simp
      rw [hb, hb, Bool.or_self, if_neg (by simp), hb, hb, Bool.or_self, if_neg (by simp), if_neg (by omega)]
      have hs := sm_bd (fun j => rt (qs P j)) U.length 131072 (fun j hj => (rt_bd h (show j + 1 < P.length by omega)).2) U.length 0 (by omega)
      have ht := tele h U.length 0 (by omega)
      rw [Nat.zero_add] at ht
      have hf := far h U.length 0 (by omega)
      have hm := sm_le (fun j => rt (qs P j)) (st P) U.length (fun j hj => rt_le h (show j + 1 < P.length by omega)) U.length 0 (by omega)
      refine lw_l0 P U h (by omega) _ hs.1 (by omega) ⟨by omega, by omega⟩ hf.1 U.length 0 k 0 (by omega) (by omega) (by omega) (by omega) ?_
      rw [Int.zero_add]
      exact hm
    · have hv : wayV P U = (0, chk P U) := by
        unfold wayV
        rw [if_neg h]
      rw [hv, if_neg h, if_pos rfl]
      rfl
end Go.Proofs.Ytmdmajfgpmopbaa.Pure
