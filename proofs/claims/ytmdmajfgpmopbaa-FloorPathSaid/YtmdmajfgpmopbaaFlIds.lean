/- The kept ticks of a path: their order, their ends, and what lies between. -/
import Derived.Test.YtmdmajfgpmopbaaFlWay
namespace Go.Proofs.Ytmdmajfgpmopbaa.Fl
open Go.RowKit Go.Proofs.YtmdmajfgpmopbaaW.PrintWords Go.Proofs.Ytmdmajfgpmopbaa.X
set_option linter.unusedVariables false
set_option linter.unusedSimpArgs false
abbrev tk (P : List Sp) (n : Nat) : List Nat := ids P n 0 (n + 1)
def at' (L : List Nat) (i : Nat) : Nat := L.getD i 0
theorem at_eq {L : List Nat} {i : Nat} (h : i < L.length) : at' L i = L[i] := by
  unfold at'
  rw [List.getD_eq_getElem?_getD, List.getElem?_eq_getElem h]
  rfl
theorem rd_ts {L : List Nat} {i : Nat} (h : i < L.length) : rd (L.map (fun (j : Nat) => (j : Int))) (i : Int) = ((at' L i : Nat) : Int) := by
  unfold rd at'
  rw [Int.toNat_natCast, List.getD_eq_getElem?_getD, List.getD_eq_getElem?_getD, List.getElem?_map, List.getElem?_eq_getElem h]
  rfl
theorem rd_pts {P : List Sp} {L : List Nat} {i : Nat} (h : i < L.length) : rd_T35 (L.map (pt P)) (i : Int) = pt P (at' L i) := by
  unfold rd_T35 at'
  rw [Int.toNat_natCast, List.getD_eq_getElem?_getD, List.getD_eq_getElem?_getD, List.getElem?_map, List.getElem?_eq_getElem h]
  rfl
theorem tk_mem {P : List Sp} {n c : Nat} : c ∈ tk P n ↔ c ≤ n ∧ keep P n c = true := by
  unfold tk ids
  rw [List.mem_filter, List.mem_range']
  constructor
  · rintro ⟨⟨i, h1, h2⟩, h⟩
    exact ⟨by omega, h⟩
  · rintro ⟨h1, h⟩
    exact ⟨⟨c, by omega, by omega⟩, h⟩
theorem tk_lt {P : List Sp} {n i j : Nat} (h : i < j) (hj : j < (tk P n).length) : at' (tk P n) i < at' (tk P n) j := by
  rw [at_eq (by omega), at_eq hj]
  have hp : List.Pairwise (fun a b : Nat => a < b) (tk P n) := List.Pairwise.filter _ (List.pairwise_lt_range' 1)
  exact List.pairwise_iff_getElem.1 hp i j (by omega) hj h
theorem tk_le {P : List Sp} {n i j : Nat} (h : i ≤ j) (hj : j < (tk P n).length) : at' (tk P n) i ≤ at' (tk P n) j := by
  rcases Nat.lt_or_eq_of_le h with h | h
  · exact Nat.le_of_lt (tk_lt h hj)
  · subst h; exact Nat.le_refl _
theorem tk_at {P : List Sp} {n i : Nat} (h : i < (tk P n).length) : at' (tk P n) i ≤ n ∧ keep P n (at' (tk P n) i) = true := by
  rw [at_eq h]
  exact tk_mem.1 (List.getElem_mem h)
theorem tk_idx {P : List Sp} {n c : Nat} (h1 : c ≤ n) (h : keep P n c = true) : ∃ q, q < (tk P n).length ∧ at' (tk P n) q = c := by
  obtain ⟨q, hq, e⟩ := List.mem_iff_getElem.1 (tk_mem.2 ⟨h1, h⟩)
  exact ⟨q, hq, by rw [at_eq hq, e]⟩
theorem tk_ends {P : List Sp} {n : Nat} (hn : 1 ≤ n) : 2 ≤ (tk P n).length ∧ at' (tk P n) 0 = 0 ∧ at' (tk P n) ((tk P n).length - 1) = n := by
  obtain ⟨p, hp, ep⟩ := tk_idx (P := P) (n := n) (c := 0) (by omega) (keep_end _ _ _ (Or.inl rfl))
  obtain ⟨q, hq, eq⟩ := tk_idx (P := P) (n := n) (c := n) (by omega) (keep_end _ _ _ (Or.inr rfl))
  have hpq : p ≠ q := by intro h; subst h; omega
  have h0 := tk_le (P := P) (n := n) (show 0 ≤ p by omega) hp
  have h1 := tk_le (P := P) (n := n) (show q ≤ (tk P n).length - 1 by omega) (by omega)
  have h2 := (tk_at (P := P) (n := n) (i := (tk P n).length - 1) (by omega)).1
  exact ⟨by omega, by omega, by omega⟩
theorem tk_gap {P : List Sp} {n i c : Nat} (hi : i + 1 < (tk P n).length) (h1 : at' (tk P n) i < c) (h2 : c < at' (tk P n) (i + 1)) : keep P n c = false := by
  apply Bool.eq_false_iff.2
  intro h
  obtain ⟨q, hq, e⟩ := tk_idx (P := P) (n := n) (c := c) (by have := (tk_at hi).1; omega) h
  rcases Nat.lt_or_ge i q with hh | hh
  · have := tk_le (P := P) (n := n) (show i + 1 ≤ q by omega) hq
    omega
  · have := tk_le (P := P) (n := n) hh (by omega)
    omega
/-- Between two ticks of which nothing is kept the steps are equal. -/
theorem run {P : List Sp} {U : List Int} (hc : chk P U = 0) {a b : Nat} (hb : b ≤ U.length) (hk : ∀ c, a < c → c < b → keep P U.length c = false) : ∀ d, a + d ≤ b →
    (ps P (a + d)).f0.f0 = (ps P a).f0.f0 + (d : Int) * sx P a ∧ (ps P (a + d)).f0.f1 = (ps P a).f0.f1 + (d : Int) * sy P a ∧ (a + d < b → sx P (a + d) = sx P a ∧ sy P (a + d) = sy P a) := by
  obtain ⟨c1, c2, c3, _, _⟩ := chk_ok hc
  intro d
  induction d with
  | zero =>
    intro _
    refine ⟨by simp, by simp, fun _ => ⟨rfl, rfl⟩⟩
  | succ d ih =>
    intro hd
    obtain ⟨i1, i2, i3⟩ := ih (by omega)
    obtain ⟨j1, j2⟩ := i3 (by omega)
    have e1 := (sx_eq hc (show a + d + 1 < P.length by omega)).1
    have e2 := (sy_eq hc (show a + d + 1 < P.length by omega)).1
    have m1 : ((d + 1 : Nat) : Int) * sx P a = (d : Int) * sx P a + sx P a := by rw [show ((d + 1 : Nat) : Int) = (d : Int) + 1 by omega, Int.add_mul, Int.one_mul]
    have m2 : ((d + 1 : Nat) : Int) * sy P a = (d : Int) * sy P a + sy P a := by rw [show ((d + 1 : Nat) : Int) = (d : Int) + 1 by omega, Int.add_mul, Int.one_mul]
    rw [show a + (d + 1) = a + d + 1 by omega, m1, m2]
    generalize (d : Int) * sx P a = ma at *
    generalize (d : Int) * sy P a = mb at *
    refine ⟨by omega, by omega, fun hlt => ?_⟩
    have hf := hk (a + d + 1) (by omega) (by omega)
    rw [keep_mid _ _ _ (by omega) (by omega), show a + d + 1 - 1 = a + d by omega] at hf
    simp only [Bool.not_eq_false', Bool.and_eq_true, beq_iff_eq] at hf
    exact ⟨by rw [← hf.1, j1], by rw [← hf.2, j2]⟩
end Go.Proofs.Ytmdmajfgpmopbaa.Fl
