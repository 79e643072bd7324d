/- The path of a movement: the package's and the reference's, as printed, are one. -/
import Derived.Test.YtmdmajfgpmopbaaX14
import Derived.Test.YtmdmajfgpmopbaaX13
import Derived.Test.YtmdmajfgpmopbaaX12
import Derived.Test.YtmdmajfgpmopbaaX11
import Derived.Test.YtmdmajfgpmopbaaFlChk
namespace Go.Proofs.Ytmdmajfgpmopbaa.Fl
open Go.RowKit Go.Proofs.YtmdmajfgpmopbaaW.PrintWords Go.Proofs.Ytmdmajfgpmopbaa.X
set_option linter.unusedVariables false
set_option linter.unusedSimpArgs false
theorem nt {b : Bool} (h : ¬ b = true) : (!b) = true := by cases b <;> simp_all
abbrev Pt := S35
/-- The pose at a tick. -/
def ps (P : List Sp) (i : Nat) : Sp := rd_T53 P (i : Int)
def pt (P : List Sp) (i : Nat) : Pt := ⟨(ps P i).f0.f0, (ps P i).f0.f1⟩
/-- The step from a tick to the next one. -/
def sx (P : List Sp) (i : Nat) : Int := wrap64 ((ps P (i + 1)).f0.f0 - (ps P i).f0.f0)
def sy (P : List Sp) (i : Nat) : Int := wrap64 ((ps P (i + 1)).f0.f1 - (ps P i).f0.f1)
theorem step_f (P : List Sp) (U : List Int) (i : Nat) (h : i + 1 < P.length) (hP : P.length ≤ 8193) : floor_step.f P U (i : Int) = some (sx P i, sy P i) := by
  unfold floor_step.f sx sy ps
  rw [w64 (x := (i : Int) + 1) (by omega) (by omega), if_pos (by omega), if_pos (by omega), if_pos (by omega), if_pos (by omega), show (i : Int) + 1 = ((i + 1 : Nat) : Int) by omega]
/-- Is a tick kept. -/
def keep (P : List Sp) (n i : Nat) : Bool := decide (i = 0) || decide (i = n) || !(sx P (i - 1) == sx P i && sy P (i - 1) == sy P i)
def ids (P : List Sp) (n i m : Nat) : List Nat := (List.range' i m).filter (keep P n)
theorem ids_zero (P : List Sp) (n i : Nat) : ids P n i 0 = [] := rfl
theorem ids_succ (P : List Sp) (n i m : Nat) : ids P n i (m + 1) = if keep P n i = true then i :: ids P n (i + 1) m else ids P n (i + 1) m := by
  unfold ids
  rw [List.range'_succ, List.filter_cons]
theorem keep_end (P : List Sp) (n i : Nat) (h : i = 0 ∨ i = n) : keep P n i = true := by
  unfold keep
  rcases h with h | h
  · rw [decide_eq_true h]; rfl
  · rw [decide_eq_true h, Bool.or_true]; rfl
theorem keep_mid (P : List Sp) (n i : Nat) (h : 0 < i) (h2 : i ≠ n) : keep P n i = !(sx P (i - 1) == sx P i && sy P (i - 1) == sy P i) := by
  unfold keep
  rw [decide_eq_false (by omega), decide_eq_false h2]
  rfl
theorem fp_l0 (P : List Sp) (U : List Int) (hl : P.length = U.length + 1) (hU : U.length ≤ 8192) : ∀ (m i k : Nat) (A : List Pt) (B : List Int), i + m = P.length → m < k → A.length ≤ i → B.length ≤ i →
    floor_Path.l0 k A B P (P.length : Int) (i : Int) P U = some (A ++ (ids P U.length i m).map (pt P), B ++ (ids P U.length i m).map (fun (j : Nat) => (j : Int)), 0) := by
  intro m
  induction m with
  | zero =>
    intro i k A B hi hk hA hB
    obtain ⟨k, rfl⟩ : ∃ m, k = m + 1 := ⟨k - 1, by omega⟩
    rw [floor_Path.l0, if_neg (by omega), ids_zero, List.map_nil, List.map_nil, List.append_nil, List.append_nil]
  | succ m ih =>
    intro i k A B hi hk hA hB
    obtain ⟨k, rfl⟩ : ∃ m, k = m + 1 := ⟨k - 1, by omega⟩
    have next : keep P U.length i = true → floor_Path.l0 k (A ++ [(⟨(rd_T53 P (i : Int)).f0.f0, (rd_T53 P (i : Int)).f0.f1⟩ : Pt)]) (B ++ [(i : Int)]) P (P.length : Int) (((i + 1 : Nat) : Int)) P U
        = some (A ++ (ids P U.length i (m + 1)).map (pt P), B ++ (ids P U.length i (m + 1)).map (fun (j : Nat) => (j : Int)), 0) := by
      intro hkeep
      rw [ih (i + 1) k _ _ (by omega) (by omega) (by simp; omega) (by simp; omega), ids_succ, if_pos hkeep, List.map_cons, List.map_cons, List.append_assoc, List.append_assoc]
      rfl
    rw [floor_Path.l0, if_pos (by omega), if_pos (by omega), if_pos (by omega), w64 (x := (i : Int) + 1) (by omega) (by omega), show (i : Int) + 1 = ((i + 1 : Nat) : Int) by omega]
    by_cases h0 : i = 0
    · rw [if_neg (by omega), if_pos (by omega), if_pos (by omega)]
      exact next (keep_end _ _ _ (Or.inl h0))
    · rw [if_pos (by omega)]
      by_cases h1 : i < U.length
      · rw [if_pos (by omega), w64 (x := (i : Int) - 1) (by omega) (by omega), show (i : Int) - 1 = ((i - 1 : Nat) : Int) by omega, step_f P U (i - 1) (by omega) (by omega), step_f P U i (by omega) (by omega), Option.bind_some, Option.bind_some]
        by_cases hs : (sx P (i - 1) == sx P i && (sy P (i - 1) == sy P i)) = true
        · rw [if_pos hs, ih (i + 1) k _ _ (by omega) (by omega) (by omega) (by omega), ids_succ, if_neg (by rw [keep_mid _ _ _ (by omega) (by omega), hs]; simp)]
        · rw [if_neg hs, if_pos (by omega), if_pos (by omega)]
          exact next (by rw [keep_mid _ _ _ (by omega) (by omega)]; exact nt hs)
      · rw [if_neg (by omega), if_pos (by omega), if_pos (by omega)]
        exact next (keep_end _ _ _ (Or.inr (by omega)))
/-- The path's answer. -/
def pathV (P : List Sp) (U : List Int) : List Pt × List Int × Int :=
  if chk P U = 0 then ((ids P U.length 0 P.length).map (pt P), (ids P U.length 0 P.length).map (fun (j : Nat) => (j : Int)), 0) else ([], [], chk P U)
theorem fp_f (k : Nat) (P : List Sp) (U : List Int) (hP : P.length ≤ 200) (hU : U.length ≤ 200) (hk : 17000 ≤ k) : floor_Path.f k P U = some (pathV P U) := by
  unfold floor_Path.f pathV
  rw [m_f k P U (by omega) (by omega) (by omega), Option.bind_some]
  by_cases h : chk P U = 0
  · rw [if_pos h, if_pos h]
    obtain ⟨h1, h2, h3, _, _⟩ := chk_ok h
    rw [show (floor_Path.l0 k [] [] P (P.length : Int) 0 P U) = floor_Path.l0 k [] [] P (P.length : Int) ((0 : Nat) : Int) P U from rfl, fp_l0 P U h3 h2 P.length 0 k [] [] (by omega) (by omega) (by simp) (by simp)]
    rfl
  · rw [if_neg h, if_neg h]
theorem pathV_len (P : List Sp) (U : List Int) (hP : P.length ≤ 200) : (pathV P U).1.length ≤ 200 ∧ (pathV P U).2.1.length ≤ 200 := by
  have hl : (ids P U.length 0 P.length).length ≤ P.length := by
    unfold ids
    exact Nat.le_trans (List.length_filter_le _ _) (by rw [List.length_range']; exact Nat.le_refl _)
  unfold pathV
  split
  · simp only [List.length_map]; omega
  · simp
/-! ### lists that are equal -/
theorem same_l0 (L : List Pt) (hL : L.length ≤ 1000) : ∀ (m i k : Nat), i + m = L.length → m < k → dancestudioref43_Same.l0 k L L (i : Int) = some true := by
  intro m
  induction m with
  | zero =>
    intro i k hi hk
    obtain ⟨k, rfl⟩ : ∃ m, k = m + 1 := ⟨k - 1, by omega⟩
    rw [dancestudioref43_Same.l0, if_neg (by omega)]
  | succ m ih =>
    intro i k hi hk
    obtain ⟨k, rfl⟩ : ∃ m, k = m + 1 := ⟨k - 1, by omega⟩
    rw [dancestudioref43_Same.l0, if_pos (by omega), if_pos (by omega), if_pos (by omega), beq_self_eq_true, beq_self_eq_true, if_neg (by simp), w64 (by omega) (by omega), show (i : Int) + 1 = ((i + 1 : Nat) : Int) by omega]
    exact ih (i + 1) k (by omega) (by omega)
theorem ints_l0 (L : List Int) (hL : L.length ≤ 1000) : ∀ (m i k : Nat), i + m = L.length → m < k → dancestudioref25_Ints.l0 k L L (i : Int) = some true := by
  intro m
  induction m with
  | zero =>
    intro i k hi hk
    obtain ⟨k, rfl⟩ : ∃ m, k = m + 1 := ⟨k - 1, by omega⟩
    rw [dancestudioref25_Ints.l0, if_neg (by omega)]
  | succ m ih =>
    intro i k hi hk
    obtain ⟨k, rfl⟩ : ∃ m, k = m + 1 := ⟨k - 1, by omega⟩
    rw [dancestudioref25_Ints.l0, if_pos (by omega), if_pos (by omega), if_pos (by omega), if_pos rfl, w64 (by omega) (by omega), show (i : Int) + 1 = ((i + 1 : Nat) : Int) by omega]
    exact ih (i + 1) k (by omega) (by omega)
theorem same_f (k : Nat) (L : List Pt) (hL : L.length ≤ 200) (hk : 300 ≤ k) : dancestudioref43_Same.f k L L = some true := by
  unfold dancestudioref43_Same.f
  rw [if_pos rfl]
  exact same_l0 L (by omega) L.length 0 k (by omega) (by omega)
theorem ints_f (k : Nat) (L : List Int) (hL : L.length ≤ 200) (hk : 300 ≤ k) : dancestudioref25_Ints.f k L L = some true := by
  unfold dancestudioref25_Ints.f
  rw [if_pos rfl]
  exact ints_l0 L (by omega) L.length 0 k (by omega) (by omega)
end Go.Proofs.Ytmdmajfgpmopbaa.Fl
