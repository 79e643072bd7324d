/- The way of a movement: the package's and the reference's, as printed, are one. -/
import Derived.Test.YtmdmajfgpmopbaaX17
import Derived.Test.YtmdmajfgpmopbaaFlPath
import Derived.Test.YtmdmajfgpmopbaaFlRoot
namespace Go.Proofs.Ytmdmajfgpmopbaa.Fl
open Go.RowKit Go.Proofs.YtmdmajfgpmopbaaW.PrintWords Go.Proofs.Ytmdmajfgpmopbaa.X
set_option linter.unusedVariables false
set_option linter.unusedSimpArgs false
theorem ps_mem {P : List Sp} {i : Nat} (h : i < P.length) : ps P i ∈ P := by
  unfold ps rd_T53
  rw [Int.toNat_natCast, List.getD_eq_getElem?_getD, List.getElem?_eq_getElem h]
  exact List.getElem_mem h
theorem ps_on {P : List Sp} {U : List Int} (h : chk P U = 0) {i : Nat} (hi : i < P.length) : On (ps P i) := poses_on (chk_ok h).2.2.2.1 _ (ps_mem hi)
theorem sx_eq {P : List Sp} {U : List Int} (h : chk P U = 0) {i : Nat} (hi : i + 1 < P.length) : sx P i = (ps P (i + 1)).f0.f0 - (ps P i).f0.f0 ∧ -65536 ≤ sx P i ∧ sx P i ≤ 65536 := by
  obtain ⟨a1, a2, a3, a4⟩ := ps_on h (show i < P.length by omega)
  obtain ⟨b1, b2, b3, b4⟩ := ps_on h hi
  unfold sx
  rw [w64 (by omega) (by omega)]
  omega
theorem sy_eq {P : List Sp} {U : List Int} (h : chk P U = 0) {i : Nat} (hi : i + 1 < P.length) : sy P i = (ps P (i + 1)).f0.f1 - (ps P i).f0.f1 ∧ -65536 ≤ sy P i ∧ sy P i ≤ 65536 := by
  obtain ⟨a1, a2, a3, a4⟩ := ps_on h (show i < P.length by omega)
  obtain ⟨b1, b2, b3, b4⟩ := ps_on h hi
  unfold sy
  rw [w64 (by omega) (by omega)]
  omega
theorem sq_bd {a b : Int} (hb : 0 ≤ b) (h1 : -b ≤ a) (h2 : a ≤ b) : 0 ≤ a * a ∧ a * a ≤ b * b := by
  by_cases h : 0 ≤ a
  · exact ⟨Int.mul_nonneg h h, sq_le h h2⟩
  · rw [show a * a = -a * -a by rw [Int.neg_mul_neg]]
    exact ⟨Int.mul_nonneg (by omega) (by omega), sq_le (by omega) (by omega)⟩
/-- The square of a step's length. -/
def qs (P : List Sp) (i : Nat) : Int := sx P i * sx P i + sy P i * sy P i
theorem qs_bd {P : List Sp} {U : List Int} (h : chk P U = 0) {i : Nat} (hi : i + 1 < P.length) : 0 ≤ sx P i * sx P i ∧ sx P i * sx P i ≤ 4294967296 ∧ 0 ≤ sy P i * sy P i ∧ sy P i * sy P i ≤ 4294967296 := by
  have h1 := sq_bd (b := 65536) (by omega) (sx_eq h hi).2.1 (sx_eq h hi).2.2
  have h2 := sq_bd (b := 65536) (by omega) (sy_eq h hi).2.1 (sy_eq h hi).2.2
  omega
/-- The way's sum from a tick on. -/
def wy (P : List Sp) : Nat → Nat → Int → Int
  | 0, _, s => s
  | m + 1, i, s => wy P m (i + 1) (wrap64 (s + rt (qs P i)))
theorem fw_l0 (P : List Sp) (U : List Int) (h : chk P U = 0) : ∀ (m i k : Nat) (s : Int), i + m = U.length → m + 50 < k →
    floor_Way.l0 k s (U.length : Int) (i : Int) P U = some (wy P m i s, 0) := by
  obtain ⟨c1, c2, c3, _, _⟩ := chk_ok h
  intro m
  induction m with
  | zero =>
    intro i k s hi hk
    obtain ⟨k, rfl⟩ : ∃ m, k = m + 1 := ⟨k - 1, by omega⟩
    rw [floor_Way.l0, if_neg (by omega)]
    rfl
  | succ m ih =>
    intro i k s hi hk
    obtain ⟨k, rfl⟩ : ∃ m, k = m + 1 := ⟨k - 1, by omega⟩
    obtain ⟨q1, q2, q3, q4⟩ := qs_bd h (show i + 1 < P.length by omega)
    rw [floor_Way.l0, if_pos (by omega), step_f P U i (by omega) (by omega), Option.bind_some, w64 (x := sx P i * sx P i) (by omega) (by omega), w64 (x := sy P i * sy P i) (by omega) (by omega), w64 (x := sx P i * sx P i + sy P i * sy P i) (by omega) (by omega), root_f k (by omega) _ (by omega) (by omega), Option.bind_some, w64 (x := (i : Int) + 1) (by omega) (by omega), show (i : Int) + 1 = ((i + 1 : Nat) : Int) by omega]
    exact ih (i + 1) k _ (by omega) (by omega)
/-- The way's answer. -/
def wayV (P : List Sp) (U : List Int) : Int × Int := if chk P U = 0 then (wy P U.length 0 0, 0) else (0, chk P U)
theorem fw_f (k : Nat) (P : List Sp) (U : List Int) (hP : P.length ≤ 200) (hU : U.length ≤ 200) (hk : 17000 ≤ k) : floor_Way.f k P U = some (wayV P U) := by
  unfold floor_Way.f wayV
  rw [m_f k P U (by omega) (by omega) (by omega), Option.bind_some]
  by_cases h : chk P U = 0
  · rw [if_pos h, if_pos h]
    exact fw_l0 P U h U.length 0 k 0 (by omega) (by omega)
  · rw [if_neg h, if_neg h]
end Go.Proofs.Ytmdmajfgpmopbaa.Fl
