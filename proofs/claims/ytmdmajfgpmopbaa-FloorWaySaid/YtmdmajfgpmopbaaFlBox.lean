/- The box of a movement: the package's and the reference's, as printed, are one. -/
import Derived.Test.YtmdmajfgpmopbaaX15
import Derived.Test.YtmdmajfgpmopbaaFlChk
namespace Go.Proofs.Ytmdmajfgpmopbaa.Fl
open Go.RowKit Go.Proofs.YtmdmajfgpmopbaaW.PrintWords Go.Proofs.Ytmdmajfgpmopbaa.X
set_option linter.unusedVariables false
set_option linter.unusedSimpArgs false
/-- The box of what follows, from a box on. -/
def box : List Sp → Int → Int → Int → Int → Int × Int × Int × Int
  | [], a, b, c, d => (a, b, c, d)
  | p :: l, a, b, c, d => box l (mn a p.f0.f0) (mn b p.f0.f1) (mx c p.f0.f0) (mx d p.f0.f1)
theorem fb_l0 (P : List Sp) (hP : P.length ≤ 8193) : ∀ (s : List Sp) (i k : Nat) (a b c d : Int), P.drop i = s → s.length < k →
    floor_Box.l0 k P (P.length : Int) (i : Int) a b c d = some ((box s a b c d).1, (box s a b c d).2.1, (box s a b c d).2.2.1, (box s a b c d).2.2.2, 0) := by
  intro s
  induction s with
  | nil =>
    intro i k a b c d hd hk
    obtain ⟨k, rfl⟩ : ∃ m, k = m + 1 := ⟨k - 1, by omega⟩
    have hi : P.length ≤ i := List.drop_eq_nil_iff.1 hd
    rw [floor_Box.l0, if_neg (by omega)]
    rfl
  | cons x s ih =>
    intro i k a b c d hd hk
    simp only [List.length_cons] at hk
    obtain ⟨k, rfl⟩ : ∃ m, k = m + 1 := ⟨k - 1, by omega⟩
    obtain ⟨hx, hi, hn⟩ := rdP hd
    rw [floor_Box.l0, if_pos (by omega), if_pos (by omega), if_pos (by omega), hx, w64 (by omega) (by omega), show (i : Int) + 1 = ((i + 1 : Nat) : Int) by omega, ih (i + 1) k _ _ _ _ hn (by omega), box]
/-- The box's answer. -/
def boxV (P : List Sp) (U : List Int) : Int × Int × Int × Int × Int :=
  if chk P U = 0 then
    let z := rd_T53 P 0
    let r := box P z.f0.f0 z.f0.f1 z.f0.f0 z.f0.f1
    (r.1, r.2.1, r.2.2.1, r.2.2.2, 0)
  else (0, 0, 0, 0, chk P U)
theorem fb_f (k : Nat) (P : List Sp) (U : List Int) (hP : P.length ≤ 200) (hU : U.length ≤ 200) (hk : 17000 ≤ k) : floor_Box.f k P U = some (boxV P U) := by
  unfold floor_Box.f boxV
  rw [m_f k P U (by omega) (by omega) (by omega), Option.bind_some]
  by_cases h : chk P U = 0
  · rw [if_pos h, if_pos h]
    obtain ⟨h1, h2, h3, _, _⟩ := chk_ok h
    rw [if_pos (by omega), show (floor_Box.l0 k P (P.length : Int) 0 _ _ _ _) = floor_Box.l0 k P (P.length : Int) ((0 : Nat) : Int) _ _ _ _ from rfl, fb_l0 P (by omega) P 0 k _ _ _ _ (by simp) (by omega)]
  · rw [if_neg h, if_neg h]
end Go.Proofs.Ytmdmajfgpmopbaa.Fl
