/- The first hit of a movement: the package's and the reference's, as printed, are one. -/
import Derived.Test.YtmdmajfgpmopbaaX33
import Derived.Test.YtmdmajfgpmopbaaX32
import Derived.Test.YtmdmajfgpmopbaaFlWay
import Derived.Test.YtmdmajfgpmopbaaSImpl
namespace Go.Proofs.Ytmdmajfgpmopbaa.Fl
open Go.RowKit Go.Proofs.YtmdmajfgpmopbaaW.PrintWords Go.Proofs.Ytmdmajfgpmopbaa.X Go.Proofs.Ytmdmajfgpmopbaa.Geo Go.Proofs.Ytmdmajfgpmopbaa.GeoImpl
set_option linter.unusedVariables false
set_option linter.unusedSimpArgs false
/-- What a stage says of the step from a tick. -/
def cl (W D : Int) (L : List SImpl.Blk) (P : List Sp) (r : Int) (i : Nat) : Bool × Int × Int :=
  SImpl.clr W D L (ps P i).f0.f0 (ps P i).f0.f1 (ps P (i + 1)).f0.f0 (ps P (i + 1)).f0.f1 r
theorem cl_ok {W D : Int} {L : List SImpl.Blk} (hs : SImpl.chk W D L = 0) {P : List Sp} {U : List Int} (h : chk P U = 0) {r : Int} (h0 : 0 ≤ r) (h1 : r ≤ 32768) {i : Nat} (hi : i + 1 < P.length) : (cl W D L P r i).2.2 = 0 := by
  obtain ⟨a1, a2, a3, a4⟩ := ps_on h (show i < P.length by omega)
  obtain ⟨b1, b2, b3, b4⟩ := ps_on h hi
  unfold cl SImpl.clr
  rw [if_pos hs, if_pos ((mOk_iff _ _ _ _ _).2 ⟨⟨a1, a2, a3, a4⟩, ⟨b1, b2, b3, b4⟩, h0, h1⟩)]
/-- The first hit from a tick on. -/
def fst (W D : Int) (L : List SImpl.Blk) (P : List Sp) (r : Int) : Nat → Nat → Int × Int × Int × Int
  | 0, _ => (-1, 0, 0, 0)
  | m + 1, i => if (cl W D L P r i).1 = true then (if (cl W D L P r i).2.1 ≥ 0 then ((i : Int), 0, (cl W D L P r i).2.1, 0) else fst W D L P r m (i + 1)) else ((i : Int), 0, -1, 0)
theorem push4 {α : Type} {c : Prop} [Decidable c] (o p : Option α) (a b : α) (h : o = some a) (h2 : p = some b) : (if c then o else p) = some (if c then a else b) := by
  split
  · exact h
  · exact h2
theorem ff_l0 (W D : Int) (L : List SImpl.Blk) (hs : SImpl.chk W D L = 0) (P : List Sp) (U : List Int) (h : chk P U = 0) (r : Int) (h0 : 0 ≤ r) (h1 : r ≤ 32768) : ∀ (m i k : Nat), i + m = U.length → m + 90 < k →
    floor_First.l0 k r (U.length : Int) (i : Int) W D L P U = some (fst W D L P r m i) := by
  obtain ⟨c1, c2, c3, _, _⟩ := chk_ok h
  intro m
  induction m with
  | zero =>
    intro i k hi hk
    obtain ⟨k, rfl⟩ : ∃ m, k = m + 1 := ⟨k - 1, by omega⟩
    rw [floor_First.l0, if_neg (by omega)]
    rfl
  | succ m ih =>
    intro i k hi hk
    obtain ⟨k, rfl⟩ : ∃ m, k = m + 1 := ⟨k - 1, by omega⟩
    have hc := cl_ok hs h h0 h1 (show i + 1 < P.length by omega)
    rw [floor_First.l0, if_pos (by omega), if_pos (by omega), if_pos (by omega), w64 (x := (i : Int) + 1) (by omega) (by omega), if_pos (by omega), if_pos (by omega), show (i : Int) + 1 = ((i + 1 : Nat) : Int) by omega]
    have he : stage_Clear.f k W D L (rd_T53 P (i : Int)).f0.f0 (rd_T53 P (i : Int)).f0.f1 (rd_T53 P ((i + 1 : Nat) : Int)).f0.f0 (rd_T53 P ((i + 1 : Nat) : Int)).f0.f1 r = some (cl W D L P r i) := SImpl.clear_f k W D L _ _ _ _ _ (by omega)
    rw [he, Option.bind_some, if_pos hc, fst]
    exact push4 _ _ _ _ (push4 _ _ _ _ rfl (ih (i + 1) k (by omega) (by omega))) rfl
/-- The answer of First. -/
def fstV (W D : Int) (L : List SImpl.Blk) (P : List Sp) (U : List Int) (r : Int) : Int × Int × Int × Int :=
  if SImpl.chk W D L = 0 then (if chk P U = 0 then (if 0 ≤ r ∧ r ≤ 32768 then fst W D L P r U.length 0 else (0, 0, 0, 1)) else (0, 0, 0, chk P U)) else (0, 0, 0, SImpl.chk W D L)
theorem ff_f (k : Nat) (W D : Int) (L : List SImpl.Blk) (P : List Sp) (U : List Int) (r : Int) (hP : P.length ≤ 200) (hU : U.length ≤ 200) (hk : 17000 ≤ k) : floor_First.f k W D L P U r = some (fstV W D L P U r) := by
  unfold floor_First.f fstV
  rw [SImpl.check_f k W D L (by omega), Option.bind_some]
  by_cases hs : SImpl.chk W D L = 0
  · rw [if_pos hs, if_pos hs, m_f k P U (by omega) (by omega) (by omega), Option.bind_some]
    by_cases h : chk P U = 0
    · rw [if_pos h, if_pos h]
      obtain ⟨k, rfl⟩ : ∃ m, k = m + 1 := ⟨k - 1, by omega⟩
      by_cases h0 : r < 0
      · rw [if_pos h0, floor_First.j0, if_pos rfl, if_neg (by omega)]
      · rw [if_neg h0]
        by_cases h1 : r > 32768
        · rw [decide_eq_true h1, floor_First.j0, if_pos rfl, if_neg (by omega)]
        · rw [decide_eq_false h1, floor_First.j0, if_neg (by simp), if_pos (by omega)]
          exact ff_l0 W D L hs P U h r (by omega) (by omega) U.length 0 k (by omega) (by omega)
    · rw [if_neg h, if_neg h]
  · rw [if_neg hs, if_neg hs]
end Go.Proofs.Ytmdmajfgpmopbaa.Fl
