/- First, by hand: what it answers. -/
import Derived.Test.YteflngoiebgdaaaX9
import Derived.Test.YteflngoiebgdaaaX32
import Derived.Test.YteflngoiebgdaaaClPairs
namespace Go.Proofs.Yteflngoiebgdaaa.Cl
open Go.RowKit Go.Proofs.YteflngoiebgdaaaW.PrintWords Go.Proofs.Yteflngoiebgdaaa.X Go.Proofs.Yteflngoiebgdaaa.Fl Go.Proofs.Yteflngoiebgdaaa.GeoImpl Go.Proofs.Yteflngoiebgdaaa.Geo
set_option linter.unusedVariables false
set_option linter.unusedSimpArgs false
/-! ### First -/
def fst (l : List Mv) (r : List Int) (c : List Ct) : Nat → Nat → Int × Int × Int
  | 0, _ => (-1, 0, 0)
  | d + 1, t => match (prsN l.length).find? (mt l r c t) with
    | some p => ((t : Int), (p.1 : Int), (p.2 : Int))
    | none => fst l r c d (t + 1)
theorem ticks_f (k : Nat) (l : List Mv) (r : List Int) (c : List Ct) (hg : Good l r c) (hk : 60 ≤ k) : ∀ d t, t + d ≤ tks l → collide_First.ticks k l r c d t = some (fst l r c d t)
  | 0, _, _ => rfl
  | d + 1, t, h => by
    unfold collide_First.ticks
    rw [collide_pairs.all_map (g := mt l r c t) (fun p hp => ?_), Option.bind_some, collide_First.pick_map, fst]
    · cases (prsN l.length).find? (mt l r c t) with
      | some p => rfl
      | none => exact ticks_f k l r c hg hk d (t + 1) (by omega)
    · have := collide_pairs.prs_mem hp
      exact meet_f k l r c hg p.1 p.2 t (by omega) (by omega) (by omega) hk
theorem first_f (k : Nat) (l : List Mv) (r : List Int) (c : List Ct) (hc : collide_Check.f k l r c = some 0) (hg : Good l r c) (hk : 60 ≤ k) :
    collide_First.f k l r c = some ((fst l r c (tks l) 0).1, (fst l r c (tks l) 0).2.1, (fst l r c (tks l) 0).2.2, 0) := by
  have := hg.len
  have := hg.few
  unfold collide_First.f
  rw [hc, Option.bind_some, if_pos rfl, length_f, Option.bind_some, if_pos ⟨by omega, by omega⟩, Int.toNat_natCast, ticks_f k l r c hg hk _ _ (by omega), Option.bind_some]
end Go.Proofs.Yteflngoiebgdaaa.Cl
