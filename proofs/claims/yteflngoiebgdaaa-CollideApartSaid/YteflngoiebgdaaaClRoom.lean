/- Room, by hand: what it answers. -/
import Derived.Test.YteflngoiebgdaaaX9
import Derived.Test.YteflngoiebgdaaaX28
import Derived.Test.YteflngoiebgdaaaClPairs
import Derived.Test.YteflngoiebgdaaaClDist
namespace Go.Proofs.Yteflngoiebgdaaa.Cl
open Go.RowKit Go.Proofs.YteflngoiebgdaaaW.PrintWords Go.Proofs.Yteflngoiebgdaaa.X Go.Proofs.Yteflngoiebgdaaa.Fl Go.Proofs.Yteflngoiebgdaaa.GeoImpl Go.Proofs.Yteflngoiebgdaaa.Geo
set_option linter.unusedVariables false
set_option linter.unusedSimpArgs false
/-! ### Room -/
def room (l : List Mv) (t : Int) : Int := ((prsN l.length).map (dst l t)).foldl collide_Room.less (-1)
theorem room_f (k : Nat) (l : List Mv) (r : List Int) (c : List Ct) (t : Int) (hc : collide_Check.f k l r c = some 0) (hg : Good l r c) (hk : 60 ≤ k) :
    collide_Room.f k l r c t = some (if l.length < 2 then (0, 6) else if t < 0 then (0, 1) else if (tks l : Int) < t then (0, 1) else (room l t, 0)) := by
  have := hg.len
  unfold collide_Room.f
  rw [hc, Option.bind_some, if_pos rfl]
  by_cases h2 : l.length < 2
  · rw [if_pos (by omega), if_pos h2]
  · rw [if_neg (by omega), if_neg h2]
    by_cases h3 : t < 0
    · rw [if_pos h3, if_pos h3]
    · rw [if_neg h3, if_neg h3, length_f, Option.bind_some]
      by_cases h4 : (tks l : Int) < t
      · rw [if_pos h4, if_pos h4]
      · rw [if_neg h4, if_neg h4, if_pos (by omega), collide_pairs.all_map (g := dst l t) (fun p hp => ?_), Option.bind_some]
        · rfl
        · have hp := collide_pairs.prs_mem hp
          have m1 := (hg.mov p.1 (by omega)).1
          have m2 := (hg.mov p.2 (by omega)).1
          unfold collide_Room.dist
          rw [if_pos ⟨by omega, by omega, by omega⟩, dist2_f k _ _ _ _ (at_on hg p.1 (by omega) t (by omega) (by omega)) (at_on hg p.2 (by omega) t (by omega) (by omega)) (by omega), Option.bind_some]
          rfl
end Go.Proofs.Yteflngoiebgdaaa.Cl
