/- The law CollideCheck over numbers and lists. -/
import Derived.Test.YteflngoiebgdaaaX32
import Derived.Test.YteflngoiebgdaaaX28
import Derived.Test.YteflngoiebgdaaaX26
import Derived.Test.YteflngoiebgdaaaClChkR
import Derived.Test.YteflngoiebgdaaaClAwake
import Derived.Test.YteflngoiebgdaaaX42
namespace Go.Proofs.Yteflngoiebgdaaa.Pure
open Go.RowKit Go.Proofs.YteflngoiebgdaaaW.PrintWords Go.Proofs.Yteflngoiebgdaaa.X Go.Proofs.Yteflngoiebgdaaa.Cl
set_option linter.unusedVariables false
set_option linter.unusedSimpArgs false
theorem CollideCheck (l : List Mv) (r : List Int) (c : List Ct) (t : Int) : ∃ k, X.dancestudiolaw44_CollideCheck.f k l r c t = some true := by
  refine ⟨20000, ?_⟩
  generalize hk : 20000 = k
  unfold dancestudiolaw44_CollideCheck.f
  rw [light_f k l c (by omega), Option.bind_some]
  by_cases hL : light l c.length = true
  · obtain ⟨_, _, hc, hm⟩ := light_ok hL
    have hC := c_f k l r c hc hm (by omega)
    rw [if_pos hL, rc_f k l r c hc hm (by omega), Option.bind_some, hC, Option.bind_some, if_pos rfl, awake_f k (by omega), Option.bind_some]
    by_cases h0 : cchk l r c = 0
    · rw [if_pos h0]
    · rw [if_neg h0]
      unfold collide_First.f collide_All.f collide_Room.f
      rw [hC, Option.bind_some, Option.bind_some, Option.bind_some, if_neg h0, if_neg h0, if_neg h0, Option.bind_some, Option.bind_some, Option.bind_some, if_pos rfl, if_pos rfl, if_pos rfl, if_pos rfl]
      rfl
  · rw [if_neg hL, awake_f k (by omega)]
    rfl
end Go.Proofs.Yteflngoiebgdaaa.Pure
