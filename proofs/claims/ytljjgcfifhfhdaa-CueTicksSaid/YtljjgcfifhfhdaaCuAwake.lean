/- Cues: the chapter's examples. -/
import Derived.Test.YtljjgcfifhfhdaaX8
import Derived.Test.YtljjgcfifhfhdaaX3
import Derived.Test.YtljjgcfifhfhdaaX15
import Derived.Test.YtljjgcfifhfhdaaCuDrift
namespace Go.Proofs.Ytljjgcfifhfhdaa.Cu
open Go.RowKit Go.Proofs.YtljjgcfifhfhdaaW.PrintWords Go.Proofs.Ytljjgcfifhfhdaa.X Go.Proofs.Ytljjgcfifhfhdaa.Tm Go.Proofs.Ytljjgcfifhfhdaa.TmImpl
set_option linter.unusedVariables false
set_option linter.unusedSimpArgs false
def three : List Sc := [⟨0, 500⟩, ⟨3, 510⟩, ⟨5, 530⟩]
theorem awake_f (k : Nat) (hk : 1000 ≤ k) : dancestudiolaw15_awake.f k = some true := by
  have r1 : cue_Fit.res three = ([⟨0, 4⟩, ⟨1, 3⟩, ⟨3, 10⟩], 0) := rfl
  have r2 : cue_Fit.res [⟨0, 0⟩, ⟨3, 2⟩] = ([], 1) := rfl
  have d1 : drf three [⟨0, 4⟩] = ([0, 2, -10], 0) := by decide +kernel
  have d2 : wor three [⟨0, 4⟩] = (10, 0) := by decide +kernel
  have c1 : cue_Check.chk (three.take 1) = 4 := by decide +kernel
  have l1 : 1 ≤ (three.length : Int) := by decide +kernel
  unfold dancestudiolaw15_awake.f
  rw [Option.bind_some, show ([⟨0, 500⟩, ⟨3, 510⟩, ⟨5, 530⟩] : List Sc) = three from rfl]
  generalize three = l at *
  rw [drf_f k l _ (by omega), wor_f k l _ (by omega), d1, d2]
  unfold cue_Fit.f cue_Check.f
  rw [r1, r2, c1]
  rw [Option.bind_some, Option.bind_some, Option.bind_some, Option.bind_some, if_pos rfl, if_pos rfl, if_pos rfl, if_pos rfl, if_pos l1, Option.bind_some, if_pos rfl, rt_f k _ (by simp) (by omega), Option.bind_some, if_pos rfl, ri_f k _ (by simp) (by omega), Option.bind_some, if_pos rfl]
  rfl
end Go.Proofs.Ytljjgcfifhfhdaa.Cu
