/- Tempo maps: the chapter's examples. -/
import Derived.Test.YthgngebcfggcfaaX22
import Derived.Test.YthgngebcfggcfaaX21
import Derived.Test.YthgngebcfggcfaaX19
import Derived.Test.YthgngebcfggcfaaX17
import Derived.Test.YthgngebcfggcfaaX16
import Derived.Test.YthgngebcfggcfaaTmMore
namespace Go.Proofs.Ythgngebcfggcfaa.TmImpl
open Go.RowKit Go.Proofs.YthgngebcfggcfaaW.PrintWords Go.Proofs.Ythgngebcfggcfaa.X Go.Proofs.Ythgngebcfggcfaa.Tm
set_option linter.unusedVariables false
set_option linter.unusedSimpArgs false

theorem when_f (k : Nat) (l : List St) (t m : Int) (hk : 200 ≤ k) : dancestudiolaw14_when.f k l t m = some (decide ((whn l t).1 = m) && ((whn l t).2 == 0)) := by
  unfold dancestudiolaw14_when.f
  rw [tWhen_f k l t hk, Option.bind_some]
  split
  · rename_i h; rw [decide_eq_true h, Bool.true_and]
  · rename_i h; rw [decide_eq_false h, Bool.false_and]
theorem when_ok (k : Nat) (l : List St) (t m : Int) (h : whn l t = (m, 0)) (hk : 200 ≤ k) : dancestudiolaw14_when.f k l t m = some true := by
  rw [when_f k l t m hk, h]
  simp
theorem back_ok (k : Nat) (l : List St) (hV : V l) (x r : Int) (h : IsTick l x r) (h0 : 0 ≤ x) (h1 : x ≤ mom 8192 l) (hk : 9000 ≤ k) : dancestudiolaw14_back.f k l x r = some true := by
  obtain ⟨s, hs, ht⟩ := tTick_ok k l hV x h0 h1 hk
  unfold dancestudiolaw14_back.f
  rw [hs, Option.bind_some, if_pos (ht.one hV h)]
  rfl
def two : List St := [⟨0, 10⟩, ⟨4, 20⟩]
theorem two_V : V two := chk_V (by decide +kernel)
theorem awake_f (k : Nat) (hk : 10000 ≤ k) : dancestudiolaw14_awake.f k = some true := by
  have hV := two_V
  have w1 : whn two 0 = (0, 0) := by decide +kernel
  have w2 : whn two 4 = (40, 0) := by decide +kernel
  have w3 : whn two 6 = (80, 0) := by decide +kernel
  have w4 : whn two 8192 = (163800, 0) := by decide +kernel
  have m5 : mom 5 two = 60 := by decide +kernel
  have m6 : mom (5 + 1) two = 80 := by decide +kernel
  have m6' : mom 6 two = 80 := by decide +kernel
  have m7 : mom (6 + 1) two = 100 := by decide +kernel
  have m8 : mom 8192 two = 163800 := by decide +kernel
  unfold dancestudiolaw14_awake.f
  rw [Option.bind_some, show ([⟨0, 10⟩, ⟨4, 20⟩] : List S38) = two from rfl]
  rw [when_ok k _ 0 0 w1 (by omega), Option.bind_some, if_pos rfl, when_ok k _ 4 40 w2 (by omega), Option.bind_some, if_pos rfl, when_ok k _ 6 80 w3 (by omega), Option.bind_some, if_pos rfl, when_ok k _ 8192 163800 w4 (by omega), Option.bind_some, if_pos rfl]
  rw [back_ok k two hV 79 5 ⟨by omega, by omega, by rw [m5]; omega, fun _ => by rw [m6]; omega⟩ (by omega) (by rw [m8]; omega) (by omega), Option.bind_some, if_pos rfl]
  rw [back_ok k two hV 80 6 ⟨by omega, by omega, by rw [m6']; omega, fun _ => by rw [m7]; omega⟩ (by omega) (by rw [m8]; omega) (by omega), Option.bind_some, if_pos rfl]
  rw [back_ok k two hV 163800 8192 ⟨by omega, by omega, by rw [m8]; omega, fun h => by omega⟩ (by omega) (by rw [m8]; omega) (by omega), Option.bind_some]
  obtain ⟨k, rfl⟩ : ∃ m, k = m + 1 := ⟨k - 1, by omega⟩
  rw [dancestudiolaw14_awake.j0, if_neg (by simp), tTick_out k two hV 163801 (by rw [m8]; omega) (by omega), Option.bind_some, if_pos rfl]
  have hr : tempo_Ramp.f k 0 2 4 10 20 = some ([⟨0, 10⟩, ⟨4, 15⟩, ⟨8, 20⟩], 0) := by
    obtain ⟨k, rfl⟩ : ∃ m, k = m + 5 := ⟨k - 5, by omega⟩
    have l0 : num_Lerp.f 10 20 0 2 = some (10, 0) := by decide +kernel
    have l1 : num_Lerp.f 10 20 1 2 = some (15, 0) := by decide +kernel
    unfold tempo_Ramp.f
    rw [within_f, Option.bind_some, decide_eq_true (by omega), if_pos rfl, within_f, Option.bind_some, decide_eq_true (by omega), if_pos rfl, within_f, Option.bind_some, decide_eq_true (by omega)]
    rw [tempo_Ramp.j0, if_neg (by simp), within_f, Option.bind_some, decide_eq_true (by omega), if_pos rfl, within_f, Option.bind_some, decide_eq_true (by omega), tempo_Ramp.j1, if_neg (by simp), if_neg (by unfold wrap64; omega)]
    rw [tempo_Ramp.l0, if_pos (by omega), l0, Option.bind_some, if_pos rfl, if_pos (by simp), show wrap64 (0 + 1) = 1 by unfold wrap64; omega]
    rw [tempo_Ramp.l0, if_pos (by omega), l1, Option.bind_some, if_pos rfl, if_pos (by simp), show wrap64 (1 + 1) = 2 by unfold wrap64; omega]
    rw [tempo_Ramp.l0, if_neg (by omega), if_pos (by simp)]
    have e1 : wrap64 (0 + wrap64 (0 * 4)) = 0 := by unfold wrap64; omega
    have e2 : wrap64 (0 + wrap64 (1 * 4)) = 4 := by unfold wrap64; omega
    have e3 : wrap64 (0 + wrap64 (2 * 4)) = 8 := by unfold wrap64; omega
    rw [e1, e2, e3]
    rfl
  have n1 : nor [⟨0, 10⟩, ⟨4, 10⟩, ⟨8, 20⟩] = ([⟨0, 10⟩, ⟨8, 20⟩], 0) := rfl
  have s1 : scd [⟨0, 10⟩] 3 4 = ([⟨0, 8⟩], 0) := rfl
  rw [hr, Option.bind_some, tNorm_f k _ (by omega), n1, Option.bind_some, tScaled_f k _ 3 4 (by omega), s1, Option.bind_some, if_pos rfl, if_pos rfl]
  obtain ⟨k, rfl⟩ : ∃ m, k = m + 1 := ⟨k - 1, by omega⟩
  rw [dancestudiolaw14_awake.j1, if_neg (by simp), same_f k _ (by simp) (by simp; omega), Option.bind_some, if_pos rfl, same_f k _ (by simp) (by simp; omega), Option.bind_some, if_pos rfl, same_f k _ (by simp) (by simp; omega), Option.bind_some]
end Go.Proofs.Ythgngebcfggcfaa.TmImpl
