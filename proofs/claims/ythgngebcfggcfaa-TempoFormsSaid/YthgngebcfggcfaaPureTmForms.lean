/- The statement TempoForms over numbers and lists. -/
import Derived.Test.YthgngebcfggcfaaX39
import Derived.Test.YthgngebcfggcfaaTmAwake
namespace Go.Proofs.Ythgngebcfggcfaa.Pure
open Go.RowKit Go.Proofs.YthgngebcfggcfaaW.PrintWords Go.Proofs.Ythgngebcfggcfaa.X Go.Proofs.Ythgngebcfggcfaa.Tm Go.Proofs.Ythgngebcfggcfaa.TmImpl
set_option linter.unusedVariables false
set_option linter.unusedSimpArgs false
theorem go_len (l : List St) (p : Int) : (tempo_Norm.go p l).length ≤ l.length := tempo_Norm.go_le l p
theorem nor_len (l : List St) : (nor l).1.length ≤ 64 := by
  unfold nor
  split
  · rename_i h
    have := (chk_V h).le
    have := tempo_Norm.nrm_le l
    simp only
    omega
  · simp
theorem scl_len (p q : Int) : ∀ (l s : List St), scl p q l = some s → s.length = l.length := by
  intro l
  induction l with
  | nil => intro s h; simp only [scl] at h; cases h; rfl
  | cons x l ih =>
    intro s h
    simp only [scl] at h
    split at h
    · cases h
    · obtain ⟨s', hs', rfl⟩ := Option.map_eq_some_iff.1 h
      simp [ih s' hs']
theorem scd_len (l : List St) (p q : Int) : (scd l p q).1.length ≤ 64 := by
  unfold scd
  split
  · rename_i h
    split
    · cases hs : scl p q l with
      | none => simp [fin]
      | some s =>
        have := scl_len p q l s hs
        have := (chk_V h).le
        simp [fin]
        omega
    · simp
  · simp
theorem TempoForms (l : List St) (p q : Int) : ∃ k, X.dancestudiolaw14_TempoForms.f k l p q = some true := by
  refine ⟨20000, ?_⟩
  generalize hk : 20000 = k
  have h1 := nor_len l
  have h2 := scd_len l p q
  unfold dancestudiolaw14_TempoForms.f
  rw [tNorm_f k l (by omega), Option.bind_some, rNorm_f k l (by omega), Option.bind_some, tScaled_f k l p q (by omega), Option.bind_some, rScaled_f k l p q (by omega), Option.bind_some]
  rw [same_f k _ (by omega) (by omega), Option.bind_some, if_pos rfl, if_pos rfl, same_f k _ (by omega) (by omega), Option.bind_some, if_pos rfl, if_pos rfl, awake_f k (by omega), Option.bind_some]
end Go.Proofs.Ythgngebcfggcfaa.Pure
