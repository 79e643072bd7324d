/- What is known of arguments that came in. -/
import Derived.Test.YtobehfghepbhbaaCrcAwakeN
namespace Go.Proofs.Ytobehfghepbhbaa.CrcImpl
open Go.RowKit Go.Proofs.YtobehfghepbhbaaW.PrintWords Go.Proofs.Ytobehfghepbhbaa.X Go.Proofs.Ytobehfghepbhbaa.WPlain Go.Proofs.Ytobehfghepbhbaa.WImpl Go.Proofs.Ytobehfghepbhbaa.Crc
set_option linter.unusedVariables false
set_option linter.unusedSimpArgs false
theorem wfu8 {x : Int} (h : (Lit.int .u8 x).wf = true) : 0 ≤ x ∧ x ≤ 255 := by
  simp only [Lit.wf, IntKind.min, IntKind.max, IntKind.signed, IntKind.bits, Bool.and_eq_true, decide_eq_true_eq] at h
  simp at h
  omega
theorem wfu32 {x : Int} (h : (Lit.int .u32 x).wf = true) : ∃ n : Nat, x = (n : Int) ∧ n < 4294967296 := by
  simp only [Lit.wf, IntKind.min, IntKind.max, IntKind.signed, IntKind.bits, Bool.and_eq_true, decide_eq_true_eq] at h
  simp at h
  exact ⟨x.toNat, by omega, by omega⟩
theorem bys {l : List Int} {M : Nat} (h : l.length ≤ M ∧ ∀ y ∈ l, (Lit.int .u8 y).wf = true) : BY l := fun x hx => wfu8 (h.2 x hx)
end Go.Proofs.Ytobehfghepbhbaa.CrcImpl
