/- The statement CrcFull over numbers and lists. -/
import Derived.Test.YtobehfghepbhbaaX23
import Derived.Test.YtobehfghepbhbaaCrcFrm
namespace Go.Proofs.Ytobehfghepbhbaa.Pure
open Go.RowKit Go.Proofs.YtobehfghepbhbaaW.PrintWords Go.Proofs.Ytobehfghepbhbaa.X Go.Proofs.Ytobehfghepbhbaa.WPlain Go.Proofs.Ytobehfghepbhbaa.WImpl Go.Proofs.Ytobehfghepbhbaa.Crc Go.Proofs.Ytobehfghepbhbaa.CrcImpl
set_option linter.unusedVariables false
set_option linter.unusedSimpArgs false
/-- The content of one byte, over and over. -/
theorem full_l0 (x : Int) (n : Nat) (hn : n ≤ 70000) : ∀ (d i m : Nat), i + d = n → dancestudiolaw08_CrcFull.l0 (m + d) x (n : Int) (List.replicate i x) (i : Int) = dancestudiolaw08_CrcFull.l0 m x (n : Int) (List.replicate n x) (n : Int) := by
  intro d
  induction d with
  | zero =>
    intro i m h
    obtain rfl : i = n := by omega
    rfl
  | succ d ih =>
    intro i m h
    rw [← Nat.add_assoc, dancestudiolaw08_CrcFull.l0, if_pos (by omega), if_pos (by simp; omega), w64 (x := (i : Int) + 1) (by omega) (by omega), ← List.replicate_succ', show (i : Int) + 1 = ((i + 1 : Nat) : Int) by omega]
    exact ih (i + 1) m (by omega)
theorem CrcFull (a0 : Int) (a1 : Int) (g0 : (Lit.int .u8 a0).wf = true) (g1 : (Lit.int .u8 a1).wf = true) : ∃ k, X.dancestudiolaw08_CrcFull.f k a0 a1 = some true := by
  obtain ⟨u0, u1⟩ := wfu8 g0
  obtain ⟨v0, v1⟩ := wfu8 g1
  obtain ⟨n, hn, hn0, hn1⟩ : ∃ n : Nat, wrap64 (65535 + wrap64 (Int.tmod a0 3)) = (n : Int) ∧ 65535 ≤ n ∧ n ≤ 65537 := by
    rw [Int.tmod_eq_emod_of_nonneg u0]
    have h0 : 0 ≤ a0 % 3 := Int.emod_nonneg _ (by omega)
    have h1 : a0 % 3 < 3 := Int.emod_lt_of_pos _ (by omega)
    generalize a0 % 3 = z at *
    refine ⟨(65535 + z).toNat, ?_, by omega, by omega⟩
    rw [w64 (x := z) (by omega) (by omega), w64 (by omega) (by omega)]
    omega
  refine ⟨2000000 + n, ?_⟩
  generalize hk : 2000000 = k
  unfold dancestudiolaw08_CrcFull.f
  rw [hn]
  clear hn
  have h := full_l0 a1 n (by omega) n 0 k (by omega)
  rw [show List.replicate 0 a1 = [] from rfl] at h
  refine h.trans ?_
  clear h
  have hB : BY (List.replicate n a1) := rep_BY n a1 v0 v1
  have hL : (List.replicate n a1).length = n := List.length_replicate
  generalize List.replicate n a1 = c at hB hL ⊢
  obtain ⟨k, rfl⟩ : ∃ m, k = m + 2 := ⟨k - 2, by omega⟩
  rw [dancestudiolaw08_CrcFull.l0, if_neg (by omega), frame_f (k + 1) c hB (by omega) (by omega), Option.bind_some]
  by_cases hc : (c.length : Int) > 65536
  · rw [if_pos hc, if_pos (by omega), if_pos (by rfl), if_pos rfl, awake_f (k + 1) (by omega), Option.bind_some]
  · have hfl := frm_len c
    have he := enc_len3 c.length (by omega) (by omega)
    have hw : wrap64 ((n : Int) + 7) = ((frm c).length : Int) := by rw [w64 (by omega) (by omega)]; omega
    rw [if_neg hc, if_neg (by omega)]
    dsimp only
    rw [if_pos rfl, hw, dancestudiolaw08_CrcFull.j1, if_neg (by simp)]
    clear hw
    have ho := opn_frm c [] hB (by omega)
    rw [List.append_nil] at ho
    rw [open_f k (frm c) (frm_BY c hB) (by omega) (by omega), ho, Option.bind_some]
    dsimp only
    rw [if_pos rfl, if_pos rfl, if_pos rfl, awake_f k (by omega), Option.bind_some]
end Go.Proofs.Ytobehfghepbhbaa.Pure
