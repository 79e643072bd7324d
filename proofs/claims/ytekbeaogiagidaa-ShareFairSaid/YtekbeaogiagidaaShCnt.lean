/- The order of the rests: who stands among the first m. -/
import Derived.Test.YtekbeaogiagidaaSoUniq
namespace Go.Proofs.Ytekbeaogiagidaa.Sh
open Go.Proofs.Ytekbeaogiagidaa.So
set_option linter.unusedVariables false
set_option linter.unusedSimpArgs false
instance (rs : Nat → Nat) (x y : Nat) : Decidable (prR rs x y) := by unfold prR; infer_instance
/-- How many stand before i. -/
def bf (rs : Nat → Nat) (N i : Nat) : Nat := (List.range N).countP (fun j => decide (prR rs j i))
theorem prR_asy {rs : Nat → Nat} {x y : Nat} (h : prR rs x y) : ¬ prR rs y x := by unfold prR at h ⊢; omega
theorem ord_perm (rs : Nat → Nat) (N : Nat) : (ord rs N).Perm (List.range N) := by
  have := (ord_seg rs N).1
  rwa [List.range_eq_range']
theorem ord_mem (rs : Nat → Nat) (N i : Nat) : i ∈ ord rs N ↔ i < N := by rw [(ord_perm rs N).mem_iff, List.mem_range]
theorem ord_nodup (rs : Nat → Nat) (N : Nat) : (ord rs N).Nodup := (ord_perm rs N).nodup_iff.mpr List.nodup_range
theorem ord_length (rs : Nat → Nat) (N : Nat) : (ord rs N).length = N := by rw [(ord_perm rs N).length_eq, List.length_range]
theorem ord_take (rs : Nat → Nat) (N m i : Nat) (hi : i < N) : i ∈ (ord rs N).take m ↔ bf rs N i < m := by
  have hb : bf rs N i = (ord rs N).countP (fun j => decide (prR rs j i)) := ((ord_perm rs N).countP_eq _).symm
  obtain ⟨A, B, e⟩ := List.append_of_mem ((ord_mem rs N i).mpr hi)
  have hp := (ord_seg rs N).2
  rw [e] at hb hp ⊢
  rw [List.pairwise_append] at hp
  obtain ⟨_, h2, h3⟩ := hp
  rw [List.pairwise_cons] at h2
  have hA : A.countP (fun j => decide (prR rs j i)) = A.length := List.countP_eq_length.mpr fun a ha => decide_eq_true (h3 a ha i (by simp))
  have hB : (i :: B).countP (fun j => decide (prR rs j i)) = 0 := List.countP_eq_zero.mpr fun b hb => by
    rw [decide_eq_true_iff]
    rcases List.mem_cons.mp hb with rfl | hb
    · unfold prR; omega
    · exact prR_asy (h2.1 b hb)
  rw [List.countP_append, hA, hB] at hb
  have hiA : i ∉ A := fun h => by have := h3 i h i (by simp); unfold prR at this; omega
  rw [hb, Nat.add_zero]
  constructor
  · intro h
    rcases Nat.lt_or_ge A.length m with hm | hm
    · exact hm
    · rw [List.take_append_of_le_length hm] at h
      exact absurd (List.mem_of_mem_take h) hiA
  · intro hm
    rw [List.take_append, List.mem_append]
    refine .inr ?_
    obtain ⟨d, hd⟩ : ∃ d, m - A.length = d + 1 := ⟨m - A.length - 1, by omega⟩
    rw [hd, List.take_succ_cons]
    simp
end Go.Proofs.Ytekbeaogiagidaa.Sh
