/- What the steps of the bottom-up merging sort do to the runs. -/
import Derived.Test.YtekbeaogiagidaaSoSym
namespace Go.Proofs.Ytekbeaogiagidaa.So
set_option linter.unusedVariables false
set_option linter.unusedSimpArgs false
open Go.Shelf Go.RowKit Go.Lib Go.Sort
theorem ins_seg (w0 w : World) (blk cap N g : Nat) (cb : Array Value) (cf : Nat → Nat → Int) (pr : Nat → Nat → Prop) (R : Row w0 blk N) (eg : ∀ args w, (callFunc g args).run Try.prog w = .ok (.enter g args) w) (C : CmpOk g cb cf w0 blk N) (O : Ord cf N pr) (X : List Nat) (a l : Nat) (z : Int) (hX : X.length = a) (hp : X.Perm (List.range' 0 X.length)) (hl : a + l ≤ N) (hz : z = (a : Int) + (l : Int)) (S : At w0 blk (X ++ List.range' a (N - a)).toArray w) :
    Calls Try.prog 37 #[.slice (some ⟨blk, 0, none⟩) N cap, .int .i64 (a : Int), .int .i64 z, .func (.func g) #[] cb] w fun e w' => e = .returned (.tuple #[]) ∧ ∃ P, Seg pr a l P ∧ At w0 blk (X ++ (P ++ List.range' (a + l) (N - (a + l)))).toArray w' := by
  obtain rfl : z = ((a + l : Nat) : Int) := by omega
  have e : List.range' a (N - a) = List.range' a l ++ List.range' (a + l) (N - (a + l)) := by
    rw [List.range'_append_1]
    congr 1
    omega
  rw [e] at S
  refine (insertion_calls w0 w blk cap N g cb cf X (List.range' a l) _ R eg C ?_ ?_ S a (a + l) hX.symm ?_).mono ?_
  · simp only [List.length_append, List.length_range']
    omega
  · intro y hy
    simp only [List.mem_append] at hy
    rcases hy with h | h | h
    · have := hp.mem_iff.1 h; rw [List.mem_range'_1] at this; omega
    · rw [List.mem_range'_1] at h; omega
    · rw [List.mem_range'_1] at h; omega
  · rw [List.length_range', hX]
  · rintro e w' ⟨he, hw⟩
    exact ⟨he, _, isr_seg O a l hl, hw⟩
theorem merge_seg (w0 w : World) (blk cap N g bs : Nat) (cb : Array Value) (cf : Nat → Nat → Int) (pr : Nat → Nat → Prop) (R : Row w0 blk N) (eg : ∀ args w, (callFunc g args).run Try.prog w = .ok (.enter g args) w) (C : CmpOk g cb cf w0 blk N) (O : Ord cf N pr) (X Y : List Nat) (a : Nat) (hX : X.length = a) (hf : Full pr (2 * bs) X) (hr : Runs pr bs a Y) (hN : a + Y.length = N) (hb : 0 < bs) (hl : a + 2 * bs ≤ N) (S : At w0 blk (X ++ Y).toArray w) :
    Calls Try.prog 38 #[.slice (some ⟨blk, 0, none⟩) N cap, .int .i64 (a : Int), .int .i64 ((a : Int) + (bs : Int)), .int .i64 ((a : Int) + 2 * (bs : Int)), .func (.func g) #[] cb] w fun e w' => e = .returned (.tuple #[]) ∧ ∃ X' Y', X'.length = a + 2 * bs ∧ Full pr (2 * bs) X' ∧ Runs pr bs (a + 2 * bs) Y' ∧ a + 2 * bs + Y'.length = N ∧ At w0 blk (X' ++ Y').toArray w' := by
  obtain ⟨P1, Y1, rfl, s1, hr1⟩ := hr.peel (by omega)
  have l1 := s1.length
  rw [List.length_append] at hN
  obtain ⟨P2, Y2, rfl, s2, hr2⟩ := hr1.peel (by omega)
  have l2 := s2.length
  rw [List.length_append] at hN
  have e : a + bs + bs = a + 2 * bs := by omega
  rw [e] at hr2
  have Q : Parts pr N X P1 P2 Y2 := parts_runs (i := a) (l := bs) (m := bs) (by have := hf.perm; rw [hX] at this; exact this) s1 s2 (by rw [e]; exact hr2.perm) (by omega)
  refine (sym_all w0 blk cap N g cb cf pr R eg C O _ w X P1 P2 Y2 _ _ _ Q S ?_ ?_ ?_ ?_ ?_ (Nat.le_refl _)).mono ?_
  · rw [hX]
  · rw [hX, l1]
  · rw [hX, l1, l2]; omega
  · omega
  · omega
  · rintro e' w' ⟨he, M, hM, hw⟩
    have sM := s1.mg s2 hM
    rw [← Nat.two_mul] at sM
    refine ⟨he, X ++ M, Y2, ?_, .snoc hf (by rw [hX]; exact sM), hr2, by omega, by rw [List.append_assoc]; exact hw⟩
    rw [List.length_append, sM.length, hX]
theorem merge_end (w0 w : World) (blk cap N g bs : Nat) (cb : Array Value) (cf : Nat → Nat → Int) (pr : Nat → Nat → Prop) (R : Row w0 blk N) (eg : ∀ args w, (callFunc g args).run Try.prog w = .ok (.enter g args) w) (C : CmpOk g cb cf w0 blk N) (O : Ord cf N pr) (X Y : List Nat) (a : Nat) (hX : X.length = a) (hf : Full pr (2 * bs) X) (hr : Runs pr bs a Y) (hN : a + Y.length = N) (hb : 0 < bs) (hl : ¬ a + 2 * bs ≤ N) (hm : a + bs < N) (S : At w0 blk (X ++ Y).toArray w) :
    Calls Try.prog 38 #[.slice (some ⟨blk, 0, none⟩) N cap, .int .i64 (a : Int), .int .i64 ((a : Int) + (bs : Int)), .int .i64 (N : Int), .func (.func g) #[] cb] w fun e w' => e = .returned (.tuple #[]) ∧ ∃ L, Runs pr (2 * bs) 0 L ∧ L.length = N ∧ At w0 blk L.toArray w' := by
  obtain ⟨P1, Y1, rfl, s1, hr1⟩ := hr.peel (by omega)
  have l1 := s1.length
  rw [List.length_append] at hN
  have s2 := hr1.single (by omega)
  have Q : Parts pr N X P1 Y1 [] := parts_runs (i := a) (l := bs) (m := Y1.length) (by have := hf.perm; rw [hX] at this; exact this) s1 s2 (List.Perm.refl _) (by simp only [List.length_nil]; omega)
  refine (sym_all w0 blk cap N g cb cf pr R eg C O _ w X P1 Y1 [] _ _ _ Q (by rw [List.append_nil]; exact S) ?_ ?_ ?_ ?_ ?_ (Nat.le_refl _)).mono ?_
  · rw [hX]
  · rw [hX, l1]
  · rw [hX, l1]; omega
  · omega
  · omega
  · rintro e' w' ⟨he, M, hM, hw⟩
    have sM := s1.mg s2 hM
    rw [List.append_nil] at hw
    refine ⟨he, X ++ M, hf.fuse (.last (by rw [hX]; exact sM) (by omega)), ?_, hw⟩
    rw [List.length_append, sM.length, hX]
    omega
theorem merge_none {pr : Nat → Nat → Prop} {bs N a : Nat} {X Y : List Nat} (hX : X.length = a) (hf : Full pr (2 * bs) X) (hr : Runs pr bs a Y) (hN : a + Y.length = N) (hm : ¬ a + bs < N) : Runs pr (2 * bs) 0 (X ++ Y) ∧ (X ++ Y).length = N :=
  ⟨hf.fuse (.last (by rw [hX]; exact hr.single (by omega)) (by omega)), by rw [List.length_append]; omega⟩
end Go.Proofs.Ytekbeaogiagidaa.So
