/- symMerge, whole; and the runs of a row that the bottom-up merging keeps. -/
import Derived.Test.YtekbeaogiagidaaSoGen
namespace Go.Proofs.Ytekbeaogiagidaa.So
set_option linter.unusedVariables false
set_option linter.unusedSimpArgs false
open Go.Shelf Go.RowKit Go.Lib Go.Sort
theorem sym_all (w0 : World) (blk cap N g : Nat) (cb : Array Value) (cf : Nat → Nat → Int) (pr : Nat → Nat → Prop) (R : Row w0 blk N) (eg : ∀ args w, (callFunc g args).run Try.prog w = .ok (.enter g args) w) (C : CmpOk g cb cf w0 blk N) (O : Ord cf N pr) (k : Nat) : Sym w0 blk cap N g cb pr k := by
  induction k with
  | zero => intro w X A B Y z1 z2 z3 Q S h1 h2 h3 hA hB hk; omega
  | succ k ih =>
    intro w X A B Y z1 z2 z3 Q S h1 h2 h3 hA hB hk
    by_cases a1 : A.length = 1
    · obtain ⟨x, rfl⟩ := List.length_eq_one_iff.1 a1
      exact one_calls w0 w blk cap N g cb cf pr X B Y x z1 z2 z3 R eg C O Q S h1 (by rw [h2, a1]; omega) (by rw [h3, a1]; omega)
    · by_cases b1 : B.length = 1
      · obtain ⟨y, rfl⟩ := List.length_eq_one_iff.1 b1
        exact last_calls w0 w blk cap N g cb cf pr X A Y y z1 z2 z3 R eg C O Q S h1 h2 (by rw [h3, b1]; omega) a1
      · exact gen_calls w0 w blk cap N g k cb cf pr X A B Y z1 z2 z3 R eg C O Q ih S h1 h2 h3 (by omega) (by omega) hk
/-- The numbers from i on, l of them, sorted. -/
def Seg (pr : Nat → Nat → Prop) (i l : Nat) (P : List Nat) : Prop := P.Perm (List.range' i l) ∧ P.Pairwise pr
theorem Seg.length {pr : Nat → Nat → Prop} {i l : Nat} {P : List Nat} (h : Seg pr i l P) : P.length = l := by rw [h.1.length_eq, List.length_range']
theorem Seg.mem {pr : Nat → Nat → Prop} {i l : Nat} {P : List Nat} (h : Seg pr i l P) {x : Nat} (hx : x ∈ P) : i ≤ x ∧ x < i + l := by
  have h2 := h.1.mem_iff.1 hx
  rw [List.mem_range'_1] at h2
  exact h2
theorem Seg.nil (pr : Nat → Nat → Prop) (i : Nat) : Seg pr i 0 [] := ⟨List.Perm.refl _, List.Pairwise.nil⟩
theorem Seg.mg {pr : Nat → Nat → Prop} {i l m : Nat} {A B M : List Nat} (ha : Seg pr i l A) (hb : Seg pr (i + l) m B) (h : Mg pr A B M) : Seg pr i (l + m) M := by
  refine ⟨(h.1.trans (ha.1.append hb.1)).trans ?_, h.2⟩
  rw [List.range'_append_1]
/-- Sorted runs of bs numbers each, from the number i on; the last may be shorter. -/
inductive Runs (pr : Nat → Nat → Prop) (bs : Nat) : Nat → List Nat → Prop
  | last {i l P} : Seg pr i l P → l ≤ bs → Runs pr bs i P
  | cons {i P L} : Seg pr i bs P → Runs pr bs (i + bs) L → Runs pr bs i (P ++ L)
inductive Full (pr : Nat → Nat → Prop) (bs : Nat) : List Nat → Prop
  | nil : Full pr bs []
  | snoc {X P} : Full pr bs X → Seg pr X.length bs P → Full pr bs (X ++ P)
theorem Full.fuse {pr : Nat → Nat → Prop} {bs : Nat} {X : List Nat} (h : Full pr bs X) : ∀ {Y}, Runs pr bs X.length Y → Runs pr bs 0 (X ++ Y) := by
  induction h with
  | nil => intro Y hY; exact hY
  | @snoc X P hX hP ih =>
    intro Y hY
    rw [List.append_assoc]
    refine ih (.cons hP ?_)
    rw [List.length_append, hP.length] at hY
    exact hY
theorem Runs.perm {pr : Nat → Nat → Prop} {bs i : Nat} {Y : List Nat} (h : Runs pr bs i Y) : Y.Perm (List.range' i Y.length) := by
  induction h with
  | last hs hl => rw [hs.length]; exact hs.1
  | @cons i P L hs _ ih =>
    refine (hs.1.append ih).trans ?_
    rw [List.length_append, hs.length, List.range'_append_1]
theorem Full.perm {pr : Nat → Nat → Prop} {bs : Nat} {X : List Nat} (h : Full pr bs X) : X.Perm (List.range' 0 X.length) := by
  induction h with
  | nil => exact List.Perm.refl _
  | @snoc X P _ hs ih =>
    refine (ih.append hs.1).trans ?_
    rw [List.length_append, hs.length]
    have := List.range'_append_1 (s := 0) (m := X.length) (n := bs)
    rw [Nat.zero_add] at this
    rw [this]
theorem Runs.peel {pr : Nat → Nat → Prop} {bs i : Nat} {Y : List Nat} (h : Runs pr bs i Y) (hl : bs ≤ Y.length) : ∃ P Y', Y = P ++ Y' ∧ Seg pr i bs P ∧ Runs pr bs (i + bs) Y' := by
  cases h with
  | @last _ l _ hs hle =>
    obtain rfl : l = bs := by have := hs.length; omega
    exact ⟨Y, [], by simp, hs, .last (Seg.nil _ _) (Nat.zero_le _)⟩
  | @cons _ P L hs hr => exact ⟨P, L, rfl, hs, hr⟩
theorem Runs.single {pr : Nat → Nat → Prop} {bs i : Nat} {Y : List Nat} (h : Runs pr bs i Y) (hl : Y.length ≤ bs) : Seg pr i Y.length Y := by
  cases h with
  | @last _ l _ hs hle => rw [hs.length]; exact hs
  | @cons _ P L hs hr =>
    have e := hs.length
    rw [List.length_append] at hl
    obtain rfl : L = [] := List.eq_nil_of_length_eq_zero (by omega)
    rw [List.append_nil, e]
    exact hs
theorem insRev_perm (ltb : Nat → Nat → Bool) (x : Nat) : ∀ r, (insRev ltb r x).Perm (x :: r)
  | [] => List.Perm.refl _
  | y :: r => by
    rw [insRev]
    split
    · exact ((insRev_perm ltb x r).cons y).trans (List.Perm.swap x y r)
    · exact List.Perm.refl _
theorem insRev_sorted {cf : Nat → Nat → Int} {N : Nat} {pr : Nat → Nat → Prop} (O : Ord cf N pr) {x : Nat} (hx : x < N) : ∀ r, (∀ z ∈ r, z < x) → r.Pairwise (fun u v => pr v u) → (insRev (lt cf) r x).Pairwise (fun u v => pr v u)
  | [], _, _ => List.pairwise_singleton _ _
  | y :: r, hs, hp => by
    have hy := hs y (List.mem_cons_self ..)
    have hc := O.cm hy hx
    rw [List.pairwise_cons] at hp
    rw [insRev]
    split
    · rename_i h
      have hxy := hc.1 (of_decide_eq_true h)
      rw [List.pairwise_cons]
      refine ⟨fun z hz => ?_, insRev_sorted O hx r (fun z hz => hs z (List.mem_cons_of_mem _ hz)) hp.2⟩
      rcases insRev_mem _ _ _ z hz with rfl | hz
      · exact hxy
      · exact hp.1 z hz
    · rename_i h
      have hyx : pr y x := (O.tot (by omega) hx (by omega)).resolve_right fun q => h (decide_eq_true (hc.2 q))
      rw [List.pairwise_cons, List.pairwise_cons]
      refine ⟨fun z hz => ?_, hp⟩
      rcases List.mem_cons.1 hz with rfl | hz
      · exact hyx
      · exact O.tr (hp.1 z hz) hyx
theorem isr_fold {cf : Nat → Nat → Int} {N : Nat} {pr : Nat → Nat → Prop} (O : Ord cf N pr) : ∀ (l i : Nat) (acc : List Nat), i + l ≤ N → (∀ z ∈ acc, z < i) → acc.Pairwise (fun u v => pr v u) → ((List.range' i l).foldl (insRev (lt cf)) acc).Perm (List.range' i l ++ acc) ∧ ((List.range' i l).foldl (insRev (lt cf)) acc).Pairwise (fun u v => pr v u)
  | 0, _, acc, _, _, hp => ⟨List.Perm.refl _, hp⟩
  | l + 1, i, acc, hN, hs, hp => by
    rw [List.range'_succ, List.foldl_cons]
    have h := isr_fold O l (i + 1) (insRev (lt cf) acc i) (by omega) (fun z hz => by
      rcases insRev_mem _ _ _ z hz with rfl | hz
      · omega
      · have := hs z hz; omega) (insRev_sorted O (by omega) acc hs hp)
    refine ⟨h.1.trans ?_, h.2⟩
    refine (List.Perm.append_left _ (insRev_perm (lt cf) i acc)).trans ?_
    exact List.perm_middle
theorem isr_seg {cf : Nat → Nat → Int} {N : Nat} {pr : Nat → Nat → Prop} (O : Ord cf N pr) (i l : Nat) (h : i + l ≤ N) : Seg pr i l (isr (lt cf) (List.range' i l)).reverse := by
  have h2 := isr_fold O l i [] h (fun z hz => by cases hz) List.Pairwise.nil
  rw [List.append_nil] at h2
  exact ⟨(List.reverse_perm _).trans h2.1, List.pairwise_reverse.2 h2.2⟩
theorem parts_runs {pr : Nat → Nat → Prop} {N i l m : Nat} {X A B Y : List Nat} (hX : X.Perm (List.range' 0 i)) (ha : Seg pr i l A) (hb : Seg pr (i + l) m B) (hY : Y.Perm (List.range' (i + l + m) Y.length)) (hN : i + l + m + Y.length = N) : Parts pr N X A B Y where
  len := by
    have h := hX.length_eq
    rw [List.length_range'] at h
    simp only [List.length_append, h, ha.length, hb.length]
    omega
  all := fun z hz => by
    simp only [List.mem_append] at hz
    rcases hz with h | h | h | h
    · have := hX.mem_iff.1 h; rw [List.mem_range'_1] at this; omega
    · have := ha.mem h; omega
    · have := hb.mem h; omega
    · have := hY.mem_iff.1 h; rw [List.mem_range'_1] at this; omega
  sa := ha.2
  sb := hb.2
  ab := fun x hx y hy => by have := ha.mem hx; have := hb.mem hy; omega
end Go.Proofs.Ytekbeaogiagidaa.So
