/- Two sorted parts cut at a symmetric place: what the merging of the halves gives. -/
import Derived.Test.YtekbeaogiagidaaSoLast
namespace Go.Proofs.Ytekbeaogiagidaa.So
set_option linter.unusedVariables false
set_option linter.unusedSimpArgs false
open Go.Shelf Go.RowKit Go.Lib Go.Sort
/-- symMerge's claim for parts of together at most k numbers. -/
def Sym (w0 : World) (blk cap N g : Nat) (cb : Array Value) (pr : Nat → Nat → Prop) (k : Nat) : Prop := ∀ (w : World) (X A B Y : List Nat) (z1 z2 z3 : Int), Parts pr N X A B Y → At w0 blk (X ++ (A ++ (B ++ Y))).toArray w → z1 = (X.length : Int) → z2 = (X.length : Int) + A.length → z3 = (X.length : Int) + A.length + B.length → 0 < A.length → 0 < B.length → A.length + B.length ≤ k →
  Calls Try.prog 38 #[.slice (some ⟨blk, 0, none⟩) N cap, .int .i64 z1, .int .i64 z2, .int .i64 z3, .func (.func g) #[] cb] w (Done pr w0 blk X A B Y)
theorem cross_lo {pr : Nat → Nat → Prop} (tr : ∀ {x y z}, pr x y → pr y z → pr x z) {A B : List Nat} (sa : A.Pairwise pr) (sb : B.Pairwise pr) {h k : Nat} (hh : h < A.length) (hk : k < B.length) (hx : pr A[h] B[k]) : ∀ x ∈ A.take (h + 1), ∀ y ∈ B.drop k, pr x y := fun x h1 => drop_pr (pr := pr) tr sb hk (take_pr (pr := pr) tr sa hh hx x h1)
theorem cross_hi {pr : Nat → Nat → Prop} (tr : ∀ {x y z}, pr x y → pr y z → pr x z) {A B : List Nat} (sa : A.Pairwise pr) (sb : B.Pairwise pr) {h k : Nat} (hh : h < A.length) (hk : k < B.length) (hx : pr B[k] A[h]) : ∀ y ∈ B.take (k + 1), ∀ x ∈ A.drop h, pr y x := fun y h1 => drop_pr (pr := pr) tr sa hh (take_pr (pr := pr) tr sb hk hx y h1)
structure Cut (w0 : World) (blk cap N g : Nat) (cb : Array Value) (pr : Nat → Nat → Prop) (X A B Y : List Nat) (a p q s t : Nat) : Prop where
  rot : 0 < t → s < p → ∀ fv w, At w0 blk (X ++ (A ++ (B ++ Y))).toArray w → Calls Try.prog 42 #[.slice (some ⟨blk, 0, none⟩) N cap, .int .i64 ((a : Int) + (s : Int)), .int .i64 ((a : Int) + (p : Int)), .int .i64 ((a : Int) + (p : Int) + (t : Int)), fv] w fun e w' => e = .returned (.tuple #[]) ∧ At w0 blk (X ++ ((A.take s ++ B.take t) ++ (A.drop s ++ (B.drop t ++ Y)))).toArray w'
  norot : ¬ (0 < t ∧ s < p) → ∀ w, At w0 blk (X ++ (A ++ (B ++ Y))).toArray w → At w0 blk (X ++ ((A.take s ++ B.take t) ++ (A.drop s ++ (B.drop t ++ Y)))).toArray w
  one : 0 < s → 0 < t → ∀ w, At w0 blk (X ++ ((A.take s ++ B.take t) ++ (A.drop s ++ (B.drop t ++ Y)))).toArray w → Calls Try.prog 38 #[.slice (some ⟨blk, 0, none⟩) N cap, .int .i64 (a : Int), .int .i64 ((a : Int) + (s : Int)), .int .i64 ((a : Int) + (s : Int) + (t : Int)), .func (.func g) #[] cb] w fun e w' => e = .returned (.tuple #[]) ∧ ∃ M, Mg pr (A.take s) (B.take t) M ∧ At w0 blk (X ++ (M ++ (A.drop s ++ (B.drop t ++ Y)))).toArray w'
  noone : ¬ (0 < s ∧ 0 < t) → Mg pr (A.take s) (B.take t) (A.take s ++ B.take t)
  two : s < p → t < q → ∀ M w, Mg pr (A.take s) (B.take t) M → At w0 blk (X ++ (M ++ (A.drop s ++ (B.drop t ++ Y)))).toArray w → Calls Try.prog 38 #[.slice (some ⟨blk, 0, none⟩) N cap, .int .i64 ((a : Int) + (s : Int) + (t : Int)), .int .i64 ((a : Int) + (p : Int) + (t : Int)), .int .i64 ((a : Int) + (p : Int) + (q : Int)), .func (.func g) #[] cb] w (Done pr w0 blk X A B Y)
  notwo : ¬ (s < p ∧ t < q) → ∀ M w, Mg pr (A.take s) (B.take t) M → At w0 blk (X ++ (M ++ (A.drop s ++ (B.drop t ++ Y)))).toArray w → Done pr w0 blk X A B Y (.returned (.tuple #[])) w
theorem Mg.nil_left {pr : Nat → Nat → Prop} {B : List Nat} (sb : B.Pairwise pr) : Mg pr [] B ([] ++ B) := ⟨List.Perm.refl _, sb⟩
theorem Mg.nil_right {pr : Nat → Nat → Prop} {A : List Nat} (sa : A.Pairwise pr) : Mg pr A [] (A ++ []) := ⟨List.Perm.refl _, by rw [List.append_nil]; exact sa⟩
theorem Mg.joined {pr : Nat → Nat → Prop} {A B : List Nat} {s t : Nat} (sa : A.Pairwise pr) (sb : B.Pairwise pr) (H1 : ∀ x ∈ A.take s, ∀ y ∈ B.drop t, pr x y) (H2 : ∀ y ∈ B.take t, ∀ x ∈ A.drop s, pr y x) {M1 M2 : List Nat} (m1 : Mg pr (A.take s) (B.take t) M1) (m2 : Mg pr (A.drop s) (B.drop t) M2) : Mg pr A B (M1 ++ M2) := by
  constructor
  · refine (m1.1.append m2.1).trans ?_
    have e1 : A.take s ++ A.drop s = A := List.take_append_drop s A
    have e2 : B.take t ++ B.drop t = B := List.take_append_drop t B
    have h : (A.take s ++ B.take t ++ (A.drop s ++ B.drop t)).Perm (A.take s ++ A.drop s ++ (B.take t ++ B.drop t)) := by
      simp only [List.append_assoc]
      refine List.Perm.append_left _ ?_
      simp only [← List.append_assoc]
      exact List.Perm.append_right _ List.perm_append_comm
    rw [e1, e2] at h
    exact h
  · have a1 := sa
    have b1 := sb
    rw [← List.take_append_drop s A, List.pairwise_append] at a1
    rw [← List.take_append_drop t B, List.pairwise_append] at b1
    rw [List.pairwise_append]
    refine ⟨m1.2, m2.2, fun x hx y hy => ?_⟩
    rcases List.mem_append.1 (m1.1.mem_iff.1 hx) with h1 | h1 <;> rcases List.mem_append.1 (m2.1.mem_iff.1 hy) with h2 | h2
    · exact a1.2.2 x h1 y h2
    · exact H1 x h1 y h2
    · exact H2 x h1 y h2
    · exact b1.2.2 x h1 y h2
theorem Parts.lo {pr : Nat → Nat → Prop} {N : Nat} {X A B Y : List Nat} (Q : Parts pr N X A B Y) (s t : Nat) : Parts pr N X (A.take s) (B.take t) (A.drop s ++ (B.drop t ++ Y)) where
  len := by
    have h := Q.len
    simp only [List.length_append, List.length_take, List.length_drop] at h ⊢
    omega
  all := fun z hz => Q.all z (by
    simp only [List.mem_append] at hz ⊢
    rcases hz with h | h | h | h | h | h
    · exact .inl h
    · exact .inr (.inl (List.mem_of_mem_take h))
    · exact .inr (.inr (.inl (List.mem_of_mem_take h)))
    · exact .inr (.inl (List.mem_of_mem_drop h))
    · exact .inr (.inr (.inl (List.mem_of_mem_drop h)))
    · exact .inr (.inr (.inr h)))
  sa := Q.sa.sublist (List.take_sublist _ _)
  sb := Q.sb.sublist (List.take_sublist _ _)
  ab := fun x hx y hy => Q.ab x (List.mem_of_mem_take hx) y (List.mem_of_mem_take hy)
theorem Parts.hi {pr : Nat → Nat → Prop} {N : Nat} {X A B Y : List Nat} (Q : Parts pr N X A B Y) {s t : Nat} {M : List Nat} (m : Mg pr (A.take s) (B.take t) M) : Parts pr N (X ++ M) (A.drop s) (B.drop t) Y where
  len := by
    have h := Q.len
    have h2 := m.1.length_eq
    simp only [List.length_append, List.length_take, List.length_drop] at h h2 ⊢
    omega
  all := fun z hz => Q.all z (by
    simp only [List.mem_append] at hz ⊢
    rcases hz with (h | h) | h | h | h
    · exact .inl h
    · rcases List.mem_append.1 (m.1.mem_iff.1 h) with h | h
      · exact .inr (.inl (List.mem_of_mem_take h))
      · exact .inr (.inr (.inl (List.mem_of_mem_take h)))
    · exact .inr (.inl (List.mem_of_mem_drop h))
    · exact .inr (.inr (.inl (List.mem_of_mem_drop h)))
    · exact .inr (.inr (.inr h)))
  sa := Q.sa.sublist (List.drop_sublist _ _)
  sb := Q.sb.sublist (List.drop_sublist _ _)
  ab := fun x hx y hy => Q.ab x (List.mem_of_mem_drop hx) y (List.mem_of_mem_drop hy)
theorem cut_rot {A : List Nat} {B Y X : List Nat} (s t : Nat) : X ++ (A ++ (B ++ Y)) = (X ++ A.take s) ++ (A.drop s ++ (B.take t ++ (B.drop t ++ Y))) := by
  have e1 : A.take s ++ A.drop s = A := List.take_append_drop s A
  have e2 : B.take t ++ B.drop t = B := List.take_append_drop t B
  conv => lhs; rw [← e1, ← e2]
  simp only [List.append_assoc]
theorem cut_of (w0 : World) (blk cap N g : Nat) (cb : Array Value) (pr : Nat → Nat → Prop) (X A B Y : List Nat) (a p q s t k : Nat) (R : Row w0 blk N) (I : Sym w0 blk cap N g cb pr k) (Q : Parts pr N X A B Y) (ha : a = X.length) (hp : p = A.length) (hq : q = B.length) (hk : p + q ≤ k + 1) (hsp : s ≤ p) (htq : t ≤ q) (h1 : s + t < p + q) (h0 : 0 < s + t)
    (H1 : ∀ x ∈ A.take s, ∀ y ∈ B.drop t, pr x y) (H2 : ∀ y ∈ B.take t, ∀ x ∈ A.drop s, pr y x) : Cut w0 blk cap N g cb pr X A B Y a p q s t where
  rot := fun ht hs fv w S => by
    rw [cut_rot s t] at S
    refine (rotate_calls w0 w blk cap N (X ++ A.take s) (A.drop s) (B.take t) (B.drop t ++ Y) _ _ _ fv R ?_ ?_ ?_ ?_ ?_ ?_ S).mono ?_
    · simp only [List.length_append, List.length_take]; omega
    · simp only [List.length_append, List.length_take, List.length_drop]; omega
    · simp only [List.length_append, List.length_take, List.length_drop]; omega
    · simp only [List.length_drop]; omega
    · simp only [List.length_take]; omega
    · rw [← cut_rot s t]; exact Q.len
    · rintro e w' ⟨he, hw⟩
      refine ⟨he, ?_⟩
      simp only [List.append_assoc] at hw ⊢
      exact hw
  norot := fun hn w S => by
    rw [cut_rot s t] at S
    have hc : t = 0 ∨ s = p := by omega
    rcases hc with rfl | rfl
    · simp only [List.take_zero, List.append_assoc, List.nil_append] at S ⊢
      exact S
    · rw [hp, List.drop_length] at S ⊢
      simp only [List.append_assoc, List.nil_append, List.append_nil] at S ⊢
      exact S
  one := fun hs ht w S => by
    simp only [List.append_assoc] at S
    refine (I w X (A.take s) (B.take t) (A.drop s ++ (B.drop t ++ Y)) _ _ _ (Q.lo s t) S ?_ ?_ ?_ ?_ ?_ ?_).mono ?_
    all_goals try simp only [List.length_take]
    any_goals omega
    exact fun e w' h => h
  noone := fun hn => by
    have hc : s = 0 ∨ t = 0 := by omega
    rcases hc with rfl | rfl
    · exact Mg.nil_left (Q.sb.sublist (List.take_sublist _ _))
    · exact Mg.nil_right (Q.sa.sublist (List.take_sublist _ _))
  two := fun hs ht M w m S => by
    have hl := m.1.length_eq
    simp only [List.length_append, List.length_take] at hl
    refine (I w (X ++ M) (A.drop s) (B.drop t) Y _ _ _ (Q.hi m) (by simp only [List.append_assoc]; exact S) ?_ ?_ ?_ ?_ ?_ ?_).mono ?_
    all_goals try simp only [List.length_append, List.length_drop]
    any_goals omega
    rintro e w' ⟨he, M2, m2, S2⟩
    exact ⟨he, M ++ M2, m.joined Q.sa Q.sb H1 H2 m2, by simp only [List.append_assoc] at S2 ⊢; exact S2⟩
  notwo := fun hn M w m S => by
    refine ⟨rfl, M ++ (A.drop s ++ B.drop t), m.joined Q.sa Q.sb H1 H2 ?_, by simp only [List.append_assoc]; exact S⟩
    have hc : s = p ∨ t = q := by omega
    rcases hc with rfl | rfl
    · rw [hp, List.drop_length]
      exact Mg.nil_left (Q.sb.sublist (List.drop_sublist _ _))
    · rw [hq, List.drop_length]
      exact Mg.nil_right (Q.sa.sublist (List.drop_sublist _ _))
end Go.Proofs.Ytekbeaogiagidaa.So
