import Derived.Test.YteflngoiebgdaaaX0
import Derived.Test.YteflngoiebgdaaaX9
import Derived.Test.YteflngoiebgdaaaX10
import Derived.Test.YteflngoiebgdaaaX25
namespace Go.Proofs.Yteflngoiebgdaaa.X
open Go.RowKit YteflngoiebgdaaaW.PrintWords YteflngoiebgdaaaW.PrintLast YteflngoiebgdaaaW.PrintMore
attribute [local go_sem] max2_int min2_int max_two min_two max_three min_three max_four min_four
set_option linter.unusedVariables false
set_option linter.unusedSimpArgs false

/-! ### collide_First: function 15 -/
/-! #### First, told plainly -/
def collide_First.pick {α : Type} : List α → List Bool → Option α
  | x :: l, b :: bs => if b = true then some x else collide_First.pick l bs
  | _, _ => none
def collide_First.tick (k : Nat) (l0 : List S43) (l1 : List Int) (l2 : List S62) (t : Nat) (p : Nat × Nat) : Option Bool := collide_meet.f k l0 l1 l2 (p.1 : Int) (p.2 : Int) (t : Int)
def collide_First.ticks (k : Nat) (l0 : List S43) (l1 : List Int) (l2 : List S62) : Nat → Nat → Option (Int × Int × Int)
  | 0, _ => some (-1, 0, 0)
  | d + 1, t => (collide_pairs.all (collide_First.tick k l0 l1 l2 t) (collide_pairs.prs collide_pairs.mk l0.length)).bind fun bs =>
    match collide_First.pick (collide_pairs.prs collide_pairs.mk l0.length) bs with
    | some p => some ((t : Int), (p.1 : Int), (p.2 : Int))
    | none => collide_First.ticks k l0 l1 l2 d (t + 1)
def collide_First.f (k : Nat) (l0 : List S43) (l1 : List Int) (l2 : List S62) : Option (Int × Int × Int × Int) :=
  (collide_Check.f k l0 l1 l2).bind fun e => if e = 0 then (collide_length.f l0).bind fun n => (if l0.length ≤ 1000000 ∧ n ≤ 1000000 then
      (collide_First.ticks k l0 l1 l2 n.toNat 0).bind fun h => some (h.1, h.2.1, h.2.2, 0) else none) else some (0, 0, 0, e)
theorem collide_First.ticks_mono (k : Nat) (l0 : List S43) (l1 : List Int) (l2 : List S62) : ∀ d t, LeO (collide_First.ticks k l0 l1 l2 d t) (collide_First.ticks (k + 1) l0 l1 l2 d t)
  | 0, _ => LeO.refl _
  | d + 1, t => LeO.bind (collide_pairs.all_mono (fun p => collide_meet.mono _ _ _ _ _ _ _) _) (fun bs => by
    cases collide_First.pick (collide_pairs.prs collide_pairs.mk l0.length) bs with
    | some p => exact LeO.refl _
    | none => exact collide_First.ticks_mono k l0 l1 l2 d (t + 1))
theorem collide_First.mono : ∀ a0 a1 a2 k, LeO (collide_First.f k a0 a1 a2) (collide_First.f (k + 1) a0 a1 a2) := by
  intro a0 a1 a2 k
  unfold collide_First.f
  exact LeO.bind (collide_Check.mono _ _ _ _) (fun e => LeO.ite (LeO.bind (LeO.refl _) (fun n => LeO.ite (LeO.bind (collide_First.ticks_mono _ _ _ _ _ _) (fun _ => LeO.refl _)) (LeO.refl _))) (LeO.refl _))
theorem collide_First.pick_map {α : Type} (M : α → Bool) : ∀ l : List α, collide_First.pick l (l.map M) = l.find? M
  | [] => rfl
  | x :: l => by
    show (if M x = true then some x else collide_First.pick l (l.map M)) = _
    rw [List.find?_cons, collide_First.pick_map M l]
    cases M x <;> rfl
theorem collide_First.rows_cut {α : Type} (g : Nat → Nat → α) (n : Nat) : ∀ a c, a ≤ c → ∃ rest, collide_pairs.rows g n c = collide_pairs.rows g n a ++ rest
  | a, 0, h => by obtain rfl : a = 0 := by omega
                  exact ⟨[], (List.append_nil _).symm⟩
  | a, c + 1, h => by
    rcases Nat.lt_or_ge a (c + 1) with h1 | h1
    · obtain ⟨r, hr⟩ := collide_First.rows_cut g n a c (by omega)
      exact ⟨r ++ collide_pairs.part g c n, by show collide_pairs.rows g n c ++ _ = _; rw [hr, List.append_assoc]⟩
    · obtain rfl : a = c + 1 := by omega
      exact ⟨[], (List.append_nil _).symm⟩
theorem collide_First.part_cut {α : Type} (g : Nat → Nat → α) (a b : Nat) (h : a + 1 ≤ b) : ∀ n, b < n → ∃ rest, collide_pairs.part g a n = collide_pairs.part g a b ++ g a b :: rest
  | 0, h0 => absurd h0 (by omega)
  | n + 1, h0 => by
    rw [collide_pairs.part_succ g a n (by omega)]
    rcases Nat.lt_or_ge b n with h1 | h1
    · obtain ⟨r, hr⟩ := collide_First.part_cut g a b h n h1
      exact ⟨r ++ [g a n], by rw [hr, List.append_assoc]; rfl⟩
    · obtain rfl : b = n := by omega
      exact ⟨[], rfl⟩
theorem collide_First.prs_cut {α : Type} (g : Nat → Nat → α) (a b n : Nat) (h : a + 1 ≤ b) (hb : b < n) : ∃ rest, collide_pairs.prs g n = (collide_pairs.rows g n a ++ collide_pairs.part g a b) ++ g a b :: rest := by
  obtain ⟨r1, h1⟩ := collide_First.rows_cut g n (a + 1) n (by omega)
  obtain ⟨r2, h2⟩ := collide_First.part_cut g a b h n hb
  refine ⟨r2 ++ r1, ?_⟩
  unfold collide_pairs.prs
  rw [h1]
  show (collide_pairs.rows g n a ++ collide_pairs.part g a n) ++ r1 = _
  rw [h2]
  simp
/-- What was asked of the pairs ahead was no, of this one yes: it is the first. -/
theorem collide_First.found (M : Nat × Nat → Bool) (n a b : Nat) (h : a + 1 ≤ b) (hb : b < n) (hno : ∀ p ∈ collide_pairs.rows collide_pairs.mk n a ++ collide_pairs.part collide_pairs.mk a b, M p = false) (hy : M (a, b) = true) : (collide_pairs.prs collide_pairs.mk n).find? M = some (a, b) := by
  obtain ⟨r, hr⟩ := collide_First.prs_cut collide_pairs.mk a b n h hb
  rw [hr, List.find?_append, List.find?_eq_none.2 (fun p hp => by rw [hno p hp]; decide)]
  show ((collide_pairs.mk a b) :: r).find? M = _
  rw [List.find?_cons, show M (collide_pairs.mk a b) = true from hy]
/-! #### the marks of the loops over the iterator that are behind -/
def collide_First.Marks (B : Nat) : List Deferred → World → Prop
  | [], _ => True
  | d :: ds, W => (∃ D, B ≤ D ∧ d = { target := .collected D, args := #[] } ∧ W.heap[D]? = some (.deferred (some [])) ∧ (∀ d' ∈ ds, d' ≠ d)) ∧ collide_First.Marks B ds W
theorem collide_First.marks_keep {B : Nat} {W W' : World} (h : ∀ D, B ≤ D → W.heap[D]? = some (.deferred (some [])) → W'.heap[D]? = some (.deferred (some []))) : ∀ ds, collide_First.Marks B ds W → collide_First.Marks B ds W'
  | [], _ => trivial
  | d :: ds, ⟨⟨D, h1, h2, h3, h4⟩, k⟩ => ⟨⟨D, h1, h2, h D h1 h3, h4⟩, collide_First.marks_keep h ds k⟩
theorem collide_First.marks_put {B D : Nat} {W : World} (o : Obj) : ∀ ds, (∀ d' ∈ ds, d' ≠ ({ target := .collected D, args := #[] } : Deferred)) → collide_First.Marks B ds W → collide_First.Marks B ds (W.putObj D o)
  | [], _, _ => trivial
  | d :: ds, hn, ⟨⟨E, h1, h2, h3, h4⟩, k⟩ => ⟨⟨E, h1, h2, (World.putObj_heap_other (by rintro rfl; exact hn d (List.mem_cons_self ..) h2)).trans h3, h4⟩, collide_First.marks_put o ds (fun d' hd => hn d' (List.mem_cons_of_mem _ hd)) k⟩
theorem collide_First.marks_lt {B : Nat} {W : World} : ∀ ds, collide_First.Marks B ds W → ∀ d ∈ ds, ∃ D, d = ({ target := .collected D, args := #[] } : Deferred) ∧ D < W.heap.size
  | [], _, _, h => by cases h
  | d :: ds, ⟨⟨D, h1, h2, h3, h4⟩, k⟩, d', h => by
    rcases List.mem_cons.1 h with rfl | h
    · exact ⟨D, h2, (Array.getElem?_eq_some_iff.1 h3).1⟩
    · exact collide_First.marks_lt ds k d' h
theorem collide_First.marks_cons {B D : Nat} {w W : World} {ds : List Deferred} (h0 : collide_First.Marks B ds w) (hD : w.heap.size ≤ D) (hB : B ≤ D) (h : collide_First.Marks B ds W) (hh : W.heap[D]? = some (.deferred (some []))) : collide_First.Marks B ({ target := .collected D, args := #[] } :: ds) W :=
  ⟨⟨D, hB, rfl, hh, fun d' hd e => by
    obtain ⟨E, h1, h2⟩ := collide_First.marks_lt ds h0 d' hd
    rw [e] at h1
    injection h1 with h1
    injection h1 with h1
    omega⟩, h⟩
theorem collide_First.marks_own {β : Type} {B base : Nat} : ∀ ds, (∀ d ∈ ds, ∃ D, d = ({ target := .collected D, args := #[] } : Deferred) ∧ D < base) → OwnFrom base (fun (_ : β) W => collide_First.Marks B ds W)
  | [], _ => fun _ _ _ _ _ _ _ => trivial
  | d :: ds, hl => fun s W W' row ⟨⟨D, h1, h2, h3, h4⟩, k⟩ hg hr => ⟨⟨D, h1, h2, (hg.block D (Array.getElem?_eq_some_iff.1 h3).1 (fun e => by
      obtain ⟨E, h5, h6⟩ := hl d (List.mem_cons_self ..)
      rw [h2] at h5
      injection h5 with h5
      injection h5 with h5
      have := (hr D e.symm).1
      omega)).trans h3, h4⟩, collide_First.marks_own (β := β) ds (fun d' hd => hl d' (List.mem_cons_of_mem _ hd)) s W W' row k hg hr⟩
theorem collide_First.leaves {F : Fence} {n : Nat} {P : Program} {fn : Func} {tmps : Array Value} {R : Ending → World → Prop} (B : Nat) (T : World → Prop) (hT : ∀ W D, T W → B ≤ D → W.heap[D]? = some (.deferred (some [])) → T (W.putObj D (.deferred none)))
    (hend : ∀ W, T W → ∃ v, (results fn tmps).run P W = .ok v W ∧ R (.returned v) W) : ∀ ds W, collide_First.Marks B ds W → T W → LeavesInM F n P fn tmps R ds .returning W
  | [], W, _, h => hend W h
  | d :: ds, W, ⟨⟨D, h1, h2, h3, h4⟩, k⟩, h => by
    subst h2
    exact ⟨by simp, .inl ⟨D, _, rfl, run_takeDeferred h3, collide_First.leaves B T hT hend ds _ (collide_First.marks_put _ ds h4 k) (hT W D h h1 h3)⟩⟩
theorem collide_First.marks_bel {B : Nat} {W W' : World} (hb : Below W.heap.size W W') {ds : List Deferred} (h : collide_First.Marks B ds W) : collide_First.Marks B ds W' :=
  collide_First.marks_keep (fun D _ hh => (hb.block D (Array.getElem?_eq_some_iff.1 hh).1).trans hh) ds h
theorem collide_First.marks_set {B g j t : Nat} {W : World} {v : Value} {c : Array Value} {f : Nat × Nat} (hg : W.heap[g]? = some (.cells c t f)) {ds : List Deferred} (h : collide_First.Marks B ds W) : collide_First.Marks B ds (W.setCell ⟨g, j, none⟩ v) :=
  collide_First.marks_keep (fun D _ hh => (Below.heap_setCell W ⟨g, j, none⟩ v D (by rintro rfl; rw [hg] at hh; cases hh)).trans hh) ds h
theorem collide_First.ownPure {β : Type} (B : Nat) (p : β → Prop) : OwnFrom B (fun s (_ : World) => p s) := fun _ _ _ _ hs _ _ => hs
def collide_First.no (n : Nat) (M : Nat × Nat → Bool) (pre : List (Nat × Nat)) : Prop := ∀ p ∈ pre.map (collide_pairs.cl n), M p = false
theorem collide_First.no_snoc {n : Nat} {M : Nat × Nat → Bool} {pre : List (Nat × Nat)} {q : Nat × Nat} (h : collide_First.no n M pre) (hq : M (collide_pairs.cl n q) = false) : collide_First.no n M (pre ++ [q]) := by
  intro p hp
  rw [List.map_append, List.mem_append] at hp
  rcases hp with hp | hp
  · exact h p hp
  · obtain rfl := List.mem_singleton.1 hp
    exact hq
def collide_First.got (n : Nat) (M : Nat × Nat → Bool) (pre : List (Nat × Nat)) : Prop := ∃ pre0 q, pre = pre0 ++ [q] ∧ collide_First.no n M pre0 ∧ M (collide_pairs.cl n q) = true
def collide_First.hit (n t : Nat) (pre : List (Nat × Nat)) : Array Value := #[.int .i64 (t : Int), .int .i64 ((collide_pairs.cl n (pre.getLastD (0, 1))).1 : Int), .int .i64 ((collide_pairs.cl n (pre.getLastD (0, 1))).2 : Int)]
theorem collide_First.hit_snoc (n t : Nat) (pre : List (Nat × Nat)) (q : Nat × Nat) : collide_First.hit n t (pre ++ [q]) = #[.int .i64 (t : Int), .int .i64 ((collide_pairs.cl n q).1 : Int), .int .i64 ((collide_pairs.cl n q).2 : Int)] := by
  unfold collide_First.hit
  rw [List.getLastD_concat]
theorem collide_First.no_prs {n : Nat} {M : Nat × Nat → Bool} (h : collide_First.no n M (collide_pairs.prs collide_pairs.mk n)) : (collide_pairs.prs collide_pairs.mk n).find? M = none := by
  unfold collide_First.no at h
  rw [collide_pairs.cl_id n _ (fun p hp => collide_pairs.prs_mem hp)] at h
  exact List.find?_eq_none.2 (fun p hp => by rw [h p hp]; decide)
theorem collide_First.got_prs {n a b : Nat} {M : Nat × Nat → Bool} (hab : a + 1 ≤ b) (hb : b < n) (h : collide_First.got n M ((collide_pairs.rows collide_pairs.mk n a ++ collide_pairs.part collide_pairs.mk a b) ++ [collide_pairs.mk a b])) : (collide_pairs.prs collide_pairs.mk n).find? M = some (a, b) := by
  obtain ⟨pre0, q, he, hno, hy⟩ := h
  obtain ⟨e1, e2⟩ := List.append_inj' he rfl
  injection e2 with e2
  subst e1
  subst e2
  rw [show collide_pairs.cl n (collide_pairs.mk a b) = (a, b) from collide_pairs.cl_of a b hab hb] at hy
  refine collide_First.found M n a b hab hb ?_ hy
  unfold collide_First.no at hno
  rw [collide_pairs.cl_id n _ (fun p hp => ?_)] at hno
  · exact hno
  · rcases List.mem_append.1 hp with hp | hp
    · exact collide_pairs.rows_mem a hp
    · have := collide_pairs.part_mem (n := n) hp; omega
theorem collide_First.ticks_at {k : Nat} {l0 : List S43} {l1 : List Int} {l2 : List S62} {d t : Nat} {o : Int × Int × Int} (h : collide_First.ticks k l0 l1 l2 (d + 1) t = some o) : ∃ M : Nat × Nat → Bool, (∀ p, p.1 < p.2 ∧ p.2 < l0.length → collide_First.tick k l0 l1 l2 t p = some (M p)) ∧
    (∀ p, (collide_pairs.prs collide_pairs.mk l0.length).find? M = some p → o = ((t : Int), (p.1 : Int), (p.2 : Int))) ∧ ((collide_pairs.prs collide_pairs.mk l0.length).find? M = none → collide_First.ticks k l0 l1 l2 d (t + 1) = some o) := by
  obtain ⟨bs, hbs, h⟩ := Option.bind_eq_some_iff.1 h
  have hM := collide_pairs.all_get hbs false
  subst hM
  rw [collide_First.pick_map] at h
  refine ⟨fun p => (collide_First.tick k l0 l1 l2 t p).getD false, fun p hp => ?_, fun p hp => ?_, fun hp => ?_⟩
  · obtain ⟨y, hy⟩ := collide_pairs.all_at hbs p (collide_pairs.mem_prs hp.1 hp.2)
    dsimp only
    rw [hy]
    rfl
  · rw [hp] at h
    exact (Option.some.inj h).symm
  · rw [hp] at h
    exact h
/-! #### the boxes of First -/
structure collide_First.S (g3 g4 g5 g6 g9 : Nat) (s0 s1 s2 : Value) (h : Array Value) (W : World) : Prop where
  b3 : Boxed W g3 22 s0
  b4 : Boxed W g4 23 s1
  b5 : Boxed W g5 24 s2
  b6 : W.heap[g6]? = some (.cells #[.int .i64 0, .int .i64 0, .int .i64 0] 30 (0, 0))
  b9 : W.heap[g9]? = some (.cells h 30 (0, 0))
theorem collide_First.S.bel {g3 g4 g5 g6 g9 : Nat} {s0 s1 s2 : Value} {h : Array Value} {W W' : World} (s : collide_First.S g3 g4 g5 g6 g9 s0 s1 s2 h W) (hb : Below W.heap.size W W') : collide_First.S g3 g4 g5 g6 g9 s0 s1 s2 h W' :=
  ⟨blk_below s.b3 hb, blk_below s.b4 hb, blk_below s.b5 hb, blk_below s.b6 hb, blk_below s.b9 hb⟩
theorem collide_First.S.alloc {g3 g4 g5 g6 g9 : Nat} {s0 s1 s2 : Value} {h : Array Value} {W : World} (s : collide_First.S g3 g4 g5 g6 g9 s0 s1 s2 h W) (o : Obj) : collide_First.S g3 g4 g5 g6 g9 s0 s1 s2 h (W.alloc o) := s.bel ((Below.refl _ W).alloc (Nat.le_refl _) o)
theorem collide_First.S.far {g3 g4 g5 g6 g9 : Nat} {s0 s1 s2 : Value} {h : Array Value} {W : World} (s : collide_First.S g3 g4 g5 g6 g9 s0 s1 s2 h W) {g : Nat} (hg : W.heap.size ≤ g) (j : Nat) (v : Value) : collide_First.S g3 g4 g5 g6 g9 s0 s1 s2 h (W.setCell ⟨g, j, none⟩ v) := s.bel ((Below.refl _ W).setCell (p := ⟨g, j, none⟩) hg v)
theorem collide_First.S.set {g3 g4 g5 g6 g9 : Nat} {s0 s1 s2 a b c x y z : Value} {W : World} (s : collide_First.S g3 g4 g5 g6 g9 s0 s1 s2 #[a, b, c] W) (n3 : g3 ≠ g9) (n4 : g4 ≠ g9) (n5 : g5 ≠ g9) (n6 : g6 ≠ g9) :
    collide_First.S g3 g4 g5 g6 g9 s0 s1 s2 #[x, y, z] (((W.setCell ⟨g9, 0, none⟩ x).setCell ⟨g9, 1, none⟩ y).setCell ⟨g9, 2, none⟩ z) :=
  ⟨blk_far (blk_far (blk_far s.b3 (p := ⟨g9, 0, none⟩) n3 x) (p := ⟨g9, 1, none⟩) n3 y) (p := ⟨g9, 2, none⟩) n3 z, blk_far (blk_far (blk_far s.b4 (p := ⟨g9, 0, none⟩) n4 x) (p := ⟨g9, 1, none⟩) n4 y) (p := ⟨g9, 2, none⟩) n4 z, blk_far (blk_far (blk_far s.b5 (p := ⟨g9, 0, none⟩) n5 x) (p := ⟨g9, 1, none⟩) n5 y) (p := ⟨g9, 2, none⟩) n5 z,
    blk_far (blk_far (blk_far s.b6 (p := ⟨g9, 0, none⟩) n6 x) (p := ⟨g9, 1, none⟩) n6 y) (p := ⟨g9, 2, none⟩) n6 z,
    blk_put (blk_put (blk_put s.b9 0 x rfl) 1 y rfl) 2 z rfl⟩
theorem collide_First.S.own {β : Type} {B g3 g4 g5 g6 g9 : Nat} {s0 s1 s2 : Value} (h : β → Array Value) : OwnFrom B (fun (b : β) W => collide_First.S g3 g4 g5 g6 g9 s0 s1 s2 (h b) W) := fun _ W W' row s hg hr =>
  ⟨(grownBy_keeps_cells hg (fun r e => (hr r e).2) s.b3 rfl).trans s.b3, (grownBy_keeps_cells hg (fun r e => (hr r e).2) s.b4 rfl).trans s.b4, (grownBy_keeps_cells hg (fun r e => (hr r e).2) s.b5 rfl).trans s.b5, (grownBy_keeps_cells hg (fun r e => (hr r e).2) s.b6 rfl).trans s.b6, (grownBy_keeps_cells hg (fun r e => (hr r e).2) s.b9 rfl).trans s.b9⟩
/-- The function's end: the hit is handed over, the marks go. -/
theorem collide_First.finish {tmps : Array Value} {x y z : Int} {g6 : Nat} {w W : World} {ds : List Deferred} {o : Int × Int × Int} (hp : tmps.getD 6 undef = .pointer (some ⟨g6, 0, none⟩)) (h7 : tmps.getD 7 undef = .int .i64 0) (b6 : W.heap[g6]? = some (.cells #[.int .i64 0, .int .i64 0, .int .i64 0] 30 (0, 0)))
    (HB : Below w.heap.size w W) (h06 : w.heap.size ≤ g6) (HM : collide_First.Marks w.heap.size ds W) (ho : o = (x, y, z)) : LeavesInM Fence.wide 9 Try.prog Try.f15 tmps (fun x' w' => x' = .returned (.tuple #[.agg #[.int .i64 o.1, .int .i64 o.2.1, .int .i64 o.2.2], .int .i64 0]) ∧ Below w.heap.size w w') ds .returning (((W.setCell ⟨g6, 0, none⟩ (.int .i64 x)).setCell ⟨g6, 1, none⟩ (.int .i64 y)).setCell ⟨g6, 2, none⟩ (.int .i64 z)) := by
  subst ho
  have hu30 := Try.underlying30
  have c1 := blk_put (cs' := #[.int .i64 x, .int .i64 0, .int .i64 0]) b6 0 (.int .i64 x) rfl
  have c2 := blk_put (cs' := #[.int .i64 x, .int .i64 y, .int .i64 0]) c1 1 (.int .i64 y) rfl
  have c3 := blk_put (cs' := #[.int .i64 x, .int .i64 y, .int .i64 z]) c2 2 (.int .i64 z) rfl
  refine collide_First.leaves w.heap.size (fun W' => W'.heap[g6]? = some (.cells #[.int .i64 x, .int .i64 y, .int .i64 z] 30 (0, 0)) ∧ Below w.heap.size w W') (fun W' D h hB hh => ⟨(World.putObj_heap_other (by rintro rfl; rw [h.1] at hh; cases hh)).trans h.1, h.2.trans (belowK_b (w := w) (Nat.le_refl _) W' D _ _ hB hh rfl rfl)⟩) (fun W' h => ?_) ds _ (collide_First.marks_set c2 (collide_First.marks_set c1 (collide_First.marks_set b6 HM))) ⟨c3, by repeat (first | exact HB | refine bS ?_ h06)⟩
  refine ⟨_, results_ct rfl tmps W' g6 30 _ (0, 0) _ hp h.1 hu30 rfl qz, ?_, h.2⟩
  rw [h7]

set_option maxHeartbeats 8000000 in
set_option maxRecDepth 100000 in
theorem collide_First.leaf0 (k : Nat) (A0 : Option Addr) (c0 : Nat) (l0 : List S43) (A1 : Option Addr) (c1 : Nat) (l1 : List Int) (A2 : Option Addr) (c2 : Nat) (l2 : List S62) (e : Int) (w : World) (HR0 : Aside0 (Kd.C k43 w A0 l0.length l0)) (HC0 : l0.length ≤ c0) (HR1 : Aside0 (Kd.C (Kd.int .i64) w A1 l1.length l1)) (HC1 : l1.length ≤ c1) (HR2 : Aside0 (Kd.C k62 w A2 l2.length l2)) (HC2 : l2.length ≤ c2)
    (A : Aside0 (collide_Check.f k l0 l1 l2 = some e)) (he : (e == 0) = false) (he' : (e != 0) = true) :
    Calls Try.prog 15 #[.slice A0 l0.length c0, .slice A1 l1.length c1, .slice A2 l2.length c2] w fun x w' => x = .returned (.tuple #[.agg #[.int .i64 0, .int .i64 0, .int .i64 0], .int .i64 e]) ∧ Below w.heap.size w w' := by
  have HB := am (Below.refl w.heap.size w)
  have HC0 := am HC0
  have HC1 := am HC1
  have HC2 := am HC2
  have hu30 := Try.underlying30
  go_enter Try.func15, Try.ntmps15
  go_wp2_with (first
    | ((with_reducible refine gate_dst (N := 3) rfl ?_); refine box_event yz (N := 3) yz (cs := #[.slice A0 l0.length c0]) (t := 22) gz ?_; intro g3 hg w1 hbox hb; have BK3 := am hbox; have GE3 := gwz (g := g3) HB hg; replace HB := am (below_step bz hb); clear hb hbox hg; obtain ⟨hcz3, hfz3⟩ := kc1 BK3.out)
    | ((with_reducible refine gate_dst (N := 4) rfl ?_); refine box_event yz (N := 4) yz (cs := #[.slice A1 l1.length c1]) (t := 23) gz ?_; intro g4 hg w2 hbox hb; have BK4 := am hbox; have GE4 := gwz (g := g4) HB hg; replace HB := am (below_step bz hb); replace BK3 := am (blk_below (kz BK3) hb); clear hb hbox hg hcz3 hfz3; obtain ⟨hcz3, hfz3⟩ := kc1 BK3.out; obtain ⟨hcz4, hfz4⟩ := kc1 BK4.out)
    | ((with_reducible refine gate_dst (N := 5) rfl ?_); refine box_event yz (N := 5) yz (cs := #[.slice A2 l2.length c2]) (t := 24) gz ?_; intro g5 hg w3 hbox hb; have BK5 := am hbox; have GE5 := gwz (g := g5) HB hg; replace HB := am (below_step bz hb); replace BK3 := am (blk_below (kz BK3) hb); replace BK4 := am (blk_below (kz BK4) hb); clear hb hbox hg hcz3 hfz3 hcz4 hfz4; obtain ⟨hcz3, hfz3⟩ := kc1 BK3.out; obtain ⟨hcz4, hfz4⟩ := kc1 BK4.out; obtain ⟨hcz5, hfz5⟩ := kc1 BK5.out)
    | ((with_reducible refine gate_dst (N := 6) rfl ?_); refine box_event yz (N := 6) yz (cs := #[.int .i64 0, .int .i64 0, .int .i64 0]) (t := 30) gz ?_; intro g6 hg w4 hbox hb; have BK6 := am hbox; have GE6 := gwz (g := g6) HB hg; replace HB := am (below_step bz hb); replace BK3 := am (blk_below (kz BK3) hb); replace BK4 := am (blk_below (kz BK4) hb); replace BK5 := am (blk_below (kz BK5) hb); clear hb hbox hg hcz3 hfz3 hcz4 hfz4 hcz5 hfz5; obtain ⟨hcz3, hfz3⟩ := kc1 BK3.out; obtain ⟨hcz4, hfz4⟩ := kc1 BK4.out; obtain ⟨hcz5, hfz5⟩ := kc1 BK5.out; obtain ⟨hc6a, hc6b, hc6c, hf6a, hf6b, hf6c⟩ := kc3 BK6.out))
  go_step3
  go_wp2_with (go_at_call 14; (with_reducible refine (collide_Check.calls k _ _ l0 _ _ l1 _ _ l2 e _ ?side1 ?side2 ?side3 ?side4 ?side5 ?side6 A.out).mono ?_); (case side1 => exact cz HR0); (case side2 => exact HC0.out); (case side3 => exact cz HR1); (case side4 => exact HC1.out); (case side5 => exact cz HR2); (case side6 => exact HC2.out); rintro _ w5 ⟨rfl, hb⟩; replace BK3 := am (blk_below (kz BK3) hb); replace BK4 := am (blk_below (kz BK4) hb); replace BK5 := am (blk_below (kz BK5) hb); replace BK6 := am (blk_below (kz BK6) hb); replace HB := am (below_step bz hb); clear hb hcz3 hfz3 hcz4 hfz4 hcz5 hfz5 hc6a hc6b hc6c hf6a hf6b hf6c; obtain ⟨hcz3, hfz3⟩ := kc1 BK3.out; obtain ⟨hcz4, hfz4⟩ := kc1 BK4.out; obtain ⟨hcz5, hfz5⟩ := kc1 BK5.out; obtain ⟨hc6a, hc6b, hc6c, hf6a, hf6b, hf6c⟩ := kc3 BK6.out)
  (try rw [Exit.noGoto_ret])
  refine bodyPost_ret (results_ct rfl _ _ g6 30 #[.int .i64 0, .int .i64 0, .int .i64 0] (0, 0) _ rfl (blk_put (blk_put (blk_put BK6.out 0 _ rfl) 1 _ rfl) 2 _ rfl) hu30 rfl qz) rfl ?_
  exact ⟨ez, by repeat (first | exact HB.out | refine bS ?_ GE6.out)⟩
section
attribute [local go_sem] Oper.semAt_some
set_option maxHeartbeats 8000000 in
set_option maxRecDepth 100000 in
theorem collide_First.leaf1 (k : Nat) (A0 : Option Addr) (c0 : Nat) (l0 : List S43) (A1 : Option Addr) (c1 : Nat) (l1 : List Int) (A2 : Option Addr) (c2 : Nat) (l2 : List S62) (w : World) (HR0 : Aside0 (Kd.C k43 w A0 l0.length l0)) (HC0 : l0.length ≤ c0) (HR1 : Aside0 (Kd.C (Kd.int .i64) w A1 l1.length l1)) (HC1 : l1.length ≤ c1) (HR2 : Aside0 (Kd.C k62 w A2 l2.length l2)) (HC2 : l2.length ≤ c2)
    (A : Aside0 (collide_Check.f k l0 l1 l2 = some 0)) {nn : Int} (AL : Aside0 (collide_length.f l0 = some nn)) (hm : l0.length ≤ 1000000) (hn : nn ≤ 1000000) (o : Int × Int × Int) (HO : Aside0 (collide_First.ticks k l0 l1 l2 nn.toNat 0 = some o)) :
    Calls Try.prog 15 #[.slice A0 l0.length c0, .slice A1 l1.length c1, .slice A2 l2.length c2] w fun x w' => x = .returned (.tuple #[.agg #[.int .i64 o.1, .int .i64 o.2.1, .int .i64 o.2.2], .int .i64 0]) ∧ Below w.heap.size w w' := by
  have HB := am (Below.refl w.heap.size w)
  have HC0 := am HC0
  have HC1 := am HC1
  have HC2 := am HC2
  have hu30 := Try.underlying30
  refine (callsIn_wide (n := 9)).1 (callsIn_of_wp_marks Try.func15 rfl trivial ?_ rfl)
  refine wpIn_wide.2 ?_
  simp only [Try.ntmps15, List.size_toArray, List.length_cons, List.length_nil, Nat.reduceAdd, Nat.reduceSub, Array.replicate_succ, Array.replicate_zero, List.push_toArray, List.append_toArray, List.nil_append, List.cons_append]
  go_wp2_with (first
    | ((with_reducible refine gate_dst (N := 3) rfl ?_); refine box_event yz (N := 3) yz (cs := #[.slice A0 l0.length c0]) (t := 22) gz ?_; intro g3 hg w1 hbox hb; have BK3 := am hbox; have GE3 := gwz (g := g3) HB hg; replace HB := am (below_step bz hb); clear hb hbox hg; obtain ⟨hcz3, hfz3⟩ := kc1 BK3.out)
    | ((with_reducible refine gate_dst (N := 4) rfl ?_); refine box_event yz (N := 4) yz (cs := #[.slice A1 l1.length c1]) (t := 23) gz ?_; intro g4 hg w2 hbox hb; have BK4 := am hbox; have GE4 := gwz (g := g4) HB hg; replace HB := am (below_step bz hb); replace BK3 := am (blk_below (kz BK3) hb); clear hb hbox hg hcz3 hfz3; obtain ⟨hcz3, hfz3⟩ := kc1 BK3.out; obtain ⟨hcz4, hfz4⟩ := kc1 BK4.out)
    | ((with_reducible refine gate_dst (N := 5) rfl ?_); refine box_event yz (N := 5) yz (cs := #[.slice A2 l2.length c2]) (t := 24) gz ?_; intro g5 hg w3 hbox hb; have BK5 := am hbox; have GE5 := gwz (g := g5) HB hg; replace HB := am (below_step bz hb); replace BK3 := am (blk_below (kz BK3) hb); replace BK4 := am (blk_below (kz BK4) hb); clear hb hbox hg hcz3 hfz3 hcz4 hfz4; obtain ⟨hcz3, hfz3⟩ := kc1 BK3.out; obtain ⟨hcz4, hfz4⟩ := kc1 BK4.out; obtain ⟨hcz5, hfz5⟩ := kc1 BK5.out)
    | ((with_reducible refine gate_dst (N := 6) rfl ?_); refine box_event yz (N := 6) yz (cs := #[.int .i64 0, .int .i64 0, .int .i64 0]) (t := 30) gz ?_; intro g6 hg w4 hbox hb; have BK6 := am hbox; have GE6 := gwz (g := g6) HB hg; replace HB := am (below_step bz hb); replace BK3 := am (blk_below (kz BK3) hb); replace BK4 := am (blk_below (kz BK4) hb); replace BK5 := am (blk_below (kz BK5) hb); clear hb hbox hg hcz3 hfz3 hcz4 hfz4 hcz5 hfz5; obtain ⟨hcz3, hfz3⟩ := kc1 BK3.out; obtain ⟨hcz4, hfz4⟩ := kc1 BK4.out; obtain ⟨hcz5, hfz5⟩ := kc1 BK5.out; obtain ⟨hc6a, hc6b, hc6c, hf6a, hf6b, hf6c⟩ := kc3 BK6.out))
  go_step3
  go_wp2_with (first
    | (go_at_call 14; (with_reducible refine (collide_Check.calls k _ _ l0 _ _ l1 _ _ l2 0 _ ?side1 ?side2 ?side3 ?side4 ?side5 ?side6 A.out).mono ?_); (case side1 => exact cz HR0); (case side2 => exact HC0.out); (case side3 => exact cz HR1); (case side4 => exact HC1.out); (case side5 => exact cz HR2); (case side6 => exact HC2.out); rintro _ w5 ⟨rfl, hb⟩; replace BK3 := am (blk_below (kz BK3) hb); replace BK4 := am (blk_below (kz BK4) hb); replace BK5 := am (blk_below (kz BK5) hb); replace BK6 := am (blk_below (kz BK6) hb); replace HB := am (below_step bz hb); clear hb hcz3 hfz3 hcz4 hfz4 hcz5 hfz5 hc6a hc6b hc6c hf6a hf6b hf6c; obtain ⟨hcz3, hfz3⟩ := kc1 BK3.out; obtain ⟨hcz4, hfz4⟩ := kc1 BK4.out; obtain ⟨hcz5, hfz5⟩ := kc1 BK5.out; obtain ⟨hc6a, hc6b, hc6c, hf6a, hf6b, hf6c⟩ := kc3 BK6.out)
    | ((with_reducible refine gate_dst (N := 9) rfl ?_); refine box_event yz (N := 9) yz (cs := #[.int .i64 0, .int .i64 0, .int .i64 0]) (t := 30) gz ?_; intro g9 hg w6 hbox hb; have BK9 := am hbox; have GE9 := gwz (g := g9) HB hg; have N3 := nlt (g' := g9) BK3 hg; have N4 := nlt (g' := g9) BK4 hg; have N5 := nlt (g' := g9) BK5 hg; have N6 := nlt (g' := g9) BK6 hg; replace HB := am (below_step bz hb); replace BK3 := am (blk_below (kz BK3) hb); replace BK4 := am (blk_below (kz BK4) hb); replace BK5 := am (blk_below (kz BK5) hb); replace BK6 := am (blk_below (kz BK6) hb); clear hb hbox hg hcz3 hfz3 hcz4 hfz4 hcz5 hfz5 hc6a hc6b hc6c hf6a hf6b hf6c; obtain ⟨hc9a, hc9b, hc9c, hf9a, hf9b, hf9c⟩ := kc3 BK9.out))
  have S6 := am (collide_First.S.set (x := .int .i64 (-1)) (y := .int .i64 0) (z := .int .i64 0) (⟨BK3.out, BK4.out, BK5.out, BK6.out, BK9.out⟩ : collide_First.S g3 g4 g5 g6 g9 (.slice A0 l0.length c0) (.slice A1 l1.length c1) (.slice A2 l2.length c2) _ w6) N3.out N4.out N5.out N6.out)
  have HB6 := am (show Below w.heap.size w (((w6.setCell ⟨g9, 0, none⟩ (.int .i64 (-1))).setCell ⟨g9, 1, none⟩ (.int .i64 0)).setCell ⟨g9, 2, none⟩ (.int .i64 0)) from by repeat (first | exact HB.out | refine bS ?_ GE9.out))
  have hs3 := S6.out.b3.cell
  go_step3
  go_wp2_with (go_at_call 30; refine (collide_length.calls _ _ l0 nn _ ?side1 ?side2 AL.out).mono ?_; (case side1 => exact Kd.C_below HR0.out HB6.out); (case side2 => exact HC0.out); rintro _ W0 ⟨rfl, hb_⟩; have SW := am (S6.out.bel hb_.below); have HBW := am (below_step HB6.out hb_.below); clear hb_)
  clear hs3 S6 HB6 HB hc9a hc9b hc9c hf9a hf9b hf9c BK3 BK4 BK5 BK6 BK9
  have h06 := GE6.out
  have h09 := GE9.out
  refine wp_loop_ghost_k (fun d a W => ∃ (t : Nat) (u10 u24 u25 u26 u27 u28 u29 u43 : Value) (ds : List Deferred), (u24 = .int .i64 (t : Int) ∧ Aside0 (collide_First.ticks k l0 l1 l2 d t = some o) ∧ Aside0 (t + d = nn.toNat) ∧ Aside0 (collide_First.S g3 g4 g5 g6 g9 (.slice A0 l0.length c0) (.slice A1 l1.length c1) (.slice A2 l2.length c2) #[.int .i64 (-1), .int .i64 0, .int .i64 0] W) ∧ Aside0 (Below w.heap.size w W) ∧ Aside0 (collide_First.Marks w.heap.size ds W)) ∧ a = { tmps := #[.slice A0 l0.length c0, .slice A1 l1.length c1, .slice A2 l2.length c2, .pointer (some ⟨g3, 0, none⟩), .pointer (some ⟨g4, 0, none⟩), .pointer (some ⟨g5, 0, none⟩), .pointer (some ⟨g6, 0, none⟩), .int .i64 0, .int .i64 0, .pointer (some ⟨g9, 0, none⟩), u10, undef, undef, .slice A0 l0.length c0, .slice A1 l1.length c1, .slice A2 l2.length c2, .int .i64 0, .int .i64 0, .bool false, undef, undef, .agg #[.int .i64 (-1), .int .i64 0, .int .i64 0], .slice A0 l0.length c0, .int .i64 nn, u24, u25, u26, u27, u28, u29, undef, undef, undef, undef, undef, undef, undef, undef, undef, undef, undef, undef, undef, u43, undef], defers := ds }) nn.toNat ⟨0, undef, _, undef, undef, undef, undef, undef, undef, [], ⟨rfl, HO, ⟨by omega⟩, SW, HBW, ⟨trivial⟩⟩, rfl⟩ ?_
  rintro d a W ⟨t, u10, u24, u25, u26, u27, u28, u29, u43, ds, ⟨rfl, HT, HTN, SW, HBW, HM⟩, rfl⟩ J KK hJ hKK
  cases d with
  | zero =>
    have hge := decide_eq_false (show ¬ (t : Int) < nn by have := HTN.out; omega)
    have HOO := am (Option.some.inj HT.out)
    obtain ⟨c9a, c9b, c9c, _, _, _⟩ := kc3 (am SW.out.b9).out
    obtain ⟨_, _, _, f6a, f6b, f6c⟩ := kc3 (am SW.out.b6).out
    go_wp2
    (try rw [Exit.noGoto_ret])
    exact collide_First.finish rfl rfl SW.out.b6 HBW.out h06 HM.out HOO.out.symm
  | succ d =>
    have hlt := decide_eq_true (show (t : Int) < nn by have := HTN.out; omega)
    obtain ⟨M, hM, hM1, hM2⟩ := collide_First.ticks_at HT.out
    have HM0 := am hM
    have HM1 := am hM1
    have HM2 := am hM2
    clear hM hM1 hM2 HT
    go_wp2_with (first
      | ((with_reducible refine gate_dst (N := 10) rfl ?_); refine box_event yz (N := 10) yz (cs := #[.int .i64 0]) (t := 3) gz ?_; intro g10 hg W1 hbox hb; have B10 := am hbox; have HG := am hg; have HBb := am hb; obtain ⟨hcz10, hfz10⟩ := kc1 hbox; have hs3 := (Boxed.other (u := .int .i64 (t : Int)) (SW.out.bel hb).b3 (show g3 ≠ g10 by have := SW.out.b3.lt; omega)).cell; clear hbox hg hb)
      | (go_at_call 31; refine (collide_pairs.gives _ _).mono ?_; rintro _ W2 ⟨rfl, hw2⟩))
    clear hs3 hcz10 hfz10
    have hgW := HG.out
    have hB2 : Below W.heap.size W W2 := by rw [hw2]; exact (HBb.out.setCell (p := ⟨g10, 0, none⟩) (by show W.heap.size ≤ g10; omega) _).alloc (by simp; exact HBb.out.size) _
    have s2 := SW.out.bel hB2
    have b10 : Boxed W2 g10 3 (.int .i64 (t : Int)) := by rw [hw2]; exact ((show Boxed W1 g10 3 _ from B10.out).set _).alloc _
    have bn : Boxed W2 W1.heap.size 3 (.int .i64 (l0.length : Int)) := by
      rw [hw2]
      have := Boxed.new (W1.setCell ⟨g10, 0, none⟩ (.int .i64 (t : Int))) 3 (.int .i64 (l0.length : Int))
      simpa using this
    have hm2 := collide_First.marks_bel hB2 HM.out
    have hbw2 : Below w.heap.size w W2 := below_step HBW.out hB2
    have h9lt : g9 < W1.heap.size := Nat.lt_of_lt_of_le (blk_lt SW.out.b9) HBb.out.size
    have hml := collide_First.marks_lt ds hm2
    rw [← hw2]
    have HW2 := am hw2
    have HBW2 := am hbw2
    have HMM2 := am hm2
    clear hw2 B10 hgW
    refine (wpIn_wide (n := 9)).1 ?_
    refine wpIn_rangeFunc_ownH rfl (by omega) (gf := 50) (lb := #[.pointer (some ⟨W1.heap.size, 0, none⟩)]) rfl trivial (Go.Proofs.enters_of Try.func50 qz rfl)
      (collide_pairs.stopsK (collide_pairs.enc l0.length) collide_pairs.mk (collide_pairs.kp W1.heap.size) (fun _ _ h => h) collide_pairs.kp_t 8 W1.heap.size l0.length hm (collide_pairs.enc_of l0.length) (fun _ _ h => h) W2 bn.lt bn.cell) collide_pairs.kp_t collide_pairs.kp_b (Below.refl _ _) (fun _ => rfl)
      (fun pre W' => (((collide_First.no l0.length M pre ∧ collide_First.S g3 g4 g5 g6 g9 (.slice A0 l0.length c0) (.slice A1 l1.length c1) (.slice A2 l2.length c2) #[.int .i64 (-1), .int .i64 0, .int .i64 0] W') ∧ Boxed W' g10 3 (.int .i64 (t : Int))) ∧ collide_First.Marks w.heap.size ds W') ∧ Below w.heap.size w W')
      (fun c pre W' => (((c = .exit 0 ∧ collide_First.got l0.length M pre) ∧ collide_First.S g3 g4 g5 g6 g9 (.slice A0 l0.length c0) (.slice A1 l1.length c1) (.slice A2 l2.length c2) (collide_First.hit l0.length t pre) W') ∧ collide_First.Marks w.heap.size ds W') ∧ Below w.heap.size w W')
      (OwnFrom.and (OwnFrom.and (OwnFrom.and (OwnFrom.and (collide_First.ownPure _ _) (collide_First.S.own _)) (Own.from (boxed_own g10 3 (fun _ => .int .i64 (t : Int))) _)) (collide_First.marks_own ds hml)) (ownFrom_below (Nat.le_refl _) hbw2.size))
      (fun c => OwnFrom.and (OwnFrom.and (OwnFrom.and (collide_First.ownPure _ _) (collide_First.S.own _)) (collide_First.marks_own ds hml)) (ownFrom_below (Nat.le_refl _) hbw2.size))
      ⟨⟨⟨⟨fun _ h => (by cases h), s2⟩, b10⟩, hm2⟩, hbw2⟩
      (fun q a' W' => a' = { tmps := #[.slice A0 l0.length c0, .slice A1 l1.length c1, .slice A2 l2.length c2, .pointer (some ⟨g3, 0, none⟩), .pointer (some ⟨g4, 0, none⟩), .pointer (some ⟨g5, 0, none⟩), .pointer (some ⟨g6, 0, none⟩), .int .i64 0, .int .i64 0, .pointer (some ⟨g9, 0, none⟩), .pointer (some ⟨g10, 0, none⟩), (.int .i64 ((collide_pairs.cl l0.length q).1 : Int)), (.int .i64 ((collide_pairs.cl l0.length q).2 : Int)), .slice A0 l0.length c0, .slice A1 l1.length c1, .slice A2 l2.length c2, .int .i64 0, .int .i64 0, .bool false, undef, undef, .agg #[.int .i64 (-1), .int .i64 0, .int .i64 0], .slice A0 l0.length c0, .int .i64 nn, .int .i64 (t : Int), .bool true, .int .i64 (t : Int), .slice A0 l0.length c0, .int .i64 (l0.length : Int), .func (.func 50) #[] #[.pointer (some ⟨W1.heap.size, 0, none⟩)], (.int .i64 ((collide_pairs.cl l0.length q).1 : Int)), (.int .i64 ((collide_pairs.cl l0.length q).2 : Int)), undef, undef, undef, undef, undef, undef, undef, undef, undef, undef, undef, u43, undef], defers := [] })
      ?hAx ?assign ?body ?done ?stop
    case hAx => exact fun _ _ _ _ _ _ h _ _ => h
    case assign =>
      intro l' pre q W' K hI hK
      unfold collide_pairs.enc
      gi_wp2
      exact hK _ _ (KeepsFrom.refl _ _) (fun _ h => h) hI rfl
    case body =>
      rintro l' pre q a' Wb hl' hrec ⟨⟨⟨⟨hno, hS⟩, hb10⟩, hmk⟩, hBWb⟩ rfl hlen
      have h2n := collide_pairs.two_of hlen
      obtain ⟨hab, hbn⟩ := collide_pairs.cl_lt h2n q
      have hDq := HM0.out (collide_pairs.cl l0.length q) ⟨hab, hbn⟩
      have hhit := collide_First.hit_snoc l0.length t pre q
      have hsn := fun hq => collide_First.no_snoc (q := q) hno hq
      have hgt : ∀ hq : M (collide_pairs.cl l0.length q) = true, collide_First.got l0.length M (pre ++ [q]) := fun hq => ⟨pre, q, rfl, hno, hq⟩
      obtain ⟨⟨a, b⟩, hq⟩ : ∃ p, collide_pairs.cl l0.length q = p := ⟨_, rfl⟩
      rw [hq] at hab hbn hDq hhit hsn hgt
      rw [hq]
      unfold collide_First.tick at hDq
      dsimp only at hab hbn hDq hhit ⊢
      have HR0w := am (Kd.C_below HR0.out hBWb)
      have HR1w := am (Kd.C_below HR1.out hBWb)
      have HR2w := am (Kd.C_below HR2.out hBWb)
      have k3 := hS.b3.cell
      have k4 := hS.b4.cell
      have k5 := hS.b5.cell
      have k10 := hb10.cell
      have HS := am hS
      have HB10 := am hb10
      have HMK := am hmk
      have HBWb := am hBWb
      have hfn : Fence.wide.fn 32 := trivial
      clear hno hS hb10 hmk hBWb hrec hq hab hbn
      obtain ⟨m, hmm⟩ : ∃ m, M (a, b) = m := ⟨_, rfl⟩
      rw [hmm] at hDq hsn hgt
      have AM := am hDq
      have HHIT := am hhit
      have HSN := am hsn
      have HGT := am hgt
      clear hDq hhit hsn hgt hmm
      cases m
      · gi_wp2_with (gi_at_call 32; refine (CallsIn.inRound l' (callsIn_wide.2 (collide_meet.calls k _ _ l0 _ _ l1 _ _ l2 (a : Int) (b : Int) (t : Int) false _ ?side1 ?side2 ?side3 ?side4 ?side5 ?side6 AM.out))).mono ?_; (case side1 => exact HR0w.out); (case side2 => exact HC0.out); (case side3 => exact HR1w.out); (case side4 => exact HC1.out); (case side5 => exact HR2w.out); (case side6 => exact HC2.out); rintro _ W3 ⟨rfl, hb⟩; have HB3 := am hb; clear hb k3 k4 k5 k10)
        exact ⟨(collide_pairs.keeps_bel HB3.out).from _, collide_pairs.kp_below HB3.out, ⟨⟨⟨⟨HSN.out (by simp), HS.out.bel HB3.out⟩, blk_below HB10.out HB3.out⟩, collide_First.marks_bel HB3.out HMK.out⟩, below_step HBWb.out HB3.out⟩⟩
      · gi_wp2_with (gi_at_call 32; refine (CallsIn.inRound l' (callsIn_wide.2 (collide_meet.calls k _ _ l0 _ _ l1 _ _ l2 (a : Int) (b : Int) (t : Int) true _ ?side1 ?side2 ?side3 ?side4 ?side5 ?side6 AM.out))).mono ?_; (case side1 => exact HR0w.out); (case side2 => exact HC0.out); (case side3 => exact HR1w.out); (case side4 => exact HC1.out); (case side5 => exact HR2w.out); (case side6 => exact HC2.out); rintro _ W3 ⟨rfl, hb⟩; have HB3 := am hb; clear k3 k4 k5 k10; have k10 := (show Boxed W3 g10 _ _ from blk_below HB10.out hb).cell; have S3 := am (HS.out.bel hb); obtain ⟨c9a, c9b, c9c, f9a, f9b, f9c⟩ := kc3 S3.out.b9; clear hb)
        exact ⟨((collide_pairs.keeps_bel HB3.out).trans ((KeepsOthers.setCell _ _ _).trans ((KeepsOthers.setCell _ _ _).trans (KeepsOthers.setCell _ _ _)))).from _,
          ⟨⟨⟨⟨rfl, HGT.out (by simp)⟩, by rw [HHIT.out]; exact S3.out.set N3.out N4.out N5.out N6.out⟩, collide_First.marks_set (blk_set (blk_set S3.out.b9 0 _) 1 _) (collide_First.marks_set (blk_set S3.out.b9 0 _) (collide_First.marks_set S3.out.b9 (collide_First.marks_bel HB3.out HMK.out)))⟩, by repeat (first | exact below_step HBWb.out HB3.out | refine bS ?_ h09)⟩⟩
    case done =>
      rintro D' ys Wd hD rfl ⟨⟨⟨⟨hno, hS⟩, hb10⟩, hmk⟩, hBWd⟩ hK
      have HT' := am (HM2.out (collide_First.no_prs hno))
      have HMK := am (collide_First.marks_cons (w := W2) HMM2.out hD (Nat.le_trans HBW2.out.size hD) hmk hK)
      have HS := am hS
      have HBWd := am hBWd
      have ht1 : (t : Int) < 1000000 := by have := HTN.out; omega
      clear hno hS hb10 hmk hBWd hK hD
      go_wp2
      exact Handed.intro d (Nat.lt_succ_self d) (hJ d _ _ ⟨t + 1, _, _, _, _, _, _, _, _, _, ⟨by go_num, HT', ⟨by have := HTN.out; omega⟩, HS, HBWd, HMK⟩, rfl⟩)
    case stop =>
      rintro D' c pre Wd hD ⟨a, b, hab, hbm, rfl⟩ ⟨⟨⟨⟨rfl, hgot⟩, hS⟩, hmk⟩, hBWd⟩ hK
      have HOO := am (HM1.out (a, b) (collide_First.got_prs hab hbm hgot))
      have HMK := am (collide_First.marks_cons (w := W2) HMM2.out hD (Nat.le_trans HBW2.out.size hD) hmk hK)
      rw [collide_First.hit_snoc, show collide_pairs.cl l0.length (collide_pairs.mk a b) = (a, b) from collide_pairs.cl_of a b hab hbm] at hS
      dsimp only at hS
      have HS := am hS
      have HBWd := am hBWd
      clear hgot hS hmk hBWd hK hD
      obtain ⟨c9a, c9b, c9c, _, _, _⟩ := kc3 HS.out.b9
      obtain ⟨_, _, _, f6a, f6b, f6c⟩ := kc3 HS.out.b6
      refine wpIn_wide.2 ?_
      go_wp2
      (try rw [Exit.noGoto_ret])
      exact collide_First.finish rfl rfl HS.out.b6 HBWd.out h06 HMK.out HOO.out
end
theorem collide_First.calls (k : Nat) (A0 : Option Addr) (c0 : Nat) (l0 : List S43) (A1 : Option Addr) (c1 : Nat) (l1 : List Int) (A2 : Option Addr) (c2 : Nat) (l2 : List S62) (r1 r2 r3 r4 : Int) (w : World) (hr0 : Kd.C k43 w A0 l0.length l0) (hc0 : l0.length ≤ c0) (hr1 : Kd.C (Kd.int .i64) w A1 l1.length l1) (hc1 : l1.length ≤ c1) (hr2 : Kd.C k62 w A2 l2.length l2) (hc2 : l2.length ≤ c2) (h : collide_First.f k l0 l1 l2 = some (r1, r2, r3, r4)) :
    Calls Try.prog 15 #[.slice A0 l0.length c0, .slice A1 l1.length c1, .slice A2 l2.length c2] w fun e w' => e = .returned (.tuple #[.agg #[.int .i64 r1, .int .i64 r2, .int .i64 r3], .int .i64 r4]) ∧ Below w.heap.size w w' := by
  unfold collide_First.f at h
  obtain ⟨e, he, h⟩ := Option.bind_eq_some_iff.1 h
  by_cases ez : e = 0
  · subst ez
    rw [if_pos rfl] at h
    obtain ⟨nn, hn, h⟩ := Option.bind_eq_some_iff.1 h
    by_cases hm : l0.length ≤ 1000000 ∧ nn ≤ 1000000
    · rw [if_pos hm] at h
      obtain ⟨o, ho, h⟩ := Option.bind_eq_some_iff.1 h
      cases h
      exact collide_First.leaf1 k A0 c0 l0 A1 c1 l1 A2 c2 l2 w ⟨hr0⟩ hc0 ⟨hr1⟩ hc1 ⟨hr2⟩ hc2 ⟨he⟩ ⟨hn⟩ hm.1 hm.2 o ⟨ho⟩
    · rw [if_neg hm] at h
      cases h
  · rw [if_neg ez] at h
    cases h
    exact collide_First.leaf0 k A0 c0 l0 A1 c1 l1 A2 c2 l2 r4 w ⟨hr0⟩ hc0 ⟨hr1⟩ hc1 ⟨hr2⟩ hc2 ⟨he⟩ (by simpa using ez) (by simpa using ez)


end Go.Proofs.Yteflngoiebgdaaa.X
