import Derived.Test.YteflngoiebgdaaaX0
import Derived.Test.YteflngoiebgdaaaX9
import Derived.Test.YteflngoiebgdaaaX10
import Derived.Test.YteflngoiebgdaaaX25
namespace Go.Proofs.Yteflngoiebgdaaa.X
open Go.RowKit YteflngoiebgdaaaW.PrintWords YteflngoiebgdaaaW.PrintLast YteflngoiebgdaaaW.PrintMore
attribute [local go_sem] max2_int min2_int max_two min_two max_three min_three max_four min_four
set_option linter.unusedVariables false
set_option linter.unusedSimpArgs false

/-! ### collide_All: function 16 -/
/-! #### All, told plainly -/
def collide_All.hits (k : Nat) (l0 : List S43) (l1 : List Int) (l2 : List S62) (a b : Nat) : Nat → Nat → Option (List S30)
  | 0, _ => some []
  | d + 1, t => (collide_meet.f k l0 l1 l2 (a : Int) (b : Int) (t : Int)).bind fun m => if m = true then some [⟨(t : Int), (a : Int), (b : Int)⟩] else collide_All.hits k l0 l1 l2 a b d (t + 1)
def collide_All.f (k : Nat) (l0 : List S43) (l1 : List Int) (l2 : List S62) : Option (List S30 × Int) :=
  (collide_Check.f k l0 l1 l2).bind fun e => if e = 0 then (collide_length.f l0).bind fun n => (if l0.length ≤ 64 ∧ n ≤ 1000000 then
      (collide_pairs.all (fun p : Nat × Nat => collide_All.hits k l0 l1 l2 p.1 p.2 n.toNat 0) (collide_pairs.prs collide_pairs.mk l0.length)).bind fun d => some (d.flatten, 0) else none) else some ([], e)
theorem collide_All.hits_mono (k : Nat) (l0 : List S43) (l1 : List Int) (l2 : List S62) (a b : Nat) : ∀ d t, LeO (collide_All.hits k l0 l1 l2 a b d t) (collide_All.hits (k + 1) l0 l1 l2 a b d t)
  | 0, _ => LeO.refl _
  | d + 1, t => LeO.bind (collide_meet.mono _ _ _ _ _ _ _) (fun _ => LeO.ite (LeO.refl _) (collide_All.hits_mono k l0 l1 l2 a b d (t + 1)))
theorem collide_All.mono : ∀ a0 a1 a2 k, LeO (collide_All.f k a0 a1 a2) (collide_All.f (k + 1) a0 a1 a2) := by
  intro a0 a1 a2 k
  unfold collide_All.f
  exact LeO.bind (collide_Check.mono _ _ _ _) (fun e => LeO.ite (LeO.bind (LeO.refl _) (fun n => LeO.ite (LeO.bind (collide_pairs.all_mono (fun p => collide_All.hits_mono _ _ _ _ _ _ _ _) _) (fun _ => LeO.refl _)) (LeO.refl _))) (LeO.refl _))
theorem collide_All.hits_length {k : Nat} {l0 : List S43} {l1 : List Int} {l2 : List S62} {a b : Nat} : ∀ {d t : Nat} {r : List S30}, collide_All.hits k l0 l1 l2 a b d t = some r → r.length ≤ 1
  | 0, _, r, h => by cases h; exact Nat.zero_le _
  | d + 1, t, r, h => by
    obtain ⟨m, _, h⟩ := Option.bind_eq_some_iff.1 h
    by_cases hm : m = true
    · rw [if_pos hm] at h; cases h; exact Nat.le_refl _
    · rw [if_neg hm] at h; exact collide_All.hits_length h
theorem collide_All.flat_length {α : Type} : ∀ l : List (List α), (∀ x ∈ l, x.length ≤ 1) → l.flatten.length ≤ l.length
  | [], _ => Nat.le_refl _
  | x :: l, h => by
    have h1 := h x (List.mem_cons_self ..)
    have h2 := collide_All.flat_length l (fun y hy => h y (List.mem_cons_of_mem _ hy))
    rw [List.flatten_cons, List.length_append, List.length_cons]
    omega
theorem collide_All.rows_length {α : Type} (g : Nat → Nat → α) (n : Nat) : ∀ a, (collide_pairs.rows g n a).length ≤ a * n
  | 0 => by simp [collide_pairs.rows]
  | a + 1 => by
    have h := collide_All.rows_length g n a
    show (collide_pairs.rows g n a ++ collide_pairs.part g a n).length ≤ _
    rw [List.length_append, collide_pairs.part_length, Nat.succ_mul]
    omega
def collide_All.cells (l : List S30) : List Value := l.flatMap fun t => [.int .i64 t.f0, .int .i64 t.f1, .int .i64 t.f2]
theorem collide_All.cells_length (l : List S30) : (collide_All.cells l).length = l.length * 3 := by
  induction l with
  | nil => rfl
  | cons x l ih => unfold collide_All.cells at ih ⊢; rw [List.flatMap_cons, List.length_append, ih]; simp; omega
theorem collide_All.cells_append (l m : List S30) : collide_All.cells (l ++ m) = collide_All.cells l ++ collide_All.cells m := by simp [collide_All.cells]
theorem collide_All.reps (w : World) (base : Nat) (ok : Nat → Prop) : ∀ l : List S30, Reps (k30.M w base ok) 3 l (collide_All.cells l)
  | [] => Reps.none _ _
  | x :: l => Reps.c3 (k30_mkM w base ok x) (collide_All.reps w base ok l)
theorem collide_All.own_R {w : World} {base : Nat} {v : Value} {l : List S30} (h : w.ownsRow base 30 3 v l.length (collide_All.cells l)) : Kd.R k30 30 w base (fun _ => True) v l :=
  ⟨fun _ _ => trivial, collide_All.cells l, h, collide_All.reps _ _ _ l⟩
theorem collide_All.new3 (W : World) (a b c : Value) (t : TypeId) (g : Nat) (hg : g = W.heap.size) : ∀ j u, [a, b, c][j]? = some u → (W.alloc (.cells #[a, b, c] t)).cell? ((⟨g, 0, none⟩ : Addr).add j) = some u := by
  subst hg
  intro j u h
  match j, h with
  | 0, h => exact (blk_cell (blk_new W (.cells #[a, b, c] t)) 0).trans h
  | 1, h => exact (blk_cell (blk_new W (.cells #[a, b, c] t)) 1).trans h
  | 2, h => exact (blk_cell (blk_new W (.cells #[a, b, c] t)) 2).trans h
  | j + 3, h => simp at h
theorem collide_All.own_slice {w : World} {base : Nat} {e : TypeId} {size n : Nat} {v : Value} {xs : List Value} (h : w.ownsRow base e size v n xs) : ∃ A c, v = .slice A n c := by
  rcases h.2 with ⟨rfl, rfl⟩ | ⟨g, cap, _, rfl, _⟩
  · exact ⟨none, 0, rfl⟩
  · exact ⟨_, _, rfl⟩
theorem collide_All.own_bel {W w1 : World} {base : Nat} {e : TypeId} {size n : Nat} {v : Value} {xs : List Value} (hrow : W.ownsRow base e size v n xs) (hb : Below W.heap.size W w1) : w1.ownsRow base e size v n xs := by
  rcases hrow with ⟨hx, h | ⟨g, cap, cur, h1, h2, h3, h4⟩⟩
  · exact ⟨hx, .inl h⟩
  · exact ⟨hx, .inr ⟨g, cap, cur, h1, h2, (hb.block g (Array.getElem?_eq_some_iff.1 h3).1).trans h3, h4⟩⟩
def collide_All.acc (n : Nat) (D : Nat × Nat → List S30) (pre : List (Nat × Nat)) : List S30 := ((pre.map (collide_pairs.cl n)).map D).flatten
theorem collide_All.acc_snoc (n : Nat) (D : Nat × Nat → List S30) (pre : List (Nat × Nat)) (q : Nat × Nat) : collide_All.acc n D (pre ++ [q]) = collide_All.acc n D pre ++ D (collide_pairs.cl n q) := by simp [collide_All.acc]
def collide_All.any (_ : List (Nat × Nat)) (_ : Value) : Prop := True
theorem collide_All.kp_box {B : Nat} {A C : World} {t : TypeId} {u : Value} (h : Boxed A B t u) (h' : Boxed C B t u) : collide_pairs.kp B A C := fun v hv => by
  rw [h.cell] at hv
  exact h'.cell.trans hv
/-- What a cell's box holds, its store behind it. -/
theorem collide_All.app_other {W w1 : World} {n0 gO k e : Nat} {sz : Nat} {v v' : Value} {xs : List Value} {tmp : Obj} {g t : Nat} {u : Value} (hrow : W.ownsRow n0 e sz v k xs) (hgrow : (W.alloc tmp).grownBy w1 v.ownBlock)
    (hb : Boxed W g t u) (ht : t ≠ e) (hg : g ≠ gO) : Boxed (w1.setCell ⟨gO, 0, none⟩ v') g t u :=
  ((hb.alloc tmp).kept hgrow (hb.not_row ht hrow)).other hg v'

set_option maxHeartbeats 8000000 in
set_option maxRecDepth 100000 in
theorem collide_All.leaf0 (k : Nat) (A0 : Option Addr) (c0 : Nat) (l0 : List S43) (A1 : Option Addr) (c1 : Nat) (l1 : List Int) (A2 : Option Addr) (c2 : Nat) (l2 : List S62) (e : Int) (w : World) (HR0 : Aside0 (Kd.C k43 w A0 l0.length l0)) (HC0 : l0.length ≤ c0) (HR1 : Aside0 (Kd.C (Kd.int .i64) w A1 l1.length l1)) (HC1 : l1.length ≤ c1) (HR2 : Aside0 (Kd.C k62 w A2 l2.length l2)) (HC2 : l2.length ≤ c2)
    (A : Aside0 (collide_Check.f k l0 l1 l2 = some e)) (he : (e == 0) = false) (he' : (e != 0) = true) :
    Calls Try.prog 16 #[.slice A0 l0.length c0, .slice A1 l1.length c1, .slice A2 l2.length c2] w fun x w' => x = .returned (.tuple #[.slice none 0 0, .int .i64 e]) ∧ Below w.heap.size w w' := by
  have HB := am (Below.refl w.heap.size w)
  have HC0 := am HC0
  have HC1 := am HC1
  have HC2 := am HC2
  go_enter Try.func16, Try.ntmps16
  go_wp2_with (first
    | ((with_reducible refine gate_dst (N := 3) rfl ?_); refine box_event yz (N := 3) yz (cs := #[.slice A0 l0.length c0]) (t := 22) gz ?_; intro g3 hg w1 hbox hb; have BK3 := am hbox; have GE3 := gwz (g := g3) HB hg; replace HB := am (below_step bz hb); clear hb hbox hg; obtain ⟨hcz3, hfz3⟩ := kc1 BK3.out)
    | ((with_reducible refine gate_dst (N := 4) rfl ?_); refine box_event yz (N := 4) yz (cs := #[.slice A1 l1.length c1]) (t := 23) gz ?_; intro g4 hg w2 hbox hb; have BK4 := am hbox; have GE4 := gwz (g := g4) HB hg; replace HB := am (below_step bz hb); replace BK3 := am (blk_below (kz BK3) hb); clear hb hbox hg hcz3 hfz3; obtain ⟨hcz3, hfz3⟩ := kc1 BK3.out; obtain ⟨hcz4, hfz4⟩ := kc1 BK4.out)
    | ((with_reducible refine gate_dst (N := 5) rfl ?_); refine box_event yz (N := 5) yz (cs := #[.slice A2 l2.length c2]) (t := 24) gz ?_; intro g5 hg w3 hbox hb; have BK5 := am hbox; have GE5 := gwz (g := g5) HB hg; replace HB := am (below_step bz hb); replace BK3 := am (blk_below (kz BK3) hb); replace BK4 := am (blk_below (kz BK4) hb); clear hb hbox hg hcz3 hfz3 hcz4 hfz4; obtain ⟨hcz3, hfz3⟩ := kc1 BK3.out; obtain ⟨hcz4, hfz4⟩ := kc1 BK4.out; obtain ⟨hcz5, hfz5⟩ := kc1 BK5.out)
    | (go_at_call 14; (with_reducible refine (collide_Check.calls k _ _ l0 _ _ l1 _ _ l2 e _ ?side1 ?side2 ?side3 ?side4 ?side5 ?side6 A.out).mono ?_); (case side1 => exact cz HR0); (case side2 => exact HC0.out); (case side3 => exact cz HR1); (case side4 => exact HC1.out); (case side5 => exact cz HR2); (case side6 => exact HC2.out); rintro _ w4 ⟨rfl, hb⟩; replace BK3 := am (blk_below (kz BK3) hb); replace BK4 := am (blk_below (kz BK4) hb); replace BK5 := am (blk_below (kz BK5) hb); replace HB := am (below_step bz hb); clear hb hcz3 hfz3 hcz4 hfz4 hcz5 hfz5; obtain ⟨hcz3, hfz3⟩ := kc1 BK3.out; obtain ⟨hcz4, hfz4⟩ := kc1 BK4.out; obtain ⟨hcz5, hfz5⟩ := kc1 BK5.out))
  go_ret2
  exact ⟨ez, bz⟩
section
attribute [local go_sem] Oper.semAt_some
set_option maxHeartbeats 8000000 in
set_option maxRecDepth 100000 in
theorem collide_All.leaf1 (k : Nat) (A0 : Option Addr) (c0 : Nat) (l0 : List S43) (A1 : Option Addr) (c1 : Nat) (l1 : List Int) (A2 : Option Addr) (c2 : Nat) (l2 : List S62) (w : World) (HR0 : Aside0 (Kd.C k43 w A0 l0.length l0)) (HC0 : l0.length ≤ c0) (HR1 : Aside0 (Kd.C (Kd.int .i64) w A1 l1.length l1)) (HC1 : l1.length ≤ c1) (HR2 : Aside0 (Kd.C k62 w A2 l2.length l2)) (HC2 : l2.length ≤ c2)
    (A : Aside0 (collide_Check.f k l0 l1 l2 = some 0)) {nn : Int} (AL : Aside0 (collide_length.f l0 = some nn)) (hm : l0.length ≤ 64) (hn : nn ≤ 1000000) (D : Nat × Nat → List S30) (hD : Aside0 (∀ p, p.1 < p.2 ∧ p.2 < l0.length → collide_All.hits k l0 l1 l2 p.1 p.2 nn.toNat 0 = some (D p))) :
    Calls Try.prog 16 #[.slice A0 l0.length c0, .slice A1 l1.length c1, .slice A2 l2.length c2] w fun x w' => ∃ v0_ : Value, x = .returned (.tuple #[v0_, .int .i64 0]) ∧ Kd.R k30 30 w' w.heap.size (fun _ => True) v0_ ((collide_pairs.prs collide_pairs.mk l0.length).map D).flatten ∧ Below w.heap.size w w' := by
  have HB := am (Below.refl w.heap.size w)
  have HC0 := am HC0
  have HC1 := am HC1
  have HC2 := am HC2
  obtain ⟨i0, hi, hz0, hz1, hz2⟩ := info_parts info30
  refine (callsIn_wide (n := 9)).1 (callsIn_of_wp_marks Try.func16 rfl trivial ?_ rfl)
  refine wpIn_wide.2 ?_
  simp only [Try.ntmps16, List.size_toArray, List.length_cons, List.length_nil, Nat.reduceAdd, Nat.reduceSub, Array.replicate_succ, Array.replicate_zero, List.push_toArray, List.append_toArray, List.nil_append, List.cons_append]
  go_wp2_with (first
    | ((with_reducible refine gate_dst (N := 3) rfl ?_); refine box_event yz (N := 3) yz (cs := #[.slice A0 l0.length c0]) (t := 22) gz ?_; intro g3 hg w1 hbox hb; have BK3 := am hbox; have GE3 := gwz (g := g3) HB hg; replace HB := am (below_step bz hb); clear hb hbox hg; obtain ⟨hcz3, hfz3⟩ := kc1 BK3.out)
    | ((with_reducible refine gate_dst (N := 4) rfl ?_); refine box_event yz (N := 4) yz (cs := #[.slice A1 l1.length c1]) (t := 23) gz ?_; intro g4 hg w2 hbox hb; have BK4 := am hbox; have GE4 := gwz (g := g4) HB hg; replace HB := am (below_step bz hb); replace BK3 := am (blk_below (kz BK3) hb); clear hb hbox hg hcz3 hfz3; obtain ⟨hcz3, hfz3⟩ := kc1 BK3.out; obtain ⟨hcz4, hfz4⟩ := kc1 BK4.out)
    | ((with_reducible refine gate_dst (N := 5) rfl ?_); refine box_event yz (N := 5) yz (cs := #[.slice A2 l2.length c2]) (t := 24) gz ?_; intro g5 hg w3 hbox hb; have BK5 := am hbox; have GE5 := gwz (g := g5) HB hg; replace HB := am (below_step bz hb); replace BK3 := am (blk_below (kz BK3) hb); replace BK4 := am (blk_below (kz BK4) hb); clear hb hbox hg hcz3 hfz3 hcz4 hfz4; obtain ⟨hcz3, hfz3⟩ := kc1 BK3.out; obtain ⟨hcz4, hfz4⟩ := kc1 BK4.out; obtain ⟨hcz5, hfz5⟩ := kc1 BK5.out)
    | (go_at_call 14; (with_reducible refine (collide_Check.calls k _ _ l0 _ _ l1 _ _ l2 0 _ ?side1 ?side2 ?side3 ?side4 ?side5 ?side6 A.out).mono ?_); (case side1 => exact cz HR0); (case side2 => exact HC0.out); (case side3 => exact cz HR1); (case side4 => exact HC1.out); (case side5 => exact cz HR2); (case side6 => exact HC2.out); rintro _ w4 ⟨rfl, hb⟩; replace BK3 := am (blk_below (kz BK3) hb); replace BK4 := am (blk_below (kz BK4) hb); replace BK5 := am (blk_below (kz BK5) hb); replace HB := am (below_step bz hb); clear hb hcz3 hfz3 hcz4 hfz4 hcz5 hfz5; obtain ⟨hcz3, hfz3⟩ := kc1 BK3.out; obtain ⟨hcz4, hfz4⟩ := kc1 BK4.out; obtain ⟨hcz5, hfz5⟩ := kc1 BK5.out)
    | ((with_reducible refine gate_dst (N := 9) rfl ?_); refine box_event yz (N := 9) yz (cs := #[.slice none 0 0]) (t := 33) gz ?_; intro g9 hg w5 hbox hb; have BK9 := am hbox; have GE9 := gwz (g := g9) HB hg; have N3 := nlt (g' := g9) BK3 hg; have N4 := nlt (g' := g9) BK4 hg; have N5 := nlt (g' := g9) BK5 hg; replace HB := am (below_step bz hb); replace BK3 := am (blk_below (kz BK3) hb); replace BK4 := am (blk_below (kz BK4) hb); replace BK5 := am (blk_below (kz BK5) hb); clear hb hbox hg hcz3 hfz3 hcz4 hfz4 hcz5 hfz5; obtain ⟨hcz3, hfz3⟩ := kc1 BK3.out; obtain ⟨hcz4, hfz4⟩ := kc1 BK4.out; obtain ⟨hcz5, hfz5⟩ := kc1 BK5.out; obtain ⟨hcz9, hfz9⟩ := kc1 BK9.out)
    | (go_at_call 31; refine (collide_pairs.gives _ _).mono ?_; rintro _ w6 ⟨rfl, hw6⟩))
  clear hcz3 hfz3 hcz4 hfz4 hcz5 hfz5 hcz9 hfz9
  have b9 : Boxed w6 g9 33 (.slice none 0 0) := by rw [hw6]; exact (show Boxed w5 g9 _ _ from BK9.out).alloc _
  have b3 : Boxed w6 g3 22 (.slice A0 l0.length c0) := by rw [hw6]; exact (show Boxed w5 g3 _ _ from BK3.out).alloc _
  have b4 : Boxed w6 g4 23 (.slice A1 l1.length c1) := by rw [hw6]; exact (show Boxed w5 g4 _ _ from BK4.out).alloc _
  have b5 : Boxed w6 g5 24 (.slice A2 l2.length c2) := by rw [hw6]; exact (show Boxed w5 g5 _ _ from BK5.out).alloc _
  have bn : Boxed w6 w5.heap.size 3 (.int .i64 (l0.length : Int)) := by
    rw [hw6]
    have := Boxed.new w5 3 (.int .i64 (l0.length : Int))
    simpa using this
  have hb6 : Below w.heap.size w w6 := by rw [hw6]; exact HB.out.alloc HB.out.size _
  have h09 := GE9.out
  have hn59 : w5.heap.size ≠ g9 := by have := blk_lt BK9.out; omega
  rw [← hw6]
  have HW6 := am (show w5.heap.size ≤ w6.heap.size by rw [hw6]; simp)
  clear hw6 HB BK3 BK4 BK5 BK9
  refine (wpIn_wide (n := 9)).1 ?_
  refine wpIn_rangeFunc_ownH rfl (by omega) (gf := 50) (lb := #[.pointer (some ⟨w5.heap.size, 0, none⟩)]) rfl trivial (Go.Proofs.enters_of Try.func50 qz rfl)
    (collide_pairs.stopsK (collide_pairs.enc l0.length) collide_pairs.mk (collide_pairs.kp w5.heap.size) (fun _ _ h => h) collide_pairs.kp_t 8 w5.heap.size l0.length (by omega) (collide_pairs.enc_of l0.length) (fun _ _ h => h) w6 bn.lt bn.cell) collide_pairs.kp_t collide_pairs.kp_b (Below.refl _ _) (fun _ => rfl)
    (fun pre W => ((((Boxed W g3 22 (.slice A0 l0.length c0) ∧ Boxed W g4 23 (.slice A1 l1.length c1)) ∧ Boxed W g5 24 (.slice A2 l2.length c2)) ∧ Boxed W w5.heap.size 3 (.int .i64 (l0.length : Int))) ∧ (∃ v, Boxed W g9 33 v ∧ W.ownsRow w.heap.size 30 3 v (collide_All.acc l0.length D pre).length (collide_All.cells (collide_All.acc l0.length D pre)) ∧ collide_All.any pre v)) ∧ Below w.heap.size w W)
    (fun _ _ _ => False)
    (OwnFrom.and (OwnFrom.and (OwnFrom.and (OwnFrom.and (OwnFrom.and (Own.from (boxed_own g3 22 (fun _ => .slice A0 l0.length c0)) _) (Own.from (boxed_own g4 23 (fun _ => .slice A1 l1.length c1)) _)) (Own.from (boxed_own g5 24 (fun _ => .slice A2 l2.length c2)) _)) (Own.from (boxed_own w5.heap.size 3 (fun _ => .int .i64 (l0.length : Int))) _)) (Own.from (holdsRow_own w.heap.size g9 33 30 3 (fun pre : List (Nat × Nat) => (collide_All.acc l0.length D pre).length) (fun pre => collide_All.cells (collide_All.acc l0.length D pre)) collide_All.any) _)) (ownFrom_below (Nat.le_refl _) hb6.size))
    (fun _ => fun _ _ _ _ h _ _ => h.elim)
    ⟨⟨⟨⟨⟨b3, b4⟩, b5⟩, bn⟩, _, b9, World.ownsRow_nil _ _ _ _, True.intro⟩, hb6⟩
    (fun q a' W => a' = { tmps := #[.slice A0 l0.length c0, .slice A1 l1.length c1, .slice A2 l2.length c2, .pointer (some ⟨g3, 0, none⟩), .pointer (some ⟨g4, 0, none⟩), .pointer (some ⟨g5, 0, none⟩), .slice none 0 0, .int .i64 0, .int .i64 0, .pointer (some ⟨g9, 0, none⟩), (.int .i64 ((collide_pairs.cl l0.length q).1 : Int)), (.int .i64 ((collide_pairs.cl l0.length q).2 : Int)), undef, .slice A0 l0.length c0, .slice A1 l1.length c1, .slice A2 l2.length c2, .int .i64 0, .int .i64 0, .bool false, undef, .slice A0 l0.length c0, .int .i64 (l0.length : Int), .func (.func 50) #[] #[.pointer (some ⟨w5.heap.size, 0, none⟩)], (.int .i64 ((collide_pairs.cl l0.length q).1 : Int)), (.int .i64 ((collide_pairs.cl l0.length q).2 : Int)), undef, undef, undef, undef, undef, undef, undef, undef, undef, undef, undef, undef, undef, undef, undef, undef, undef, undef, undef, undef, undef], defers := [] })
    ?hAx ?assign ?body ?done ?stop
  case hAx => exact fun _ _ _ _ _ _ h _ _ => h
  case assign =>
    intro l' pre q W K hI hK
    unfold collide_pairs.enc
    gi_wp2
    exact hK _ _ (KeepsFrom.refl _ _) (fun _ h => h) hI rfl
  case body => 
    rintro l' pre q a' W hl' hrec ⟨⟨⟨⟨⟨i3, i4⟩, i5⟩, i6⟩, v, hv, hrow, _⟩, hBW⟩ rfl hlen
    have h2n := collide_pairs.two_of hlen
    obtain ⟨hab, hbn⟩ := collide_pairs.cl_lt h2n q
    have hDq := hD.out (collide_pairs.cl l0.length q) ⟨hab, hbn⟩
    have HJ := am (show collide_All.acc l0.length D (pre ++ [q]) = collide_All.acc l0.length D pre ++ D (collide_pairs.cl l0.length q) from collide_All.acc_snoc _ _ _ _)
    have HL : (collide_All.acc l0.length D pre).length ≤ 4096 := by
      unfold collide_All.acc
      refine Nat.le_trans (collide_All.flat_length _ (fun x hx => ?_)) ?_
      · obtain ⟨p, hp, rfl⟩ := List.mem_map.1 hx
        obtain ⟨p', _, rfl⟩ := List.mem_map.1 hp
        exact collide_All.hits_length (hD.out _ (collide_pairs.cl_lt h2n p'))
      · have h1 := collide_All.rows_length collide_pairs.mk l0.length l0.length
        have h2 : l0.length * l0.length ≤ 64 * 64 := Nat.mul_le_mul hm hm
        rw [List.length_map, List.length_map]
        unfold collide_pairs.prs at hlen
        omega
    obtain ⟨⟨a, b⟩, hq⟩ : ∃ p, collide_pairs.cl l0.length q = p := ⟨_, rfl⟩
    rw [hq] at hab hbn hDq HJ
    rw [hq]
    dsimp only at hab hbn hDq ⊢
    obtain ⟨acc, hacc⟩ : ∃ z, collide_All.acc l0.length D pre = z := ⟨_, rfl⟩
    rw [hacc] at hrow HJ HL
    obtain ⟨dd, hdd⟩ : ∃ z, D (a, b) = z := ⟨_, rfl⟩
    rw [hdd] at hDq HJ
    have HR0w := am (Kd.C_below HR0.out hBW)
    have HR1w := am (Kd.C_below HR1.out hBW)
    have HR2w := am (Kd.C_below HR2.out hBW)
    have hnW : w.heap.size ≤ W.heap.size := hBW.size
    have k3 := i3.cell
    have k4 := i4.cell
    have k5 := i5.cell
    have I3 := am i3
    have I4 := am i4
    have I5 := am i5
    have I6 := am i6
    have HV := am hv
    have HROW := am hrow
    have HBW := am hBW
    have HDQ := am hDq
    have hfn : Fence.wide.fn 32 := trivial
    have hfn2 : Fence.wide.fn 30 := trivial
    have hmx : 5000 ≤ maxLen := by unfold maxLen; omega
    clear i3 i4 i5 i6 hv hrow hBW hDq hrec hq hacc hdd hab hbn
    gi_wp2_with (gi_at_call 30; refine (CallsIn.inRound l' (callsIn_wide.2 (collide_length.calls _ _ l0 nn _ ?side1 ?side2 AL.out))).mono ?_; (case side1 => exact HR0w.out); (case side2 => exact HC0.out); rintro _ W1 ⟨rfl, hb_⟩; have HB1 := am hb_.below; clear hb_)
    gi_loopw [27] (fun i wr => ∃ t : Nat, i = .int .i64 (t : Int) ∧ Aside0 (collide_All.hits k l0 l1 l2 a b (nn.toNat - t) t = some dd) ∧ Aside0 (Below W.heap.size W wr)) (fun i _ => nn.toNat - (intOf i).toNat)
    case atStart => exact ⟨0, rfl, ⟨HDQ.out⟩, ⟨HB1.out⟩⟩
    case round =>
      obtain ⟨t, rfl, HT, HBr⟩ := hrel
      have c3 := cb HBr.out k3
      have c4 := cb HBr.out k4
      have c5 := cb HBr.out k5
      clear k3 k4 k5
      by_cases hlt : (t : Int) < nn
      · obtain ⟨d, hd⟩ : ∃ d, nn.toNat - t = d + 1 := ⟨nn.toNat - t - 1, by omega⟩
        have HT' := HT.out
        rw [hd] at HT'
        obtain ⟨m, hmt, HT'⟩ := Option.bind_eq_some_iff.1 HT'
        have AM := am hmt
        clear hmt HT
        have ht0 : nn.toNat - (t + 1) = d := by omega
        cases m
        · rw [if_neg (by decide)] at HT'
          have HT2 := am HT'
          have Ht0 := am ht0
          clear HT' ht0 hd
          gi_wp2_with (gi_at_call 32; refine (CallsIn.inRound l' (callsIn_wide.2 (collide_meet.calls k _ _ l0 _ _ l1 _ _ l2 (a : Int) (b : Int) (t : Int) false _ ?side1 ?side2 ?side3 ?side4 ?side5 ?side6 AM.out))).mono ?_; (case side1 => exact Kd.C_below HR0w.out HBr.out); (case side2 => exact HC0.out); (case side3 => exact Kd.C_below HR1w.out HBr.out); (case side4 => exact HC1.out); (case side5 => exact Kd.C_below HR2w.out HBr.out); (case side6 => exact HC2.out); rintro _ W2 ⟨rfl, hb⟩; have HB2 := am (HBr.out.trans (hb.mono HBr.out.size)); clear hb c3 c4 c5)
          go_roundw
          case rel => exact ⟨t + 1, by go_num, ⟨by rw [Ht0.out]; exact HT2.out⟩, HB2⟩
          case measure => have := Ht0.out; simp [intOf]; omega
        · rw [if_pos rfl] at HT'
          have HJ2 := am (show collide_All.acc l0.length D (pre ++ [q]) = acc ++ [⟨(t : Int), (a : Int), (b : Int)⟩] by rw [HJ.out, Option.some.inj HT'])
          clear HT' ht0 hd HJ
          gi_wp2_with (first
            | (gi_at_call 32; refine (CallsIn.inRound l' (callsIn_wide.2 (collide_meet.calls k _ _ l0 _ _ l1 _ _ l2 (a : Int) (b : Int) (t : Int) true _ ?side1 ?side2 ?side3 ?side4 ?side5 ?side6 AM.out))).mono ?_; (case side1 => exact Kd.C_below HR0w.out HBr.out); (case side2 => exact HC0.out); (case side3 => exact Kd.C_below HR1w.out HBr.out); (case side4 => exact HC1.out); (case side5 => exact Kd.C_below HR2w.out HBr.out); (case side6 => exact HC2.out); rintro _ W2 ⟨rfl, hb⟩; have HB2 := am (HBr.out.trans (hb.mono HBr.out.size)); have JV := am (show Boxed W2 g9 33 v from blk_below HV.out HB2.out); have JR := am (collide_All.own_bel HROW.out HB2.out); have HS := am (Nat.le_trans hnW HB2.out.size); have cO : W2.cell? ⟨g9, 0, none⟩ = some v := JV.out.cell; have cOf : W2.frozen? ⟨g9, 0, none⟩ = false := JV.out.frozen; clear hb c3 c4 c5)
            | (gi_at_builtin; refine wpListIn_append_own _ rfl _ _ 33 rfl w.heap.size 30 i0 _ 3 24 Try.underlying33 hi hz0 hz1 hz2 rfl (by decide) _ _ _ rfl (JR.out.alloc _) ⟨(W2).heap.size, 0, none⟩ 1 1 [.int .i64 (t : Int), .int .i64 (a : Int), .int .i64 (b : Int)] rfl rfl (collide_All.new3 _ _ _ _ _ _ (by simp)) (by simp [Value.oneCell']) (Nat.le_trans (by omega) hmx) (by omega) (Nat.le_trans HS.out (by simp)) ?_; intro v' W3 hown' hgrow _; obtain ⟨gp, cp, rfl⟩ := ownsRow_succ hown'; obtain ⟨hv1, hv2, hr2, hk2, hb2⟩ := JV.out.appended (by decide) JR.out HS.out h09 hown' hgrow; have HOW := am hown'; have HGR := am hgrow; have HV2 := am hv2; have HR2' := am hr2; have HK2 := am hk2; have HBb := am hb2; have cP := hv1.cell; have cPf := hv1.frozen; clear hown' hgrow hv1 hv2 hr2 hk2 hb2 cO cOf))
          have F3 := collide_All.app_other (gO := g9) (v' := .slice (some ⟨gp, 0, none⟩) (acc.length + 1) cp) JR.out HGR.out (show Boxed W2 g3 _ _ from blk_below I3.out HB2.out) (by decide) N3.out
          have F4 := collide_All.app_other (gO := g9) (v' := .slice (some ⟨gp, 0, none⟩) (acc.length + 1) cp) JR.out HGR.out (show Boxed W2 g4 _ _ from blk_below I4.out HB2.out) (by decide) N4.out
          have F5 := collide_All.app_other (gO := g9) (v' := .slice (some ⟨gp, 0, none⟩) (acc.length + 1) cp) JR.out HGR.out (show Boxed W2 g5 _ _ from blk_below I5.out HB2.out) (by decide) N5.out
          have F6 := collide_All.app_other (gO := g9) (v' := .slice (some ⟨gp, 0, none⟩) (acc.length + 1) cp) JR.out HGR.out (show Boxed W2 w5.heap.size _ _ from blk_below I6.out HB2.out) (by decide) hn59
          exact ⟨((collide_pairs.keeps_bel HB2.out).trans HK2.out).from _, collide_All.kp_box I6.out F6, ⟨⟨⟨⟨F3, F4⟩, F5⟩, F6⟩, _, HV2.out, by rw [HJ2.out, collide_All.cells_append, List.length_append]; exact HR2'.out, True.intro⟩, HBW.out.trans ((HB2.out.mono hnW).trans HBb.out)⟩
      · have hd : nn.toNat - t = 0 := by omega
        have HT' := HT.out
        rw [hd] at HT'
        have HJ2 := am (show collide_All.acc l0.length D (pre ++ [q]) = acc by rw [HJ.out, ← Option.some.inj HT']; exact List.append_nil _)
        clear HT' hd HT HJ
        gi_wp2
        exact ⟨(collide_pairs.keeps_bel HBr.out).from _, collide_pairs.kp_below HBr.out, ⟨⟨⟨⟨blk_below I3.out HBr.out, blk_below I4.out HBr.out⟩, blk_below I5.out HBr.out⟩, blk_below I6.out HBr.out⟩, v, blk_below HV.out HBr.out, by rw [HJ2.out]; exact collide_All.own_bel HROW.out HBr.out, True.intro⟩, HBW.out.trans (HBr.out.mono hnW)⟩
  case done => 
    rintro Dd ys W hDd rfl ⟨⟨⟨⟨⟨i3, i4⟩, i5⟩, i6⟩, v, hv, hrow, _⟩, hBW⟩ hK
    unfold collide_All.acc at hrow
    rw [collide_pairs.cl_id l0.length (collide_pairs.prs collide_pairs.mk l0.length) (fun p hp => collide_pairs.prs_mem hp)] at hrow
    obtain ⟨Aa, cp, rfl⟩ := collide_All.own_slice hrow
    have cO := hv.cell
    have HK0 := am hK
    have HROW := am hrow
    have HBW := am hBW
    clear hK hrow hBW i3 i4 i5 i6 hv
    obtain ⟨rr, hrr⟩ : ∃ z, ((collide_pairs.prs collide_pairs.mk l0.length).map D).flatten = z := ⟨_, rfl⟩
    rw [hrr] at cO HROW
    have HRR := am hrr
    clear hrr
    go_wp2
    (try rw [Exit.noGoto_ret])
    refine ⟨by simp, .inl ⟨_, _, rfl, run_takeDeferred HK0.out, ?_⟩⟩
    refine ⟨.tuple #[.slice Aa rr.length cp, .int .i64 0], by simp [results, Try.f16, go_sem], ⟨.slice Aa rr.length cp, rfl, ?_, ?_⟩⟩
    · rw [HRR.out]
      exact collide_All.own_R (ownsRow_putObj HROW.out _ HK0.out rfl)
    · exact HBW.out.trans (belowK_b (w := w6) hb6.size _ Dd _ _ hDd HK0.out rfl rfl)
  case stop => exact fun _ _ _ _ _ _ h _ => h.elim
end
theorem collide_All.calls (k : Nat) (A0 : Option Addr) (c0 : Nat) (l0 : List S43) (A1 : Option Addr) (c1 : Nat) (l1 : List Int) (A2 : Option Addr) (c2 : Nat) (l2 : List S62) (r1 : List S30) (r2 : Int) (w : World) (hr0 : Kd.C k43 w A0 l0.length l0) (hc0 : l0.length ≤ c0) (hr1 : Kd.C (Kd.int .i64) w A1 l1.length l1) (hc1 : l1.length ≤ c1) (hr2 : Kd.C k62 w A2 l2.length l2) (hc2 : l2.length ≤ c2) (h : collide_All.f k l0 l1 l2 = some (r1, r2)) :
    Calls Try.prog 16 #[.slice A0 l0.length c0, .slice A1 l1.length c1, .slice A2 l2.length c2] w fun e w' => ∃ v0_ : Value, e = .returned (.tuple #[v0_, .int .i64 r2]) ∧ Kd.R k30 30 w' w.heap.size (fun _ => True) v0_ r1 ∧ Below w.heap.size w w' := by
  unfold collide_All.f at h
  obtain ⟨e, he, h⟩ := Option.bind_eq_some_iff.1 h
  by_cases ez : e = 0
  · subst ez
    rw [if_pos rfl] at h
    obtain ⟨nn, hn, h⟩ := Option.bind_eq_some_iff.1 h
    by_cases hm : l0.length ≤ 64 ∧ nn ≤ 1000000
    · rw [if_pos hm] at h
      obtain ⟨d, hd, h⟩ := Option.bind_eq_some_iff.1 h
      cases h
      rw [collide_pairs.all_get hd []]
      exact collide_All.leaf1 k A0 c0 l0 A1 c1 l1 A2 c2 l2 w ⟨hr0⟩ hc0 ⟨hr1⟩ hc1 ⟨hr2⟩ hc2 ⟨he⟩ ⟨hn⟩ hm.1 hm.2 _ ⟨fun p hp => by
        obtain ⟨y, hy⟩ := collide_pairs.all_at hd p (collide_pairs.mem_prs hp.1 hp.2)
        rw [hy]
        rfl⟩
    · rw [if_neg hm] at h
      cases h
  · rw [if_neg ez] at h
    cases h
    exact (collide_All.leaf0 k A0 c0 l0 A1 c1 l1 A2 c2 l2 r2 w ⟨hr0⟩ hc0 ⟨hr1⟩ hc1 ⟨hr2⟩ hc2 ⟨he⟩ (by simpa using ez) (by simpa using ez)).mono fun x w' hx => ⟨_, hx.1, Kd.R_nil _ _ _ _ _, hx.2⟩

end Go.Proofs.Yteflngoiebgdaaa.X
